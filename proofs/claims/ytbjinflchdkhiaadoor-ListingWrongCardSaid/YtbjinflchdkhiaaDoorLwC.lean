/- A machine that runs the given program with memory and order of evaluation taken apart, and what it shows of the law ListingWrong: part 3. -/
import Derived.WideKeyArgs
import Derived.Carry
import Derived.ChangeArms
import Derived.HandedShaped
import Derived.Shelf.Strconv.Itoa3
import Derived.Shelf.Strconv.RangeError
import Derived.Shelf.Strconv.SyntaxError
import Derived.Test.YtbjinflchdkhiaaDoorProg
import Derived.KernelRfl
import Derived.MakeChecks
import Derived.Lib.LaidTab
import Derived.Test.YtbjinflchdkhiaaDoorRows
import Derived.OpenShut
import Derived.ProofKit
import Derived.Test.YtbjinflchdkhiaaDoorLwB
set_option linter.unusedSimpArgs false
set_option linter.unusedVariables false
set_option linter.unusedSectionVars false
namespace Nm
open Go Go.RowKit
def Le (a b:Option D4->NC->Dyn->Res):Prop:=∀r c d o d',a r c d= .mk o d'->b r c d= .mk o d'
section
variable {P:Program} {S:bn} {a b:Option D4->NC->Dyn->Res}
theorem dz {F G:Nat->List NV->Option NV->NH->CR} (h:∀f l p m r,F f l p m=r->r≠.fail->G f l p m=r) {K:Option NV->NH->CR}:∀(l:List Dfr) (p:Option NV) (m:NH) (r:CR),unwind F K l p m=r->r≠.fail->unwind G K l p m=r:=by
 intro l
 induction l with
 |nil=>exact fun p m r e _=>e
 |cons c l ih=>
  intro p m r e hr
  rw[gA] at e ⊢
  cases c with
  |mark id=>
   dsimp only at e ⊢
   split at e
   ·exact ih _ _ _ e hr
   ·exact xR e.symm hr
  |call f cap=>
   dsimp only at e ⊢
   cases hf:F f cap p m with
   |fail=>rw[hf] at e;exact xR e.symm hr
   |pan v x m'=>rw[hf] at e;exact xR e.symm hr
   |val v x m'=>
    rw[hf] at e
    rw[h f cap p m _ hf (by simp)]
    exact ih _ _ _ e hr
theorem mE (h:Le a b):∀(d f:Nat) (l:List NV) (p:Option NV) (m:NH) (r:CR),bA P a d f l p m=r->r≠.fail->bA P b d f l p m=r:=by
 intro d
 induction d with
 |zero=>intro f l p m r e hr;exact xR e.symm hr
 |succ d ih=>
  intro f l p m r e hr
  rw[eS] at e ⊢
  cases hc:aj P f with
  |none=>rw[hc] at e;exact xR e.symm hr
  |some x=>
   cases x with
   |ext x=>rw[hc] at e;exact xR e.symm hr
   |code nf=>
    rw[hc] at e
    dsimp only at e ⊢
    cases ha:a none nf.body ⟨dq l 0 .leaf, [],p,m⟩ with
    |fail=>rw[ha] at e;exact xR e.symm hr
    |mk o d'=>
     rw[ha] at e
     rw[h _ _ _ _ _ ha]
     cases o with
     |norm=>exact dz (fun f l p m r=>ih f l p m r) _ _ _ _ e hr
     |ret=>exact dz (fun f l p m r=>ih f l p m r) _ _ _ _ e hr
     |pan v=>exact dz (fun f l p m r=>ih f l p m r) _ _ _ _ e hr
     |exit id=>exact xR e.symm hr
theorem cr (h:Le a b) {f:Nat} {l:List NV} {m:NH} {r:CR} (e:bg P S a f l m=r) (hr:r≠.fail):bg P S b f l m=r:=by
 unfold bg at e ⊢
 cases hs:S f l m with
 |some v=>rw[hs] at e;exact e
 |none=>
  rw[hs] at e
  dsimp only at e ⊢
  cases hc:aj P f with
  |none=>rw[hc] at e;exact e
  |some x=>
   rw[hc] at e
   cases x with
   |ext x=>exact e
   |code nf=>exact mE h _ _ _ _ _ _ e hr
theorem hW (h:Le a b) {l:D4} {bd:NC} {t:Tm} {m:NH} {r:CR} (e:bk a l bd t m=r) (hr:r≠.fail):bk b l bd t m=r:=by
 unfold bk at e ⊢
 split at e
 ·rename_i p tm ps assign body hm
  rw[NH.set_eq] at e ⊢
  cases ha:a (some l) bd ⟨t, [],none,m.put l (.loop 1 p tm ps assign body)⟩ with
  |fail=>rw[ha] at e;exact xR e.symm hr
  |mk o d=>rw[ha] at e;rw[h _ _ _ _ _ ha];exact e
 ·exact xR e.symm hr
theorem mw (h:Le a b) {l:D4} {args:List NV} {m:NH} {r:CR} (e:round a l args m=r) (hr:r≠.fail):round b l args m=r:=by
 unfold round at e ⊢
 split at e
 ·rename_i x tm ps assign body hm
  obtain ⟨h1,h2⟩:=gH hr e
  have key:∀K:Tm->CR,bP .fail ps args tm K=K (jS ps args tm):=by
   clear e h2 hm
   intro K
   induction ps generalizing args tm with
   |nil=>cases args with
    |nil=>rfl
    |cons=>simp at h1
   |cons q ps ih=>
    cases args with
    |nil=>simp at h1
    |cons v vs=>
     have e:bP .fail (q::ps) (v::vs) tm K=NT.set q v tm fun t=>bP .fail ps vs t K:=rfl
     rw[e,NT.set_eq]
     exact ih _ (by simpa using h1)
  rw[key]
  cases ha:a (some l) assign ⟨jS ps args tm, [],none,m⟩ with
  |fail=>rw[ha] at h2;exact xR h2.symm hr
  |mk o d=>
   rw[ha] at h2
   rw[h _ _ _ _ _ ha]
   cases o with
   |norm=>
    dsimp only at h2 ⊢
    split at h2
    ·exact hW h h2 hr
    ·exact xR h2.symm hr
   |_=>exact xR h2.symm hr
 ·exact xR e.symm hr
theorem g9 (h:Le a b) {rnd:Option D4} {dfs:List Dfr} {ctx:Option NV} {m:NH} {x:NR} {r:OpO} (e:bQ P S a rnd dfs ctx m x=r) (hr:r≠.fail):bQ P S b rnd dfs ctx m x=r:=by
 cases x with
 |call f l=>
  have e':pG dfs ctx (bg P S a f l m)=r:=e
  have hn:bg P S a f l m≠.fail:=fun hh=>by rw[hh] at e';exact hr e'.symm
  show pG dfs ctx (bg P S b f l m)=r
  rw[cr h rfl hn];exact e'
 |yld l args=>
  have e':pG dfs ctx (round a l args m)=r:=e
  have hn:round a l args m≠.fail:=fun hh=>by rw[hh] at e';exact hr e'.symm
  show pG dfs ctx (round b l args m)=r
  rw[mw h rfl hn];exact e'
 |_=>exact e
theorem rh {dst:Option D4} {K L:Dyn->Res} (hk:∀d o d',K d= .mk o d'->L d= .mk o d') {t:Tm} {dfs:List Dfr} {ctx:Option NV} {x:OpO} {o:Out} {d':Dyn} (e:ri dst K t dfs ctx x= .mk o d'):ri dst L t dfs ctx x= .mk o d':=by
 cases x with
 |fail=>cases e
 |next v dfs ctx h=>exact hk _ _ _ e
 |pan v h=>exact e
theorem uD {dst:Option D4} {K:Dyn->Res} {t:Tm} {dfs:List Dfr} {ctx:Option NV} {x:OpO} {o:Out} {d':Dyn} (e:ri dst K t dfs ctx x= .mk o d'):x≠.fail:=by
 rintro rfl;cases e
theorem gq (h:Le a b) {rnd:Option D4}:∀(l:List NOper) (d:Dyn) (o:Out) (d':Dyn),bG P S a rnd l d= .mk o d'->bG P S b rnd l d= .mk o d':=by
 intro l
 induction l with
 |nil=>exact fun d o d' e=>e
 |cons x l ih=>
  rintro ⟨t,dfs,ctx,m⟩ o d' e
  rw[bI] at e ⊢
  cases hg:aw t x.guard with
  |none=>rw[hg] at e;cases e
  |some on=>
   rw[hg] at e
   cases on with
   |false=>exact ih _ _ _ e
   |true=>
    dsimp only at e ⊢
    rw[g9 h rfl (uD e)]
    exact rh ih e
theorem ju (h:Le a b) {rnd:Option D4}:∀(l:List NOper) (hs:List (Nat×NH)) (rs:List (Nat×(NH->NR)×NV)) (d:Dyn) (o:Out) (d':Dyn),a6 P S a rnd l hs rs d= .mk o d'->a6 P S b rnd l hs rs d= .mk o d':=by
 intro l
 induction l with
 |nil=>exact fun hs rs d o d' e=>e
 |cons x l ih=>
  rintro hs rs ⟨t,dfs,ctx,m⟩ o d' e
  rw[bK] at e ⊢
  cases hg:aw t x.guard with
  |none=>rw[hg] at e;cases e
  |some on=>
   rw[hg] at e
   cases on with
   |false=>exact ih _ _ _ _ _ e
   |true=>
    dsimp only at e ⊢
    cases hcl:ak x.op with
    |pure=>
     rw[hcl] at e
     dsimp only at e ⊢
     cases hop:ab x.op t m<;>rw[hop] at e<;>first|exact ih _ _ _ _ _ e|cases e
    |alloc=>
     rw[hcl] at e
     dsimp only at e ⊢
     cases ha:ahead x.pre hs with
     |false=>rw[ha] at e;cases e
     |true=>
      rw[ha] at e
      simp only[cond_true] at e ⊢
      cases hop:ab x.op t m<;>rw[hop] at e<;>first|exact ih _ _ _ _ _ e|cases e
    |read=>
     rw[hcl] at e
     dsimp only at e ⊢
     cases hop:ab x.op t m with
     |val v=>
      rw[hop] at e
      dsimp only at e ⊢
      cases hst:dM x.pre (ab x.op t) v hs with
      |false=>rw[hst] at e;cases e
      |true=>rw[hst] at e;exact ih _ _ _ _ _ e
     |_=>rw[hop] at e;cases e
    |eff=>
     rw[hcl] at e
     dsimp only at e ⊢
     cases ha:ahead x.pre hs with
     |false=>rw[ha] at e;cases e
     |true=>
      rw[ha] at e
      simp only[cond_true] at e ⊢
      have hk:∀d o d',cond (a8 x.pre d.h rs) (a6 P S a rnd l ((x.idx,m)::hs) rs d) .fail= .mk o d'->cond (a8 x.pre d.h rs) (a6 P S b rnd l ((x.idx,m)::hs) rs d) .fail= .mk o d':=by
       intro d o d' e
       cases hs':a8 x.pre d.h rs with
       |false=>rw[hs'] at e;cases e
       |true=>rw[hs'] at e;exact ih _ _ _ _ _ e
      have hne:bQ P S a rnd dfs ctx m (ab x.op t m)≠.fail:=by
       intro hh
       rw[hh] at e
       cases e
      rw[g9 h rfl hne]
      cases hoo:bQ P S a rnd dfs ctx m (ab x.op t m) with
      |fail=>exact xR hoo hne
      |pan v m'=>rw[hoo] at e;exact e
      |next v dfs1 ctx1 m'=>
       rw[hoo] at e
       have e':cj (bN x.idx l) (cond (a8 x.pre m' rs) (a6 P S a rnd l ((x.idx,m)::hs) rs ⟨aM x.dst v t,dfs1,ctx1,m'⟩) .fail)= .mk o d':=e
       show cj (bN x.idx l) (cond (a8 x.pre m' rs) (a6 P S b rnd l ((x.idx,m)::hs) rs ⟨aM x.dst v t,dfs1,ctx1,m'⟩) .fail)= .mk o d'
       cases hin:cond (a8 x.pre m' rs) (a6 P S a rnd l ((x.idx,m)::hs) rs ⟨aM x.dst v t,dfs1,ctx1,m'⟩) .fail with
       |fail=>rw[hin] at e';cases e'
       |mk o2 d2=>
        have:=hk ⟨aM x.dst v t,dfs1,ctx1,m'⟩ o2 d2 hin
        rw[hin] at e'
        rw[show cond (a8 x.pre m' rs) (a6 P S b rnd l ((x.idx,m)::hs) rs ⟨aM x.dst v t,dfs1,ctx1,m'⟩) .fail= .mk o2 d2 from this]
        exact e'
theorem fh (h:Le a b) {f:Nat} {cap:List NV} {ps:List D4} {x y:NC} {t:Tm} {dfs:List Dfr} {ctx:Option NV} {m:NH} {o:Out} {d':Dyn} (e:bm P S a f cap ps x y t dfs ctx m= .mk o d'):bm P S b f cap ps x y t dfs ctx m= .mk o d':=by
 unfold bm at e ⊢
 rw[NH.new_eq] at e ⊢
 cases hc:bg P S a f (.yld m.next::cap) (m.add (.loop 0 .none t ps x y)) with
 |fail=>rw[hc] at e;cases e
 |val v c m'=>rw[hc] at e;rw[cr h hc (by simp)];exact e
 |pan v c m'=>rw[hc] at e;rw[cr h hc (by simp)];exact e
theorem nt (h:Le a b):Le (hZ P S a) (hZ P S b):=by
 intro r c d o d' e
 cases c with
 |skip=>exact e
 |reg l=>exact gq h _ _ _ _ e
 |regD l=>
  have e':(match a6 P S a r l [] [] d with| .mk (.pan v) d=>Res.mk (.pan v) ⟨jx l d.t,d.dfs,d.ctx,d.h⟩|r=>r)= .mk o d':=e
  show (match a6 P S b r l [] [] d with| .mk (.pan v) d=>Res.mk (.pan v) ⟨jx l d.t,d.dfs,d.ctx,d.h⟩|r=>r)= .mk o d'
  cases hr:a6 P S a r l [] [] d with
  |fail=>rw[hr] at e';cases e'
  |mk o2 d2=>rw[hr] at e';rw[ju h _ _ _ _ _ _ hr];exact e'
 |seq x y=>
  have e':(match a r x d with| .mk o d=>(match o with| .norm=>a r y d|o=> .mk o d)| .fail=> .fail)=Res.mk o d':=(mK (cf:=P) (S:=S)).symm.trans e
  refine (mK (cf:=P) (S:=S)).trans ?_
  show (match b r x d with| .mk o d=>(match o with| .norm=>b r y d|o=> .mk o d)| .fail=> .fail)=Res.mk o d'
  cases hx:a r x d with
  |fail=>rw[hx] at e';cases e'
  |mk o2 d2=>
   rw[hx] at e'
   rw[h _ _ _ _ _ hx]
   cases o2 with
   |norm=>exact h _ _ _ _ _ e'
   |_=>exact e'
 |cond g x y=>
  have e':(match ρ d.t g with|some (.bool c)=>(Bool.rec (a r y d) (a r x d) c:Res)|_=> .fail)=Res.mk o d':=(kz (cf:=P) (S:=S)).symm.trans e
  refine (kz (cf:=P) (S:=S)).trans ?_
  show (match ρ d.t g with|some (.bool c)=>(Bool.rec (b r y d) (b r x d) c:Res)|_=> .fail)=Res.mk o d'
  cases hg:ρ d.t g with
  |none=>rw[hg] at e';cases e'
  |some v=>
   rw[hg] at e'
   cases v with
   |bool q=>cases q<;>exact h _ _ _ _ _ e'
   |_=>cases e'
 |block id x=>
  have e':(match a r x d with| .mk o d=>(match o with| .exit i=>cond (Nat.beq i id) (.mk .norm d) (.mk (.exit i) d)|o=> .mk o d)| .fail=> .fail)=Res.mk o d':=(it (cf:=P) (S:=S)).symm.trans e
  refine (it (cf:=P) (S:=S)).trans ?_
  show (match b r x d with| .mk o d=>(match o with| .exit i=>cond (Nat.beq i id) (.mk .norm d) (.mk (.exit i) d)|o=> .mk o d)| .fail=> .fail)=Res.mk o d'
  cases hx:a r x d with
  |fail=>rw[hx] at e';cases e'
  |mk o2 d2=>rw[hx] at e';rw[h _ _ _ _ _ hx];exact e'
 |loop x=>
  have e':(match a r x d with| .mk o d=>(match o with| .norm=>a r (.loop x) d|o=> .mk o d)| .fail=> .fail)=Res.mk o d':=(jQ (cf:=P) (S:=S)).symm.trans e
  refine (jQ (cf:=P) (S:=S)).trans ?_
  show (match b r x d with| .mk o d=>(match o with| .norm=>b r (.loop x) d|o=> .mk o d)| .fail=> .fail)=Res.mk o d'
  cases hx:a r x d with
  |fail=>rw[hx] at e';cases e'
  |mk o2 d2=>
   rw[hx] at e'
   rw[h _ _ _ _ _ hx]
   cases o2 with
   |norm=>exact h _ _ _ _ _ e'
   |_=>exact e'
 |rangeFunc f ps x y=>
  obtain ⟨t,dfs,ctx,m⟩:=d
  have e':(match ρ t f with
   |some (.fn f cap)=>(match (generalizing:=false) r with
    |none=>m.new (.defd true) fun q m=>bm P S a f cap ps x y t (.mark q::dfs) ctx m
    |some l=>(match m.get l with
     |some (.loop ..)=>bm P S a f cap ps x y t dfs ctx m
     |_=> .fail))
   |_=> .fail)=Res.mk o d':=e
  show (match ρ t f with
   |some (.fn f cap)=>(match (generalizing:=false) r with
    |none=>m.new (.defd true) fun q m=>bm P S b f cap ps x y t (.mark q::dfs) ctx m
    |some l=>(match m.get l with
     |some (.loop ..)=>bm P S b f cap ps x y t dfs ctx m
     |_=> .fail))
   |_=> .fail)=Res.mk o d'
  cases hf:ρ t f with
  |none=>rw[hf] at e';cases e'
  |some v=>
   rw[hf] at e'
   cases v with
   |fn f cap=>
    dsimp only at e' ⊢
    cases r with
    |none=>
     dsimp only at e' ⊢
     rw[NH.new_eq] at e' ⊢
     exact fh h e'
    |some l=>
     dsimp only at e' ⊢
     split at e'
     ·exact fh h e'
     ·cases e'
   |_=>cases e'
 |exit id=>exact e
 |ret=>exact e
theorem rQ:∀n,Le (ev P S n) (ev P S (n+1)):=by
 intro n
 induction n with
 |zero=>intro r c d o d' e;cases e
 |succ n ih=>exact nt ih
theorem bY {n m:Nat} (hnm:n<=m):Le (ev P S n) (ev P S m):=by
 induction m with
 |zero=>
  have:n=0:=by omega
  subst this;exact fun _ _ _ _ _ e=>e
 |succ m ih=>
  by_cases h:n=m+1
  ·subst h;exact fun _ _ _ _ _ e=>e
  ·exact fun r c d o d' e=>rQ m r c d o d' (ih (by omega) r c d o d' e)
end
def fK (P:Program) (S:bn) (r:Option D4) (c:NC) (d:Dyn) (o:Out) (d':Dyn):Prop:=∃n,ev P S n r c d= .mk o d'
def Call (P:Program) (S:bn) (f:Nat) (l:List NV) (m:NH) (x:CR):Prop:=x≠.fail/\∃n,bg P S (ev P S n) f l m=x
def pi (P:Program) (S:bn) (r:Option D4) (l:List NOper) (d:Dyn) (o:Out) (d':Dyn):Prop:=∃n,bG P S (ev P S n) r l d= .mk o d'
section
variable {P:Program} {S:bn} {r:Option D4}
theorem fK.skip (d:Dyn):fK P S r .skip d .norm d:=⟨1,rfl⟩
theorem fK.ret (d:Dyn):fK P S r .ret d .ret d:=⟨1,rfl⟩
theorem fK.exit (id:Nat) (d:Dyn):fK P S r (.exit id) d (.exit id) d:=⟨1,rfl⟩
theorem fK.seq {x y:NC} {d d1 d2:Dyn} {o:Out} (hx:fK P S r x d .norm d1) (hy:fK P S r y d1 o d2):fK P S r (.seq x y) d o d2:=by
 obtain ⟨n,hn⟩:=hx
 obtain ⟨m,hm⟩:=hy
 refine ⟨max n m+1, ?_⟩
 refine qt.trans ?_
 show (match ev P S (max n m) r x d with| .mk o d=>(match o with| .norm=>ev P S (max n m) r y d|o=> .mk o d)| .fail=> .fail)=Res.mk o d2
 rw[bY (Nat.le_max_left n m) _ _ _ _ _ hn]
 exact bY (Nat.le_max_right n m) _ _ _ _ _ hm
theorem fK.cond {g:NOpd} {q:Bool} {x y:NC} {d d1:Dyn} {o:Out} (hg:ρ d.t g=some (.bool q)) (h:fK P S r (if q then x else y) d o d1):fK P S r (.cond g x y) d o d1:=by
 obtain ⟨n,hn⟩:=h
 refine ⟨n+1, ?_⟩
 refine n5.trans ?_
 show (match ρ d.t g with|some (.bool c)=>(Bool.rec (ev P S n r y d) (ev P S n r x d) c:Res)|_=> .fail)=Res.mk o d1
 rw[hg]
 cases q<;>exact hn
theorem fK.block {id:Nat} {x:NC} {d d1:Dyn} {o:Out} (h:fK P S r x d o d1):fK P S r (.block id x) d (match o with| .exit i=>_root_.cond (Nat.beq i id) .norm (.exit i)|o=>o) d1:=by
 obtain ⟨n,hn⟩:=h
 refine ⟨n+1, ?_⟩
 refine lD.trans ?_
 show (match ev P S n r x d with| .mk o d=>(match o with| .exit i=>_root_.cond (Nat.beq i id) (Res.mk .norm d) (Res.mk (.exit i) d)|o=>Res.mk o d)| .fail=>Res.fail)=_
 rw[hn]
 cases o with
 |exit i=>dsimp only;cases Nat.beq i id<;>rfl
 |_=>rfl
theorem fK.loop {x:NC} {d d1 d2:Dyn} {o:Out} (hx:fK P S r x d .norm d1) (hy:fK P S r (.loop x) d1 o d2):fK P S r (.loop x) d o d2:=by
 obtain ⟨n,hn⟩:=hx
 obtain ⟨m,hm⟩:=hy
 refine ⟨max n m+1, ?_⟩
 refine kv.trans ?_
 show (match ev P S (max n m) r x d with| .mk o d=>(match o with| .norm=>ev P S (max n m) r (.loop x) d|o=> .mk o d)| .fail=> .fail)=Res.mk o d2
 rw[bY (Nat.le_max_left n m) _ _ _ _ _ hn]
 exact bY (Nat.le_max_right n m) _ _ _ _ _ hm
theorem fK.loop_out {x:NC} {d d1:Dyn} {o:Out} (hx:fK P S r x d o d1) (ho:o≠.norm):fK P S r (.loop x) d o d1:=by
 obtain ⟨n,hn⟩:=hx
 refine ⟨n+1, ?_⟩
 refine kv.trans ?_
 show (match ev P S n r x d with| .mk o d=>(match o with| .norm=>ev P S n r (.loop x) d|o=> .mk o d)| .fail=> .fail)=Res.mk o d1
 rw[hn]
 cases o<;>first|rfl|exact xR rfl ho
theorem pi.nil (d:Dyn):pi P S r [] d .norm d:=⟨0,rfl⟩
theorem pi.val {x:NOper} {l:List NOper} {t:Tm} {dfs:List Dfr} {ctx:Option NV} {m:NH} {o:Out} {d1:Dyn} {v:NV} (hg:aw t x.guard=some true) (hop:ab x.op t m= .val v)
 (h:pi P S r l ⟨aM x.dst v t,dfs,ctx,m⟩ o d1):pi P S r (x::l) ⟨t,dfs,ctx,m⟩ o d1:=by
 obtain ⟨n,hn⟩:=h
 refine ⟨n, ?_⟩
 rw[bI,hg,hop]
 exact hn
theorem pi.mem {x:NOper} {l:List NOper} {t:Tm} {dfs:List Dfr} {ctx:Option NV} {m m':NH} {o:Out} {d1:Dyn} {v:NV} (hg:aw t x.guard=some true) (hop:ab x.op t m= .mem v m')
 (h:pi P S r l ⟨aM x.dst v t,dfs,ctx,m'⟩ o d1):pi P S r (x::l) ⟨t,dfs,ctx,m⟩ o d1:=by
 obtain ⟨n,hn⟩:=h
 refine ⟨n, ?_⟩
 rw[bI,hg,hop]
 exact hn
theorem pi.call {x:NOper} {l:List NOper} {t:Tm} {dfs:List Dfr} {ctx:Option NV} {m m':NH} {o:Out} {d1:Dyn} {f:Nat} {args:List NV} {v:NV} {c:Option NV} (hg:aw t x.guard=some true) (hop:ab x.op t m= .call f args)
 (hc:Call P S f args m (.val v c m')) (h:pi P S r l ⟨aM x.dst v t,dfs,ctx,m'⟩ o d1):pi P S r (x::l) ⟨t,dfs,ctx,m⟩ o d1:=by
 obtain ⟨n,hn⟩:=h
 obtain ⟨hne,k,hk⟩:=hc
 refine ⟨max n k, ?_⟩
 rw[bI,hg,hop]
 show ri x.dst (bG P S (ev P S (max n k)) r l) t dfs ctx (pG dfs ctx (bg P S (ev P S (max n k)) f args m))=_
 rw[cr (bY (Nat.le_max_right n k)) hk hne]
 exact gq (bY (Nat.le_max_left n k)) _ _ _ _ hn
variable [Val] in
end
end Nm
namespace Nm
open Go Go.RowKit
noncomputable def kK:List (D4×NV)->Tm->Tm
 | [],t=>t
 |p::l,t=>NT.put p.1 p.2 (kK l t)
theorem lS (k:D4):fI k k=true:=by
 induction k with
 |e=>rfl
 |a d ih=>exact ih
 |b d ih=>exact ih
 |c d ih=>exact ih
 |f d ih=>exact ih
def cE (P:Program) (S:bn) (r:Option D4) (l:List NOper) (hs:List (Nat×NH)) (rs:List (Nat×(NH->NR)×NV)) (d:Dyn) (o:Out) (d':Dyn):Prop:=∃n,a6 P S (ev P S n) r l hs rs d= .mk o d'
section
variable {P:Program} {S:bn} {r:Option D4} {x:NOper} {l:List NOper} {hs:List (Nat×NH)} {rs:List (Nat×(NH->NR)×NV)} {t:Tm} {dfs:List Dfr} {ctx:Option NV} {m m':NH} {o:Out} {d d1:Dyn} {v:NV}
theorem cE.nil (d:Dyn):cE P S r [] hs rs d .norm d:=⟨0,rfl⟩
theorem cE.pure (hg:aw t x.guard=some true) (hc:ak x.op= .pure) (hop:ab x.op t m= .val v) (h:cE P S r l hs rs ⟨aM x.dst v t,dfs,ctx,m⟩ o d1):cE P S r (x::l) hs rs ⟨t,dfs,ctx,m⟩ o d1:=by
 obtain ⟨n,hn⟩:=h
 exact ⟨n,by rw[bK,hg];dsimp only;rw[hc];dsimp only;rw[hop];exact hn⟩
theorem cE.alloc (hg:aw t x.guard=some true) (hc:ak x.op= .alloc) (ha:ahead x.pre hs=true) (hop:ab x.op t m= .mem v m') (h:cE P S r l hs rs ⟨aM x.dst v t,dfs,ctx,m'⟩ o d1):cE P S r (x::l) hs rs ⟨t,dfs,ctx,m⟩ o d1:=by
 obtain ⟨n,hn⟩:=h
 exact ⟨n,by rw[bK,hg];dsimp only;rw[hc];dsimp only;rw[ha,hop];exact hn⟩
theorem cE.eff (hg:aw t x.guard=some true) (hc:ak x.op= .eff) (ha:ahead x.pre hs=true) (hop:ab x.op t m= .mem v m') (hst:a8 x.pre m' rs=true)
 (h:cE P S r l ((x.idx,m)::hs) rs ⟨aM x.dst v t,dfs,ctx,m'⟩ .norm d1):cE P S r (x::l) hs rs ⟨t,dfs,ctx,m⟩ .norm d1:=by
 obtain ⟨n,hn⟩:=h
 refine ⟨n, ?_⟩
 rw[bK,hg];dsimp only;rw[hc];dsimp only;rw[ha,hop]
 show cj (bN x.idx l) (cond (a8 x.pre m' rs) (a6 P S (ev P S n) r l ((x.idx,m)::hs) rs ⟨aM x.dst v t,dfs,ctx,m'⟩) .fail)=_
 rw[hst]
 show cj (bN x.idx l) (a6 P S (ev P S n) r l ((x.idx,m)::hs) rs ⟨aM x.dst v t,dfs,ctx,m'⟩)=_
 rw[hn];rfl
theorem cE.call {f:Nat} {args:List NV} {c:Option NV} (hg:aw t x.guard=some true) (hc:ak x.op= .eff) (ha:ahead x.pre hs=true) (hop:ab x.op t m= .call f args) (hcall:Call P S f args m (.val v c m')) (hst:a8 x.pre m' rs=true)
 (h:cE P S r l ((x.idx,m)::hs) rs ⟨aM x.dst v t,dfs,ctx,m'⟩ .norm d1):cE P S r (x::l) hs rs ⟨t,dfs,ctx,m⟩ .norm d1:=by
 obtain ⟨n,hn⟩:=h
 obtain ⟨hne,k,hk⟩:=hcall
 refine ⟨max n k, ?_⟩
 rw[bK,hg];dsimp only;rw[hc];dsimp only;rw[ha,hop]
 show cj (bN x.idx l) (ri x.dst (fun d=>cond (a8 x.pre d.h rs) (a6 P S (ev P S (max n k)) r l ((x.idx,m)::hs) rs d) .fail) t dfs ctx (pG dfs ctx (bg P S (ev P S (max n k)) f args m)))=_
 rw[cr (bY (Nat.le_max_right n k)) hk hne]
 show cj (bN x.idx l) (cond (a8 x.pre m' rs) (a6 P S (ev P S (max n k)) r l ((x.idx,m)::hs) rs ⟨aM x.dst v t,dfs,ctx,m'⟩) .fail)=_
 rw[hst]
 show cj (bN x.idx l) (a6 P S (ev P S (max n k)) r l ((x.idx,m)::hs) rs ⟨aM x.dst v t,dfs,ctx,m'⟩)=_
 rw[ju (bY (Nat.le_max_left n k)) _ _ _ _ _ _ hn];rfl
end
def xd (P:Program) (S:bn) (l:D4) (args:List NV) (m:NH) (x:CR):Prop:=x≠.fail/\∃n,round (ev P S n) l args m=x
section
variable {P:Program} {S:bn} {r:Option D4} {x:NOper} {l:List NOper} {hs:List (Nat×NH)} {rs:List (Nat×(NH->NR)×NV)} {t:Tm} {dfs:List Dfr} {ctx:Option NV} {m m':NH} {o:Out} {d1:Dyn} {v:NV} {q:D4} {args:List NV} {c:Option NV}
end
section
variable {P:Program} {S:bn} {r:Option D4} {x:NOper} {l:List NOper} {hs:List (Nat×NH)} {rs:List (Nat×(NH->NR)×NV)} {L:List (D4×NV)} {t:Tm} {dfs:List Dfr} {ctx:Option NV} {m m':NH} {o:Out} {d1:Dyn} {v:NV} {k:D4}
theorem cE.p (hd:x.dst=some k) (hg:aw (kK L t) x.guard=some true) (hc:ak x.op= .pure) (hop:ab x.op (kK L t) m= .val v) (h:cE P S r l hs rs ⟨kK ((k,v)::L) t,dfs,ctx,m⟩ o d1):cE P S r (x::l) hs rs ⟨kK L t,dfs,ctx,m⟩ o d1:=
 cE.pure hg hc hop (by rw[hd];exact h)
theorem cE.c {f:Nat} {args:List NV} {c:Option NV} (hd:x.dst=some k) (hg:aw (kK L t) x.guard=some true) (hc:ak x.op= .eff) (ha:ahead x.pre hs=true) (hop:ab x.op (kK L t) m= .call f args) (hcall:Call P S f args m (.val v c m')) (hst:a8 x.pre m' rs=true)
 (h:cE P S r l ((x.idx,m)::hs) rs ⟨kK ((k,v)::L) t,dfs,ctx,m'⟩ .norm d1):cE P S r (x::l) hs rs ⟨kK L t,dfs,ctx,m⟩ .norm d1:=
 cE.call hg hc ha hop hcall hst (by rw[hd];exact h)
end
section
variable {t:Tm} {m:NH}
end
end Nm
namespace Nm
open Go Go.RowKit
section
variable {P:Program} {S:bn} {r:Option D4}
theorem pi.pan {x:NOper} {l:List NOper} {t:Tm} {dfs:List Dfr} {ctx:Option NV} {m:NH} {v:NV} (hg:aw t x.guard=some true) (hop:ab x.op t m= .pan v):pi P S r (x::l) ⟨t,dfs,ctx,m⟩ (.pan v) ⟨t,dfs,ctx,m⟩:=by
 refine ⟨0, ?_⟩
 rw[bI,hg,hop];rfl
end
structure PE where
 p:Program
 E:NV->NH->Prop
instance:Coe Program PE:=⟨fun P=>⟨P,fun _ _=>False⟩⟩
def WF (P:PE) (S:bn) (f:Nat) (args:List NV) (m:NH) (K:NV->NH->Prop):Prop:=(∃v c m',Call P.p S f args m (.val v c m')/\K v m')∨∃v c m',Call P.p S f args m (.pan v c m')/\P.E v m'
def qE (P:PE) (Q:Out->Dyn->Prop) (o:Out) (d:Dyn):Prop:=match o with| .pan v=>d.dfs= []/\P.E v d.h|o=>Q o d
section
variable (P:PE) (S:bn) (r:Option D4)
def W (c:NC) (d:Dyn) (Q:Out->Dyn->Prop):Prop:=∃o d',fK P.p S r c d o d'/\qE P Q o d'
end
section
variable {P:PE} {S:bn} {r:Option D4}
theorem WF.ret' {P:Program} {f:Nat} {args:List NV} {m:NH} {K:NV->NH->Prop} (h:WF P S f args m K):∃v c m',Call P S f args m (.val v c m')/\K v m':=by
 rcases h with h|⟨_,_,_,_,h⟩
 ·exact h
 ·exact h.elim
theorem W.loop {c:NC} {Q:Out->Dyn->Prop} (I:Nat->Dyn->Prop) (h:∀k d,I k d->W P S r c d (fun o d'=>match o with| .norm=>∃j,j<k/\I j d'|o=>Q o d')):∀k d,I k d->W P S r (.loop c) d Q:=by
 intro k
 induction k using Nat.strongRecOn with
 |ind k ih=>
  intro d hd
  obtain ⟨o,d',h1,h2⟩:=h k d hd
  cases o with
  |norm=>
   obtain ⟨j,hj,hI⟩:=h2
   obtain ⟨o,d2,h3,h4⟩:=ih j hj d' hI
   exact ⟨o,d2,fK.loop h1 h3,h4⟩
  |_=>exact ⟨_,_,fK.loop_out h1 (by simp),h2⟩
theorem W.mono {c:NC} {d:Dyn} {Q Q':Out->Dyn->Prop} (h:W P S r c d Q) (hq:∀o d,Q o d->Q' o d):W P S r c d Q':=by
 obtain ⟨o,d',h1,h2⟩:=h
 refine ⟨o,d',h1, ?_⟩
 cases o with
 |pan v=>exact h2
 |_=>exact hq _ _ h2
end
end Nm
namespace Nm
open Go Go.RowKit
section
variable {P:PE} {S:bn} {r:Option D4} {dst:Option D4} {op:NOp} {pre idx:Nat} {l:List NOper} {hs:List (Nat×NH)} {rs:List (Nat×(NH->NR)×NV)}
 {L:List (D4×NV)} {t:Tm} {dfs:List Dfr} {ctx:Option NV} {m m':NH} {v:NV} {k k':D4} {d:Dyn} {Q:Out->Dyn->Prop} {K:Dyn->Prop} {A B:Prop}
section
variable {f:NH->NR}
end
end
section
variable {t:Tm} {m:NH}
end
end Nm
namespace Nm
open Go Go.RowKit
section
variable {P:Program} {S:bn} {L:List (D4×NV)} {t:Tm} {ctx:Option NV} {m:NH} {K:NV->NH->Prop} {k k1 k2 k3:D4}
end
end Nm
namespace Nm
open Go Go.RowKit
def kL (m:NH) (id:D4):Prop:=id.toNat<m.next.toNat
instance (m:NH) (id:D4):Decidable (kL m id):=inferInstanceAs (Decidable (_<_))
inductive AK where
 |n (j:Nat)
 |o (id:D4)
section
variable {m:NH} {l:List (AK×NO)} {k j:Nat} {o:NO} {id:D4}
end
structure Chg (S:List D4) (m m':NH):Prop where
 next:m.next.toNat<=m'.next.toNat
 get:∀{id},kL m id->id∉S->m'.get id=m.get id
theorem Chg.old {S:List D4} {m m':NH} {id:D4} (h:Chg S m m') (ho:kL m id):kL m' id:=Nat.lt_of_lt_of_le ho h.next
theorem Chg.trans {S T:List D4} {a b c:NH} (h:Chg S a b) (h':Chg T b c) (hs:∀id,id∈T->kL a id->id∈S):Chg S a c:=
 ⟨Nat.le_trans h.1 h'.1,fun {id} ho hi=>(h'.2 (h.old ho) fun q=>hi (hs id q ho)).trans (h.2 ho hi)⟩
def xl (P:Program) (S:bn) (f:Nat) (args:List NV) (m:NH) (v:NV) (m':NH):Prop:=∃c,Call P S f args m (.val v c m')
section
variable {P:Program} {S:bn} {f:Nat} {args:List NV} {m:NH}
theorem WF.ret {K:NV->NH->Prop} (h:WF P S f args m K):∃v m',xl P S f args m v m'/\K v m':=by
 obtain ⟨v,c,m',hc,hk⟩:=WF.ret' h;exact ⟨v,m',⟨c,hc⟩,hk⟩
end
section
variable {t:Tm} {m:NH}
end
end Nm
namespace Nm
open Go Go.RowKit
section
variable {P:Program} {S:bn}
theorem xd.of {l:D4} {args:List NV} {m:NH} {p p1:Jump} {tm tm1:NT NV} {ps ps1:List D4} {a b a1 b1:NC} {d1 d2:Dyn} {o:Out} {x:CR}
 (hm:m.get l=some (.loop 0 p tm ps a b)) (hlen:args.length=ps.length) (ha:fK P S (some l) a ⟨jS ps args tm, [],none,m⟩ .norm d1) (hd1:d1.dfs= [])
 (hm1:d1.h.get l=some (.loop 0 p1 tm1 ps1 a1 b1)) (hb:fK P S (some l) b ⟨d1.t, [],none,d1.h.put l (.loop 1 p1 tm1 ps1 a1 b1)⟩ o d2) (ho:∀v,o≠.pan v) (hr:cS l o d2.h=x) (hne:x≠.fail):xd P S l args m x:=by
 obtain ⟨n,hn⟩:=ha
 obtain ⟨k,hk⟩:=hb
 refine ⟨hne,max n k, ?_⟩
 have key:∀(ps:List D4) (args:List NV) (tm:Tm) (K:Tm->CR),args.length=ps.length->bP .fail ps args tm K=K (jS ps args tm):=by
  intro ps
  induction ps with
  |nil=>intro args tm K h;cases args with
   |nil=>rfl
   |cons=>simp at h
  |cons q ps ih=>
   intro args tm K h
   cases args with
   |nil=>simp at h
   |cons v vs=>
    have e:bP .fail (q::ps) (v::vs) tm K=NT.set q v tm fun t=>bP .fail ps vs t K:=rfl
    rw[e,NT.set_eq]
    exact ih _ _ _ (by simpa using h)
 unfold round
 rw[hm]
 show bP .fail ps args tm (fun t=>match ev P S (max n k) (some l) a ⟨t, [],none,m⟩ with
  | .mk .norm d=>(match d.dfs with| []=>bk (ev P S (max n k)) l b d.t d.h|_=> .fail)
  |_=> .fail)=x
 rw[key _ _ _ _ hlen,bY (Nat.le_max_left n k) _ _ _ _ _ hn]
 show (match d1.dfs with| []=>bk (ev P S (max n k)) l b d1.t d1.h|_=> .fail)=x
 rw[hd1]
 show bk (ev P S (max n k)) l b d1.t d1.h=x
 unfold bk
 rw[hm1]
 show (d1.h.set l (.loop 1 p1 tm1 ps1 a1 b1) fun h=>(match ev P S (max n k) (some l) b ⟨d1.t, [],none,h⟩ with
  | .mk o d=>(match o with
   | .pan v=>(match d.dfs with| []=>CR.pan v none d.h|_=> .fail)
   |o=>cS l o d.h)
  | .fail=> .fail))=x
 rw[NH.set_eq,bY (Nat.le_max_right n k) _ _ _ _ _ hk]
 cases o with
 |pan v=>exact xR rfl (ho v)
 |_=>exact hr
end
end Nm
namespace Nm
open Go Go.RowKit
section
variable {t:Tm} {m:NH}
end
end Nm
namespace Nm
open Go Go.RowKit
section
variable {t:Tm} {m:NH}
end
end Nm
namespace Nm
open Go Go.RowKit
section
variable {t:Tm} {m:NH}
end
end Nm
namespace Nm
open Go Go.RowKit
section
variable {P:PE} {S:bn} {r:Option D4} {dst:Option D4} {op:NOp} {pre idx:Nat} {l:List NOper} {hs:List (Nat×NH)} {rs:List (Nat×(NH->NR)×NV)}
 {L:List (D4×NV)} {t:Tm} {dfs:List Dfr} {ctx:Option NV} {m m':NH} {v:NV} {k k' g:D4} {d:Dyn} {Q:Out->Dyn->Prop} {K:Dyn->Prop} {A B:Dyn->Prop} {b q:Bool}
end
theorem dl (d:D4):fI d d=true:=lS d
theorem p7 (l:List Nat):qv l l=true:=by
 induction l with
 |nil=>rfl
 |cons x l ih=>show cond (Nat.beq x x) (qv l l) false=true;rw[Nat.beq_refl];exact ih
theorem nF (l:List ST):jz l l=true:=by
 induction l with
 |nil=>rfl
 |cons x l ih=>
  obtain ⟨m,i,lo,hi⟩:=x
  show cond (Nat.beq m m) (cond (Nat.beq i i) (cond (Nat.beq lo lo) (cond (Nat.beq hi hi) (jz l l) false) false) false) false=true
  simp[ih]
def tS (v:NV):Prop:=match v with| .agg _| .tup _| .fn _ _| .ifc _ _| .int _ (.ge _)| .int _ (.le _)=>False|_=>True
theorem ow {n:Nat} {v:NV} (h:tS v):ci (n+1) v v=true:=by
 show nL (ci n) v v=true
 have hi:∀z:Int,eM z z=true:=fun z=>by rw[aU];simp
 cases v with
 |bool b=>cases b<;>rfl
 |int k x=>cases x with
  |lit z=>show cond (er k k) (eM z z) false=true;rw[hi];cases k<;>rfl
  |sym c ts=>show cond (er k k) (cond (eM c c) (jz ts ts) false) false=true;rw[hi,nF];cases k<;>rfl
  |ge z=>exact h.elim
  |le z=>exact h.elim
 |str s=>exact p7 s
 |ptr id o=>show cond (fI id id) (Nat.beq o o) false=true;rw[dl];simp
 |slc id o n e k=>show cond (fI id id) (cond (Nat.beq o o) (cond (Nat.beq n n) (cond (Nat.beq e e) (Nat.beq k k) false) false) false) false=true;rw[dl];simp
 |map id=>exact dl id
 |yld id=>exact dl id
 |agg l=>exact h.elim
 |tup l=>exact h.elim
 |fn f c=>exact h.elim
 |ifc t v=>exact h.elim
 |_=>rfl
end Nm
namespace Nm
open Go Go.RowKit
section
variable {m:NH}
end
section
variable {t:Tm} {m:NH}
end
end Nm
namespace Nm
open Go Go.RowKit
section
variable {t:Tm} {m:NH}
end
end Nm
namespace Nm
open Go Go.RowKit
def ids:NV->List D4
 | .slc id _ _ _ _=> [id]
 |_=> []
def Sl (m:NH) (v:NV) (e:Nat) (C:List (List NV)):Prop:=(∀x∈C,x.length=e)/\((v= .nils/\C= [])∨
 ∃id off kc w c,v= .slc id off C.length e kc/\m.get id=some (.cells w c)/\kL m id/\off+C.length*e<=c.length/\(c.drop off).take (C.length*e)=C.flatten)
def vu (B m:NH) (v:NV) (e:Nat) (C:List (List NV)):Prop:=(∀x∈C,x.length=e)/\((v= .nils/\C= [])∨
 ∃id off kc c,v= .slc id off C.length e kc/\¬kL B id/\m.get id=some (.cells true c)/\kL m id/\off+C.length*e<=c.length/\off+kc*e<=c.length/\(c.drop off).take (C.length*e)=C.flatten)
theorem qC {e:Nat} {C:List (List NV)} (h:∀x∈C,x.length=e):C.flatten.length=C.length*e:=by
 induction C with
 |nil=>simp
 |cons a C ih=>
  rw[List.flatten_cons,List.length_append,h a (List.mem_cons_self ..),ih fun x hx=>h x (List.mem_cons_of_mem _ hx),List.length_cons,Nat.succ_mul]
  omega
section
variable {m:NH} {v:NV} {e:Nat} {C:List (List NV)}
theorem Sl.one (h:Sl m v e C):cellsOf v=some [v]:=by
 obtain ⟨_,⟨rfl,rfl⟩|⟨id,off,kc,w,c,rfl,_⟩⟩:=h<;>rfl
theorem Sl.old (h:Sl m v e C):∀id∈ids v,kL m id:=by
 obtain ⟨h0,⟨rfl,rfl⟩|⟨id,off,kc,w,c,rfl,h1,h2,h3,h4⟩⟩:=h
 ·intro id hid;simp[ids] at hid
 ·intro i hi;simp[ids] at hi;rw[hi];exact h2
theorem vu.new {B m:NH} (h:vu B m v e C):∀id∈ids v,¬kL B id:=by
 obtain ⟨h0,⟨rfl,rfl⟩|⟨id,off,kc,c,rfl,hb,h1,h2,h3,h4⟩⟩:=h
 ·intro id hid;simp[ids] at hid
 ·intro i hi;simp[ids] at hi;rw[hi];exact hb
theorem vu.nil {B m:NH}:vu B m .nils e []:=⟨fun x hx=>by simp at hx,Or.inl ⟨rfl,rfl⟩⟩
theorem Sl.nil:Sl m .nils e []:=⟨fun x hx=>by simp at hx,Or.inl ⟨rfl,rfl⟩⟩
theorem vu.of {B m:NH} {id:D4} {n k:Nat} {c:List NV} (h:∀x∈C,x.length=e) (hb:¬kL B id) (hg:m.get id=some (.cells true c)) (ho:kL m id) (hc:c=C.flatten) (hn:n=C.length) (hk:k=C.length):vu B m (.slc id 0 n e k) e C:=by
 subst hn hk hc
 have hl:=qC h
 exact ⟨h,Or.inr ⟨id,0,_,_,rfl,hb,hg,ho,by omega,by omega,by rw[List.drop_zero,←hl,List.take_length]⟩⟩
theorem Chg.put (m:NH) (id:D4) (o:NO):Chg [id] m (m.put id o):=
 ⟨Nat.le_refl _,fun {i} _ hn=>NH.get_put_ne m o (by simpa using hn)⟩
theorem kL.next_ne {m:NH} {i:D4} (h:kL m i):i≠m.next:=by
 intro e;rw[e] at h;exact Nat.lt_irrefl _ h
theorem Chg.add (m:NH) (o:NO):Chg [] m (m.add o):=
 ⟨by show m.next.toNat<=m.next.nxt.toNat;rw[D4.toNat_nxt];omega,fun {i} ho _=>NH.get_add_ne m o ho.next_ne⟩
theorem lr (m:NH) (o:NO):kL (m.add o) m.next:=by
 show m.next.toNat<m.next.nxt.toNat;rw[D4.toNat_nxt];omega
theorem Sl.flat (h:Sl m v e C):tS v:=by
 obtain ⟨_,⟨rfl,rfl⟩|⟨id,off,kc,w,c,rfl,_⟩⟩:=h<;>trivial
theorem Sl.same (h:Sl m v e C) {n:Nat}:ci (n+1) v v=true:=ow h.flat
end
end Nm
namespace Nm
open Go Go.RowKit
section
variable {L:List (D4×NV)} {t:Tm} {ctx:Option NV} {m:NH} {K:NV->NH->Prop}
end
end Nm
namespace Nm
open Go Go.RowKit
def xA (P:Program) (S:bn) (q:D4) (args:List NV) (m:NH) (v:NV) (m':NH):Prop:=∃c,xd P S q args m (.val v c m')
def WY (P:Program) (S:bn) (q:D4) (args:List NV) (m:NH) (K:NV->NH->Prop):Prop:=∃v c m',xd P S q args m (.val v c m')/\K v m'
section
variable {P:Program} {S:bn} {f:Nat} {q:D4} {args:List NV} {m:NH}
section
variable {K:NV->NH->Prop} {st:Nat} {p:Jump} {tm:NT NV} {ps:List D4} {a b:NC} {i:Nat}
end
theorem WY.ret {K:NV->NH->Prop} (h:WY P S q args m K):∃v m',xA P S q args m v m'/\K v m':=by
 obtain ⟨v,c,m',hc,hk⟩:=h;exact ⟨v,m',⟨c,hc⟩,hk⟩
def oV (ks:List D4) (t t':Tm):Prop:=∀k,k∉ks->NT.get k t'=NT.get k t
theorem oV.get {ks:List D4} {t t':Tm} (h:oV ks t t') {k:D4} {v:Option NV} (g:NT.get k t=v) (hk:k∉ks):NT.get k t'=v:=(h k hk).trans g
theorem oV.trans {ks ls:List D4} {a b c:Tm} (h:oV ks a b) (h':oV ls b c) (hs:∀k∈ls,k∈ks):oV ks a c:=fun k hk=>(h' k fun q=>hk (hs k q)).trans (h k hk)
end
end Nm
namespace Nm
open Go Go.RowKit
section
variable (P:PE) (S:bn) (r:Option D4)
end
section
variable {P:PE} {S:bn} {r:Option D4} {dst:Option D4} {op:NOp} {pre idx:Nat} {l:List NOper} {hs:List (Nat×NH)} {rs:List (Nat×(NH->NR)×NV)}
 {L:List (D4×NV)} {t:Tm} {dfs:List Dfr} {ctx:Option NV} {m m':NH} {v:NV} {k g:D4} {d:Dyn} {Q:Out->Dyn->Prop} {K:Dyn->Prop} {b:Bool}
section
variable {f:NH->NR}
end
end
end Nm
namespace Nm
open Go Go.RowKit
section
variable {t:Tm} {m:NH}
end
end Nm
namespace Nm
open Go Go.RowKit
section
variable {t:Tm} {m:NH}
end
end Nm
namespace Nm
open Go Go.RowKit
section
variable {P:Program} {S:bn}
end
section
variable {P:PE} {S:bn} {dst:D4} {L:List (D4×NV)} {t:Tm} {dfs:List Dfr} {ctx:Option NV} {l:List NOper} {K:Dyn->Prop} {B m:NH} {v:NV} {e:Nat} {C:List (List NV)} {x:D4} {w:Bool} {cs:List NV} {kc bytes:Nat}
end
section
variable {P:Program} {S:bn} {f:Nat} {args:List NV} {m:NH} {K:NV->NH->Prop}
variable {E:NV->NH->Prop}
end
section
variable {P:PE} {S:bn} {r:Option D4} {a b:NC} {d:Dyn} {Q:Out->Dyn->Prop}
end
section
variable {P:Program} {S:bn} {q:D4} {args:List NV} {m:NH} {K:NV->NH->Prop}
end
section
variable {P:Program} {S:bn} {f:Nat} {q:D4} {args:List NV} {m:NH}
end
end Nm
namespace Nm
open Go Go.RowKit
section
variable [Val]
def Ro (P:Program) (W:World) (ι:ax) (m:NH):Prop:=Rel P ι W.heap.size m W/\∀i p,ι i=some p->¬Live (m.get i)
def ext (ι:ax) (i:D4) (p:Pl):ax:=fun j=>if j.toNat=i.toNat then some p else ι j
theorem Ro.addE {P:Program} {W:World} {ι:ax} {m:NH} (h:Ro P W ι m) {b o:Nat} {c:List NV} {cur:Array Value} {T:TypeId} {fz:Nat×Nat} (hb:W.heap[b]? =some (.cells cur T fz)) (hn:o+c.length<=cur.size)
 (hc:∀i v,c[i]? =some v->∃v',cur[o+i]? =some v'/\VR ι v v'/\v'.oneCell'=true):
 ∃ι',Ro P W ι' (m.add (.cells false c))/\ι.le ι'/\Chg [] m (m.add (.cells false c))/\ι' m.next=some ⟨b,o,cur.size⟩/\(m.add (.cells false c)).get m.next=some (.cells false c)/\kL (m.add (.cells false c)) m.next:=by
 obtain ⟨hR,hL⟩:=h
 have hold:∀i p,ι i=some p->kL m i:=fun i p hi=>by
  obtain ⟨x,hx,_⟩:=hR.obj i p hi
  exact hR.fresh i x hx
 have hext:∀i p,ι i=some p->ext ι m.next ⟨b,o,cur.size⟩ i=some p:=fun i p hi=>by
  unfold ext;rw[xS (Nat.ne_of_lt (hold i p hi))];exact hi
 have hle:ι.le (ext ι m.next ⟨b,o,cur.size⟩):=hext
 have hinv:∀i p,ext ι m.next ⟨b,o,cur.size⟩ i=some p->(i=m.next/\p=⟨b,o,cur.size⟩)∨(ι i=some p/\i≠m.next):=fun i p hi=>by
  unfold ext at hi
  by_cases e:i.toNat=m.next.toNat
  ·rw[xT e] at hi;injection hi with hi;exact Or.inl ⟨D4.toNat_inj e,hi.symm⟩
  ·rw[xS e] at hi;exact Or.inr ⟨hi,fun q=>e (by rw[q])⟩
 have hnl:∀i p,ext ι m.next ⟨b,o,cur.size⟩ i=some p->¬Live ((m.add (.cells false c)).get i):=fun i p hi=>by
  rcases hinv i p hi with ⟨rfl,_⟩|⟨hi,hne⟩
  ·rw[NH.get_add_same];exact fun q=>q.2 c rfl
  ·rw[NH.get_add_ne _ _ hne];exact hL i p hi
 refine ⟨ext ι m.next ⟨b,o,cur.size⟩,⟨⟨?_, ?_, ?_, ?_, ?_,hR.gl.mono hle⟩,hnl⟩,hle,Chg.add m _,by unfold ext;rw[xT rfl],NH.get_add_same m _,lr m _⟩
 ·intro i p hi
  rcases hinv i p hi with ⟨rfl,rfl⟩|⟨hi,hne⟩
  ·refine ⟨.cells false c,NH.get_add_same m _, ?_⟩
   show ∃(cur':Array Value) (T:TypeId) (fz:Nat×Nat),W.heap[b]? =some (.cells cur' T fz)/\(false=true->fz=(0,0))/\cur'.size=cur.size/\o+c.length<=cur.size/\∀i v,c[i]? =some v->∃v',cur'[o+i]? =some v'/\VR (ext ι m.next ⟨b,o,cur.size⟩) v v'/\v'.oneCell'=true
   refine ⟨cur,T,fz,hb,fun q=>Bool.noConfusion q,rfl,hn,fun i v hv=> ?_⟩
   obtain ⟨v',h1,h2,h3⟩:=hc i v hv
   exact ⟨v',h1,h2.mono hle,h3⟩
  ·obtain ⟨x,h1,h2⟩:=hR.obj i p hi
   exact ⟨x,(NH.get_add_ne m _ hne).trans h1,h2.mono hle rfl⟩
 ·intro i j p q hi hj hne hl _
  exact xR hl (hnl i p hi)
 ·intro i p hi hl;exact xR hl (hnl i p hi)
 ·intro i p hi
  rcases hinv i p hi with ⟨rfl,rfl⟩|⟨hi,_⟩
  ·exact (Array.getElem?_eq_some_iff.mp hb).1
  ·exact hR.lt i p hi
 ·intro i x hx
  by_cases e:i=m.next
  ·subst e;exact lr m _
  ·rw[NH.get_add_ne _ _ e] at hx
   exact (Chg.add m (.cells false c)).old (hR.fresh i x hx)
theorem Ro.add {P:Program} {W:World} {ι:ax} {m:NH} (h:Ro P W ι m) {b o:Nat} {c:List NV} {cur:Array Value} {T:TypeId} {fz:Nat×Nat} (hb:W.heap[b]? =some (.cells cur T fz)) (hn:o+c.length<=cur.size)
 (hc:∀i v,c[i]? =some v->∃v',cur[o+i]? =some v'/\VR ι v v'/\v'.oneCell'=true):
 ∃ι' m',Ro P W ι' m'/\ι.le ι'/\Chg [] m m'/\ι' m.next=some ⟨b,o,cur.size⟩/\m'.get m.next=some (.cells false c)/\kL m' m.next:=by
 obtain ⟨ι',h⟩:=h.addE hb hn hc
 exact ⟨ι',_,h⟩
theorem Ro.nil (P:Program) (W:World) (hw:NG<=W.heap.size):Ro P W ι0 G0:=⟨vR P W hw,fun i p h=>by rw[fl h];exact b0⟩
theorem VRL.append {ι:ax} {a:List NV} {a':List Value} {b:List NV} {b':List Value} (h:VRL ι a a') (k:VRL ι b b'):VRL ι (a++b) (a'++b'):=by
 induction a generalizing a' with
 |nil=>cases h;exact k
 |cons v l ih=>cases h with
  |cons _ v' _ l' h hl=>exact .cons _ _ _ _ h (ih hl)
def Cs (W:World) (ι:ax) (a:Addr) (l:List NV):Prop:=∀(j:Nat) (v:NV),l[j]? =some v->∃v',W.cell? (a.add j)=some v'/\VR ι v v'/\v'.oneCell'=true
theorem Cs.mono {W:World} {ι ι':ax} (hι:ι.le ι') {a:Addr} {l:List NV} (h:Cs W ι a l):Cs W ι' a l:=fun j v hv=>let ⟨v',h1,h2,h3⟩:=h j v hv;⟨v',h1,h2.mono hι,h3⟩
omit [Val] in
theorem trodAll_stays {P:Program} (hl:laidOutB P=true) {W W':World} (hb:Below W.heap.size W W') {H:Type} {enc:TypeId×Value->H} {sp:Nat->Bool}:∀(ts:List TypeId) (args:List Value) (ds:List (DataW H)) (ps:List MemPlace),(∀t∈ts,P.readableRec t=true/\t<P.types.size)->
 DataW.TrodAll enc P W 0 (fun _=>true) true ts args ds ps->(∀p∈ps,p.block<W.heap.size)->(∀p∈ps,sp p.block=true)->DataW.TrodAll enc P W' 0 sp true ts args ds ps:=by
 intro ts
 induction ts with
 |nil=>
  intro args ds ps _ h _ _
  cases args with
  |nil=>cases ds with
   |nil=>exact h
   |cons=>cases h
  |cons=>cases h
 |cons t ts ih=>
  intro args ds ps hr h hlt hsp
  cases args with
  |nil=>cases h
  |cons v args=>
   cases ds with
   |nil=>cases h
   |cons d ds=>
    obtain ⟨p,q,hd,hq,rfl⟩:=h
    exact ⟨p,q,WideElems.Trod_stays hl (hr t (List.mem_cons_self ..)).1 (hr t (List.mem_cons_self ..)).2 hd (fun x hx=>hb.same (hlt x (List.mem_append_left _ hx))) (fun x hx=>hsp x (List.mem_append_left _ hx)),
     ih args ds q (fun t ht=>hr t (List.mem_cons_of_mem _ ht)) hq (fun x hx=>hlt x (List.mem_append_right _ hx)) (fun x hx=>hsp x (List.mem_append_right _ hx)),rfl⟩
omit [Val] in
theorem xl.kept {P:Program} {S:bn} {f:Nat} {args:List NV} {v:NV} (h:S f args=fun h=>some (v,h)) (m:NH):xl P S f args m v m:=by
 refine ⟨none,by simp,0, ?_⟩
 unfold bg;rw[h]
omit [Val] in
theorem trodAll_len {P:Program} {W:World} {base:Nat} {sp:Nat->Bool} {hd:Bool} {H:Type} {enc:TypeId×Value->H}:∀{ts:List TypeId} {vs:List Value} {ds:List (DataW H)} {ps:List MemPlace},DataW.TrodAll enc P W base sp hd ts vs ds ps->ds.length=ts.length:=by
 intro ts
 induction ts with
 |nil=>intro vs ds ps h;cases vs<;>cases ds<;>first|rfl|cases h
 |cons t ts ih=>
  intro vs ds ps h
  cases vs with
  |nil=>cases h
  |cons v vs=>cases ds with
   |nil=>cases h
   |cons d ds=>obtain ⟨_,_,_,h,_⟩:=h;simp[ih h]
end
end Nm
namespace Nm
open Go Go.RowKit
namespace C
abbrev t (a:D4):NOpd:= .tmp a
abbrev k (z:Int):NOpd:= .const (.int .i64 (.lit z))
abbrev kb (z:Int):NOpd:= .const (.int .u8 (.lit z))
abbrev ku (z:Int):NOpd:= .const (.int .u64 (.lit z))
abbrev kt:NOpd:= .const (.bool true)
abbrev kf:NOpd:= .const (.bool false)
abbrev kn:NOpd:= .const .nils
abbrev F (n:Nat):NOpd:= .const (.fn n [])
abbrev o (d:D4) (p:NOp) (i:Nat):NOper:=⟨some d,p,none,0,i⟩
abbrev O (d:D4) (p:NOp) (q i:Nat):NOper:=⟨some d,p,none,q,i⟩
abbrev G (d:D4) (p:NOp) (g:D4) (b:Bool) (i:Nat):NOper:=⟨some d,p,some (g,b),0,i⟩
abbrev m (d s:D4) (i:Nat):NOper:=⟨some d,.move (.tmp s),none,0,i⟩
abbrev f (n:Nat) (d s:D4) (i:Nat):NOper:=⟨some d,.fieldAddr n (.tmp s),none,0,i⟩
abbrev l (d s:D4) (i:Nat):NOper:=⟨some d,.load1 (.tmp s),none,0,i⟩
abbrev L (d s:D4) (i:Nat):NOper:=⟨some d,.lenSlc (.tmp s),none,0,i⟩
abbrev n (d s:D4) (i:Nat):NOper:=⟨some d,.nilCheck (.tmp s),none,0,i⟩
abbrev x (d s:D4) (j i:Nat):NOper:=⟨some d,.extract (.tmp s) j,none,0,i⟩
abbrev q (p:NOp) (i:Nat):NOper:=⟨none,p,none,0,i⟩
abbrev b (d:D4) (p:BinOp) (a c:NOpd) (i:Nat):NOper:=⟨some d,.bin .num p a c,none,0,i⟩
end C
end Nm
namespace Nm
open Go Go.RowKit
noncomputable def pN (f:Nat) (F:List NV->NH->Option (NV×NH)) (S:bn):bn:=fun g=>cond (Nat.beq g f) F (S g)
section
variable [Val]
def cV (P:Program) (f:Nat) (F:List NV->NH->Option (NV×NH)):Prop:=
 ∀(ι:ax) (B:Nat) (h:NH) (w:World) (args:List NV) (args':List Value) (v:NV) (h':NH),F args h=some (v,h')->Rel P ι B h w->B<=w.heap.size->VRL ι args args'->
  jA P ι B h w ((callFunc f args'.toArray).run P w) (.val v none h')
theorem kd {P:Program} {S:bn} {f:Nat} {F:List NV->NH->Option (NV×NH)} (hS:dw P S) (hF:cV P f F):dw P (pN f F S):=by
 intro ι B h w g args args' v h' hg hR hB hl
 unfold pN at hg
 cases hb:Nat.beq g f with
 |true=>
  rw[hb] at hg
  obtain rfl:=xW hb
  exact hF ι B h w args args' v h' hg hR hB hl
 |false=>
  rw[hb] at hg
  exact hS ι B h w g args args' v h' hg hR hB hl
theorem cV.of {P:Program} {f:Nat} {F:List NV->NH->Option (NV×NH)} (hen:∀args w,(callFunc f args).run P w= .ok (.enter f args) w)
 (H:∀(ι:ax) (B:Nat) (h:NH) (w:World) (args:List NV) (args':List Value) (v:NV) (h':NH),F args h=some (v,h')->Rel P ι B h w->B<=w.heap.size->VRL ι args args'->
  Calls P f args'.toArray w fun e w'=>∃ι' v',e= .returned v'/\VR ι' v v'/\Rel P ι' B h' w'/\B<=w'.heap.size/\Grow ι h w ι' h' w'):cV P f F:=by
 intro ι B h w args args' v h' hF hR hB hl c0 cs
 obtain ⟨e,w',fr,⟨ι',v',he,hv,hR',hB',hG⟩,hcomes,hfn,hleave⟩:=H ι B h w args args' v h' hF hR hB hl (c0::cs)
 subst he
 exact ⟨ι',v',w',hv,hR',hB',hG,.inr ⟨w,.inl ⟨f,args'.toArray,hen _ w,Steps.trans hcomes (.one (step_leave_returned hleave))⟩⟩⟩
theorem Rel.below {P:Program} {ι:ax} {B:Nat} {h:NH} {w w':World} (hR:Rel P ι B h w) (hb:Below w.heap.size w w'):Rel P ι B h w':=
 ⟨fun i p hi=>by
  obtain ⟨o,o1,o2⟩:=hR.obj i p hi
  exact ⟨o,o1,o2.mono (ax.le_refl _) (hb.block _ (hR.lt i p hi))⟩,hR.inj,hR.base,fun i p hi=>Nat.lt_of_lt_of_le (hR.lt i p hi) hb.size,hR.fresh,hR.gl⟩
omit [Val] in
theorem Grow.below {ι:ax} {h:NH} {w w':World} (hb:Below w.heap.size w w'):Grow ι h w ι h w':=
 ⟨ax.le_refl _,Nat.le_refl _,fun _ _ x=> .inl x,fun i p x y=> .inr ⟨i,p,x,y,rfl⟩,fun _ _ _=>rfl,hb.size,hb.os,hb.tape,hb.output,fun b hb' _=>hb.block b hb'⟩
theorem cV.plain {P:Program} {f:Nat} {F:List NV->NH->Option (NV×NH)} (hen:∀args w,(callFunc f args).run P w= .ok (.enter f args) w)
 (H:∀(ι:ax) (B:Nat) (h:NH) (w:World) (args:List NV) (args':List Value) (v:NV) (h':NH),F args h=some (v,h')->Rel P ι B h w->VRL ι args args'->
  h'=h/\Calls P f args'.toArray w fun e w'=>(∃v',e= .returned v'/\VR ι v v')/\Below w.heap.size w w'):cV P f F:=
 cV.of hen fun ι B h w args args' v h' hF hR hB hl=>by
  obtain ⟨rfl,hc⟩:=H ι B h w args args' v h' hF hR hl
  refine hc.mono ?_
  rintro e w' ⟨⟨v',he,hv⟩,hb⟩
  exact ⟨ι,v',he,hv,hR.below hb,Nat.le_trans hB hb.size,.below hb⟩
theorem Rel.global {P:Program} {ι:ax} {B:Nat} {h:NH} {w:World} (hR:Rel P ι B h w) {g:Nat} (hg:g<NG) {wr:Bool} {c:List NV} (hc:h.get (D4.of g)=some (.cells wr c)) (hn:c.length=GN g):
 ∃cur T fz,w.heap[g]? =some (.cells cur T fz)/\VRL ι c cur.toList:=by
 obtain ⟨o,o1,o2⟩:=hR.obj _ _ (hR.gl g hg)
 rw[hc] at o1
 cases o1
 obtain ⟨cur,T,fz,k1,k2,k3,k4,k5⟩:=o2
 dsimp only at k1 k3 k4 k5
 refine ⟨cur,T,fz,k1,VRL.of_get (by simp;omega) fun i v hi=> ?_⟩
 obtain ⟨v',a,b,_⟩:=k5 i v hi
 exact ⟨v',by simpa using a,b⟩
theorem Ro.lay {P:Program} {W:World} {ι:ax} {m:NH} (h:Ro P W ι m) {g:Nat} (hg:g<NG) {c:List NV} {cur:Array Value} {T:TypeId} {fz:Nat×Nat} (hb:W.heap[g]? =some (.cells cur T fz)) (hn:cur.size=GN g)
 (hc:VRL ι c cur.toList) (h1:∀v∈cur.toList,v.oneCell'=true):Ro P W ι (m.put (D4.of g) (.cells false c)):=by
 obtain ⟨hR,hL⟩:=h
 have hι:=hR.gl g hg
 have hnl:∀i p,ι i=some p->¬Live ((m.put (D4.of g) (.cells false c)).get i):=fun i p hi=>by
  by_cases e:i=D4.of g
  ·subst e;rw[NH.get_put_same];exact fun q=>q.2 c rfl
  ·rw[NH.get_put_ne _ _ e];exact hL i p hi
 have hold:(D4.of g).toNat<m.next.toNat:=by
  obtain ⟨o,o1,_⟩:=hR.obj _ _ hι;exact hR.fresh _ _ o1
 refine ⟨⟨fun i p hi=> ?_,fun i j p q hi _ _ hl _=>xR hl (hnl i p hi),fun i p hi hl=>xR hl (hnl i p hi),hR.lt,fun i o ho=> ?_,hR.gl⟩,hnl⟩
 ·by_cases e:i=D4.of g
  ·subst e
   rw[hι] at hi;cases hi
   refine ⟨_,NH.get_put_same _ _ _,cur,T,fz,hb,fun q=>Bool.noConfusion q,hn,by rw[hc.length];simp;omega,fun i v hv=> ?_⟩
   obtain ⟨v',a,b⟩:=hc.get hv
   exact ⟨v',by simpa using a,b,h1 _ (List.mem_of_getElem? a)⟩
  ·obtain ⟨o,o1,o2⟩:=hR.obj i p hi
   exact ⟨o,by rw[NH.get_put_ne _ _ e];exact o1,o2⟩
 ·show i.toNat<m.next.toNat
  by_cases e:i=D4.of g
  ·subst e;exact hold
  ·rw[NH.get_put_ne _ _ e] at ho;exact hR.fresh i o ho
theorem Rel.madeC {P:Program} {ι:ax} {B:Nat} {h:NH} {w w':World} (hR:Rel P ι B h w) (hb:Below w.heap.size w w') {N:Nat} (hN:w.heap.size<=N) {cur:Array Value} {T:TypeId} {fz:Nat×Nat} (hc:w'.heap[N]? =some (.cells cur T fz)) {o:Nat} {c:List NV} (hlen:o+c.length<=cur.size) (hcs:∀(ι2:ax) (i:Nat) (v:NV),c[i]? =some v->∃v',cur[o+i]? =some v'/\VR ι2 v v'/\v'.oneCell'=true):
 ∃ι',ι' h.next=some ⟨N,o,cur.size⟩/\Rel P ι' B (h.add (.cells false c)) w'/\Grow ι h w ι' (h.add (.cells false c)) w':=by
 have hR':=hR.below hb
 have hn:ι h.next=none:=by
  cases hi:ι h.next with
  |none=>rfl
  |some q=>obtain ⟨o,h1,_⟩:=hR.obj _ _ hi;exact xR (hR.fresh _ _ h1) (Nat.lt_irrefl _)
 have hle:ι.le (ext ι h.next ⟨N,o,cur.size⟩):=fun i p hi=>by
  unfold ext
  by_cases e:i.toNat=h.next.toNat
  ·rw[D4.toNat_inj e,hn] at hi;cases hi
  ·rw[xS e];exact hi
 have hinv:∀i p,ext ι h.next ⟨N,o,cur.size⟩ i=some p->(i=h.next/\p=⟨N,o,cur.size⟩)∨(ι i=some p/\i≠h.next):=fun i p hi=>by
  unfold ext at hi
  by_cases e:i.toNat=h.next.toNat
  ·rw[xT e] at hi;injection hi with hi;exact Or.inl ⟨D4.toNat_inj e,hi.symm⟩
  ·rw[xS e] at hi;exact Or.inr ⟨hi,fun q=>e (by rw[q])⟩
 have hget:∀i,i≠h.next->(h.add (.cells false c)).get i=h.get i:=fun i e=>NH.get_add_ne _ _ e
 have hnl:¬Live ((h.add (.cells false c)).get h.next):=by rw[NH.get_add_same];exact fun q=>q.2 c rfl
 refine ⟨ext ι h.next ⟨N,o,cur.size⟩,by unfold ext;rw[xT rfl],⟨fun i p hi=> ?_,fun i j p q hi hj hij d1 d2=> ?_,fun i p hi d=> ?_,fun i p hi=> ?_,fun i o ho=> ?_,hR.gl.mono hle⟩,hle, ?_,fun i p hi=> ?_,fun i p hi d=> ?_,fun i hi hl=> ?_,hb.size,hb.os,hb.tape,hb.output,fun b hb' _=>hb.block b hb'⟩
 ·rcases hinv i p hi with ⟨rfl,rfl⟩|⟨hi,hne⟩
  ·refine ⟨_,NH.get_add_same _ _,cur,T,fz,hc,fun q=>Bool.noConfusion q,rfl,hlen,fun i v hv=>hcs _ i v hv⟩
  ·obtain ⟨o,o1,o2⟩:=hR'.obj i p hi
   exact ⟨o,by rw[hget i hne];exact o1,o2.mono hle rfl⟩
 ·rcases hinv i p hi with ⟨rfl,rfl⟩|⟨hi,hne⟩
  ·exact xR d1 hnl
  ·rw[hget i hne] at d1
   rcases hinv j q hj with ⟨rfl,rfl⟩|⟨hj,hne'⟩
   ·have:=hR.lt i p hi;show p.b≠N;omega
   ·rw[hget j hne'] at d2
    exact hR.inj i j p q hi hj hij d1 d2
 ·rcases hinv i p hi with ⟨rfl,rfl⟩|⟨hi,hne⟩
  ·exact xR d hnl
  ·rw[hget i hne] at d;exact hR.base i p hi d
 ·rcases hinv i p hi with ⟨rfl,rfl⟩|⟨hi,_⟩
  ·exact (Array.getElem?_eq_some_iff.1 hc).1
  ·exact hR'.lt i p hi
 ·show i.toNat<h.next.nxt.toNat
  rw[D4.toNat_nxt]
  by_cases e:i=h.next
  ·subst e;omega
  ·rw[hget i e] at ho;have:=hR.fresh i o ho;omega
 ·show h.next.toNat<=h.next.nxt.toNat
  rw[D4.toNat_nxt];omega
 ·rcases hinv i p hi with ⟨rfl,_⟩|⟨hi,_⟩
  ·exact .inr (Nat.le_refl _)
  ·exact .inl hi
 ·rcases hinv i p hi with ⟨rfl,_⟩|⟨hi,hne⟩
  ·exact xR d hnl
  ·rw[hget i hne] at d;exact .inr ⟨i,p,hi,d,rfl⟩
 ·exact hget i fun e=>by rw[e] at hl;exact Nat.lt_irrefl _ hl
theorem Rel.made {P:Program} {ι:ax} {B:Nat} {h:NH} {w w':World} (hR:Rel P ι B h w) (hb:Below w.heap.size w w') {N:Nat} (hN:w.heap.size<=N) {cur:Array Value} {T:TypeId} {fz:Nat×Nat} (hc:w'.heap[N]? =some (.cells cur T fz)):
 ∃ι',ι' h.next=some ⟨N,0,cur.size⟩/\Rel P ι' B (h.add (.cells false [])) w'/\Grow ι h w ι' (h.add (.cells false [])) w':=
 hR.madeC hb hN hc (o:=0) (by simp) fun _ i v hv=>by simp at hv
noncomputable def pO (cf:Nat->Option NFn) (S:bn) (n f:Nat) (args c:List NV) (off len e kc:Nat):Bool:=
 match ky cf S n f args with
 | .val (.slc id o l k m) _ h=>cond (dn args) (cond (dn c) (cond (Nat.beq o off) (cond (Nat.beq l len) (cond (Nat.beq k e) (cond (Nat.beq m kc) (match h.get id with
  |some (.cells true d)=>dO (ci 3) d c
  |_=>false) false) false) false) false) false) false
 |_=>false
omit [Val] in
theorem bR.row {P:Program} {cf:Nat->Option NFn} (hc:bR P cf) {S:bn} {n f:Nat} {args c:List NV} {off len e kc:Nat} (hr:pO cf S n f args c off len e kc=true):pO P S n f args c off len e kc=true:=by
 have e:cf=aj P:=funext hc
 rw[e] at hr;exact hr
end
end Nm
namespace Nm
open Go Go.RowKit Go.Proofs Go.Sort
noncomputable section
def kr (fuel:Nat):Nat->List Nat->List Nat:=Nat.rec (fun _ acc=>acc) (fun _ ih u acc=>cond (Nat.ble (Nat.succ u) 10) (ah (Nat.add 48 u) fun d=>d::acc) (ah (Nat.add 48 (Nat.mod u 10)) fun d=>ih (Nat.div u 10) (d::acc))) fuel
def nN (n:Int):List Nat:=Int.rec (fun m=>kr 20 m []) (fun m=>45::kr 20 (Nat.succ m) []) n
def xh (k:Nat):Nat->List NV:=Nat.rec (fun _=> []) (fun _ ih x=>ah x fun x=> .int .u64 (.lit (.ofNat x))::ih (Nat.mul x 10)) k
def gW:List NV:=xh 20 1
def pP (g:Nat) (h:NH):Bool:=match h.get (D4.of g) with|some (.cells _ c)=>dO (ci 1) c gW|_=>false
def nO (g:Nat) (l:List NV) (h:NH):Option (NV×NH):=
 match l with
 | [.int .i64 (.lit n)]=>cond (pP g h) (cond (gL (.negSucc 9223372036854775807) n) (cond (gL n (.ofNat 9223372036854775807)) (some (.str (nN n),h)) none) none) none
 |_=>none
def oI (g:Nat) (l:List NV) (h:NH):Option (NV×NH):=
 match l with
 | [.str _,.str s]=>cq s fun n=>cond (Nat.ble n 281474976710656) (match h.get (D4.of g) with
  |some (.cells _ [.ifc _ _])=>h.new (.cells false []) fun id h=>some (.ptr id 0,h)
  |_=>none) none
 |_=>none
end
theorem pn (k u:Nat) (acc:List Nat):kr (k+1) u acc=if u<10 then (48+u)::acc else kr k (u / 10) ((48+u % 10)::acc):=by
 have e:kr (k+1) u acc=cond (Nat.ble (Nat.succ u) 10) (ah (Nat.add 48 u) fun d=>d::acc) (ah (Nat.add 48 (Nat.mod u 10)) fun d=>kr k (Nat.div u 10) (d::acc)):=rfl
 rw[e,aa,aa]
 by_cases h:u<10
 ·rw[xT h,Nat.ble_eq_true_of_le (by omega)];rfl
 ·rw[xS h]
  cases hb:Nat.ble (Nat.succ u) 10 with
  |true=>exact xR (Nat.le_of_ble_eq_true hb) (by omega)
  |false=>rfl
theorem n4:∀(k u:Nat) (acc:List Nat),u<10 ^ k->0<k->kr k u acc=(Lib.decDigits u).map UInt8.toNat++acc:=by
 intro k
 induction k with
 |zero=>intro u acc _ h;omega
 |succ k ih=>
  intro u acc hu _
  rw[pn,Lib.decDigits]
  by_cases h:u<10
  ·rw[xT h,dif_pos h];simp;omega
  ·rw[xS h,dif_neg h]
   rcases Nat.eq_zero_or_pos k with rfl|hk
   ·omega
   ·rw[ih _ _ (by rw[Nat.pow_succ] at hu;omega) hk]
    simp;omega
theorem qU {n:Int} (h0:-9223372036854775808<=n) (h1:n<=9223372036854775807):nN n=(Lib.itoa n).map UInt8.toNat:=by
 unfold Lib.itoa
 cases n with
 |ofNat m=>
  have e:nN (.ofNat m)=kr 20 m []:=rfl
  rw[e,n4 20 m [] (by show m<100000000000000000000;have:((m:Nat):Int)<=9223372036854775807:=h1;omega) (by omega),xS (by simp)]
  simp
 |negSucc m=>
  have e:nN (.negSucc m)=45::kr 20 (m+1) []:=rfl
  rw[e,n4 20 (m+1) [] (by show m+1<100000000000000000000;omega) (by omega),xT (by omega)]
  simp
theorem jC:gW=Lib.pow10Tab.map fun z=> .int .u64 (.lit z):=by
 have e:gW= [0,1,2,3,4,5,6,7,8,9,10,11,12,13,14,15,16,17,18,19].map fun k:Nat=>NV.int .u64 (.lit (.ofNat (10 ^ k))):=by kernel_rfl
 rw[e];rfl
theorem mn (w:World) (q:Nat) (os:Array Obj):Below w.heap.size w (grow (w.drewN q) os):=
 ⟨rfl,rfl,rfl,by first|(simp[grow];done)|(simp[grow];omega),fun i hi=>by
  show ((w.drewN q).heap++os)[i]? =_
  rw[Array.getElem?_append_left (by show i<w.heap.size;omega)]
  rfl⟩
section
variable [Val]
theorem VRL.ints {ι:ax} {k:IntKind}:∀{zs:List Int} {l:List Value},VRL ι (zs.map fun z=> .int k (.lit z)) l->l=zs.map fun z=> .int k z:=by
 intro zs
 induction zs with
 |nil=>intro l h;cases h;rfl
 |cons z zs ih=>
  intro l h
  cases h with
  |cons _ v _ l' h hl=>cases h;rw[ih hl];rfl
theorem ui {P:Program} {ι:ax} {B:Nat} {h:NH} {w:World} (hR:Rel P ι B h w) {g:Nat} (hg:g<NG) (hn:GN g=20) (hN:P.globalNamed "internal/strconv.uint64pow10" =some g) (ht:pP g h=true):Lib.TabIs P w "internal/strconv.uint64pow10" .u64 Lib.pow10Tab:=by
 unfold pP at ht
 split at ht
 ·rename_i wr c hc
  have:=dN (dH 1) ht
  subst this
  obtain ⟨cur,T,fz,k1,k2⟩:=hR.global hg hc (by rw[hn];decide+kernel)
  rw[jC] at k2
  have:=VRL.ints k2
  unfold Lib.TabIs World.var?
  rw[hN]
  simp only[Option.bind_some,k1]
  rw[←this]
 ·cases ht
theorem qJ {P:Program} {ρ:Shelf.Ren} (L:LaysM.n171 P ρ) {g:Nat} (hg:g<NG) (hn:GN g=20) (hN:P.globalNamed "internal/strconv.uint64pow10" =some g):cV P (ρ.f 171) (nO g):=
 cV.plain (enters_of L.f171 (by kernel_rfl) rfl) fun ι B h w args args' v h' hF hR hl=>by
  unfold nO at hF
  split at hF
  ·rename_i n
   obtain ⟨c1,hF⟩:=av hF
   obtain ⟨c2,hF⟩:=av hF
   obtain ⟨c3,hF⟩:=av hF
   cases hF
   rw[bp] at c2 c3
   have h0:-9223372036854775808<=n:=of_decide_eq_true c2
   have h1:n<=9223372036854775807:=of_decide_eq_true c3
   cases hl with
   |cons _ _ _ _ hx hnil=>
    cases hnil;cases hx
    refine ⟨rfl,(Any.strconv_Itoa L n h0 h1 w (ui hR hg hn hN c1)).mono ?_⟩
    rintro e w' ⟨rfl,k,os,rfl⟩
    refine ⟨⟨_,rfl,.str _ _ ?_⟩,mn _ _ _⟩
    rw[qU h0 h1]
  ·cases hF
theorem re {P:Program} {f g:Nat} (hg:g<NG) (hn:GN g=1) (hen:∀args w,(callFunc f args).run P w= .ok (.enter f args) w)
 (H:∀(fn s:ByteArray) (ev:Value) (w:World),s.size<=281474976710656->w.cell? ⟨g,0,none⟩=some ev->(ev= .nilIface∨∃te pe,ev= .iface te pe)->
  Calls P f #[.string fn,.string s] w fun e w'=>∃N T,e= .returned (.pointer (some ⟨N,0,none⟩))/\w.heap.size<=N/\w'.heap[N]? =some (.cells #[.string fn,.string s,ev] T (0,0))/\Below w.heap.size w w'):cV P f (oI g):=
 cV.of hen fun ι B h w args args' v h' hF hR hB hl=>by
  unfold oI at hF
  split at hF
  ·rename_i fn s
   rw[aW] at hF
   obtain ⟨c1,hF⟩:=av hF
   have hlen:=Nat.le_of_ble_eq_true c1
   split at hF
   ·rename_i wr t x hc
    rw[NH.new_eq] at hF
    cases hF
    obtain ⟨cur,T,fz,k1,k2⟩:=hR.global hg hc (by rw[hn];rfl)
    cases hl with
    |cons _ _ _ _ h1 hl=>cases hl with
     |cons _ _ _ _ h2 hl=>
      cases hl
      cases h1 with
      |str _ fn' _=>cases h2 with
       |str _ s' hs=>
        subst hs
        have hcur:∃te pe,cur=#[.iface te pe]:=by
         generalize hcl:cur.toList=cl at k2
         cases k2 with
         |cons _ _ _ _ a b=>cases a with
          |ifc _ _ v' _=>cases b;exact ⟨t,v',by apply Array.ext';simpa using hcl⟩
        obtain ⟨te,pe,rfl⟩:=hcur
        have hcell:w.cell? ⟨g,0,none⟩=some (.iface te pe):=by unfold World.cell?;rw[k1];rfl
        refine (H fn' s' _ w (by simpa using hlen) hcell (.inr ⟨te,pe,rfl⟩)).mono ?_
        rintro e w' ⟨N,T',rfl,hN,hb',hbl⟩
        obtain ⟨ι',q1,q2,q3⟩:=hR.made hbl hN hb'
        refine ⟨ι',_,rfl, ?_,q2,Nat.le_trans hB hbl.size,q3⟩
        have:=VR.ptr h.next 0 _ q1
        simpa using this
   ·cases hF
  ·cases hF
theorem vk {P:Program} {ρ:Shelf.Ren} (L:LaysM.n280 P ρ) {f g:Nat} (hf:ρ.f 280=f) (hg':ρ.g 16=g) (hg:g<NG) (hn:GN g=1):cV P f (oI g):=by
 subst hf;subst hg'
 exact re hg hn (enters_of L.f280 (by kernel_rfl) rfl) fun fn s ev w h1 h2 h3=>(Any.strconv_rangeError L fn s ev w h1 h2 h3).mono fun e w' ⟨N,h⟩=>⟨N,_,h⟩
theorem uO {P:Program} {ρ:Shelf.Ren} (L:LaysM.n279 P ρ) {f g:Nat} (hf:ρ.f 279=f) (hg':ρ.g 15=g) (hg:g<NG) (hn:GN g=1):cV P f (oI g):=by
 subst hf;subst hg'
 exact re hg hn (enters_of L.f279 (by kernel_rfl) rfl) fun fn s ev w h1 h2 h3=>(Any.strconv_syntaxError L fn s ev w h1 h2 h3).mono fun e w' ⟨N,h⟩=>⟨N,_,h⟩
theorem sw {P:Program} {ρ:Shelf.Ren} (L:LaysM.n171 P ρ) {f g:Nat} (hf:ρ.f 171=f) (hg:g<NG) (hn:GN g=20) (hN:P.globalNamed "internal/strconv.uint64pow10" =some g):cV P f (nO g):=hf▸qJ L hg hn hN
end
end Nm
namespace LI
open Go Nm Go.Proofs
open Nm.D4 (e)
open Nm.NC (reg regD)
open Nm.C
noncomputable def xG:NFun:=⟨(reg [o e.a (.box (t e) 23) 0,o e.b (.move kf) 1]).seq ((reg [o e.a.c (.call (F 8) []) 0,m e.c e.a.c 1]).seq ((reg [o e.a.f (.loadN 7 (t e.a)) 0,o e.b.a (.call (F 9) [t e.a.f]) 1,m e.f e.b.a 2]).seq (((reg [m e.b.b e.c 0,o e.b.c (.un .not (t e.b.b)) 1,m e.b.f e.b.c 2,G e.c.a (.move (t e.f)) e.b.f false 3,G e.c.b (.loadN 7 (t e.a)) e.b.f false 4,G e.c.c (.call (F 10) [t e.c.b]) e.b.f false 5,G e.c.f (.bin .num .neq (t e.c.a) (t e.c.c)) e.b.f false 6,o e.f.a (.pick (t e.b.f) kt (t e.c.f)) 7]).seq (NC.cond (t e.f.a) ((reg [o e.b (.move kf) 0]).seq NC.ret) NC.skip)).seq (((reg [o e.f.b (.loadN 7 (t e.a)) 0,o e.f.c (.call (F 11) [t e.f.b]) 1,o e.f.f (.un .not (t e.f.c)) 2]).seq (NC.cond (t e.f.f) ((reg [m e.a.a.a e.f 0,b e.a.a.b .eql (t e.a.a.a) (.const (.str [])) 1,m e.b e.a.a.b 2]).seq NC.ret) NC.skip)).seq ((reg [m e.a.a.f e.f 0,o e.a.b.a (.call (F 12) [t e.a.a.f]) 1,m e.a.a.c e.a.b.a 2,x e.a.b.b e.a.a.c 0 3,x e.a.b.c e.a.a.c 1 4,o e.a.a (.alloc [.int .i64 (.lit 0),.int .i64 (.lit 0),.int .i64 (.lit 0),.int .i64 (.lit 0),.int .i64 (.lit 0),.int .i64 (.lit 0),.int .i64 (.lit 0)] 23) 5,q (.store 7 (t e.a.a) (t e.a.b.b)) 6,m e.a.b e.a.b.c 7]).seq ((reg [m e.a.b.f e.a.b 0,o e.a.c.a (.call (F 13) [t e.a.b.f]) 1,b e.a.c.b .eql (t e.a.c.a) (k 0) 2,m e.a.c.c e.a.c.b 3,G e.a.c.f (.loadN 7 (t e.a.a)) e.a.c.c true 4,G e.a.f.a (.loadN 7 (t e.a)) e.a.c.c true 5,G e.a.f.b (.eqAgg false [.int,.int,.int,.int,.int,.int,.int] (t e.a.c.f) (t e.a.f.a)) e.a.c.c true 6,o e.a.f.c (.pick (t e.a.c.c) (t e.a.f.b) kf) 7,m e.b e.a.f.c 8]).seq NC.ret)))))),36, [.tmp e.b]⟩
theorem uY:aj Tryd.prog 3=some (.code xG):=by kernel_rfl
noncomputable def xE:NFun:=⟨(reg [o e.b (.move kf) 0]).seq ((reg [o e.a.b (.call (F 8) []) 0,m e.c e.a.b 1]).seq (((reg [m e.a.c e.c 0,o e.a.f (.un .not (t e.a.c)) 1,m e.b.a e.a.f 2,G e.b.b (.move (t e)) e.b.a false 3,G e.b.c (.lenStr (t e.b.b)) e.b.a false 4,G e.b.f (.bin .num .gtr (t e.b.c) (k 100)) e.b.a false 5,o e.c.a (.pick (t e.b.a) kt (t e.b.f)) 6]).seq (NC.cond (t e.c.a) ((reg [m e.c.b e.c 0,m e.b e.c.b 1]).seq NC.ret) NC.skip)).seq ((reg [m e.c.f e 0,o e.f.a (.call (F 12) [t e.c.f]) 1,m e.c.c e.f.a 2,x e.f.b e.c.c 0 3,x e.f.c e.c.c 1 4,o e.f (.alloc [.int .i64 (.lit 0),.int .i64 (.lit 0),.int .i64 (.lit 0),.int .i64 (.lit 0),.int .i64 (.lit 0),.int .i64 (.lit 0),.int .i64 (.lit 0)] 23) 5,q (.store 7 (t e.f) (t e.f.b)) 6,m e.a.a e.f.c 7]).seq (((reg [m e.f.f e.a.a 0,o e.a.a.a (.call (F 13) [t e.f.f]) 1,b e.a.a.b .neq (t e.a.a.a) (k 0) 2]).seq (NC.cond (t e.a.a.b) ((reg [m e.a.a.c e.a.a 0,o e.a.a.f (.call (F 13) [t e.a.a.c]) 1,b e.a.b.a .eql (t e.a.a.f) (k 2) 2,m e.a.b.b e.a.b.a 3,G e.a.b.c (.loadN 7 (t e.f)) e.a.b.b true 4,G e.a.b.f (.build [.int .i64 (.lit 0),.int .i64 (.lit 0),.int .i64 (.lit 0),.int .i64 (.lit 0),.int .i64 (.lit 0),.int .i64 (.lit 0),.int .i64 (.lit 0)] []) e.a.b.b true 5,G e.a.c.a (.eqAgg false [.int,.int,.int,.int,.int,.int,.int] (t e.a.b.c) (t e.a.b.f)) e.a.b.b true 6,o e.a.c.b (.pick (t e.a.b.b) (t e.a.c.a) kf) 7,m e.b e.a.c.b 8]).seq NC.ret) NC.skip)).seq ((reg [o e.a.c.c (.loadN 7 (t e.f)) 0,o e.a.c.f (.call (F 10) [t e.a.c.c]) 1,m e.a.f.a e 2,b e.a.f.b .eql (t e.a.c.f) (t e.a.f.a) 3,m e.a.f.c e.a.f.b 4,G e.a.f.f (.loadN 7 (t e.f)) e.a.f.c true 5,G e.b.a.a (.call (F 11) [t e.a.f.f]) e.a.f.c true 6,o e.b.a.b (.pick (t e.a.f.c) (t e.b.a.a) kf) 7,m e.b e.b.a.b 8]).seq NC.ret))))),39, [.tmp e.b]⟩
theorem up:aj Tryd.prog 4=some (.code xE):=by kernel_rfl
noncomputable def xF:NFun:=⟨(reg [o e.b (.move kf) 0]).seq ((reg [o e.a.f (.call (F 8) []) 0,m e.c e.a.f 1]).seq ((reg [o e.b.a (.buildSlice [.str [],.str [],.str [],.str [],.str [],.str [],.str [],.str [],.str [],.str [],.str [],.str [],.str [],.str [],.str [],.str [],.str [],.str [],.str [],.str [],.str [],.str [],.str [],.str [],.str [],.str []] 1 26 9 [(0,1,.const (.str [])),(1,1,.const (.str [110,111,112,32])),(2,1,.const (.str [32,110,111,112])),(3,1,.const (.str [110,111,112,32,48])),(4,1,.const (.str [78,111,112])),(5,1,.const (.str [109,111,118,122,32,49,32,50])),(6,1,.const (.str [109,111,118,122,32,49,32,50,32,48,32,48])),(7,1,.const (.str [109,111,118,122,32,49,32,54,53,53,51,54,32,48])),(8,1,.const (.str [109,111,118,122,32,48,49,32,50,32,48])),(9,1,.const (.str [109,111,118,122,32,49,32,32,50,32,48])),(10,1,.const (.str [97,100,100,32,49,32,50,32,51,50])),(11,1,.const (.str [98,32,45,48])),(12,1,.const (.str [98,32,43,49])),(13,1,.const (.str [98,32,45,49])),(14,1,.const (.str [98])),(15,1,.const (.str [98,99,32,50,32,53])),(16,1,.const (.str [98,99,32,49,49,32,45,53])),(17,1,.const (.str [108,100,114,32,49,32,50,56,32,52,48,57,54])),(18,1,.const (.str [108,100,114,32,49,32,50,56,32,52,48,57,53])),(19,1,.const (.str [115,116,120,114,32,51,32,49,32,50])),(20,1,.const (.str [99,118,97,112,32,51,49])),(21,1,.const (.str [99,118,97,112,32,51,50])),(22,1,.const (.str [104,108,116])),(23,1,.const (.str [115,118,99,32,49])),(24,1,.const (.str [120,121,122])),(25,1,.const (.str [98,32,57,50,50,51,51,55,50,48,51,54,56,53,52,55,55,53,56,48,56]))]) 0,m e.f e.b.a 1]).seq ((reg [o e.b.b (.buildSlice [.bool false,.bool false,.bool false,.bool false,.bool false,.bool false,.bool false,.bool false,.bool false,.bool false,.bool false,.bool false,.bool false,.bool false,.bool false,.bool false,.bool false,.bool false,.bool false,.bool false,.bool false,.bool false,.bool false,.bool false,.bool false,.bool false] 1 26 4 [(0,1,.const (.bool false)),(1,1,.const (.bool false)),(2,1,.const (.bool false)),(3,1,.const (.bool false)),(4,1,.const (.bool false)),(5,1,.const (.bool false)),(6,1,.const (.bool false)),(7,1,.const (.bool false)),(8,1,.const (.bool false)),(9,1,.const (.bool false)),(10,1,.const (.bool false)),(11,1,.const (.bool false)),(12,1,.const (.bool false)),(13,1,.const (.bool true)),(14,1,.const (.bool false)),(15,1,.const (.bool false)),(16,1,.const (.bool true)),(17,1,.const (.bool false)),(18,1,.const (.bool true)),(19,1,.const (.bool true)),(20,1,.const (.bool true)),(21,1,.const (.bool false)),(22,1,.const (.bool true)),(23,1,.const (.bool false)),(24,1,.const (.bool false)),(25,1,.const (.bool false))]) 0,m e.a.a e.b.b 1]).seq (((reg [m e.b.c e.c 0,o e.b.f (.un .not (t e.b.c)) 1,m e.c.a e.b.f 2,G e.c.b (.move (t e)) e.c.a false 3,G e.c.c (.bin .num .lss (t e.c.b) (k 0)) e.c.a false 4,o e.c.f (.pick (t e.c.a) kt (t e.c.c)) 5,m e.f.a e.c.f 6,G e.f.b (.move (t e)) e.f.a false 7,G e.f.c (.move (t e.f)) e.f.a false 8,G e.f.f (.lenSlc (t e.f.c)) e.f.a false 9,G e.a.a.a (.bin .num .geq (t e.f.b) (t e.f.f)) e.f.a false 10,o e.a.a.b (.pick (t e.f.a) kt (t e.a.a.a)) 11]).seq (NC.cond (t e.a.a.b) ((reg [m e.a.a.c e.c 0,m e.b e.a.a.c 1]).seq NC.ret) NC.skip)).seq ((reg [m e.a.b.a e.f 0,m e.a.b.b e 1,o e.a.b.c (.indexSlc 1 (t e.a.b.a) (t e.a.b.b)) 2,l e.a.b.f e.a.b.c 3,o e.a.c.a (.call (F 12) [t e.a.b.f]) 4,m e.a.a.f e.a.c.a 5,x e.a.c.b e.a.a.f 0 6,x e.a.c.c e.a.a.f 1 7,o e.a.b (.alloc [.int .i64 (.lit 0),.int .i64 (.lit 0),.int .i64 (.lit 0),.int .i64 (.lit 0),.int .i64 (.lit 0),.int .i64 (.lit 0),.int .i64 (.lit 0)] 23) 8,q (.store 7 (t e.a.b) (t e.a.c.b)) 9,m e.a.c e.a.c.c 10]).seq ((regD [m e.a.c.f e.a.c 0,m e.a.f.c e.a.a 3,m e.a.f.f e 4,O e.b.a.a (.indexSlc 1 (t e.a.f.c) (t e.a.f.f)) 24 5,O e.b.a.b (.load1 (t e.b.a.a)) 56 6,O e.a.f.a (.call (F 13) [t e.a.c.f]) 1 1,O e.a.f.b (.bin .num .eql (t e.a.f.a) (k 0)) 3 2,O e.b.a.c (.bin .bool .eql (t e.a.f.b) (t e.b.a.b)) 127 7,O e.b (.move (t e.b.a.c)) 255 8]).seq NC.ret)))))),40, [.tmp e.b]⟩
theorem uG:aj Tryd.prog 5=some (.code xF):=by kernel_rfl
noncomputable def xK:NFun:=⟨(reg [o e.b (.box (t e) 23) 0,o e.c (.box (t e.a) 23) 1,o e.f (.move kf) 2]).seq ((reg [o e.a.b (.call (F 8) []) 0,m e.a.a e.a.b 1]).seq (((reg [m e.a.c e.a.a 0,o e.a.f (.un .not (t e.a.c)) 1,m e.b.a e.a.f 2,G e.b.b (.loadN 7 (t e.b)) e.b.a false 3,G e.b.c (.call (F 11) [t e.b.b]) e.b.a false 4,G e.b.f (.un .not (t e.b.c)) e.b.a false 5,o e.c.a (.pick (t e.b.a) kt (t e.b.f)) 6,m e.c.b e.c.a 7,G e.c.c (.loadN 7 (t e.c)) e.c.b false 8,G e.c.f (.call (F 11) [t e.c.c]) e.c.b false 9,G e.f.a (.un .not (t e.c.f)) e.c.b false 10,o e.f.b (.pick (t e.c.b) kt (t e.f.a)) 11]).seq (NC.cond (t e.f.b) ((reg [m e.f.c e.a.a 0,m e.f e.f.c 1]).seq NC.ret) NC.skip)).seq ((regD [o e.f.f (.loadN 7 (t e.b)) 0,o e.a.a.b (.loadN 7 (t e.c)) 2,o e.a.b.a (.loadN 7 (t e.b)) 5,o e.a.b.b (.loadN 7 (t e.c)) 6,O e.a.b.c (.eqAgg false [.int,.int,.int,.int,.int,.int,.int] (t e.a.b.a) (t e.a.b.b)) 96 7,O e.a.a.a (.call (F 9) [t e.f.f]) 1 1,O e.a.a.c (.call (F 9) [t e.a.a.b]) 7 3,O e.a.a.f (.bin .num .eql (t e.a.a.a) (t e.a.a.c)) 15 4,O e.a.b.f (.bin .bool .eql (t e.a.a.f) (t e.a.b.c)) 255 8,O e.f (.move (t e.a.b.f)) 511 9]).seq NC.ret))),29, [.tmp e.f]⟩
theorem uI:aj Tryd.prog 6=some (.code xK):=by kernel_rfl
noncomputable def xI:NFun:=⟨(reg [o e (.move kf) 0]).seq ((reg [o e.f (.call (F 12) [.const (.str [109,111,118,122,32,49,32,50,32,48])]) 0,m e.c e.f 1,x e.a.a e.c 0 2,x e.a.b e.c 1 3,o e.a (.alloc [.int .i64 (.lit 0),.int .i64 (.lit 0),.int .i64 (.lit 0),.int .i64 (.lit 0),.int .i64 (.lit 0),.int .i64 (.lit 0),.int .i64 (.lit 0)] 23) 4,q (.store 7 (t e.a) (t e.a.a)) 5,m e.b e.a.b 6]).seq ((reg [o e.a.c (.build [.int .i64 (.lit 0),.int .i64 (.lit 0),.int .i64 (.lit 0),.int .i64 (.lit 0),.int .i64 (.lit 0),.int .i64 (.lit 0),.int .i64 (.lit 0)] [(0,1,k 21)]) 0,o e.a.f (.call (F 9) [t e.a.c]) 1,b e.b.a .eql (t e.a.f) (.const (.str [110,111,112])) 2,m e.b.b e.b.a 3,G e.b.c (.move (t e.b)) e.b.b true 4,G e.b.f (.call (F 13) [t e.b.c]) e.b.b true 5,G e.c.a (.bin .num .eql (t e.b.f) (k 0)) e.b.b true 6,o e.c.b (.pick (t e.b.b) (t e.c.a) kf) 7,m e.c.c e.c.b 8,G e.c.f (.loadN 7 (t e.a)) e.c.c true 9,G e.f.a (.build [.int .i64 (.lit 0),.int .i64 (.lit 0),.int .i64 (.lit 0),.int .i64 (.lit 0),.int .i64 (.lit 0),.int .i64 (.lit 0),.int .i64 (.lit 0)] [(0,1,k 0),(1,1,k 1),(6,1,k 2)]) e.c.c true 10,G e.f.b (.eqAgg false [.int,.int,.int,.int,.int,.int,.int] (t e.c.f) (t e.f.a)) e.c.c true 11,o e.f.c (.pick (t e.c.c) (t e.f.b) kf) 12,m e e.f.c 13]).seq NC.ret)),20, [.tmp e]⟩
theorem vg:aj Tryd.prog 8=some (.code xI):=by kernel_rfl
noncomputable def uQ:NC:=((reg [b e.f.f .lss (t e.f.c) (t e.f.b) 0]).seq ((NC.cond (t e.f.f) NC.skip (NC.exit 0)).seq ((NC.block 1 ((reg [m e.a.a.a e.f.c 0,m e.a.a e.a.a.a 1]).seq (reg [m e.a.a.b e.f 0,f 1 e.a.a.c e.c 1,l e.a.a.f e.a.a.c 2,m e.a.b.a e.a.a 3,o e.a.b.b (.indexStr (t e.a.a.f) (t e.a.b.a)) 4,o e.a.b.c (.call (F 21) [t e.a,t e.a.b.b]) 5,n e.a.b.f e.a.b.c 6,l e.a.c.a e.a.b.f 7,o e.a.c.b (.call (F 20) [t e.a.c.a]) 8,b e.a.c.c .add (.const (.str [32])) (t e.a.c.b) 9,b e.a.c.f .add (t e.a.a.b) (t e.a.c.c) 10,m e.f e.a.c.f 11]))).seq (reg [b e.a.f.a .add (t e.f.c) (k 1) 0,m e.f.c e.a.f.a 1]))))
noncomputable def xD:NFun:=⟨(reg [o e.a (.box (t e) 23) 0,o e.b (.move (.const (.str []))) 1]).seq (((reg [o e.a.b (.loadN 7 (t e.a)) 0,o e.a.c (.call (F 18) [t e.a.b]) 1,o e.a.f (.un .not (t e.a.c)) 2]).seq (NC.cond (t e.a.f) ((reg [o e.b (.move (.const (.str []))) 0]).seq NC.ret) NC.skip)).seq ((regD [f 0 e.b.b e.a 1,O e.b.c (.load1 (t e.b.b)) 2 2,o e.c (.alloc [.str [],.str []] 46) 5,o e.b.a (.call (F 19) []) 0,O e.b.f (.indexSlc 2 (t e.b.a) (t e.b.c)) 7 3,O e.c.a (.loadN 2 (t e.b.f)) 15 4,⟨none,.store 2 (t e.c) (t e.c.a),none,63,6⟩]).seq ((reg [f 0 e.c.b e.c 0,l e.c.c e.c.b 1,m e.f e.c.c 2]).seq (((reg [f 1 e.c.f e.c 0,l e.f.a e.c.f 1,o e.f.b (.lenStr (t e.f.a)) 2,o e.f.c (.move (k 0)) 3]).seq (NC.block 0 uQ.loop)).seq ((reg [m e.a.f.b e.f 0,m e.b e.a.f.b 1]).seq NC.ret))))),35, [.tmp e.b]⟩
theorem vb:aj Tryd.prog 9=some (.code xD):=by kernel_rfl
noncomputable def sI:NC:=(((reg [m e.a.b.b.c e.a.b 0,m e.a.b.b.f e.f 1,L e.a.b.c.a e.a.b.b.f 2,b e.a.b.c.b .lss (t e.a.b.b.c) (t e.a.b.c.a) 3]).seq (NC.cond (t e.a.b.c.b) NC.skip (NC.exit 1))).seq ((NC.block 2 (reg [m e.a.b.f.a e.a.a 0,b e.a.b.f.b .add (t e.a.b.f.a) (.const (.str [32])) 1,m e.a.b.f.c e.f 2,m e.a.b.f.f e.a.b 3,o e.a.c.a.a (.indexSlc 1 (t e.a.b.f.c) (t e.a.b.f.f)) 4,l e.a.c.a.b e.a.c.a.a 5,o e.a.c.a.c (.call (F 22) [t e.a.c.a.b]) 6,b e.a.c.a.f .add (t e.a.b.f.b) (t e.a.c.a.c) 7,m e.a.a e.a.c.a.f 8])).seq (reg [m e.a.b.c.c e.a.b 0,b e.a.b.c.f .add (t e.a.b.c.c) (k 1) 1,m e.a.b e.a.b.c.f 2])))
noncomputable def vU:NFun:=⟨(reg [o e.a (.box (t e) 23) 0,o e.b (.move (.const (.str []))) 1]).seq (((reg [o e.a.c (.loadN 7 (t e.a)) 0,o e.a.f (.call (F 11) [t e.a.c]) 1,o e.b.a (.un .not (t e.a.f)) 2]).seq (NC.cond (t e.b.a) ((reg [o e.b (.move (.const (.str []))) 0]).seq NC.ret) NC.skip)).seq ((reg [o e.b.b (.buildSlice [.str [],.str [],.str [],.str [],.str [],.str [],.str [],.str [],.str [],.str [],.str [],.str [],.str [],.str [],.str [],.str [],.str [],.str [],.str [],.str [],.str [],.str [],.str [],.str []] 1 24 9 [(0,1,.const (.str [109,111,118,122])),(1,1,.const (.str [109,111,118,107])),(2,1,.const (.str [97,100,100])),(3,1,.const (.str [115,117,98])),(4,1,.const (.str [109,117,108])),(5,1,.const (.str [97,110,100])),(6,1,.const (.str [99,109,112])),(7,1,.const (.str [99,115,101,116])),(8,1,.const (.str [98])),(9,1,.const (.str [98,99])),(10,1,.const (.str [99,98,122])),(11,1,.const (.str [99,98,110,122])),(12,1,.const (.str [108,100,114])),(13,1,.const (.str [115,116,114])),(14,1,.const (.str [108,100,97,114])),(15,1,.const (.str [115,116,108,114])),(16,1,.const (.str [108,100,120,114])),(17,1,.const (.str [115,116,120,114])),(18,1,.const (.str [100,109,98])),(19,1,.const (.str [100,115,98])),(20,1,.const (.str [99,118,97,112])),(21,1,.const (.str [110,111,112])),(22,1,.const (.str [104,108,116])),(23,1,.const (.str [115,118,99]))]) 0,m e.c e.b.b 1]).seq ((reg [o e.f (.move kn) 0]).seq (((reg [f 0 e.b.c e.a 0,l e.b.f e.b.c 1]).seq (NC.block 0 (((reg [b e.c.b .eql (t e.b.f) (k 0) 0,m e.c.a e.c.b 1]).seq (NC.cond (t e.c.a) NC.skip (reg [b e.c.c .eql (t e.b.f) (k 1) 0,m e.c.a e.c.c 1]))).seq (NC.cond (t e.c.a) (reg [f 1 e.c.f e.a 0,l e.f.a e.c.f 1,f 6 e.f.b e.a 2,l e.f.c e.f.b 3,f 4 e.f.f e.a 4,l e.a.a.a e.f.f 5,o e.a.a.b (.buildSlice [.int .i64 (.lit 0),.int .i64 (.lit 0),.int .i64 (.lit 0)] 1 3 3 [(0,1,t e.f.a),(1,1,t e.f.c),(2,1,t e.a.a.a)]) 6,m e.f e.a.a.b 7]) (((reg [b e.a.a.f .eql (t e.b.f) (k 2) 0,m e.a.a.c e.a.a.f 1]).seq (NC.cond (t e.a.a.c) NC.skip ((reg [b e.a.b.a .eql (t e.b.f) (k 3) 0,m e.a.a.c e.a.b.a 1]).seq (NC.cond (t e.a.a.c) NC.skip ((reg [b e.a.b.b .eql (t e.b.f) (k 4) 0,m e.a.a.c e.a.b.b 1]).seq (NC.cond (t e.a.a.c) NC.skip (reg [b e.a.b.c .eql (t e.b.f) (k 5) 0,m e.a.a.c e.a.b.c 1]))))))).seq (NC.cond (t e.a.a.c) (reg [f 1 e.a.b.f e.a 0,l e.a.c.a e.a.b.f 1,f 2 e.a.c.b e.a 2,l e.a.c.c e.a.c.b 3,f 3 e.a.c.f e.a 4,l e.a.f.a e.a.c.f 5,o e.a.f.b (.buildSlice [.int .i64 (.lit 0),.int .i64 (.lit 0),.int .i64 (.lit 0)] 1 3 3 [(0,1,t e.a.c.a),(1,1,t e.a.c.c),(2,1,t e.a.f.a)]) 6,m e.f e.a.f.b 7]) ((reg [b e.a.f.f .eql (t e.b.f) (k 6) 0,m e.a.f.c e.a.f.f 1]).seq (NC.cond (t e.a.f.c) (reg [f 2 e.b.a.a e.a 0,l e.b.a.b e.b.a.a 1,f 3 e.b.a.c e.a 2,l e.b.a.f e.b.a.c 3,o e.b.b.a (.buildSlice [.int .i64 (.lit 0),.int .i64 (.lit 0)] 1 2 3 [(0,1,t e.b.a.b),(1,1,t e.b.a.f)]) 4,m e.f e.b.b.a 5]) ((reg [b e.b.b.c .eql (t e.b.f) (k 7) 0,m e.b.b.b e.b.b.c 1]).seq (NC.cond (t e.b.b.b) (reg [f 1 e.b.b.f e.a 0,l e.b.c.a e.b.b.f 1,f 5 e.b.c.b e.a 2,l e.b.c.c e.b.c.b 3,o e.b.c.f (.buildSlice [.int .i64 (.lit 0),.int .i64 (.lit 0)] 1 2 3 [(0,1,t e.b.c.a),(1,1,t e.b.c.c)]) 4,m e.f e.b.c.f 5]) ((reg [b e.b.f.b .eql (t e.b.f) (k 8) 0,m e.b.f.a e.b.f.b 1]).seq (NC.cond (t e.b.f.a) (reg [f 6 e.b.f.c e.a 0,l e.b.f.f e.b.f.c 1,o e.c.a.a (.buildSlice [.int .i64 (.lit 0)] 1 1 3 [(0,1,t e.b.f.f)]) 2,m e.f e.c.a.a 3]) ((reg [b e.c.a.c .eql (t e.b.f) (k 9) 0,m e.c.a.b e.c.a.c 1]).seq (NC.cond (t e.c.a.b) (reg [f 5 e.c.a.f e.a 0,l e.c.b.a e.c.a.f 1,f 6 e.c.b.b e.a 2,l e.c.b.c e.c.b.b 3,o e.c.b.f (.buildSlice [.int .i64 (.lit 0),.int .i64 (.lit 0)] 1 2 3 [(0,1,t e.c.b.a),(1,1,t e.c.b.c)]) 4,m e.f e.c.b.f 5]) (((reg [b e.c.c.b .eql (t e.b.f) (k 10) 0,m e.c.c.a e.c.c.b 1]).seq (NC.cond (t e.c.c.a) NC.skip (reg [b e.c.c.c .eql (t e.b.f) (k 11) 0,m e.c.c.a e.c.c.c 1]))).seq (NC.cond (t e.c.c.a) (reg [f 2 e.c.c.f e.a 0,l e.c.f.a e.c.c.f 1,f 6 e.c.f.b e.a 2,l e.c.f.c e.c.f.b 3,o e.c.f.f (.buildSlice [.int .i64 (.lit 0),.int .i64 (.lit 0)] 1 2 3 [(0,1,t e.c.f.a),(1,1,t e.c.f.c)]) 4,m e.f e.c.f.f 5]) (((reg [b e.f.a.b .eql (t e.b.f) (k 12) 0,m e.f.a.a e.f.a.b 1]).seq (NC.cond (t e.f.a.a) NC.skip (reg [b e.f.a.c .eql (t e.b.f) (k 13) 0,m e.f.a.a e.f.a.c 1]))).seq (NC.cond (t e.f.a.a) (reg [f 1 e.f.a.f e.a 0,l e.f.b.a e.f.a.f 1,f 2 e.f.b.b e.a 2,l e.f.b.c e.f.b.b 3,f 6 e.f.b.f e.a 4,l e.f.c.a e.f.b.f 5,o e.f.c.b (.buildSlice [.int .i64 (.lit 0),.int .i64 (.lit 0),.int .i64 (.lit 0)] 1 3 3 [(0,1,t e.f.b.a),(1,1,t e.f.b.c),(2,1,t e.f.c.a)]) 6,m e.f e.f.c.b 7]) (((reg [b e.f.c.f .eql (t e.b.f) (k 14) 0,m e.f.c.c e.f.c.f 1]).seq (NC.cond (t e.f.c.c) NC.skip ((reg [b e.f.f.a .eql (t e.b.f) (k 15) 0,m e.f.c.c e.f.f.a 1]).seq (NC.cond (t e.f.c.c) NC.skip (reg [b e.f.f.b .eql (t e.b.f) (k 16) 0,m e.f.c.c e.f.f.b 1]))))).seq (NC.cond (t e.f.c.c) (reg [f 1 e.f.f.c e.a 0,l e.f.f.f e.f.f.c 1,f 2 e.a.a.a.a e.a 2,l e.a.a.a.b e.a.a.a.a 3,o e.a.a.a.c (.buildSlice [.int .i64 (.lit 0),.int .i64 (.lit 0)] 1 2 3 [(0,1,t e.f.f.f),(1,1,t e.a.a.a.b)]) 4,m e.f e.a.a.a.c 5]) ((reg [b e.a.a.b.a .eql (t e.b.f) (k 17) 0,m e.a.a.a.f e.a.a.b.a 1]).seq (NC.cond (t e.a.a.a.f) (reg [f 4 e.a.a.b.b e.a 0,l e.a.a.b.c e.a.a.b.b 1,f 1 e.a.a.b.f e.a 2,l e.a.a.c.a e.a.a.b.f 3,f 2 e.a.a.c.b e.a 4,l e.a.a.c.c e.a.a.c.b 5,o e.a.a.c.f (.buildSlice [.int .i64 (.lit 0),.int .i64 (.lit 0),.int .i64 (.lit 0)] 1 3 3 [(0,1,t e.a.a.b.c),(1,1,t e.a.a.c.a),(2,1,t e.a.a.c.c)]) 6,m e.f e.a.a.c.f 7]) ((reg [b e.a.a.f.b .eql (t e.b.f) (k 20) 0,m e.a.a.f.a e.a.a.f.b 1]).seq (NC.cond (t e.a.a.f.a) (reg [f 2 e.a.a.f.c e.a 0,l e.a.a.f.f e.a.a.f.c 1,o e.a.b.a.a (.buildSlice [.int .i64 (.lit 0)] 1 1 3 [(0,1,t e.a.a.f.f)]) 2,m e.f e.a.b.a.a 3]) NC.skip)))))))))))))))))))))))).seq ((reg [m e.a.b.a.b e.c 0,f 0 e.a.b.a.c e.a 1,l e.a.b.a.f e.a.b.a.c 2,o e.a.b.b.a (.indexSlc 1 (t e.a.b.a.b) (t e.a.b.a.f)) 3,l e.a.b.b.b e.a.b.b.a 4,m e.a.a e.a.b.b.b 5]).seq (((reg [o e.a.b (.move (k 0)) 0]).seq (NC.block 1 sI.loop)).seq ((reg [m e.a.c.b.a e.a.a 0,m e.b e.a.c.b.a 1]).seq NC.ret))))))),122, [.tmp e.b]⟩
theorem rW:aj Tryd.prog 10=some (.code vU):=by kernel_rfl
noncomputable def vQ:NFun:=⟨(reg [o e.a (.box (t e) 23) 0,o e.b (.move kf) 1]).seq ((reg [f 0 e.a.b e.a 0,l e.a.c e.a.b 1,o e.a.f (.call (F 23) [t e.a.c]) 2,m e.a.a e.a.f 3,x e.b.a e.a.a 0 4,x e.b.b e.a.a 1 5,o e.c (.alloc [.int .u32 (.lit 0),.int .i64 (.lit 0),.int .i64 (.lit 0),.int .i64 (.lit 0),.int .i64 (.lit 0),.int .i64 (.lit 0),.int .i64 (.lit 0),.int .i64 (.lit 0),.int .i64 (.lit 0),.int .i64 (.lit 0),.int .i64 (.lit 0),.int .i64 (.lit 0),.int .i64 (.lit 0),.bool false,.bool false] 58) 6,q (.store 15 (t e.c) (t e.b.a)) 7,m e.f e.b.b 8]).seq (((reg [m e.b.c e.f 0,o e.b.f (.un .not (t e.b.c)) 1,m e.c.a e.b.f 2,G e.c.b (.fieldAddr 1 (t e.a)) e.c.a false 3,G e.c.c (.load1 (t e.c.b)) e.c.a false 4,G e.c.f (.fieldAddr 1 (t e.c)) e.c.a false 5,G e.f.a (.fieldAddr 1 (t e.c.f)) e.c.a false 6,G e.f.b (.load1 (t e.f.a)) e.c.a false 7,G e.f.c (.call (F 24) [t e.c.c,t e.f.b]) e.c.a false 8,G e.f.f (.un .not (t e.f.c)) e.c.a false 9,o e.a.a.a (.pick (t e.c.a) kt (t e.f.f)) 10,m e.a.a.b e.a.a.a 11,G e.a.a.c (.fieldAddr 2 (t e.a)) e.a.a.b false 12,G e.a.a.f (.load1 (t e.a.a.c)) e.a.a.b false 13,G e.a.b.a (.fieldAddr 3 (t e.c)) e.a.a.b false 14,G e.a.b.b (.fieldAddr 1 (t e.a.b.a)) e.a.a.b false 15,G e.a.b.c (.load1 (t e.a.b.b)) e.a.a.b false 16,G e.a.b.f (.call (F 24) [t e.a.a.f,t e.a.b.c]) e.a.a.b false 17,G e.a.c.a (.un .not (t e.a.b.f)) e.a.a.b false 18,o e.a.c.b (.pick (t e.a.a.b) kt (t e.a.c.a)) 19,m e.a.c.c e.a.c.b 20,G e.a.c.f (.fieldAddr 3 (t e.a)) e.a.c.c false 21,G e.a.f.a (.load1 (t e.a.c.f)) e.a.c.c false 22,G e.a.f.b (.fieldAddr 5 (t e.c)) e.a.c.c false 23,G e.a.f.c (.fieldAddr 1 (t e.a.f.b)) e.a.c.c false 24,G e.a.f.f (.load1 (t e.a.f.c)) e.a.c.c false 25,G e.b.a.a (.call (F 24) [t e.a.f.a,t e.a.f.f]) e.a.c.c false 26,G e.b.a.b (.un .not (t e.b.a.a)) e.a.c.c false 27,o e.b.a.c (.pick (t e.a.c.c) kt (t e.b.a.b)) 28,m e.b.a.f e.b.a.c 29,G e.b.b.a (.fieldAddr 4 (t e.a)) e.b.a.f false 30,G e.b.b.b (.load1 (t e.b.b.a)) e.b.a.f false 31,G e.b.b.c (.fieldAddr 7 (t e.c)) e.b.a.f false 32,G e.b.b.f (.fieldAddr 1 (t e.b.b.c)) e.b.a.f false 33,G e.b.c.a (.load1 (t e.b.b.f)) e.b.a.f false 34,G e.b.c.b (.call (F 24) [t e.b.b.b,t e.b.c.a]) e.b.a.f false 35,G e.b.c.c (.un .not (t e.b.c.b)) e.b.a.f false 36,o e.b.c.f (.pick (t e.b.a.f) kt (t e.b.c.c)) 37]).seq (NC.cond (t e.b.c.f) ((reg [o e.b (.move kf) 0]).seq NC.ret) NC.skip)).seq (((reg [f 13 e.b.f.a e.c 0,l e.b.f.b e.b.f.a 1,m e.b.f.c e.b.f.b 2,G e.b.f.f (.fieldAddr 6 (t e.a)) e.b.f.c true 3,G e.c.a.a (.load1 (t e.b.f.f)) e.b.f.c true 4,G e.c.a.b (.fieldAddr 9 (t e.c)) e.b.f.c true 5,G e.c.a.c (.fieldAddr 1 (t e.c.a.b)) e.b.f.c true 6,G e.c.a.f (.load1 (t e.c.a.c)) e.b.f.c true 7,G e.c.b.a (.call (F 25) [t e.c.a.a,t e.c.a.f]) e.b.f.c true 8,G e.c.b.b (.un .not (t e.c.b.a)) e.b.f.c true 9,o e.c.b.c (.pick (t e.b.f.c) (t e.c.b.b) kf) 10,m e.c.b.f e.c.b.c 11,G e.c.c.a (.fieldAddr 13 (t e.c)) e.c.b.f false 12,G e.c.c.b (.load1 (t e.c.c.a)) e.c.b.f false 13,G e.c.c.c (.un .not (t e.c.c.b)) e.c.b.f false 14,G e.c.c.f (.move (t e.c.c.c)) e.c.b.f false 15,G e.c.f.a (.fieldAddr 6 (t e.a)) e.c.c.f true 16,G e.c.f.b (.load1 (t e.c.f.a)) e.c.c.f true 17,G e.c.f.c (.fieldAddr 9 (t e.c)) e.c.c.f true 18,G e.c.f.f (.fieldAddr 1 (t e.c.f.c)) e.c.c.f true 19,G e.f.a.a (.load1 (t e.c.f.f)) e.c.c.f true 20,G e.f.a.b (.call (F 24) [t e.c.f.b,t e.f.a.a]) e.c.c.f true 21,G e.f.a.c (.un .not (t e.f.a.b)) e.c.c.f true 22,G e.f.a.f (.pick (t e.c.c.f) (t e.f.a.c) kf) e.c.b.f false 23,o e.f.b.a (.pick (t e.c.b.f) kt (t e.f.a.f)) 24]).seq (NC.cond (t e.f.b.a) ((reg [o e.b (.move kf) 0]).seq NC.ret) NC.skip)).seq (((reg [f 11 e.f.b.b e.c 0,f 1 e.f.b.c e.f.b.b 1,l e.f.b.f e.f.b.c 2,b e.f.c.a .eql (t e.f.b.f) (k 0) 3]).seq (NC.cond (t e.f.c.a) ((reg [f 5 e.f.c.b e.a 0,l e.f.c.c e.f.c.b 1,b e.f.c.f .eql (t e.f.c.c) (k 0) 2,m e.b e.f.c.f 3]).seq NC.ret) NC.skip)).seq ((reg [f 5 e.f.f.a e.a 0,l e.f.f.b e.f.f.a 1,b e.f.f.c .eql (t e.f.f.b) (k 0) 2,m e.f.f.f e.f.f.c 3,G e.a.a.a.a (.fieldAddr 5 (t e.a)) e.f.f.f false 4,G e.a.a.a.b (.load1 (t e.a.a.a.a)) e.f.f.f false 5,G e.a.a.a.c (.bin .num .eql (t e.a.a.a.b) (k 1)) e.f.f.f false 6,o e.a.a.a.f (.pick (t e.f.f.f) kt (t e.a.a.a.c)) 7,m e.a.a.b.a e.a.a.a.f 8,G e.a.a.b.b (.fieldAddr 5 (t e.a)) e.a.a.b.a false 9,G e.a.a.b.c (.load1 (t e.a.a.b.b)) e.a.a.b.a false 10,G e.a.a.b.f (.bin .num .eql (t e.a.a.b.c) (k 11)) e.a.a.b.a false 11,o e.a.a.c.a (.pick (t e.a.a.b.a) kt (t e.a.a.b.f)) 12,m e.a.a.c.b e.a.a.c.a 13,G e.a.a.c.c (.fieldAddr 5 (t e.a)) e.a.a.c.b false 14,G e.a.a.c.f (.load1 (t e.a.a.c.c)) e.a.a.c.b false 15,G e.a.a.f.a (.bin .num .eql (t e.a.a.c.f) (k 10)) e.a.a.c.b false 16,o e.a.a.f.b (.pick (t e.a.a.c.b) kt (t e.a.a.f.a)) 17,m e.b e.a.a.f.b 18]).seq NC.ret))))),99, [.tmp e.b]⟩
theorem sU:aj Tryd.prog 11=some (.code vQ):=by kernel_rfl
noncomputable def sP:NC:=((reg [b e.b.a.a .lss (t e.a.f.f) (t e.a.f.c) 0]).seq ((NC.cond (t e.b.a.a) NC.skip (NC.exit 0)).seq ((NC.block 1 ((reg [m e.b.a.b e.a.f.f 0,o e.b.a.c (.indexSlc 1 (t e.a.f.b) (t e.a.f.f)) 1,l e.b.a.f e.b.a.c 2,m e.a.c e.b.a.b 3,m e.a.f e.b.a.f 4]).seq ((reg [m e.b.b.b e.a.f 0,o e.b.b.c (.call (F 29) [t e.b.b.b]) 1,m e.b.b.a e.b.b.c 2,x e.b.b.f e.b.b.a 0 3,x e.b.c.a e.b.b.a 1 4,m e.b.a e.b.b.f 5,m e.b.b e.b.c.a 6]).seq (((reg [m e.b.c.b e.b.b 0,o e.b.c.c (.bin .ifc .neq (t e.b.c.b) (.const .nili)) 1]).seq (NC.cond (t e.b.c.c) ((reg [o e.b.c.f (.build [.int .i64 (.lit 0),.int .i64 (.lit 0),.int .i64 (.lit 0),.int .i64 (.lit 0),.int .i64 (.lit 0),.int .i64 (.lit 0),.int .i64 (.lit 0)] []) 0,q (.store 7 (t e.b) (t e.b.c.f)) 1,o e.c (.move (k 2)) 2]).seq NC.ret) NC.skip)).seq (reg [o e.b.f.a (.call (F 19) []) 0,m e.b.f.b e.a.a 1,o e.b.f.c (.indexSlc 2 (t e.b.f.a) (t e.b.f.b)) 2,f 1 e.b.f.f e.b.f.c 3,l e.c.a.a e.b.f.f 4,m e.c.a.b e.a.c 5,o e.c.a.c (.indexStr (t e.c.a.a) (t e.c.a.b)) 6,o e.c.a.f (.call (F 21) [t e.a.b,t e.c.a.c]) 7,m e.c.b.a e.b.a 8,n e.c.b.b e.c.a.f 9,q (.store 1 (t e.c.b.b) (t e.c.b.a)) 10]))))).seq (reg [b e.c.b.c .add (t e.a.f.f) (k 1) 0,m e.a.f.f e.c.b.c 1]))))
noncomputable def wR:NFun:=⟨(reg [o e.b (.alloc [.int .i64 (.lit 0),.int .i64 (.lit 0),.int .i64 (.lit 0),.int .i64 (.lit 0),.int .i64 (.lit 0),.int .i64 (.lit 0),.int .i64 (.lit 0)] 23) 0,o e.c (.move (k 0)) 1]).seq ((reg [m e.b.c e 0,o e.b.f (.call (F 26) [t e.b.c,.const (.str [32])]) 1,o e.f (.alloc [.nils] 32) 2,q (.store 1 (t e.f) (t e.b.f)) 3]).seq ((reg [o e.c.a (.call (F 19) []) 0,o e.c.b (.mkFn 28 [t e.f]) 1,o e.c.c (.call (F 27) [t e.c.a,t e.c.b]) 2,m e.a.a e.c.c 3]).seq (((regD [m e.c.f e.a.a 0,O e.f.a (.bin .num .lss (t e.c.f) (k 0)) 1 1,O e.f.b (.move (t e.f.a)) 3 2,⟨some e.f.c,.load1 (t e.f),some (e.f.b,false),7,3⟩,⟨some e.f.f,.lenSlc (t e.f.c),some (e.f.b,false),15,4⟩,⟨some e.a.a.a,.bin .num .sub (t e.f.f) (k 1),some (e.f.b,false),31,5⟩,⟨some e.a.a.c,.move (t e.a.a),some (e.f.b,false),7,7⟩,⟨some e.a.a.b,.call (F 19) [],some (e.f.b,false),7,6⟩,⟨some e.a.a.f,.indexSlc 2 (t e.a.a.b) (t e.a.a.c),some (e.f.b,false),199,8⟩,⟨some e.a.b.a,.fieldAddr 1 (t e.a.a.f),some (e.f.b,false),455,9⟩,⟨some e.a.b.b,.load1 (t e.a.b.a),some (e.f.b,false),967,10⟩,⟨some e.a.b.c,.lenStr (t e.a.b.b),some (e.f.b,false),1991,11⟩,⟨some e.a.b.f,.bin .num .neq (t e.a.a.a) (t e.a.b.c),some (e.f.b,false),4095,12⟩,O e.a.c.a (.pick (t e.f.b) kt (t e.a.b.f)) 8191 13]).seq (NC.cond (t e.a.c.a) ((reg [o e.a.c.b (.build [.int .i64 (.lit 0),.int .i64 (.lit 0),.int .i64 (.lit 0),.int .i64 (.lit 0),.int .i64 (.lit 0),.int .i64 (.lit 0),.int .i64 (.lit 0)] []) 0,q (.store 7 (t e.b) (t e.a.c.b)) 1,o e.c (.move (k 2)) 2]).seq NC.ret) NC.skip)).seq ((reg [m e.a.c.c e.a.a 0,o e.a.c.f (.build [.int .i64 (.lit 0),.int .i64 (.lit 0),.int .i64 (.lit 0),.int .i64 (.lit 0),.int .i64 (.lit 0),.int .i64 (.lit 0),.int .i64 (.lit 0)] [(0,1,t e.a.c.c)]) 1,o e.a.b (.alloc [.int .i64 (.lit 0),.int .i64 (.lit 0),.int .i64 (.lit 0),.int .i64 (.lit 0),.int .i64 (.lit 0),.int .i64 (.lit 0),.int .i64 (.lit 0)] 23) 2,q (.store 7 (t e.a.b) (t e.a.c.f)) 3]).seq (((reg [l e.a.f.a e.f 0,o e.a.f.b (.sliceSlc 1 (t e.a.f.a) (some (k 1)) none) 1,L e.a.f.c e.a.f.b 2,o e.a.f.f (.move (k 0)) 3]).seq (NC.block 0 sP.loop)).seq (((reg [o e.c.b.f (.loadN 7 (t e.a.b)) 0,o e.c.c.a (.call (F 9) [t e.c.b.f]) 1,m e.c.c.b e 2,b e.c.c.c .neq (t e.c.c.a) (t e.c.c.b) 3]).seq (NC.cond (t e.c.c.c) ((reg [o e.c.c.f (.build [.int .i64 (.lit 0),.int .i64 (.lit 0),.int .i64 (.lit 0),.int .i64 (.lit 0),.int .i64 (.lit 0),.int .i64 (.lit 0),.int .i64 (.lit 0)] []) 0,q (.store 7 (t e.b) (t e.c.c.f)) 1,o e.c (.move (k 2)) 2]).seq NC.ret) NC.skip)).seq ((reg [o e.c.f.a (.loadN 7 (t e.a.b)) 0,q (.store 7 (t e.b) (t e.c.f.a)) 1,o e.c (.move (k 0)) 2]).seq NC.ret))))))),66, [.cellN e.b 7,.tmp e.c]⟩
theorem tz:aj Tryd.prog 12=some (.code wR):=by kernel_rfl
noncomputable def wN:NFun:=⟨(reg [o e.b (.move (k 0)) 0]).seq ((reg [m e.c e 0,m e.b e.c 1]).seq NC.ret),4, [.tmp e.b]⟩
theorem tA:aj Tryd.prog 13=some (.code wN):=by kernel_rfl
noncomputable def vE:NFun:=⟨(reg [o e.a (.box (t e) 23) 0,o e.b (.move kf) 1]).seq ((reg [o e.f (.call (F 39) []) 0,m e.c e.f 1]).seq ((regD [f 0 e.a.a e.a 0,O e.a.b (.load1 (t e.a.a)) 1 1,O e.a.c (.bin .num .geq (t e.a.b) (k 0)) 3 2,O e.a.f (.move (t e.a.c)) 7 3,⟨some e.b.a,.fieldAddr 0 (t e.a),some (e.a.f,true),15,4⟩,⟨some e.b.b,.load1 (t e.b.a),some (e.a.f,true),31,5⟩,⟨some e.b.c,.move (t e.c),some (e.a.f,true),15,6⟩,⟨some e.b.f,.lenSlc (t e.b.c),some (e.a.f,true),79,7⟩,⟨some e.c.a,.bin .num .lss (t e.b.b) (t e.b.f),some (e.a.f,true),255,8⟩,O e.c.b (.pick (t e.a.f) (t e.c.a) kf) 511 9,O e.c.c (.move (t e.c.b)) 1023 10,⟨some e.c.f,.move (t e.c),some (e.c.c,true),2047,11⟩,⟨some e.f.a,.fieldAddr 0 (t e.a),some (e.c.c,true),2047,12⟩,⟨some e.f.b,.load1 (t e.f.a),some (e.c.c,true),6143,13⟩,⟨some e.f.c,.indexSlc 15 (t e.c.f) (t e.f.b),some (e.c.c,true),16383,14⟩,⟨some e.f.f,.loadN 15 (t e.f.c),some (e.c.c,true),32767,15⟩,⟨some e.a.a.a,.loadN 7 (t e.a),some (e.c.c,true),2047,16⟩,⟨some e.a.a.b,.call (F 40) [t e.f.f,t e.a.a.a],some (e.c.c,true),131071,17⟩,O e.a.a.c (.pick (t e.c.c) (t e.a.a.b) kf) 262143 18,O e.b (.move (t e.a.a.c)) 524287 19]).seq NC.ret)),24, [.tmp e.b]⟩
theorem tb:aj Tryd.prog 18=some (.code vE):=by kernel_rfl
noncomputable def vG:NFun:=⟨(reg [o e (.move kn) 0]).seq ((reg [o e.a (.build [.str [],.str []] [(0,1,.const (.str [109,111,118,122])),(1,1,.const (.str [68,78,83]))]) 0,o e.b (.build [.str [],.str []] [(0,1,.const (.str [109,111,118,107])),(1,1,.const (.str [68,78,83]))]) 1,o e.c (.build [.str [],.str []] [(0,1,.const (.str [97,100,100])),(1,1,.const (.str [68,65,66]))]) 2,o e.f (.build [.str [],.str []] [(0,1,.const (.str [115,117,98])),(1,1,.const (.str [68,65,66]))]) 3,o e.a.a (.build [.str [],.str []] [(0,1,.const (.str [109,117,108])),(1,1,.const (.str [68,65,66]))]) 4,o e.a.b (.build [.str [],.str []] [(0,1,.const (.str [97,110,100])),(1,1,.const (.str [68,65,66]))]) 5,o e.a.c (.build [.str [],.str []] [(0,1,.const (.str [99,109,112])),(1,1,.const (.str [65,66]))]) 6,o e.a.f (.build [.str [],.str []] [(0,1,.const (.str [99,115,101,116])),(1,1,.const (.str [68,67]))]) 7,o e.b.a (.build [.str [],.str []] [(0,1,.const (.str [98])),(1,1,.const (.str [78]))]) 8,o e.b.b (.build [.str [],.str []] [(0,1,.const (.str [98,99])),(1,1,.const (.str [67,78]))]) 9,o e.b.c (.build [.str [],.str []] [(0,1,.const (.str [99,98,122])),(1,1,.const (.str [65,78]))]) 10,o e.b.f (.build [.str [],.str []] [(0,1,.const (.str [99,98,110,122])),(1,1,.const (.str [65,78]))]) 11,o e.c.a (.build [.str [],.str []] [(0,1,.const (.str [108,100,114])),(1,1,.const (.str [68,65,78]))]) 12,o e.c.b (.build [.str [],.str []] [(0,1,.const (.str [115,116,114])),(1,1,.const (.str [68,65,78]))]) 13,o e.c.c (.build [.str [],.str []] [(0,1,.const (.str [108,100,97,114])),(1,1,.const (.str [68,65]))]) 14,o e.c.f (.build [.str [],.str []] [(0,1,.const (.str [115,116,108,114])),(1,1,.const (.str [68,65]))]) 15,o e.f.a (.build [.str [],.str []] [(0,1,.const (.str [108,100,120,114])),(1,1,.const (.str [68,65]))]) 16,o e.f.b (.build [.str [],.str []] [(0,1,.const (.str [115,116,120,114])),(1,1,.const (.str [83,68,65]))]) 17,o e.f.c (.build [.str [],.str []] [(0,1,.const (.str [100,109,98])),(1,1,.const (.str []))]) 18,o e.f.f (.build [.str [],.str []] [(0,1,.const (.str [100,115,98])),(1,1,.const (.str []))]) 19,o e.a.a.a (.build [.str [],.str []] [(0,1,.const (.str [99,118,97,112])),(1,1,.const (.str [65]))]) 20,o e.a.a.b (.build [.str [],.str []] [(0,1,.const (.str [110,111,112])),(1,1,.const (.str []))]) 21,o e.a.a.c (.build [.str [],.str []] [(0,1,.const (.str [104,108,116])),(1,1,.const (.str []))]) 22,o e.a.a.f (.build [.str [],.str []] [(0,1,.const (.str [115,118,99])),(1,1,.const (.str []))]) 23,o e.a.b.a (.buildSlice [.str [],.str [],.str [],.str [],.str [],.str [],.str [],.str [],.str [],.str [],.str [],.str [],.str [],.str [],.str [],.str [],.str [],.str [],.str [],.str [],.str [],.str [],.str [],.str [],.str [],.str [],.str [],.str [],.str [],.str [],.str [],.str [],.str [],.str [],.str [],.str [],.str [],.str [],.str [],.str [],.str [],.str [],.str [],.str [],.str [],.str [],.str [],.str []] 2 24 46 [(0,2,t e.a),(2,2,t e.b),(4,2,t e.c),(6,2,t e.f),(8,2,t e.a.a),(10,2,t e.a.b),(12,2,t e.a.c),(14,2,t e.a.f),(16,2,t e.b.a),(18,2,t e.b.b),(20,2,t e.b.c),(22,2,t e.b.f),(24,2,t e.c.a),(26,2,t e.c.b),(28,2,t e.c.c),(30,2,t e.c.f),(32,2,t e.f.a),(34,2,t e.f.b),(36,2,t e.f.c),(38,2,t e.f.f),(40,2,t e.a.a.a),(42,2,t e.a.a.b),(44,2,t e.a.a.c),(46,2,t e.a.a.f)]) 24,m e e.a.b.a 25]).seq NC.ret),26, [.tmp e]⟩
theorem sh:aj Tryd.prog 19=some (.code vG):=by kernel_rfl
noncomputable def wE:NFun:=⟨(reg [o e.b (.move (.const (.str []))) 0]).seq ((reg [m e.c e 0,o e.f (.call (F 41) [t e.c]) 1,m e.b e.f 2]).seq NC.ret),5, [.tmp e.b]⟩
theorem tE:aj Tryd.prog 20=some (.code wE):=by kernel_rfl
noncomputable def vw:NFun:=⟨(reg [o e.f (.move (.const .nilp)) 0]).seq (((reg [m e.a.a e.a 0]).seq (NC.block 0 ((reg [b e.a.c .eql (t e.a.a) (kb 68) 0,m e.a.b e.a.c 1]).seq (NC.cond (t e.a.b) ((reg [m e.a.f e 0,n e.b.a e.a.f 1,f 1 e.b.b e.b.a 2,m e.f e.b.b 3]).seq NC.ret) ((reg [b e.b.f .eql (t e.a.a) (kb 65) 0,m e.b.c e.b.f 1]).seq (NC.cond (t e.b.c) ((reg [m e.c.a e 0,n e.c.b e.c.a 1,f 2 e.c.c e.c.b 2,m e.f e.c.c 3]).seq NC.ret) ((reg [b e.f.a .eql (t e.a.a) (kb 66) 0,m e.c.f e.f.a 1]).seq (NC.cond (t e.c.f) ((reg [m e.f.b e 0,n e.f.c e.f.b 1,f 3 e.f.f e.f.c 2,m e.f e.f.f 3]).seq NC.ret) ((reg [b e.a.a.b .eql (t e.a.a) (kb 83) 0,m e.a.a.a e.a.a.b 1]).seq (NC.cond (t e.a.a.a) ((reg [m e.a.a.c e 0,n e.a.a.f e.a.a.c 1,f 4 e.a.b.a e.a.a.f 2,m e.f e.a.b.a 3]).seq NC.ret) ((reg [b e.a.b.c .eql (t e.a.a) (kb 67) 0,m e.a.b.b e.a.b.c 1]).seq (NC.cond (t e.a.b.b) ((reg [m e.a.b.f e 0,n e.a.c.a e.a.b.f 1,f 5 e.a.c.b e.a.c.a 2,m e.f e.a.c.b 3]).seq NC.ret) NC.skip)))))))))))).seq ((reg [m e.a.c.c e 0,n e.a.c.f e.a.c.c 1,f 6 e.a.f.a e.a.c.f 2,m e.f e.a.f.a 3]).seq NC.ret)),34, [.tmp e.f]⟩
theorem tD:aj Tryd.prog 21=some (.code vw):=by kernel_rfl
noncomputable def vP:NFun:=⟨(reg [o e.b (.move (.const (.str []))) 0]).seq (((reg [m e.f e 0,b e.a.a .lss (t e.f) (k 0) 1]).seq (NC.cond (t e.a.a) ((reg [m e.a.b e 0,o e.a.c (.un .neg (t e.a.b)) 1,o e.a.f (.call (F 22) [t e.a.c]) 2,b e.b.a .add (.const (.str [45])) (t e.a.f) 3,m e.b e.b.a 4]).seq NC.ret) NC.skip)).seq ((reg [m e.b.b e 0,b e.b.c .rem (t e.b.b) (k 10) 1,m e.b.f e 2,b e.c.a .rem (t e.b.f) (k 10) 3,b e.c.b .add (t e.c.a) (k 1) 4,o e.c.c (.sliceStr (.const (.str [48,49,50,51,52,53,54,55,56,57])) (some (t e.b.c)) (some (t e.c.b))) 5,m e.c e.c.c 6]).seq (((reg [m e.c.f e 0,b e.f.a .gtr (t e.c.f) (k 9) 1]).seq (NC.cond (t e.f.a) ((reg [m e.f.b e 0,b e.f.c .quo (t e.f.b) (k 10) 1,o e.f.f (.call (F 22) [t e.f.c]) 2,m e.a.a.a e.c 3,b e.a.a.b .add (t e.f.f) (t e.a.a.a) 4,m e.b e.a.a.b 5]).seq NC.ret) NC.skip)).seq ((reg [m e.a.a.c e.c 0,m e.b e.a.a.c 1]).seq NC.ret)))),24, [.tmp e.b]⟩
theorem sF:aj Tryd.prog 22=some (.code vP):=by kernel_rfl
noncomputable def vD:NFun:=⟨(reg [o e.b (.alloc [.int .u32 (.lit 0),.int .i64 (.lit 0),.int .i64 (.lit 0),.int .i64 (.lit 0),.int .i64 (.lit 0),.int .i64 (.lit 0),.int .i64 (.lit 0),.int .i64 (.lit 0),.int .i64 (.lit 0),.int .i64 (.lit 0),.int .i64 (.lit 0),.int .i64 (.lit 0),.int .i64 (.lit 0),.bool false,.bool false] 58) 0,o e.c (.move kf) 1]).seq ((reg [o e.a.c (.build [.int .i64 (.lit 0),.int .i64 (.lit 0)] [(0,1,k 0),(1,1,k 5)]) 0,o e.f (.alloc [.int .i64 (.lit 0),.int .i64 (.lit 0)] 56) 1,q (.store 2 (t e.f) (t e.a.c)) 2]).seq ((reg [o e.a.f (.build [.int .i64 (.lit 0),.int .i64 (.lit 0)] [(0,1,k 5),(1,1,k 5)]) 0,o e.a.a (.alloc [.int .i64 (.lit 0),.int .i64 (.lit 0)] 56) 1,q (.store 2 (t e.a.a) (t e.a.f)) 2]).seq ((reg [o e.b.a (.build [.int .i64 (.lit 0),.int .i64 (.lit 0)] [(0,1,k 16),(1,1,k 5)]) 0,o e.a.b (.alloc [.int .i64 (.lit 0),.int .i64 (.lit 0)] 56) 1,q (.store 2 (t e.a.b) (t e.b.a)) 2]).seq (((reg [m e.b.b e 0]).seq (NC.block 0 ((reg [b e.b.f .eql (t e.b.b) (k 0) 0,m e.b.c e.b.f 1]).seq (NC.cond (t e.b.c) ((reg [o e.c.a (.loadN 2 (t e.f)) 0,o e.c.b (.build [.int .i64 (.lit 0),.int .i64 (.lit 0)] [(0,1,k 21),(1,1,k 2)]) 1,o e.c.c (.build [.int .i64 (.lit 0),.int .i64 (.lit 0)] [(0,1,k 5),(1,1,k 16)]) 2,o e.c.f (.build [.int .u32 (.lit 0),.int .i64 (.lit 0),.int .i64 (.lit 0),.int .i64 (.lit 0),.int .i64 (.lit 0),.int .i64 (.lit 0),.int .i64 (.lit 0),.int .i64 (.lit 0),.int .i64 (.lit 0),.int .i64 (.lit 0),.int .i64 (.lit 0),.int .i64 (.lit 0),.int .i64 (.lit 0),.bool false,.bool false] [(0,1,.const (.int .u32 (.lit 3531603968))),(1,2,t e.c.a),(7,2,t e.c.b),(9,2,t e.c.c)]) 3,q (.store 15 (t e.b) (t e.c.f)) 4,o e.c (.move kt) 5]).seq NC.ret) ((reg [b e.f.b .eql (t e.b.b) (k 1) 0,m e.f.a e.f.b 1]).seq (NC.cond (t e.f.a) ((reg [o e.f.c (.loadN 2 (t e.f)) 0,o e.f.f (.build [.int .i64 (.lit 0),.int .i64 (.lit 0)] [(0,1,k 21),(1,1,k 2)]) 1,o e.a.a.a (.build [.int .i64 (.lit 0),.int .i64 (.lit 0)] [(0,1,k 5),(1,1,k 16)]) 2,o e.a.a.b (.build [.int .u32 (.lit 0),.int .i64 (.lit 0),.int .i64 (.lit 0),.int .i64 (.lit 0),.int .i64 (.lit 0),.int .i64 (.lit 0),.int .i64 (.lit 0),.int .i64 (.lit 0),.int .i64 (.lit 0),.int .i64 (.lit 0),.int .i64 (.lit 0),.int .i64 (.lit 0),.int .i64 (.lit 0),.bool false,.bool false] [(0,1,.const (.int .u32 (.lit 4068474880))),(1,2,t e.f.c),(7,2,t e.f.f),(9,2,t e.a.a.a)]) 3,q (.store 15 (t e.b) (t e.a.a.b)) 4,o e.c (.move kt) 5]).seq NC.ret) ((reg [b e.a.a.f .eql (t e.b.b) (k 2) 0,m e.a.a.c e.a.a.f 1]).seq (NC.cond (t e.a.a.c) ((reg [o e.a.b.a (.loadN 2 (t e.f)) 0,o e.a.b.b (.loadN 2 (t e.a.a)) 1,o e.a.b.c (.loadN 2 (t e.a.b)) 2,o e.a.b.f (.build [.int .u32 (.lit 0),.int .i64 (.lit 0),.int .i64 (.lit 0),.int .i64 (.lit 0),.int .i64 (.lit 0),.int .i64 (.lit 0),.int .i64 (.lit 0),.int .i64 (.lit 0),.int .i64 (.lit 0),.int .i64 (.lit 0),.int .i64 (.lit 0),.int .i64 (.lit 0),.int .i64 (.lit 0),.bool false,.bool false] [(0,1,.const (.int .u32 (.lit 2332033024))),(1,2,t e.a.b.a),(3,2,t e.a.b.b),(5,2,t e.a.b.c)]) 3,q (.store 15 (t e.b) (t e.a.b.f)) 4,o e.c (.move kt) 5]).seq NC.ret) ((reg [b e.a.c.b .eql (t e.b.b) (k 3) 0,m e.a.c.a e.a.c.b 1]).seq (NC.cond (t e.a.c.a) ((reg [o e.a.c.c (.loadN 2 (t e.f)) 0,o e.a.c.f (.loadN 2 (t e.a.a)) 1,o e.a.f.a (.loadN 2 (t e.a.b)) 2,o e.a.f.b (.build [.int .u32 (.lit 0),.int .i64 (.lit 0),.int .i64 (.lit 0),.int .i64 (.lit 0),.int .i64 (.lit 0),.int .i64 (.lit 0),.int .i64 (.lit 0),.int .i64 (.lit 0),.int .i64 (.lit 0),.int .i64 (.lit 0),.int .i64 (.lit 0),.int .i64 (.lit 0),.int .i64 (.lit 0),.bool false,.bool false] [(0,1,.const (.int .u32 (.lit 3405774848))),(1,2,t e.a.c.c),(3,2,t e.a.c.f),(5,2,t e.a.f.a)]) 3,q (.store 15 (t e.b) (t e.a.f.b)) 4,o e.c (.move kt) 5]).seq NC.ret) ((reg [b e.a.f.f .eql (t e.b.b) (k 4) 0,m e.a.f.c e.a.f.f 1]).seq (NC.cond (t e.a.f.c) ((reg [o e.b.a.a (.loadN 2 (t e.f)) 0,o e.b.a.b (.loadN 2 (t e.a.a)) 1,o e.b.a.c (.loadN 2 (t e.a.b)) 2,o e.b.a.f (.build [.int .u32 (.lit 0),.int .i64 (.lit 0),.int .i64 (.lit 0),.int .i64 (.lit 0),.int .i64 (.lit 0),.int .i64 (.lit 0),.int .i64 (.lit 0),.int .i64 (.lit 0),.int .i64 (.lit 0),.int .i64 (.lit 0),.int .i64 (.lit 0),.int .i64 (.lit 0),.int .i64 (.lit 0),.bool false,.bool false] [(0,1,.const (.int .u32 (.lit 2600500224))),(1,2,t e.b.a.a),(3,2,t e.b.a.b),(5,2,t e.b.a.c)]) 3,q (.store 15 (t e.b) (t e.b.a.f)) 4,o e.c (.move kt) 5]).seq NC.ret) ((reg [b e.b.b.b .eql (t e.b.b) (k 5) 0,m e.b.b.a e.b.b.b 1]).seq (NC.cond (t e.b.b.a) ((reg [o e.b.b.c (.loadN 2 (t e.f)) 0,o e.b.b.f (.loadN 2 (t e.a.a)) 1,o e.b.c.a (.loadN 2 (t e.a.b)) 2,o e.b.c.b (.build [.int .u32 (.lit 0),.int .i64 (.lit 0),.int .i64 (.lit 0),.int .i64 (.lit 0),.int .i64 (.lit 0),.int .i64 (.lit 0),.int .i64 (.lit 0),.int .i64 (.lit 0),.int .i64 (.lit 0),.int .i64 (.lit 0),.int .i64 (.lit 0),.int .i64 (.lit 0),.int .i64 (.lit 0),.bool false,.bool false] [(0,1,.const (.int .u32 (.lit 2315255808))),(1,2,t e.b.b.c),(3,2,t e.b.b.f),(5,2,t e.b.c.a)]) 3,q (.store 15 (t e.b) (t e.b.c.b)) 4,o e.c (.move kt) 5]).seq NC.ret) ((reg [b e.b.c.f .eql (t e.b.b) (k 6) 0,m e.b.c.c e.b.c.f 1]).seq (NC.cond (t e.b.c.c) ((reg [o e.b.f.a (.loadN 2 (t e.a.a)) 0,o e.b.f.b (.loadN 2 (t e.a.b)) 1,o e.b.f.c (.build [.int .u32 (.lit 0),.int .i64 (.lit 0),.int .i64 (.lit 0),.int .i64 (.lit 0),.int .i64 (.lit 0),.int .i64 (.lit 0),.int .i64 (.lit 0),.int .i64 (.lit 0),.int .i64 (.lit 0),.int .i64 (.lit 0),.int .i64 (.lit 0),.int .i64 (.lit 0),.int .i64 (.lit 0),.bool false,.bool false] [(0,1,.const (.int .u32 (.lit 3942645791))),(3,2,t e.b.f.a),(5,2,t e.b.f.b)]) 2,q (.store 15 (t e.b) (t e.b.f.c)) 3,o e.c (.move kt) 4]).seq NC.ret) ((reg [b e.c.a.a .eql (t e.b.b) (k 7) 0,m e.b.f.f e.c.a.a 1]).seq (NC.cond (t e.b.f.f) ((reg [o e.c.a.b (.loadN 2 (t e.f)) 0,o e.c.a.c (.build [.int .i64 (.lit 0),.int .i64 (.lit 0)] [(0,1,k 12),(1,1,k 4)]) 1,o e.c.a.f (.build [.int .u32 (.lit 0),.int .i64 (.lit 0),.int .i64 (.lit 0),.int .i64 (.lit 0),.int .i64 (.lit 0),.int .i64 (.lit 0),.int .i64 (.lit 0),.int .i64 (.lit 0),.int .i64 (.lit 0),.int .i64 (.lit 0),.int .i64 (.lit 0),.int .i64 (.lit 0),.int .i64 (.lit 0),.bool false,.bool false] [(0,1,.const (.int .u32 (.lit 2594113504))),(1,2,t e.c.a.b),(11,2,t e.c.a.c),(14,1,.const (.bool true))]) 2,q (.store 15 (t e.b) (t e.c.a.f)) 3,o e.c (.move kt) 4]).seq NC.ret) ((reg [b e.c.b.b .eql (t e.b.b) (k 8) 0,m e.c.b.a e.c.b.b 1]).seq (NC.cond (t e.c.b.a) ((reg [o e.c.b.c (.build [.int .i64 (.lit 0),.int .i64 (.lit 0)] [(0,1,k 0),(1,1,k 26)]) 0,o e.c.b.f (.build [.int .u32 (.lit 0),.int .i64 (.lit 0),.int .i64 (.lit 0),.int .i64 (.lit 0),.int .i64 (.lit 0),.int .i64 (.lit 0),.int .i64 (.lit 0),.int .i64 (.lit 0),.int .i64 (.lit 0),.int .i64 (.lit 0),.int .i64 (.lit 0),.int .i64 (.lit 0),.int .i64 (.lit 0),.bool false,.bool false] [(0,1,.const (.int .u32 (.lit 335544320))),(9,2,t e.c.b.c),(13,1,.const (.bool true))]) 1,q (.store 15 (t e.b) (t e.c.b.f)) 2,o e.c (.move kt) 3]).seq NC.ret) ((reg [b e.c.c.b .eql (t e.b.b) (k 9) 0,m e.c.c.a e.c.c.b 1]).seq (NC.cond (t e.c.c.a) ((reg [o e.c.c.c (.build [.int .i64 (.lit 0),.int .i64 (.lit 0)] [(0,1,k 5),(1,1,k 19)]) 0,o e.c.c.f (.build [.int .i64 (.lit 0),.int .i64 (.lit 0)] [(0,1,k 0),(1,1,k 4)]) 1,o e.c.f.a (.build [.int .u32 (.lit 0),.int .i64 (.lit 0),.int .i64 (.lit 0),.int .i64 (.lit 0),.int .i64 (.lit 0),.int .i64 (.lit 0),.int .i64 (.lit 0),.int .i64 (.lit 0),.int .i64 (.lit 0),.int .i64 (.lit 0),.int .i64 (.lit 0),.int .i64 (.lit 0),.int .i64 (.lit 0),.bool false,.bool false] [(0,1,.const (.int .u32 (.lit 1409286144))),(9,2,t e.c.c.c),(11,2,t e.c.c.f),(13,1,.const (.bool true))]) 2,q (.store 15 (t e.b) (t e.c.f.a)) 3,o e.c (.move kt) 4]).seq NC.ret) ((reg [b e.c.f.c .eql (t e.b.b) (k 10) 0,m e.c.f.b e.c.f.c 1]).seq (NC.cond (t e.c.f.b) ((reg [o e.c.f.f (.loadN 2 (t e.f)) 0,o e.f.a.a (.build [.int .i64 (.lit 0),.int .i64 (.lit 0)] [(0,1,k 5),(1,1,k 19)]) 1,o e.f.a.b (.build [.int .u32 (.lit 0),.int .i64 (.lit 0),.int .i64 (.lit 0),.int .i64 (.lit 0),.int .i64 (.lit 0),.int .i64 (.lit 0),.int .i64 (.lit 0),.int .i64 (.lit 0),.int .i64 (.lit 0),.int .i64 (.lit 0),.int .i64 (.lit 0),.int .i64 (.lit 0),.int .i64 (.lit 0),.bool false,.bool false] [(0,1,.const (.int .u32 (.lit 3019898880))),(3,2,t e.c.f.f),(9,2,t e.f.a.a),(13,1,.const (.bool true))]) 2,q (.store 15 (t e.b) (t e.f.a.b)) 3,o e.c (.move kt) 4]).seq NC.ret) ((reg [b e.f.a.f .eql (t e.b.b) (k 11) 0,m e.f.a.c e.f.a.f 1]).seq (NC.cond (t e.f.a.c) ((reg [o e.f.b.a (.loadN 2 (t e.f)) 0,o e.f.b.b (.build [.int .i64 (.lit 0),.int .i64 (.lit 0)] [(0,1,k 5),(1,1,k 19)]) 1,o e.f.b.c (.build [.int .u32 (.lit 0),.int .i64 (.lit 0),.int .i64 (.lit 0),.int .i64 (.lit 0),.int .i64 (.lit 0),.int .i64 (.lit 0),.int .i64 (.lit 0),.int .i64 (.lit 0),.int .i64 (.lit 0),.int .i64 (.lit 0),.int .i64 (.lit 0),.int .i64 (.lit 0),.int .i64 (.lit 0),.bool false,.bool false] [(0,1,.const (.int .u32 (.lit 3036676096))),(3,2,t e.f.b.a),(9,2,t e.f.b.b),(13,1,.const (.bool true))]) 2,q (.store 15 (t e.b) (t e.f.b.c)) 3,o e.c (.move kt) 4]).seq NC.ret) ((reg [b e.f.c.a .eql (t e.b.b) (k 12) 0,m e.f.b.f e.f.c.a 1]).seq (NC.cond (t e.f.b.f) ((reg [o e.f.c.b (.loadN 2 (t e.f)) 0,o e.f.c.c (.loadN 2 (t e.a.a)) 1,o e.f.c.f (.build [.int .i64 (.lit 0),.int .i64 (.lit 0)] [(0,1,k 10),(1,1,k 12)]) 2,o e.f.f.a (.build [.int .u32 (.lit 0),.int .i64 (.lit 0),.int .i64 (.lit 0),.int .i64 (.lit 0),.int .i64 (.lit 0),.int .i64 (.lit 0),.int .i64 (.lit 0),.int .i64 (.lit 0),.int .i64 (.lit 0),.int .i64 (.lit 0),.int .i64 (.lit 0),.int .i64 (.lit 0),.int .i64 (.lit 0),.bool false,.bool false] [(0,1,.const (.int .u32 (.lit 4181721088))),(1,2,t e.f.c.b),(3,2,t e.f.c.c),(9,2,t e.f.c.f)]) 3,q (.store 15 (t e.b) (t e.f.f.a)) 4,o e.c (.move kt) 5]).seq NC.ret) ((reg [b e.f.f.c .eql (t e.b.b) (k 13) 0,m e.f.f.b e.f.f.c 1]).seq (NC.cond (t e.f.f.b) ((reg [o e.f.f.f (.loadN 2 (t e.f)) 0,o e.a.a.a.a (.loadN 2 (t e.a.a)) 1,o e.a.a.a.b (.build [.int .i64 (.lit 0),.int .i64 (.lit 0)] [(0,1,k 10),(1,1,k 12)]) 2,o e.a.a.a.c (.build [.int .u32 (.lit 0),.int .i64 (.lit 0),.int .i64 (.lit 0),.int .i64 (.lit 0),.int .i64 (.lit 0),.int .i64 (.lit 0),.int .i64 (.lit 0),.int .i64 (.lit 0),.int .i64 (.lit 0),.int .i64 (.lit 0),.int .i64 (.lit 0),.int .i64 (.lit 0),.int .i64 (.lit 0),.bool false,.bool false] [(0,1,.const (.int .u32 (.lit 4177526784))),(1,2,t e.f.f.f),(3,2,t e.a.a.a.a),(9,2,t e.a.a.a.b)]) 3,q (.store 15 (t e.b) (t e.a.a.a.c)) 4,o e.c (.move kt) 5]).seq NC.ret) ((reg [b e.a.a.b.a .eql (t e.b.b) (k 14) 0,m e.a.a.a.f e.a.a.b.a 1]).seq (NC.cond (t e.a.a.a.f) ((reg [o e.a.a.b.b (.loadN 2 (t e.f)) 0,o e.a.a.b.c (.loadN 2 (t e.a.a)) 1,o e.a.a.b.f (.build [.int .u32 (.lit 0),.int .i64 (.lit 0),.int .i64 (.lit 0),.int .i64 (.lit 0),.int .i64 (.lit 0),.int .i64 (.lit 0),.int .i64 (.lit 0),.int .i64 (.lit 0),.int .i64 (.lit 0),.int .i64 (.lit 0),.int .i64 (.lit 0),.int .i64 (.lit 0),.int .i64 (.lit 0),.bool false,.bool false] [(0,1,.const (.int .u32 (.lit 3370122240))),(1,2,t e.a.a.b.b),(3,2,t e.a.a.b.c)]) 2,q (.store 15 (t e.b) (t e.a.a.b.f)) 3,o e.c (.move kt) 4]).seq NC.ret) ((reg [b e.a.a.c.b .eql (t e.b.b) (k 15) 0,m e.a.a.c.a e.a.a.c.b 1]).seq (NC.cond (t e.a.a.c.a) ((reg [o e.a.a.c.c (.loadN 2 (t e.f)) 0,o e.a.a.c.f (.loadN 2 (t e.a.a)) 1,o e.a.a.f.a (.build [.int .u32 (.lit 0),.int .i64 (.lit 0),.int .i64 (.lit 0),.int .i64 (.lit 0),.int .i64 (.lit 0),.int .i64 (.lit 0),.int .i64 (.lit 0),.int .i64 (.lit 0),.int .i64 (.lit 0),.int .i64 (.lit 0),.int .i64 (.lit 0),.int .i64 (.lit 0),.int .i64 (.lit 0),.bool false,.bool false] [(0,1,.const (.int .u32 (.lit 3365927936))),(1,2,t e.a.a.c.c),(3,2,t e.a.a.c.f)]) 2,q (.store 15 (t e.b) (t e.a.a.f.a)) 3,o e.c (.move kt) 4]).seq NC.ret) ((reg [b e.a.a.f.c .eql (t e.b.b) (k 16) 0,m e.a.a.f.b e.a.a.f.c 1]).seq (NC.cond (t e.a.a.f.b) ((reg [o e.a.a.f.f (.loadN 2 (t e.f)) 0,o e.a.b.a.a (.loadN 2 (t e.a.a)) 1,o e.a.b.a.b (.build [.int .u32 (.lit 0),.int .i64 (.lit 0),.int .i64 (.lit 0),.int .i64 (.lit 0),.int .i64 (.lit 0),.int .i64 (.lit 0),.int .i64 (.lit 0),.int .i64 (.lit 0),.int .i64 (.lit 0),.int .i64 (.lit 0),.int .i64 (.lit 0),.int .i64 (.lit 0),.int .i64 (.lit 0),.bool false,.bool false] [(0,1,.const (.int .u32 (.lit 3361700864))),(1,2,t e.a.a.f.f),(3,2,t e.a.b.a.a)]) 2,q (.store 15 (t e.b) (t e.a.b.a.b)) 3,o e.c (.move kt) 4]).seq NC.ret) ((reg [b e.a.b.a.f .eql (t e.b.b) (k 17) 0,m e.a.b.a.c e.a.b.a.f 1]).seq (NC.cond (t e.a.b.a.c) ((reg [o e.a.b.b.a (.loadN 2 (t e.f)) 0,o e.a.b.b.b (.loadN 2 (t e.a.a)) 1,o e.a.b.b.c (.loadN 2 (t e.a.b)) 2,o e.a.b.b.f (.build [.int .u32 (.lit 0),.int .i64 (.lit 0),.int .i64 (.lit 0),.int .i64 (.lit 0),.int .i64 (.lit 0),.int .i64 (.lit 0),.int .i64 (.lit 0),.int .i64 (.lit 0),.int .i64 (.lit 0),.int .i64 (.lit 0),.int .i64 (.lit 0),.int .i64 (.lit 0),.int .i64 (.lit 0),.bool false,.bool false] [(0,1,.const (.int .u32 (.lit 3355474944))),(1,2,t e.a.b.b.a),(3,2,t e.a.b.b.b),(7,2,t e.a.b.b.c)]) 3,q (.store 15 (t e.b) (t e.a.b.b.f)) 4,o e.c (.move kt) 5]).seq NC.ret) ((reg [b e.a.b.c.b .eql (t e.b.b) (k 18) 0,m e.a.b.c.a e.a.b.c.b 1]).seq (NC.cond (t e.a.b.c.a) ((reg [o e.a.b.c.c (.build [.int .u32 (.lit 0),.int .i64 (.lit 0),.int .i64 (.lit 0),.int .i64 (.lit 0),.int .i64 (.lit 0),.int .i64 (.lit 0),.int .i64 (.lit 0),.int .i64 (.lit 0),.int .i64 (.lit 0),.int .i64 (.lit 0),.int .i64 (.lit 0),.int .i64 (.lit 0),.int .i64 (.lit 0),.bool false,.bool false] [(0,1,.const (.int .u32 (.lit 3573758911)))]) 0,q (.store 15 (t e.b) (t e.a.b.c.c)) 1,o e.c (.move kt) 2]).seq NC.ret) ((reg [b e.a.b.f.a .eql (t e.b.b) (k 19) 0,m e.a.b.c.f e.a.b.f.a 1]).seq (NC.cond (t e.a.b.c.f) ((reg [o e.a.b.f.b (.build [.int .u32 (.lit 0),.int .i64 (.lit 0),.int .i64 (.lit 0),.int .i64 (.lit 0),.int .i64 (.lit 0),.int .i64 (.lit 0),.int .i64 (.lit 0),.int .i64 (.lit 0),.int .i64 (.lit 0),.int .i64 (.lit 0),.int .i64 (.lit 0),.int .i64 (.lit 0),.int .i64 (.lit 0),.bool false,.bool false] [(0,1,.const (.int .u32 (.lit 3573758879)))]) 0,q (.store 15 (t e.b) (t e.a.b.f.b)) 1,o e.c (.move kt) 2]).seq NC.ret) ((reg [b e.a.b.f.f .eql (t e.b.b) (k 20) 0,m e.a.b.f.c e.a.b.f.f 1]).seq (NC.cond (t e.a.b.f.c) ((reg [o e.a.c.a.a (.loadN 2 (t e.f)) 0,o e.a.c.a.b (.build [.int .u32 (.lit 0),.int .i64 (.lit 0),.int .i64 (.lit 0),.int .i64 (.lit 0),.int .i64 (.lit 0),.int .i64 (.lit 0),.int .i64 (.lit 0),.int .i64 (.lit 0),.int .i64 (.lit 0),.int .i64 (.lit 0),.int .i64 (.lit 0),.int .i64 (.lit 0),.int .i64 (.lit 0),.bool false,.bool false] [(0,1,.const (.int .u32 (.lit 3574299680))),(3,2,t e.a.c.a.a)]) 1,q (.store 15 (t e.b) (t e.a.c.a.b)) 2,o e.c (.move kt) 3]).seq NC.ret) ((reg [b e.a.c.a.f .eql (t e.b.b) (k 21) 0,m e.a.c.a.c e.a.c.a.f 1]).seq (NC.cond (t e.a.c.a.c) ((reg [o e.a.c.b.a (.build [.int .u32 (.lit 0),.int .i64 (.lit 0),.int .i64 (.lit 0),.int .i64 (.lit 0),.int .i64 (.lit 0),.int .i64 (.lit 0),.int .i64 (.lit 0),.int .i64 (.lit 0),.int .i64 (.lit 0),.int .i64 (.lit 0),.int .i64 (.lit 0),.int .i64 (.lit 0),.int .i64 (.lit 0),.bool false,.bool false] [(0,1,.const (.int .u32 (.lit 3573751839)))]) 0,q (.store 15 (t e.b) (t e.a.c.b.a)) 1,o e.c (.move kt) 2]).seq NC.ret) ((reg [b e.a.c.b.c .eql (t e.b.b) (k 22) 0,m e.a.c.b.b e.a.c.b.c 1]).seq (NC.cond (t e.a.c.b.b) ((reg [o e.a.c.b.f (.build [.int .u32 (.lit 0),.int .i64 (.lit 0),.int .i64 (.lit 0),.int .i64 (.lit 0),.int .i64 (.lit 0),.int .i64 (.lit 0),.int .i64 (.lit 0),.int .i64 (.lit 0),.int .i64 (.lit 0),.int .i64 (.lit 0),.int .i64 (.lit 0),.int .i64 (.lit 0),.int .i64 (.lit 0),.bool false,.bool false] [(0,1,.const (.int .u32 (.lit 3560964096)))]) 0,q (.store 15 (t e.b) (t e.a.c.b.f)) 1,o e.c (.move kt) 2]).seq NC.ret) ((reg [b e.a.c.c.b .eql (t e.b.b) (k 23) 0,m e.a.c.c.a e.a.c.c.b 1]).seq (NC.cond (t e.a.c.c.a) ((reg [o e.a.c.c.c (.build [.int .u32 (.lit 0),.int .i64 (.lit 0),.int .i64 (.lit 0),.int .i64 (.lit 0),.int .i64 (.lit 0),.int .i64 (.lit 0),.int .i64 (.lit 0),.int .i64 (.lit 0),.int .i64 (.lit 0),.int .i64 (.lit 0),.int .i64 (.lit 0),.int .i64 (.lit 0),.int .i64 (.lit 0),.bool false,.bool false] [(0,1,.const (.int .u32 (.lit 3556769793)))]) 0,q (.store 15 (t e.b) (t e.a.c.c.c)) 1,o e.c (.move kt) 2]).seq NC.ret) NC.skip)))))))))))))))))))))))))))))))))))))))))))))))))).seq ((reg [o e.a.c.c.f (.build [.int .u32 (.lit 0),.int .i64 (.lit 0),.int .i64 (.lit 0),.int .i64 (.lit 0),.int .i64 (.lit 0),.int .i64 (.lit 0),.int .i64 (.lit 0),.int .i64 (.lit 0),.int .i64 (.lit 0),.int .i64 (.lit 0),.int .i64 (.lit 0),.int .i64 (.lit 0),.int .i64 (.lit 0),.bool false,.bool false] []) 0,q (.store 15 (t e.b) (t e.a.c.c.f)) 1,o e.c (.move kf) 2]).seq NC.ret))))),129, [.cellN e.b 15,.tmp e.c]⟩
theorem sR:aj Tryd.prog 23=some (.code vD):=by kernel_rfl
noncomputable def vF:NFun:=⟨(reg [o e.f (.move kf) 0]).seq ((reg [m e.a.a e 0,b e.a.b .geq (t e.a.a) (k 0) 1,m e.a.c e.a.b 2,G e.a.f (.move (t e)) e.a.c true 3,G e.b.a (.move (t e.a)) e.a.c true 4,G e.b.b (.call (F 42) [t e.b.a,k 0,k 32]) e.a.c true 5,G e.b.c (.toInt .u64 (t e.b.b)) e.a.c true 6,G e.b.f (.bin .num .shl (k 1) (t e.b.c)) e.a.c true 7,G e.c.a (.bin .num .lss (t e.a.f) (t e.b.f)) e.a.c true 8,o e.c.b (.pick (t e.a.c) (t e.c.a) kf) 9,m e.f e.c.b 10]).seq NC.ret),15, [.tmp e.f]⟩
theorem sZ:aj Tryd.prog 24=some (.code vF):=by kernel_rfl
noncomputable def vV:NFun:=⟨(reg [o e.f (.move kf) 0]).seq ((reg [m e.a.a e.a 0,o e.a.b (.call (F 42) [t e.a.a,k 0,k 32]) 1,m e.a e.a.b 2]).seq (((reg [m e.a.c e.a 0,b e.a.f .eql (t e.a.c) (k 0) 1]).seq (NC.cond (t e.a.f) ((reg [m e.b.a e 0,b e.b.b .eql (t e.b.a) (k 0) 1,m e.f e.b.b 2]).seq NC.ret) NC.skip)).seq ((reg [m e.b.c e 0,m e.b.f e.a 1,b e.c.a .sub (t e.b.f) (k 1) 2,o e.c.b (.toInt .u64 (t e.c.a)) 3,b e.c.c .shl (k (-1)) (t e.c.b) 4,b e.c.f .geq (t e.b.c) (t e.c.c) 5,m e.f.a e.c.f 6,G e.f.b (.move (t e)) e.f.a true 7,G e.f.c (.move (t e.a)) e.f.a true 8,G e.f.f (.bin .num .sub (t e.f.c) (k 1)) e.f.a true 9,G e.a.a.a (.toInt .u64 (t e.f.f)) e.f.a true 10,G e.a.a.b (.bin .num .shl (k 1) (t e.a.a.a)) e.f.a true 11,G e.a.a.c (.bin .num .lss (t e.f.b) (t e.a.a.b)) e.f.a true 12,o e.a.a.f (.pick (t e.f.a) (t e.a.a.c) kf) 13,m e.f e.a.a.f 14]).seq NC.ret))),25, [.tmp e.f]⟩
theorem sG:aj Tryd.prog 25=some (.code vV):=by kernel_rfl
noncomputable def wU:NFun:=⟨(reg [o e.f (.move kn) 0]).seq ((reg [m e.a.a e 0,m e.a.b e.a 1,o e.a.c (.call (F 43) [t e.a.a,t e.a.b,k 0,k (-1)]) 2,m e.f e.a.c 3]).seq NC.ret),8, [.tmp e.f]⟩
theorem tG:aj Tryd.prog 26=some (.code wU):=by kernel_rfl
noncomputable def s0:NC:=((reg [b e.b.a .lss (t e.a.f) (t e.a.c) 0]).seq ((NC.cond (t e.b.a) NC.skip (NC.exit 0)).seq ((NC.block 1 ((reg [m e.b.b e.a.f 0,m e.a.a e.b.b 1]).seq ((reg [m e.b.c e.a 0,m e.b.f e 1,m e.c.a e.a.a 2,o e.c.b (.indexSlc 2 (t e.b.f) (t e.c.a)) 3,o e.c.c (.loadN 2 (t e.c.b)) 4,o e.c.f (.call (t e.b.c) [t e.c.c]) 5]).seq (NC.cond (t e.c.f) ((reg [m e.f.a e.a.a 0,m e.f e.f.a 1]).seq NC.ret) NC.skip)))).seq (reg [b e.f.b .add (t e.a.f) (k 1) 0,m e.a.f e.f.b 1]))))
noncomputable def we:NFun:=⟨(reg [o e.f (.move (k 0)) 0]).seq (((reg [m e.a.b e 0,L e.a.c e.a.b 1,o e.a.f (.move (k 0)) 2]).seq (NC.block 0 s0.loop)).seq ((reg [o e.f (.move (k (-1))) 0]).seq NC.ret)),19, [.tmp e.f]⟩
theorem r8:aj Tryd.prog 27=some (.code we):=by kernel_rfl
noncomputable def vW:NFun:=⟨(reg [o e.b (.box (t e) 46) 0,o e.c (.move kf) 1]).seq ((regD [f 0 e.f e.b 0,O e.a.a (.load1 (t e.f)) 1 1,l e.a.b e.a 2,O e.a.c (.indexSlc 1 (t e.a.b) (k 0)) 4 3,O e.a.f (.load1 (t e.a.c)) 12 4,O e.b.a (.bin .num .eql (t e.a.a) (t e.a.f)) 31 5,O e.c (.move (t e.b.a)) 63 6]).seq NC.ret),10, [.tmp e.c]⟩
theorem s7:aj Tryd.prog 28=some (.code vW):=by kernel_rfl
noncomputable def wt:NFun:=⟨(reg [o e.b (.move (k 0)) 0,o e.c (.move (.const .nili)) 1]).seq ((reg [m e.a.c e 0,o e.a.f (.call (F 44) [t e.a.c]) 1,m e.a.b e.a.f 2,x e.b.a e.a.b 0 3,x e.b.b e.a.b 1 4,m e.f e.b.a 5,m e.a.a e.b.b 6]).seq (((reg [m e.b.c e.a.a 0,o e.b.f (.bin .ifc .neq (t e.b.c) (.const .nili)) 1]).seq (NC.cond (t e.b.f) ((reg [m e.c.a e.f 0,m e.c.b e 1,m e.c.c e.a.a 2,o e.c.f (.call (F 45) [.const (.str [65,116,111,105]),t e.c.b,k 0,k 0,t e.c.c]) 3,m e.b e.c.a 4,m e.c e.c.f 5]).seq NC.ret) NC.skip)).seq ((reg [m e.f.a e.f 0,m e.b e.f.a 1,o e.c (.move (.const .nili)) 2]).seq NC.ret))),18, [.tmp e.b,.tmp e.c]⟩
theorem sc:aj Tryd.prog 29=some (.code wt):=by kernel_rfl
noncomputable def wp:NFun:=⟨(reg [o e (.move kn) 0]).seq ((reg [o e.b.b (.call (F 58) [k 0]) 0,o e.b.c (.call (F 58) [k 5]) 1,o e.b.f (.call (F 58) [k 16]) 2,o e.a (.alloc [.int .i64 (.lit 0),.int .i64 (.lit 0)] 103) 3,o e.b (.alloc [.int .i64 (.lit 0),.int .i64 (.lit 0)] 103) 4,o e.c (.alloc [.int .i64 (.lit 0),.int .i64 (.lit 0)] 103) 5,q (.store 2 (t e.a) (t e.b.b)) 6,q (.store 2 (t e.b) (t e.b.c)) 7,q (.store 2 (t e.c) (t e.b.f)) 8]).seq ((reg [o e.c.a (.mkFn 59 [t e.a]) 0,m e.f e.c.a 1]).seq ((reg [o e.c.b (.mkFn 60 [t e.a,t e.b,t e.c]) 0,m e.a.a e.c.b 1]).seq ((reg [o e.a.b (.move (F 61)) 0]).seq ((reg [o e.c.c (.mkFn 62 [t e.a,t e.b]) 0,m e.a.c e.c.c 1]).seq ((reg [o e.c.f (.mkFn 63 [t e.a,t e.b]) 0,m e.a.f e.c.f 1]).seq ((reg [o e.b.a (.move (F 64)) 0]).seq ((regD [m e.f.a e.f 0,m e.f.c e.f 2,m e.a.a.a e.a.a 4,m e.a.a.c e.a.a 6,m e.a.b.a e.a.a 8,m e.a.b.c e.a.a 10,o e.a.c.a (.loadN 2 (t e.b)) 12,o e.a.c.b (.loadN 2 (t e.c)) 13,O e.a.c.c (.build [.int .u32 (.lit 0),.int .i64 (.lit 0),.int .i64 (.lit 0),.int .i64 (.lit 0),.int .i64 (.lit 0),.int .i64 (.lit 0),.int .i64 (.lit 0),.int .i64 (.lit 0),.int .i64 (.lit 0),.int .i64 (.lit 0),.int .i64 (.lit 0),.int .i64 (.lit 0),.int .i64 (.lit 0),.bool false,.bool false] [(0,1,.const (.int .u32 (.lit 3942645791))),(3,2,t e.a.c.a),(5,2,t e.a.c.b)]) 12288 14,o e.a.c.f (.loadN 2 (t e.a)) 15,o e.a.f.a (.build [.int .i64 (.lit 0),.int .i64 (.lit 0)] [(0,1,k 12),(1,1,k 4)]) 16,O e.a.f.b (.build [.int .u32 (.lit 0),.int .i64 (.lit 0),.int .i64 (.lit 0),.int .i64 (.lit 0),.int .i64 (.lit 0),.int .i64 (.lit 0),.int .i64 (.lit 0),.int .i64 (.lit 0),.int .i64 (.lit 0),.int .i64 (.lit 0),.int .i64 (.lit 0),.int .i64 (.lit 0),.int .i64 (.lit 0),.bool false,.bool false] [(0,1,.const (.int .u32 (.lit 2594113504))),(1,2,t e.a.c.f),(11,2,t e.a.f.a),(14,1,.const (.bool true))]) 98304 17,o e.a.f.c (.build [.int .i64 (.lit 0),.int .i64 (.lit 0)] [(0,1,k 0),(1,1,k 26)]) 18,O e.a.f.f (.build [.int .u32 (.lit 0),.int .i64 (.lit 0),.int .i64 (.lit 0),.int .i64 (.lit 0),.int .i64 (.lit 0),.int .i64 (.lit 0),.int .i64 (.lit 0),.int .i64 (.lit 0),.int .i64 (.lit 0),.int .i64 (.lit 0),.int .i64 (.lit 0),.int .i64 (.lit 0),.int .i64 (.lit 0),.bool false,.bool false] [(0,1,.const (.int .u32 (.lit 335544320))),(9,2,t e.a.f.c),(13,1,.const (.bool true))]) 262144 19,o e.b.a.a (.build [.int .i64 (.lit 0),.int .i64 (.lit 0)] [(0,1,k 5),(1,1,k 19)]) 20,o e.b.a.b (.build [.int .i64 (.lit 0),.int .i64 (.lit 0)] [(0,1,k 0),(1,1,k 4)]) 21,O e.b.a.c (.build [.int .u32 (.lit 0),.int .i64 (.lit 0),.int .i64 (.lit 0),.int .i64 (.lit 0),.int .i64 (.lit 0),.int .i64 (.lit 0),.int .i64 (.lit 0),.int .i64 (.lit 0),.int .i64 (.lit 0),.int .i64 (.lit 0),.int .i64 (.lit 0),.int .i64 (.lit 0),.int .i64 (.lit 0),.bool false,.bool false] [(0,1,.const (.int .u32 (.lit 1409286144))),(9,2,t e.b.a.a),(13,1,.const (.bool true)),(11,2,t e.b.a.b)]) 3145728 22,m e.b.a.f e.a.b 23,m e.b.b.b e.a.b 25,m e.b.b.f e.a.c 27,m e.b.c.b e.a.c 29,m e.b.c.f e.a.f 31,m e.b.f.b e.a.f 33,m e.b.f.f e.a.f 35,o e.c.a.b (.loadN 2 (t e.a)) 37,o e.c.a.c (.loadN 2 (t e.b)) 38,m e.c.b.b e.b.a 41,m e.c.b.f e.b.a 43,m e.c.c.f e.b.a 47,m e.c.f.b e.b.a 49,m e.c.f.f e.b.a 51,O e.f.b (.call (t e.f.a) [.const (.int .u32 (.lit 3531603968))]) 1 1,O e.f.f (.call (t e.f.c) [.const (.int .u32 (.lit 4068474880))]) 7 3,O e.a.a.b (.call (t e.a.a.a) [.const (.int .u32 (.lit 2332033024))]) 31 5,O e.a.a.f (.call (t e.a.a.c) [.const (.int .u32 (.lit 3405774848))]) 127 7,O e.a.b.b (.call (t e.a.b.a) [.const (.int .u32 (.lit 2600500224))]) 511 9,O e.a.b.f (.call (t e.a.b.c) [.const (.int .u32 (.lit 2315255808))]) 2047 11,O e.b.b.a (.call (t e.b.a.f) [.const (.int .u32 (.lit 3019898880))]) 8392703 24,O e.b.b.c (.call (t e.b.b.b) [.const (.int .u32 (.lit 3036676096))]) 58724351 26,O e.b.c.a (.call (t e.b.b.f) [.const (.int .u32 (.lit 4181721088))]) 260050943 28,O e.b.c.c (.call (t e.b.c.b) [.const (.int .u32 (.lit 4177526784))]) 1065357311 30,O e.b.f.a (.call (t e.b.c.f) [.const (.int .u32 (.lit 3370122240))]) 4286582783 32,O e.b.f.c (.call (t e.b.f.b) [.const (.int .u32 (.lit 3365927936))]) 17171484671 34,O e.c.a.a (.call (t e.b.f.f) [.const (.int .u32 (.lit 3361700864))]) 68711092223 36,O e.c.a.f (.call (F 58) [k 16]) 137430568959 39,O e.c.b.a (.build [.int .u32 (.lit 0),.int .i64 (.lit 0),.int .i64 (.lit 0),.int .i64 (.lit 0),.int .i64 (.lit 0),.int .i64 (.lit 0),.int .i64 (.lit 0),.int .i64 (.lit 0),.int .i64 (.lit 0),.int .i64 (.lit 0),.int .i64 (.lit 0),.int .i64 (.lit 0),.int .i64 (.lit 0),.bool false,.bool false] [(0,1,.const (.int .u32 (.lit 3355474944))),(1,2,t e.c.a.b),(3,2,t e.c.a.c),(7,2,t e.c.a.f)]) 1099503243263 40,O e.c.b.c (.call (t e.c.b.b) [.const (.int .u32 (.lit 3573758911))]) 2886209638399 42,O e.c.c.a (.call (t e.c.b.f) [.const (.int .u32 (.lit 3573758879))]) 16080349171711 44,O e.c.c.b (.call (F 58) [k 0]) 33672535216127 45,O e.c.c.c (.build [.int .u32 (.lit 0),.int .i64 (.lit 0),.int .i64 (.lit 0),.int .i64 (.lit 0),.int .i64 (.lit 0),.int .i64 (.lit 0),.int .i64 (.lit 0),.int .i64 (.lit 0),.int .i64 (.lit 0),.int .i64 (.lit 0),.int .i64 (.lit 0),.int .i64 (.lit 0),.int .i64 (.lit 0),.bool false,.bool false] [(0,1,.const (.int .u32 (.lit 3574299680))),(3,2,t e.c.c.b)]) 68856907304959 46,O e.c.f.a (.call (t e.c.c.f) [.const (.int .u32 (.lit 3573751839))]) 209594395660287 48,O e.c.f.c (.call (t e.c.f.b) [.const (.int .u32 (.lit 3560964096))]) 1054019325792255 50,O e.f.a.a (.call (t e.c.f.f) [.const (.int .u32 (.lit 3556769793))]) 4431719046320127 52,O e.f.a.b (.buildSlice [.int .u32 (.lit 0),.int .i64 (.lit 0),.int .i64 (.lit 0),.int .i64 (.lit 0),.int .i64 (.lit 0),.int .i64 (.lit 0),.int .i64 (.lit 0),.int .i64 (.lit 0),.int .i64 (.lit 0),.int .i64 (.lit 0),.int .i64 (.lit 0),.int .i64 (.lit 0),.int .i64 (.lit 0),.bool false,.bool false,.int .u32 (.lit 0),.int .i64 (.lit 0),.int .i64 (.lit 0),.int .i64 (.lit 0),.int .i64 (.lit 0),.int .i64 (.lit 0),.int .i64 (.lit 0),.int .i64 (.lit 0),.int .i64 (.lit 0),.int .i64 (.lit 0),.int .i64 (.lit 0),.int .i64 (.lit 0),.int .i64 (.lit 0),.bool false,.bool false,.int .u32 (.lit 0),.int .i64 (.lit 0),.int .i64 (.lit 0),.int .i64 (.lit 0),.int .i64 (.lit 0),.int .i64 (.lit 0),.int .i64 (.lit 0),.int .i64 (.lit 0),.int .i64 (.lit 0),.int .i64 (.lit 0),.int .i64 (.lit 0),.int .i64 (.lit 0),.int .i64 (.lit 0),.bool false,.bool false,.int .u32 (.lit 0),.int .i64 (.lit 0),.int .i64 (.lit 0),.int .i64 (.lit 0),.int .i64 (.lit 0),.int .i64 (.lit 0),.int .i64 (.lit 0),.int .i64 (.lit 0),.int .i64 (.lit 0),.int .i64 (.lit 0),.int .i64 (.lit 0),.int .i64 (.lit 0),.int .i64 (.lit 0),.bool false,.bool false,.int .u32 (.lit 0),.int .i64 (.lit 0),.int .i64 (.lit 0),.int .i64 (.lit 0),.int .i64 (.lit 0),.int .i64 (.lit 0),.int .i64 (.lit 0),.int .i64 (.lit 0),.int .i64 (.lit 0),.int .i64 (.lit 0),.int .i64 (.lit 0),.int .i64 (.lit 0),.int .i64 (.lit 0),.bool false,.bool false,.int .u32 (.lit 0),.int .i64 (.lit 0),.int .i64 (.lit 0),.int .i64 (.lit 0),.int .i64 (.lit 0),.int .i64 (.lit 0),.int .i64 (.lit 0),.int .i64 (.lit 0),.int .i64 (.lit 0),.int .i64 (.lit 0),.int .i64 (.lit 0),.int .i64 (.lit 0),.int .i64 (.lit 0),.bool false,.bool false,.int .u32 (.lit 0),.int .i64 (.lit 0),.int .i64 (.lit 0),.int .i64 (.lit 0),.int .i64 (.lit 0),.int .i64 (.lit 0),.int .i64 (.lit 0),.int .i64 (.lit 0),.int .i64 (.lit 0),.int .i64 (.lit 0),.int .i64 (.lit 0),.int .i64 (.lit 0),.int .i64 (.lit 0),.bool false,.bool false,.int .u32 (.lit 0),.int .i64 (.lit 0),.int .i64 (.lit 0),.int .i64 (.lit 0),.int .i64 (.lit 0),.int .i64 (.lit 0),.int .i64 (.lit 0),.int .i64 (.lit 0),.int .i64 (.lit 0),.int .i64 (.lit 0),.int .i64 (.lit 0),.int .i64 (.lit 0),.int .i64 (.lit 0),.bool false,.bool false,.int .u32 (.lit 0),.int .i64 (.lit 0),.int .i64 (.lit 0),.int .i64 (.lit 0),.int .i64 (.lit 0),.int .i64 (.lit 0),.int .i64 (.lit 0),.int .i64 (.lit 0),.int .i64 (.lit 0),.int .i64 (.lit 0),.int .i64 (.lit 0),.int .i64 (.lit 0),.int .i64 (.lit 0),.bool false,.bool false,.int .u32 (.lit 0),.int .i64 (.lit 0),.int .i64 (.lit 0),.int .i64 (.lit 0),.int .i64 (.lit 0),.int .i64 (.lit 0),.int .i64 (.lit 0),.int .i64 (.lit 0),.int .i64 (.lit 0),.int .i64 (.lit 0),.int .i64 (.lit 0),.int .i64 (.lit 0),.int .i64 (.lit 0),.bool false,.bool false,.int .u32 (.lit 0),.int .i64 (.lit 0),.int .i64 (.lit 0),.int .i64 (.lit 0),.int .i64 (.lit 0),.int .i64 (.lit 0),.int .i64 (.lit 0),.int .i64 (.lit 0),.int .i64 (.lit 0),.int .i64 (.lit 0),.int .i64 (.lit 0),.int .i64 (.lit 0),.int .i64 (.lit 0),.bool false,.bool false,.int .u32 (.lit 0),.int .i64 (.lit 0),.int .i64 (.lit 0),.int .i64 (.lit 0),.int .i64 (.lit 0),.int .i64 (.lit 0),.int .i64 (.lit 0),.int .i64 (.lit 0),.int .i64 (.lit 0),.int .i64 (.lit 0),.int .i64 (.lit 0),.int .i64 (.lit 0),.int .i64 (.lit 0),.bool false,.bool false,.int .u32 (.lit 0),.int .i64 (.lit 0),.int .i64 (.lit 0),.int .i64 (.lit 0),.int .i64 (.lit 0),.int .i64 (.lit 0),.int .i64 (.lit 0),.int .i64 (.lit 0),.int .i64 (.lit 0),.int .i64 (.lit 0),.int .i64 (.lit 0),.int .i64 (.lit 0),.int .i64 (.lit 0),.bool false,.bool false,.int .u32 (.lit 0),.int .i64 (.lit 0),.int .i64 (.lit 0),.int .i64 (.lit 0),.int .i64 (.lit 0),.int .i64 (.lit 0),.int .i64 (.lit 0),.int .i64 (.lit 0),.int .i64 (.lit 0),.int .i64 (.lit 0),.int .i64 (.lit 0),.int .i64 (.lit 0),.int .i64 (.lit 0),.bool false,.bool false,.int .u32 (.lit 0),.int .i64 (.lit 0),.int .i64 (.lit 0),.int .i64 (.lit 0),.int .i64 (.lit 0),.int .i64 (.lit 0),.int .i64 (.lit 0),.int .i64 (.lit 0),.int .i64 (.lit 0),.int .i64 (.lit 0),.int .i64 (.lit 0),.int .i64 (.lit 0),.int .i64 (.lit 0),.bool false,.bool false,.int .u32 (.lit 0),.int .i64 (.lit 0),.int .i64 (.lit 0),.int .i64 (.lit 0),.int .i64 (.lit 0),.int .i64 (.lit 0),.int .i64 (.lit 0),.int .i64 (.lit 0),.int .i64 (.lit 0),.int .i64 (.lit 0),.int .i64 (.lit 0),.int .i64 (.lit 0),.int .i64 (.lit 0),.bool false,.bool false,.int .u32 (.lit 0),.int .i64 (.lit 0),.int .i64 (.lit 0),.int .i64 (.lit 0),.int .i64 (.lit 0),.int .i64 (.lit 0),.int .i64 (.lit 0),.int .i64 (.lit 0),.int .i64 (.lit 0),.int .i64 (.lit 0),.int .i64 (.lit 0),.int .i64 (.lit 0),.int .i64 (.lit 0),.bool false,.bool false,.int .u32 (.lit 0),.int .i64 (.lit 0),.int .i64 (.lit 0),.int .i64 (.lit 0),.int .i64 (.lit 0),.int .i64 (.lit 0),.int .i64 (.lit 0),.int .i64 (.lit 0),.int .i64 (.lit 0),.int .i64 (.lit 0),.int .i64 (.lit 0),.int .i64 (.lit 0),.int .i64 (.lit 0),.bool false,.bool false,.int .u32 (.lit 0),.int .i64 (.lit 0),.int .i64 (.lit 0),.int .i64 (.lit 0),.int .i64 (.lit 0),.int .i64 (.lit 0),.int .i64 (.lit 0),.int .i64 (.lit 0),.int .i64 (.lit 0),.int .i64 (.lit 0),.int .i64 (.lit 0),.int .i64 (.lit 0),.int .i64 (.lit 0),.bool false,.bool false,.int .u32 (.lit 0),.int .i64 (.lit 0),.int .i64 (.lit 0),.int .i64 (.lit 0),.int .i64 (.lit 0),.int .i64 (.lit 0),.int .i64 (.lit 0),.int .i64 (.lit 0),.int .i64 (.lit 0),.int .i64 (.lit 0),.int .i64 (.lit 0),.int .i64 (.lit 0),.int .i64 (.lit 0),.bool false,.bool false,.int .u32 (.lit 0),.int .i64 (.lit 0),.int .i64 (.lit 0),.int .i64 (.lit 0),.int .i64 (.lit 0),.int .i64 (.lit 0),.int .i64 (.lit 0),.int .i64 (.lit 0),.int .i64 (.lit 0),.int .i64 (.lit 0),.int .i64 (.lit 0),.int .i64 (.lit 0),.int .i64 (.lit 0),.bool false,.bool false,.int .u32 (.lit 0),.int .i64 (.lit 0),.int .i64 (.lit 0),.int .i64 (.lit 0),.int .i64 (.lit 0),.int .i64 (.lit 0),.int .i64 (.lit 0),.int .i64 (.lit 0),.int .i64 (.lit 0),.int .i64 (.lit 0),.int .i64 (.lit 0),.int .i64 (.lit 0),.int .i64 (.lit 0),.bool false,.bool false,.int .u32 (.lit 0),.int .i64 (.lit 0),.int .i64 (.lit 0),.int .i64 (.lit 0),.int .i64 (.lit 0),.int .i64 (.lit 0),.int .i64 (.lit 0),.int .i64 (.lit 0),.int .i64 (.lit 0),.int .i64 (.lit 0),.int .i64 (.lit 0),.int .i64 (.lit 0),.int .i64 (.lit 0),.bool false,.bool false,.int .u32 (.lit 0),.int .i64 (.lit 0),.int .i64 (.lit 0),.int .i64 (.lit 0),.int .i64 (.lit 0),.int .i64 (.lit 0),.int .i64 (.lit 0),.int .i64 (.lit 0),.int .i64 (.lit 0),.int .i64 (.lit 0),.int .i64 (.lit 0),.int .i64 (.lit 0),.int .i64 (.lit 0),.bool false,.bool false] 15 24 105 [(0,15,t e.f.b),(15,15,t e.f.f),(30,15,t e.a.a.b),(45,15,t e.a.a.f),(60,15,t e.a.b.b),(75,15,t e.a.b.f),(90,15,t e.a.c.c),(105,15,t e.a.f.b),(120,15,t e.a.f.f),(135,15,t e.b.a.c),(150,15,t e.b.b.a),(165,15,t e.b.b.c),(180,15,t e.b.c.a),(195,15,t e.b.c.c),(210,15,t e.b.f.a),(225,15,t e.b.f.c),(240,15,t e.c.a.a),(255,15,t e.c.b.a),(270,15,t e.c.b.c),(285,15,t e.c.c.a),(300,15,t e.c.c.c),(315,15,t e.c.f.a),(330,15,t e.c.f.c),(345,15,t e.f.a.a)]) 9007199254740991 53,O e (.move (t e.f.a.b)) 18014398509481983 54]).seq NC.ret)))))))),71, [.tmp e]⟩
theorem sE:aj Tryd.prog 39=some (.code wp):=by kernel_rfl
noncomputable def vH:NFun:=⟨(reg [o e.b (.box (t e) 105) 0,o e.c (.box (t e.a) 23) 1,o e.f (.move kf) 2]).seq ((reg [f 6 e.a.c e.c 0,l e.a.f e.a.c 1,f 9 e.b.a e.b 2,f 1 e.b.b e.b.a 3,l e.b.c e.b.b 4,o e.b.f (.call (F 65) [t e.a.f,t e.b.c]) 5,m e.a.a e.b.f 6]).seq (((reg [f 13 e.c.a e.b 0,l e.c.b e.c.a 1]).seq (NC.cond (t e.c.b) (reg [f 6 e.c.c e.c 0,l e.c.f e.c.c 1,f 9 e.f.a e.b 2,f 1 e.f.b e.f.a 3,l e.f.c e.f.b 4,o e.f.f (.call (F 66) [t e.c.f,t e.f.c]) 5,m e.a.a e.f.f 6]) NC.skip)).seq ((reg [f 1 e.a.a.a e.c 0,l e.a.a.b e.a.a.a 1,f 1 e.a.a.c e.b 2,f 1 e.a.a.f e.a.a.c 3,l e.a.b.a e.a.a.f 4,o e.a.b.b (.call (F 65) [t e.a.a.b,t e.a.b.a]) 5,m e.a.b.c e.a.b.b 6,G e.a.b.f (.fieldAddr 2 (t e.c)) e.a.b.c true 7,G e.a.c.a (.load1 (t e.a.b.f)) e.a.b.c true 8,G e.a.c.b (.fieldAddr 3 (t e.b)) e.a.b.c true 9,G e.a.c.c (.fieldAddr 1 (t e.a.c.b)) e.a.b.c true 10,G e.a.c.f (.load1 (t e.a.c.c)) e.a.b.c true 11,G e.a.f.a (.call (F 65) [t e.a.c.a,t e.a.c.f]) e.a.b.c true 12,o e.a.f.b (.pick (t e.a.b.c) (t e.a.f.a) kf) 13,m e.a.f.c e.a.f.b 14,G e.a.f.f (.fieldAddr 3 (t e.c)) e.a.f.c true 15,G e.b.a.a (.load1 (t e.a.f.f)) e.a.f.c true 16,G e.b.a.b (.fieldAddr 5 (t e.b)) e.a.f.c true 17,G e.b.a.c (.fieldAddr 1 (t e.b.a.b)) e.a.f.c true 18,G e.b.a.f (.load1 (t e.b.a.c)) e.a.f.c true 19,G e.b.b.a (.call (F 65) [t e.b.a.a,t e.b.a.f]) e.a.f.c true 20,o e.b.b.b (.pick (t e.a.f.c) (t e.b.b.a) kf) 21,m e.b.b.c e.b.b.b 22,G e.b.b.f (.fieldAddr 4 (t e.c)) e.b.b.c true 23,G e.b.c.a (.load1 (t e.b.b.f)) e.b.b.c true 24,G e.b.c.b (.fieldAddr 7 (t e.b)) e.b.b.c true 25,G e.b.c.c (.fieldAddr 1 (t e.b.c.b)) e.b.b.c true 26,G e.b.c.f (.load1 (t e.b.c.c)) e.b.b.c true 27,G e.b.f.a (.call (F 65) [t e.b.c.a,t e.b.c.f]) e.b.b.c true 28,o e.b.f.b (.pick (t e.b.b.c) (t e.b.f.a) kf) 29,m e.a.b e.b.f.b 30]).seq ((reg [m e.b.f.c e.a.a 0,m e.b.f.f e.b.f.c 1,G e.c.a.a (.move (t e.a.b)) e.b.f.f true 2,o e.c.a.b (.pick (t e.b.f.f) (t e.c.a.a) kf) 3,m e.c.a.c e.c.a.b 4,G e.c.a.f (.fieldAddr 11 (t e.b)) e.c.a.c true 5,G e.c.b.a (.fieldAddr 1 (t e.c.a.f)) e.c.a.c true 6,G e.c.b.b (.load1 (t e.c.b.a)) e.c.a.c true 7,G e.c.b.c (.bin .num .gtr (t e.c.b.b) (k 0)) e.c.a.c true 8,G e.c.b.f (.move (t e.c.b.c)) e.c.a.c true 9,G e.c.c.a (.fieldAddr 5 (t e.c)) e.c.b.f true 10,G e.c.c.b (.load1 (t e.c.c.a)) e.c.b.f true 11,G e.c.c.c (.call (F 67) [t e.c.c.b]) e.c.b.f true 12,G e.c.c.f (.pick (t e.c.b.f) (t e.c.c.c) kf) e.c.a.c true 13,G e.c.f.a (.move (t e.c.c.f)) e.c.a.c true 14,G e.c.f.b (.fieldAddr 11 (t e.b)) e.c.f.a false 15,G e.c.f.c (.fieldAddr 1 (t e.c.f.b)) e.c.f.a false 16,G e.c.f.f (.load1 (t e.c.f.c)) e.c.f.a false 17,G e.f.a.a (.bin .num .eql (t e.c.f.f) (k 0)) e.c.f.a false 18,G e.f.a.b (.move (t e.f.a.a)) e.c.f.a false 19,G e.f.a.c (.fieldAddr 5 (t e.c)) e.f.a.b true 20,G e.f.a.f (.load1 (t e.f.a.c)) e.f.a.b true 21,G e.f.b.a (.bin .num .eql (t e.f.a.f) (k 0)) e.f.a.b true 22,G e.f.b.b (.pick (t e.f.a.b) (t e.f.b.a) kf) e.c.f.a false 23,G e.f.b.c (.pick (t e.c.f.a) kt (t e.f.b.b)) e.c.a.c true 24,o e.f.b.f (.pick (t e.c.a.c) (t e.f.b.c) kf) 25,m e.f e.f.b.f 26]).seq NC.ret)))),77, [.tmp e.f]⟩
theorem sJ:aj Tryd.prog 40=some (.code vH):=by kernel_rfl
noncomputable def vS:NFun:=⟨(reg [o e.b (.move (.const (.str []))) 0]).seq ((reg [m e.c e 0,o e.f (.call (F 68) [t e.c,k 10]) 1,m e.b e.f 2]).seq NC.ret),5, [.tmp e.b]⟩
theorem th:aj Tryd.prog 41=some (.code vS):=by kernel_rfl
noncomputable def vJ:NFun:=⟨(reg [o e.a.b (.move (k 0)) 0]).seq ((NC.block 0 ((reg [m e.a.f e 0,m e.b.a e.a 1,b e.b.b .lss (t e.a.f) (t e.b.a) 2,m e.a.c e.b.b 3]).seq (NC.cond (t e.a.c) ((reg [m e.b.c e.a 0,m e.a.b e.b.c 1]).seq NC.ret) ((reg [m e.c.a e 0,m e.c.b e.b 1,b e.c.c .gtr (t e.c.a) (t e.c.b) 2,m e.b.f e.c.c 3]).seq (NC.cond (t e.b.f) ((reg [m e.c.f e.b 0,m e.a.b e.c.f 1]).seq NC.ret) NC.skip))))).seq ((reg [m e.f.a e 0,m e.a.b e.f.a 1]).seq NC.ret)),18, [.tmp e.a.b]⟩
theorem sj:aj Tryd.prog 42=some (.code vJ):=by kernel_rfl
noncomputable def rX:NC:=(((reg [m e.a.f.b e.b.b 0,m e.a.f.c e.c 1,b e.a.f.f .lss (t e.a.f.b) (t e.a.f.c) 2]).seq (NC.cond (t e.a.f.f) NC.skip (NC.exit 0))).seq (NC.block 1 ((reg [m e.b.a.a e 0,m e.b.a.b e.a 1,o e.b.a.c (.call (F 71) [t e.b.a.a,t e.b.a.b]) 2,m e.b.c e.b.a.c 3]).seq (((reg [m e.b.a.f e.b.c 0,b e.b.b.a .lss (t e.b.a.f) (k 0) 1]).seq (NC.cond (t e.b.b.a) (NC.exit 0) NC.skip)).seq ((reg [m e.b.b.b e.b.a 0,m e.b.b.c e.b.b 1,m e.b.b.f e 2,m e.b.c.a e.b.c 3,m e.b.c.b e.b 4,b e.b.c.c .add (t e.b.c.a) (t e.b.c.b) 5,o e.b.c.f (.sliceStr (t e.b.b.f) none (some (t e.b.c.c))) 6,o e.b.f.a (.indexSlc 1 (t e.b.b.b) (t e.b.b.c)) 7,q (.store 1 (t e.b.f.a) (t e.b.c.f)) 8]).seq ((reg [m e.b.f.b e 0,m e.b.f.c e.b.c 1,m e.b.f.f e.a 2,o e.c.a.a (.lenStr (t e.b.f.f)) 3,b e.c.a.b .add (t e.b.f.c) (t e.c.a.a) 4,o e.c.a.c (.sliceStr (t e.b.f.b) (some (t e.c.a.b)) none) 5,m e e.c.a.c 6]).seq (reg [m e.c.a.f e.b.b 0,b e.c.b.a .add (t e.c.a.f) (k 1) 1,m e.b.b e.c.b.a 2])))))))
noncomputable def wh:NFun:=⟨(reg [o e.a.f (.move kn) 0]).seq (((reg [m e.b.f e.c 0,b e.c.a .eql (t e.b.f) (k 0) 1]).seq (NC.cond (t e.c.a) ((reg [o e.a.f (.move kn) 0]).seq NC.ret) NC.skip)).seq (((reg [m e.c.b e.a 0,b e.c.c .eql (t e.c.b) (.const (.str [])) 1]).seq (NC.cond (t e.c.c) ((reg [m e.c.f e 0,m e.f.a e.c 1,o e.f.b (.call (F 69) [t e.c.f,t e.f.a]) 2,m e.a.f e.f.b 3]).seq NC.ret) NC.skip)).seq (((reg [m e.f.c e.c 0,b e.f.f .lss (t e.f.c) (k 0) 1]).seq (NC.cond (t e.f.f) (reg [m e.a.a.a e 0,m e.a.a.b e.a 1,o e.a.a.c (.call (F 70) [t e.a.a.a,t e.a.a.b]) 2,b e.a.a.f .add (t e.a.a.c) (k 1) 3,m e.c e.a.a.f 4]) NC.skip)).seq ((reg [m e.a.b.a e.c 0,m e.a.b.b e 1,o e.a.b.c (.lenStr (t e.a.b.b)) 2,b e.a.b.f .add (t e.a.b.c) (k 1) 3,o e.a.c.a (.minmax false [t e.a.b.a,t e.a.b.f]) 4,m e.c e.a.c.a 5]).seq ((reg [m e.a.c.b e.c 0,o e.a.c.c (.mkSlice [.str []] 1 16 9 (t e.a.c.b) (t e.a.c.b)) 1,m e.b.a e.a.c.c 2]).seq ((reg [m e.a.c.f e.c 0,b e.a.f.a .sub (t e.a.c.f) (k 1) 1,m e.c e.a.f.a 2]).seq ((reg [o e.b.b (.move (k 0)) 0]).seq ((NC.block 0 rX.loop).seq ((reg [m e.c.b.b e.b.a 0,m e.c.b.c e.b.b 1,m e.c.b.f e 2,o e.c.c.a (.indexSlc 1 (t e.c.b.b) (t e.c.b.c)) 3,q (.store 1 (t e.c.c.a) (t e.c.b.f)) 4]).seq ((reg [m e.c.c.b e.b.a 0,m e.c.c.c e.b.b 1,b e.c.c.f .add (t e.c.c.c) (k 1) 2,o e.c.f.a (.sliceSlc 1 (t e.c.c.b) none (some (t e.c.c.f))) 3,m e.a.f e.c.f.a 4]).seq NC.ret)))))))))),66, [.tmp e.a.f]⟩
theorem rV:aj Tryd.prog 43=some (.code wh):=by kernel_rfl
noncomputable def rZ:NC:=((reg [b e.b.f.b .lss (t e.b.f.a) (t e.b.c.f) 0]).seq ((NC.cond (t e.b.f.b) NC.skip (NC.exit 0)).seq ((NC.block 1 ((reg [o e.b.f.c (.indexSlc 1 (t e.b.c.c) (t e.b.f.a)) 0,l e.b.f.f e.b.f.c 1,m e.a.f e.b.f.f 2]).seq ((reg [m e.c.a.a e.a.f 0,b e.c.a.b .sub (t e.c.a.a) (kb 48) 1,m e.a.f e.c.a.b 2]).seq (((reg [m e.c.a.c e.a.f 0,b e.c.a.f .gtr (t e.c.a.c) (kb 9) 1]).seq (NC.cond (t e.c.a.f) ((reg [o e.c.b.a (.mkIfc 132 (k 2)) 0,o e.b (.move (k 0)) 1,m e.c e.c.b.a 2]).seq NC.ret) NC.skip)).seq (reg [m e.c.b.b e.a.b 0,b e.c.b.c .mul (t e.c.b.b) (k 10) 1,m e.c.b.f e.a.f 2,o e.c.c.a (.toInt .i64 (t e.c.b.f)) 3,b e.c.c.b .add (t e.c.b.c) (t e.c.c.a) 4,m e.a.b e.c.c.b 5]))))).seq (reg [b e.c.c.c .add (t e.b.f.a) (k 1) 0,m e.b.f.a e.c.c.c 1]))))
noncomputable def wG:NFun:=⟨(reg [o e.b (.move (k 0)) 0,o e.c (.move (.const .nili)) 1]).seq ((reg [m e.b.c e 0,o e.b.f (.lenStr (t e.b.c)) 1,m e.f e.b.f 2]).seq (((reg [o e.c.a (.move kf) 0,G e.c.b (.move (t e.f)) e.c.a true 1,G e.c.c (.bin .num .lss (k 0) (t e.c.b)) e.c.a true 2,G e.c.f (.move (t e.c.c)) e.c.a true 3,G e.f.a (.move (t e.f)) e.c.f true 4,G e.f.b (.bin .num .lss (t e.f.a) (k 10)) e.c.f true 5,G e.f.c (.pick (t e.c.f) (t e.f.b) kf) e.c.a true 6,o e.f.f (.pick (t e.c.a) (t e.f.c) kf) 7,m e.a.a.a e.f.f 8,G e.a.a.b (.move kt) e.a.a.a false 9,G e.a.a.c (.move (t e.f)) e.a.a.b true 10,G e.a.a.f (.bin .num .lss (k 0) (t e.a.a.c)) e.a.a.b true 11,G e.a.b.a (.move (t e.a.a.f)) e.a.a.b true 12,G e.a.b.b (.move (t e.f)) e.a.b.a true 13,G e.a.b.c (.bin .num .lss (t e.a.b.b) (k 19)) e.a.b.a true 14,G e.a.b.f (.pick (t e.a.b.a) (t e.a.b.c) kf) e.a.a.b true 15,G e.a.c.a (.pick (t e.a.a.b) (t e.a.b.f) kf) e.a.a.a false 16,o e.a.c.b (.pick (t e.a.a.a) kt (t e.a.c.a)) 17]).seq (NC.cond (t e.a.c.b) ((reg [m e.a.c.c e 0,m e.a.a e.a.c.c 1]).seq (((reg [m e.a.c.f e 0,o e.a.f.a (.indexStr (t e.a.c.f) (k 0)) 1,b e.a.f.b .eql (t e.a.f.a) (kb 45) 2,m e.a.f.c e.a.f.b 3,G e.a.f.f (.move (t e)) e.a.f.c false 4,G e.b.a.a (.indexStr (t e.a.f.f) (k 0)) e.a.f.c false 5,G e.b.a.b (.bin .num .eql (t e.b.a.a) (kb 43)) e.a.f.c false 6,o e.b.a.c (.pick (t e.a.f.c) kt (t e.b.a.b)) 7]).seq (NC.cond (t e.b.a.c) ((reg [m e.b.a.f e 0,o e.b.b.a (.sliceStr (t e.b.a.f) (some (k 1)) none) 1,m e e.b.b.a 2]).seq ((reg [m e.b.b.b e 0,o e.b.b.c (.lenStr (t e.b.b.b)) 1,b e.b.b.f .lss (t e.b.b.c) (k 1) 2]).seq (NC.cond (t e.b.b.f) ((reg [o e.b.c.a (.mkIfc 132 (k 2)) 0,o e.b (.move (k 0)) 1,m e.c e.b.c.a 2]).seq NC.ret) NC.skip))) NC.skip)).seq ((reg [o e.a.b (.move (k 0)) 0]).seq (((reg [m e.b.c.b e 0,o e.b.c.c (.strToBytes 5 (t e.b.c.b)) 1,L e.b.c.f e.b.c.c 2,o e.b.f.a (.move (k 0)) 3]).seq (NC.block 0 rZ.loop)).seq (((reg [m e.c.c.f e.a.a 0,o e.c.f.a (.indexStr (t e.c.c.f) (k 0)) 1,b e.c.f.b .eql (t e.c.f.a) (kb 45) 2]).seq (NC.cond (t e.c.f.b) (reg [m e.c.f.c e.a.b 0,o e.c.f.f (.un .neg (t e.c.f.c)) 1,m e.a.b e.c.f.f 2]) NC.skip)).seq ((reg [m e.f.a.a e.a.b 0,m e.b e.f.a.a 1,o e.c (.move (.const .nili)) 2]).seq NC.ret)))))) NC.skip)).seq ((reg [m e.f.a.c e 0,o e.f.a.f (.call (F 72) [t e.f.a.c,k 10,k 0]) 1,m e.f.a.b e.f.a.f 2,x e.f.b.a e.f.a.b 0 3,x e.f.b.b e.f.a.b 1 4,m e.b.a e.f.b.a 5,m e.b.b e.f.b.b 6]).seq ((reg [m e.f.b.c e.b.a 0,m e.f.b.f e.b.b 1,m e.b e.f.b.c 2,m e.c e.f.b.f 3]).seq NC.ret)))),77, [.tmp e.b,.tmp e.c]⟩
theorem tc:aj Tryd.prog 44=some (.code wG):=by kernel_rfl
noncomputable def wu:NFun:=⟨(reg [o e.b.b (.move (.const .nili)) 0]).seq (((reg [m e.b.c e.f 0]).seq (NC.block 0 ((reg [o e.c.a (.mkIfc 132 (k 2)) 0,o e.c.b (.bin (.ifc2 [215,214,212,211,132,106,70,54,27,21,12,6,5,3,2]) .eql (t e.b.c) (t e.c.a)) 1,m e.b.f e.c.b 2]).seq (NC.cond (t e.b.f) ((reg [m e.c.c e 0,m e.c.f e.a 1,o e.f.a (.call (F 73) [t e.c.c,t e.c.f]) 2,o e.f.b (.mkIfc 135 (t e.f.a)) 3,m e.b.b e.f.b 4]).seq NC.ret) ((reg [o e.f.f (.mkIfc 132 (k 1)) 0,o e.a.a.a (.bin (.ifc2 [215,214,212,211,132,106,70,54,27,21,12,6,5,3,2]) .eql (t e.b.c) (t e.f.f)) 1,m e.f.c e.a.a.a 2]).seq (NC.cond (t e.f.c) ((reg [m e.a.a.b e 0,m e.a.a.c e.a 1,o e.a.a.f (.call (F 74) [t e.a.a.b,t e.a.a.c]) 2,o e.a.b.a (.mkIfc 135 (t e.a.a.f)) 3,m e.b.b e.a.b.a 4]).seq NC.ret) ((reg [o e.a.b.c (.mkIfc 132 (k 3)) 0,o e.a.b.f (.bin (.ifc2 [215,214,212,211,132,106,70,54,27,21,12,6,5,3,2]) .eql (t e.b.c) (t e.a.b.c)) 1,m e.a.b.b e.a.b.f 2]).seq (NC.cond (t e.a.b.b) ((reg [m e.a.c.a e 0,m e.a.c.b e.a 1,m e.a.c.c e.b 2,o e.a.c.f (.call (F 75) [t e.a.c.a,t e.a.c.b,t e.a.c.c]) 3,o e.a.f.a (.mkIfc 135 (t e.a.c.f)) 4,m e.b.b e.a.f.a 5]).seq NC.ret) ((reg [o e.a.f.c (.mkIfc 132 (k 4)) 0,o e.a.f.f (.bin (.ifc2 [215,214,212,211,132,106,70,54,27,21,12,6,5,3,2]) .eql (t e.b.c) (t e.a.f.c)) 1,m e.a.f.b e.a.f.f 2]).seq (NC.cond (t e.a.f.b) ((reg [m e.b.a.a e 0,m e.b.a.b e.a 1,m e.b.a.c e.c 2,o e.b.a.f (.call (F 76) [t e.b.a.a,t e.b.a.b,t e.b.a.c]) 3,o e.b.b.a (.mkIfc 135 (t e.b.a.f)) 4,m e.b.b e.b.b.a 5]).seq NC.ret) NC.skip)))))))))).seq ((reg [m e.b.b.b e.f 0,m e.b.b e.b.b.b 1]).seq NC.ret)),43, [.tmp e.b.b]⟩
theorem sN:aj Tryd.prog 45=some (.code wu):=by kernel_rfl
noncomputable def wH:NFun:=⟨(reg [o e.b (.alloc [.int .i64 (.lit 0),.int .i64 (.lit 0)] 103) 0]).seq ((reg [m e.c e 0,o e.f (.build [.int .i64 (.lit 0),.int .i64 (.lit 0)] [(0,1,t e.c),(1,1,k 5)]) 1,q (.store 2 (t e.b) (t e.f)) 2]).seq NC.ret),5, [.cellN e.b 2]⟩
theorem tg:aj Tryd.prog 58=some (.code wH):=by kernel_rfl
noncomputable def wi:NFun:=⟨(reg [o e.c (.alloc [.int .u32 (.lit 0),.int .i64 (.lit 0),.int .i64 (.lit 0),.int .i64 (.lit 0),.int .i64 (.lit 0),.int .i64 (.lit 0),.int .i64 (.lit 0),.int .i64 (.lit 0),.int .i64 (.lit 0),.int .i64 (.lit 0),.int .i64 (.lit 0),.int .i64 (.lit 0),.int .i64 (.lit 0),.bool false,.bool false] 105) 0]).seq ((reg [m e.f e 0,o e.a.a (.loadN 2 (t e.a)) 1,o e.a.b (.build [.int .i64 (.lit 0),.int .i64 (.lit 0)] [(0,1,k 21),(1,1,k 2)]) 2,o e.a.c (.build [.int .i64 (.lit 0),.int .i64 (.lit 0)] [(0,1,k 5),(1,1,k 16)]) 3,o e.a.f (.build [.int .u32 (.lit 0),.int .i64 (.lit 0),.int .i64 (.lit 0),.int .i64 (.lit 0),.int .i64 (.lit 0),.int .i64 (.lit 0),.int .i64 (.lit 0),.int .i64 (.lit 0),.int .i64 (.lit 0),.int .i64 (.lit 0),.int .i64 (.lit 0),.int .i64 (.lit 0),.int .i64 (.lit 0),.bool false,.bool false] [(0,1,t e.f),(1,2,t e.a.a),(7,2,t e.a.b),(9,2,t e.a.c)]) 4,q (.store 15 (t e.c) (t e.a.f)) 5]).seq NC.ret),9, [.cellN e.c 15]⟩
theorem sg:aj Tryd.prog 59=some (.code wi):=by kernel_rfl
noncomputable def vA:NFun:=⟨(reg [o e.a.a (.alloc [.int .u32 (.lit 0),.int .i64 (.lit 0),.int .i64 (.lit 0),.int .i64 (.lit 0),.int .i64 (.lit 0),.int .i64 (.lit 0),.int .i64 (.lit 0),.int .i64 (.lit 0),.int .i64 (.lit 0),.int .i64 (.lit 0),.int .i64 (.lit 0),.int .i64 (.lit 0),.int .i64 (.lit 0),.bool false,.bool false] 105) 0]).seq ((reg [m e.a.b e 0,o e.a.c (.loadN 2 (t e.a)) 1,o e.a.f (.loadN 2 (t e.b)) 2,o e.b.a (.loadN 2 (t e.c)) 3,o e.b.b (.build [.int .u32 (.lit 0),.int .i64 (.lit 0),.int .i64 (.lit 0),.int .i64 (.lit 0),.int .i64 (.lit 0),.int .i64 (.lit 0),.int .i64 (.lit 0),.int .i64 (.lit 0),.int .i64 (.lit 0),.int .i64 (.lit 0),.int .i64 (.lit 0),.int .i64 (.lit 0),.int .i64 (.lit 0),.bool false,.bool false] [(0,1,t e.a.b),(1,2,t e.a.c),(3,2,t e.a.f),(5,2,t e.b.a)]) 4,q (.store 15 (t e.a.a) (t e.b.b)) 5]).seq NC.ret),11, [.cellN e.a.a 15]⟩
theorem rY:aj Tryd.prog 60=some (.code vA):=by kernel_rfl
noncomputable def wQ:NFun:=⟨(reg [o e.b (.alloc [.int .u32 (.lit 0),.int .i64 (.lit 0),.int .i64 (.lit 0),.int .i64 (.lit 0),.int .i64 (.lit 0),.int .i64 (.lit 0),.int .i64 (.lit 0),.int .i64 (.lit 0),.int .i64 (.lit 0),.int .i64 (.lit 0),.int .i64 (.lit 0),.int .i64 (.lit 0),.int .i64 (.lit 0),.bool false,.bool false] 105) 0]).seq ((reg [m e.c e 0,o e.f (.call (F 58) [k 0]) 1,o e.a.a (.build [.int .i64 (.lit 0),.int .i64 (.lit 0)] [(0,1,k 5),(1,1,k 19)]) 2,o e.a.b (.build [.int .u32 (.lit 0),.int .i64 (.lit 0),.int .i64 (.lit 0),.int .i64 (.lit 0),.int .i64 (.lit 0),.int .i64 (.lit 0),.int .i64 (.lit 0),.int .i64 (.lit 0),.int .i64 (.lit 0),.int .i64 (.lit 0),.int .i64 (.lit 0),.int .i64 (.lit 0),.int .i64 (.lit 0),.bool false,.bool false] [(0,1,t e.c),(3,2,t e.f),(9,2,t e.a.a),(13,1,.const (.bool true))]) 3,q (.store 15 (t e.b) (t e.a.b)) 4]).seq NC.ret),7, [.cellN e.b 15]⟩
theorem sl:aj Tryd.prog 61=some (.code wQ):=by kernel_rfl
noncomputable def vL:NFun:=⟨(reg [o e.f (.alloc [.int .u32 (.lit 0),.int .i64 (.lit 0),.int .i64 (.lit 0),.int .i64 (.lit 0),.int .i64 (.lit 0),.int .i64 (.lit 0),.int .i64 (.lit 0),.int .i64 (.lit 0),.int .i64 (.lit 0),.int .i64 (.lit 0),.int .i64 (.lit 0),.int .i64 (.lit 0),.int .i64 (.lit 0),.bool false,.bool false] 105) 0]).seq ((reg [m e.a.a e 0,o e.a.b (.loadN 2 (t e.a)) 1,o e.a.c (.loadN 2 (t e.b)) 2,o e.a.f (.build [.int .i64 (.lit 0),.int .i64 (.lit 0)] [(0,1,k 10),(1,1,k 12)]) 3,o e.b.a (.build [.int .u32 (.lit 0),.int .i64 (.lit 0),.int .i64 (.lit 0),.int .i64 (.lit 0),.int .i64 (.lit 0),.int .i64 (.lit 0),.int .i64 (.lit 0),.int .i64 (.lit 0),.int .i64 (.lit 0),.int .i64 (.lit 0),.int .i64 (.lit 0),.int .i64 (.lit 0),.int .i64 (.lit 0),.bool false,.bool false] [(0,1,t e.a.a),(1,2,t e.a.b),(3,2,t e.a.c),(9,2,t e.a.f)]) 4,q (.store 15 (t e.f) (t e.b.a)) 5]).seq NC.ret),10, [.cellN e.f 15]⟩
theorem sy:aj Tryd.prog 62=some (.code vL):=by kernel_rfl
noncomputable def vY:NFun:=⟨(reg [o e.f (.alloc [.int .u32 (.lit 0),.int .i64 (.lit 0),.int .i64 (.lit 0),.int .i64 (.lit 0),.int .i64 (.lit 0),.int .i64 (.lit 0),.int .i64 (.lit 0),.int .i64 (.lit 0),.int .i64 (.lit 0),.int .i64 (.lit 0),.int .i64 (.lit 0),.int .i64 (.lit 0),.int .i64 (.lit 0),.bool false,.bool false] 105) 0]).seq ((reg [m e.a.a e 0,o e.a.b (.loadN 2 (t e.a)) 1,o e.a.c (.loadN 2 (t e.b)) 2,o e.a.f (.build [.int .u32 (.lit 0),.int .i64 (.lit 0),.int .i64 (.lit 0),.int .i64 (.lit 0),.int .i64 (.lit 0),.int .i64 (.lit 0),.int .i64 (.lit 0),.int .i64 (.lit 0),.int .i64 (.lit 0),.int .i64 (.lit 0),.int .i64 (.lit 0),.int .i64 (.lit 0),.int .i64 (.lit 0),.bool false,.bool false] [(0,1,t e.a.a),(1,2,t e.a.b),(3,2,t e.a.c)]) 3,q (.store 15 (t e.f) (t e.a.f)) 4]).seq NC.ret),9, [.cellN e.f 15]⟩
theorem sa:aj Tryd.prog 63=some (.code vY):=by kernel_rfl
noncomputable def wd:NFun:=⟨(reg [o e.b (.alloc [.int .u32 (.lit 0),.int .i64 (.lit 0),.int .i64 (.lit 0),.int .i64 (.lit 0),.int .i64 (.lit 0),.int .i64 (.lit 0),.int .i64 (.lit 0),.int .i64 (.lit 0),.int .i64 (.lit 0),.int .i64 (.lit 0),.int .i64 (.lit 0),.int .i64 (.lit 0),.int .i64 (.lit 0),.bool false,.bool false] 105) 0]).seq ((reg [m e.c e 0,o e.f (.build [.int .u32 (.lit 0),.int .i64 (.lit 0),.int .i64 (.lit 0),.int .i64 (.lit 0),.int .i64 (.lit 0),.int .i64 (.lit 0),.int .i64 (.lit 0),.int .i64 (.lit 0),.int .i64 (.lit 0),.int .i64 (.lit 0),.int .i64 (.lit 0),.int .i64 (.lit 0),.int .i64 (.lit 0),.bool false,.bool false] [(0,1,t e.c)]) 1,q (.store 15 (t e.b) (t e.f)) 2]).seq NC.ret),5, [.cellN e.b 15]⟩
theorem tH:aj Tryd.prog 64=some (.code wd):=by kernel_rfl
noncomputable def wl:NFun:=⟨(reg [o e.f (.move kf) 0]).seq ((reg [m e.a.b e.a 0,o e.a.c (.call (F 89) [k 0,t e.a.b]) 1,m e.a.a e.a.c 2,x e.a.f e.a.a 0 3,x e.b.a e.a.a 1 4,m e.a e.b.a 5]).seq ((reg [m e.b.b e 0,b e.b.c .geq (t e.b.b) (k 0) 1,m e.b.f e.b.c 2,G e.c.a (.move (t e)) e.b.f true 3,G e.c.b (.move (t e.a)) e.b.f true 4,G e.c.c (.bin .num .shl (k 1) (t e.c.b)) e.b.f true 5,G e.c.f (.bin .num .lss (t e.c.a) (t e.c.c)) e.b.f true 6,o e.f.a (.pick (t e.b.f) (t e.c.f) kf) 7,m e.f e.f.a 8]).seq NC.ret)),18, [.tmp e.f]⟩
theorem s6:aj Tryd.prog 65=some (.code wl):=by kernel_rfl
noncomputable def wZ:NFun:=⟨(reg [o e.f (.move kf) 0]).seq ((reg [m e.a.b e.a 0,o e.a.c (.call (F 89) [k 0,t e.a.b]) 1,m e.a.a e.a.c 2,x e.a.f e.a.a 0 3,x e.b.a e.a.a 1 4,m e.a e.b.a 5]).seq (((reg [m e.b.b e.a 0,b e.b.c .eql (t e.b.b) (k 0) 1]).seq (NC.cond (t e.b.c) ((reg [m e.b.f e 0,b e.c.a .eql (t e.b.f) (k 0) 1,m e.f e.c.a 2]).seq NC.ret) NC.skip)).seq ((reg [m e.c.b e 0,m e.c.c e.a 1,b e.c.f .sub (t e.c.c) (k 1) 2,b e.f.a .shl (k (-1)) (t e.c.f) 3,b e.f.b .geq (t e.c.b) (t e.f.a) 4,m e.f.c e.f.b 5,G e.f.f (.move (t e)) e.f.c true 6,G e.a.a.a (.move (t e.a)) e.f.c true 7,G e.a.a.b (.bin .num .sub (t e.a.a.a) (k 1)) e.f.c true 8,G e.a.a.c (.bin .num .shl (k 1) (t e.a.a.b)) e.f.c true 9,G e.a.a.f (.bin .num .lss (t e.f.f) (t e.a.a.c)) e.f.c true 10,o e.a.b.a (.pick (t e.f.c) (t e.a.a.f) kf) 11,m e.f e.a.b.a 12]).seq NC.ret))),26, [.tmp e.f]⟩
theorem rP:aj Tryd.prog 66=some (.code wZ):=by kernel_rfl
noncomputable def wY:NFun:=⟨(reg [o e.b (.move kf) 0]).seq ((reg [m e.c e 0,b e.f .eql (t e.c) (k 0) 1,m e.a.a e.f 2,G e.a.b (.move (t e)) e.a.a false 3,G e.a.c (.bin .num .eql (t e.a.b) (k 1)) e.a.a false 4,o e.a.f (.pick (t e.a.a) kt (t e.a.c)) 5,m e.b.a e.a.f 6,G e.b.b (.move (t e)) e.b.a false 7,G e.b.c (.bin .num .eql (t e.b.b) (k 11)) e.b.a false 8,o e.b.f (.pick (t e.b.a) kt (t e.b.c)) 9,m e.c.a e.b.f 10,G e.c.b (.move (t e)) e.c.a false 11,G e.c.c (.bin .num .eql (t e.c.b) (k 10)) e.c.a false 12,o e.c.f (.pick (t e.c.a) kt (t e.c.c)) 13,m e.b e.c.f 14]).seq NC.ret),17, [.tmp e.b]⟩
theorem se:aj Tryd.prog 67=some (.code wY):=by kernel_rfl
noncomputable def wC:NFun:=⟨(reg [o e.f (.move (.const (.str []))) 0]).seq (((reg [m e.b.b e.a 0,b e.b.c .eql (t e.b.b) (k 10) 1]).seq (NC.cond (t e.b.c) (((reg [m e.b.f e 0,b e.c.a .leq (k 0) (t e.b.f) 1,m e.c.b e.c.a 2,G e.c.c (.move (t e)) e.c.b true 3,G e.c.f (.bin .num .lss (t e.c.c) (k 100)) e.c.b true 4,o e.f.a (.pick (t e.c.b) (t e.c.f) kf) 5]).seq (NC.cond (t e.f.a) ((reg [m e.f.b e 0,o e.f.c (.call (F 90) [t e.f.b]) 1,m e.f e.f.c 2]).seq NC.ret) NC.skip)).seq ((reg [o e.a.a (.alloc [.int .u8 (.lit 0),.int .u8 (.lit 0),.int .u8 (.lit 0),.int .u8 (.lit 0),.int .u8 (.lit 0),.int .u8 (.lit 0),.int .u8 (.lit 0),.int .u8 (.lit 0),.int .u8 (.lit 0),.int .u8 (.lit 0),.int .u8 (.lit 0),.int .u8 (.lit 0),.int .u8 (.lit 0),.int .u8 (.lit 0),.int .u8 (.lit 0),.int .u8 (.lit 0),.int .u8 (.lit 0),.int .u8 (.lit 0),.int .u8 (.lit 0),.int .u8 (.lit 0),.int .u8 (.lit 0),.int .u8 (.lit 0),.int .u8 (.lit 0),.int .u8 (.lit 0)] 152) 0]).seq ((reg [m e.f.f e 0,o e.a.a.a (.toInt .u64 (t e.f.f)) 1,m e.a.b e.a.a.a 2]).seq (((reg [m e.a.a.b e 0,b e.a.a.c .lss (t e.a.a.b) (k 0) 1]).seq (NC.cond (t e.a.a.c) (reg [m e.a.a.f e.a.b 0,o e.a.b.a (.un .neg (t e.a.a.f)) 1,m e.a.b e.a.b.a 2]) NC.skip)).seq ((reg [m e.a.b.b e.a.b 0,o e.a.b.c (.call (F 91) [t e.a.b.b]) 1,m e.a.c e.a.b.c 2]).seq ((reg [m e.a.b.f e.a.c 0,b e.a.c.a .add (k 1) (t e.a.b.f) 1,o e.a.c.b (.fail) 2,m e.a.c.c e.a.b 3,o e.a.c.f (.call (F 92) [t e.a.c.b,t e.a.c.c]) 4]).seq (((reg [m e.a.f.a e 0,b e.a.f.b .lss (t e.a.f.a) (k 0) 1]).seq (NC.cond (t e.a.f.b) ((reg [o e.a.f.c (.indexArr 1 24 (t e.a.a) (k 0)) 0,q (.store 1 (t e.a.f.c) (kb 45)) 1]).seq ((reg [m e.a.f.f e.a.c 0,b e.b.a.a .add (k 1) (t e.a.f.f) 1,o e.b.a.b (.fail) 2,o e.b.a.c (.bytesToStr (t e.b.a.b)) 3,m e.f e.b.a.c 4]).seq NC.ret)) NC.skip)).seq ((reg [m e.b.a.f e.a.c 0,b e.b.b.a .add (k 1) (t e.b.a.f) 1,o e.b.b.b (.fail) 2,o e.b.b.c (.bytesToStr (t e.b.b.b)) 3,m e.f e.b.b.c 4]).seq NC.ret)))))))) NC.skip)).seq ((reg [m e.b.c.a e 0,o e.b.c.b (.toInt .u64 (t e.b.c.a)) 1,m e.b.c.c e.a 2,m e.b.c.f e 3,b e.b.f.a .lss (t e.b.c.f) (k 0) 4,o e.b.f.b (.call (F 93) [.const .nils,t e.b.c.b,t e.b.c.c,t e.b.f.a,.const (.bool false)]) 5,m e.b.b.f e.b.f.b 6,x e.b.f.c e.b.b.f 0 7,x e.b.f.f e.b.b.f 1 8,m e.a.f e.b.f.c 9,m e.b.a e.b.f.f 10]).seq ((reg [m e.c.a.a e.b.a 0,m e.f e.c.a.a 1]).seq NC.ret))),54, [.tmp e.f]⟩
theorem tp:aj Tryd.prog 68=some (.code wC):=by kernel_rfl
noncomputable def sQ:NC:=(((reg [m e.a.a.b e.a.c 0,m e.a.a.c e.a 1,b e.a.a.f .sub (t e.a.a.c) (k 1) 2,b e.a.b.a .lss (t e.a.a.b) (t e.a.a.f) 3]).seq (NC.cond (t e.a.b.a) NC.skip (NC.exit 0))).seq ((NC.block 1 ((reg [m e.a.c.a e 0,o e.a.c.b (.call (F 95) [t e.a.c.a]) 1,m e.a.b.f e.a.c.b 2,x e.a.c.c e.a.b.f 0 3,x e.a.c.f e.a.b.f 1 4,m e.a.f e.a.c.c 5,m e.b.a e.a.c.f 6]).seq ((reg [m e.a.f.a e.a.b 0,m e.a.f.b e.a.c 1,m e.a.f.c e 2,m e.a.f.f e.b.a 3,o e.b.a.a (.sliceStr (t e.a.f.c) none (some (t e.a.f.f))) 4,o e.b.a.b (.indexSlc 1 (t e.a.f.a) (t e.a.f.b)) 5,q (.store 1 (t e.b.a.b) (t e.b.a.a)) 6]).seq (reg [m e.b.a.c e 0,m e.b.a.f e.b.a 1,o e.b.b.a (.sliceStr (t e.b.a.c) (some (t e.b.a.f)) none) 2,m e e.b.b.a 3])))).seq (reg [m e.a.b.b e.a.c 0,b e.a.b.c .add (t e.a.b.b) (k 1) 1,m e.a.c e.a.b.c 2])))
noncomputable def wq:NFun:=⟨(reg [o e.f (.move kn) 0]).seq ((reg [m e.b.b e 0,o e.b.c (.call (F 94) [t e.b.b]) 1,m e.a.a e.b.c 2]).seq (((reg [m e.b.f e.a 0,b e.c.a .lss (t e.b.f) (k 0) 1,m e.c.b e.c.a 2,G e.c.c (.move (t e.a)) e.c.b false 3,G e.c.f (.move (t e.a.a)) e.c.b false 4,G e.f.a (.bin .num .gtr (t e.c.c) (t e.c.f)) e.c.b false 5,o e.f.b (.pick (t e.c.b) kt (t e.f.a)) 6]).seq (NC.cond (t e.f.b) (reg [m e.f.c e.a.a 0,m e.a e.f.c 1]) NC.skip)).seq ((reg [m e.f.f e.a 0,o e.a.a.a (.mkSlice [.str []] 1 16 9 (t e.f.f) (t e.f.f)) 1,m e.a.b e.a.a.a 2]).seq (((reg [o e.a.c (.move (k 0)) 0]).seq (NC.block 0 sQ.loop)).seq (((reg [m e.b.b.b e.a 0,b e.b.b.c .gtr (t e.b.b.b) (k 0) 1]).seq (NC.cond (t e.b.b.c) (reg [m e.b.b.f e.a.b 0,m e.b.c.a e.a 1,b e.b.c.b .sub (t e.b.c.a) (k 1) 2,m e.b.c.c e 3,o e.b.c.f (.indexSlc 1 (t e.b.b.f) (t e.b.c.b)) 4,q (.store 1 (t e.b.c.f) (t e.b.c.c)) 5]) NC.skip)).seq ((reg [m e.b.f.a e.a.b 0,m e.f e.b.f.a 1]).seq NC.ret)))))),50, [.tmp e.f]⟩
theorem tB:aj Tryd.prog 69=some (.code wq):=by kernel_rfl
noncomputable def sv:NC:=(NC.block 1 ((reg [m e.f.f e 0,m e.a.a.a e.a 1,o e.a.a.b (.call (F 71) [t e.f.f,t e.a.a.a]) 2,m e.a.b e.a.a.b 3]).seq (((reg [m e.a.a.c e.a.b 0,b e.a.a.f .eql (t e.a.a.c) (k (-1)) 1]).seq (NC.cond (t e.a.a.f) ((reg [m e.a.b.a e.a.a 0,m e.f e.a.b.a 1]).seq NC.ret) NC.skip)).seq ((reg [m e.a.b.b e.a.a 0,b e.a.b.c .add (t e.a.b.b) (k 1) 1,m e.a.a e.a.b.c 2]).seq (reg [m e.a.b.f e 0,m e.a.c.a e.a.b 1,m e.a.c.b e.a 2,o e.a.c.c (.lenStr (t e.a.c.b)) 3,b e.a.c.f .add (t e.a.c.a) (t e.a.c.c) 4,o e.a.f.a (.sliceStr (t e.a.b.f) (some (t e.a.c.f)) none) 5,m e e.a.f.a 6])))))
noncomputable def wX:NFun:=⟨(reg [o e.f (.move (k 0)) 0]).seq (((reg [m e.a.c e.a 0,o e.a.f (.lenStr (t e.a.c)) 1,b e.b.a .eql (t e.a.f) (k 0) 2]).seq (NC.cond (t e.b.a) ((reg [m e.b.b e 0,o e.b.c (.call (F 94) [t e.b.b]) 1,b e.b.f .add (t e.b.c) (k 1) 2,m e.f e.b.f 3]).seq NC.ret) NC.skip)).seq (((reg [m e.c.a e.a 0,o e.c.b (.lenStr (t e.c.a)) 1,b e.c.c .eql (t e.c.b) (k 1) 2]).seq (NC.cond (t e.c.c) ((reg [m e.c.f e 0,m e.f.a e.a 1,o e.f.b (.indexStr (t e.f.a) (k 0)) 2,o e.f.c (.call (F 96) [t e.c.f,t e.f.b]) 3,m e.f e.f.c 4]).seq NC.ret) NC.skip)).seq ((reg [o e.a.a (.move (k 0)) 0]).seq (NC.block 0 sv.loop)))),34, [.tmp e.f]⟩
theorem sH:aj Tryd.prog 70=some (.code wX):=by kernel_rfl
noncomputable def wI:NFun:=⟨(reg [o e.f (.move (k 0)) 0]).seq ((reg [m e.a.a e 0,m e.a.b e.a 1,o e.a.c (.call (F 97) [t e.a.a,t e.a.b]) 2,m e.f e.a.c 3]).seq NC.ret),8, [.tmp e.f]⟩
theorem sX:aj Tryd.prog 71=some (.code wI):=by kernel_rfl
noncomputable def wg:NFun:=⟨(reg [o e.a.b (.move (k 0)) 0,o e.a.c (.move (.const .nili)) 1]).seq (((reg [m e.b.f e 0,b e.c.a .eql (t e.b.f) (.const (.str [])) 1]).seq (NC.cond (t e.c.a) ((reg [o e.c.b (.mkIfc 132 (k 2)) 0,o e.a.b (.move (k 0)) 1,m e.a.c e.c.b 2]).seq NC.ret) NC.skip)).seq ((reg [o e.a.f (.move kf) 0]).seq (((reg [m e.c.c e 0,o e.c.f (.indexStr (t e.c.c) (k 0)) 1]).seq (NC.block 0 ((reg [b e.f.b .eql (t e.c.f) (kb 43) 0,m e.f.a e.f.b 1]).seq (NC.cond (t e.f.a) (reg [m e.f.c e 0,o e.f.f (.sliceStr (t e.f.c) (some (k 1)) none) 1,m e e.f.f 2]) ((reg [b e.a.a.b .eql (t e.c.f) (kb 45) 0,m e.a.a.a e.a.a.b 1]).seq (NC.cond (t e.a.a.a) ((reg [m e.a.a.c e 0,o e.a.a.f (.sliceStr (t e.a.a.c) (some (k 1)) none) 1,m e e.a.a.f 2]).seq (reg [o e.a.f (.move kt) 0])) NC.skip)))))).seq ((reg [o e.b.a (.move (ku 0)) 0]).seq ((reg [m e.a.b.b e 0,m e.a.b.c e.a 1,m e.a.b.f e.b 2,o e.a.c.a (.call (F 98) [t e.a.b.b,t e.a.b.c,t e.a.b.f]) 3,m e.a.b.a e.a.c.a 4,x e.a.c.b e.a.b.a 0 5,x e.a.c.c e.a.b.a 1 6,m e.b.a e.a.c.b 7,m e.a.c e.a.c.c 8]).seq (((reg [m e.a.c.f e.a.c 0,o e.a.f.a (.bin .ifc .neq (t e.a.c.f) (.const .nili)) 1,m e.a.f.b e.a.f.a 2,G e.a.f.c (.move (t e.a.c)) e.a.f.b true 3,G e.a.f.f (.mkIfc 132 (k 1)) e.a.f.b true 4,G e.b.a.a (.bin (.ifc2 [215,214,212,211,132,106,70,54,27,21,12,6,5,3,2]) .neq (t e.a.f.c) (t e.a.f.f)) e.a.f.b true 5,o e.b.a.b (.pick (t e.a.f.b) (t e.b.a.a) kf) 6]).seq (NC.cond (t e.b.a.b) ((reg [m e.b.a.c e.a.c 0,o e.a.b (.move (k 0)) 1,m e.a.c e.b.a.c 2]).seq NC.ret) NC.skip)).seq (((reg [m e.b.a.f e.b 0,b e.b.b.a .eql (t e.b.a.f) (k 0) 1]).seq (NC.cond (t e.b.b.a) (reg [o e.b (.move (k 64)) 0]) NC.skip)).seq ((reg [m e.b.b.b e.b 0,b e.b.b.c .sub (t e.b.b.b) (k 1) 1,o e.b.b.f (.toInt .u64 (t e.b.b.c)) 2,b e.b.c.a .shl (ku 1) (t e.b.b.f) 3,m e.b.b e.b.c.a 4]).seq (((reg [m e.b.c.b e.a.f 0,o e.b.c.c (.un .not (t e.b.c.b)) 1,m e.b.c.f e.b.c.c 2,G e.b.f.a (.move (t e.b.a)) e.b.c.f true 3,G e.b.f.b (.move (t e.b.b)) e.b.c.f true 4,G e.b.f.c (.bin .num .geq (t e.b.f.a) (t e.b.f.b)) e.b.c.f true 5,o e.b.f.f (.pick (t e.b.c.f) (t e.b.f.c) kf) 6]).seq (NC.cond (t e.b.f.f) ((reg [m e.c.a.a e.b.b 0,b e.c.a.b .sub (t e.c.a.a) (ku 1) 1,o e.c.a.c (.toInt .i64 (t e.c.a.b)) 2,o e.c.a.f (.mkIfc 132 (k 1)) 3,m e.a.b e.c.a.c 4,m e.a.c e.c.a.f 5]).seq NC.ret) NC.skip)).seq (((reg [m e.c.b.a e.a.f 0,m e.c.b.b e.c.b.a 1,G e.c.b.c (.move (t e.b.a)) e.c.b.b true 2,G e.c.b.f (.move (t e.b.b)) e.c.b.b true 3,G e.c.c.a (.bin .num .gtr (t e.c.b.c) (t e.c.b.f)) e.c.b.b true 4,o e.c.c.b (.pick (t e.c.b.b) (t e.c.c.a) kf) 5]).seq (NC.cond (t e.c.c.b) ((reg [m e.c.c.c e.b.b 0,o e.c.c.f (.toInt .i64 (t e.c.c.c)) 1,o e.c.f.a (.un .neg (t e.c.c.f)) 2,o e.c.f.b (.mkIfc 132 (k 1)) 3,m e.a.b e.c.f.a 4,m e.a.c e.c.f.b 5]).seq NC.ret) NC.skip)).seq ((reg [m e.c.f.c e.b.a 0,o e.c.f.f (.toInt .i64 (t e.c.f.c)) 1,m e.b.c e.c.f.f 2]).seq (((reg [m e.f.a.a e.a.f 0]).seq (NC.cond (t e.f.a.a) (reg [m e.f.a.b e.b.c 0,o e.f.a.c (.un .neg (t e.f.a.b)) 1,m e.b.c e.f.a.c 2]) NC.skip)).seq ((reg [m e.f.a.f e.b.c 0,m e.a.b e.f.a.f 1,o e.a.c (.move (.const .nili)) 2]).seq NC.ret))))))))))))),73, [.tmp e.a.b,.tmp e.a.c]⟩
theorem rR:aj Tryd.prog 72=some (.code wg):=by kernel_rfl
noncomputable def vz:NFun:=⟨(reg [o e.f (.move (.const .nilp)) 0]).seq ((regD [m e.a.a e 0,m e.a.b e.a 1,o e.a.f (.load1 (.const (.ptr e 0))) 3,O e.a.c (.call (F 99) [t e.a.b]) 2 2,O e.b.a (.build [.str [],.str [],.nili] [(0,1,t e.a.a),(1,1,t e.a.c),(2,1,t e.a.f)]) 15 4,O e.b.b (.box (t e.b.a) 165) 31 5,O e.f (.move (t e.b.b)) 63 6]).seq NC.ret),11, [.tmp e.f]⟩
theorem rS:aj Tryd.prog 73=some (.code vz):=by kernel_rfl
noncomputable def vT:NFun:=⟨(reg [o e.f (.move (.const .nilp)) 0]).seq ((regD [m e.a.a e 0,m e.a.b e.a 1,o e.a.f (.load1 (.const (.ptr e.a 0))) 3,O e.a.c (.call (F 99) [t e.a.b]) 2 2,O e.b.a (.build [.str [],.str [],.nili] [(0,1,t e.a.a),(1,1,t e.a.c),(2,1,t e.a.f)]) 15 4,O e.b.b (.box (t e.b.a) 165) 31 5,O e.f (.move (t e.b.b)) 63 6]).seq NC.ret),11, [.tmp e.f]⟩
theorem sB:aj Tryd.prog 74=some (.code vT):=by kernel_rfl
noncomputable def wm:NFun:=⟨(reg [o e.a.b (.move (.const .nilp)) 0]).seq ((reg [m e.a.c e 0,m e.a.f e.a 1,o e.b.a (.call (F 99) [t e.a.f]) 2,m e.b.b e.b 3,o e.b.c (.call (F 20) [t e.b.b]) 4,b e.b.f .add (.const (.str [105,110,118,97,108,105,100,32,98,97,115,101,32])) (t e.b.c) 5,o e.c.a (.call (F 100) [t e.b.f]) 6,o e.c.b (.build [.str [],.str [],.nili] [(0,1,t e.a.c),(1,1,t e.b.a),(2,1,t e.c.a)]) 7,o e.c.c (.box (t e.c.b) 165) 8,m e.a.b e.c.c 9]).seq NC.ret),16, [.tmp e.a.b]⟩
theorem sM:aj Tryd.prog 75=some (.code wm):=by kernel_rfl
noncomputable def ww:NFun:=⟨(reg [o e.a.b (.move (.const .nilp)) 0]).seq ((reg [m e.a.c e 0,m e.a.f e.a 1,o e.b.a (.call (F 99) [t e.a.f]) 2,m e.b.b e.b 3,o e.b.c (.call (F 20) [t e.b.b]) 4,b e.b.f .add (.const (.str [105,110,118,97,108,105,100,32,98,105,116,32,115,105,122,101,32])) (t e.b.c) 5,o e.c.a (.call (F 100) [t e.b.f]) 6,o e.c.b (.build [.str [],.str [],.nili] [(0,1,t e.a.c),(1,1,t e.b.a),(2,1,t e.c.a)]) 7,o e.c.c (.box (t e.c.b) 165) 8,m e.a.b e.c.c 9]).seq NC.ret),16, [.tmp e.a.b]⟩
theorem tk:aj Tryd.prog 76=some (.code ww):=by kernel_rfl
noncomputable def v6:NFun:=⟨(reg [o e.f (.move (k 0)) 0,o e.a.a (.move (k 0)) 1]).seq ((reg [m e.a.b e 0,o e.a.c (.minmax false [t e.a.b,k 32]) 1,o e.a.f (.minmax true [k 0,t e.a.c]) 2,m e e.a.f 3]).seq ((reg [m e.b.a e 0,m e.b.b e.a 1,m e.b.c e 2,b e.b.f .sub (k 32) (t e.b.c) 3,o e.c.a (.minmax false [t e.b.b,t e.b.f]) 4,o e.c.b (.minmax true [k 0,t e.c.a]) 5,m e.f e.b.a 6,m e.a.a e.c.b 7]).seq NC.ret)),15, [.tmp e.f,.tmp e.a.a]⟩
theorem sq:aj Tryd.prog 89=some (.code v6):=by kernel_rfl
noncomputable def wF:NFun:=⟨(reg [o e.b (.move (.const (.str []))) 0]).seq (((reg [m e.c e 0,b e.f .lss (t e.c) (k 10) 1]).seq (NC.cond (t e.f) ((reg [m e.a.a e 0,m e.a.b e 1,b e.a.c .add (t e.a.b) (k 1) 2,o e.a.f (.sliceStr (.const (.str [48,49,50,51,52,53,54,55,56,57,97,98,99,100,101,102,103,104,105,106,107,108,109,110,111,112,113,114,115,116,117,118,119,120,121,122])) (some (t e.a.a)) (some (t e.a.c))) 3,m e.b e.a.f 4]).seq NC.ret) NC.skip)).seq ((reg [m e.b.a e 0,b e.b.b .mul (t e.b.a) (k 2) 1,m e.b.c e 2,b e.b.f .mul (t e.b.c) (k 2) 3,b e.c.a .add (t e.b.f) (k 2) 4,o e.c.b (.sliceStr (.const (.str [48,48,48,49,48,50,48,51,48,52,48,53,48,54,48,55,48,56,48,57,49,48,49,49,49,50,49,51,49,52,49,53,49,54,49,55,49,56,49,57,50,48,50,49,50,50,50,51,50,52,50,53,50,54,50,55,50,56,50,57,51,48,51,49,51,50,51,51,51,52,51,53,51,54,51,55,51,56,51,57,52,48,52,49,52,50,52,51,52,52,52,53,52,54,52,55,52,56,52,57,53,48,53,49,53,50,53,51,53,52,53,53,53,54,53,55,53,56,53,57,54,48,54,49,54,50,54,51,54,52,54,53,54,54,54,55,54,56,54,57,55,48,55,49,55,50,55,51,55,52,55,53,55,54,55,55,55,56,55,57,56,48,56,49,56,50,56,51,56,52,56,53,56,54,56,55,56,56,56,57,57,48,57,49,57,50,57,51,57,52,57,53,57,54,57,55,57,56,57,57])) (some (t e.b.b)) (some (t e.c.a))) 5,m e.b e.c.b 6]).seq NC.ret)),15, [.tmp e.b]⟩
theorem sV:aj Tryd.prog 90=some (.code wF):=by kernel_rfl
noncomputable def vO:NFun:=⟨(reg [o e.b (.move (k 0)) 0]).seq ((reg [m e.f e 0,o e.a.a (.call (F 120) [t e.f]) 1,o e.a.b (.call (F 119) [t e.a.a]) 2,m e.c e.a.b 3]).seq ((reg [m e.a.c e.c 0,m e.a.f e 1,m e.b.a e.c 2,o e.b.b (.indexArr 1 20 (.const (.ptr e.b 0)) (t e.b.a)) 3,l e.b.c e.b.b 4,b e.b.f .geq (t e.a.f) (t e.b.c) 5,o e.c.a (.call (F 121) [t e.b.f]) 6,b e.c.b .add (t e.a.c) (t e.c.a) 7,m e.b e.c.b 8]).seq NC.ret)),15, [.tmp e.b]⟩
theorem tL:aj Tryd.prog 91=some (.code vO):=by kernel_rfl
noncomputable def r6:NC:=(((reg [m e.f.c e.f 0,b e.f.f .geq (t e.f.c) (k 8) 1]).seq (NC.cond (t e.f.f) NC.skip (NC.exit 0))).seq (NC.block 1 ((reg [m e.a.a.a e.a 0,b e.a.a.b .rem (t e.a.a.a) (ku 100000000) 1,o e.a.a.c (.toInt .u32 (t e.a.a.b)) 2,m e.a.a e.a.a.c 3]).seq ((reg [m e.a.a.f e.a 0,b e.a.b.a .quo (t e.a.a.f) (ku 100000000) 1,m e.a e.a.b.a 2]).seq ((reg [m e.a.b.b e.a.a 0,b e.a.b.c .quo (t e.a.b.b) (.const (.int .u32 (.lit 10000))) 1,m e.a.b.f e.a.a 2,b e.a.c.a .rem (t e.a.b.f) (.const (.int .u32 (.lit 10000))) 3,m e.a.b e.a.b.c 4,m e.a.c e.a.c.a 5]).seq ((reg [m e.a.c.b e.a.c 0,b e.a.c.c .quo (t e.a.c.b) (.const (.int .u32 (.lit 100))) 1,b e.a.c.f .mul (t e.a.c.c) (.const (.int .u32 (.lit 2))) 2,m e.a.f.a e.a.c 3,b e.a.f.b .rem (t e.a.f.a) (.const (.int .u32 (.lit 100))) 4,b e.a.f.c .mul (t e.a.f.b) (.const (.int .u32 (.lit 2))) 5,m e.a.f e.a.c.f 6,m e.b.a e.a.f.c 7]).seq ((reg [m e.a.f.f e.a.b 0,b e.b.a.a .quo (t e.a.f.f) (.const (.int .u32 (.lit 100))) 1,b e.b.a.b .mul (t e.b.a.a) (.const (.int .u32 (.lit 2))) 2,m e.b.a.c e.a.b 3,b e.b.a.f .rem (t e.b.a.c) (.const (.int .u32 (.lit 100))) 4,b e.b.b.a .mul (t e.b.a.f) (.const (.int .u32 (.lit 2))) 5,m e.b.b e.b.a.b 6,m e.b.c e.b.b.a 7]).seq ((regD [m e.b.b.b e 0,m e.b.b.c e.f 1,O e.b.b.f (.bin .num .sub (t e.b.b.c) (k 1)) 2 2,m e.b.c.a e 3,m e.b.c.b e.f 4,O e.b.c.c (.bin .num .sub (t e.b.c.b) (k 2)) 16 5,m e.b.c.f e.b.a 6,O e.b.f.a (.bin .num .add (t e.b.c.f) (.const (.int .u32 (.lit 1)))) 64 7,O e.b.f.b (.indexStr (.const (.str [48,48,48,49,48,50,48,51,48,52,48,53,48,54,48,55,48,56,48,57,49,48,49,49,49,50,49,51,49,52,49,53,49,54,49,55,49,56,49,57,50,48,50,49,50,50,50,51,50,52,50,53,50,54,50,55,50,56,50,57,51,48,51,49,51,50,51,51,51,52,51,53,51,54,51,55,51,56,51,57,52,48,52,49,52,50,52,51,52,52,52,53,52,54,52,55,52,56,52,57,53,48,53,49,53,50,53,51,53,52,53,53,53,54,53,55,53,56,53,57,54,48,54,49,54,50,54,51,54,52,54,53,54,54,54,55,54,56,54,57,55,48,55,49,55,50,55,51,55,52,55,53,55,54,55,55,55,56,55,57,56,48,56,49,56,50,56,51,56,52,56,53,56,54,56,55,56,56,56,57,57,48,57,49,57,50,57,51,57,52,57,53,57,54,57,55,57,56,57,57])) (t e.b.f.a)) 192 8,m e.b.f.c e.b.a 9,O e.b.f.f (.indexStr (.const (.str [48,48,48,49,48,50,48,51,48,52,48,53,48,54,48,55,48,56,48,57,49,48,49,49,49,50,49,51,49,52,49,53,49,54,49,55,49,56,49,57,50,48,50,49,50,50,50,51,50,52,50,53,50,54,50,55,50,56,50,57,51,48,51,49,51,50,51,51,51,52,51,53,51,54,51,55,51,56,51,57,52,48,52,49,52,50,52,51,52,52,52,53,52,54,52,55,52,56,52,57,53,48,53,49,53,50,53,51,53,52,53,53,53,54,53,55,53,56,53,57,54,48,54,49,54,50,54,51,54,52,54,53,54,54,54,55,54,56,54,57,55,48,55,49,55,50,55,51,55,52,55,53,55,54,55,55,55,56,55,57,56,48,56,49,56,50,56,51,56,52,56,53,56,54,56,55,56,56,56,57,57,48,57,49,57,50,57,51,57,52,57,53,57,54,57,55,57,56,57,57])) (t e.b.f.c)) 512 10,O e.c.a.a (.indexSlc 1 (t e.b.b.b) (t e.b.b.f)) 455 11,⟨none,.store 1 (t e.c.a.a) (t e.b.f.b),none,2503,12⟩,O e.c.a.b (.indexSlc 1 (t e.b.c.a) (t e.b.c.c)) 8191 13,⟨none,.store 1 (t e.c.a.b) (t e.b.f.f),none,16383,14⟩]).seq ((regD [m e.c.a.c e 0,m e.c.a.f e.f 1,O e.c.b.a (.bin .num .sub (t e.c.a.f) (k 3)) 2 2,m e.c.b.b e 3,m e.c.b.c e.f 4,O e.c.b.f (.bin .num .sub (t e.c.b.c) (k 4)) 16 5,m e.c.c.a e.a.f 6,O e.c.c.b (.bin .num .add (t e.c.c.a) (.const (.int .u32 (.lit 1)))) 64 7,O e.c.c.c (.indexStr (.const (.str [48,48,48,49,48,50,48,51,48,52,48,53,48,54,48,55,48,56,48,57,49,48,49,49,49,50,49,51,49,52,49,53,49,54,49,55,49,56,49,57,50,48,50,49,50,50,50,51,50,52,50,53,50,54,50,55,50,56,50,57,51,48,51,49,51,50,51,51,51,52,51,53,51,54,51,55,51,56,51,57,52,48,52,49,52,50,52,51,52,52,52,53,52,54,52,55,52,56,52,57,53,48,53,49,53,50,53,51,53,52,53,53,53,54,53,55,53,56,53,57,54,48,54,49,54,50,54,51,54,52,54,53,54,54,54,55,54,56,54,57,55,48,55,49,55,50,55,51,55,52,55,53,55,54,55,55,55,56,55,57,56,48,56,49,56,50,56,51,56,52,56,53,56,54,56,55,56,56,56,57,57,48,57,49,57,50,57,51,57,52,57,53,57,54,57,55,57,56,57,57])) (t e.c.c.b)) 192 8,m e.c.c.f e.a.f 9,O e.c.f.a (.indexStr (.const (.str [48,48,48,49,48,50,48,51,48,52,48,53,48,54,48,55,48,56,48,57,49,48,49,49,49,50,49,51,49,52,49,53,49,54,49,55,49,56,49,57,50,48,50,49,50,50,50,51,50,52,50,53,50,54,50,55,50,56,50,57,51,48,51,49,51,50,51,51,51,52,51,53,51,54,51,55,51,56,51,57,52,48,52,49,52,50,52,51,52,52,52,53,52,54,52,55,52,56,52,57,53,48,53,49,53,50,53,51,53,52,53,53,53,54,53,55,53,56,53,57,54,48,54,49,54,50,54,51,54,52,54,53,54,54,54,55,54,56,54,57,55,48,55,49,55,50,55,51,55,52,55,53,55,54,55,55,55,56,55,57,56,48,56,49,56,50,56,51,56,52,56,53,56,54,56,55,56,56,56,57,57,48,57,49,57,50,57,51,57,52,57,53,57,54,57,55,57,56,57,57])) (t e.c.c.f)) 512 10,O e.c.f.b (.indexSlc 1 (t e.c.a.c) (t e.c.b.a)) 455 11,⟨none,.store 1 (t e.c.f.b) (t e.c.c.c),none,2503,12⟩,O e.c.f.c (.indexSlc 1 (t e.c.b.b) (t e.c.b.f)) 8191 13,⟨none,.store 1 (t e.c.f.c) (t e.c.f.a),none,16383,14⟩]).seq ((regD [m e.c.f.f e 0,m e.f.a.a e.f 1,O e.f.a.b (.bin .num .sub (t e.f.a.a) (k 5)) 2 2,m e.f.a.c e 3,m e.f.a.f e.f 4,O e.f.b.a (.bin .num .sub (t e.f.a.f) (k 6)) 16 5,m e.f.b.b e.b.c 6,O e.f.b.c (.bin .num .add (t e.f.b.b) (.const (.int .u32 (.lit 1)))) 64 7,O e.f.b.f (.indexStr (.const (.str [48,48,48,49,48,50,48,51,48,52,48,53,48,54,48,55,48,56,48,57,49,48,49,49,49,50,49,51,49,52,49,53,49,54,49,55,49,56,49,57,50,48,50,49,50,50,50,51,50,52,50,53,50,54,50,55,50,56,50,57,51,48,51,49,51,50,51,51,51,52,51,53,51,54,51,55,51,56,51,57,52,48,52,49,52,50,52,51,52,52,52,53,52,54,52,55,52,56,52,57,53,48,53,49,53,50,53,51,53,52,53,53,53,54,53,55,53,56,53,57,54,48,54,49,54,50,54,51,54,52,54,53,54,54,54,55,54,56,54,57,55,48,55,49,55,50,55,51,55,52,55,53,55,54,55,55,55,56,55,57,56,48,56,49,56,50,56,51,56,52,56,53,56,54,56,55,56,56,56,57,57,48,57,49,57,50,57,51,57,52,57,53,57,54,57,55,57,56,57,57])) (t e.f.b.c)) 192 8,m e.f.c.a e.b.c 9,O e.f.c.b (.indexStr (.const (.str [48,48,48,49,48,50,48,51,48,52,48,53,48,54,48,55,48,56,48,57,49,48,49,49,49,50,49,51,49,52,49,53,49,54,49,55,49,56,49,57,50,48,50,49,50,50,50,51,50,52,50,53,50,54,50,55,50,56,50,57,51,48,51,49,51,50,51,51,51,52,51,53,51,54,51,55,51,56,51,57,52,48,52,49,52,50,52,51,52,52,52,53,52,54,52,55,52,56,52,57,53,48,53,49,53,50,53,51,53,52,53,53,53,54,53,55,53,56,53,57,54,48,54,49,54,50,54,51,54,52,54,53,54,54,54,55,54,56,54,57,55,48,55,49,55,50,55,51,55,52,55,53,55,54,55,55,55,56,55,57,56,48,56,49,56,50,56,51,56,52,56,53,56,54,56,55,56,56,56,57,57,48,57,49,57,50,57,51,57,52,57,53,57,54,57,55,57,56,57,57])) (t e.f.c.a)) 512 10,O e.f.c.c (.indexSlc 1 (t e.c.f.f) (t e.f.a.b)) 455 11,⟨none,.store 1 (t e.f.c.c) (t e.f.b.f),none,2503,12⟩,O e.f.c.f (.indexSlc 1 (t e.f.a.c) (t e.f.b.a)) 8191 13,⟨none,.store 1 (t e.f.c.f) (t e.f.c.b),none,16383,14⟩]).seq ((regD [m e.f.f.a e 0,m e.f.f.b e.f 1,O e.f.f.c (.bin .num .sub (t e.f.f.b) (k 7)) 2 2,m e.f.f.f e 3,m e.a.a.a.a e.f 4,O e.a.a.a.b (.bin .num .sub (t e.a.a.a.a) (k 8)) 16 5,m e.a.a.a.c e.b.b 6,O e.a.a.a.f (.bin .num .add (t e.a.a.a.c) (.const (.int .u32 (.lit 1)))) 64 7,O e.a.a.b.a (.indexStr (.const (.str [48,48,48,49,48,50,48,51,48,52,48,53,48,54,48,55,48,56,48,57,49,48,49,49,49,50,49,51,49,52,49,53,49,54,49,55,49,56,49,57,50,48,50,49,50,50,50,51,50,52,50,53,50,54,50,55,50,56,50,57,51,48,51,49,51,50,51,51,51,52,51,53,51,54,51,55,51,56,51,57,52,48,52,49,52,50,52,51,52,52,52,53,52,54,52,55,52,56,52,57,53,48,53,49,53,50,53,51,53,52,53,53,53,54,53,55,53,56,53,57,54,48,54,49,54,50,54,51,54,52,54,53,54,54,54,55,54,56,54,57,55,48,55,49,55,50,55,51,55,52,55,53,55,54,55,55,55,56,55,57,56,48,56,49,56,50,56,51,56,52,56,53,56,54,56,55,56,56,56,57,57,48,57,49,57,50,57,51,57,52,57,53,57,54,57,55,57,56,57,57])) (t e.a.a.a.f)) 192 8,m e.a.a.b.b e.b.b 9,O e.a.a.b.c (.indexStr (.const (.str [48,48,48,49,48,50,48,51,48,52,48,53,48,54,48,55,48,56,48,57,49,48,49,49,49,50,49,51,49,52,49,53,49,54,49,55,49,56,49,57,50,48,50,49,50,50,50,51,50,52,50,53,50,54,50,55,50,56,50,57,51,48,51,49,51,50,51,51,51,52,51,53,51,54,51,55,51,56,51,57,52,48,52,49,52,50,52,51,52,52,52,53,52,54,52,55,52,56,52,57,53,48,53,49,53,50,53,51,53,52,53,53,53,54,53,55,53,56,53,57,54,48,54,49,54,50,54,51,54,52,54,53,54,54,54,55,54,56,54,57,55,48,55,49,55,50,55,51,55,52,55,53,55,54,55,55,55,56,55,57,56,48,56,49,56,50,56,51,56,52,56,53,56,54,56,55,56,56,56,57,57,48,57,49,57,50,57,51,57,52,57,53,57,54,57,55,57,56,57,57])) (t e.a.a.b.b)) 512 10,O e.a.a.b.f (.indexSlc 1 (t e.f.f.a) (t e.f.f.c)) 455 11,⟨none,.store 1 (t e.a.a.b.f) (t e.a.a.b.a),none,2503,12⟩,O e.a.a.c.a (.indexSlc 1 (t e.f.f.f) (t e.a.a.a.b)) 8191 13,⟨none,.store 1 (t e.a.a.c.a) (t e.a.a.b.c),none,16383,14⟩]).seq (reg [m e.a.a.c.b e.f 0,b e.a.a.c.c .sub (t e.a.a.c.b) (k 8) 1,m e.f e.a.a.c.c 2]))))))))))))
noncomputable def wx:NFun:=⟨(reg [m e.f.a e 0,L e.f.b e.f.a 1,m e.f e.f.b 2]).seq ((NC.block 0 r6.loop).seq ((reg [m e.a.a.c.f e.a 0,o e.a.a.f.a (.toInt .u32 (t e.a.a.c.f)) 1,m e.b.f e.a.a.f.a 2]).seq (((reg [m e.a.a.f.b e.f 0,b e.a.a.f.c .geq (t e.a.a.f.b) (k 4) 1]).seq (NC.cond (t e.a.a.f.c) ((reg [m e.a.a.f.f e.b.f 0,b e.a.b.a.a .rem (t e.a.a.f.f) (.const (.int .u32 (.lit 10000))) 1,m e.c.a e.a.b.a.a 2]).seq ((reg [m e.a.b.a.b e.b.f 0,b e.a.b.a.c .quo (t e.a.b.a.b) (.const (.int .u32 (.lit 10000))) 1,m e.b.f e.a.b.a.c 2]).seq ((reg [m e.a.b.a.f e.c.a 0,b e.a.b.b.a .quo (t e.a.b.a.f) (.const (.int .u32 (.lit 100))) 1,b e.a.b.b.b .mul (t e.a.b.b.a) (.const (.int .u32 (.lit 2))) 2,m e.a.b.b.c e.c.a 3,b e.a.b.b.f .rem (t e.a.b.b.c) (.const (.int .u32 (.lit 100))) 4,b e.a.b.c.a .mul (t e.a.b.b.f) (.const (.int .u32 (.lit 2))) 5,m e.c.b e.a.b.b.b 6,m e.c.c e.a.b.c.a 7]).seq ((regD [m e.a.b.c.b e 0,m e.a.b.c.c e.f 1,O e.a.b.c.f (.bin .num .sub (t e.a.b.c.c) (k 1)) 2 2,m e.a.b.f.a e 3,m e.a.b.f.b e.f 4,O e.a.b.f.c (.bin .num .sub (t e.a.b.f.b) (k 2)) 16 5,m e.a.b.f.f e.c.c 6,O e.a.c.a.a (.bin .num .add (t e.a.b.f.f) (.const (.int .u32 (.lit 1)))) 64 7,O e.a.c.a.b (.indexStr (.const (.str [48,48,48,49,48,50,48,51,48,52,48,53,48,54,48,55,48,56,48,57,49,48,49,49,49,50,49,51,49,52,49,53,49,54,49,55,49,56,49,57,50,48,50,49,50,50,50,51,50,52,50,53,50,54,50,55,50,56,50,57,51,48,51,49,51,50,51,51,51,52,51,53,51,54,51,55,51,56,51,57,52,48,52,49,52,50,52,51,52,52,52,53,52,54,52,55,52,56,52,57,53,48,53,49,53,50,53,51,53,52,53,53,53,54,53,55,53,56,53,57,54,48,54,49,54,50,54,51,54,52,54,53,54,54,54,55,54,56,54,57,55,48,55,49,55,50,55,51,55,52,55,53,55,54,55,55,55,56,55,57,56,48,56,49,56,50,56,51,56,52,56,53,56,54,56,55,56,56,56,57,57,48,57,49,57,50,57,51,57,52,57,53,57,54,57,55,57,56,57,57])) (t e.a.c.a.a)) 192 8,m e.a.c.a.c e.c.c 9,O e.a.c.a.f (.indexStr (.const (.str [48,48,48,49,48,50,48,51,48,52,48,53,48,54,48,55,48,56,48,57,49,48,49,49,49,50,49,51,49,52,49,53,49,54,49,55,49,56,49,57,50,48,50,49,50,50,50,51,50,52,50,53,50,54,50,55,50,56,50,57,51,48,51,49,51,50,51,51,51,52,51,53,51,54,51,55,51,56,51,57,52,48,52,49,52,50,52,51,52,52,52,53,52,54,52,55,52,56,52,57,53,48,53,49,53,50,53,51,53,52,53,53,53,54,53,55,53,56,53,57,54,48,54,49,54,50,54,51,54,52,54,53,54,54,54,55,54,56,54,57,55,48,55,49,55,50,55,51,55,52,55,53,55,54,55,55,55,56,55,57,56,48,56,49,56,50,56,51,56,52,56,53,56,54,56,55,56,56,56,57,57,48,57,49,57,50,57,51,57,52,57,53,57,54,57,55,57,56,57,57])) (t e.a.c.a.c)) 512 10,O e.a.c.b.a (.indexSlc 1 (t e.a.b.c.b) (t e.a.b.c.f)) 455 11,⟨none,.store 1 (t e.a.c.b.a) (t e.a.c.a.b),none,2503,12⟩,O e.a.c.b.b (.indexSlc 1 (t e.a.b.f.a) (t e.a.b.f.c)) 8191 13,⟨none,.store 1 (t e.a.c.b.b) (t e.a.c.a.f),none,16383,14⟩]).seq ((regD [m e.a.c.b.c e 0,m e.a.c.b.f e.f 1,O e.a.c.c.a (.bin .num .sub (t e.a.c.b.f) (k 3)) 2 2,m e.a.c.c.b e 3,m e.a.c.c.c e.f 4,O e.a.c.c.f (.bin .num .sub (t e.a.c.c.c) (k 4)) 16 5,m e.a.c.f.a e.c.b 6,O e.a.c.f.b (.bin .num .add (t e.a.c.f.a) (.const (.int .u32 (.lit 1)))) 64 7,O e.a.c.f.c (.indexStr (.const (.str [48,48,48,49,48,50,48,51,48,52,48,53,48,54,48,55,48,56,48,57,49,48,49,49,49,50,49,51,49,52,49,53,49,54,49,55,49,56,49,57,50,48,50,49,50,50,50,51,50,52,50,53,50,54,50,55,50,56,50,57,51,48,51,49,51,50,51,51,51,52,51,53,51,54,51,55,51,56,51,57,52,48,52,49,52,50,52,51,52,52,52,53,52,54,52,55,52,56,52,57,53,48,53,49,53,50,53,51,53,52,53,53,53,54,53,55,53,56,53,57,54,48,54,49,54,50,54,51,54,52,54,53,54,54,54,55,54,56,54,57,55,48,55,49,55,50,55,51,55,52,55,53,55,54,55,55,55,56,55,57,56,48,56,49,56,50,56,51,56,52,56,53,56,54,56,55,56,56,56,57,57,48,57,49,57,50,57,51,57,52,57,53,57,54,57,55,57,56,57,57])) (t e.a.c.f.b)) 192 8,m e.a.c.f.f e.c.b 9,O e.a.f.a.a (.indexStr (.const (.str [48,48,48,49,48,50,48,51,48,52,48,53,48,54,48,55,48,56,48,57,49,48,49,49,49,50,49,51,49,52,49,53,49,54,49,55,49,56,49,57,50,48,50,49,50,50,50,51,50,52,50,53,50,54,50,55,50,56,50,57,51,48,51,49,51,50,51,51,51,52,51,53,51,54,51,55,51,56,51,57,52,48,52,49,52,50,52,51,52,52,52,53,52,54,52,55,52,56,52,57,53,48,53,49,53,50,53,51,53,52,53,53,53,54,53,55,53,56,53,57,54,48,54,49,54,50,54,51,54,52,54,53,54,54,54,55,54,56,54,57,55,48,55,49,55,50,55,51,55,52,55,53,55,54,55,55,55,56,55,57,56,48,56,49,56,50,56,51,56,52,56,53,56,54,56,55,56,56,56,57,57,48,57,49,57,50,57,51,57,52,57,53,57,54,57,55,57,56,57,57])) (t e.a.c.f.f)) 512 10,O e.a.f.a.b (.indexSlc 1 (t e.a.c.b.c) (t e.a.c.c.a)) 455 11,⟨none,.store 1 (t e.a.f.a.b) (t e.a.c.f.c),none,2503,12⟩,O e.a.f.a.c (.indexSlc 1 (t e.a.c.c.b) (t e.a.c.c.f)) 8191 13,⟨none,.store 1 (t e.a.f.a.c) (t e.a.f.a.a),none,16383,14⟩]).seq (reg [m e.a.f.a.f e.f 0,b e.a.f.b.a .sub (t e.a.f.a.f) (k 4) 1,m e.f e.a.f.b.a 2])))))) NC.skip)).seq (((reg [m e.a.f.b.b e.f 0,b e.a.f.b.c .geq (t e.a.f.b.b) (k 2) 1]).seq (NC.cond (t e.a.f.b.c) ((reg [m e.a.f.b.f e.b.f 0,b e.a.f.c.a .rem (t e.a.f.b.f) (.const (.int .u32 (.lit 100))) 1,b e.a.f.c.b .mul (t e.a.f.c.a) (.const (.int .u32 (.lit 2))) 2,m e.c.f e.a.f.c.b 3]).seq ((reg [m e.a.f.c.c e.b.f 0,b e.a.f.c.f .quo (t e.a.f.c.c) (.const (.int .u32 (.lit 100))) 1,m e.b.f e.a.f.c.f 2]).seq ((regD [m e.a.f.f.a e 0,m e.a.f.f.b e.f 1,O e.a.f.f.c (.bin .num .sub (t e.a.f.f.b) (k 1)) 2 2,m e.a.f.f.f e 3,m e.b.a.a.a e.f 4,O e.b.a.a.b (.bin .num .sub (t e.b.a.a.a) (k 2)) 16 5,m e.b.a.a.c e.c.f 6,O e.b.a.a.f (.bin .num .add (t e.b.a.a.c) (.const (.int .u32 (.lit 1)))) 64 7,O e.b.a.b.a (.indexStr (.const (.str [48,48,48,49,48,50,48,51,48,52,48,53,48,54,48,55,48,56,48,57,49,48,49,49,49,50,49,51,49,52,49,53,49,54,49,55,49,56,49,57,50,48,50,49,50,50,50,51,50,52,50,53,50,54,50,55,50,56,50,57,51,48,51,49,51,50,51,51,51,52,51,53,51,54,51,55,51,56,51,57,52,48,52,49,52,50,52,51,52,52,52,53,52,54,52,55,52,56,52,57,53,48,53,49,53,50,53,51,53,52,53,53,53,54,53,55,53,56,53,57,54,48,54,49,54,50,54,51,54,52,54,53,54,54,54,55,54,56,54,57,55,48,55,49,55,50,55,51,55,52,55,53,55,54,55,55,55,56,55,57,56,48,56,49,56,50,56,51,56,52,56,53,56,54,56,55,56,56,56,57,57,48,57,49,57,50,57,51,57,52,57,53,57,54,57,55,57,56,57,57])) (t e.b.a.a.f)) 192 8,m e.b.a.b.b e.c.f 9,O e.b.a.b.c (.indexStr (.const (.str [48,48,48,49,48,50,48,51,48,52,48,53,48,54,48,55,48,56,48,57,49,48,49,49,49,50,49,51,49,52,49,53,49,54,49,55,49,56,49,57,50,48,50,49,50,50,50,51,50,52,50,53,50,54,50,55,50,56,50,57,51,48,51,49,51,50,51,51,51,52,51,53,51,54,51,55,51,56,51,57,52,48,52,49,52,50,52,51,52,52,52,53,52,54,52,55,52,56,52,57,53,48,53,49,53,50,53,51,53,52,53,53,53,54,53,55,53,56,53,57,54,48,54,49,54,50,54,51,54,52,54,53,54,54,54,55,54,56,54,57,55,48,55,49,55,50,55,51,55,52,55,53,55,54,55,55,55,56,55,57,56,48,56,49,56,50,56,51,56,52,56,53,56,54,56,55,56,56,56,57,57,48,57,49,57,50,57,51,57,52,57,53,57,54,57,55,57,56,57,57])) (t e.b.a.b.b)) 512 10,O e.b.a.b.f (.indexSlc 1 (t e.a.f.f.a) (t e.a.f.f.c)) 455 11,⟨none,.store 1 (t e.b.a.b.f) (t e.b.a.b.a),none,2503,12⟩,O e.b.a.c.a (.indexSlc 1 (t e.a.f.f.f) (t e.b.a.a.b)) 8191 13,⟨none,.store 1 (t e.b.a.c.a) (t e.b.a.b.c),none,16383,14⟩]).seq (reg [m e.b.a.c.b e.f 0,b e.b.a.c.c .sub (t e.b.a.c.b) (k 2) 1,m e.f e.b.a.c.c 2])))) NC.skip)).seq ((reg [m e.b.a.c.f e.f 0,b e.b.a.f.a .gtr (t e.b.a.c.f) (k 0) 1]).seq (NC.cond (t e.b.a.f.a) (reg [m e.b.a.f.b e 0,m e.b.a.f.c e.b.f 1,b e.b.a.f.f .add (.const (.int .u32 (.lit 48))) (t e.b.a.f.c) 2,o e.b.b.a.a (.toInt .u8 (t e.b.a.f.f)) 3,o e.b.b.a.b (.indexSlc 1 (t e.b.a.f.b) (k 0)) 4,q (.store 1 (t e.b.b.a.b) (t e.b.b.a.a)) 5]) NC.skip)))))),167, []⟩
theorem sr:aj Tryd.prog 92=some (.code wx):=by kernel_rfl
noncomputable def tK:NC:=(((reg [m e.b.b.f e.a 0,m e.b.c.a e.c.c 1,b e.b.c.b .geq (t e.b.b.f) (t e.b.c.a) 2]).seq (NC.cond (t e.b.c.b) NC.skip (NC.exit 0))).seq (NC.block 1 ((reg [m e.b.c.c e.c.a 0,b e.b.c.f .sub (t e.b.c.c) (k 1) 1,m e.c.a e.b.c.f 2]).seq ((reg [m e.b.f.a e.c.a 0,m e.b.f.b e.a 1,m e.b.f.c e.c.f 2,b e.b.f.f .and (t e.b.f.b) (t e.b.f.c) 3,o e.c.a.a (.indexStr (.const (.str [48,49,50,51,52,53,54,55,56,57,97,98,99,100,101,102,103,104,105,106,107,108,109,110,111,112,113,114,115,116,117,118,119,120,121,122])) (t e.b.f.f)) 4,o e.c.a.b (.indexArr 1 65 (t e.b.f) (t e.b.f.a)) 5,q (.store 1 (t e.c.a.b) (t e.c.a.a)) 6]).seq (reg [m e.c.a.c e.a 0,m e.c.a.f e.c.b 1,b e.c.b.a .shr (t e.c.a.c) (t e.c.a.f) 2,m e.a e.c.b.a 3])))))
noncomputable def tl:NC:=(((reg [m e.c.f.b e.a 0,m e.c.f.c e.f.a 1,b e.c.f.f .geq (t e.c.f.b) (t e.c.f.c) 2]).seq (NC.cond (t e.c.f.f) NC.skip (NC.exit 2))).seq (NC.block 3 ((reg [m e.f.a.a e.c.a 0,b e.f.a.b .sub (t e.f.a.a) (k 1) 1,m e.c.a e.f.a.b 2]).seq ((reg [m e.f.a.c e.a 0,m e.f.a.f e.f.a 1,b e.f.b.a .quo (t e.f.a.c) (t e.f.a.f) 2,m e.f.b e.f.b.a 3]).seq ((reg [m e.f.b.b e.c.a 0,m e.f.b.c e.a 1,m e.f.b.f e.f.b 2,m e.f.c.a e.f.a 3,b e.f.c.b .mul (t e.f.b.f) (t e.f.c.a) 4,b e.f.c.c .sub (t e.f.b.c) (t e.f.c.b) 5,o e.f.c.f (.indexStr (.const (.str [48,49,50,51,52,53,54,55,56,57,97,98,99,100,101,102,103,104,105,106,107,108,109,110,111,112,113,114,115,116,117,118,119,120,121,122])) (t e.f.c.c)) 6,o e.f.f.a (.indexArr 1 65 (t e.b.f) (t e.f.b.b)) 7,q (.store 1 (t e.f.f.a) (t e.f.c.f)) 8]).seq (reg [m e.f.f.b e.f.b 0,m e.a e.f.f.b 1]))))))
noncomputable def wo:NFun:=⟨(reg [o e.b.b (.move kn) 0,o e.b.c (.move (.const (.str []))) 1]).seq (((reg [m e.f.c e.b 0,b e.f.f .lss (t e.f.c) (k 2) 1,m e.a.a.a e.f.f 2,G e.a.a.b (.move (t e.b)) e.a.a.a false 3,G e.a.a.c (.bin .num .eql (t e.a.a.b) (k 10)) e.a.a.a false 4,o e.a.a.f (.pick (t e.a.a.a) kt (t e.a.a.c)) 5,m e.a.b.a e.a.a.f 6,G e.a.b.b (.move (t e.b)) e.a.b.a false 7,G e.a.b.c (.bin .num .gtr (t e.a.b.b) (k 36)) e.a.b.a false 8,o e.a.b.f (.pick (t e.a.b.a) kt (t e.a.b.c)) 9]).seq (NC.cond (t e.a.b.f) (reg [o e.a.c.a (.mkIfc 9 (.const (.str [115,116,114,99,111,110,118,58,32,105,108,108,101,103,97,108,32,65,112,112,101,110,100,73,110,116,47,70,111,114,109,97,116,73,110,116,32,98,97,115,101]))) 0,q (.panic (t e.a.c.a)) 1]) NC.skip)).seq ((reg [o e.b.f (.alloc [.int .u8 (.lit 0),.int .u8 (.lit 0),.int .u8 (.lit 0),.int .u8 (.lit 0),.int .u8 (.lit 0),.int .u8 (.lit 0),.int .u8 (.lit 0),.int .u8 (.lit 0),.int .u8 (.lit 0),.int .u8 (.lit 0),.int .u8 (.lit 0),.int .u8 (.lit 0),.int .u8 (.lit 0),.int .u8 (.lit 0),.int .u8 (.lit 0),.int .u8 (.lit 0),.int .u8 (.lit 0),.int .u8 (.lit 0),.int .u8 (.lit 0),.int .u8 (.lit 0),.int .u8 (.lit 0),.int .u8 (.lit 0),.int .u8 (.lit 0),.int .u8 (.lit 0),.int .u8 (.lit 0),.int .u8 (.lit 0),.int .u8 (.lit 0),.int .u8 (.lit 0),.int .u8 (.lit 0),.int .u8 (.lit 0),.int .u8 (.lit 0),.int .u8 (.lit 0),.int .u8 (.lit 0),.int .u8 (.lit 0),.int .u8 (.lit 0),.int .u8 (.lit 0),.int .u8 (.lit 0),.int .u8 (.lit 0),.int .u8 (.lit 0),.int .u8 (.lit 0),.int .u8 (.lit 0),.int .u8 (.lit 0),.int .u8 (.lit 0),.int .u8 (.lit 0),.int .u8 (.lit 0),.int .u8 (.lit 0),.int .u8 (.lit 0),.int .u8 (.lit 0),.int .u8 (.lit 0),.int .u8 (.lit 0),.int .u8 (.lit 0),.int .u8 (.lit 0),.int .u8 (.lit 0),.int .u8 (.lit 0),.int .u8 (.lit 0),.int .u8 (.lit 0),.int .u8 (.lit 0),.int .u8 (.lit 0),.int .u8 (.lit 0),.int .u8 (.lit 0),.int .u8 (.lit 0),.int .u8 (.lit 0),.int .u8 (.lit 0),.int .u8 (.lit 0),.int .u8 (.lit 0)] 185) 0]).seq ((reg [o e.c.a (.move (k 65)) 0]).seq (((reg [m e.a.c.b e.c 0]).seq (NC.cond (t e.a.c.b) (reg [m e.a.c.c e.a 0,o e.a.c.f (.un .neg (t e.a.c.c)) 1,m e.a e.a.c.f 2]) NC.skip)).seq (((reg [m e.a.f.a e.b 0,o e.a.f.b (.call (F 122) [t e.a.f.a]) 1]).seq (NC.cond (t e.a.f.b) ((reg [m e.a.f.c e.b 0,o e.a.f.f (.toInt .u64 (t e.a.f.c)) 1,o e.b.a.a (.call (F 123) [t e.a.f.f]) 2,o e.b.a.b (.toInt .u64 (t e.b.a.a)) 3,m e.c.b e.b.a.b 4]).seq ((reg [m e.b.a.c e.b 0,o e.b.a.f (.toInt .u64 (t e.b.a.c)) 1,m e.c.c e.b.a.f 2]).seq ((reg [m e.b.b.a e.b 0,o e.b.b.b (.toInt .u64 (t e.b.b.a)) 1,b e.b.b.c .sub (t e.b.b.b) (ku 1) 2,m e.c.f e.b.b.c 3]).seq ((NC.block 0 tK.loop).seq ((reg [m e.c.b.b e.c.a 0,b e.c.b.c .sub (t e.c.b.b) (k 1) 1,m e.c.a e.c.b.c 2]).seq (reg [m e.c.b.f e.c.a 0,m e.c.c.a e.a 1,o e.c.c.b (.indexStr (.const (.str [48,49,50,51,52,53,54,55,56,57,97,98,99,100,101,102,103,104,105,106,107,108,109,110,111,112,113,114,115,116,117,118,119,120,121,122])) (t e.c.c.a)) 2,o e.c.c.c (.indexArr 1 65 (t e.b.f) (t e.c.b.f)) 3,q (.store 1 (t e.c.c.c) (t e.c.c.b)) 4])))))) ((reg [m e.c.c.f e.b 0,o e.c.f.a (.toInt .u64 (t e.c.c.f)) 1,m e.f.a e.c.f.a 2]).seq ((NC.block 2 tl.loop).seq ((reg [m e.f.f.c e.c.a 0,b e.f.f.f .sub (t e.f.f.c) (k 1) 1,m e.c.a e.f.f.f 2]).seq (reg [m e.a.a.a.a e.c.a 0,m e.a.a.a.b e.a 1,o e.a.a.a.c (.indexStr (.const (.str [48,49,50,51,52,53,54,55,56,57,97,98,99,100,101,102,103,104,105,106,107,108,109,110,111,112,113,114,115,116,117,118,119,120,121,122])) (t e.a.a.a.b)) 2,o e.a.a.a.f (.indexArr 1 65 (t e.b.f) (t e.a.a.a.a)) 3,q (.store 1 (t e.a.a.a.f) (t e.a.a.a.c)) 4])))))).seq (((reg [m e.a.a.b.a e.c 0]).seq (NC.cond (t e.a.a.b.a) ((reg [m e.a.a.b.b e.c.a 0,b e.a.a.b.c .sub (t e.a.a.b.b) (k 1) 1,m e.c.a e.a.a.b.c 2]).seq (reg [m e.a.a.b.f e.c.a 0,o e.a.a.c.a (.indexArr 1 65 (t e.b.f) (t e.a.a.b.f)) 1,q (.store 1 (t e.a.a.c.a) (kb 45)) 2])) NC.skip)).seq (((reg [m e.a.a.c.b e.f 0]).seq (NC.cond (t e.a.a.c.b) ((reg [m e.a.a.c.c e 0,m e.a.a.c.f e.c.a 1,o e.a.a.f.a (.fail) 2,o e.a.a.f.b (.append 1 1 5 (t e.a.a.c.c) (t e.a.a.f.a)) 3,m e.b.b e.a.a.f.b 4]).seq NC.ret) NC.skip)).seq ((reg [m e.a.a.f.c e.c.a 0,o e.a.a.f.f (.fail) 1,o e.a.b.a.a (.bytesToStr (t e.a.a.f.f)) 2,m e.b.c e.a.b.a.a 3]).seq NC.ret)))))))),102, [.tmp e.b.b,.tmp e.b.c]⟩
theorem sD:aj Tryd.prog 93=some (.code wo):=by kernel_rfl
noncomputable def tQ:NC:=((reg [o e.a.a (.fail) 0,x e.a.b e.a.a 0 1]).seq ((NC.cond (t e.a.b) NC.skip (NC.exit 0)).seq (NC.block 1 (reg [m e.a.c e.b 0,b e.a.f .add (t e.a.c) (k 1) 1,m e.b e.a.f 2]))))
noncomputable def vX:NFun:=⟨(reg [o e.b (.move (k 0)) 0]).seq (((reg [m e.c e 0,o e.f (.fail) 1]).seq (NC.block 0 tQ.loop)).seq ((reg [m e.b.a e.b 0,m e.b e.b.a 1]).seq NC.ret)),10, [.tmp e.b]⟩
theorem tu:aj Tryd.prog 94=some (.code vX):=by kernel_rfl
noncomputable def wz:NFun:=⟨(reg [o e.b (.move (.const (.int .i32 (.lit 0)))) 0,o e.c (.move (k 0)) 1]).seq (((reg [m e.f e 0,b e.a.a .neq (t e.f) (.const (.str [])) 1,m e.a.b e.a.a 2,G e.a.c (.move (t e)) e.a.b true 3,G e.a.f (.indexStr (t e.a.c) (k 0)) e.a.b true 4,G e.b.a (.bin .num .lss (t e.a.f) (kb 128)) e.a.b true 5,o e.b.b (.pick (t e.a.b) (t e.b.a) kf) 6]).seq (NC.cond (t e.b.b) ((reg [m e.b.c e 0,o e.b.f (.indexStr (t e.b.c) (k 0)) 1,o e.c.a (.toInt .i32 (t e.b.f)) 2,m e.b e.c.a 3,o e.c (.move (k 1)) 4]).seq NC.ret) (reg [m e.c.c e 0,o e.c.f (.call (F 124) [t e.c.c]) 1,m e.c.b e.c.f 2,x e.f.a e.c.b 0 3,x e.f.b e.c.b 1 4,m e.b e.f.a 5,m e.c e.f.b 6]))).seq NC.ret),19, [.tmp e.b,.tmp e.c]⟩
theorem sK:aj Tryd.prog 95=some (.code wz):=by kernel_rfl
noncomputable def tN:NC:=(((reg [m e.c.b.a e.a.f 0,m e.c.b.b e.b.a 1,b e.c.b.c .lss (t e.c.b.a) (t e.c.b.b) 2]).seq (NC.cond (t e.c.b.c) NC.skip (NC.exit 1))).seq (NC.block 2 (((reg [m e.c.b.f e 0,m e.c.c.a e.a.f 1,o e.c.c.b (.indexStr (t e.c.b.f) (t e.c.c.a)) 2,m e.c.c.c e.a.b 3,b e.c.c.f .neq (t e.c.c.b) (t e.c.c.c) 4]).seq (NC.cond (t e.c.c.f) ((reg [m e.c.f.a e 0,m e.c.f.b e.a.f 1,b e.c.f.c .add (t e.c.f.b) (k 1) 2,m e.c.f.f e.b.a 3,o e.f.a.a (.sliceStr (t e.c.f.a) (some (t e.c.f.c)) (some (t e.c.f.f))) 4,m e.f.a.b e.a.b 5,o e.f.a.c (.call (F 125) [t e.f.a.a,t e.f.a.b]) 6,m e.b.c e.f.a.c 7]).seq (((reg [m e.f.a.f e.b.c 0,b e.f.b.a .lss (t e.f.a.f) (k 0) 1]).seq (NC.cond (t e.f.b.a) ((reg [o e.f (.move (k (-1))) 0]).seq NC.ret) NC.skip)).seq (reg [m e.f.b.b e.a.f 0,m e.f.b.c e.b.c 1,b e.f.b.f .add (t e.f.b.c) (k 1) 2,b e.f.c.a .add (t e.f.b.b) (t e.f.b.f) 3,m e.a.f e.f.c.a 4]))) NC.skip)).seq (((reg [m e.f.c.b e 0,m e.f.c.c e.a.f 1,b e.f.c.f .add (t e.f.c.c) (k 1) 2,o e.f.f.a (.indexStr (t e.f.c.b) (t e.f.c.f)) 3,m e.f.f.b e.a.c 4,b e.f.f.c .eql (t e.f.f.a) (t e.f.f.b) 5,m e.f.f.f e.f.f.c 6,G e.a.a.a.a (.move (t e)) e.f.f.f true 7,G e.a.a.a.b (.move (t e.a.f)) e.f.f.f true 8,G e.a.a.a.c (.move (t e.a.f)) e.f.f.f true 9,G e.a.a.a.f (.move (t e.a.a)) e.f.f.f true 10,G e.a.a.b.a (.bin .num .add (t e.a.a.a.c) (t e.a.a.a.f)) e.f.f.f true 11,G e.a.a.b.b (.sliceStr (t e.a.a.a.a) (some (t e.a.a.a.b)) (some (t e.a.a.b.a))) e.f.f.f true 12,G e.a.a.b.c (.move (t e.a)) e.f.f.f true 13,G e.a.a.b.f (.bin .num .eql (t e.a.a.b.b) (t e.a.a.b.c)) e.f.f.f true 14,o e.a.a.c.a (.pick (t e.f.f.f) (t e.a.a.b.f) kf) 15]).seq (NC.cond (t e.a.a.c.a) ((reg [m e.a.a.c.b e.a.f 0,m e.f e.a.a.c.b 1]).seq NC.ret) NC.skip)).seq ((reg [m e.a.a.c.c e.a.f 0,b e.a.a.c.f .add (t e.a.a.c.c) (k 1) 1,m e.a.f e.a.a.c.f 2]).seq ((reg [m e.a.a.f.a e.b.b 0,b e.a.a.f.b .add (t e.a.a.f.a) (k 1) 1,m e.b.b e.a.a.f.b 2]).seq ((reg [m e.a.a.f.c e.a.a 0,o e.a.a.f.f (.load1 (.const (.ptr e.c 0))) 1,b e.a.b.a.a .leq (t e.a.a.f.c) (t e.a.a.f.f) 2,m e.a.b.a.b e.a.b.a.a 3,G e.a.b.a.c (.move (t e.b.b)) e.a.b.a.b true 4,G e.a.b.a.f (.move (t e.a.f)) e.a.b.a.b true 5,G e.a.b.b.a (.call (F 127) [t e.a.b.a.f]) e.a.b.a.b true 6,G e.a.b.b.b (.bin .num .gtr (t e.a.b.a.c) (t e.a.b.b.a)) e.a.b.a.b true 7,o e.a.b.b.c (.pick (t e.a.b.a.b) (t e.a.b.b.b) kf) 8]).seq (NC.cond (t e.a.b.b.c) ((reg [m e.a.b.b.f e 0,m e.a.b.c.a e.a.f 1,o e.a.b.c.b (.sliceStr (t e.a.b.b.f) (some (t e.a.b.c.a)) none) 2,m e.a.b.c.c e.a 3,o e.a.b.c.f (.call (F 126) [t e.a.b.c.b,t e.a.b.c.c]) 4,m e.b.f e.a.b.c.f 5]).seq (((reg [m e.a.b.f.a e.b.f 0,b e.a.b.f.b .geq (t e.a.b.f.a) (k 0) 1]).seq (NC.cond (t e.a.b.f.b) ((reg [m e.a.b.f.c e.b.f 0,m e.a.b.f.f e.a.f 1,b e.a.c.a.a .add (t e.a.b.f.c) (t e.a.b.f.f) 2,m e.f e.a.c.a.a 3]).seq NC.ret) NC.skip)).seq ((reg [o e.f (.move (k (-1))) 0]).seq NC.ret))) ((reg [m e.a.c.a.b e.a.a 0,o e.a.c.a.c (.load1 (.const (.ptr e.c 0))) 1,b e.a.c.a.f .gtr (t e.a.c.a.b) (t e.a.c.a.c) 2,m e.a.c.b.a e.a.c.a.f 3,G e.a.c.b.b (.move (t e.b.b)) e.a.c.b.a true 4,G e.a.c.b.c (.move (t e.a.f)) e.a.c.b.a true 5,G e.a.c.b.f (.bin .num .shr (t e.a.c.b.c) (ku 4)) e.a.c.b.a true 6,G e.a.c.c.a (.bin .num .add (k 4) (t e.a.c.b.f)) e.a.c.b.a true 7,G e.a.c.c.b (.bin .num .geq (t e.a.c.b.b) (t e.a.c.c.a)) e.a.c.b.a true 8,o e.a.c.c.c (.pick (t e.a.c.b.a) (t e.a.c.c.b) kf) 9,m e.a.c.c.f e.a.c.c.c 10,G e.a.c.f.a (.move (t e.a.f)) e.a.c.c.f true 11,G e.a.c.f.b (.move (t e.b.a)) e.a.c.c.f true 12,G e.a.c.f.c (.bin .num .lss (t e.a.c.f.a) (t e.a.c.f.b)) e.a.c.c.f true 13,o e.a.c.f.f (.pick (t e.a.c.c.f) (t e.a.c.f.c) kf) 14]).seq (NC.cond (t e.a.c.f.f) ((reg [m e.a.f.a.a e 0,m e.a.f.a.b e.a.f 1,o e.a.f.a.c (.sliceStr (t e.a.f.a.a) (some (t e.a.f.a.b)) none) 2,m e.a.f.a.f e.a 3,o e.a.f.b.a (.call (F 128) [t e.a.f.a.c,t e.a.f.a.f]) 4,m e.c.a e.a.f.b.a 5]).seq (((reg [m e.a.f.b.b e.c.a 0,b e.a.f.b.c .lss (t e.a.f.b.b) (k 0) 1]).seq (NC.cond (t e.a.f.b.c) ((reg [o e.f (.move (k (-1))) 0]).seq NC.ret) NC.skip)).seq ((reg [m e.a.f.b.f e.a.f 0,m e.a.f.c.a e.c.a 1,b e.a.f.c.b .add (t e.a.f.b.f) (t e.a.f.c.a) 2,m e.f e.a.f.c.b 3]).seq NC.ret))) NC.skip))))))))))
noncomputable def vv:NFun:=⟨(reg [o e.f (.move (k 0)) 0]).seq ((reg [m e.c.b e.a 0,o e.c.c (.lenStr (t e.c.b)) 1,m e.a.a e.c.c 2]).seq ((NC.block 0 ((reg [m e.f.a e.a.a 0,b e.f.b .eql (t e.f.a) (k 0) 1,m e.f.c e.f.b 2,G e.f.f (.move (t e.a)) e.f.c false 3,G e.a.a.a (.move (t e)) e.f.c false 4,G e.a.a.b (.bin .num .eql (t e.f.f) (t e.a.a.a)) e.f.c false 5,o e.a.a.c (.pick (t e.f.c) kt (t e.a.a.b)) 6,m e.c.f e.a.a.c 7]).seq (NC.cond (t e.c.f) ((reg [o e.f (.move (k 0)) 0]).seq NC.ret) ((reg [m e.a.b.a e.a.a 0,b e.a.b.b .eql (t e.a.b.a) (k 1) 1,m e.a.a.f e.a.b.b 2]).seq (NC.cond (t e.a.a.f) ((reg [m e.a.b.c e 0,m e.a.b.f e.a 1,o e.a.c.a (.indexStr (t e.a.b.f) (k 0)) 2,o e.a.c.b (.call (F 125) [t e.a.b.c,t e.a.c.a]) 3,m e.f e.a.c.b 4]).seq NC.ret) ((reg [m e.a.c.f e.a.a 0,m e.a.f.a e 1,o e.a.f.b (.lenStr (t e.a.f.a)) 2,b e.a.f.c .geq (t e.a.c.f) (t e.a.f.b) 3,m e.a.c.c e.a.f.c 4]).seq (NC.cond (t e.a.c.c) ((reg [o e.f (.move (k (-1))) 0]).seq NC.ret) ((reg [m e.b.a.a e.a.a 0,o e.b.a.b (.load1 (.const (.ptr e.c 0))) 1,b e.b.a.c .leq (t e.b.a.a) (t e.b.a.b) 2,m e.b.a.f e.b.a.c 3,G e.b.b.a (.move (t e)) e.b.a.f true 4,G e.b.b.b (.lenStr (t e.b.b.a)) e.b.a.f true 5,G e.b.b.c (.bin .num .leq (t e.b.b.b) (k 64)) e.b.a.f true 6,o e.b.b.f (.pick (t e.b.a.f) (t e.b.b.c) kf) 7,m e.a.f.f e.b.b.f 8]).seq (NC.cond (t e.a.f.f) ((reg [m e.b.c.a e 0,m e.b.c.b e.a 1,o e.b.c.c (.call (F 126) [t e.b.c.a,t e.b.c.b]) 2,m e.f e.b.c.c 3]).seq NC.ret) NC.skip))))))))).seq ((reg [m e.b.c.f e.a 0,o e.b.f.a (.indexStr (t e.b.c.f) (k 0)) 1,m e.a.b e.b.f.a 2]).seq ((reg [m e.b.f.b e.a 0,o e.b.f.c (.indexStr (t e.b.f.b) (k 1)) 1,m e.a.c e.b.f.c 2]).seq ((reg [o e.a.f (.move (k 0)) 0]).seq ((reg [m e.b.f.f e 0,o e.c.a.a (.lenStr (t e.b.f.f)) 1,m e.c.a.b e.a.a 2,b e.c.a.c .sub (t e.c.a.a) (t e.c.a.b) 3,b e.c.a.f .add (t e.c.a.c) (k 1) 4,m e.b.a e.c.a.f 5]).seq ((reg [o e.b.b (.move (k 0)) 0]).seq ((NC.block 1 tN.loop).seq ((reg [o e.f (.move (k (-1))) 0]).seq NC.ret))))))))),143, [.tmp e.f]⟩
theorem rU:aj Tryd.prog 97=some (.code vv):=by kernel_rfl
noncomputable def tq:NC:=((reg [b e.a.b.a.b .lss (t e.a.b.a.a) (t e.a.a.f.f) 0]).seq ((NC.cond (t e.a.b.a.b) NC.skip (NC.exit 3)).seq ((NC.block 4 ((reg [o e.a.b.a.c (.indexSlc 1 (t e.a.a.f.c) (t e.a.b.a.a)) 0,l e.a.b.a.f e.a.b.a.c 1,m e.c.c e.a.b.a.f 2]).seq ((reg [o e.c.f (.move (kb 0)) 0]).seq ((NC.block 5 ((reg [m e.a.b.b.c e.c.c 0,b e.a.b.b.f .eql (t e.a.b.b.c) (kb 95) 1,m e.a.b.c.a e.a.b.b.f 2,G e.a.b.c.b (.move (t e.a.f)) e.a.b.c.a true 3,o e.a.b.c.c (.pick (t e.a.b.c.a) (t e.a.b.c.b) kf) 4,m e.a.b.b.b e.a.b.c.c 5]).seq (NC.cond (t e.a.b.b.b) ((reg [o e.b.f (.move kt) 0]).seq (NC.exit 4)) ((reg [m e.a.b.f.a e.c.c 0,b e.a.b.f.b .leq (kb 48) (t e.a.b.f.a) 1,m e.a.b.f.c e.a.b.f.b 2,G e.a.b.f.f (.move (t e.c.c)) e.a.b.f.c true 3,G e.a.c.a.a (.bin .num .leq (t e.a.b.f.f) (kb 57)) e.a.b.f.c true 4,o e.a.c.a.b (.pick (t e.a.b.f.c) (t e.a.c.a.a) kf) 5,m e.a.b.c.f e.a.c.a.b 6]).seq (NC.cond (t e.a.b.c.f) (reg [m e.a.c.a.c e.c.c 0,b e.a.c.a.f .sub (t e.a.c.a.c) (kb 48) 1,m e.c.f e.a.c.a.f 2]) ((reg [m e.a.c.b.b e.c.c 0,o e.a.c.b.c (.call (F 129) [t e.a.c.b.b]) 1,b e.a.c.b.f .leq (kb 97) (t e.a.c.b.c) 2,m e.a.c.c.a e.a.c.b.f 3,G e.a.c.c.b (.move (t e.c.c)) e.a.c.c.a true 4,G e.a.c.c.c (.call (F 129) [t e.a.c.c.b]) e.a.c.c.a true 5,G e.a.c.c.f (.bin .num .leq (t e.a.c.c.c) (kb 122)) e.a.c.c.a true 6,o e.a.c.f.a (.pick (t e.a.c.c.a) (t e.a.c.c.f) kf) 7,m e.a.c.b.a e.a.c.f.a 8]).seq (NC.cond (t e.a.c.b.a) (reg [m e.a.c.f.b e.c.c 0,o e.a.c.f.c (.call (F 129) [t e.a.c.f.b]) 1,b e.a.c.f.f .sub (t e.a.c.f.c) (kb 97) 2,b e.a.f.a.a .add (t e.a.c.f.f) (kb 10) 3,m e.c.f e.a.f.a.a 4]) ((reg [o e.a.b.b.a (.mkIfc 132 (k 2)) 0,o e.a.b (.move (ku 0)) 1,m e.a.c e.a.b.b.a 2]).seq NC.ret)))))))).seq (((reg [m e.a.f.a.b e.c.f 0,m e.a.f.a.c e.a 1,o e.a.f.a.f (.toInt .u8 (t e.a.f.a.c)) 2,b e.a.f.b.a .geq (t e.a.f.a.b) (t e.a.f.a.f) 3]).seq (NC.cond (t e.a.f.b.a) ((reg [o e.a.f.b.b (.mkIfc 132 (k 2)) 0,o e.a.b (.move (ku 0)) 1,m e.a.c e.a.f.b.b 2]).seq NC.ret) NC.skip)).seq (((reg [m e.a.f.b.c e.c.a 0,m e.a.f.b.f e.b.b 1,b e.a.f.c.a .geq (t e.a.f.b.c) (t e.a.f.b.f) 2]).seq (NC.cond (t e.a.f.c.a) ((reg [m e.a.f.c.b e.b.c 0,o e.a.f.c.c (.mkIfc 132 (k 1)) 1,m e.a.b e.a.f.c.b 2,m e.a.c e.a.f.c.c 3]).seq NC.ret) NC.skip)).seq ((reg [m e.a.f.c.f e.c.a 0,m e.a.f.f.a e.a 1,o e.a.f.f.b (.toInt .u64 (t e.a.f.f.a)) 2,b e.a.f.f.c .mul (t e.a.f.c.f) (t e.a.f.f.b) 3,m e.c.a e.a.f.f.c 4]).seq ((reg [m e.a.f.f.f e.c.a 0,m e.b.a.a.a e.c.f 1,o e.b.a.a.b (.toInt .u64 (t e.b.a.a.a)) 2,b e.b.a.a.c .add (t e.a.f.f.f) (t e.b.a.a.b) 3,m e.f.a e.b.a.a.c 4]).seq (((reg [m e.b.a.a.f e.f.a 0,m e.b.a.b.a e.c.a 1,b e.b.a.b.b .lss (t e.b.a.a.f) (t e.b.a.b.a) 2,m e.b.a.b.c e.b.a.b.b 3,G e.b.a.b.f (.move (t e.f.a)) e.b.a.b.c false 4,G e.b.a.c.a (.move (t e.b.c)) e.b.a.b.c false 5,G e.b.a.c.b (.bin .num .gtr (t e.b.a.b.f) (t e.b.a.c.a)) e.b.a.b.c false 6,o e.b.a.c.c (.pick (t e.b.a.b.c) kt (t e.b.a.c.b)) 7]).seq (NC.cond (t e.b.a.c.c) ((reg [m e.b.a.c.f e.b.c 0,o e.b.a.f.a (.mkIfc 132 (k 1)) 1,m e.a.b e.b.a.c.f 2,m e.a.c e.b.a.f.a 3]).seq NC.ret) NC.skip)).seq (reg [m e.b.a.f.b e.f.a 0,m e.c.a e.b.a.f.b 1])))))))))).seq (reg [b e.b.a.f.c .add (t e.a.b.a.a) (k 1) 0,m e.a.b.a.a e.b.a.f.c 1]))))
noncomputable def vC:NFun:=⟨(reg [o e.a.b (.move (ku 0)) 0,o e.a.c (.move (.const .nili)) 1]).seq (((reg [m e.f.b e 0,b e.f.c .eql (t e.f.b) (.const (.str [])) 1]).seq (NC.cond (t e.f.c) ((reg [o e.f.f (.mkIfc 132 (k 2)) 0,o e.a.b (.move (ku 0)) 1,m e.a.c e.f.f 2]).seq NC.ret) NC.skip)).seq ((reg [m e.a.a.a e.a 0,b e.a.a.b .eql (t e.a.a.a) (k 0) 1,m e.a.f e.a.a.b 2]).seq ((reg [m e.a.a.c e 0,m e.b.a e.a.a.c 1]).seq ((NC.block 0 ((reg [m e.a.b.b e.a 0,b e.a.b.c .leq (k 2) (t e.a.b.b) 1,m e.a.b.f e.a.b.c 2,G e.a.c.a (.move (t e.a)) e.a.b.f true 3,G e.a.c.b (.bin .num .leq (t e.a.c.a) (k 36)) e.a.b.f true 4,o e.a.c.c (.pick (t e.a.b.f) (t e.a.c.b) kf) 5,m e.a.b.a e.a.c.c 6]).seq (NC.cond (t e.a.b.a) NC.skip ((reg [m e.a.f.a e.a 0,b e.a.f.b .eql (t e.a.f.a) (k 0) 1,m e.a.c.f e.a.f.b 2]).seq (NC.cond (t e.a.c.f) ((reg [o e.a (.move (k 10)) 0]).seq ((reg [m e.a.f.c e 0,o e.a.f.f (.indexStr (t e.a.f.c) (k 0)) 1,b e.b.a.a .eql (t e.a.f.f) (kb 48) 2]).seq (NC.cond (t e.b.a.a) (NC.block 1 ((reg [m e.b.b.a e 0,o e.b.b.b (.lenStr (t e.b.b.a)) 1,b e.b.b.c .geq (t e.b.b.b) (k 3) 2,m e.b.b.f e.b.b.c 3,G e.b.c.a (.move (t e)) e.b.b.f true 4,G e.b.c.b (.indexStr (t e.b.c.a) (k 1)) e.b.b.f true 5,G e.b.c.c (.call (F 129) [t e.b.c.b]) e.b.b.f true 6,G e.b.c.f (.bin .num .eql (t e.b.c.c) (kb 98)) e.b.b.f true 7,o e.b.f.a (.pick (t e.b.b.f) (t e.b.c.f) kf) 8,m e.b.a.f e.b.f.a 9]).seq (NC.cond (t e.b.a.f) ((reg [o e.a (.move (k 2)) 0]).seq (reg [m e.b.f.b e 0,o e.b.f.c (.sliceStr (t e.b.f.b) (some (k 2)) none) 1,m e e.b.f.c 2])) ((reg [m e.c.a.a e 0,o e.c.a.b (.lenStr (t e.c.a.a)) 1,b e.c.a.c .geq (t e.c.a.b) (k 3) 2,m e.c.a.f e.c.a.c 3,G e.c.b.a (.move (t e)) e.c.a.f true 4,G e.c.b.b (.indexStr (t e.c.b.a) (k 1)) e.c.a.f true 5,G e.c.b.c (.call (F 129) [t e.c.b.b]) e.c.a.f true 6,G e.c.b.f (.bin .num .eql (t e.c.b.c) (kb 111)) e.c.a.f true 7,o e.c.c.a (.pick (t e.c.a.f) (t e.c.b.f) kf) 8,m e.b.f.f e.c.c.a 9]).seq (NC.cond (t e.b.f.f) ((reg [o e.a (.move (k 8)) 0]).seq (reg [m e.c.c.b e 0,o e.c.c.c (.sliceStr (t e.c.c.b) (some (k 2)) none) 1,m e e.c.c.c 2])) ((reg [m e.c.f.a e 0,o e.c.f.b (.lenStr (t e.c.f.a)) 1,b e.c.f.c .geq (t e.c.f.b) (k 3) 2,m e.c.f.f e.c.f.c 3,G e.f.a.a (.move (t e)) e.c.f.f true 4,G e.f.a.b (.indexStr (t e.f.a.a) (k 1)) e.c.f.f true 5,G e.f.a.c (.call (F 129) [t e.f.a.b]) e.c.f.f true 6,G e.f.a.f (.bin .num .eql (t e.f.a.c) (kb 120)) e.c.f.f true 7,o e.f.b.a (.pick (t e.c.f.f) (t e.f.a.f) kf) 8,m e.c.c.f e.f.b.a 9]).seq (NC.cond (t e.c.c.f) ((reg [o e.a (.move (k 16)) 0]).seq (reg [m e.f.b.b e 0,o e.f.b.c (.sliceStr (t e.f.b.b) (some (k 2)) none) 1,m e e.f.b.c 2])) ((reg [o e.a (.move (k 8)) 0]).seq (reg [m e.b.a.b e 0,o e.b.a.c (.sliceStr (t e.b.a.b) (some (k 1)) none) 1,m e e.b.a.c 2]))))))))) NC.skip))) ((reg [o e.a.a.f (.mkIfc 132 (k 3)) 0,o e.a.b (.move (ku 0)) 1,m e.a.c e.a.a.f 2]).seq NC.ret)))))).seq (((reg [m e.f.b.f e.b 0,b e.f.c.a .eql (t e.f.b.f) (k 0) 1]).seq (NC.cond (t e.f.c.a) (reg [o e.b (.move (k 64)) 0]) ((reg [m e.f.c.b e.b 0,b e.f.c.c .lss (t e.f.c.b) (k 0) 1,m e.f.c.f e.f.c.c 2,G e.f.f.a (.move (t e.b)) e.f.c.f false 3,G e.f.f.b (.bin .num .gtr (t e.f.f.a) (k 64)) e.f.c.f false 4,o e.f.f.c (.pick (t e.f.c.f) kt (t e.f.f.b)) 5]).seq (NC.cond (t e.f.f.c) ((reg [o e.f.f.f (.mkIfc 132 (k 4)) 0,o e.a.b (.move (ku 0)) 1,m e.a.c e.f.f.f 2]).seq NC.ret) NC.skip)))).seq ((reg [o e.b.b (.move (ku 0)) 0]).seq (((reg [m e.a.a.a.a e.a 0]).seq (NC.block 2 ((reg [b e.a.a.b.c .eql (t e.a.a.a.a) (k 10) 0,m e.a.a.b.b e.a.a.b.c 1]).seq (NC.cond (t e.a.a.b.b) (reg [o e.b.b (.move (ku 1844674407370955162)) 0]) ((reg [b e.a.a.c.a .eql (t e.a.a.a.a) (k 16) 0,m e.a.a.b.f e.a.a.c.a 1]).seq (NC.cond (t e.a.a.b.f) (reg [o e.b.b (.move (ku 1152921504606846976)) 0]) (reg [m e.a.a.a.b e.a 0,o e.a.a.a.c (.toInt .u64 (t e.a.a.a.b)) 1,b e.a.a.a.f .quo (ku 18446744073709551615) (t e.a.a.a.c) 2,b e.a.a.b.a .add (t e.a.a.a.f) (ku 1) 3,m e.b.b e.a.a.b.a 4]))))))).seq ((reg [m e.a.a.c.b e.b 0,o e.a.a.c.c (.toInt .u64 (t e.a.a.c.b)) 1,b e.a.a.c.f .shl (ku 1) (t e.a.a.c.c) 2,b e.a.a.f.a .sub (t e.a.a.c.f) (ku 1) 3,m e.b.c e.a.a.f.a 4]).seq ((reg [o e.b.f (.move kf) 0]).seq ((reg [o e.c.a (.move (ku 0)) 0]).seq (((reg [m e.a.a.f.b e 0,o e.a.a.f.c (.strToBytes 5 (t e.a.a.f.b)) 1,L e.a.a.f.f e.a.a.f.c 2,o e.a.b.a.a (.move (k 0)) 3]).seq (NC.block 3 tq.loop)).seq (((reg [m e.b.a.f.f e.b.f 0,m e.b.b.a.a e.b.a.f.f 1,G e.b.b.a.b (.move (t e.b.a)) e.b.b.a.a true 2,G e.b.b.a.c (.call (F 130) [t e.b.b.a.b]) e.b.b.a.a true 3,G e.b.b.a.f (.un .not (t e.b.b.a.c)) e.b.b.a.a true 4,o e.b.b.b.a (.pick (t e.b.b.a.a) (t e.b.b.a.f) kf) 5]).seq (NC.cond (t e.b.b.b.a) ((reg [o e.b.b.b.b (.mkIfc 132 (k 2)) 0,o e.a.b (.move (ku 0)) 1,m e.a.c e.b.b.b.b 2]).seq NC.ret) NC.skip)).seq ((reg [m e.b.b.b.c e.c.a 0,m e.a.b e.b.b.b.c 1,o e.a.c (.move (.const .nili)) 2]).seq NC.ret))))))))))))),172, [.tmp e.a.b,.tmp e.a.c]⟩
theorem s5:aj Tryd.prog 98=some (.code vC):=by kernel_rfl
noncomputable def wM:NFun:=⟨(reg [o e.b (.move (.const (.str []))) 0]).seq (((reg [m e.f e 0,o e.a.a (.lenStr (t e.f)) 1,b e.a.b .eql (t e.a.a) (k 0) 2]).seq (NC.cond (t e.a.b) ((reg [o e.b (.move (.const (.str []))) 0]).seq NC.ret) NC.skip)).seq ((reg [m e.a.c e 0,o e.a.f (.lenStr (t e.a.c)) 1,o e.b.a (.mkSlice [.int .u8 (.lit 0)] 1 1 5 (t e.a.f) (t e.a.f)) 2,m e.c e.b.a 3]).seq ((reg [m e.b.b e.c 0,m e.b.c e 1,o e.b.f (.fail) 2]).seq ((reg [m e.c.a e.c 0,o e.c.b (.indexSlc 1 (t e.c.a) (k 0)) 1,m e.c.c e.c 2,L e.c.f e.c.c 3,o e.f.a (.fail) 4,m e.b e.f.a 5]).seq NC.ret)))),18, [.tmp e.b]⟩
theorem tC:aj Tryd.prog 99=some (.code wM):=by kernel_rfl
noncomputable def ue:NFun:=⟨(reg [o e.b (.move (.const .nili)) 0]).seq ((reg [m e.c e 0,o e.f (.build [.str []] [(0,1,t e.c)]) 1,o e.a.a (.box (t e.f) 190) 2,o e.a.b (.mkIfc 188 (t e.a.a)) 3,m e.b e.a.b 4]).seq NC.ret),7, [.tmp e.b]⟩
theorem pS:aj Tryd.prog 100=some (.code ue):=by kernel_rfl
noncomputable def ud:NFun:=⟨(reg [o e.b (.move (k 0)) 0]).seq ((reg [m e.c e 0,b e.f .mul (t e.c) (k 78913) 1,b e.a.a .shr (t e.f) (ku 18) 2,m e.b e.a.a 3]).seq NC.ret),6, [.tmp e.b]⟩
theorem pH:aj Tryd.prog 119=some (.code ud):=by kernel_rfl
noncomputable def uf:NFun:=⟨(reg [o e.b (.move (k 0)) 0]).seq (((reg [m e.c e 0,b e.f .geq (t e.c) (ku 4294967296) 1]).seq (NC.cond (t e.f) ((reg [m e.a.a e 0,b e.a.b .shr (t e.a.a) (ku 32) 1,m e e.a.b 2]).seq (reg [o e.b (.move (k 32)) 0])) NC.skip)).seq (((reg [m e.a.c e 0,b e.a.f .geq (t e.a.c) (ku 65536) 1]).seq (NC.cond (t e.a.f) ((reg [m e.b.a e 0,b e.b.b .shr (t e.b.a) (ku 16) 1,m e e.b.b 2]).seq (reg [m e.b.c e.b 0,b e.b.f .add (t e.b.c) (k 16) 1,m e.b e.b.f 2])) NC.skip)).seq (((reg [m e.c.a e 0,b e.c.b .geq (t e.c.a) (ku 256) 1]).seq (NC.cond (t e.c.b) ((reg [m e.c.c e 0,b e.c.f .shr (t e.c.c) (ku 8) 1,m e e.c.f 2]).seq (reg [m e.f.a e.b 0,b e.f.b .add (t e.f.a) (k 8) 1,m e.b e.f.b 2])) NC.skip)).seq ((reg [m e.f.c e.b 0,m e.f.f e 1,o e.a.a.a (.toInt .u8 (t e.f.f)) 2,o e.a.a.b (.indexStr (.const (.str [0,1,2,2,3,3,3,3,4,4,4,4,4,4,4,4,5,5,5,5,5,5,5,5,5,5,5,5,5,5,5,5,6,6,6,6,6,6,6,6,6,6,6,6,6,6,6,6,6,6,6,6,6,6,6,6,6,6,6,6,6,6,6,6,7,7,7,7,7,7,7,7,7,7,7,7,7,7,7,7,7,7,7,7,7,7,7,7,7,7,7,7,7,7,7,7,7,7,7,7,7,7,7,7,7,7,7,7,7,7,7,7,7,7,7,7,7,7,7,7,7,7,7,7,7,7,7,7,8,8,8,8,8,8,8,8,8,8,8,8,8,8,8,8,8,8,8,8,8,8,8,8,8,8,8,8,8,8,8,8,8,8,8,8,8,8,8,8,8,8,8,8,8,8,8,8,8,8,8,8,8,8,8,8,8,8,8,8,8,8,8,8,8,8,8,8,8,8,8,8,8,8,8,8,8,8,8,8,8,8,8,8,8,8,8,8,8,8,8,8,8,8,8,8,8,8,8,8,8,8,8,8,8,8,8,8,8,8,8,8,8,8,8,8,8,8,8,8,8,8,8,8,8,8,8,8])) (t e.a.a.a)) 3,o e.a.a.c (.toInt .i64 (t e.a.a.b)) 4,b e.a.a.f .add (t e.f.c) (t e.a.a.c) 5,m e.b e.a.a.f 6]).seq NC.ret)))),25, [.tmp e.b]⟩
theorem pV:aj Tryd.prog 120=some (.code uf):=by kernel_rfl
noncomputable def ug:NFun:=⟨(reg [o e.b (.move (k 0)) 0]).seq (((reg [m e.c e 0]).seq (NC.cond (t e.c) ((reg [o e.b (.move (k 1)) 0]).seq NC.ret) NC.skip)).seq ((reg [o e.b (.move (k 0)) 0]).seq NC.ret)),4, [.tmp e.b]⟩
theorem pY:aj Tryd.prog 121=some (.code ug):=by kernel_rfl
noncomputable def ub:NFun:=⟨(reg [o e.b (.move kf) 0]).seq ((reg [m e.c e 0,m e.f e 1,b e.a.a .sub (t e.f) (k 1) 2,b e.a.b .and (t e.c) (t e.a.a) 3,b e.a.c .eql (t e.a.b) (k 0) 4,m e.b e.a.c 5]).seq NC.ret),8, [.tmp e.b]⟩
theorem p6:aj Tryd.prog 122=some (.code ub):=by kernel_rfl
noncomputable def t6:NFun:=⟨(reg [o e.b (.move (k 0)) 0]).seq ((NC.cond kf ((reg [m e.c e 0,o e.f (.toInt .u32 (t e.c)) 1,o e.a.a (.call (F 136) [t e.f]) 2,m e.b e.a.a 3]).seq NC.ret) NC.skip).seq ((reg [m e.a.b e 0,o e.a.c (.call (F 137) [t e.a.b]) 1,m e.b e.a.c 2]).seq NC.ret)),8, [.tmp e.b]⟩
theorem rD:aj Tryd.prog 123=some (.code t6):=by kernel_rfl
noncomputable def t7:NFun:=⟨(reg [o e.b (.move (.const (.int .i32 (.lit 0)))) 0,o e.c (.move (k 0)) 1]).seq ((reg [m e.c.a e 0,o e.c.b (.lenStr (t e.c.a)) 1,m e.f e.c.b 2]).seq (((reg [m e.c.c e.f 0,b e.c.f .lss (t e.c.c) (k 1) 1]).seq (NC.cond (t e.c.f) ((reg [o e.b (.move (.const (.int .i32 (.lit 65533)))) 0,o e.c (.move (k 0)) 1]).seq NC.ret) NC.skip)).seq ((reg [m e.f.a e 0,o e.f.b (.indexStr (t e.f.a) (k 0)) 1,m e.a.a e.f.b 2]).seq ((reg [m e.f.c e.a.a 0,o e.f.f (.indexArr 1 256 (.const (.ptr e.f 0)) (t e.f.c)) 1,l e.a.a.a e.f.f 2,m e.a.b e.a.a.a 3]).seq (((reg [m e.a.a.b e.a.b 0,b e.a.a.c .geq (t e.a.a.b) (kb 240) 1]).seq (NC.cond (t e.a.a.c) ((reg [m e.a.a.f e.a.b 0,o e.a.b.a (.toInt .i32 (t e.a.a.f)) 1,b e.a.b.b .shl (t e.a.b.a) (ku 31) 2,b e.a.b.c .shr (t e.a.b.b) (ku 31) 3,m e.a.c e.a.b.c 4]).seq ((reg [m e.a.b.f e 0,o e.a.c.a (.indexStr (t e.a.b.f) (k 0)) 1,o e.a.c.b (.toInt .i32 (t e.a.c.a)) 2,m e.a.c.c e.a.c 3,b e.a.c.f .andNot (t e.a.c.b) (t e.a.c.c) 4,m e.a.f.a e.a.c 5,b e.a.f.b .and (.const (.int .i32 (.lit 65533))) (t e.a.f.a) 6,b e.a.f.c .or (t e.a.c.f) (t e.a.f.b) 7,m e.b e.a.f.c 8,o e.c (.move (k 1)) 9]).seq NC.ret)) NC.skip)).seq ((reg [m e.a.f.f e.a.b 0,b e.b.a.a .and (t e.a.f.f) (kb 7) 1,o e.b.a.b (.toInt .i64 (t e.b.a.a)) 2,m e.a.f e.b.a.b 3]).seq ((reg [m e.b.a.c e.a.b 0,b e.b.a.f .shr (t e.b.a.c) (ku 4) 1,o e.b.b.a (.indexArr 2 16 (.const (.ptr e.a.a 0)) (t e.b.a.f)) 2,o e.b.b.b (.loadN 2 (t e.b.b.a)) 3,o e.b.a (.alloc [.int .u8 (.lit 0),.int .u8 (.lit 0)] 200) 4,q (.store 2 (t e.b.a) (t e.b.b.b)) 5]).seq (((reg [m e.b.b.c e.f 0,m e.b.b.f e.a.f 1,b e.b.c.a .lss (t e.b.b.c) (t e.b.b.f) 2]).seq (NC.cond (t e.b.c.a) ((reg [o e.b (.move (.const (.int .i32 (.lit 65533)))) 0,o e.c (.move (k 1)) 1]).seq NC.ret) NC.skip)).seq ((reg [m e.b.c.b e 0,o e.b.c.c (.indexStr (t e.b.c.b) (k 1)) 1,m e.b.b e.b.c.c 2]).seq (((reg [m e.b.c.f e.b.b 0,f 0 e.b.f.a e.b.a 1,l e.b.f.b e.b.f.a 2,b e.b.f.c .lss (t e.b.c.f) (t e.b.f.b) 3,m e.b.f.f e.b.f.c 4,G e.c.a.a (.fieldAddr 1 (t e.b.a)) e.b.f.f false 5,G e.c.a.b (.load1 (t e.c.a.a)) e.b.f.f false 6,G e.c.a.c (.move (t e.b.b)) e.b.f.f false 7,G e.c.a.f (.bin .num .lss (t e.c.a.b) (t e.c.a.c)) e.b.f.f false 8,o e.c.b.a (.pick (t e.b.f.f) kt (t e.c.a.f)) 9]).seq (NC.cond (t e.c.b.a) ((reg [o e.b (.move (.const (.int .i32 (.lit 65533)))) 0,o e.c (.move (k 1)) 1]).seq NC.ret) NC.skip)).seq (((reg [m e.c.b.b e.a.f 0,b e.c.b.c .leq (t e.c.b.b) (k 2) 1]).seq (NC.cond (t e.c.b.c) ((reg [m e.c.b.f e.a.a 0,b e.c.c.a .and (t e.c.b.f) (kb 31) 1,o e.c.c.b (.toInt .i32 (t e.c.c.a)) 2,b e.c.c.c .shl (t e.c.c.b) (ku 6) 3,m e.c.c.f e.b.b 4,b e.c.f.a .and (t e.c.c.f) (kb 63) 5,o e.c.f.b (.toInt .i32 (t e.c.f.a)) 6,b e.c.f.c .or (t e.c.c.c) (t e.c.f.b) 7,m e.b e.c.f.c 8,o e.c (.move (k 2)) 9]).seq NC.ret) NC.skip)).seq ((reg [m e.c.f.f e 0,o e.f.a.a (.indexStr (t e.c.f.f) (k 2)) 1,m e.b.c e.f.a.a 2]).seq (((reg [m e.f.a.b e.b.c 0,b e.f.a.c .lss (t e.f.a.b) (kb 128) 1,m e.f.a.f e.f.a.c 2,G e.f.b.a (.move (t e.b.c)) e.f.a.f false 3,G e.f.b.b (.bin .num .lss (kb 191) (t e.f.b.a)) e.f.a.f false 4,o e.f.b.c (.pick (t e.f.a.f) kt (t e.f.b.b)) 5]).seq (NC.cond (t e.f.b.c) ((reg [o e.b (.move (.const (.int .i32 (.lit 65533)))) 0,o e.c (.move (k 1)) 1]).seq NC.ret) NC.skip)).seq (((reg [m e.f.b.f e.a.f 0,b e.f.c.a .leq (t e.f.b.f) (k 3) 1]).seq (NC.cond (t e.f.c.a) ((reg [m e.f.c.b e.a.a 0,b e.f.c.c .and (t e.f.c.b) (kb 15) 1,o e.f.c.f (.toInt .i32 (t e.f.c.c)) 2,b e.f.f.a .shl (t e.f.c.f) (ku 12) 3,m e.f.f.b e.b.b 4,b e.f.f.c .and (t e.f.f.b) (kb 63) 5,o e.f.f.f (.toInt .i32 (t e.f.f.c)) 6,b e.a.a.a.a .shl (t e.f.f.f) (ku 6) 7,b e.a.a.a.b .or (t e.f.f.a) (t e.a.a.a.a) 8,m e.a.a.a.c e.b.c 9,b e.a.a.a.f .and (t e.a.a.a.c) (kb 63) 10,o e.a.a.b.a (.toInt .i32 (t e.a.a.a.f)) 11,b e.a.a.b.b .or (t e.a.a.a.b) (t e.a.a.b.a) 12,m e.b e.a.a.b.b 13,o e.c (.move (k 3)) 14]).seq NC.ret) NC.skip)).seq ((reg [m e.a.a.b.c e 0,o e.a.a.b.f (.indexStr (t e.a.a.b.c) (k 3)) 1,m e.b.f e.a.a.b.f 2]).seq (((reg [m e.a.a.c.a e.b.f 0,b e.a.a.c.b .lss (t e.a.a.c.a) (kb 128) 1,m e.a.a.c.c e.a.a.c.b 2,G e.a.a.c.f (.move (t e.b.f)) e.a.a.c.c false 3,G e.a.a.f.a (.bin .num .lss (kb 191) (t e.a.a.c.f)) e.a.a.c.c false 4,o e.a.a.f.b (.pick (t e.a.a.c.c) kt (t e.a.a.f.a)) 5]).seq (NC.cond (t e.a.a.f.b) ((reg [o e.b (.move (.const (.int .i32 (.lit 65533)))) 0,o e.c (.move (k 1)) 1]).seq NC.ret) NC.skip)).seq ((reg [m e.a.a.f.c e.a.a 0,b e.a.a.f.f .and (t e.a.a.f.c) (kb 7) 1,o e.a.b.a.a (.toInt .i32 (t e.a.a.f.f)) 2,b e.a.b.a.b .shl (t e.a.b.a.a) (ku 18) 3,m e.a.b.a.c e.b.b 4,b e.a.b.a.f .and (t e.a.b.a.c) (kb 63) 5,o e.a.b.b.a (.toInt .i32 (t e.a.b.a.f)) 6,b e.a.b.b.b .shl (t e.a.b.b.a) (ku 12) 7,b e.a.b.b.c .or (t e.a.b.a.b) (t e.a.b.b.b) 8,m e.a.b.b.f e.b.c 9,b e.a.b.c.a .and (t e.a.b.b.f) (kb 63) 10,o e.a.b.c.b (.toInt .i32 (t e.a.b.c.a)) 11,b e.a.b.c.c .shl (t e.a.b.c.b) (ku 6) 12,b e.a.b.c.f .or (t e.a.b.b.c) (t e.a.b.c.c) 13,m e.a.b.f.a e.b.f 14,b e.a.b.f.b .and (t e.a.b.f.a) (kb 63) 15,o e.a.b.f.c (.toInt .i32 (t e.a.b.f.b)) 16,b e.a.b.f.f .or (t e.a.b.c.f) (t e.a.b.f.c) 17,m e.b e.a.b.f.f 18,o e.c (.move (k 4)) 19]).seq NC.ret))))))))))))))))),117, [.tmp e.b,.tmp e.c]⟩
theorem qk:aj Tryd.prog 124=some (.code t7):=by kernel_rfl
noncomputable def t8:NFun:=⟨(reg [o e.f (.move (k 0)) 0]).seq ((reg [m e.a.a e 0,m e.a.b e.a 1,o e.a.c (.call (F 138) [t e.a.a,t e.a.b]) 2,m e.f e.a.c 3]).seq NC.ret),8, [.tmp e.f]⟩
theorem p9:aj Tryd.prog 125=some (.code t8):=by kernel_rfl
noncomputable def tV:NFun:=⟨(reg [o e.b (.move (k 0)) 0]).seq ((reg [m e.c e 0,b e.f .add (t e.c) (k 16) 1,b e.a.a .quo (t e.f) (k 8) 2,m e.b e.a.a 3]).seq NC.ret),6, [.tmp e.b]⟩
theorem qq:aj Tryd.prog 127=some (.code tV):=by kernel_rfl
noncomputable def qY:NC:=(((reg [m e.f.b e.b.a 0,m e.f.c e.a.c 1,b e.f.f .lss (t e.f.b) (t e.f.c) 2]).seq (NC.cond (t e.f.f) NC.skip (NC.exit 0))).seq ((NC.block 1 (reg [m e.a.a.c e.a.f 0,b e.a.a.f .mul (t e.a.a.c) (.const (.int .u32 (.lit 16777619))) 1,m e.a.b.a e 2,m e.a.b.b e.b.a 3,o e.a.b.c (.indexStr (t e.a.b.a) (t e.a.b.b)) 4,o e.a.b.f (.toInt .u32 (t e.a.b.c)) 5,b e.a.c.a .add (t e.a.a.f) (t e.a.b.f) 6,m e.a.f e.a.c.a 7])).seq (reg [m e.a.a.a e.b.a 0,b e.a.a.b .add (t e.a.a.a) (k 1) 1,m e.b.a e.a.a.b 2])))
noncomputable def pQ:NC:=(((reg [m e.b.b.a e.b.b 0,m e.b.b.b e 1,o e.b.b.c (.lenStr (t e.b.b.b)) 2,b e.b.b.f .lss (t e.b.b.a) (t e.b.b.c) 3]).seq (NC.cond (t e.b.b.f) NC.skip (NC.exit 2))).seq (NC.block 3 ((reg [m e.b.c.a e.a.f 0,b e.b.c.b .mul (t e.b.c.a) (.const (.int .u32 (.lit 16777619))) 1,m e.a.f e.b.c.b 2]).seq ((reg [m e.b.c.c e.a.f 0,m e.b.c.f e 1,m e.b.f.a e.b.b 2,o e.b.f.b (.indexStr (t e.b.c.f) (t e.b.f.a)) 3,o e.b.f.c (.toInt .u32 (t e.b.f.b)) 4,b e.b.f.f .add (t e.b.c.c) (t e.b.f.c) 5,m e.a.f e.b.f.f 6]).seq ((reg [m e.c.a.a e.a.f 0,m e.c.a.b e.a.b 1,m e.c.a.c e 2,m e.c.a.f e.b.b 3,m e.c.b.a e.a.c 4,b e.c.b.b .sub (t e.c.a.f) (t e.c.b.a) 5,o e.c.b.c (.indexStr (t e.c.a.c) (t e.c.b.b)) 6,o e.c.b.f (.toInt .u32 (t e.c.b.c)) 7,b e.c.c.a .mul (t e.c.a.b) (t e.c.b.f) 8,b e.c.c.b .sub (t e.c.a.a) (t e.c.c.a) 9,m e.a.f e.c.c.b 10]).seq ((reg [m e.c.c.c e.b.b 0,b e.c.c.f .add (t e.c.c.c) (k 1) 1,m e.b.b e.c.c.f 2]).seq ((reg [m e.c.f.a e.a.f 0,m e.c.f.b e.a.a 1,b e.c.f.c .eql (t e.c.f.a) (t e.c.f.b) 2,m e.c.f.f e.c.f.c 3,G e.f.a.a (.move (t e)) e.c.f.f true 4,G e.f.a.b (.move (t e.b.b)) e.c.f.f true 5,G e.f.a.c (.move (t e.a.c)) e.c.f.f true 6,G e.f.a.f (.bin .num .sub (t e.f.a.b) (t e.f.a.c)) e.c.f.f true 7,G e.f.b.a (.move (t e.b.b)) e.c.f.f true 8,G e.f.b.b (.sliceStr (t e.f.a.a) (some (t e.f.a.f)) (some (t e.f.b.a))) e.c.f.f true 9,G e.f.b.c (.move (t e.a)) e.c.f.f true 10,G e.f.b.f (.bin .num .eql (t e.f.b.b) (t e.f.b.c)) e.c.f.f true 11,o e.f.c.a (.pick (t e.c.f.f) (t e.f.b.f) kf) 12]).seq (NC.cond (t e.f.c.a) ((reg [m e.f.c.b e.b.b 0,m e.f.c.c e.a.c 1,b e.f.c.f .sub (t e.f.c.b) (t e.f.c.c) 2,m e.f e.f.c.f 3]).seq NC.ret) NC.skip))))))))
noncomputable def tR:NFun:=⟨(reg [o e.f (.move (k 0)) 0]).seq ((reg [m e.b.f e.a 0,o e.c.a (.call (F 139) [t e.b.f]) 1,m e.b.c e.c.a 2,x e.c.b e.b.c 0 3,x e.c.c e.b.c 1 4,m e.a.a e.c.b 5,m e.a.b e.c.c 6]).seq ((reg [m e.c.f e.a 0,o e.f.a (.lenStr (t e.c.f)) 1,m e.a.c e.f.a 2]).seq ((reg [o e.a.f (.move (.const (.int .u32 (.lit 0)))) 0]).seq (((reg [o e.b.a (.move (k 0)) 0]).seq (NC.block 0 qY.loop)).seq (((reg [m e.a.c.b e.a.f 0,m e.a.c.c e.a.a 1,b e.a.c.f .eql (t e.a.c.b) (t e.a.c.c) 2,m e.a.f.a e.a.c.f 3,G e.a.f.b (.move (t e)) e.a.f.a true 4,G e.a.f.c (.move (t e.a.c)) e.a.f.a true 5,G e.a.f.f (.sliceStr (t e.a.f.b) none (some (t e.a.f.c))) e.a.f.a true 6,G e.b.a.a (.move (t e.a)) e.a.f.a true 7,G e.b.a.b (.bin .num .eql (t e.a.f.f) (t e.b.a.a)) e.a.f.a true 8,o e.b.a.c (.pick (t e.a.f.a) (t e.b.a.b) kf) 9]).seq (NC.cond (t e.b.a.c) ((reg [o e.f (.move (k 0)) 0]).seq NC.ret) NC.skip)).seq (((reg [m e.b.a.f e.a.c 0,m e.b.b e.b.a.f 1]).seq (NC.block 2 pQ.loop)).seq ((reg [o e.f (.move (k (-1))) 0]).seq NC.ret))))))),81, [.tmp e.f]⟩
theorem ql:aj Tryd.prog 128=some (.code tR):=by kernel_rfl
noncomputable def tZ:NFun:=⟨(reg [o e.b (.move (kb 0)) 0]).seq ((reg [m e.c e 0,b e.f .or (t e.c) (kb 32) 1,m e.b e.f 2]).seq NC.ret),5, [.tmp e.b]⟩
theorem rq:aj Tryd.prog 129=some (.code tZ):=by kernel_rfl
noncomputable def rp:NC:=(((reg [m e.b.f.c e.f 0,m e.b.f.f e 1,o e.c.a.a (.lenStr (t e.b.f.f)) 2,b e.c.a.b .lss (t e.b.f.c) (t e.c.a.a) 3]).seq (NC.cond (t e.c.a.b) NC.skip (NC.exit 0))).seq ((NC.block 1 (((reg [m e.c.b.a e 0,m e.c.b.b e.f 1,o e.c.b.c (.indexStr (t e.c.b.a) (t e.c.b.b)) 2,b e.c.b.f .leq (kb 48) (t e.c.b.c) 3,m e.c.c.a e.c.b.f 4,G e.c.c.b (.move (t e)) e.c.c.a true 5,G e.c.c.c (.move (t e.f)) e.c.c.a true 6,G e.c.c.f (.indexStr (t e.c.c.b) (t e.c.c.c)) e.c.c.a true 7,G e.c.f.a (.bin .num .leq (t e.c.c.f) (kb 57)) e.c.c.a true 8,o e.c.f.b (.pick (t e.c.c.a) (t e.c.f.a) kf) 9,m e.c.f.c e.c.f.b 10,G e.c.f.f (.move (t e.a.a)) e.c.f.c false 11,G e.f.a.a (.move (t e.c.f.f)) e.c.f.c false 12,G e.f.a.b (.move (t e)) e.f.a.a true 13,G e.f.a.c (.move (t e.f)) e.f.a.a true 14,G e.f.a.f (.indexStr (t e.f.a.b) (t e.f.a.c)) e.f.a.a true 15,G e.f.b.a (.call (F 129) [t e.f.a.f]) e.f.a.a true 16,G e.f.b.b (.bin .num .leq (kb 97) (t e.f.b.a)) e.f.a.a true 17,G e.f.b.c (.pick (t e.f.a.a) (t e.f.b.b) kf) e.c.f.c false 18,G e.f.b.f (.move (t e.f.b.c)) e.c.f.c false 19,G e.f.c.a (.move (t e)) e.f.b.f true 20,G e.f.c.b (.move (t e.f)) e.f.b.f true 21,G e.f.c.c (.indexStr (t e.f.c.a) (t e.f.c.b)) e.f.b.f true 22,G e.f.c.f (.call (F 129) [t e.f.c.c]) e.f.b.f true 23,G e.f.f.a (.bin .num .leq (t e.f.c.f) (kb 102)) e.f.b.f true 24,G e.f.f.b (.pick (t e.f.b.f) (t e.f.f.a) kf) e.c.f.c false 25,o e.f.f.c (.pick (t e.c.f.c) kt (t e.f.f.b)) 26]).seq (NC.cond (t e.f.f.c) ((reg [o e.c (.move (.const (.int .i32 (.lit 48)))) 0]).seq (NC.exit 1)) NC.skip)).seq (((reg [m e.f.f.f e 0,m e.a.a.a.a e.f 1,o e.a.a.a.b (.indexStr (t e.f.f.f) (t e.a.a.a.a)) 2,b e.a.a.a.c .eql (t e.a.a.a.b) (kb 95) 3]).seq (NC.cond (t e.a.a.a.c) (((reg [m e.a.a.a.f e.c 0,b e.a.a.b.a .neq (t e.a.a.a.f) (.const (.int .i32 (.lit 48))) 1]).seq (NC.cond (t e.a.a.b.a) ((reg [o e.b (.move kf) 0]).seq NC.ret) NC.skip)).seq ((reg [o e.c (.move (.const (.int .i32 (.lit 95)))) 0]).seq (NC.exit 1))) NC.skip)).seq (((reg [m e.a.a.b.b e.c 0,b e.a.a.b.c .eql (t e.a.a.b.b) (.const (.int .i32 (.lit 95))) 1]).seq (NC.cond (t e.a.a.b.c) ((reg [o e.b (.move kf) 0]).seq NC.ret) NC.skip)).seq (reg [o e.c (.move (.const (.int .i32 (.lit 33)))) 0]))))).seq (reg [m e.c.a.c e.f 0,b e.c.a.f .add (t e.c.a.c) (k 1) 1,m e.f e.c.a.f 2])))
noncomputable def tY:NFun:=⟨(reg [o e.b (.move kf) 0]).seq ((reg [o e.c (.move (.const (.int .i32 (.lit 94)))) 0]).seq ((reg [o e.f (.move (k 0)) 0]).seq (((reg [m e.a.b e 0,o e.a.c (.lenStr (t e.a.b)) 1,b e.a.f .geq (t e.a.c) (k 1) 2,m e.b.a e.a.f 3,G e.b.b (.move (t e)) e.b.a true 4,G e.b.c (.indexStr (t e.b.b) (k 0)) e.b.a true 5,G e.b.f (.bin .num .eql (t e.b.c) (kb 45)) e.b.a true 6,G e.c.a (.move (t e.b.f)) e.b.a true 7,G e.c.b (.move (t e)) e.c.a false 8,G e.c.c (.indexStr (t e.c.b) (k 0)) e.c.a false 9,G e.c.f (.bin .num .eql (t e.c.c) (kb 43)) e.c.a false 10,G e.f.a (.pick (t e.c.a) kt (t e.c.f)) e.b.a true 11,o e.f.b (.pick (t e.b.a) (t e.f.a) kf) 12]).seq (NC.cond (t e.f.b) (reg [m e.f.c e 0,o e.f.f (.sliceStr (t e.f.c) (some (k 1)) none) 1,m e e.f.f 2]) NC.skip)).seq ((reg [o e.a.a (.move kf) 0]).seq (((reg [m e.a.a.a e 0,o e.a.a.b (.lenStr (t e.a.a.a)) 1,b e.a.a.c .geq (t e.a.a.b) (k 2) 2,m e.a.a.f e.a.a.c 3,G e.a.b.a (.move (t e)) e.a.a.f true 4,G e.a.b.b (.indexStr (t e.a.b.a) (k 0)) e.a.a.f true 5,G e.a.b.c (.bin .num .eql (t e.a.b.b) (kb 48)) e.a.a.f true 6,o e.a.b.f (.pick (t e.a.a.f) (t e.a.b.c) kf) 7,m e.a.c.a e.a.b.f 8,G e.a.c.b (.move (t e)) e.a.c.a true 9,G e.a.c.c (.indexStr (t e.a.c.b) (k 1)) e.a.c.a true 10,G e.a.c.f (.call (F 129) [t e.a.c.c]) e.a.c.a true 11,G e.a.f.a (.bin .num .eql (t e.a.c.f) (kb 98)) e.a.c.a true 12,G e.a.f.b (.move (t e.a.f.a)) e.a.c.a true 13,G e.a.f.c (.move (t e)) e.a.f.b false 14,G e.a.f.f (.indexStr (t e.a.f.c) (k 1)) e.a.f.b false 15,G e.b.a.a (.call (F 129) [t e.a.f.f]) e.a.f.b false 16,G e.b.a.b (.bin .num .eql (t e.b.a.a) (kb 111)) e.a.f.b false 17,G e.b.a.c (.pick (t e.a.f.b) kt (t e.b.a.b)) e.a.c.a true 18,G e.b.a.f (.move (t e.b.a.c)) e.a.c.a true 19,G e.b.b.a (.move (t e)) e.b.a.f false 20,G e.b.b.b (.indexStr (t e.b.b.a) (k 1)) e.b.a.f false 21,G e.b.b.c (.call (F 129) [t e.b.b.b]) e.b.a.f false 22,G e.b.b.f (.bin .num .eql (t e.b.b.c) (kb 120)) e.b.a.f false 23,G e.b.c.a (.pick (t e.b.a.f) kt (t e.b.b.f)) e.a.c.a true 24,o e.b.c.b (.pick (t e.a.c.a) (t e.b.c.a) kf) 25]).seq (NC.cond (t e.b.c.b) ((reg [o e.f (.move (k 2)) 0]).seq ((reg [o e.c (.move (.const (.int .i32 (.lit 48)))) 0]).seq (reg [m e.b.c.c e 0,o e.b.c.f (.indexStr (t e.b.c.c) (k 1)) 1,o e.b.f.a (.call (F 129) [t e.b.c.f]) 2,b e.b.f.b .eql (t e.b.f.a) (kb 120) 3,m e.a.a e.b.f.b 4]))) NC.skip)).seq ((NC.block 0 rp.loop).seq ((reg [m e.a.a.b.f e.c 0,b e.a.a.c.a .neq (t e.a.a.b.f) (.const (.int .i32 (.lit 95))) 1,m e.b e.a.a.c.a 2]).seq NC.ret))))))),94, [.tmp e.b]⟩
theorem qi:aj Tryd.prog 130=some (.code tY):=by kernel_rfl
noncomputable def tU:NFun:=⟨(reg [o e.b (.move (k 0)) 0]).seq (((reg [m e.c e 0,b e.f .eql (t e.c) (.const (.int .u32 (.lit 0))) 1]).seq (NC.cond (t e.f) ((reg [o e.b (.move (k 32)) 0]).seq NC.ret) NC.skip)).seq ((reg [m e.a.a e 0,m e.a.b e 1,o e.a.c (.un .neg (t e.a.b)) 2,b e.a.f .and (t e.a.a) (t e.a.c) 3,b e.b.a .mul (t e.a.f) (.const (.int .u32 (.lit 125613361))) 4,b e.b.b .shr (t e.b.a) (ku 27) 5,o e.b.c (.indexArr 1 32 (.const (.ptr e.a.b 0)) (t e.b.b)) 6,l e.b.f e.b.c 7,o e.c.a (.toInt .i64 (t e.b.f)) 8,m e.b e.c.a 9]).seq NC.ret)),14, [.tmp e.b]⟩
theorem qb:aj Tryd.prog 136=some (.code tU):=by kernel_rfl
noncomputable def tX:NFun:=⟨(reg [o e.b (.move (k 0)) 0]).seq (((reg [m e.c e 0,b e.f .eql (t e.c) (ku 0) 1]).seq (NC.cond (t e.f) ((reg [o e.b (.move (k 64)) 0]).seq NC.ret) NC.skip)).seq ((reg [m e.a.a e 0,m e.a.b e 1,o e.a.c (.un .neg (t e.a.b)) 2,b e.a.f .and (t e.a.a) (t e.a.c) 3,b e.b.a .mul (t e.a.f) (ku 285870213051353865) 4,b e.b.b .shr (t e.b.a) (ku 58) 5,o e.b.c (.indexArr 1 64 (.const (.ptr e.a.c 0)) (t e.b.b)) 6,l e.b.f e.b.c 7,o e.c.a (.toInt .i64 (t e.b.f)) 8,m e.b e.c.a 9]).seq NC.ret)),14, [.tmp e.b]⟩
theorem rc:aj Tryd.prog 137=some (.code tX):=by kernel_rfl
noncomputable def qM:NC:=(((reg [m e.b.a e.a.a 0,m e.b.b e 1,o e.b.c (.lenStr (t e.b.b)) 2,b e.b.f .lss (t e.b.a) (t e.b.c) 3]).seq (NC.cond (t e.b.f) NC.skip (NC.exit 0))).seq ((NC.block 1 (reg [m e.c.c e.f 0,b e.c.f .mul (t e.c.c) (.const (.int .u32 (.lit 16777619))) 1,m e.f.a e 2,m e.f.b e.a.a 3,o e.f.c (.indexStr (t e.f.a) (t e.f.b)) 4,o e.f.f (.toInt .u32 (t e.f.c)) 5,b e.a.a.a .add (t e.c.f) (t e.f.f) 6,m e.f e.a.a.a 7])).seq (reg [m e.c.a e.a.a 0,b e.c.b .add (t e.c.a) (k 1) 1,m e.a.a e.c.b 2])))
noncomputable def qw:NC:=(((reg [m e.a.a.f e.a.f 0,b e.a.b.a .gtr (t e.a.a.f) (k 0) 1]).seq (NC.cond (t e.a.b.a) NC.skip (NC.exit 2))).seq ((NC.block 3 (((reg [m e.a.b.f e.a.f 0,b e.a.c.a .and (t e.a.b.f) (k 1) 1,b e.a.c.b .neq (t e.a.c.a) (k 0) 2]).seq (NC.cond (t e.a.c.b) (reg [m e.a.c.c e.a.b 0,m e.a.c.f e.a.c 1,b e.a.f.a .mul (t e.a.c.c) (t e.a.c.f) 2,m e.a.b e.a.f.a 3]) NC.skip)).seq (reg [m e.a.f.b e.a.c 0,m e.a.f.c e.a.c 1,b e.a.f.f .mul (t e.a.f.b) (t e.a.f.c) 2,m e.a.c e.a.f.f 3]))).seq (reg [m e.a.b.b e.a.f 0,b e.a.b.c .shr (t e.a.b.b) (ku 1) 1,m e.a.f e.a.b.c 2])))
noncomputable def ua:NFun:=⟨(reg [o e.b (.move (.const (.int .u32 (.lit 0)))) 0,o e.c (.move (.const (.int .u32 (.lit 0)))) 1]).seq ((reg [o e.f (.move (.const (.int .u32 (.lit 0)))) 0]).seq (((reg [o e.a.a (.move (k 0)) 0]).seq (NC.block 0 qM.loop)).seq ((reg [o e.a.b (.move (.const (.int .u32 (.lit 1)))) 0,o e.a.c (.move (.const (.int .u32 (.lit 16777619)))) 1]).seq (((reg [m e.a.a.b e 0,o e.a.a.c (.lenStr (t e.a.a.b)) 1,m e.a.f e.a.a.c 2]).seq (NC.block 2 qw.loop)).seq ((reg [m e.b.a.a e.f 0,m e.b.a.b e.a.b 1,m e.b e.b.a.a 2,m e.c e.b.a.b 3]).seq NC.ret))))),39, [.tmp e.b,.tmp e.c]⟩
theorem qp:aj Tryd.prog 139=some (.code ua):=by kernel_rfl
end LI
namespace LI
open Go Nm Go.Proofs
open Nm.D4 (e)
open Nm.NC (reg regD)
open Nm.C
noncomputable def code:Nat->Option NFn:=(aq 64 (aq 25 (aq 12 (aq 6 (aq 4 (aq 3 (ap Tryd.prog 3 xG) (ap Tryd.prog 4 xE)) (aq 5 (ap Tryd.prog 5 xF) (ap Tryd.prog 6 xK))) (aq 9 (aq 8 (ap Tryd.prog 8 xI) (ap Tryd.prog 9 xD)) (aq 10 (ap Tryd.prog 10 vU) (aq 11 (ap Tryd.prog 11 vQ) (ap Tryd.prog 12 wR))))) (aq 20 (aq 18 (aq 13 (ap Tryd.prog 13 wN) (ap Tryd.prog 18 vE)) (aq 19 (ap Tryd.prog 19 vG) (ap Tryd.prog 20 wE))) (aq 22 (aq 21 (ap Tryd.prog 21 vw) (ap Tryd.prog 22 vP)) (aq 23 (ap Tryd.prog 23 vD) (aq 24 (ap Tryd.prog 24 vF) (ap Tryd.prog 25 vV)))))) (aq 43 (aq 29 (aq 27 (aq 26 (ap Tryd.prog 26 wU) (ap Tryd.prog 27 we)) (aq 28 (ap Tryd.prog 28 vW) (ap Tryd.prog 29 wt))) (aq 40 (aq 39 (ap Tryd.prog 39 wp) (ap Tryd.prog 40 vH)) (aq 41 (ap Tryd.prog 41 vS) (aq 42 (ap Tryd.prog 42 vJ) (ap Tryd.prog 43 wh))))) (aq 59 (aq 45 (aq 44 (ap Tryd.prog 44 wG) (ap Tryd.prog 45 wu)) (aq 58 (ap Tryd.prog 58 wH) (ap Tryd.prog 59 wi))) (aq 61 (aq 60 (ap Tryd.prog 60 vA) (ap Tryd.prog 61 wQ)) (aq 62 (ap Tryd.prog 62 vL) (aq 63 (ap Tryd.prog 63 vY) (ap Tryd.prog 64 wd))))))) (aq 94 (aq 73 (aq 68 (aq 66 (aq 65 (ap Tryd.prog 65 wl) (ap Tryd.prog 66 wZ)) (aq 67 (ap Tryd.prog 67 wY) (ap Tryd.prog 68 wC))) (aq 70 (aq 69 (ap Tryd.prog 69 wq) (ap Tryd.prog 70 wX)) (aq 71 (ap Tryd.prog 71 wI) (aq 72 (ap Tryd.prog 72 wg) (ap Tryd.prog 73 vz))))) (aq 89 (aq 75 (aq 74 (ap Tryd.prog 74 vT) (ap Tryd.prog 75 wm)) (aq 76 (ap Tryd.prog 76 ww) (ap Tryd.prog 89 v6))) (aq 91 (aq 90 (ap Tryd.prog 90 wF) (ap Tryd.prog 91 vO)) (aq 92 (ap Tryd.prog 92 wx) (aq 93 (ap Tryd.prog 93 wo) (ap Tryd.prog 94 vX)))))) (aq 122 (aq 99 (aq 97 (aq 95 (ap Tryd.prog 95 wz) (ap Tryd.prog 97 vv)) (aq 98 (ap Tryd.prog 98 vC) (ap Tryd.prog 99 wM))) (aq 119 (aq 100 (ap Tryd.prog 100 ue) (ap Tryd.prog 119 ud)) (aq 120 (ap Tryd.prog 120 uf) (aq 121 (ap Tryd.prog 121 ug) (ap Tryd.prog 122 ub))))) (aq 128 (aq 124 (aq 123 (ap Tryd.prog 123 t6) (ap Tryd.prog 124 t7)) (aq 125 (ap Tryd.prog 125 t8) (aq 127 (ap Tryd.prog 127 tV) (ap Tryd.prog 128 tR)))) (aq 130 (aq 129 (ap Tryd.prog 129 tZ) (ap Tryd.prog 130 tY)) (aq 136 (ap Tryd.prog 136 tU) (aq 137 (ap Tryd.prog 137 tX) (ap Tryd.prog 139 ua))))))))
theorem nX:bR Tryd.prog code:=(af (af (af (af (af (af (ae uY) (ae up)) (af (ae uG) (ae uI))) (af (af (ae vg) (ae vb)) (af (ae rW) (af (ae sU) (ae tz))))) (af (af (af (ae tA) (ae tb)) (af (ae sh) (ae tE))) (af (af (ae tD) (ae sF)) (af (ae sR) (af (ae sZ) (ae sG)))))) (af (af (af (af (ae tG) (ae r8)) (af (ae s7) (ae sc))) (af (af (ae sE) (ae sJ)) (af (ae th) (af (ae sj) (ae rV))))) (af (af (af (ae tc) (ae sN)) (af (ae tg) (ae sg))) (af (af (ae rY) (ae sl)) (af (ae sy) (af (ae sa) (ae tH))))))) (af (af (af (af (af (ae s6) (ae rP)) (af (ae se) (ae tp))) (af (af (ae tB) (ae sH)) (af (ae sX) (af (ae rR) (ae rS))))) (af (af (af (ae sB) (ae sM)) (af (ae tk) (ae sq))) (af (af (ae sV) (ae tL)) (af (ae sr) (af (ae sD) (ae tu)))))) (af (af (af (af (ae sK) (ae rU)) (af (ae s5) (ae tC))) (af (af (ae pS) (ae pH)) (af (ae pV) (af (ae pY) (ae p6))))) (af (af (af (ae rD) (ae qk)) (af (ae p9) (af (ae qq) (ae ql)))) (af (af (ae rq) (ae qi)) (af (ae qb) (af (ae rc) (ae qp))))))))
end LI
open Go Nm Go.Proofs Go.RowKit
open Go.Proofs.YtbjinflchdkhiaaDoor
namespace LI
noncomputable def M0 (t u x y:Nat):NH:=((((G0.add (.cells false [])).add (.cells false [])).put (D4.of 0) (.cells false [.ifc t (.ptr (D4.of 8) x)])).put (D4.of 1) (.cells false [.ifc u (.ptr (D4.of 9) y)])).put (D4.of 2) (.cells false gW)
theorem vd:Tryd.prog.globalNamed "internal/strconv.uint64pow10" =some 2:=by kernel_rfl
theorem vK:Tryd.prog.globalNamed "strconv.ErrSyntax" =some 0:=by kernel_rfl
theorem wB:Tryd.prog.globalNamed "strconv.ErrRange" =some 1:=by kernel_rfl
theorem uc:Tryd.prog.globalNamed "math/bits.deBruijn64tab" =some 7:=by kernel_rfl
theorem xi:(Tryd.prog.globals[2]?).map (·.type)=some 184:=by kernel_rfl
theorem xm:(Tryd.prog.globals[0]?).map (·.type)=some 66:=by kernel_rfl
theorem xq:(Tryd.prog.globals[1]?).map (·.type)=some 66:=by kernel_rfl
theorem xo:Tryd.prog.cellsOf 184=20:=by kernel_rfl
theorem xM:Tryd.prog.cellsOf 70=1:=by kernel_rfl
theorem tf:(Rows.laid_internal_strconv_uint64pow10:DataW Unit)=Lib.tabData .u64 Lib.pow10Tab:=by rfl
section
variable [Val]
theorem qc {W:World} {cs:Array Value} {fuel:Nat} {p:List MemPlace} (hv:W.var? Tryd.prog "internal/strconv.uint64pow10" =some cs)
 (hd:DataW.trod (fun _=>()) Tryd.prog W 0 (fun _=>true) false fuel 184 cs.toList=some (Rows.laid_internal_strconv_uint64pow10,p)) {ι:ax} {m:NH} (h:Ro Tryd.prog W ι m):Ro Tryd.prog W ι (m.put (D4.of 2) (.cells false gW)):=by
 rw[tf] at hd
 have hc:=Lib.cells_of_tab Tryd.underlying184 Tryd.underlying70 xM xo hd
 unfold World.var? at hv
 rw[vd] at hv
 simp only[Option.bind_some] at hv
 split at hv
 ·rename_i cur T fz hb
  cases hv
  refine h.lay (g:=2) (by decide) hb (by rw[←Array.length_toList,hc];simp[Lib.pow10Tab_length];rfl) ?_ ?_
  ·rw[hc,jC]
   generalize Lib.pow10Tab=zs
   induction zs with
   |nil=>exact .nil
   |cons z zs ih=>exact .cons _ _ _ _ (.int _ _) ih
  ·rw[hc]
   intro v hv
   obtain ⟨z,_,rfl⟩:=List.mem_map.1 hv
   rfl
 ·cases hv
theorem iG {H:Type} {enc:TypeId×Value->H} {P:Program} {w:World} {base:Nat} {sp:Nat->Bool} {n:Nat} {t:TypeId} {cs:List Value} {ms:Array (String×TypeId)} {name:String} {d:DataW H} {p:List MemPlace} (ht:P.underlying t=some (.interface ms))
 (h:DataW.trod enc P w base sp false n t cs=some (.iface name d,p)):∃u v n' p',cs= [.iface u v]/\P.typeName? 3 u=some name/\DataW.trod enc P w base sp false n' u v.cells.toList=some (d,p'):=by
 cases n with
 |zero=>cases h
 |succ n=>
  match cs,h with
  | [.iface u v],h=>
   simp only[DataW.trod,ht] at h
   split at h
   ·rename_i q;cases q
   ·rename_i hn
    obtain ⟨x,hx,he⟩:=Option.map_eq_some_iff.1 h
    simp only[Prod.mk.injEq,DataW.iface.injEq] at he
    obtain ⟨⟨rfl,rfl⟩,_⟩:=he
    exact ⟨u,v,n,x.2,rfl,hn,hx⟩
   ·cases h
  | [],h=>simp[DataW.trod,ht] at h
  | [.nilIface],h=>simp[DataW.trod,ht] at h
  |a::b::c,h=>simp[DataW.trod,ht] at h
  | [.bool _],h=>simp[DataW.trod,ht] at h
  | [.int _ _],h=>simp[DataW.trod,ht] at h
  | [.float _ _],h=>simp[DataW.trod,ht] at h
  | [.complex _ _ _],h=>simp[DataW.trod,ht] at h
  | [.string _],h=>simp[DataW.trod,ht] at h
  | [.pointer _],h=>simp[DataW.trod,ht] at h
  | [.slice _ _ _],h=>simp[DataW.trod,ht] at h
  | [.map _],h=>simp[DataW.trod,ht] at h
  | [.chan _],h=>simp[DataW.trod,ht] at h
  | [.nilFunc],h=>simp[DataW.trod,ht] at h
  | [.func _ _ _],h=>simp[DataW.trod,ht] at h
  | [.agg _],h=>simp[DataW.trod,ht] at h
  | [.tuple _],h=>simp[DataW.trod,ht] at h
theorem jI {H:Type} {enc:TypeId×Value->H} {P:Program} {w:World} {base:Nat} {sp:Nat->Bool} {n:Nat} {t:TypeId} {cs:List Value} {d:DataW H} {p:List MemPlace}
 (h:DataW.trod enc P w base sp false n t cs=some (.ptr d,p)):∃e a,P.underlying t=some (.pointer e)/\cs= [.pointer (some a)]:=by
 cases n with
 |zero=>cases h
 |succ n=>
  unfold DataW.trod at h
  split at h
  all_goals first
   |(cases h;done)
   |(exact ⟨_,_,‹_›,rfl⟩)
   |(split at h<;>first|(cases h;done)|(obtain ⟨x,_,he⟩:=Option.map_eq_some_iff.1 h;cases he;done)|skip)
   |(obtain ⟨x,_,he⟩:=Option.map_eq_some_iff.1 h;cases he;done)
   |skip
  ·dsimp only at h
   obtain ⟨x,_,he⟩:=Option.bind_eq_some_iff.1 h
   obtain ⟨y,_,he⟩:=Option.map_eq_some_iff.1 he
   cases he
  ·split at h
   ·obtain ⟨x,_,he⟩:=Option.bind_eq_some_iff.1 h
    dsimp only at he
    split at he<;>cases he
   ·cases h
set_option maxRecDepth 100000 in
theorem ly {W:World} {name:String} {g:Nat} (hg:Tryd.prog.globalNamed name=some g) {cs:Array Value} {fuel:Nat} {p:List MemPlace} {d:DataW Unit} (hv:W.var? Tryd.prog name=some cs)
 (hd:DataW.trod (fun _=>()) Tryd.prog W 0 (fun _=>true) false fuel 66 cs.toList=some (.iface "*errors.errorString" (.ptr d),p)) (hok:∀u v,W.cell? ⟨g,0,none⟩=some (.iface u v)->Value.okWide Tryd.prog W .any 0 u v):
 ∃u b o T fz cur T' fz',W.heap[g]? =some (.cells #[.iface u (.pointer (some ⟨b,o,none⟩))] T fz)/\W.heap[b]? =some (.cells cur T' fz'):=by
 unfold World.var? at hv
 rw[hg] at hv
 simp only[Option.bind_some] at hv
 split at hv
 ·rename_i cur T fz hb
  cases hv
  obtain ⟨u,v,n',p',hcs,hn,hx⟩:=iG Tryd.underlying66 hd
  obtain rfl:cs=#[.iface u v]:=by apply Array.ext';simpa using hcs
  have hcell:W.cell? ⟨g,0,none⟩=some (.iface u v):=by unfold World.cell?;rw[hb];rfl
  have hok:=hok _ _ hcell
  obtain ⟨e,a,hu,hva⟩:=jI hx
  have hva:v= .pointer (some a):=by
   cases v with
   |pointer q=>have: [Value.pointer q]= [Value.pointer (some a)]:=hva;simpa using this
   |_=>simp only[Value.okWide,hu,Cell.okWide,Cell.ok] at hok
  subst hva
  simp only[Value.okWide,hu,Cell.okWide,Cell.ok,World.has] at hok
  obtain ⟨_,hsp,row,cells,hsh,_⟩:=hok
  obtain ⟨b,o,sp⟩:=a
  dsimp only at hsp hsh
  subst hsp
  unfold World.shape? at hsh
  split at hsh
  ·rename_i cur T' fz' hb'
   exact ⟨u,b,o,T,fz,cur,T',fz',hb,hb'⟩
  ·cases hsh
 ·cases hv
set_option maxRecDepth 100000 in
theorem uH {W:World} (hL:laidMetH Tryd.prog Rows.listingWrongRow.laid W):∃t u x y ι,Ro Tryd.prog W ι (M0 t u x y):=by
 rw[MakeChecks.laidMetH_plain _ _ _ (by kernel_rfl)] at hL
 obtain ⟨ps,⟨g0,t0,cs0,f0,p0,q0,_,_,_,_,⟨g1,t1,cs1,f1,p1,q1,hg1,_,hv1,_,⟨g2,t2,cs2,f2,p2,q2,hg2,ht2,hv2,hd2,⟨g3,t3,cs3,f3,p3,q3,_,_,_,_,⟨g4,t4,cs4,f4,p4,q4,hg4,ht4,hv4,hd4,⟨g5,t5,cs5,f5,p5,q5,hg5,ht5,hv5,hd5,_,e5⟩,e4⟩,e3⟩,e2⟩,e1⟩,e0⟩,hnd,hps⟩:=hL
 obtain rfl:=Option.some.inj (vd.symm.trans hg2)
 obtain rfl:=Option.some.inj (wB.symm.trans hg4)
 obtain rfl:=Option.some.inj (vK.symm.trans hg5)
 obtain rfl:=Option.some.inj (xi.symm.trans ht2)
 obtain rfl:=Option.some.inj (xq.symm.trans ht4)
 obtain rfl:=Option.some.inj (xm.symm.trans ht5)
 have mem:∀{g n:Nat},0<n->MemPlace.cell g 0∈MemPlace.row ⟨g,0,none⟩ n:=fun h=>List.mem_map.2 ⟨0,List.mem_range.2 h,rfl⟩
 have sz:∀{cs:Array Value} {f:Nat} {x:DataW Unit×List MemPlace},DataW.trod (fun _=>()) Tryd.prog W 0 (fun _=>true) false f 66 cs.toList=some x->0<cs.size:=fun {cs f x} h=>by
  cases f with
  |zero=>cases h
  |succ f=>
   simp only[DataW.trod,Tryd.underlying66] at h
   rcases Nat.eq_zero_or_pos cs.size with hz|hz
   ·have:cs.toList= []:=by simpa using hz
    rw[this] at h
    simp at h
   ·exact hz
 have m4:MemPlace.cell 1 0∈ps:=by
  rw[e0,e1,e2,e3,e4]
  exact List.mem_append_right _ (List.mem_append_right _ (List.mem_append_right _ (List.mem_append_right _ (List.mem_append_left _ (List.mem_append_left _ (mem (sz hd4)))))))
 have m5:MemPlace.cell 0 0∈ps:=by
  rw[e0,e1,e2,e3,e4,e5]
  exact List.mem_append_right _ (List.mem_append_right _ (List.mem_append_right _ (List.mem_append_right _ (List.mem_append_right _ (List.mem_append_left _ (List.mem_append_left _ (mem (sz hd5))))))))
 obtain ⟨u4,b4,o4,T4,z4,c4,T4',z4',w4,w4'⟩:=ly wB hv4 hd4 (hps 1 0 m4).2
 obtain ⟨u5,b5,o5,T5,z5,c5,T5',z5',w5,w5'⟩:=ly vK hv5 hd5 (hps 0 0 m5).2
 have hn:NG<=W.heap.size:=by
  unfold World.var? at hv1
  obtain rfl:=Option.some.inj (uc.symm.trans hg1)
  rw[uc] at hv1
  simp only[Option.bind_some] at hv1
  split at hv1
  ·rename_i hb;exact (Array.getElem?_eq_some_iff.1 hb).1
  ·cases hv1
 obtain ⟨ι1,R1,l1,_,i1,_,_⟩:=(Ro.nil Tryd.prog W hn).addE (c:= []) w5' (o:=0) (by simp) (fun i v h=>by simp at h)
 obtain ⟨ι2,R2,l2,_,i2,_,_⟩:=R1.addE (c:= []) w4' (o:=0) (by simp) (fun i v h=>by simp at h)
 have e1:G0.next=D4.of 8:=rfl
 have e2:(G0.add (.cells false [])).next=D4.of 9:=by kernel_rfl
 rw[e1] at i1
 rw[e2] at i2
 have p5:VR ι2 (.ptr (D4.of 8) o5) (.pointer (some ⟨b5,o5,none⟩)):=by have:=VR.ptr (D4.of 8) o5 _ (l2 _ _ i1);simpa using this
 have p4:VR ι2 (.ptr (D4.of 9) o4) (.pointer (some ⟨b4,o4,none⟩)):=by have:=VR.ptr (D4.of 9) o4 _ i2;simpa using this
 have R3:=R2.lay (g:=0) (c:= [.ifc u5 (.ptr (D4.of 8) o5)]) (by decide) w5 rfl (.cons _ _ _ _ (.ifc _ _ _ p5) .nil) (by simp[Value.oneCell'])
 have R4:=R3.lay (g:=1) (c:= [.ifc u4 (.ptr (D4.of 9) o4)]) (by decide) w4 rfl (.cons _ _ _ _ (.ifc _ _ _ p4) .nil) (by simp[Value.oneCell'])
 exact ⟨u5,u4,o5,o4,_,qc hv2 hd2 R4⟩
end
end LI
/-
  DERIVED: THE SHELF's CONTRACTS AT THIS DUMP, IN PLAIN WORDS (tools/lay-plain.mjs out of 'TrydShq.lean', which tools/lay-shelf.mjs wrote): THE SAME DECLARATIONS UNDER THE SAME NAMES: 'import', 'namespace', 'open', 'def', 'theorem' AND NOTHING ELSE: no command of the shelf's: FOR A HAND-IN. Each laying: the table of numbers ('.._ren') and one theorem, a field a fact of the dump's own or the kernel's comparison; each contract: ONE APPLICATION.
-/
namespace Go.Proofs
open Go.Shelf
def Tryd.laysM171_ren : Go.Shelf.Ren := ⟨fun | 171 => 20 | 243 => 41 | 246 => 68 | 283 => 90 | 284 => 91 | 285 => 92 | 286 => 93 | 129 => 120 | 317 => 119 | 318 => 121 | 319 => 122 | 320 => 123 | 337 => 136 | 338 => 137 | n => n, fun | 3 => 3 | 9 => 9 | 2 => 2 | 4 => 4 | 171 => 152 | 0 => 0 | 53 => 70 | 37 => 43 | 5 => 5 | 173 => 155 | 212 => 184 | 51 => 54 | 20 => 20 | 213 => 185 | 46 => 106 | 232 => 204 | 233 => 205 | n => n, fun | 17 => 2 | 18 => 6 | 19 => 7 | n => n⟩
theorem Tryd.laysM171 : Go.Proofs.LaysM.n171 Tryd.prog Tryd.laysM171_ren := {
  mixed := by kernel_rfl
  f129 := Tryd.func120.trans (congrArg some (by kernel_rfl))
  f171 := Tryd.func20.trans (congrArg some (by kernel_rfl))
  f243 := Tryd.func41.trans (congrArg some (by kernel_rfl))
  f246 := Tryd.func68.trans (congrArg some (by kernel_rfl))
  f283 := Tryd.func90.trans (congrArg some (by kernel_rfl))
  f284 := Tryd.func91.trans (congrArg some (by kernel_rfl))
  f285 := Tryd.func92.trans (congrArg some (by kernel_rfl))
  f286 := Tryd.func93.trans (congrArg some (by kernel_rfl))
  f317 := Tryd.func119.trans (congrArg some (by kernel_rfl))
  f318 := Tryd.func121.trans (congrArg some (by kernel_rfl))
  f319 := Tryd.func122.trans (congrArg some (by kernel_rfl))
  f320 := Tryd.func123.trans (congrArg some (by kernel_rfl))
  f337 := Tryd.func136.trans (congrArg some (by kernel_rfl))
  f338 := Tryd.func137.trans (congrArg some (by kernel_rfl))
  t0 := Tryd.underlying0
  a0 := Tryd.isAgg0
  z0 := Tryd.sizeOf0
  v0 := Tryd.zeroValue0
  t2 := Tryd.underlying2
  a2 := Tryd.isAgg2
  z2 := Tryd.sizeOf2
  v2 := Tryd.zeroValue2
  t3 := Tryd.underlying3
  a3 := Tryd.isAgg3
  z3 := Tryd.sizeOf3
  v3 := Tryd.zeroValue3
  t4 := Tryd.underlying4
  a4 := Tryd.isAgg4
  z4 := Tryd.sizeOf4
  v4 := Tryd.zeroValue4
  t5 := Tryd.underlying5
  a5 := Tryd.isAgg5
  z5 := Tryd.sizeOf5
  v5 := Tryd.zeroValue5
  t9 := Tryd.underlying9
  a9 := Tryd.isAgg9
  z9 := Tryd.sizeOf9
  v9 := Tryd.zeroValue9
  t20 := Tryd.underlying20
  a20 := Tryd.isAgg20
  z20 := Tryd.sizeOf20
  v20 := Tryd.zeroValue20
  t37 := Tryd.underlying43
  a37 := Tryd.isAgg43
  z37 := Tryd.sizeOf43
  v37 := Tryd.zeroValue43
  t46 := Tryd.underlying106
  a46 := Tryd.isAgg106
  z46 := Tryd.sizeOf106
  v46 := Tryd.zeroValue106
  t51 := Tryd.underlying54
  a51 := Tryd.isAgg54
  z51 := Tryd.sizeOf54
  v51 := Tryd.zeroValue54
  t53 := Tryd.underlying70
  a53 := Tryd.isAgg70
  z53 := Tryd.sizeOf70
  v53 := Tryd.zeroValue70
  t171 := Tryd.underlying152
  a171 := Tryd.isAgg152
  z171 := Tryd.sizeOf152
  v171 := Tryd.zeroValue152
  t173 := Tryd.underlying155
  a173 := Tryd.isAgg155
  z173 := Tryd.sizeOf155
  v173 := Tryd.zeroValue155
  t212 := Tryd.underlying184
  a212 := Tryd.isAgg184
  z212 := Tryd.sizeOf184
  v212 := Tryd.zeroValue184
  t213 := Tryd.underlying185
  a213 := Tryd.isAgg185
  z213 := Tryd.sizeOf185
  t232 := Tryd.underlying204
  a232 := Tryd.isAgg204
  z232 := Tryd.sizeOf204
  v232 := Tryd.zeroValue204
  t233 := Tryd.underlying205
  a233 := Tryd.isAgg205
  z233 := Tryd.sizeOf205
  v233 := Tryd.zeroValue205
  g17 := by kernel_rfl
  g18 := by kernel_rfl
  g19 := by kernel_rfl
  i0 := by kernel_rfl
  i2 := by kernel_rfl
  i3 := by kernel_rfl
  i4 := by kernel_rfl
  i5 := by kernel_rfl
  i9 := by kernel_rfl
  i20 := by kernel_rfl
  i37 := by kernel_rfl
  i46 := by kernel_rfl
  i51 := by kernel_rfl
  i53 := by kernel_rfl
  i171 := by kernel_rfl
  i173 := by kernel_rfl
  i212 := by kernel_rfl
  i232 := by kernel_rfl
  i233 := by kernel_rfl
  m17 := by kernel_rfl
  m18 := by kernel_rfl
  m19 := by kernel_rfl }
def Tryd.laysM279_ren : Go.Shelf.Ren := ⟨fun | 279 => 73 | 316 => 99 | n => n, fun | 9 => 9 | 168 => 135 | 75 => 66 | 210 => 165 | 3 => 3 | 4 => 4 | 37 => 43 | 0 => 0 | 127 => 126 | 80 => 99 | 5 => 5 | n => n, fun | 15 => 0 | n => n⟩
theorem Tryd.laysM279 : Go.Proofs.LaysM.n279 Tryd.prog Tryd.laysM279_ren := {
  mixed := by kernel_rfl
  f279 := Tryd.func73.trans (congrArg some (by kernel_rfl))
  f316 := Tryd.func99.trans (congrArg some (by kernel_rfl))
  t0 := Tryd.underlying0
  a0 := Tryd.isAgg0
  z0 := Tryd.sizeOf0
  v0 := Tryd.zeroValue0
  t3 := Tryd.underlying3
  a3 := Tryd.isAgg3
  z3 := Tryd.sizeOf3
  v3 := Tryd.zeroValue3
  t4 := Tryd.underlying4
  a4 := Tryd.isAgg4
  z4 := Tryd.sizeOf4
  v4 := Tryd.zeroValue4
  t9 := Tryd.underlying9
  a9 := Tryd.isAgg9
  z9 := Tryd.sizeOf9
  v9 := Tryd.zeroValue9
  t37 := Tryd.underlying43
  a37 := Tryd.isAgg43
  z37 := Tryd.sizeOf43
  v37 := Tryd.zeroValue43
  t75 := Tryd.underlying66
  a75 := Tryd.isAgg66
  z75 := Tryd.sizeOf66
  v75 := Tryd.zeroValue66
  t127 := Tryd.underlying126
  a127 := Tryd.isAgg126
  z127 := Tryd.sizeOf126
  v127 := Tryd.zeroValue126
  t168 := Tryd.underlying135
  a168 := Tryd.isAgg135
  z168 := Tryd.sizeOf135
  v168 := Tryd.zeroValue135
  t210 := Tryd.underlying165
  a210 := Tryd.isAgg165
  z210 := Tryd.sizeOf165
  v210 := Tryd.zeroValue165
  g15 := by kernel_rfl
  t5 := Tryd.underlying5
  a5 := Tryd.isAgg5
  z5 := Tryd.sizeOf5
  v5 := Tryd.zeroValue5
  t80 := Tryd.underlying99
  a80 := Tryd.isAgg99
  z80 := Tryd.sizeOf99
  v80 := Tryd.zeroValue99
  i0 := by kernel_rfl
  i3 := by kernel_rfl
  i4 := by kernel_rfl
  i5 := by kernel_rfl
  i9 := by kernel_rfl
  i37 := by kernel_rfl
  i75 := by kernel_rfl
  i80 := by kernel_rfl
  i127 := by kernel_rfl
  i168 := by kernel_rfl
  i210 := by kernel_rfl
  m15 := by kernel_rfl }
def Tryd.laysM280_ren : Go.Shelf.Ren := ⟨fun | 280 => 74 | 316 => 99 | n => n, fun | 9 => 9 | 168 => 135 | 75 => 66 | 210 => 165 | 3 => 3 | 4 => 4 | 37 => 43 | 0 => 0 | 127 => 126 | 80 => 99 | 5 => 5 | n => n, fun | 16 => 1 | n => n⟩
theorem Tryd.laysM280 : Go.Proofs.LaysM.n280 Tryd.prog Tryd.laysM280_ren := {
  mixed := by kernel_rfl
  f280 := Tryd.func74.trans (congrArg some (by kernel_rfl))
  f316 := Tryd.func99.trans (congrArg some (by kernel_rfl))
  t0 := Tryd.underlying0
  a0 := Tryd.isAgg0
  z0 := Tryd.sizeOf0
  v0 := Tryd.zeroValue0
  t3 := Tryd.underlying3
  a3 := Tryd.isAgg3
  z3 := Tryd.sizeOf3
  v3 := Tryd.zeroValue3
  t4 := Tryd.underlying4
  a4 := Tryd.isAgg4
  z4 := Tryd.sizeOf4
  v4 := Tryd.zeroValue4
  t9 := Tryd.underlying9
  a9 := Tryd.isAgg9
  z9 := Tryd.sizeOf9
  v9 := Tryd.zeroValue9
  t37 := Tryd.underlying43
  a37 := Tryd.isAgg43
  z37 := Tryd.sizeOf43
  v37 := Tryd.zeroValue43
  t75 := Tryd.underlying66
  a75 := Tryd.isAgg66
  z75 := Tryd.sizeOf66
  v75 := Tryd.zeroValue66
  t127 := Tryd.underlying126
  a127 := Tryd.isAgg126
  z127 := Tryd.sizeOf126
  v127 := Tryd.zeroValue126
  t168 := Tryd.underlying135
  a168 := Tryd.isAgg135
  z168 := Tryd.sizeOf135
  v168 := Tryd.zeroValue135
  t210 := Tryd.underlying165
  a210 := Tryd.isAgg165
  z210 := Tryd.sizeOf165
  v210 := Tryd.zeroValue165
  g16 := by kernel_rfl
  t5 := Tryd.underlying5
  a5 := Tryd.isAgg5
  z5 := Tryd.sizeOf5
  v5 := Tryd.zeroValue5
  t80 := Tryd.underlying99
  a80 := Tryd.isAgg99
  z80 := Tryd.sizeOf99
  v80 := Tryd.zeroValue99
  i0 := by kernel_rfl
  i3 := by kernel_rfl
  i4 := by kernel_rfl
  i5 := by kernel_rfl
  i9 := by kernel_rfl
  i37 := by kernel_rfl
  i75 := by kernel_rfl
  i80 := by kernel_rfl
  i127 := by kernel_rfl
  i168 := by kernel_rfl
  i210 := by kernel_rfl
  m16 := by kernel_rfl }
end Go.Proofs
open Go Nm Go.Proofs Go.RowKit
open Go.Proofs.YtbjinflchdkhiaaDoor
namespace LI
theorem mixed:Tryd.prog.follows .mixedOrders=true:=by kernel_rfl
noncomputable def S1:bn:=pN 20 (nO 2) (pN 73 (oI 0) (pN 74 (oI 1) xJ))
theorem kept:lC code S1 2000 8 [] (.bool true)=true:=by kernel_rfl
noncomputable def S0:bn:=w6 8 [] (.bool true) S1
section
variable [Val]
theorem xO:dw Tryd.prog S1:=kd (kd (kd qd (vk Tryd.laysM280 (by kernel_rfl) (by kernel_rfl) (by decide) rfl)) (uO Tryd.laysM279 (by kernel_rfl) (by kernel_rfl) (by decide) rfl)) (sw Tryd.laysM171 (by kernel_rfl) (by decide) rfl vd)
theorem wk:dw Tryd.prog S0:=r7 mixed Tryd.codeOk xO (nX.kept kept)
end
theorem wy (t u x y:Nat):aF (aB (M0 t u x y) code S0 2000 5 [.int .i64 (.lit 0)])=true:=by kernel_rfl
theorem wT (t u x y:Nat):aF (aB (M0 t u x y) code S0 2000 5 [.int .i64 (.lit 1)])=true:=by kernel_rfl
theorem vM (t u x y:Nat):aF (aB (M0 t u x y) code S0 2000 5 [.int .i64 (.lit 2)])=true:=by kernel_rfl
theorem vI (t u x y:Nat):aF (aB (M0 t u x y) code S0 2000 5 [.int .i64 (.lit 3)])=true:=by kernel_rfl
theorem wv (t u x y:Nat):aF (aB (M0 t u x y) code S0 2000 5 [.int .i64 (.lit 4)])=true:=by kernel_rfl
theorem wW (t u x y:Nat):aF (aB (M0 t u x y) code S0 2000 5 [.int .i64 (.lit 5)])=true:=by kernel_rfl
theorem vB (t u x y:Nat):aF (aB (M0 t u x y) code S0 2000 5 [.int .i64 (.lit 6)])=true:=by kernel_rfl
theorem v8 (t u x y:Nat):aF (aB (M0 t u x y) code S0 2000 5 [.int .i64 (.lit 7)])=true:=by kernel_rfl
theorem vZ (t u x y:Nat):aF (aB (M0 t u x y) code S0 2000 5 [.int .i64 (.lit 8)])=true:=by kernel_rfl
theorem wK (t u x y:Nat):aF (aB (M0 t u x y) code S0 2000 5 [.int .i64 (.lit 9)])=true:=by kernel_rfl
theorem ul (t u x y:Nat):aF (aB (M0 t u x y) code S0 2000 5 [.int .i64 (.lit 10)])=true:=by kernel_rfl
theorem uw (t u x y:Nat):aF (aB (M0 t u x y) code S0 2000 5 [.int .i64 (.lit 11)])=true:=by kernel_rfl
theorem ur (t u x y:Nat):aF (aB (M0 t u x y) code S0 2000 5 [.int .i64 (.lit 12)])=true:=by kernel_rfl
theorem va (t u x y:Nat):aF (aB (M0 t u x y) code S0 2000 5 [.int .i64 (.lit 13)])=true:=by kernel_rfl
theorem uC (t u x y:Nat):aF (aB (M0 t u x y) code S0 2000 5 [.int .i64 (.lit 14)])=true:=by kernel_rfl
theorem uj (t u x y:Nat):aF (aB (M0 t u x y) code S0 2000 5 [.int .i64 (.lit 15)])=true:=by kernel_rfl
theorem u0 (t u x y:Nat):aF (aB (M0 t u x y) code S0 2000 5 [.int .i64 (.lit 16)])=true:=by kernel_rfl
theorem vo (t u x y:Nat):aF (aB (M0 t u x y) code S0 2000 5 [.int .i64 (.lit 17)])=true:=by kernel_rfl
theorem uP (t u x y:Nat):aF (aB (M0 t u x y) code S0 2000 5 [.int .i64 (.lit 18)])=true:=by kernel_rfl
theorem uy (t u x y:Nat):aF (aB (M0 t u x y) code S0 2000 5 [.int .i64 (.lit 19)])=true:=by kernel_rfl
theorem vj (t u x y:Nat):aF (aB (M0 t u x y) code S0 2000 5 [.int .i64 (.lit 20)])=true:=by kernel_rfl
theorem uz (t u x y:Nat):aF (aB (M0 t u x y) code S0 2000 5 [.int .i64 (.lit 21)])=true:=by kernel_rfl
theorem uK (t u x y:Nat):aF (aB (M0 t u x y) code S0 2000 5 [.int .i64 (.lit 22)])=true:=by kernel_rfl
theorem u3 (t u x y:Nat):aF (aB (M0 t u x y) code S0 2000 5 [.int .i64 (.lit 23)])=true:=by kernel_rfl
theorem uo (t u x y:Nat):aF (aB (M0 t u x y) code S0 2000 5 [.int .i64 (.lit 24)])=true:=by kernel_rfl
theorem ve (t u x y:Nat):aF (aB (M0 t u x y) code S0 2000 5 [.int .i64 (.lit 25)])=true:=by kernel_rfl
theorem uq (t u x y:Nat):aF (aB (M0 t u x y) code S0 2000 5 [.int .i64 (.le (-1))])=true:=by kernel_rfl
theorem uM (t u x y:Nat):aF (aB (M0 t u x y) code S0 2000 5 [.int .i64 (.ge 26)])=true:=by kernel_rfl
section
variable [Val]
theorem xz (n:Int):∃x:SI,(∀ι,VR ι (.int .i64 x) (.int .i64 n))/\∀t u a b,aF (aB (M0 t u a b) code S0 2000 5 [.int .i64 x])=true:=by
 by_cases h1:n<=-1
 ·exact ⟨_,fun _=> .ile _ _ _ h1,uq⟩
 by_cases h2:26<=n
 ·exact ⟨_,fun _=> .ige _ _ _ h2,uM⟩
 have h:n=0∨n=1∨n=2∨n=3∨n=4∨n=5∨n=6∨n=7∨n=8∨n=9∨n=10∨n=11∨n=12∨n=13∨n=14∨n=15∨n=16∨n=17∨n=18∨n=19∨n=20∨n=21∨n=22∨n=23∨n=24∨n=25:=by omega
 rcases h with rfl|rfl|rfl|rfl|rfl|rfl|rfl|rfl|rfl|rfl|rfl|rfl|rfl|rfl|rfl|rfl|rfl|rfl|rfl|rfl|rfl|rfl|rfl|rfl|rfl|rfl
 ·exact ⟨_,fun _=> .int _ _,wy⟩
 ·exact ⟨_,fun _=> .int _ _,wT⟩
 ·exact ⟨_,fun _=> .int _ _,vM⟩
 ·exact ⟨_,fun _=> .int _ _,vI⟩
 ·exact ⟨_,fun _=> .int _ _,wv⟩
 ·exact ⟨_,fun _=> .int _ _,wW⟩
 ·exact ⟨_,fun _=> .int _ _,vB⟩
 ·exact ⟨_,fun _=> .int _ _,v8⟩
 ·exact ⟨_,fun _=> .int _ _,vZ⟩
 ·exact ⟨_,fun _=> .int _ _,wK⟩
 ·exact ⟨_,fun _=> .int _ _,ul⟩
 ·exact ⟨_,fun _=> .int _ _,uw⟩
 ·exact ⟨_,fun _=> .int _ _,ur⟩
 ·exact ⟨_,fun _=> .int _ _,va⟩
 ·exact ⟨_,fun _=> .int _ _,uC⟩
 ·exact ⟨_,fun _=> .int _ _,uj⟩
 ·exact ⟨_,fun _=> .int _ _,u0⟩
 ·exact ⟨_,fun _=> .int _ _,vo⟩
 ·exact ⟨_,fun _=> .int _ _,uP⟩
 ·exact ⟨_,fun _=> .int _ _,uy⟩
 ·exact ⟨_,fun _=> .int _ _,vj⟩
 ·exact ⟨_,fun _=> .int _ _,uz⟩
 ·exact ⟨_,fun _=> .int _ _,uK⟩
 ·exact ⟨_,fun _=> .int _ _,u3⟩
 ·exact ⟨_,fun _=> .int _ _,uo⟩
 ·exact ⟨_,fun _=> .int _ _,ve⟩
set_option maxRecDepth 100000 in
open Go.ChangeShapes Go.WideShapes Go.ChangeAt in
theorem listingWrong {W:World} (hL:laidMetH Tryd.prog Rows.listingWrongRow.laid W) (_:W.ShapedOpen Tryd.prog) {H:Type} {enc:TypeId×Value->H} {args:List Value} {ds:List (DataW H)} {ps:List MemPlace}
 (h:DataW.TrodAll enc Tryd.prog W 0 (fun _=>true) true [3] args ds ps) {base:Nat} (hval:∀(j:Nat) t v, [3][j]? =some t->args[j]? =some v->Value.okWide Tryd.prog W .any base t v):
 Calls Tryd.prog 5 args.toArray W fun e W'=>e= .returned (.bool true)/\Below W.heap.size W W':=by
 obtain ⟨t,u,a,b,ι,hR⟩:=uH hL
 obtain ⟨v0,vs0,d0,ds0,p0,q0,rfl,rfl,rfl,h0,r0⟩:=trodAll_cons h
 obtain ⟨rfl,rfl,rfl⟩:=trodAll_nil r0
 obtain ⟨n,rfl,_⟩:=open_int Tryd.underlying3 (hval 0 3 v0 rfl rfl) h0
 obtain ⟨x,hx,hr⟩:=xz n
 have hr':=nX.runM (hr t u a b)
 exact oa (args':= [.int .i64 n]) mixed Tryd.codeOk wk hr' hR.1 hR.2 (.cons _ _ _ _ (hx ι) .nil)
end
end LI
