/- A machine that runs the given program with memory and order of evaluation taken apart, and what it shows of the law ShowPrograms: part 3. -/
import Derived.WideKeyArgs
import Derived.Carry
import Derived.ChangeArms
import Derived.HandedShaped
import Derived.Shelf.Strconv.Itoa3
import Derived.Shelf.Strconv.RangeError
import Derived.Shelf.Strconv.SyntaxError
import Derived.Shelf.Strings.Builder1
import Derived.Shelf.Strings.Repeat
import Derived.Test.YtjmhciggnonhfaaGreatDoorProg
import Derived.Lib.ItoaMem
import Derived.WalkKit
import Derived.KernelRfl
import Derived.Test.YtjmhciggnonhfaaGreatDoorSpB
set_option linter.unusedSimpArgs false
set_option linter.unusedVariables false
set_option linter.unusedSectionVars false
set_option linter.defProp false
namespace Nm
open Go Go.RowKit
section
variable {P:Program} {S:cR} {r:Option D4}
theorem fw.callp {x:NOper} {l:List NOper} {t:Tm} {dfs:List Dfr} {ctx:Option NV} {m m':NH} {f:Nat} {args:List NV} {v:NV} {c:Option NV} (hg:az t x.guard=some true) (hop:af x.op t m= .call f args)
 (hc:Call P S f args m (.pan v c m')):fw P S r (x::l) ⟨t,dfs,ctx,m⟩ (.pan v) ⟨t,dfs,ctx,m'⟩:=by
 obtain ⟨hne,k,hk⟩:=hc
 refine ⟨k, ?_⟩
 rw[bU,hg,hop]
 show vW x.dst (dz P S (ev P S k) r l) t dfs ctx (vO dfs ctx (bZ P S (ev P S k) f args m))=_
 rw[hk];rfl
theorem dL.regDp {l:List NOper} {d d1:Dyn} {v:NV} (h:bL P S r l [] [] d (.pan v) d1):dL P S r (.regD l) d (.pan v) ⟨lw l d1.t,d1.dfs,d1.ctx,d1.h⟩:=by
 obtain ⟨n,hn⟩:=h
 refine ⟨n+1, ?_⟩
 show (match cd P S (ev P S n) r l [] [] d with| .mk (.pan v) d=>Res.mk (.pan v) ⟨lw l d.t,d.dfs,d.ctx,d.h⟩|r=>r)=_
 rw[hn]
theorem bL.callp {x:NOper} {l:List NOper} {rs:List (Nat×(NH->NR)×NV)} {t:Tm} {dfs:List Dfr} {ctx:Option NV} {m m':NH} {f:Nat} {args:List NV} {v:NV} {c:Option NV} (hg:az t x.guard=some true) (hc:ax x.op= .eff) (hop:af x.op t m= .call f args)
 (hb:bQ x.idx l=true) (hcall:Call P S f args m (.pan v c m')):bL P S r (x::l) [] rs ⟨t,dfs,ctx,m⟩ (.pan v) ⟨t,dfs,ctx,m'⟩:=by
 obtain ⟨hne,k,hk⟩:=hcall
 refine ⟨k, ?_⟩
 rw[cm,hg];dsimp only;rw[hc];dsimp only;rw[hop]
 rw[show ahead x.pre []=true from rfl]
 show dQ (bQ x.idx l) (vW x.dst (fun d=>cond (stays x.pre d.h rs) (cd P S (ev P S k) r l ((x.idx,m):: []) rs d) .fail) t dfs ctx (vO dfs ctx (bZ P S (ev P S k) f args m)))=_
 rw[hk,hb];rfl
theorem fw.pan {x:NOper} {l:List NOper} {t:Tm} {dfs:List Dfr} {ctx:Option NV} {m:NH} {v:NV} (hg:az t x.guard=some true) (hop:af x.op t m= .pan v):fw P S r (x::l) ⟨t,dfs,ctx,m⟩ (.pan v) ⟨t,dfs,ctx,m⟩:=by
 refine ⟨0, ?_⟩
 rw[bU,hg,hop];rfl
end
structure PE where
 p:Program
 E:NV->NH->Prop
instance:Coe Program PE:=⟨fun P=>⟨P,fun _ _=>False⟩⟩
def WF (P:PE) (S:cR) (f:Nat) (args:List NV) (m:NH) (K:NV->NH->Prop):Prop:=(∃v c m',Call P.p S f args m (.val v c m')/\K v m')∨∃v c m',Call P.p S f args m (.pan v c m')/\P.E v m'
def qE (P:PE) (Q:Out->Dyn->Prop) (o:Out) (d:Dyn):Prop:=match o with| .pan v=>d.dfs= []/\P.E v d.h|o=>Q o d
def qN (P:PE) (K:Dyn->Prop) (o:Out) (d:Dyn):Prop:=match o with| .norm=>K d| .pan v=>d.dfs= []/\P.E v d.h|_=>False
def dR (K:Dyn->Prop) (Q:Out->Dyn->Prop) (o:Out) (d:Dyn):Prop:=match o with| .norm=>K d|o=>Q o d
def oB (i:Nat) (Q:Out->Dyn->Prop) (o:Out) (d:Dyn):Prop:=match o with| .exit j=>Q (if j=i then .norm else .exit j) d|o=>Q o d
def wB (o:Option NV) (A B:Prop):Prop:=match o with|some (.bool q)=>(q=true->A)/\(q=false->B)|_=>False
section
variable (P:PE) (S:cR) (r:Option D4)
def W (c:NC) (d:Dyn) (Q:Out->Dyn->Prop):Prop:=∃o d',dL P.p S r c d o d'/\qE P Q o d'
def wN (dst:Option D4) (t:Tm) (dfs:List Dfr) (ctx:Option NV) (m:NH) (x:NR) (K:Dyn->Prop):Prop:=match x with
 | .val v=>K ⟨aQ dst v t,dfs,ctx,m⟩
 | .mem v m'=>K ⟨aQ dst v t,dfs,ctx,m'⟩
 | .call f args=>(match dfs with| []=>WF P S f args m fun v m'=>K ⟨aQ dst v t, [],ctx,m'⟩|x::l=>WF P.p S f args m fun v m'=>K ⟨aQ dst v t,x::l,ctx,m'⟩)
 | .yld q args=>∃v c m',wI P.p S q args m (.val v c m')/\K ⟨aQ dst v t,dfs,ctx,m'⟩
 | .pan v=>(match dfs with| []=>P.E v m|_=>False)
 |_=>False
def O9 (dst:Option D4) (t:Tm) (dfs:List Dfr) (ctx:Option NV) (m:NH) (x:NR) (K:Dyn->Prop):Prop:=match x with
 | .val v=>K ⟨aQ dst v t,dfs,ctx,m⟩
 | .mem v m'=>K ⟨aQ dst v t,dfs,ctx,m'⟩
 | .call f args=>WF P.p S f args m fun v m'=>K ⟨aQ dst v t,dfs,ctx,m'⟩
 | .yld q args=>∃v c m',wI P.p S q args m (.val v c m')/\K ⟨aQ dst v t,dfs,ctx,m'⟩
 |_=>False
noncomputable def qJ (hs:List (Nat×NH)) (i:Nat) (l:List NOper):Bool:=match hs with| []=>bQ i l|_=>false
def P2 (b:Bool) (dst:Option D4) (t:Tm) (dfs:List Dfr) (ctx:Option NV) (m:NH) (x:NR) (K:Dyn->Prop):Prop:=match b,x with
 |true,.call f args=>wN P S dst t dfs ctx m (.call f args) K
 |_,x=>O9 P S dst t dfs ctx m x K
def wO:List NOper->Dyn->(Dyn->Prop)->Prop
 | [],d,K=>K d
 |x::l,d,K=>match az d.t x.guard with
  |some true=>wN P S x.dst d.t d.dfs d.ctx d.h (af x.op d.t d.h) fun d=>wO l d K
  |some false=>wO l ⟨aQ x.dst aS d.t,d.dfs,d.ctx,d.h⟩ K
  |none=>False
def wD:List NOper->List (Nat×NH)->List (Nat×(NH->NR)×NV)->Dyn->(Dyn->Prop)->Prop
 | [],_,_,d,K=>K d
 |x::l,hs,rs,d,K=>match az d.t x.guard with
  |some true=>(match ax x.op with
   | .pure=>(match af x.op d.t d.h with| .val v=>wD l hs rs ⟨aQ x.dst v d.t,d.dfs,d.ctx,d.h⟩ K|_=>False)
   | .alloc=>ahead x.pre hs=true/\(match af x.op d.t d.h with| .mem v m'=>wD l hs rs ⟨aQ x.dst v d.t,d.dfs,d.ctx,m'⟩ K|_=>False)
   | .read=>(match af x.op d.t d.h with| .val v=>e9 x.pre (af x.op d.t) v hs=true/\wD l hs ((x.idx,af x.op d.t,v)::rs) ⟨aQ x.dst v d.t,d.dfs,d.ctx,d.h⟩ K|_=>False)
   | .eff=>ahead x.pre hs=true/\P2 P S (qJ hs x.idx l) x.dst d.t d.dfs d.ctx d.h (af x.op d.t d.h) fun d'=>stays x.pre d'.h rs=true/\wD l ((x.idx,d.h)::hs) rs d' K)
  |some false=>wD l hs rs ⟨aQ x.dst aS d.t,d.dfs,d.ctx,d.h⟩ K
  |none=>False
def wp:NC->Dyn->(Out->Dyn->Prop)->Prop
 | .skip,d,Q=>Q .norm d
 | .ret,d,Q=>Q .ret d
 | .exit i,d,Q=>Q (.exit i) d
 | .seq a b,d,Q=>wp a d (dR (fun d=>wp b d Q) Q)
 | .cond g a b,d,Q=>wB (ρ d.t g) (wp a d Q) (wp b d Q)
 | .block i a,d,Q=>wp a d (oB i Q)
 | .reg l,d,Q=>wO P S l d (Q .norm)
 | .regD l,d,Q=>wD P S l [] [] d (Q .norm)
 | .loop a,d,Q=>W P S r (.loop a) d Q
 | .rangeFunc f ps a b,d,Q=>W P S r (.rangeFunc f ps a b) d Q
end
section
variable {P:PE} {S:cR} {r:Option D4}
theorem WF.ret' {P:Program} {f:Nat} {args:List NV} {m:NH} {K:NV->NH->Prop} (h:WF P S f args m K):∃v c m',Call P S f args m (.val v c m')/\K v m':=by
 rcases h with h|⟨_,_,_,_,h⟩
 ·exact h
 ·exact h.elim
theorem Ed:∀(l:List NOper) (d:Dyn) (K:Dyn->Prop),wO P S l d K->∃o d',fw P.p S r l d o d'/\qN P K o d':=by
 intro l
 induction l with
 |nil=>exact fun d K h=>⟨_,d,fw.nil d,h⟩
 |cons x l ih=>
  rintro ⟨t,dfs,ctx,m⟩ K h
  unfold wO at h
  dsimp only at h
  split at h
  ·rename_i hg
   cases hop:af x.op t m with
   |val v=>rw[hop] at h;obtain ⟨o,d',h1,h2⟩:=ih _ _ h;exact ⟨o,d',fw.val hg hop h1,h2⟩
   |mem v m'=>rw[hop] at h;obtain ⟨o,d',h1,h2⟩:=ih _ _ h;exact ⟨o,d',fw.mem hg hop h1,h2⟩
   |call f args=>
    rw[hop] at h
    cases dfs with
    |nil=>
     rcases h with ⟨v,c,m',hc,h⟩|⟨v,c,m',hc,h⟩
     ·obtain ⟨o,d',h1,h2⟩:=ih _ _ h
      exact ⟨o,d',fw.call hg hop hc h1,h2⟩
     ·exact ⟨_,_,fw.callp hg hop hc,rfl,h⟩
    |cons y dfs=>
     obtain ⟨v,c,m',hc,h⟩:=WF.ret' h
     obtain ⟨o,d',h1,h2⟩:=ih _ _ h
     exact ⟨o,d',fw.call hg hop hc h1,h2⟩
   |yld q args=>
    rw[hop] at h
    obtain ⟨v,c,m',hc,h⟩:=h
    obtain ⟨o,d',h1,h2⟩:=ih _ _ h
    exact ⟨o,d',fw.yld hg hop hc h1,h2⟩
   |pan v=>
    rw[hop] at h
    cases dfs with
    |nil=>exact ⟨_,_,fw.pan hg hop,rfl,h⟩
    |cons=>exact h.elim
   |_=>rw[hop] at h;exact h.elim
  ·rename_i hg
   obtain ⟨o,d',h1,h2⟩:=ih _ _ h;exact ⟨o,d',fw.off hg h1,h2⟩
  ·exact h.elim
theorem EA:∀(l:List NOper) (hs:List (Nat×NH)) (rs:List (Nat×(NH->NR)×NV)) (d:Dyn) (K:Dyn->Prop),wD P S l hs rs d K->∃o d',bL P.p S r l hs rs d o d'/\qN P K o d'/\(o= .norm∨hs= []):=by
 intro l
 induction l with
 |nil=>exact fun hs rs d K h=>⟨_,d,bL.nil d,h,Or.inl rfl⟩
 |cons x l ih=>
  rintro hs rs ⟨t,dfs,ctx,m⟩ K h
  unfold wD at h
  dsimp only at h
  split at h
  ·rename_i hg
   split at h
   ·rename_i hcl
    cases hop:af x.op t m with
    |val v=>rw[hop] at h;obtain ⟨o,d',h1,h2,h3⟩:=ih _ _ _ _ h;exact ⟨o,d',bL.pure hg hcl hop h1,h2,h3⟩
    |_=>rw[hop] at h;exact h.elim
   ·rename_i hcl
    obtain ⟨ha,h⟩:=h
    cases hop:af x.op t m with
    |mem v m'=>rw[hop] at h;obtain ⟨o,d',h1,h2,h3⟩:=ih _ _ _ _ h;exact ⟨o,d',bL.alloc hg hcl ha hop h1,h2,h3⟩
    |_=>rw[hop] at h;exact h.elim
   ·rename_i hcl
    cases hop:af x.op t m with
    |val v=>rw[hop] at h;obtain ⟨ha,h⟩:=h;obtain ⟨o,d',h1,h2,h3⟩:=ih _ _ _ _ h;exact ⟨o,d',bL.read hg hcl hop ha h1,h2,h3⟩
    |_=>rw[hop] at h;exact h.elim
   ·rename_i hcl
    obtain ⟨ha,h⟩:=h
    have fin:∀{a:Nat×NH} {o:Out},o= .norm∨a::hs= []->o= .norm:=fun h=>h.elim id fun h=>by cases h
    cases hop:af x.op t m with
    |val v=>
     rw[hop] at h
     have h:O9 P S x.dst t dfs ctx m (.val v) (fun d'=>stays x.pre d'.h rs=true/\wD P S l ((x.idx,m)::hs) rs d' K):=by cases he:qJ hs x.idx l<;>rw[he] at h<;>exact h
     obtain ⟨hst,h⟩:=h
     obtain ⟨o,d',h1,h2,h3⟩:=ih _ _ _ _ h
     obtain rfl:=fin h3
     exact ⟨_,d',bL.effv hg hcl ha hop hst h1,h2,Or.inl rfl⟩
    |mem v m'=>
     rw[hop] at h
     have h:O9 P S x.dst t dfs ctx m (.mem v m') (fun d'=>stays x.pre d'.h rs=true/\wD P S l ((x.idx,m)::hs) rs d' K):=by cases he:qJ hs x.idx l<;>rw[he] at h<;>exact h
     obtain ⟨hst,h⟩:=h
     obtain ⟨o,d',h1,h2,h3⟩:=ih _ _ _ _ h
     obtain rfl:=fin h3
     exact ⟨_,d',bL.eff hg hcl ha hop hst h1,h2,Or.inl rfl⟩
    |call f args=>
     rw[hop] at h
     have key:WF P.p S f args m (fun v m'=>stays x.pre m' rs=true/\wD P S l ((x.idx,m)::hs) rs ⟨aQ x.dst v t,dfs,ctx,m'⟩ K)∨(hs= []/\dfs= []/\bQ x.idx l=true/\WF P S f args m (fun v m'=>stays x.pre m' rs=true/\wD P S l ((x.idx,m)::hs) rs ⟨aQ x.dst v t,dfs,ctx,m'⟩ K)):=by
      cases he:qJ hs x.idx l with
      |false=>rw[he] at h;exact Or.inl h
      |true=>
       rw[he] at h
       cases hs with
       |cons a hs=>cases he
       |nil=>
        cases dfs with
        |nil=>exact Or.inr ⟨rfl,rfl,he,h⟩
        |cons y dfs=>exact Or.inl h
     have go:∀{v:NV} {c:Option NV} {m':NH},Call P.p S f args m (.val v c m')->stays x.pre m' rs=true/\wD P S l ((x.idx,m)::hs) rs ⟨aQ x.dst v t,dfs,ctx,m'⟩ K->∃o d',bL P.p S r (x::l) hs rs ⟨t,dfs,ctx,m⟩ o d'/\qN P K o d'/\(o= .norm∨hs= []):=by
      rintro v c m' hc ⟨hst,h⟩
      obtain ⟨o,d',h1,h2,h3⟩:=ih _ _ _ _ h
      obtain rfl:=fin h3
      exact ⟨_,d',bL.call hg hcl ha hop hc hst h1,h2,Or.inl rfl⟩
     rcases key with h|⟨rfl,rfl,hb,⟨v,c,m',hc,h⟩|⟨v,c,m',hc,h⟩⟩
     ·obtain ⟨v,c,m',hc,h⟩:=WF.ret' h
      exact go hc h
     ·exact go hc h
     ·exact ⟨_,_,bL.callp hg hcl hop hb hc,⟨rfl,h⟩,Or.inr rfl⟩
    |yld q args=>
     rw[hop] at h
     have h:O9 P S x.dst t dfs ctx m (.yld q args) (fun d'=>stays x.pre d'.h rs=true/\wD P S l ((x.idx,m)::hs) rs d' K):=by cases he:qJ hs x.idx l<;>rw[he] at h<;>exact h
     obtain ⟨v,c,m',hc,hst,h⟩:=h
     obtain ⟨o,d',h1,h2,h3⟩:=ih _ _ _ _ h
     obtain rfl:=fin h3
     exact ⟨_,d',bL.yld hg hcl ha hop hc hst h1,h2,Or.inl rfl⟩
    |_=>rw[hop] at h;cases he:qJ hs x.idx l<;>rw[he] at h<;>exact h.elim
  ·rename_i hg
   obtain ⟨o,d',h1,h2,h3⟩:=ih _ _ _ _ h;exact ⟨o,d',bL.off hg h1,h2,h3⟩
  ·exact h.elim
theorem aM:∀(c:NC) (d:Dyn) (Q:Out->Dyn->Prop),wp P S r c d Q->W P S r c d Q:=by
 intro c
 induction c with
 |skip=>exact fun d Q h=>⟨_,_,dL.skip d,h⟩
 |ret=>exact fun d Q h=>⟨_,_,dL.ret d,h⟩
 |exit i=>exact fun d Q h=>⟨_,_,dL.exit i d,h⟩
 |seq a b iha ihb=>
  intro d Q h
  obtain ⟨o,d1,h1,h2⟩:=iha _ _ h
  cases o with
  |norm=>obtain ⟨o,d2,h3,h4⟩:=ihb _ _ h2;exact ⟨o,d2,dL.seq h1 h3,h4⟩
  |_=>exact ⟨_,_,dL.seq_out h1 (by simp),h2⟩
 |cond g a b iha ihb=>
  intro d Q h
  unfold wp wB at h
  split at h
  ·rename_i q hq
   cases q with
   |true=>obtain ⟨o,d1,h1,h2⟩:=iha _ _ (h.1 rfl);exact ⟨o,d1,dL.cond hq (by simpa using h1),h2⟩
   |false=>obtain ⟨o,d1,h1,h2⟩:=ihb _ _ (h.2 rfl);exact ⟨o,d1,dL.cond hq (by simpa using h1),h2⟩
  ·exact h.elim
 |block i a iha=>
  intro d Q h
  obtain ⟨o,d1,h1,h2⟩:=iha _ _ h
  refine ⟨_,d1,dL.block h1, ?_⟩
  cases o with
  |exit j=>
   dsimp only
   change Q (if j=i then .norm else .exit j) d1 at h2
   by_cases e:j=i
   ·subst e;rw[Q5 rfl] at h2;rw[Nat.beq_refl];exact h2
   ·rw[Q4 e] at h2
    rw[show Nat.beq j i=false from by cases hb:Nat.beq j i with|false=>rfl|true=>exact Q3 (Ra hb) e];exact h2
  |_=>exact h2
 |reg l=>
  intro d Q h
  obtain ⟨o,d',h1,h2⟩:=Ed (r:=r) _ _ _ h
  cases o with
  |norm=>exact ⟨_,_,dL.reg h1,h2⟩
  |pan v=>exact ⟨_,_,dL.reg h1,h2⟩
  |_=>exact h2.elim
 |regD l=>
  intro d Q h
  obtain ⟨o,d',h1,h2,h3⟩:=EA (r:=r) _ _ _ _ _ h
  cases o with
  |norm=>exact ⟨_,_,dL.regD h1,h2⟩
  |pan v=>exact ⟨_,_,dL.regDp h1,h2⟩
  |_=>exact h2.elim
 |loop a _=>exact fun d Q h=>h
 |rangeFunc f ps a b _ _=>exact fun d Q h=>h
theorem W.loop {c:NC} {Q:Out->Dyn->Prop} (I:Nat->Dyn->Prop) (h:∀k d,I k d->W P S r c d (fun o d'=>match o with| .norm=>∃j,j<k/\I j d'|o=>Q o d')):∀k d,I k d->W P S r (.loop c) d Q:=by
 intro k
 induction k using Nat.strongRecOn with
 |ind k ih=>
  intro d hd
  obtain ⟨o,d',h1,h2⟩:=h k d hd
  cases o with
  |norm=>
   obtain ⟨j,hj,hI⟩:=h2
   obtain ⟨o,d2,h3,h4⟩:=ih j hj d' hI
   exact ⟨o,d2,dL.loop h1 h3,h4⟩
  |_=>exact ⟨_,_,dL.loop_out h1 (by simp),h2⟩
theorem W.mono {c:NC} {d:Dyn} {Q Q':Out->Dyn->Prop} (h:W P S r c d Q) (hq:∀o d,Q o d->Q' o d):W P S r c d Q':=by
 obtain ⟨o,d',h1,h2⟩:=h
 refine ⟨o,d',h1, ?_⟩
 cases o with
 |pan v=>exact h2
 |_=>exact hq _ _ h2
end
end Nm
namespace Nm
open Go Go.RowKit
section
variable {P:PE} {S:cR} {r:Option D4} {dst:Option D4} {op:NOp} {pre idx:Nat} {l:List NOper} {hs:List (Nat×NH)} {rs:List (Nat×(NH->NR)×NV)}
 {L:List (D4×NV)} {t:Tm} {dfs:List Dfr} {ctx:Option NV} {m m':NH} {v:NV} {k k':D4} {d:Dyn} {Q:Out->Dyn->Prop} {K:Dyn->Prop} {A B:Prop}
theorem KU:wp P S r .skip d Q=Q .norm d:=_root_.id rfl
theorem Oe:wp P S r .ret d Q=Q .ret d:=_root_.id rfl
theorem LA {i:Nat}:wp P S r (.exit i) d Q=Q (.exit i) d:=_root_.id rfl
theorem sT {i:Nat} {a:NC}:wp P S r (.block i a) d Q=wp P S r a d (oB i Q):=_root_.id rfl
theorem N7:wp P S r (.reg l) d Q=wO P S l d (Q .norm):=_root_.id rfl
theorem J2:wp P S r (.regD l) d Q=wD P S l [] [] d (Q .norm):=_root_.id rfl
theorem I1 {a:NC}:wp P S r (.loop a) d Q=W P S r (.loop a) d Q:=_root_.id rfl
theorem I2:dR K Q .norm d=K d:=_root_.id rfl
theorem L2:dR K Q .ret d=Q .ret d:=_root_.id rfl
theorem GH {i:Nat}:dR K Q (.exit i) d=Q (.exit i) d:=_root_.id rfl
theorem Ib {i:Nat}:oB i Q .norm d=Q .norm d:=_root_.id rfl
theorem Jv {i:Nat}:oB i Q .ret d=Q .ret d:=_root_.id rfl
theorem Gz {i j:Nat}:oB i Q (.exit j) d=Q (if j=i then .norm else .exit j) d:=_root_.id rfl
theorem Nb:wO P S [] d K=K d:=_root_.id rfl
def wX (c:kF) (x:NR) (P:PE) (S:cR) (f:NH->NR) (dst:Option D4) (pre idx:Nat) (l:List NOper) (hs:List (Nat×NH)) (rs:List (Nat×(NH->NR)×NV)) (d:Dyn) (K:Dyn->Prop):Prop:=
 match c with
 | .pure=>(match x with| .val v=>wD P S l hs rs ⟨aQ dst v d.t,d.dfs,d.ctx,d.h⟩ K|_=>False)
 | .alloc=>ahead pre hs=true/\(match x with| .mem v m'=>wD P S l hs rs ⟨aQ dst v d.t,d.dfs,d.ctx,m'⟩ K|_=>False)
 | .read=>(match x with| .val v=>e9 pre f v hs=true/\wD P S l hs ((idx,f,v)::rs) ⟨aQ dst v d.t,d.dfs,d.ctx,d.h⟩ K|_=>False)
 | .eff=>ahead pre hs=true/\P2 P S (qJ hs idx l) dst d.t d.dfs d.ctx d.h x fun d'=>stays pre d'.h rs=true/\wD P S l ((idx,d.h)::hs) rs d' K
theorem Ku:wD P S [] hs rs d K=K d:=_root_.id rfl
theorem Gr:wD P S (⟨dst,op,none,pre,idx⟩::l) hs rs ⟨am L t,dfs,ctx,m⟩ K=wX (ax op) (af op (am L t) m) P S (af op (am L t)) dst pre idx l hs rs ⟨am L t,dfs,ctx,m⟩ K:=by
 cases h:ax op<;>simp only[wD,az,h,wX]<;>cases af op (am L t) m<;>rfl
section
variable {f:NH->NR}
theorem G7:wX .pure (.val v) P S f (some k) pre idx l hs rs ⟨am L t,dfs,ctx,m⟩ K=wD P S l hs rs ⟨am ((k,v)::L) t,dfs,ctx,m⟩ K:=_root_.id rfl
theorem Dz:wX .alloc (.mem v m') P S f (some k) pre idx l hs rs ⟨am L t,dfs,ctx,m⟩ K=(ahead pre hs=true/\wD P S l hs rs ⟨am ((k,v)::L) t,dfs,ctx,m'⟩ K):=_root_.id rfl
theorem Ih:wX .read (.val v) P S f (some k) pre idx l hs rs ⟨am L t,dfs,ctx,m⟩ K=(e9 pre f v hs=true/\wD P S l hs ((idx,f,v)::rs) ⟨am ((k,v)::L) t,dfs,ctx,m⟩ K):=_root_.id rfl
theorem D7:e9 pre f v []=true:=_root_.id rfl
theorem E7:ahead pre []=true:=_root_.id rfl
theorem DV:stays pre m []=true:=_root_.id rfl
end
theorem MJ:NT.get k (am L t)=gP k L (NT.get k t):=jK k L t
theorem Np:ρ (am L t) (.tmp k)=gP k L (NT.get k t):=jK k L t
theorem Gs:ρ t (.const v)=some v:=_root_.id rfl
theorem HA {o:Option NV}:gP k [] o=o:=_root_.id rfl
theorem I0 {o:Option NV}:gP k ((k',v)::L) o=cond (bA k k') (some v) (gP k L o):=_root_.id rfl
theorem Pv:bA .e .e=true:=_root_.id rfl
theorem Pt:bA .e (.a k)=false:=_root_.id rfl
theorem PJ:bA .e (.b k)=false:=_root_.id rfl
theorem QJ:bA .e (.c k)=false:=_root_.id rfl
theorem P4:bA .e (.f k)=false:=_root_.id rfl
theorem PS:bA (.a k) .e=false:=_root_.id rfl
theorem PH:bA (.a k) (.a k')=bA k k':=_root_.id rfl
theorem PC:bA (.a k) (.b k')=false:=_root_.id rfl
theorem Pu:bA (.a k) (.c k')=false:=_root_.id rfl
theorem Qm:bA (.a k) (.f k')=false:=_root_.id rfl
theorem Pw:bA (.b k) .e=false:=_root_.id rfl
theorem Qv:bA (.b k) (.a k')=false:=_root_.id rfl
theorem PU:bA (.b k) (.b k')=bA k k':=_root_.id rfl
theorem Qs:bA (.b k) (.c k')=false:=_root_.id rfl
theorem Qd:bA (.b k) (.f k')=false:=_root_.id rfl
theorem Pp:bA (.c k) .e=false:=_root_.id rfl
theorem PA:bA (.c k) (.a k')=false:=_root_.id rfl
theorem PO:bA (.c k) (.b k')=false:=_root_.id rfl
theorem Pk:bA (.c k) (.c k')=bA k k':=_root_.id rfl
theorem Qe:bA (.c k) (.f k')=false:=_root_.id rfl
theorem Pj:bA (.f k) .e=false:=_root_.id rfl
theorem P6:bA (.f k) (.a k')=false:=_root_.id rfl
theorem Qg:bA (.f k) (.b k')=false:=_root_.id rfl
theorem Qh:bA (.f k) (.c k')=false:=_root_.id rfl
theorem QH:bA (.f k) (.f k')=bA k k':=_root_.id rfl
end
def oN (o:Option NV) (K:NV->NR):NR:=match o with|some v=>K v|none=> .fail
theorem Pm {v:NV} {K:NV->NR}:oN (some v) K=K v:=_root_.id rfl
theorem bW {t:Tm} {x:NOpd} {K:NV->NR}:wV t x K=oN (ρ t x) K:=by
 unfold wV oN;cases ρ t x<;>rfl
theorem QC {v:NV}:vr (some v)= .val v:=_root_.id rfl
def KZ (v:NV):NR:=match v with| .slc _ _ n _ _=> .val (.int .i64 (.lit (.ofNat n)))| .nils=> .val (.int .i64 (.lit (.ofNat 0)))|_=> .fail
def np (n:Nat) (s i:NV):NR:=match s,i with| .slc id off len _ _,.int _ (.lit (.ofNat i))=>if i<len then .val (.ptr id (off+i*n)) else .fail|_,_=> .fail
noncomputable def GA (m:NH) (p:NV):NR:=match p with| .ptr id off=>(match m.get id with|some (.cells _ c)=>oN c[off]? .val|some (.cellsT _ c)=>oN c[off]? .val|_=> .fail)|_=> .fail
noncomputable def Gn (n:Nat) (m:NH) (p:NV):NR:=match p with| .ptr id off=>(match m.get id with|some (.cells _ c)=>if off+n<=c.length then .val (.agg ((c.drop off).take n)) else .fail|some (.cellsT _ c)=>if off+n<=c.length then .val (.agg ((c.drop off).take n)) else .fail|_=> .fail)|_=> .fail
def Oj (k:Nat) (p:NV):NR:=match p with| .ptr id off=> .val (.ptr id (off+k))|_=> .fail
def Mx (k:Nat) (a:NV):NR:=match a with| .agg l=>oN l[k]? .val|_=> .fail
section
variable {t:Tm} {m:NH}
theorem Mf {x:NOpd}:af (.move x) t m=oN (ρ t x) .val:=bW
theorem N1 {c:BC} {op:BinOp} {x y:NOpd}:af (.bin c op x y) t m=oN (ρ t x) fun a=>oN (ρ t y) fun b=>vr (ee c op a b):=by
 show wV t x (fun a=>wV t y fun b=>vr (ee c op a b))=_
 simp only[bW]
theorem Qb {u:UnOp} {x:NOpd}:af (.un u x) t m=oN (ρ t x) fun v=>vr (Pg u v):=bW
theorem NQ {x:NOpd}:af (.lenSlc x) t m=oN (ρ t x) KZ:=by
 show wV t x _=_
 rw[bW];cases ρ t x with
 |none=>rfl
 |some v=>cases v<;>rfl
theorem NK {n:Nat} {x i:NOpd}:af (.indexSlc n x i) t m=oN (ρ t x) fun s=>oN (ρ t i) fun i=>np n s i:=by
 show wV t x (fun v=>fC t i fun i=>match v with
  | .slc id off len _ _=>cond (Nat.ble (Nat.succ i) len) (aq (Nat.add off (Nat.mul i n)) fun o=> .val (.ptr id o)) .fail
  |_=> .fail)=_
 unfold fC
 simp only[bW]
 cases ρ t x with
 |none=>rfl
 |some s=>
  show oN (ρ t i) _=oN (ρ t i) _
  cases ρ t i with
  |none=>rfl
  |some j=>
   show aX (nj j) _=np n s j
   cases j with
   |int k z=>
    cases z with
    |lit z=>
     cases z with
     |ofNat q=>
      cases s with
      |slc id off len e kc=>
       show cond (Nat.ble (Nat.succ q) len) (aq (Nat.add off (Nat.mul q n)) fun o=>NR.val (.ptr id o)) .fail=if q<len then _ else _
       rw[ag]
       by_cases hq:q<len
       ·rw[Q5 hq,Nat.ble_eq_true_of_le hq];rfl
       ·rw[Q4 hq,show Nat.ble (Nat.succ q) len=false from by cases hb:Nat.ble (Nat.succ q) len with|false=>rfl|true=>exact Q3 (Nat.le_of_ble_eq_true hb) hq];rfl
      |_=>rfl
     |negSucc q=>cases s<;>rfl
   |_=>cases s<;>rfl
theorem My {x:NOpd}:af (.load1 x) t m=oN (ρ t x) (GA m):=by
 show wV t x (fun a=>match a with| .ptr id off=>cV m id fun c=>aX (jE c off) .val|_=> .fail)=_
 rw[bW]
 cases ρ t x with
 |none=>rfl
 |some v=>
  cases v with
  |ptr id off=>
   show cV m id (fun c=>aX (jE c off) .val)=GA m (.ptr id off)
   unfold cV GA
   dsimp only
   split<;>rename_i hm
   ·rw[hm];dsimp only;rw[eG];cases (_:List NV)[off]? <;>rfl
   ·rw[hm];dsimp only;rw[eG];cases (_:List NV)[off]? <;>rfl
   ·rename_i hm'
    split<;>rename_i h2
    ·exact Q3 h2 (hm' _ _)
    ·exact Q3 h2 (hm _ _)
    ·rfl
  |_=>rfl
theorem Ns {k:Nat} {x:NOpd}:af (.fieldAddr k x) t m=oN (ρ t x) (Oj k):=by
 show wV t x (fun v=>match v with| .ptr id o=>aq (Nat.add o k) fun o=> .val (.ptr id o)|_=> .fail)=_
 rw[bW]
 cases ρ t x with
 |none=>rfl
 |some v=>cases v<;>first|rfl|exact ag (R:=NR) _ (fun o=> .val (.ptr _ o))
theorem Nf {k off:Nat} {id:D4}:Oj k (.ptr id off)= .val (.ptr id (off+k)):=_root_.id rfl
end
theorem OK {b:Bool}:Pg .not (.bool b)=some (.bool (!b)):=by cases b<;>rfl
end Nm
namespace Nm
open Go Go.RowKit
def rK (o:Option NV) (K:NV->Prop):Prop:=match o with|some v=>K v|none=>False
def Ic (rs:List NRes) (K:NV->NH->Prop) (o:Out) (d:Dyn):Prop:=(o= .norm∨o= .ret)/\d.dfs= []/\∃v,cG d.h d.t rs .fail (fun l=> .val (iC l) d.ctx d.h)= .val v d.ctx d.h/\K v d.h
section
variable {P:Program} {S:cR} {L:List (D4×NV)} {t:Tm} {ctx:Option NV} {m:NH} {K:NV->NH->Prop} {k k1 k2 k3:D4}
theorem Qz {v:NV} {K:NV->Prop}:rK (some v) K=K v:=_root_.id rfl
theorem Call.of_pan {P:Program} {f:Nat} {nf:NFun} (hs:∀l,S f l=fun _=>none) (hf:ah P f=some (.code nf)) {args:List NV} {m:NH} {v:NV} {d:Dyn} (h:dL P S none nf.body ⟨cN args 0 .leaf, [],none,m⟩ (.pan v) d) (hd:d.dfs= []):Call P S f args m (.pan v d.ctx d.h):=by
 obtain ⟨n,hn⟩:=h
 refine ⟨by simp,n, ?_⟩
 unfold bZ
 rw[hs]
 dsimp only
 rw[hf]
 dsimp only
 rw[dx,hf]
 dsimp only
 rw[hn]
 dsimp only
 rw[hd];rfl
theorem WF.of_wp {P:Program} {E:NV->NH->Prop} (hs:∀f l,S f l=fun _=>none) {f:Nat} {nf:NFun} (hf:ah P f=some (.code nf)) {args:List NV} {K:NV->NH->Prop} (hL:cN args 0 .leaf=am L .leaf)
 (h:wp ⟨P,E⟩ S none nf.body ⟨am L .leaf, [],none,m⟩ (Ic nf.results K)):WF ⟨P,E⟩ S f args m K:=by
 obtain ⟨o,d,h1,h2⟩:=aM _ _ _ h
 rw[←hL] at h1
 cases o with
 |pan v=>exact Or.inr ⟨v,d.ctx,d.h,Call.of_pan (hs f) hf h1 h2.1,h2.2⟩
 |_=>
  obtain ⟨ho,hd,v,hv,hK⟩:=h2
  exact Or.inl ⟨v,d.ctx,d.h,Call.of_run (hs f) hf ho h1 hd hv (by simp),hK⟩
end
end Nm
namespace Nm
open Go Go.RowKit
def na (m:NH) (j:Nat):D4:=D4.of (m.next.toNat+j)
def aw (m:NH) (id:D4):Prop:=id.toNat<m.next.toNat
instance (m:NH) (id:D4):Decidable (aw m id):=inferInstanceAs (Decidable (_<_))
inductive AK where
 |n (j:Nat)
 |o (id:D4)
noncomputable def uh (m:NH):List (AK×NO)->NT NO
 | []=>m.m
 |(.n j,x)::l=>NT.put (na m j) x (uh m l)
 |(.o id,x)::l=>if aw m id then NT.put id x (uh m l) else uh m l
noncomputable def hp (l:List (AK×NO)) (k:Nat) (m:NH):NH:=⟨uh m l,na m k⟩
def ko (j:Nat):List (AK×NO)->Option NO->Option NO
 | [],d=>d
 |(.n i,x)::l,d=>if j=i then some x else ko j l d
 |(.o _,_)::l,d=>ko j l d
noncomputable def jk (id:D4):List (AK×NO)->Option NO->Option NO
 | [],d=>d
 |(.n _,_)::l,d=>jk id l d
 |(.o i,x)::l,d=>@ite _ (id=i) (Classical.propDecidable _) (some x) (jk id l d)
theorem nZ {m:NH} {i j:Nat} (h:na m i=na m j):i=j:=by
 have:=D4.of_inj h;omega
theorem iT {m:NH} {i j:Nat}:(na m i=na m j)=(i=j):=propext ⟨nZ,fun h=>by rw[h]⟩
theorem K2 (m:NH) (k:Nat):(na m k).nxt=na m (k+1):=by
 apply D4.toNat_inj
 rw[D4.toNat_nxt];unfold na;rw[D4.toNat_of,D4.toNat_of];omega
theorem AZ (m:NH):na m 0=m.next:=D4.of_toNat _
theorem ab (m:NH):hp [] 0 m=m:=by
 show NH.mk m.m (na m 0)=m
 rw[AZ]
theorem aw.ne {m:NH} {id:D4} (h:aw m id) (j:Nat):id≠na m j:=by
 intro e
 unfold aw at h
 rw[e] at h;unfold na at h;rw[D4.toNat_of] at h;omega
section
variable {m:NH} {l:List (AK×NO)} {k j:Nat} {o:NO} {id:D4}
theorem Jg:(hp l k m).next=na m k:=_root_.id rfl
theorem EW:(hp l k m).add o=hp ((.n k,o)::l) (k+1) m:=by
 show NH.mk (NT.put (na m k) o (uh m l)) (na m k).nxt=NH.mk (NT.put (na m k) o (uh m l)) (na m (k+1))
 rw[K2]
theorem JI:(hp l k m).put (na m j) o=hp ((.n j,o)::l) k m:=_root_.id rfl
theorem oF (h:aw m id):(hp l k m).put id o=hp ((.o id,o)::l) k m:=by
 show NH.mk (NT.put id o (uh m l)) (na m k)=NH.mk (if aw m id then NT.put id o (uh m l) else uh m l) (na m k)
 rw[Q5 h]
theorem cI:(hp l k m).get (na m j)=ko j l (m.get (na m j)):=by
 show NT.get (na m j) (uh m l)=_
 induction l with
 |nil=>rfl
 |cons p l ih=>
  obtain ⟨a,x⟩:=p
  cases a with
  |n i=>
   show NT.get (na m j) (NT.put (na m i) x (uh m l))=if j=i then some x else ko j l _
   split
   ·rename_i h;rw[h];exact NT.get_put_same _ _ _
   ·rename_i h;rw[NT.get_put_ne (fun e=>h (nZ e))];exact ih
  |o i=>
   show NT.get (na m j) (if aw m i then NT.put i x (uh m l) else uh m l)=ko j l _
   split
   ·rename_i h;rw[NT.get_put_ne (fun e=>h.ne j e.symm)];exact ih
   ·exact ih
theorem bF (h:aw m id):(hp l k m).get id=jk id l (m.get id):=by
 show NT.get id (uh m l)=_
 induction l with
 |nil=>rfl
 |cons p l ih=>
  obtain ⟨a,x⟩:=p
  cases a with
  |n i=>
   show NT.get id (NT.put (na m i) x (uh m l))=jk id l _
   rw[NT.get_put_ne (h.ne _)];exact ih
  |o i=>
   show NT.get id (if aw m i then NT.put i x (uh m l) else uh m l)=@ite _ (id=i) (Classical.propDecidable _) (some x) (jk id l _)
   by_cases e:id=i
   ·rw[Q5 e,←e,Q5 h];exact NT.get_put_same _ _ _
   ·rw[Q4 e]
    split
    ·rw[NT.get_put_ne e];exact ih
    ·exact ih
theorem Eu {i:Nat} {d:Option NO}:ko j ((.n i,o)::l) d=if j=i then some o else ko j l d:=_root_.id rfl
theorem Fo {i:D4} {d:Option NO}:ko j ((.o i,o)::l) d=ko j l d:=_root_.id rfl
theorem EI {d:Option NO}:jk id [] d=d:=_root_.id rfl
theorem up {i:Nat} {d:Option NO}:jk id ((.n i,o)::l) d=jk id l d:=_root_.id rfl
theorem a7 {d:Option NO}:jk id ((.o id,o)::l) d=some o:=Q5 rfl
theorem fU {i:D4} {d:Option NO} (h:id≠i):jk id ((.o i,o)::l) d=jk id l d:=Q4 h
end
structure Chg (S:List D4) (m m':NH):Prop where
 next:m.next.toNat<=m'.next.toNat
 get:∀{id},aw m id->id∉S->m'.get id=m.get id
theorem Chg.old {S:List D4} {m m':NH} {id:D4} (h:Chg S m m') (ho:aw m id):aw m' id:=Nat.lt_of_lt_of_le ho h.next
theorem Chg.refl (m:NH):Chg [] m m:=⟨Nat.le_refl _,fun _ _=>rfl⟩
theorem Chg.weak {S T:List D4} {a b:NH} (h:Chg S a b) (hs:∀id,id∈S->aw a id->id∈T):Chg T a b:=
 ⟨h.1,fun {id} ho hi=>h.2 ho fun q=>hi (hs id q ho)⟩
theorem Chg.trans {S T:List D4} {a b c:NH} (h:Chg S a b) (h':Chg T b c) (hs:∀id,id∈T->aw a id->id∈S):Chg S a c:=
 ⟨Nat.le_trans h.1 h'.1,fun {id} ho hi=>(h'.2 (h.old ho) fun q=>hi (hs id q ho)).trans (h.2 ho hi)⟩
def aF:List (AK×NO)->List D4
 | []=> []
 |(.n _,_)::l=>aF l
 |(.o i,_)::l=>i::aF l
theorem pn (l:List (AK×NO)) (k:Nat) (m:NH):Chg (aF l) m (hp l k m):=by
 refine ⟨by show m.next.toNat<=(na m k).toNat;unfold na;rw[D4.toNat_of];omega,fun {id} ho hi=> ?_⟩
 rw[bF ho]
 induction l with
 |nil=>rfl
 |cons p l ih=>
  obtain ⟨a,x⟩:=p
  cases a with
  |n i=>rw[up];exact ih hi
  |o i=>
   have hi:id∉i::aF l:=hi
   rw[Q9] at hi
   rw[fU (fun e=>hi (Or.inl e))]
   exact ih fun q=>hi (Or.inr q)
theorem ai {l:List (AK×NO)} {k j:Nat} {m:NH} (h:j<k):aw (hp l k m) (na m j):=by
 show (na m j).toNat<(na m k).toNat
 unfold na;rw[D4.toNat_of,D4.toNat_of];omega
theorem ae {l:List (AK×NO)} {k:Nat} {m:NH} {id:D4} (h:aw m id):aw (hp l k m) id:=(pn l k m).old h
theorem aD {m:NH} {j:Nat}:¬aw m (na m j):=by
 show ¬(na m j).toNat<m.next.toNat
 unfold na;rw[D4.toNat_of];omega
def a6 (P:Program) (S:cR) (f:Nat) (args:List NV) (m:NH) (v:NV) (m':NH):Prop:=∃c,Call P S f args m (.val v c m')
section
variable {P:Program} {S:cR} {f:Nat} {args:List NV} {m:NH}
theorem WF.ret {K:NV->NH->Prop} (h:WF P S f args m K):∃v m',a6 P S f args m v m'/\K v m':=by
 obtain ⟨v,c,m',hc,hk⟩:=WF.ret' h;exact ⟨v,m',⟨c,hc⟩,hk⟩
theorem Call.det {x y:CR} (h:Call P S f args m x) (h':Call P S f args m y):x=y:=by
 obtain ⟨hn,n,e⟩:=h
 obtain ⟨hn',k,e'⟩:=h'
 rw[←ek (bY (Nat.le_max_left n k)) e hn,ek (bY (Nat.le_max_right n k)) e' hn']
theorem a6.wf {E:NV->NH->Prop} {v:NV} {m':NH} (h:a6 P S f args m v m') {K:NV->NH->Prop}:WF ⟨P,E⟩ S f args m K=K v (hp [] 0 m'):=by
 rw[ab]
 apply propext
 constructor
 ·rintro (⟨u,c,n,hc,hk⟩|⟨u,c,n,hc,hk⟩)
  ·obtain ⟨c',h'⟩:=h
   have:=Call.det hc h'
   injection this with a _ b
   rw[←a,←b];exact hk
  ·obtain ⟨c',h'⟩:=h
   exact Q3 (Call.det hc h') (by simp)
 ·intro hk
  obtain ⟨c,h⟩:=h
  exact Or.inl ⟨v,c,m',h,hk⟩
def Pc (P:Program) (S:cR) (f:Nat) (args:List NV) (m:NH) (v:NV) (m':NH):Prop:=∃c,Call P S f args m (.pan v c m')
theorem Pc.wf {E:NV->NH->Prop} {v:NV} {m':NH} (h:Pc P S f args m v m') {K:NV->NH->Prop}:WF ⟨P,E⟩ S f args m K=E v m':=by
 apply propext
 constructor
 ·rintro (⟨u,c,n,hc,hk⟩|⟨u,c,n,hc,hk⟩)
  ·obtain ⟨c',h'⟩:=h
   exact Q3 (Call.det hc h') (by simp)
  ·obtain ⟨c',h'⟩:=h
   have:=Call.det hc h'
   injection this with a _ b
   rw[←a,←b];exact hk
 ·intro hk
  obtain ⟨c,h⟩:=h
  exact Or.inr ⟨v,c,m',h,hk⟩
end
section
variable {t:Tm} {m:NH}
theorem JP {x:NOpd} {ty:Nat}:af (.box x ty) t m=oN (ρ t x) fun v=>match cellsOf v with|some cs=> .mem (.ptr m.next 0) (m.add (cond (MT ty) (.cellsT ty cs) (.cells true cs)))|none=> .fail:=by
 show wV t x (fun v=>aX (cellsOf v) fun cs=>m.new (cond (MT ty) (.cellsT ty cs) (.cells true cs)) fun id h=> .mem (.ptr id 0) h)=_
 rw[bW]
 cases ρ t x with
 |none=>rfl
 |some v=>
  show aX (cellsOf v) _=(match cellsOf v with|some cs=>_|none=>NR.fail)
  cases cellsOf v with
  |none=>rfl
  |some cs=>exact NH.new_eq m _ (fun id h=>NR.mem (.ptr id 0) h)
theorem Mw (T:Nat):MT T=Nat.beq T 57:=_root_.id rfl
theorem OI {T:Nat} (h:T≠57):MT T=false:=by
 rw[Mw]
 cases q:Nat.beq T 57 with
 |false=>rfl
 |true=>exact Q3 (Ra q) h
theorem JX:MT 57=true:=_root_.id rfl
theorem GJ {z:List NV} {ty:Nat}:af (.alloc z ty) t m= .mem (.ptr m.next 0) (m.add (cond (MT ty) (.cellsT ty z) (.cells true z))):=NH.new_eq m _ (fun id h=>NR.mem (.ptr id 0) h)
end
end Nm
namespace Nm
open Go Go.RowKit
section
variable {P:Program} {S:cR}
theorem wI.of {l:D4} {args:List NV} {m:NH} {p p1:Jump} {tm tm1:NT NV} {ps ps1:List D4} {a b a1 b1:NC} {d1 d2:Dyn} {o:Out} {x:CR}
 (hm:m.get l=some (.loop 0 p tm ps a b)) (hlen:args.length=ps.length) (ha:dL P S (some l) a ⟨qH ps args tm, [],none,m⟩ .norm d1) (hd1:d1.dfs= [])
 (hm1:d1.h.get l=some (.loop 0 p1 tm1 ps1 a1 b1)) (hb:dL P S (some l) b ⟨d1.t, [],none,d1.h.put l (.loop 1 p1 tm1 ps1 a1 b1)⟩ o d2) (ho:∀v,o≠.pan v) (hr:eC l o d2.h=x) (hne:x≠.fail):wI P S l args m x:=by
 obtain ⟨n,hn⟩:=ha
 obtain ⟨k,hk⟩:=hb
 refine ⟨hne,max n k, ?_⟩
 have key:∀(ps:List D4) (args:List NV) (tm:Tm) (K:Tm->CR),args.length=ps.length->eD .fail ps args tm K=K (qH ps args tm):=by
  intro ps
  induction ps with
  |nil=>intro args tm K h;cases args with
   |nil=>rfl
   |cons=>simp at h
  |cons q ps ih=>
   intro args tm K h
   cases args with
   |nil=>simp at h
   |cons v vs=>
    have e:eD .fail (q::ps) (v::vs) tm K=NT.set q v tm fun t=>eD .fail ps vs t K:=rfl
    rw[e,NT.set_eq]
    exact ih _ _ _ (by simpa using h)
 unfold round
 rw[hm]
 show eD .fail ps args tm (fun t=>match ev P S (max n k) (some l) a ⟨t, [],none,m⟩ with
  | .mk .norm d=>(match d.dfs with| []=>dg (ev P S (max n k)) l b d.t d.h|_=> .fail)
  |_=> .fail)=x
 rw[key _ _ _ _ hlen,bY (Nat.le_max_left n k) _ _ _ _ _ hn]
 show (match d1.dfs with| []=>dg (ev P S (max n k)) l b d1.t d1.h|_=> .fail)=x
 rw[hd1]
 show dg (ev P S (max n k)) l b d1.t d1.h=x
 unfold dg
 rw[hm1]
 show (d1.h.set l (.loop 1 p1 tm1 ps1 a1 b1) fun h=>(match ev P S (max n k) (some l) b ⟨d1.t, [],none,h⟩ with
  | .mk o d=>(match o with
   | .pan v=>(match d.dfs with| []=>CR.pan v none d.h|_=> .fail)
   |o=>eC l o d.h)
  | .fail=> .fail))=x
 rw[NH.set_eq,bY (Nat.le_max_right n k) _ _ _ _ _ hk]
 cases o with
 |pan v=>exact Q3 rfl (ho v)
 |_=>exact hr
theorem dL.range {f:Nat} {cap:List NV} {fx:NOpd} {ps:List D4} {a b:NC} {t:Tm} {dfs:List Dfr} {ctx:Option NV} {m m':NH} {v:NV} {c:Option NV} {o:Out} {d:Dyn}
 (hf:ρ t fx=some (.fn f cap)) (hc:Call P S f (.yld (m.add (.defd true)).next::cap) ((m.add (.defd true)).add (.loop 0 .none t ps a b)) (.val v c m'))
 (he:gd (m.add (.defd true)).next t (.mark m.next::dfs) ctx m'= .mk o d):dL P S none (.rangeFunc fx ps a b) ⟨t,dfs,ctx,m⟩ o d:=by
 obtain ⟨hne,k,hk⟩:=hc
 refine ⟨k+1, ?_⟩
 show (match ρ t fx with
  |some (.fn f cap)=>m.new (.defd true) fun q m=>cE P S (ev P S k) f cap ps a b t (.mark q::dfs) ctx m
  |_=>Res.fail)=_
 rw[hf]
 try dsimp only
 rw[NH.new_eq]
 unfold cE
 rw[NH.new_eq,hk]
 exact he
end
end Nm
namespace Nm
open Go Go.RowKit
section
variable {t:Tm} {m:NH}
theorem Ew {k:Nat} {x:NOpd}:af (.field1 k x) t m=oN (ρ t x) (Mx k):=by
 show wV t x (fun v=>match v with| .agg l=>aX (jE l k) .val|_=> .fail)=_
 rw[bW]
 cases ρ t x with
 |none=>rfl
 |some v=>
  cases v with
  |agg l=>show aX (jE l k) .val=oN l[k]? .val;rw[eG];cases l[k]? <;>rfl
  |_=>rfl
theorem N6 {k:Nat} {l:List NV}:Mx k (.agg l)=oN l[k]? .val:=_root_.id rfl
def O2 (k n:Nat) (a:NV):NR:=match a with| .agg l=>if k+n<=l.length then .val (.agg ((l.drop k).take n)) else .fail|_=> .fail
theorem FN {k n:Nat} {x:NOpd}:af (.fieldN k n x) t m=oN (ρ t x) (O2 k n):=by
 show wV t x (fun v=>match v with| .agg l=>aX (fb l k n) fun l=> .val (.agg l)|_=> .fail)=_
 rw[bW]
 cases ρ t x with
 |none=>rfl
 |some v=>
  cases v with
  |agg l=>show aX (fb l k n) (fun l=> .val (.agg l))=if k+n<=l.length then _ else _;rw[fj];split<;>rfl
  |_=>rfl
theorem MG {n:Nat} {x:NOpd}:af (.loadN n x) t m=oN (ρ t x) (Gn n m):=by
 show wV t x (fun a=>match a with| .ptr id off=>cV m id fun c=>aX (fb c off n) fun l=> .val (.agg l)|_=> .fail)=_
 rw[bW]
 cases ρ t x with
 |none=>rfl
 |some v=>
  cases v with
  |ptr id off=>
   show cV m id (fun c=>aX (fb c off n) fun l=> .val (.agg l))=Gn n m (.ptr id off)
   unfold cV Gn
   dsimp only
   split<;>rename_i hm
   ·rw[hm];dsimp only;rw[fj];split<;>rfl
   ·rw[hm];dsimp only;rw[fj];split<;>rfl
   ·rename_i hm'
    split<;>rename_i h2
    ·exact Q3 h2 (hm' _ _)
    ·exact Q3 h2 (hm _ _)
    ·rfl
  |_=>rfl
def Nj (i:Nat) (a:NV):NR:=match a with| .tup l=>oN l[i]? .val|_=> .fail
theorem CC {i:Nat} {x:NOpd}:af (.extract x i) t m=oN (ρ t x) (Nj i):=by
 show wV t x (fun v=>match v with| .tup l=>aX (jE l i) .val|_=> .fail)=_
 rw[bW]
 cases ρ t x with
 |none=>rfl
 |some v=>
  cases v with
  |tup l=>show aX (jE l i) .val=oN l[i]? .val;rw[eG];cases l[i]? <;>rfl
  |_=>rfl
theorem OP {i:Nat} {l:List NV}:Nj i (.tup l)=oN l[i]? .val:=_root_.id rfl
def A4 (f:NV) (l:List NV):NR:=match f with| .fn f cap=> .call f (l++cap)| .yld r=> .yld r l|_=> .fail
noncomputable def Gj (t:Tm):List NOpd->(List NV->NR)->NR
 | [],K=>K []
 |x::l,K=>oN (ρ t x) fun v=>Gj t l fun l=>K (v::l)
theorem tG {l:List NOpd} {K:List NV->NR}:wj t l .fail K=Gj t l K:=by
 induction l generalizing K with
 |nil=>rfl
 |cons x l ih=>
  show Option.rec NR.fail (fun v=>wj t l .fail fun l=>K (v::l)) (ρ t x)=oN (ρ t x) fun v=>Gj t l fun l=>K (v::l)
  cases ρ t x with
  |none=>rfl
  |some v=>exact ih
theorem JA {K:List NV->NR}:Gj t [] K=K []:=_root_.id rfl
theorem MM {x:NOpd} {l:List NOpd} {K:List NV->NR}:Gj t (x::l) K=oN (ρ t x) fun v=>Gj t l fun l=>K (v::l):=_root_.id rfl
theorem Lg {f:NOpd} {args:List NOpd}:af (.call f args) t m=oN (ρ t f) fun f=>Gj t args (A4 f):=by
 show wV t f (fun f=>wj t args .fail fun l=>match f with| .fn f cap=>iL l cap fun l=> .call f l| .yld r=> .yld r l|_=> .fail)=_
 rw[bW]
 cases ρ t f with
 |none=>rfl
 |some f=>
  show wj t args .fail _=Gj t args (A4 f)
  rw[tG]
  congr 1
  funext l
  cases f with
  |fn f cap=>exact eS l cap (fun l=>NR.call f l)
  |_=>rfl
theorem I5 {f:Nat} {cap l:List NV}:A4 (.fn f cap) l= .call f (l++cap):=_root_.id rfl
theorem On {q:D4} {l:List NV}:A4 (.yld q) l= .yld q l:=_root_.id rfl
theorem KR {f:Nat} {l:List NOpd}:af (.mkFn f l) t m=Gj t l fun l=> .val (.fn f l):=tG
end
end Nm
namespace Nm
open Go Go.RowKit
section
variable {t:Tm} {m:NH}
noncomputable def Pe (n:Nat) (m:NH) (a v:NV):NR:=match a with
 | .ptr id off=>(match cellsOf v with
  |some cs=>if cs.length=n then (match m.get id with
   |some (.cells true c)=>if off+cs.length<=c.length then .mem aS (m.put id (.cells true (c.take off++cs++c.drop (off+cs.length)))) else .fail
   |some (.cellsT T c)=>if off+cs.length<=c.length then .mem aS (m.put id (.cellsT T (c.take off++cs++c.drop (off+cs.length)))) else .fail
   |_=> .fail) else .fail
  |none=> .fail)
 |_=> .fail
theorem G5 {n:Nat} {a x:NOpd}:af (.store n a x) t m=oN (ρ t a) fun a=>oN (ρ t x) fun v=>Pe n m a v:=by
 show wV t a (fun a=>wV t x fun v=>match a with
  | .ptr id off=>aX (cellsOf v) fun cs=>dG cs fun k=>cond (Nat.beq k n) (fS m id off cs fun h=> .mem aS h) .fail
  |_=> .fail)=_
 simp only[bW]
 cases ρ t a with
 |none=>rfl
 |some a=>
  show oN (ρ t x) _=oN (ρ t x) _
  cases ρ t x with
  |none=>rfl
  |some v=>
   cases a with
   |ptr id off=>
    show aX (cellsOf v) (fun cs=>dG cs fun k=>cond (Nat.beq k n) (fS m id off cs fun h=> .mem aS h) .fail)=Pe n m (.ptr id off) v
    unfold Pe
    cases cellsOf v with
    |none=>rfl
    |some cs=>
     show dG cs (fun k=>cond (Nat.beq k n) (fS m id off cs fun h=> .mem aS h) .fail)=if cs.length=n then _ else _
     rw[bJ]
     cases hb:Nat.beq cs.length n with
     |false=>rw[Q4 (Nat.ne_of_beq_eq_false hb)];rfl
     |true=>
      rw[Q5 (Ra hb)]
      show fS m id off cs (fun h=> .mem aS h)=_
      unfold fS
      cases hm:m.get id with
      |none=>rfl
      |some o=>
       cases o with
       |cells w c=>
        cases w with
        |false=>rfl
        |true=>
         show aX (dr cs off c) (fun c=>m.set id (.cells true c) fun h=> .mem aS h)=if off+cs.length<=c.length then _ else _
         rw[dX]
         split
         ·exact NH.set_eq m id _ (fun h=>NR.mem aS h)
         ·rfl
       |cellsT T c=>
        show aX (dr cs off c) (fun c=>m.set id (.cellsT T c) fun h=> .mem aS h)=if off+cs.length<=c.length then _ else _
        rw[dX]
        split
        ·exact NH.set_eq m id _ (fun h=>NR.mem aS h)
        ·rfl
       |_=>rfl
   |_=>rfl
end
end Nm
namespace Nm
open Go Go.RowKit
section
variable {t:Tm} {m:NH}
noncomputable def QO (n len:Nat) (m:NH) (o:Option (List NV)):NR:=match o with|some l=> .mem (.slc m.next 0 len n len) (m.add (.cells true l))|none=> .fail
theorem Mi {z:List NV} {n len ty:Nat} {ps:List (Nat×Nat×NOpd)}:af (.buildSlice z n len ty ps) t m=QO n len m (cM t ps 0 z):=by
 show aX (cM t ps 0 z) (fun l=>m.new (.cells true l) fun id h=> .mem (.slc id 0 len n len) h)=_
 cases cM t ps 0 z with
 |none=>rfl
 |some l=>exact NH.new_eq m (.cells true l) (fun id h=>NR.mem (.slc id 0 len n len) h)
theorem PL {n len:Nat} {l:List NV}:QO n len m (some l)= .mem (.slc m.next 0 len n len) (m.add (.cells true l)):=_root_.id rfl
def oO {α β:Type} (o:Option α) (K:α->Option β):Option β:=match o with|some x=>K x|none=>none
theorem PQ {α β:Type} {x:α} {K:α->Option β}:oO (some x) K=K x:=_root_.id rfl
end
end Nm
namespace Nm
open Go Go.RowKit
def wQ (q:Bool) (A B:Dyn->Prop) (d:Dyn):Prop:=(q=true->A d)/\(q=false->B d)
def wC (o:Option NV) (A B:Dyn->Prop) (d:Dyn):Prop:=wB o (A d) (B d)
def wG (o:Option NV) (b:Bool) (A B:Dyn->Prop) (d:Dyn):Prop:=match o with
 |some (.bool q)=>wQ (q==b) A B d
 |some _=>B d
 |none=>False
def BU (F:Tm->List Dfr->Option NV->NH->Prop) (d:Dyn):Prop:=F d.t d.dfs d.ctx d.h
noncomputable def Ek (x:NR) (v:NV):Bool:=match x with| .val u=>br 4 u v|_=>false
section
variable {P:PE} {S:cR} {r:Option D4} {dst:Option D4} {op:NOp} {pre idx:Nat} {l:List NOper} {hs:List (Nat×NH)} {rs:List (Nat×(NH->NR)×NV)}
 {L:List (D4×NV)} {t:Tm} {dfs:List Dfr} {ctx:Option NV} {m m':NH} {v:NV} {k k' g:D4} {d:Dyn} {Q:Out->Dyn->Prop} {K:Dyn->Prop} {A B:Dyn->Prop} {b q:Bool}
theorem PK:wC (some (.bool q)) A B d=wQ q A B d:=_root_.id rfl
theorem Nq:wQ true A B d=A d:=by simp[wQ]
theorem Ow:wQ false A B d=B d:=by simp[wQ]
theorem QB:wG (some (.bool q)) b A B d=wQ (q==b) A B d:=_root_.id rfl
theorem OG:wG (some aS) b A B d=B d:=_root_.id rfl
theorem Is:wO P S (⟨dst,op,some (g,b),pre,idx⟩::l) ⟨am L t,dfs,ctx,m⟩ K=wG (gP g L (NT.get g t)) b (BU fun t dfs ctx m=>wN P S dst t dfs ctx m (af op t m) fun d=>wO P S l d K) (BU fun t dfs ctx m=>wO P S l ⟨aQ dst aS t,dfs,ctx,m⟩ K) ⟨am L t,dfs,ctx,m⟩:=by
 unfold wG
 rw[←jK]
 show (match az (am L t) (some (g,b)) with|some true=>_|some false=>_|none=>False)=_
 have e:az (am L t) (some (g,b))=(match NT.get g (am L t) with|some (.bool q)=>some (q==b)|some _=>some false|none=>none):=by
  show Option.rec (motive:=fun _=>Option Bool) none (fun v=>NV.onBool (some false) (fun c=>some (fR b c)) v) (NT.get g (am L t))=_
  cases NT.get g (am L t) with
  |none=>rfl
  |some v=>cases v with
   |bool q=>cases q<;>cases b<;>rfl
   |_=>rfl
 rw[e]
 cases NT.get g (am L t) with
 |none=>rfl
 |some v=>cases v with
  |bool q=>
   dsimp only
   unfold wQ BU
   cases (q==b)<;>simp
  |_=>rfl
theorem Dy:wD P S (⟨dst,op,some (g,b),pre,idx⟩::l) hs rs ⟨am L t,dfs,ctx,m⟩ K=wG (gP g L (NT.get g t)) b (BU fun t dfs ctx m=>wX (ax op) (af op t m) P S (af op t) dst pre idx l hs rs ⟨t,dfs,ctx,m⟩ K) (BU fun t dfs ctx m=>wD P S l hs rs ⟨aQ dst aS t,dfs,ctx,m⟩ K) ⟨am L t,dfs,ctx,m⟩:=by
 unfold wG
 rw[←jK]
 have e:az (am L t) (some (g,b))=(match NT.get g (am L t) with|some (.bool q)=>some (q==b)|some _=>some false|none=>none):=by
  show Option.rec (motive:=fun _=>Option Bool) none (fun v=>NV.onBool (some false) (fun c=>some (fR b c)) v) (NT.get g (am L t))=_
  cases NT.get g (am L t) with
  |none=>rfl
  |some v=>cases v with
   |bool q=>cases q<;>cases b<;>rfl
   |_=>rfl
 have e2:wD P S (⟨dst,op,some (g,b),pre,idx⟩::l) hs rs ⟨am L t,dfs,ctx,m⟩ K=(match az (am L t) (some (g,b)) with
  |some true=>wX (ax op) (af op (am L t) m) P S (af op (am L t)) dst pre idx l hs rs ⟨am L t,dfs,ctx,m⟩ K
  |some false=>wD P S l hs rs ⟨aQ dst aS (am L t),dfs,ctx,m⟩ K
  |none=>False):=by
  unfold wX
  simp only[wD]
  all_goals (cases az (am L t) (some (g,b)) with
   |none=>rfl
   |some q=>cases q with
    |false=>rfl
    |true=>cases ax op<;>cases af op (am L t) m<;>rfl)
 rw[e2,e]
 cases NT.get g (am L t) with
 |none=>rfl
 |some v=>cases v with
  |bool q=>
   dsimp only
   unfold wQ BU
   cases (q==b)<;>simp
  |_=>rfl
theorem Ij {i:Nat} {f:NH->NR} {u:NV}:stays pre m ((i,f,u)::rs)=cond (Nat.testBit pre i) (stays pre m rs) (Ek (f m) u&&stays pre m rs):=by
 show cond (Nat.testBit pre i) (stays pre m rs) (match f m with| .val v=>cond (br 4 v u) (stays pre m rs) false|_=>false)=_
 congr 1
 cases f m with
 |val u'=>show cond (br 4 u' u) _ false=(br 4 u' u&&_);cases br 4 u' u<;>rfl
 |_=>rfl
theorem G4 {i:Nat}:ahead pre ((i,m)::hs)=cond (Nat.testBit pre i) (ahead pre hs) false:=_root_.id rfl
theorem DC {u:NV}:Ek (.val u) v=br 4 u v:=_root_.id rfl
end
theorem iN (d:D4):bA d d=true:=p7 d
theorem pj (l:List Nat):vN l l=true:=by
 induction l with
 |nil=>rfl
 |cons x l ih=>show cond (Nat.beq x x) (vN l l) false=true;rw[Nat.beq_refl];exact ih
def Bi (v:NV):Prop:=match v with| .agg _| .tup _| .fn _ _| .ifc _ _=>False|_=>True
theorem jP {n:Nat} {v:NV} (h:Bi v):br (n+1) v v=true:=by
 show Bj (br n) v v=true
 have hi:∀z:Int,qe z z=true:=fun z=>by rw[gh];simp
 cases v with
 |bool b=>cases b<;>rfl
 |int k x=>cases x with
  |lit z=>show cond (rE k k) (qe z z) false=true;rw[hi];cases k<;>rfl
 |str s=>exact pj s
 |ptr id o=>show cond (bA id id) (Nat.beq o o) false=true;rw[iN];simp
 |slc id o n e k=>show cond (bA id id) (cond (Nat.beq o o) (cond (Nat.beq n n) (cond (Nat.beq e e) (Nat.beq k k) false) false) false) false=true;rw[iN];simp
 |map id=>exact iN id
 |yld id=>exact iN id
 |agg l=>exact h.elim
 |tup l=>exact h.elim
 |fn f c=>exact h.elim
 |ifc t v=>exact h.elim
 |_=>rfl
theorem yD {n:Nat} {l:List NV} (h:∀v∈l,Bi v):iU (br (n+1)) l l=true:=by
 induction l with
 |nil=>rfl
 |cons x l ih=>
  show cond (br (n+1) x x) (iU (br (n+1)) l l) false=true
  rw[jP (h x (List.mem_cons_self ..))]
  exact ih fun v hv=>h v (List.mem_cons_of_mem _ hv)
theorem od {n:Nat} {l:List NV} (h:∀v∈l,Bi v):br (n+2) (.agg l) (.agg l)=true:=yD h
theorem Ip {n:Nat} {k:IntKind} {z:Int}:br (n+1) (.int k (.lit z)) (.int k (.lit z))=true:=jP trivial
theorem rS {n:Nat} {l:List Nat}:br (n+1) (.str l) (.str l)=true:=jP trivial
end Nm
namespace Nm
open Go Go.RowKit
theorem Oz {a b:Int} (h:-9223372036854775808<=a - b) (h':a - b<9223372036854775808):ee .num .sub (.int .i64 (.lit a)) (.int .i64 (.lit b))=some (.int .i64 (.lit (a - b))):=by
 refine (kR rfl).trans ?_
 show dv .i64 (cq .i64 (yf a b))=_
 rw[li,wrap_small h h']
 exact my _ _
theorem I3 {p:Prop} [Decidable p] (h:p):decide p=true:=by simp[h]
theorem GO {p:Prop} [Decidable p] (h:¬p):decide p=false:=by simp[h]
section
variable {m:NH}
theorem N8 {off n e kc:Nat} {id:D4}:KZ (.slc id off n e kc)= .val (.int .i64 (.lit (n:Int))):=_root_.id rfl
theorem Bf {n off len e kc:Nat} {id:D4} {ik:IntKind} {z:Int} (h0:0<=z) (h1:z<len):np n (.slc id off len e kc) (.int ik (.lit z))= .val (.ptr id (off+z.toNat*n)):=by
 obtain ⟨i,rfl⟩:=Rb h0
 show (if i<len then NR.val (.ptr id (off+i*n)) else .fail)= .val (.ptr id (off+i*n))
 rw[Q5 (by omega)]
noncomputable def LK (off:Nat) (o:Option NO):NR:=match o with|some (.cells _ c)=>oN c[off]? .val|some (.cellsT _ c)=>oN c[off]? .val|_=> .fail
noncomputable def NB (n off:Nat) (o:Option NO):NR:=match o with|some (.cells _ c)=>if off+n<=c.length then .val (.agg ((c.drop off).take n)) else .fail|some (.cellsT _ c)=>if off+n<=c.length then .val (.agg ((c.drop off).take n)) else .fail|_=> .fail
theorem OU {id:D4} {off:Nat}:GA m (.ptr id off)=LK off (m.get id):=_root_.id rfl
theorem NA {id:D4} {n off:Nat}:Gn n m (.ptr id off)=NB n off (m.get id):=_root_.id rfl
theorem LN {off:Nat} {w:Bool} {c:List NV}:LK off (some (.cells w c))=oN c[off]? .val:=_root_.id rfl
theorem rG {off T:Nat} {c:List NV}:LK off (some (.cellsT T c))=oN c[off]? .val:=_root_.id rfl
theorem JB {n off:Nat} {w:Bool} {c:List NV} (h:off+n<=c.length):NB n off (some (.cells w c))= .val (.agg ((c.drop off).take n)):=Q5 h
noncomputable def O7 (n:Nat) (id:D4) (off:Nat) (m:NH) (cs:Option (List NV)) (o:Option NO):NR:=match cs with
 |some cs=>if cs.length=n then (match o with
  |some (.cells true c)=>if off+cs.length<=c.length then .mem aS (m.put id (.cells true (c.take off++cs++c.drop (off+cs.length)))) else .fail
  |some (.cellsT T c)=>if off+cs.length<=c.length then .mem aS (m.put id (.cellsT T (c.take off++cs++c.drop (off+cs.length)))) else .fail
  |_=> .fail) else .fail
 |none=> .fail
theorem Pr {n off:Nat} {id:D4} {v:NV}:Pe n m (.ptr id off) v=O7 n id off m (cellsOf v) (m.get id):=_root_.id rfl
theorem gK {c:List NV} {off:Nat} {x:NV} (h:off<c.length):c.take off++ [x]++c.drop (off+1)=c.set off x:=by
 rw[List.set_eq_take_append_cons_drop,Q5 h]
 simp
theorem Nz {off:Nat} {id:D4} {x:NV} {c:List NV} (h:off<c.length):O7 1 id off m (some [x]) (some (.cells true c))= .mem aS (m.put id (.cells true (c.set off x))):=by
 show (if [x].length=1 then (if off+ [x].length<=c.length then NR.mem aS (m.put id (.cells true (c.take off++ [x]++c.drop (off+ [x].length)))) else .fail) else .fail)=_
 rw[Q5 (show [x].length=1 from rfl),Q5 (by show off+1<=_;omega)]
 show NR.mem aS (m.put id (.cells true (c.take off++ [x]++c.drop (off+1))))=_
 rw[gK h]
theorem Dw {off T:Nat} {id:D4} {x:NV} {c:List NV} (h:off<c.length):O7 1 id off m (some [x]) (some (.cellsT T c))= .mem aS (m.put id (.cellsT T (c.set off x))):=by
 show (if [x].length=1 then (if off+ [x].length<=c.length then NR.mem aS (m.put id (.cellsT T (c.take off++ [x]++c.drop (off+ [x].length)))) else .fail) else .fail)=_
 rw[Q5 (show [x].length=1 from rfl),Q5 (by show off+1<=_;omega)]
 show NR.mem aS (m.put id (.cellsT T (c.take off++ [x]++c.drop (off+1))))=_
 rw[gK h]
theorem Oo {n off:Nat} {id:D4} {cs c:List NV} (h:cs.length=n+2) (h':off+(n+2)<=c.length):O7 (n+2) id off m (some cs) (some (.cells true c))= .mem aS (m.put id (.cells true (c.take off++cs++c.drop (off+(n+2))))):=by
 rw[←h] at h' ⊢
 show (if cs.length=cs.length then (if off+cs.length<=c.length then NR.mem aS (m.put id (.cells true (c.take off++cs++c.drop (off+cs.length)))) else .fail) else .fail)=_
 rw[Q5 rfl,Q5 h']
end
section
variable {t:Tm} {m:NH}
def zd (c:NV) (a b:Option NV):NR:=match c with| .bool c=>(if c then oN a .val else oN b .val)|_=> .fail
theorem LL {c a b:NOpd}:af (.pick c a b) t m=oN (ρ t c) fun c=>zd c (ρ t a) (ρ t b):=by
 show wV t c (fun c=>match c with| .bool c=>Bool.rec (wV t b .val) (wV t a .val) c|_=> .fail)=_
 rw[bW]
 cases ρ t c with
 |none=>rfl
 |some v=>
  cases v with
  |bool q=>show Bool.rec (wV t b .val) (wV t a .val) q=if q then oN (ρ t a) .val else oN (ρ t b) .val;rw[bW,bW];cases q<;>rfl
  |_=>rfl
theorem HQ {a b:Option NV}:zd (.bool true) a b=oN a .val:=_root_.id rfl
theorem GF {a b:Option NV}:zd (.bool false) a b=oN b .val:=_root_.id rfl
theorem Hm {q p r:Bool}:zd (.bool q) (some (.bool p)) (some (.bool r))= .val (.bool (if q then p else r)):=by cases q<;>rfl
theorem Dg {mx:Bool} {l:List NOpd}:af (.minmax mx l) t m=Gj t l fun l=>oN (BQ mx l) .val:=by
 show wj t l .fail (fun l=>aX (BQ mx l) .val)=_
 rw[tG]
 congr 1
 funext l
 cases BQ mx l<;>rfl
theorem Nc {k:IntKind} {a b:Int}:BQ true [.int k (.lit a),.int k (.lit b)]=some (.int k (.lit (max a b))):=by
 show Option.rec (motive:=fun _=>Option NV) none some (cond (cond true (vQ a b) (vQ b a)) (some (NV.int k (.lit b))) (some (.int k (.lit a))))=_
 rw[ie]
 by_cases h:a<b
 ·simp[h,Int.max_def,show a<=b by omega]
 ·simp[h,Int.max_def];omega
theorem NZ {k:IntKind} {a b:Int}:BQ false [.int k (.lit a),.int k (.lit b)]=some (.int k (.lit (min a b))):=by
 show Option.rec (motive:=fun _=>Option NV) none some (cond (cond false (vQ a b) (vQ b a)) (some (NV.int k (.lit b))) (some (.int k (.lit a))))=_
 rw[ie a b,ie b a]
 by_cases h:b<a
 ·rw[Q7 h,Int.min_eq_right (by omega)];rfl
 ·rw[Q6 h,Int.min_eq_left (by omega)];rfl
theorem Kh {k:IntKind} {a:Int} {K:Nat->NR} (h:0<=a):aX (nj (.int k (.lit a))) K=K a.toNat:=by
 obtain ⟨i,rfl⟩:=Rb h
 rfl
noncomputable def B5 (n bytes:Nat) (m:NH) (s x:NV):NR:=fK n m x fun k new=>fy n bytes m s k new
theorem DQ {n bytes ty:Nat} {s x:NOpd}:af (.append n bytes ty s x) t m=oN (ρ t s) fun s=>oN (ρ t x) fun x=>B5 n bytes m s x:=by
 show wV t s (fun s=>wV t x fun x=>fK n m x fun k new=>fy n bytes m s k new)=_
 rw[bW];congr 1;funext s;rw[bW];rfl
noncomputable def QT (neg:Bool) (es:List EK) (a b:NV):NR:=match a,b with
 | .agg a,.agg b=>aX (eJ es a b) fun r=>vr (bX (cond neg (j9 r) r))
 |_,_=> .fail
theorem Bc {neg:Bool} {es:List EK} {x y:NOpd}:af (.eqAgg neg es x y) t m=oN (ρ t x) fun a=>oN (ρ t y) fun b=>QT neg es a b:=by
 show wV t x (fun a=>wV t y fun b=>match a,b with
  | .agg a,.agg b=>aX (eJ es a b) fun r=>vr (bX (cond neg (j9 r) r))
  |_,_=> .fail)=_
 rw[bW];congr 1;funext a;rw[bW];rfl
theorem PB {es:List EK} {a b:List NV} {q:Bool} (h:eJ es a b=some q):QT true es (.agg a) (.agg b)= .val (.bool (!q)):=by
 show aX (eJ es a b) (fun r=>vr (bX (cond true (j9 r) r)))=_
 rw[h];cases q<;>rfl
noncomputable def QW (o:Option (List NV)):NR:=match o with|some l=> .val (.agg l)|none=> .fail
theorem In {z:List NV} {ps:List (Nat×Nat×NOpd)}:af (.build z ps) t m=QW (c8 t ps z):=by
 show aX (c8 t ps z) (fun l=> .val (.agg l))=_
 cases c8 t ps z<;>rfl
theorem PR {l:List NV}:QW (some l)= .val (.agg l):=_root_.id rfl
theorem NW {l:List NV}:c8 t [] l=some l:=_root_.id rfl
noncomputable def MU (t:Tm) (ps:List (Nat×Nat×NOpd)) (off k:Nat) (l:List NV) (o:Option (List NV)):Option (List NV):=match o with
 |some cs=>if cs.length=k then (match dr cs off l with|some l=>c8 t ps l|none=>none) else none
 |none=>none
theorem Po {ps:List (Nat×Nat×NOpd)} {off k:Nat} {x:NOpd} {l:List NV}:c8 t ((off,k,x)::ps) l=oO (ρ t x) fun v=>MU t ps off k l (cellsOf v):=by
 show Option.rec (motive:=fun _=>Option (List NV)) none (fun v:NV=>Option.rec (motive:=fun _=>Option (List NV)) none (fun cs=>dG cs fun j=>cond (Nat.beq j k) (Option.rec (motive:=fun _=>Option (List NV)) none (c8 t ps) (dr cs off l)) none) (cellsOf v)) (ρ t x)=_
 cases ρ t x with
 |none=>rfl
 |some v=>
  show Option.rec (motive:=fun _=>Option (List NV)) none (fun cs=>dG cs fun j=>cond (Nat.beq j k) (Option.rec (motive:=fun _=>Option (List NV)) none (c8 t ps) (dr cs off l)) none) (cellsOf v)=MU t ps off k l (cellsOf v)
  cases cellsOf v with
  |none=>rfl
  |some cs=>
   show dG cs (fun j=>cond (Nat.beq j k) (Option.rec (motive:=fun _=>Option (List NV)) none (c8 t ps) (dr cs off l)) none)=if cs.length=k then _ else _
   rw[bJ]
   cases hb:Nat.beq cs.length k with
   |false=>rw[Q4 (Nat.ne_of_beq_eq_false hb)];rfl
   |true=>rw[Q5 (Ra hb)];cases dr cs off l<;>rfl
theorem OZ {ps:List (Nat×Nat×NOpd)} {off:Nat} {x:NV} {l:List NV} (h:off<l.length):MU t ps off 1 l (some [x])=c8 t ps (l.set off x):=by
 show (if [x].length=1 then (match dr [x] off l with|some l=>c8 t ps l|none=>none) else none)=_
 rw[Q5 (show [x].length=1 from rfl),dX,Q5 (by show off+1<=_;omega)]
 show c8 t ps (l.take off++ [x]++l.drop (off+1))=_
 rw[gK h]
theorem L5 {ps:List (Nat×Nat×NOpd)} {off k:Nat} {cs l:List NV} (h:cs.length=k) (h':off+k<=l.length):MU t ps off k l (some cs)=c8 t ps (l.take off++cs++l.drop (off+k)):=by
 subst h
 show (if cs.length=cs.length then (match dr cs off l with|some l=>c8 t ps l|none=>none) else none)=_
 rw[Q5 rfl,dX,Q5 h']
theorem NL {ps:List (Nat×Nat×NOpd)} {off k:Nat} {cs l:List NV} (h:cs.length=k+2) (h':off+(k+2)<=l.length):MU t ps off (k+2) l (some cs)=c8 t ps (l.take off++cs++l.drop (off+(k+2))):=L5 h h'
end
end Nm
namespace Nm
open Go Go.RowKit
section
variable {t:Tm} {m:NH}
noncomputable def iW (t:Tm) (x:Option NOpd) (d:Nat) (K:Nat->NR):NR:=match x with|none=>K d|some x=>oN (ρ t x) fun v=>aX (nj v) K
theorem fH {x:Option NOpd} {d:Nat} {K:Nat->NR}:dT t x d K=iW t x d K:=by
 cases x with
 |none=>rfl
 |some x=>show wV t x _=_;rw[bW];rfl
noncomputable def HW (n:Nat) (id:D4) (off len e kc a b:Nat):NR:=cond (Nat.ble a b) (cond (Nat.ble b (Bool.rec kc len (Nat.ble kc len))) (cond (Nat.beq e n) (.val (.slc id (off+a*n) (b - a) n (kc - a))) .fail) .fail) .fail
noncomputable def xW (n:Nat) (t:Tm) (lo hi:Option NOpd) (v:NV):NR:=match v with
 | .slc id off len e kc=>iW t hi len fun b=>iW t lo 0 fun a=>HW n id off len e kc a b
 | .nils=>iW t hi 0 fun b=>iW t lo 0 fun a=>cond (Nat.beq a 0) (cond (Nat.beq b 0) (.val .nils) .fail) .fail
 |_=> .fail
theorem NE {n:Nat} {x:NOpd} {lo hi:Option NOpd}:af (.sliceSlc n x lo hi) t m=oN (ρ t x) (xW n t lo hi):=by
 show wV t x (fun v=>match v with
  | .slc id off len e kc=>dT t hi len fun b=>dT t lo 0 fun a=>cond (Nat.ble a b) (cond (Nat.ble b (Bool.rec kc len (Nat.ble kc len))) (cond (Nat.beq e n)
   (aq (Nat.add off (Nat.mul a n)) fun o=>aq (Nat.sub b a) fun m=>aq (Nat.sub kc a) fun k=> .val (.slc id o m n k)) .fail) .fail) .fail
  | .nils=>dT t hi 0 fun b=>dT t lo 0 fun a=>cond (Nat.beq a 0) (cond (Nat.beq b 0) (.val .nils) .fail) .fail
  |_=> .fail)=_
 rw[bW]
 congr 1
 funext v
 cases v with
 |slc id off len e kc=>
  dsimp only[xW]
  rw[fH]
  congr 1
  funext b
  rw[fH]
  congr 1
  funext a
  simp only[ag]
  rfl
 |nils=>
  dsimp only[xW]
  rw[fH]
  congr 1
  funext b
  rw[fH]
 |_=>rfl
theorem Nw {x:NOpd} {d:Nat} {K:Nat->NR}:iW t (some x) d K=oN (ρ t x) fun v=>aX (nj v) K:=_root_.id rfl
theorem FL {n off len e kc:Nat} {id:D4} {lo hi:Option NOpd}:xW n t lo hi (.slc id off len e kc)=iW t hi len fun b=>iW t lo 0 fun a=>HW n id off len e kc a b:=_root_.id rfl
theorem Dc {n:Nat} {lo hi:Option NOpd}:xW n t lo hi .nils=iW t hi 0 fun b=>iW t lo 0 fun a=>cond (Nat.beq a 0) (cond (Nat.beq b 0) (.val .nils) .fail) .fail:=_root_.id rfl
theorem Iy {n a b off len kc:Nat} {id:D4} (h:a<=b) (h':b<=len):HW n id off len n kc a b= .val (.slc id (off+a*n) (b - a) n (kc - a)):=by
 unfold HW
 rw[Nat.ble_eq_true_of_le h,Nat.beq_refl,show Nat.ble b (Bool.rec kc len (Nat.ble kc len))=true from Nat.ble_eq_true_of_le (by
  cases hb:Nat.ble kc len with
  |true=>exact h'
  |false=>
   have:¬kc<=len:=fun q=>by rw[Nat.ble_eq_true_of_le q] at hb;cases hb
   show b<=kc
   omega)]
 rfl
end
end Nm
namespace Nm
open Go Go.RowKit
def ids:NV->List D4
 | .slc id _ _ _ _=> [id]
 |_=> []
def Sl (m:NH) (v:NV) (e:Nat) (C:List (List NV)):Prop:=(∀x∈C,x.length=e)/\((v= .nils/\C= [])∨
 ∃id off kc w c,v= .slc id off C.length e kc/\m.get id=some (.cells w c)/\aw m id/\off+C.length*e<=c.length/\(c.drop off).take (C.length*e)=C.flatten)
def dq (B m:NH) (v:NV) (e:Nat) (C:List (List NV)):Prop:=(∀x∈C,x.length=e)/\((v= .nils/\C= [])∨
 ∃id off kc c,v= .slc id off C.length e kc/\¬aw B id/\m.get id=some (.cells true c)/\aw m id/\off+C.length*e<=c.length/\off+kc*e<=c.length/\(c.drop off).take (C.length*e)=C.flatten)
theorem b7 {e:Nat} {C:List (List NV)} (h:∀x∈C,x.length=e):C.flatten.length=C.length*e:=by
 induction C with
 |nil=>simp
 |cons a C ih=>
  rw[List.flatten_cons,List.length_append,h a (List.mem_cons_self ..),ih fun x hx=>h x (List.mem_cons_of_mem _ hx),List.length_cons,Nat.succ_mul]
  omega
theorem CJ {e:Nat}:∀{C:List (List NV)} (_:∀x∈C,x.length=e) (i:Nat) (hi:i<C.length),(C.flatten.drop (i*e)).take e=C[i]:=by
 intro C
 induction C with
 |nil=>intro _ i hi;simp at hi
 |cons a C ih=>
  intro h i hi
  have ha:=h a (List.mem_cons_self ..)
  cases i with
  |zero=>
   rw[Nat.zero_mul,List.drop_zero,List.flatten_cons,List.take_append,ha,Nat.sub_self,List.take_zero,List.append_nil,←ha]
   simp
  |succ i=>
   rw[List.flatten_cons,List.drop_append,Nat.succ_mul,List.drop_eq_nil_of_le (by omega),List.nil_append,ha,Nat.add_sub_cancel]
   exact ih (fun x hx=>h x (List.mem_cons_of_mem _ hx)) i (by simpa using hi)
theorem dq.sl {B m:NH} {v:NV} {e:Nat} {C:List (List NV)} (h:dq B m v e C):Sl m v e C:=by
 obtain ⟨h0,h|⟨id,off,kc,c,h1,_,h2,h3,h4,_,h5⟩⟩:=h
 ·exact ⟨h0,Or.inl h⟩
 ·exact ⟨h0,Or.inr ⟨id,off,kc,true,c,h1,h2,h3,h4,h5⟩⟩
section
variable {m:NH} {v:NV} {e:Nat} {C:List (List NV)}
theorem Sl.len (h:Sl m v e C):KZ v= .val (.int .i64 (.lit (C.length:Int))):=by
 obtain ⟨_,⟨rfl,rfl⟩|⟨id,off,kc,w,c,rfl,_⟩⟩:=h<;>rfl
theorem Sl.one (h:Sl m v e C):cellsOf v=some [v]:=by
 obtain ⟨_,⟨rfl,rfl⟩|⟨id,off,kc,w,c,rfl,_⟩⟩:=h<;>rfl
theorem zG {c:List NV} {off n e:Nat} (h:∀x∈C,x.length=e) (hn:C.length=n) (hc:off+n*e<=c.length) (hf:(c.drop off).take (n*e)=C.flatten) (i:Nat) (hi:i<C.length):
 off+i*e+e<=c.length/\(c.drop (off+i*e)).take e=C[i]:=by
 subst hn
 have h1:i*e+e<=C.length*e:=by rw[←Nat.succ_mul];exact Nat.mul_le_mul_right e hi
 refine ⟨by omega, ?_⟩
 rw[←CJ h i hi,←hf,List.drop_take,List.take_take,List.drop_drop,Nat.min_eq_left (by omega)]
theorem Sl.at (h:Sl m v e C) (i:Nat) (hi:i<C.length):∃id off w c,np e v (.int .i64 (.lit (i:Int)))= .val (.ptr id off)/\m.get id=some (.cells w c)/\aw m id/\off+e<=c.length/\(c.drop off).take e=C[i]:=by
 obtain ⟨h0,⟨rfl,rfl⟩|⟨id,off,kc,w,c,rfl,h1,h2,h3,h4⟩⟩:=h
 ·simp at hi
 ·obtain ⟨h5,h6⟩:=zG h0 rfl h3 h4 i hi
  exact ⟨id,off+i*e,w,c,Bf (by omega) (by omega),h1,h2,h5,h6⟩
theorem Sl.chg {T:List D4} {m':NH} (h:Sl m v e C) (hc:Chg T m m') (ht:∀id∈ids v,id∉T):Sl m' v e C:=by
 obtain ⟨h0,⟨rfl,rfl⟩|⟨id,off,kc,w,c,rfl,h1,h2,h3,h4⟩⟩:=h
 ·exact ⟨h0,Or.inl ⟨rfl,rfl⟩⟩
 ·exact ⟨h0,Or.inr ⟨id,off,kc,w,c,rfl,(hc.get h2 (ht id (List.mem_cons_self ..))).trans h1,hc.old h2,h3,h4⟩⟩
theorem Sl.grew {m':NH} (h:Sl m v e C) (hc:Chg [] m m'):Sl m' v e C:=h.chg hc fun _ _=>Q8
theorem Sl.old (h:Sl m v e C):∀id∈ids v,aw m id:=by
 obtain ⟨h0,⟨rfl,rfl⟩|⟨id,off,kc,w,c,rfl,h1,h2,h3,h4⟩⟩:=h
 ·intro id hid;simp[ids] at hid
 ·intro i hi;simp[ids] at hi;rw[hi];exact h2
theorem dq.chg {B m:NH} {T:List D4} {m':NH} (h:dq B m v e C) (hc:Chg T m m') (ht:∀id∈ids v,id∉T):dq B m' v e C:=by
 obtain ⟨h0,⟨rfl,rfl⟩|⟨id,off,kc,c,rfl,hb,h1,h2,h3,h4⟩⟩:=h
 ·exact ⟨h0,Or.inl ⟨rfl,rfl⟩⟩
 ·exact ⟨h0,Or.inr ⟨id,off,kc,c,rfl,hb,(hc.get h2 (ht id (List.mem_cons_self ..))).trans h1,hc.old h2,h3,h4⟩⟩
theorem dq.new {B m:NH} (h:dq B m v e C):∀id∈ids v,¬aw B id:=by
 obtain ⟨h0,⟨rfl,rfl⟩|⟨id,off,kc,c,rfl,hb,h1,h2,h3,h4⟩⟩:=h
 ·intro id hid;simp[ids] at hid
 ·intro i hi;simp[ids] at hi;rw[hi];exact hb
theorem dq.nil {B m:NH}:dq B m .nils e []:=⟨fun x hx=>by simp at hx,Or.inl ⟨rfl,rfl⟩⟩
theorem Sl.nil:Sl m .nils e []:=⟨fun x hx=>by simp at hx,Or.inl ⟨rfl,rfl⟩⟩
theorem dq.of {B m:NH} {id:D4} {n k:Nat} {c:List NV} (h:∀x∈C,x.length=e) (hb:¬aw B id) (hg:m.get id=some (.cells true c)) (ho:aw m id) (hc:c=C.flatten) (hn:n=C.length) (hk:k=C.length):dq B m (.slc id 0 n e k) e C:=by
 subst hn hk hc
 have hl:=b7 h
 exact ⟨h,Or.inr ⟨id,0,_,_,rfl,hb,hg,ho,by omega,by omega,by rw[List.drop_zero,←hl,List.take_length]⟩⟩
theorem dq.back {B B' m:NH} (h:dq B m v e C) (hb:∀id,aw B' id->aw B id):dq B' m v e C:=by
 obtain ⟨h0,⟨rfl,rfl⟩|⟨id,off,kc,c,rfl,hb',h1,h2,h3,h4⟩⟩:=h
 ·exact ⟨h0,Or.inl ⟨rfl,rfl⟩⟩
 ·exact ⟨h0,Or.inr ⟨id,off,kc,c,rfl,fun q=>hb' (hb _ q),h1,h2,h3,h4⟩⟩
theorem qU {n:Nat} {x:NV} {D:List (List NV)} (h:Sl m x n D) {K:Nat->List NV->NR}:fK n m x K=K D.length D.flatten:=by
 obtain ⟨h0,⟨rfl,rfl⟩|⟨id,off,kc,w,c,rfl,h1,h2,h3,h4⟩⟩:=h
 ·rfl
 ·show cond (Nat.beq n n) (eM m id fun c=>aX (fb c off (Nat.mul D.length n)) fun l=>K D.length l) .fail=_
  rw[Nat.beq_refl]
  show eM m id (fun c=>aX (fb c off (Nat.mul D.length n)) fun l=>K D.length l)=_
  unfold eM
  rw[h1]
  show aX (fb c off (D.length*n)) (fun l=>K D.length l)=_
  rw[fj,Q5 h3,h4];rfl
theorem Chg.put (m:NH) (id:D4) (o:NO):Chg [id] m (m.put id o):=
 ⟨Nat.le_refl _,fun {i} _ hn=>NH.get_put_ne m o (by simpa using hn)⟩
theorem aw.next_ne {m:NH} {i:D4} (h:aw m i):i≠m.next:=by
 intro e;rw[e] at h;exact Nat.lt_irrefl _ h
theorem Chg.add (m:NH) (o:NO):Chg [] m (m.add o):=
 ⟨by show m.next.toNat<=m.next.nxt.toNat;rw[D4.toNat_nxt];omega,fun {i} ho _=>NH.get_add_ne m o ho.next_ne⟩
theorem bh (m:NH) (o:NO):aw (m.add o) m.next:=by
 show m.next.toNat<m.next.nxt.toNat;rw[D4.toNat_nxt];omega
theorem Ae {n bytes:Nat} (h:n*bytes<=1099511627776) (h':n<=1099511627776):room n bytes=true:=by
 unfold room
 rw[show Nat.ble (Nat.mul n bytes) 1099511627776=true from Nat.ble_eq_true_of_le h,show Nat.ble n 1099511627776=true from Nat.ble_eq_true_of_le h']
 rfl
theorem dq.app {B:NH} {x:NV} {D:List (List NV)} {bytes:Nat} (hv:dq B m v e C) (hx:Sl m x e D) (hD:D≠ []) (hB:∀id,aw B id->aw m id) (hr:(C.length+D.length)*bytes<=1099511627776) (hr':C.length+D.length<=1099511627776):
 ∃v' m',B5 e bytes m v x= .mem v' m'/\dq B m' v' e (C++D)/\Chg (ids v) m m':=by
 unfold B5
 rw[qU hx]
 have hDl:∀y∈D,y.length=e:=hx.1
 have hDp:0<D.length:=List.length_pos_iff.mpr hD
 obtain ⟨k,hk⟩:∃k,D.length=k+1:=⟨D.length - 1,by omega⟩
 have hall:∀y∈C++D,y.length=e:=fun y hy=>(List.mem_append.mp hy).elim (hv.1 y) (hDl y)
 have hnext:¬aw B m.next:=fun q=>Nat.lt_irrefl _ (hB _ q)
 obtain ⟨h0,⟨rfl,rfl⟩|⟨id,off,kc,c,rfl,hb,h1,h2,h3,h3',h4⟩⟩:=hv
 ·refine ⟨.slc m.next 0 D.length e D.length,m.add (.cells true D.flatten), ?_, ?_,Chg.add m _⟩
  ·show Nat.rec (motive:=fun _=>NR) (.val .nils) (fun _ _=>cond (room D.length bytes) (m.new (.cells true D.flatten) fun id h=> .mem (.slc id 0 D.length e D.length) h) .fail) D.length=_
   rw[Ae (by simpa using hr) (by simpa using hr'),NH.new_eq,hk];rfl
  ·exact dq.of hall hnext (NH.get_add_same m _) (bh m _) (by simp) (by simp) (by simp)
 ·have e1:fy e bytes m (.slc id off C.length e kc) D.length D.flatten=(cond (Nat.ble (C.length+D.length) kc)
   (aX (dr D.flatten (off+C.length*e) c) fun c=>m.set id (.cells true c) fun h=> .mem (.slc id off (C.length+D.length) e kc) h)
   (aX (dW off c) fun c=>aX (gT (C.length*e) c) fun old=>cond (room (C.length+D.length) bytes)
    (iL old D.flatten fun l=>m.set id .dead fun h=>h.new (.cells true l) fun id h=> .mem (.slc id 0 (C.length+D.length) e (C.length+D.length)) h) .fail)):=by
   show cond (Nat.beq e e) (Nat.rec (motive:=fun _=>NR) (.val (.slc id off C.length e kc)) (fun _ _=>fu m id fun c=>aq (Nat.add C.length D.length) fun n=>cond (Nat.ble n kc)
    (aX (dr D.flatten (Nat.add off (Nat.mul C.length e)) c) fun c=>m.set id (.cells true c) fun h=> .mem (.slc id off n e kc) h)
    (aX (dW off c) fun c=>aX (gT (Nat.mul C.length e) c) fun old=>cond (room n bytes)
     (iL old D.flatten fun l=>m.set id .dead fun h=>h.new (.cells true l) fun id h=> .mem (.slc id 0 n e n) h) .fail)) D.length) .fail=_
   rw[Nat.beq_refl,hk]
   show fu m id _=_
   unfold fu
   rw[h1]
   show aq (C.length+(k+1)) _=_
   rw[ag]
   rfl
  rw[e1]
  have fl:=b7 hDl
  have fc:=b7 h0
  cases hle:Nat.ble (C.length+D.length) kc with
  |true=>
   have hle:=Nat.le_of_ble_eq_true hle
   have hm:C.length*e+D.length*e<=kc*e:=by rw[←Nat.add_mul];exact Nat.mul_le_mul_right e hle
   refine ⟨.slc id off (C.length+D.length) e kc,m.put id (.cells true (c.take (off+C.length*e)++D.flatten++c.drop (off+C.length*e+D.flatten.length))), ?_, ?_,Chg.put m id _⟩
   ·show aX (dr D.flatten (off+C.length*e) c) _=_
    rw[dX,Q5 (by omega)]
    show m.set id _ _=_
    rw[NH.set_eq]
   ·refine ⟨hall,Or.inr ⟨id,off,kc,_,by rw[List.length_append],hb,NH.get_put_same m id _,h2, ?_, ?_, ?_⟩⟩
    ·simp only[List.length_append,List.length_take,List.length_drop,Nat.add_mul];omega
    ·simp only[List.length_append,List.length_take,List.length_drop];omega
    ·have e3:c.take (off+C.length*e)=c.take off++C.flatten:=by rw[List.take_add,h4]
     have e4:(c.take off).length=off:=by rw[List.length_take];omega
     have e5:(c.take off++C.flatten++D.flatten++c.drop (off+C.length*e+D.flatten.length)).drop off=C.flatten++D.flatten++c.drop (off+C.length*e+D.flatten.length):=by
      rw[List.append_assoc,List.append_assoc]
      have:=List.drop_left (l₁:=c.take off) (l₂:=C.flatten++(D.flatten++c.drop (off+C.length*e+D.flatten.length)))
      rw[e4] at this
      rw[this,List.append_assoc]
     rw[e3,e5,List.flatten_append,List.length_append,Nat.add_mul]
     rw[show C.length*e+D.length*e=(C.flatten++D.flatten).length by rw[List.length_append,fl,fc]]
     exact List.take_left
  |false=>
   refine ⟨.slc m.next 0 (C.length+D.length) e (C.length+D.length),(m.put id .dead).add (.cells true (C.flatten++D.flatten)), ?_, ?_, ?_⟩
   ·show aX (dW off c) _=_
    rw[gg,Q5 (by omega)]
    show aX (gT (C.length*e) (c.drop off)) _=_
    rw[gZ,Q5 (by rw[List.length_drop];omega),h4]
    show cond (room (C.length+D.length) bytes) _ _=_
    rw[Ae hr hr']
    show iL C.flatten D.flatten _=_
    rw[eS,NH.set_eq,NH.new_eq];rfl
   ·exact dq.of hall hnext (NH.get_add_same (m.put id .dead) _) (bh (m.put id .dead) _) (by simp) (by simp) (by simp)
   ·exact (Chg.put m id .dead).trans (Chg.add _ _) fun i hi _=>by simp at hi
def pH (off:Nat):List (Nat×NV)->List NV->List NV
 | [],c=>c
 |(k,x)::us,c=>pH off us (c.set (off+k) x)
theorem pq {off:Nat}:∀(us:List (Nat×NV)) (c:List NV),(pH off us c).length=c.length:=by
 intro us
 induction us with
 |nil=>intro c;rfl
 |cons u us ih=>intro c;obtain ⟨k,x⟩:=u;show (pH off us (c.set (off+k) x)).length=_;rw[ih,List.length_set]
theorem dq.at {B:NH} (h:dq B m v e C) (i:Nat) (hi:i<C.length):∃id off c,np e v (.int .i64 (.lit (i:Int)))= .val (.ptr id off)/\ids v= [id]/\¬aw B id/\m.get id=some (.cells true c)/\aw m id/\off+e<=c.length/\(c.drop off).take e=C[i]/\
 ∀(us:List (Nat×NV)) (M:NH),(∀u∈us,u.1<e)->M.get id=some (.cells true (pH off us c))->aw M id->dq B M v e (C.set i (pH 0 us C[i])):=by
 obtain ⟨h0,⟨rfl,rfl⟩|⟨id,off,kc,c,rfl,hb,h1,h2,h3,h3',h4⟩⟩:=h
 ·simp at hi
 ·obtain ⟨h5,h6⟩:=zG h0 rfl h3 h4 i hi
  refine ⟨id,off+i*e,c,Bf (by omega) (by omega),rfl,hb,h1,h2,h5,h6,fun us M hk hM hMo=> ?_⟩
  have hlen:∀y∈C.set i (pH 0 us C[i]),y.length=e:=by
   intro y hy
   rcases List.mem_or_eq_of_mem_set hy with hy|hy
   ·exact h0 y hy
   ·rw[hy,pq];exact h0 _ (List.getElem_mem hi)
  refine ⟨hlen,Or.inr ⟨id,off,kc,_,by rw[List.length_set],hb,hM,hMo,by rw[pq,List.length_set];exact h3,by rw[pq];exact h3', ?_⟩⟩
  rw[List.length_set]
  have hone:∀(k:Nat) (x:NV) (_:k<e) (C:List (List NV)) (_:∀x∈C,x.length=e) (i:Nat) (hi:i<C.length),(C.set i (C[i].set k x)).flatten=C.flatten.set (i*e+k) x:=by
   intro k x hk C
   induction C with
   |nil=>intro _ i hi;simp at hi
   |cons a C ih=>
    intro h i hi
    have ha:=h a (List.mem_cons_self ..)
    cases i with
    |zero=>simp only[List.set_cons_zero,List.flatten_cons,List.getElem_cons_zero,Nat.zero_mul,Nat.zero_add];rw[List.set_append_left _ _ (by omega)]
    |succ i=>
     simp only[List.set_cons_succ,List.flatten_cons,List.getElem_cons_succ]
     rw[ih (fun x hx=>h x (List.mem_cons_of_mem _ hx)) i (by simpa using hi),List.set_append_right _ _ (by rw[ha,Nat.succ_mul];omega),ha,Nat.succ_mul]
     congr 2;omega
  have hall:∀(us:List (Nat×NV)) (_:∀u∈us,u.1<e) (c:List NV) (C:List (List NV)) (_:∀x∈C,x.length=e) (hi:i<C.length),(c.drop off).take (C.length*e)=C.flatten->
   ((pH (off+i*e) us c).drop off).take (C.length*e)=(C.set i (pH 0 us C[i])).flatten:=by
   intro us
   induction us with
   |nil=>intro _ c C _ hi hf;simp[pH];exact hf
   |cons u us ih=>
    obtain ⟨k,x⟩:=u
    intro hk c C hC hi hf
    have hk0:k<e:=hk (k,x) (List.mem_cons_self ..)
    have:=ih (fun u hu=>hk u (List.mem_cons_of_mem _ hu)) (c.set (off+i*e+k) x) (C.set i (C[i].set k x))
     (fun y hy=>by
      rcases List.mem_or_eq_of_mem_set hy with hy|hy
      ·exact hC y hy
      ·rw[hy,List.length_set];exact hC _ (List.getElem_mem hi))
     (by rw[List.length_set];exact hi)
     (by rw[List.length_set,hone k x hk0 C hC i hi,←hf,List.drop_set,Q4 (by omega),List.take_set];congr 1;omega)
    rw[List.getElem_set_self,List.set_set] at this
    simp only[List.length_set] at this
    show ((pH (off+i*e) us (c.set (off+i*e+k) x)).drop off).take (C.length*e)=(C.set i (pH 0 us (C[i].set (0+k) x))).flatten
    rw[Nat.zero_add];exact this
  exact hall us hk c C h0 hi h4
theorem Sl.flat (h:Sl m v e C):Bi v:=by
 obtain ⟨_,⟨rfl,rfl⟩|⟨id,off,kc,w,c,rfl,_⟩⟩:=h<;>trivial
theorem Sl.same (h:Sl m v e C) {n:Nat}:br (n+1) v v=true:=jP h.flat
theorem Sl.ssl (h:Sl m v e C) {t:Tm} {lo hi:Option NOpd} {a b:Nat} (hab:a<=b) (hb:b<=C.length) (hlo:∀K:Nat->NR,iW t lo 0 K=K a) (hhi:∀(d:Nat) (K:Nat->NR),d=C.length->iW t hi d K=K b):
 ∃v',xW e t lo hi v= .val v'/\Sl m v' e ((C.drop a).take (b - a))/\(∀i∈ids v',i∈ids v):=by
 obtain ⟨h0,⟨rfl,rfl⟩|⟨id,off,kc,w,c,rfl,h1,h2,h3,h4⟩⟩:=h
 ·simp at hb
  subst hb
  have ha:a=0:=by omega
  subst ha
  refine ⟨.nils, ?_,⟨by simp,Or.inl ⟨rfl,by simp⟩⟩,fun _ h=>h⟩
  rw[Dc,hhi 0 _ rfl,hlo];rfl
 ·have hlen:((C.drop a).take (b - a)).length=b - a:=by rw[List.length_take,List.length_drop];omega
  have hall:∀x∈(C.drop a).take (b - a),x.length=e:=fun x hx=>h0 x (List.mem_of_mem_drop (List.mem_of_mem_take hx))
  have hmul:a*e+(b - a)*e<=C.length*e:=by rw[←Nat.add_mul];exact Nat.mul_le_mul_right e (by omega)
  refine ⟨.slc id (off+a*e) (b - a) e (kc - a), ?_,⟨hall,Or.inr ⟨id,off+a*e,kc - a,w,c,by rw[hlen],h1,h2,by rw[hlen];omega, ?_⟩⟩,fun _ h=>h⟩
  ·rw[FL,hhi _ _ rfl,hlo,Iy hab hb]
  ·rw[hlen]
   have e1:(c.drop (off+a*e)).take ((b - a)*e)=(((c.drop off).take (C.length*e)).drop (a*e)).take ((b - a)*e):=by
    rw[List.drop_take,List.take_take,List.drop_drop,Nat.min_eq_left (by omega)]
   rw[e1,h4]
   have e2:C.flatten=(C.take a).flatten++(((C.drop a).take (b - a)).flatten++((C.drop a).drop (b - a)).flatten):=by
    rw[←List.flatten_append,List.take_append_drop,←List.flatten_append,List.take_append_drop]
   have e3:((C.take a).flatten).length=a*e:=by
    rw[b7 fun x hx=>h0 x (List.mem_of_mem_take hx),List.length_take,Nat.min_eq_left (by omega)]
   have e4:(((C.drop a).take (b - a)).flatten).length=(b - a)*e:=by rw[b7 hall,hlen]
   rw[e2,←e3,List.drop_left,←e4,List.take_left]
theorem cn {c cs:List NV} {off e:Nat} (h:(c.drop off).take e=cs) (k:Nat) (hk:k<e):c[off+k]? =cs[k]? :=by
 rw[←h,List.getElem?_take_of_lt hk,List.getElem?_drop]
end
end Nm
namespace Nm
open Go Go.RowKit
section
variable {L:List (D4×NV)} {t:Tm} {ctx:Option NV} {m:NH} {K:NV->NH->Prop}
theorem Ko {q:Bool}:(q==true)=q:=by cases q<;>rfl
theorem Ja {q:Bool}:(q==false)= !q:=by cases q<;>rfl
theorem aH {l:List (AK×NO)} {k:Nat} {m:NH} {S:List D4} (h:aF l=S):Chg S m (hp l k m):=h▸pn l k m
def Hb (f:List NV->List NV) (o:Option (List NV)):Option (List NV):=match o with|some l=>some (f l)|none=>none
theorem Jj {f:List NV->List NV} {l:List NV}:Hb f (some l)=some (f l):=_root_.id rfl
noncomputable def Pn (t:Tm) (ps:List (Nat×Nat×NOpd)) (off k cur:Nat) (l:List NV) (o:Option (List NV)):Option (List NV):=match o with
 |some cs=>if cs.length=k/\cur<=off/\off - cur+k<=l.length then Hb (fun r=>l.take (off - cur)++(cs++r)) (cM t ps (off+k) (l.drop (off - cur+k))) else none
 |none=>none
theorem MV {t:Tm} {cur:Nat} {l:List NV}:cM t [] cur l=some l:=_root_.id rfl
theorem F7 {α:Type} (K:List α->Option (List α)):∀(k:Nat) (l:List α),gF k K l=if k<=l.length then (match K (l.drop k) with|some r=>some (l.take k++r)|none=>none) else none:=by
 intro k
 induction k with
 |zero=>intro l;show K l=_;simp;cases K l<;>rfl
 |succ k ih=>
  intro l
  cases l with
  |nil=>simp;rfl
  |cons a l=>
   show Option.rec (motive:=fun _=>Option (List α)) none (fun t'=>some (a::t')) (gF k K l)=_
   rw[ih]
   by_cases h:k<=l.length
   ·rw[Q5 h,Q5 (by simpa using h),List.drop_succ_cons]
    cases K (l.drop k)<;>rfl
   ·rw[Q4 h,Q4 (by simpa using h)]
theorem Ql {t:Tm} {ps:List (Nat×Nat×NOpd)} {off k cur:Nat} {x:NOpd} {l:List NV}:cM t ((off,k,x)::ps) cur l=oO (ρ t x) fun v=>Pn t ps off k cur l (cellsOf v):=by
 show Option.rec (motive:=fun _=>Option (List NV)) none (fun v:NV=>Option.rec (motive:=fun _=>Option (List NV)) none (fun cs=>dG cs fun j=>cond (Nat.beq j k) (cond (Nat.ble cur off)
  (gF (Nat.sub off cur) (fun l=>Option.rec (motive:=fun _=>Option (List NV)) none (fun l=>Option.rec (motive:=fun _=>Option (List NV)) none (fun l=>iL cs l some) (cM t ps (Nat.add off j) l)) (dW j l)) l) none) none) (cellsOf v)) (ρ t x)=_
 cases ρ t x with
 |none=>rfl
 |some v=>
  show Option.rec (motive:=fun _=>Option (List NV)) none (fun cs=>dG cs fun j=>cond (Nat.beq j k) (cond (Nat.ble cur off)
   (gF (Nat.sub off cur) (fun l=>Option.rec (motive:=fun _=>Option (List NV)) none (fun l=>Option.rec (motive:=fun _=>Option (List NV)) none (fun l=>iL cs l some) (cM t ps (Nat.add off j) l)) (dW j l)) l) none) none) (cellsOf v)=Pn t ps off k cur l (cellsOf v)
  cases cellsOf v with
  |none=>rfl
  |some cs=>
   show dG cs (fun j=>cond (Nat.beq j k) (cond (Nat.ble cur off)
    (gF (Nat.sub off cur) (fun l=>Option.rec (motive:=fun _=>Option (List NV)) none (fun l=>Option.rec (motive:=fun _=>Option (List NV)) none (fun l=>iL cs l some) (cM t ps (Nat.add off j) l)) (dW j l)) l) none) none)=if cs.length=k/\cur<=off/\off - cur+k<=l.length then _ else _
   rw[bJ]
   cases hb:Nat.beq cs.length k with
   |false=>rw[Q4 (fun h=>Nat.ne_of_beq_eq_false hb h.1)];rfl
   |true=>
    have hk:=Ra hb
    subst hk
    cases hle:Nat.ble cur off with
    |false=>rw[Q4 (fun h=>by rw[Nat.ble_eq_true_of_le h.2.1] at hle;cases hle)];rfl
    |true=>
     have hle:=Nat.le_of_ble_eq_true hle
     show gF (off - cur) (fun l=>Option.rec (motive:=fun _=>Option (List NV)) none (fun l=>Option.rec (motive:=fun _=>Option (List NV)) none (fun l=>iL cs l some) (cM t ps (off+cs.length) l)) (dW cs.length l)) l=_
     rw[F7]
     by_cases h1:off - cur<=l.length
     ·rw[Q5 h1,gg,List.length_drop]
      by_cases h2:cs.length<=l.length - (off - cur)
      ·rw[Q5 h2,Q5 ⟨rfl,hle,by omega⟩,List.drop_drop]
       dsimp only
       cases cM t ps (off+cs.length) (l.drop (off - cur+cs.length)) with
       |none=>rfl
       |some r=>dsimp only[Hb];rw[eS]
      ·rw[Q4 h2,Q4 (fun h=>h2 (by omega))]
     ·rw[Q4 h1,Q4 (fun h=>h1 (by omega))]
theorem Nl {t:Tm} {ps:List (Nat×Nat×NOpd)} {off k cur:Nat} {cs l:List NV} (h1:cs.length=k) (h2:cur<=off) (h3:off - cur+k<=l.length):
 Pn t ps off k cur l (some cs)=Hb (fun r=>l.take (off - cur)++(cs++r)) (cM t ps (off+k) (l.drop (off - cur+k))):=Q5 ⟨h1,h2,h3⟩
theorem a6.wf' {P:Program} {E:NV->NH->Prop} {S:cR} {f:Nat} {args:List NV} {m m':NH} {v:NV} (h:a6 P S f args m v m') {K:NV->NH->Prop}:WF ⟨P,E⟩ S f args m K=K v m':=by
 rw[h.wf,ab]
theorem Er (m:NH) (o:NO):hp [(.n 0,o)] 1 m=m.add o:=by
 have:=EW (m:=m) (l:= []) (k:=0) (o:=o)
 rw[ab] at this
 exact this.symm
theorem dq.app1 {B m:NH} {v:NV} {e:Nat} {C:List (List NV)} {x:D4} {w:Bool} {cs:List NV} {kc bytes:Nat} (hv:dq B m v e C) (hx:m.get x=some (.cells w cs)) (hox:aw m x) (hl:cs.length=e) (hB:∀id,aw B id->aw m id)
 (hr:(C.length+1)*bytes<=1099511627776) (hr':C.length+1<=1099511627776):∃v' m',B5 e bytes m v (.slc x 0 1 e kc)= .mem v' m'/\dq B m' v' e (C++ [cs])/\Chg (ids v) m m':=
 hv.app (D:= [cs]) ⟨fun y hy=>by simp at hy;rw[hy];exact hl,Or.inr ⟨x,0,kc,w,cs,rfl,hx,hox,by subst hl;simp,by subst hl;simp⟩⟩ (by simp) hB hr hr'
theorem Gy {P:PE} {S:cR} {dst:D4} {L:List (D4×NV)} {t:Tm} {dfs:List Dfr} {ctx:Option NV} {K:Dyn->Prop} {B m:NH} {v:NV} {e:Nat} {C:List (List NV)} {x:D4} {w:Bool} {cs:List NV} {kc bytes:Nat} (hv:dq B m v e C) (hx:m.get x=some (.cells w cs)) (hox:aw m x) (hl:cs.length=e) (hB:∀id,aw B id->aw m id)
 (hr:(C.length+1)*bytes<=1099511627776) (hr':C.length+1<=1099511627776) (h:∀v' m',dq B m' v' e (C++ [cs])->Chg (ids v) m m'->K ⟨am ((dst,v')::L) t,dfs,ctx,hp [] 0 m'⟩):
 wN P S (some dst) (am L t) dfs ctx m (B5 e bytes m v (.slc x 0 1 e kc)) K:=by
 obtain ⟨v',m',h1,h2,h3⟩:=hv.app1 (bytes:=bytes) (kc:=kc) hx hox hl hB hr hr'
 have:=h v' m' h2 h3
 rw[ab] at this
 rw[h1];exact this
theorem KS {b:Bool}:cellsOf (.bool b)=some [.bool b]:=_root_.id rfl
theorem O3 {k:IntKind} {x:SI}:cellsOf (.int k x)=some [.int k x]:=_root_.id rfl
theorem NP {l:List Nat}:cellsOf (.str l)=some [.str l]:=_root_.id rfl
theorem OX {i:D4} {o:Nat}:cellsOf (.ptr i o)=some [.ptr i o]:=_root_.id rfl
theorem JO:cellsOf (.nils)=some [.nils]:=_root_.id rfl
theorem NN {i:D4} {o n e k:Nat}:cellsOf (.slc i o n e k)=some [.slc i o n e k]:=_root_.id rfl
theorem MW {l:List NV}:cellsOf (.agg l)=some l:=_root_.id rfl
noncomputable def Ob (ty:Nat) (m:NH) (o:Option (List NV)):NR:=match o with|some cs=> .mem (.ptr m.next 0) (m.add (cond (MT ty) (.cellsT ty cs) (.cells true cs)))|none=> .fail
theorem O5 {t:Tm} {m:NH} {x:NOpd} {ty:Nat}:af (.box x ty) t m=oN (ρ t x) fun v=>Ob ty m (cellsOf v):=JP
theorem MX {ty:Nat} {m:NH} {cs:List NV}:Ob ty m (some cs)= .mem (.ptr m.next 0) (m.add (cond (MT ty) (.cellsT ty cs) (.cells true cs))):=_root_.id rfl
abbrev ii (z:Int):NV:= .int .i64 (.lit z)
end
end Nm
namespace Nm
open Go Go.RowKit
def qi (P:Program) (S:cR) (q:D4) (args:List NV) (m:NH) (v:NV) (m':NH):Prop:=∃c,wI P S q args m (.val v c m')
def WY (P:Program) (S:cR) (q:D4) (args:List NV) (m:NH) (K:NV->NH->Prop):Prop:=∃v c m',wI P S q args m (.val v c m')/\K v m'
section
variable {P:Program} {S:cR} {f:Nat} {q:D4} {args:List NV} {m:NH}
theorem wI.det {x y:CR} (h:wI P S q args m x) (h':wI P S q args m y):x=y:=by
 obtain ⟨hn,n,e⟩:=h
 obtain ⟨hn',k,e'⟩:=h'
 rw[←fM (bY (Nat.le_max_left n k)) e hn,fM (bY (Nat.le_max_right n k)) e' hn']
theorem qi.wy {v:NV} {m':NH} (h:qi P S q args m v m') {K:NV->NH->Prop}:WY P S q args m K=K v (hp [] 0 m'):=by
 rw[ab]
 apply propext
 constructor
 ·rintro ⟨u,c,n,hc,hk⟩
  obtain ⟨c',h'⟩:=h
  have:=wI.det hc h'
  injection this with a _ b
  rw[←a,←b];exact hk
 ·intro hk
  obtain ⟨c,h⟩:=h
  exact ⟨v,c,m',h,hk⟩
def G1 (q:D4) (K:NV->NH->Prop) (o:Out) (d:Dyn):Prop:=match d.h.get q with
 |some (.loop _ _ tm ps a b)=>(match o with
  | .norm=>K (.bool true) (d.h.put q (.loop 0 .none tm ps a b))
  | .ret=>K (.bool false) (d.h.put q (.loop 2 .ret tm ps a b))
  | .exit i=>K (.bool false) (d.h.put q (.loop 2 (.exit i) tm ps a b))
  | .pan _=>False)
 |_=>False
theorem WY.of_wp {p:Jump} {tm:NT NV} {ps:List D4} {a b A B:NC} {K:NV->NH->Prop} (hm:m.get q=some (.loop 0 p tm ps a b)) (hlen:args.length=ps.length) (ea:a=A) (eb:b=B)
 (h:wp P S (some q) A ⟨qH ps args tm, [],none,hp [] 0 m⟩ (fun o d=>o= .norm/\d.dfs= []/\d.h.get q=some (.loop 0 p tm ps a b)/\wp P S (some q) B ⟨d.t, [],none,d.h.put q (.loop 1 p tm ps a b)⟩ (G1 q K))):WY P S q args m K:=by
 subst ea eb
 rw[ab] at h
 obtain ⟨o,d1,h1,h2⟩:=aM _ _ _ h
 cases o with
 |pan v=>exact h2.2.elim
 |ret=>exact Q3 h2.1 (by simp)
 |exit i=>exact Q3 h2.1 (by simp)
 |norm=>
 obtain ⟨-,hd,hq,h2⟩:=h2
 obtain ⟨o,d2,h3,h4⟩:=aM _ _ _ h2
 have h4:G1 q K o d2:=by
  cases o with
  |pan v=>exact h4.2.elim
  |_=>exact h4
 unfold G1 at h4
 cases hg:d2.h.get q with
 |none=>rw[hg] at h4;exact h4.elim
 |some w=>
  rw[hg] at h4
  cases w with
  |loop st p2 tm2 ps2 a2 b2=>
   cases o with
   |norm=>exact ⟨_,none,_,wI.of hm hlen h1 hd hq h3 (by simp) (by unfold eC;rw[hg];exact NH.set_eq _ _ _ _) (by simp),h4⟩
   |ret=>exact ⟨_,none,_,wI.of hm hlen h1 hd hq h3 (by simp) (by unfold eC;rw[hg];exact NH.set_eq _ _ _ _) (by simp),h4⟩
   |exit i=>exact ⟨_,none,_,wI.of hm hlen h1 hd hq h3 (by simp) (by unfold eC;rw[hg];exact NH.set_eq _ _ _ _) (by simp),h4⟩
   |pan v=>exact h4.elim
  |_=>exact h4.elim
noncomputable def QN (q:D4) (K:NV->NH->Prop) (o:Out) (m:NH) (x:Option NO):Prop:=match x with
 |some (.loop _ _ tm ps a b)=>(match o with
  | .norm=>K (.bool true) (m.put q (.loop 0 .none tm ps a b))
  | .ret=>K (.bool false) (m.put q (.loop 2 .ret tm ps a b))
  | .exit i=>K (.bool false) (m.put q (.loop 2 (.exit i) tm ps a b))
  | .pan _=>False)
 |_=>False
theorem IZ {K:NV->NH->Prop} {o:Out} {t:Tm} {dfs:List Dfr} {ctx:Option NV}:G1 q K o ⟨t,dfs,ctx,m⟩=QN q K o m (m.get q):=_root_.id rfl
section
variable {K:NV->NH->Prop} {st:Nat} {p:Jump} {tm:NT NV} {ps:List D4} {a b:NC} {i:Nat}
theorem MD:QN q K .norm m (some (.loop st p tm ps a b))=K (.bool true) (m.put q (.loop 0 .none tm ps a b)):=_root_.id rfl
end
theorem WY.ret {K:NV->NH->Prop} (h:WY P S q args m K):∃v m',qi P S q args m v m'/\K v m':=by
 obtain ⟨v,c,m',hc,hk⟩:=h;exact ⟨v,m',⟨c,hc⟩,hk⟩
theorem WY.ex {Φ:NV->NH->Prop} (h:∀K:NV->NH->Prop,(∀v m',Φ v m'->K v m')->WY P S q args m K):∃v m',qi P S q args m v m'/\Φ v m':=(h Φ fun _ _ h=>h).ret
theorem WF.ex {Φ:NV->NH->Prop} (h:∀K:NV->NH->Prop,(∀v m',Φ v m'->K v m')->WF P S f args m K):∃v m',a6 P S f args m v m'/\Φ v m':=(h Φ fun _ _ h=>h).ret
theorem CV {t:Tm}:am [] t=t:=rfl
def vq (ks:List D4) (t t':Tm):Prop:=∀k,k∉ks->NT.get k t'=NT.get k t
theorem vq.refl (ks:List D4) (t:Tm):vq ks t t:=fun _ _=>rfl
theorem vq.get {ks:List D4} {t t':Tm} (h:vq ks t t') {k:D4} {v:Option NV} (g:NT.get k t=v) (hk:k∉ks):NT.get k t'=v:=(h k hk).trans g
theorem vq.trans {ks ls:List D4} {a b c:Tm} (h:vq ks a b) (h':vq ls b c) (hs:∀k∈ls,k∈ks):vq ks a c:=fun k hk=>(h' k fun q=>hk (hs k q)).trans (h k hk)
noncomputable def Bw:List Dfr->NH->Option NH
 | [],m=>some m
 | .mark id::l,m=>(match m.get id with|some (.defd true)=>Bw l (m.put id (.defd false))|_=>none)
 | .call ..::_,_=>none
def JU (rs:List NRes) (K:NV->NH->Prop) (o:Out) (d:Dyn):Prop:=(o= .norm∨o= .ret)/\∃m',Bw d.dfs d.h=some m'/\∃v,cG m' d.t rs .fail (fun l=> .val (iC l) d.ctx m')= .val v d.ctx m'/\K v m'
theorem pZ {F:Nat->List NV->Option NV->NH->CR} {K:Option NV->NH->CR}:∀(l:List Dfr) (m m':NH) (p:Option NV),Bw l m=some m'->unwind F K l p m=K p m':=by
 intro l
 induction l with
 |nil=>intro m m' p h;injection h with h;rw[←h];rfl
 |cons c l ih=>
  intro m m' p h
  cases c with
  |call f cap=>cases h
  |mark id=>
   show (match m.get id with
    |some (.defd true)=>m.set id (.defd false) fun h=>unwind F K l p h
    |_=>CR.fail)=_
   change (match m.get id with|some (.defd true)=>Bw l (m.put id (.defd false))|_=>none)=some m' at h
   cases hg:m.get id with
   |none=>rw[hg] at h;cases h
   |some o=>
    rw[hg] at h
    cases o with
    |defd b=>cases b with
     |true=>dsimp only at h ⊢;rw[NH.set_eq];exact ih _ _ _ h
     |false=>cases h
    |_=>cases h
theorem Call.of_runM {nf:NFun} (hs:∀l,S f l=fun _=>none) (hf:ah P f=some (.code nf)) {o:Out} {d:Dyn} {m':NH} (ho:o= .norm∨o= .ret) (h:dL P S none nf.body ⟨cN args 0 .leaf, [],none,m⟩ o d)
 (hd:Bw d.dfs d.h=some m') {v:NV} (hv:cG m' d.t nf.results .fail (fun l=> .val (iC l) d.ctx m')= .val v d.ctx m'):Call P S f args m (.val v d.ctx m'):=by
 obtain ⟨n,hn⟩:=h
 refine ⟨by simp,n, ?_⟩
 unfold bZ
 rw[hs args]
 dsimp only
 rw[hf]
 show cL P (ev P S n) 3 f args none m=_
 rw[dx,hf]
 dsimp only
 rw[hn]
 rcases ho with rfl|rfl
 ·show unwind _ (finish nf.results d) d.dfs none d.h=_
  rw[pZ _ _ _ _ hd];exact hv
 ·show unwind _ (finish nf.results d) d.dfs none d.h=_
  rw[pZ _ _ _ _ hd];exact hv
theorem WF.of_wpM {nf:NFun} (hs:∀l,S f l=fun _=>none) (hf:ah P f=some (.code nf)) {K:NV->NH->Prop} {L:List (D4×NV)} (hL:cN args 0 .leaf=am L .leaf)
 (h:wp P S none nf.body ⟨am L .leaf, [],none,hp [] 0 m⟩ (JU nf.results K)):WF P S f args m K:=by
 rw[ab] at h
 obtain ⟨o,d,h1,h2⟩:=aM _ _ _ h
 rw[←hL] at h1
 cases o with
 |pan v=>exact h2.2.elim
 |_=>
  obtain ⟨ho,m',hd,v,hv,hK⟩:=h2
  exact Or.inl ⟨v,d.ctx,m',Call.of_runM hs hf ho h1 hd hv,hK⟩
noncomputable def Qt (rs:List NRes) (K:NV->NH->Prop) (t:Tm) (ctx:Option NV) (o:Option NH):Prop:=match o with|some m'=>Ic rs K .ret ⟨t, [],ctx,m'⟩|none=>False
theorem HK {rs:List NRes} {K:NV->NH->Prop} {t:Tm} {ctx:Option NV} {dfs:List Dfr} {o:Out} (ho:o= .norm∨o= .ret):JU rs K o ⟨t,dfs,ctx,m⟩=Qt rs K t ctx (Bw dfs m):=by
 apply propext
 constructor
 ·rintro ⟨_,m',h1,v,h2,h3⟩
  change Bw dfs m=some m' at h1
  rw[h1]
  exact ⟨Or.inr rfl,rfl,v,h2,h3⟩
 ·intro h
  cases hu:Bw dfs m with
  |none=>rw[hu] at h;exact h.elim
  |some m'=>
   rw[hu] at h
   obtain ⟨_,_,v,h2,h3⟩:=h
   exact ⟨ho,m',hu,v,h2,h3⟩
theorem Lk {rs:List NRes} {K:NV->NH->Prop} {t:Tm} {ctx:Option NV} {dfs:List Dfr}:JU rs K .ret ⟨t,dfs,ctx,m⟩=Qt rs K t ctx (Bw dfs m):=HK (.inr rfl)
theorem ND {rs:List NRes} {K:NV->NH->Prop} {t:Tm} {ctx:Option NV}:Qt rs K t ctx (some m)=Ic rs K .ret ⟨t, [],ctx,m⟩:=_root_.id rfl
theorem Io {P:PE} {r:Option D4} {g:NOpd} {ps:List D4} {a b:NC} {d:Dyn} {Q:Out->Dyn->Prop}:wp P S r (.rangeFunc g ps a b) d Q=W P S r (.rangeFunc g ps a b) d Q:=_root_.id rfl
theorem JJ:Bw [] m=some m:=_root_.id rfl
noncomputable def N0 (l:List Dfr) (i:D4) (m:NH) (o:Option NO):Option NH:=match o with|some (.defd true)=>Bw l (m.put i (.defd false))|_=>none
theorem ML {l:List Dfr} {i:D4}:Bw (.mark i::l) m=N0 l i m (m.get i):=_root_.id rfl
theorem LO {l:List Dfr} {i:D4}:N0 l i m (some (.defd true))=Bw l (m.put i (.defd false)):=_root_.id rfl
theorem W.range {cap:List NV} {fx:NOpd} {ps:List D4} {a b:NC} {t:Tm} {dfs:List Dfr} {ctx:Option NV} {Q:Out->Dyn->Prop} {M m':NH} {v:NV}
 (hf:ρ t fx=some (.fn f cap)) {x:D4} (hx:m.next=x) {y:D4} (hy:(m.add (.defd true)).next=y) (hM:(m.add (.defd true)).add (.loop 0 .none t ps a b)=M) (hc:a6 P S f (.yld y::cap) M v m')
 {tm:NT NV} {ps':List D4} {a' b':NC} (hl:m'.get y=some (.loop 0 .none tm ps' a' b')) (hQ:Q .norm ⟨t,.mark x::dfs,ctx,hp [] 0 (m'.put y (.loop 3 .none tm ps' a' b'))⟩):
 W P S none (.rangeFunc fx ps a b) ⟨t,dfs,ctx,m⟩ Q:=by
 subst hx hy hM
 rw[ab] at hQ
 obtain ⟨c,hc⟩:=hc
 refine ⟨.norm,_,dL.range hf hc ?_,hQ⟩
 unfold gd
 rw[hl]
 dsimp only
 rw[show Nat.beq 0 1=false from rfl,cond_false,NH.set_eq]
theorem W.rangeN {cap:List NV} {fx:NOpd} {ps:List D4} {a b:NC} {t:Tm} {dfs:List Dfr} {ctx:Option NV} {Q:Out->Dyn->Prop} {m':NH} {v:NV}
 (hf:ρ t fx=some (.fn f cap)) (hc:a6 P S f (.yld (na m 1)::cap) (hp [(.n 1,.loop 0 .none t ps a b),(.n 0,.defd true)] 2 m) v m')
 {tm:NT NV} {ps':List D4} {a' b':NC} (hl:m'.get (na m 1)=some (.loop 0 .none tm ps' a' b')) (hQ:Q .norm ⟨t,.mark (na m 0)::dfs,ctx,hp [(.o (na m 1),.loop 3 .none tm ps' a' b')] 0 m'⟩) (ho:aw m' (na m 1)):
 W P S none (.rangeFunc fx ps a b) ⟨t,dfs,ctx,m⟩ Q:=by
 have e1:(m.add (.defd true)).next=na m 1:=by rw[←Er];rfl
 refine W.range hf (AZ m).symm e1 ?_ hc hl ?_
 ·rw[←Er m (.defd true),EW]
 ·rw[←oF ho,ab] at hQ
  rw[ab];exact hQ
end
end Nm
namespace Nm
open Go Go.RowKit
section
variable (P:PE) (S:cR) (r:Option D4)
def Gk (c:NC) (Q:Out->Dyn->Prop) (d:Dyn):Prop:=wp P S r c d Q
def Ct (dst:Option D4) (t:Tm) (dfs:List Dfr) (ctx:Option NV) (m:NH) (x:NR) (l:List NOper) (K:Dyn->Prop):Prop:=wN P S dst t dfs ctx m x fun d=>wO P S l d K
def zI (dst:Option D4) (t:Tm) (dfs:List Dfr) (ctx:Option NV) (l:List NOper) (K:Dyn->Prop) (v:NV) (m:NH):Prop:=wO P S l ⟨aQ dst v t,dfs,ctx,m⟩ K
def gA (dst:Option D4) (op:NOp) (l:List NOper) (K:Dyn->Prop) (d:Dyn):Prop:=Ct P S dst d.t d.dfs d.ctx d.h (af op d.t d.h) l K
def gB (dst:Option D4) (l:List NOper) (K:Dyn->Prop) (d:Dyn):Prop:=wO P S l ⟨aQ dst aS d.t,d.dfs,d.ctx,d.h⟩ K
def dA (dst:Option D4) (op:NOp) (pre idx:Nat) (l:List NOper) (hs:List (Nat×NH)) (rs:List (Nat×(NH->NR)×NV)) (K:Dyn->Prop) (d:Dyn):Prop:=wX (ax op) (af op d.t d.h) P S (af op d.t) dst pre idx l hs rs d K
def dB (dst:Option D4) (l:List NOper) (hs:List (Nat×NH)) (rs:List (Nat×(NH->NR)×NV)) (K:Dyn->Prop) (d:Dyn):Prop:=wD P S l hs rs ⟨aQ dst aS d.t,d.dfs,d.ctx,d.h⟩ K
def MQ (pre idx:Nat) (m:NH) (l:List NOper) (hs:List (Nat×NH)) (rs:List (Nat×(NH->NR)×NV)) (K:Dyn->Prop) (d:Dyn):Prop:=stays pre d.h rs=true/\wD P S l ((idx,m)::hs) rs d K
def E9 (dst:Option D4) (t:Tm) (dfs:List Dfr) (ctx:Option NV) (K:Dyn->Prop) (v:NV) (m:NH):Prop:=K ⟨aQ dst v t,dfs,ctx,m⟩
end
section
variable {P:PE} {S:cR} {r:Option D4} {dst:Option D4} {op:NOp} {pre idx:Nat} {l:List NOper} {hs:List (Nat×NH)} {rs:List (Nat×(NH->NR)×NV)}
 {L:List (D4×NV)} {t:Tm} {dfs:List Dfr} {ctx:Option NV} {m m':NH} {v:NV} {k g:D4} {d:Dyn} {Q:Out->Dyn->Prop} {K:Dyn->Prop} {b:Bool}
theorem Oc {x y:NC}:wp P S r (.seq x y) d Q=wp P S r x d (dR (Gk P S r y Q) Q):=_root_.id rfl
theorem OJ {c:NC}:Gk P S r c Q d=wp P S r c d Q:=_root_.id rfl
theorem LG {g:NOpd} {x y:NC}:wp P S r (.cond g x y) ⟨am L t,dfs,ctx,m⟩ Q=wC (ρ (am L t) g) (Gk P S r x Q) (Gk P S r y Q) ⟨am L t,dfs,ctx,m⟩:=_root_.id rfl
theorem LM:wO P S (⟨dst,op,none,pre,idx⟩::l) ⟨am L t,dfs,ctx,m⟩ K=Ct P S dst (am L t) dfs ctx m (af op (am L t) m) l K:=_root_.id rfl
theorem Mr:Ct P S (some k) (am L t) dfs ctx m (.val v) l K=wO P S l ⟨am ((k,v)::L) t,dfs,ctx,m⟩ K:=_root_.id rfl
theorem Ni:Ct P S (some k) (am L t) dfs ctx m (.mem v m') l K=wO P S l ⟨am ((k,v)::L) t,dfs,ctx,m'⟩ K:=_root_.id rfl
theorem Jy:Ct P S none (am L t) dfs ctx m (.mem v m') l K=wO P S l ⟨am L t,dfs,ctx,m'⟩ K:=_root_.id rfl
theorem Jz {f:Nat} {args:List NV}:Ct P S dst t [] ctx m (.call f args) l K=WF P S f args m (zI P S dst t [] ctx l K):=_root_.id rfl
theorem HN {x:Dfr} {f:Nat} {args:List NV}:Ct P S dst t (x::dfs) ctx m (.call f args) l K=WF P.p S f args m (zI P S dst t (x::dfs) ctx l K):=_root_.id rfl
theorem NU {v:NV}:Ct P S dst t [] ctx m (.pan v) l K=P.E v m:=_root_.id rfl
theorem OY {q:D4} {args:List NV}:Ct P S dst t dfs ctx m (.yld q args) l K=WY P.p S q args m (zI P S dst t dfs ctx l K):=_root_.id rfl
theorem HM:zI P S (some k) (am L t) dfs ctx l K v m=wO P S l ⟨am ((k,v)::L) t,dfs,ctx,m⟩ K:=_root_.id rfl
theorem Ii:wO P S (⟨dst,op,some (g,b),pre,idx⟩::l) ⟨am L t,dfs,ctx,m⟩ K=wG (gP g L (NT.get g t)) b (gA P S dst op l K) (gB P S dst l K) ⟨am L t,dfs,ctx,m⟩:=Is
theorem Qy:gA P S dst op l K ⟨am L t,dfs,ctx,m⟩=Ct P S dst (am L t) dfs ctx m (af op (am L t) m) l K:=_root_.id rfl
theorem PP:gB P S (some k) l K ⟨am L t,dfs,ctx,m⟩=wO P S l ⟨am ((k,aS)::L) t,dfs,ctx,m⟩ K:=_root_.id rfl
theorem DU:wD P S (⟨dst,op,some (g,b),pre,idx⟩::l) hs rs ⟨am L t,dfs,ctx,m⟩ K=wG (gP g L (NT.get g t)) b (dA P S dst op pre idx l hs rs K) (dB P S dst l hs rs K) ⟨am L t,dfs,ctx,m⟩:=Dy
theorem QK:dA P S dst op pre idx l hs rs K ⟨am L t,dfs,ctx,m⟩=wX (ax op) (af op (am L t) m) P S (af op (am L t)) dst pre idx l hs rs ⟨am L t,dfs,ctx,m⟩ K:=_root_.id rfl
theorem QD:dB P S (some k) l hs rs K ⟨am L t,dfs,ctx,m⟩=wD P S l hs rs ⟨am ((k,aS)::L) t,dfs,ctx,m⟩ K:=_root_.id rfl
def Mn (b:Bool) (P:PE) (S:cR) (dst:Option D4) (t:Tm) (dfs:List Dfr) (ctx:Option NV) (m:NH) (x:NR) (K:Dyn->Prop):Prop:=P2 P S b dst t dfs ctx m x K
section
variable {f:NH->NR}
theorem La {x:NR}:wX .eff x P S f dst pre idx l hs rs ⟨t,dfs,ctx,m⟩ K=(ahead pre hs=true/\Mn (qJ hs idx l) P S dst t dfs ctx m x (MQ P S pre idx m l hs rs K)):=_root_.id rfl
end
theorem CW:Mn b P S (some k) (am L t) dfs ctx m (.mem v m') K=K ⟨am ((k,v)::L) t,dfs,ctx,m'⟩:=by cases b<;>rfl
theorem Gu:Mn b P S none (am L t) dfs ctx m (.mem v m') K=K ⟨am L t,dfs,ctx,m'⟩:=by cases b<;>rfl
theorem G9 {f:Nat} {args:List NV}:Mn true P S dst t [] ctx m (.call f args) K=WF P S f args m (E9 dst t [] ctx K):=_root_.id rfl
theorem C1 {P:Program} {f:Nat} {args:List NV}:Mn b P S dst t dfs ctx m (.call f args) K=WF P S f args m (E9 dst t dfs ctx K):=by cases b<;>cases dfs<;>rfl
theorem Mh {x:Nat×NH} {i:Nat}:qJ (x::hs) i l=false:=_root_.id rfl
theorem Gx {i:Nat}:qJ [] i l=bQ i l:=_root_.id rfl
theorem LY {i:Nat}:bQ i []=true:=_root_.id rfl
theorem MA {i:Nat} {g:Option (D4×Bool)}:bQ i (⟨dst,op,g,pre,idx⟩::l)=cond (Nat.testBit pre i) (bQ i l) false:=_root_.id rfl
theorem Hc:E9 (some k) (am L t) dfs ctx K v m=K ⟨am ((k,v)::L) t,dfs,ctx,m⟩:=_root_.id rfl
theorem KV {m0:NH}:MQ P S pre idx m0 l hs rs K ⟨t,dfs,ctx,m⟩=(stays pre m rs=true/\wD P S l ((idx,m0)::hs) rs ⟨t,dfs,ctx,m⟩ K):=_root_.id rfl
theorem pM {B:NH} {e:Nat} {C:List (List NV)} {x:D4} {w:Bool} {cs:List NV} {kc bytes:Nat} (hv:dq B m v e C) (hx:m.get x=some (.cells w cs)) (hox:aw m x) (hl:cs.length=e) (hB:∀id,aw B id->aw m id)
 (hr:(C.length+1)*bytes<=1099511627776) (hr':C.length+1<=1099511627776) (h:∀v' m',dq B m' v' e (C++ [cs])->Chg (ids v) m m'->wO P S l ⟨am ((k,v')::L) t,dfs,ctx,hp [] 0 m'⟩ K):
 Ct P S (some k) (am L t) dfs ctx m (B5 e bytes m v (.slc x 0 1 e kc)) l K:=Gy hv hx hox hl hB hr hr' h
theorem Hw {e a b:Nat} {C:List (List NV)} {lo hi:Option NOpd} (h:Sl m v e C) (hab:a<=b) (hb:b<=C.length) (hlo:∀K:Nat->NR,iW (am L t) lo 0 K=K a) (hhi:∀(d:Nat) (K:Nat->NR),d=C.length->iW (am L t) hi d K=K b)
 (hK:∀v',Sl m v' e ((C.drop a).take (b - a))->(∀i∈ids v',i∈ids v)->wO P S l ⟨am ((k,v')::L) t,dfs,ctx,m⟩ K):Ct P S (some k) (am L t) dfs ctx m (xW e (am L t) lo hi v) l K:=by
 obtain ⟨v',h1,h2,h3⟩:=h.ssl hab hb hlo hhi
 rw[h1];exact hK v' h2 h3
end
end Nm
namespace Nm
open Go Go.RowKit
section
variable {t:Tm} {m:NH}
def IA (v:NV):NR:=match v with| .str s=> .val (.int .i64 (.lit (s.length:Int)))|_=> .fail
theorem Js {x:NOpd}:af (.lenStr x) t m=oN (ρ t x) IA:=by
 show wV t x (fun v=>match v with| .str s=>dG s fun n=> .val (.int .i64 (.lit (.ofNat n)))|_=> .fail)=_
 rw[bW]
 congr 1
 funext v
 cases v with
 |str s=>exact bJ s (fun n=>NR.val (.int .i64 (.lit (.ofNat n))))
 |_=>rfl
theorem Il {s:List Nat}:IA (.str s)= .val (.int .i64 (.lit (s.length:Int))):=_root_.id rfl
noncomputable def Li (v i:NV):NR:=aX (nj i) fun i=>match v with| .str s=>aX s[i]? fun b=> .val (.int .u8 (.lit (.ofNat b)))|_=> .fail
theorem Nx {x i:NOpd}:af (.indexStr x i) t m=oN (ρ t x) fun v=>oN (ρ t i) fun i=>Li v i:=by
 show wV t x (fun v=>fC t i fun i=>match v with
  | .str s=>aX (jE s i) fun b=> .val (.int .u8 (.lit (.ofNat b)))
  |_=> .fail)=_
 rw[bW]
 congr 1
 funext v
 unfold fC
 rw[bW]
 congr 1
 funext i
 unfold Li
 congr 1
 funext i
 cases v with
 |str s=>dsimp only;rw[eG]
 |_=>rfl
def JT (o:Option Nat):NR:=match o with|some b=> .val (.int .u8 (.lit (b:Int)))|none=> .fail
theorem NX {s:List Nat} {k:IntKind} {z:Int} (h0:0<=z):Li (.str s) (.int k (.lit z))=JT s[z.toNat]? :=by
 obtain ⟨i,rfl⟩:=Rb h0
 show aX s[i]? (fun b=> .val (.int .u8 (.lit (.ofNat b))))=JT s[i]?
 cases s[i]? <;>rfl
theorem Lb {b:Nat}:JT (some b)= .val (.int .u8 (.lit (b:Int))):=_root_.id rfl
noncomputable def H2 (s:List Nat) (a b:Nat):NR:=cond (Nat.ble a b) (aX (gT b s) fun s=>aX (dW a s) fun s=> .val (.str s)) .fail
noncomputable def JC (t:Tm) (lo hi:Option NOpd) (v:NV):NR:=match v with
 | .str s=>iW t hi s.length fun b=>iW t lo 0 fun a=>H2 s a b
 |_=> .fail
theorem Oq {x:NOpd} {lo hi:Option NOpd}:af (.sliceStr x lo hi) t m=oN (ρ t x) (JC t lo hi):=by
 show wV t x (fun v=>match v with
  | .str s=>dG s fun n=>dT t hi n fun b=>dT t lo 0 fun a=>cond (Nat.ble a b) (aX (gT b s) fun s=>aX (dW a s) fun s=> .val (.str s)) .fail
  |_=> .fail)=_
 rw[bW]
 congr 1
 funext v
 cases v with
 |str s=>
  dsimp only[JC]
  rw[bJ,fH]
  congr 1
  funext b
  rw[fH]
  rfl
 |_=>rfl
theorem Jk {s:List Nat} {lo hi:Option NOpd}:JC t lo hi (.str s)=iW t hi s.length fun b=>iW t lo 0 fun a=>H2 s a b:=_root_.id rfl
theorem Nu {s:List Nat} {a b:Nat} (h:a<=b) (h':b<=s.length):H2 s a b= .val (.str ((s.take b).drop a)):=by
 unfold H2
 rw[Nat.ble_eq_true_of_le h,gZ,Q5 h']
 show aX (dW a (s.take b)) _=_
 rw[gg,Q5 (by rw[List.length_take];omega)];rfl
abbrev gi (s:List Nat):List (List NV):=s.map fun (b:Nat)=> [NV.int .u8 (.lit (b:Int))]
theorem EX (s:List Nat):(gi s).flatten=s.map fun x=>NV.int .u8 (.lit (.ofNat x)):=by
 induction s with
 |nil=>rfl
 |cons b s ih=>show [NV.int .u8 (.lit (b:Int))]++(gi s).flatten=_;rw[ih];rfl
noncomputable def GC (m:NH) (v:NV):NR:=match v with| .str s=>(if s.length<=1099511627776 then .mem (.slc m.next 0 s.length 1 s.length) (m.add (.cells false (gi s).flatten)) else .fail)|_=> .fail
theorem Of {ty:Nat} {x:NOpd}:af (.strToBytes ty x) t m=oN (ρ t x) (GC m):=by
 show wV t x (fun v=>match v with| .str s=>re s fun l=>dG s fun n=>cond (Nat.ble n 1099511627776) (m.new (.cells false l) fun id h=> .mem (.slc id 0 n 1 n) h) .fail|_=> .fail)=_
 rw[bW]
 congr 1
 funext v
 cases v with
 |str s=>
  dsimp only[GC]
  rw[gN,bJ,NH.new_eq,EX]
  split
  ·rename_i h;rw[Nat.ble_eq_true_of_le h];rfl
  ·rename_i h;rw[show Nat.ble s.length 1099511627776=false from by cases hb:Nat.ble s.length 1099511627776 with|false=>rfl|true=>exact Q3 (Nat.le_of_ble_eq_true hb) h];rfl
 |_=>rfl
theorem IP {s:List Nat} (h:s.length<=1099511627776):GC m (.str s)= .mem (.slc m.next 0 s.length 1 s.length) (m.add (.cells false (gi s).flatten)):=Q5 h
noncomputable def p9 (m:NH) (v:NV):NR:=fK 1 m v fun _ l=>aX (eX l) fun s=> .val (.str s)
theorem Og {x:NOpd}:af (.bytesToStr x) t m=oN (ρ t x) (p9 m):=by
 show wV t x (fun v=>fK 1 m v fun _ l=>aX (eX l) fun s=> .val (.str s))=_
 rw[bW];rfl
theorem Hd {s:List Nat} (h:∀b∈s,b<256):eX (gi s).flatten=some s:=by
 induction s with
 |nil=>rfl
 |cons b s ih=>
  show GT (.int .u8 (.lit (.ofNat b))) (eX (gi s).flatten)=_
  rw[ih fun x hx=>h x (List.mem_cons_of_mem _ hx)]
  show cond (Nat.ble b 255) (some (b::s)) none=_
  rw[Nat.ble_eq_true_of_le (by have:=h b (List.mem_cons_self ..);omega)];rfl
theorem Sl.bts {v:NV} {s:List Nat} (h:Sl m v 1 (gi s)) (hb:∀b∈s,b<256):p9 m v= .val (.str s):=by
 unfold p9
 rw[qU h,Hd hb];rfl
theorem ID {a b:List Nat}:ee .num .eql (.str a) (.str b)=some (.bool (decide (a=b))):=by
 show bX (vN a b)=_
 rw[bm]
 congr 2
 rw[Bool.eq_iff_iff,decide_eq_true_eq]
 constructor
 ·intro h
  induction a generalizing b with
  |nil=>cases b with
   |nil=>rfl
   |cons=>cases h
  |cons x a ih=>cases b with
   |nil=>cases h
   |cons y b=>
    change cond (Nat.beq x y) (vN a b) false=true at h
    cases hxy:Nat.beq x y with
    |false=>rw[hxy] at h;cases h
    |true=>rw[hxy] at h;rw[Ra hxy,ih h]
 ·rintro rfl;exact pj a
theorem Ny {a b:List Nat}:ee .num .neq (.str a) (.str b)=some (.bool (decide (a≠b))):=by
 have:=ID (a:=a) (b:=b)
 change bX (vN a b)=_ at this
 show bX (j9 (vN a b))=_
 rw[bm] at this ⊢
 injection this with this
 injection this with this
 rw[this,eW]
 by_cases h:a=b<;>simp[h]
theorem LQ {a b:List Nat} (h:a.length+b.length<=1099511627776):ee .num .add (.str a) (.str b)=some (.str (a++b)):=by
 show iL a b (fun l=>dG l fun n=>cond (Nat.ble n 1099511627776) (some (NV.str l)) none)=_
 rw[eS,bJ,Nat.ble_eq_true_of_le (by rw[List.length_append];exact h)];rfl
theorem wrap_u64 {n:Int}:cq .u64 n=n % 18446744073709551616:=by rw[ec];rfl
theorem wrap_u8 {n:Int}:cq .u8 n=n % 256:=by rw[ec];rfl
theorem KN {a b:Int}:ee .num .add (.int .u64 (.lit a)) (.int .u64 (.lit b))=some (.int .u64 (.lit ((a+b) % 18446744073709551616))):=by
 refine (kR rfl).trans ?_
 show dv .u64 (cq .u64 (Cb a b))=_
 rw[zf,wrap_u64,bq]
theorem Lw {a b:Int}:ee .num .sub (.int .u64 (.lit a)) (.int .u64 (.lit b))=some (.int .u64 (.lit ((a - b) % 18446744073709551616))):=by
 refine (kR rfl).trans ?_
 show dv .u64 (cq .u64 (yf a b))=_
 rw[li,wrap_u64,bq]
theorem Jl {a b:Int}:ee .num .mul (.int .u64 (.lit a)) (.int .u64 (.lit b))=some (.int .u64 (.lit ((a*b) % 18446744073709551616))):=by
 refine (kR rfl).trans ?_
 show dv .u64 (cq .u64 (D8 a b))=_
 rw[sa,wrap_u64,bq]
theorem Jm {a b:Int}:ee .num .sub (.int .u8 (.lit a)) (.int .u8 (.lit b))=some (.int .u8 (.lit ((a - b) % 256))):=by
 refine (kR rfl).trans ?_
 show dv .u8 (cq .u8 (yf a b))=_
 rw[li,wrap_u8,bq]
theorem ww {a b:Nat} (hb:0<b):ee .num .quo (.int .u64 (.lit (a:Int))) (.int .u64 (.lit (b:Int)))=some (.int .u64 (.lit (((a / b % 18446744073709551616:Nat)):Int))):=by
 refine (kR rfl).trans ?_
 show cond (K8 (Int.ofNat b)) none (dv .u64 (cq .u64 (.ofNat (Nat.div a b))))=_
 rw[show K8 (Int.ofNat b)=false from by show Nat.beq b 0=false;cases hz:Nat.beq b 0 with|false=>rfl|true=>have:=Ra hz;omega]
 show dv .u64 (cq .u64 (Int.ofNat (a / b)))=_
 rw[wrap_u64,bq]
 rfl
theorem ER {a b:Nat} (hb:0<b):ee .num .rem (.int .u64 (.lit (a:Int))) (.int .u64 (.lit (b:Int)))=some (.int .u64 (.lit (((a % b:Nat)):Int))):=by
 refine (kR rfl).trans ?_
 show cond (K8 (Int.ofNat b)) none (dv .u64 (.ofNat (Nat.mod a b)))=_
 rw[show K8 (Int.ofNat b)=false from by show Nat.beq b 0=false;cases hz:Nat.beq b 0 with|false=>rfl|true=>have:=Ra hz;omega]
 show dv .u64 (Int.ofNat (a % b))=_
 rw[bq];rfl
theorem CO {a:Nat} {k:IntKind} {n:Nat} (hn:n<=64):ee .num .shr (.int .u64 (.lit (a:Int))) (.int k (.lit (n:Int)))=some (.int .u64 (.lit ((a / 2 ^ n:Nat):Int))):=by
 show Ho .u64 (Int.ofNat a) (Int.ofNat n)=_
 show dv .u64 (.ofNat (Nat.div a (Nat.pow 2 (Gi .u64 n))))=_
 rw[show Gi .u64 n=n from by unfold Gi;rw[show Nat.ble n (IntKind.bits .u64)=true from Nat.ble_eq_true_of_le hn];rfl,bq];rfl
theorem DE {a b:Nat} (ha:a<18446744073709551616) (hb:b<18446744073709551616):ee .num .and (.int .u64 (.lit (a:Int))) (.int .u64 (.lit (b:Int)))=some (.int .u64 (.lit ((a&&& b:Nat):Int))):=by
 refine (kR rfl).trans ?_
 show mL .and .u64 (Int.ofNat a) (Int.ofNat b)=_
 unfold mL
 dsimp only
 rw[show Nat.ble (Nat.succ a) (cK .u64)=true from Nat.ble_eq_true_of_le ha,show Nat.ble (Nat.succ b) (cK .u64)=true from Nat.ble_eq_true_of_le hb]
 show dv .u64 (.ofNat (Nat.land a b))=_
 rw[bq];rfl
noncomputable def HH (k:IntKind) (v:NV):NR:=match v with| .int _ (.lit n)=> .val (.int k (.lit (cq k n)))|_=> .fail
theorem MY {k:IntKind} {x:NOpd}:af (.toInt k x) t m=oN (ρ t x) (HH k):=by
 show wV t x (fun v=>match v with| .int _ (.lit n)=>vr (dv k (cq k n))|_=> .fail)=_
 rw[bW]
 congr 1
 funext v
 cases v with
 |int k' x=>cases x with
  |lit n=>show vr (dv k (cq k n))=_;rw[bq];rfl
 |_=>rfl
theorem KW {k:IntKind} {n:Int}:HH .u64 (.int k (.lit n))= .val (.int .u64 (.lit (n % 18446744073709551616))):=by show NR.val (.int .u64 (.lit (cq .u64 n)))=_;rw[wrap_u64]
theorem FT {k:IntKind} {n:Int} (h:-9223372036854775808<=n) (h':n<9223372036854775808):HH .i64 (.int k (.lit n))= .val (.int .i64 (.lit n)):=by show NR.val (.int .i64 (.lit (cq .i64 n)))=_;rw[wrap_small h h']
noncomputable def Ix (v:NV):NR:=match v with| .ptr i o=> .val (.ptr i o)| .fn f c=> .val (.fn f c)| .yld l=> .val (.yld l)|_=> .fail
theorem Mj {x:NOpd}:af (.nilCheck x) t m=oN (ρ t x) Ix:=by
 show wV t x _=_
 rw[bW]
 cases ρ t x with
 |none=>rfl
 |some v=>cases v<;>rfl
theorem HV {i:D4} {o:Nat}:Ix (.ptr i o)= .val (.ptr i o):=_root_.id rfl
noncomputable def rR (x:NR) (K:NV->Prop):Prop:=match x with| .val v=>K v|_=>False
noncomputable def qf (t:Tm) (m:NH):List NRes->(List NV->Prop)->Prop
 | [],K=>K []
 | .tmp k::l,K=>rK (NT.get k t) fun v=>qf t m l fun vs=>K (v::vs)
 | .cell1 k::l,K=>rR (af (.load1 (.tmp k)) t m) fun v=>qf t m l fun vs=>K (v::vs)
 | .cellN k n::l,K=>rR (af (.loadN n (.tmp k)) t m) fun v=>qf t m l fun vs=>K (v::vs)
theorem pr:∀(rs:List NRes) (K:List NV->Prop) (G:List NV->CR),qf t m rs K->∃l,cG m t rs .fail G=G l/\K l:=by
 intro rs
 induction rs with
 |nil=>intro K G h;exact ⟨[],rfl,h⟩
 |cons r rs ih=>
  intro K G h
  cases r with
  |tmp k=>
   cases hv:NT.get k t with
   |none=>unfold qf at h;rw[hv] at h;exact h.elim
   |some v=>
    unfold qf at h;rw[hv] at h
    obtain ⟨l,h1,h2⟩:=ih (fun vs=>K (v::vs)) (fun l=>G (v::l)) h
    refine ⟨v::l, ?_,h2⟩
    show (match (match NT.get k t with|some v=>NR.val v|none=> .fail) with| .val v=>cG m t rs .fail (fun l=>G (v::l))|_=> .fail)=_
    rw[hv];exact h1
  |cell1 k=>
   cases hv:af (.load1 (.tmp k)) t m with
   |val v=>
    unfold qf at h;rw[hv] at h
    obtain ⟨l,h1,h2⟩:=ih (fun vs=>K (v::vs)) (fun l=>G (v::l)) h
    refine ⟨v::l, ?_,h2⟩
    change gG (.tmp k) t m= .val v at hv
    show (match gG (.tmp k) t m with| .val v=>cG m t rs .fail (fun l=>G (v::l))|_=> .fail)=_
    rw[hv];exact h1
   |_=>unfold qf at h;rw[hv] at h;exact h.elim
  |cellN k n=>
   cases hv:af (.loadN n (.tmp k)) t m with
   |val v=>
    unfold qf at h;rw[hv] at h
    obtain ⟨l,h1,h2⟩:=ih (fun vs=>K (v::vs)) (fun l=>G (v::l)) h
    refine ⟨v::l, ?_,h2⟩
    change gs n (.tmp k) t m= .val v at hv
    show (match gs n (.tmp k) t m with| .val v=>cG m t rs .fail (fun l=>G (v::l))|_=> .fail)=_
    rw[hv];exact h1
   |_=>unfold qf at h;rw[hv] at h;exact h.elim
def wZ (rs:List NRes) (K:NV->NH->Prop) (o:Out) (d:Dyn):Prop:=(o= .norm∨o= .ret)/\d.dfs= []/\qf d.t d.h rs fun l=>K (iC l) d.h
theorem sQ {rs:List NRes} {K:NV->NH->Prop} {o:Out} {d:Dyn} (h:wZ rs K o d):Ic rs K o d:=by
 obtain ⟨h1,h2,h3⟩:=h
 obtain ⟨l,h4,h5⟩:=pr rs _ (fun l=> .val (iC l) d.ctx d.h) h3
 exact ⟨h1,h2,iC l,h4,h5⟩
theorem K3 {rs:List NRes} {K:NV->NH->Prop} {ctx:Option NV}:wZ rs K .ret ⟨t, [],ctx,m⟩=qf t m rs (fun l=>K (iC l) m):=propext ⟨fun h=>h.2.2,fun h=>⟨.inr rfl,rfl,h⟩⟩
theorem Ie {rs:List NRes} {K:NV->NH->Prop} {ctx:Option NV}:wZ rs K .norm ⟨t, [],ctx,m⟩=qf t m rs (fun l=>K (iC l) m):=propext ⟨fun h=>h.2.2,fun h=>⟨.inl rfl,rfl,h⟩⟩
theorem Nd {K:List NV->Prop}:qf t m [] K=K []:=_root_.id rfl
theorem Oh {K:List NV->Prop} {k:D4} {l:List NRes}:qf t m (.tmp k::l) K=rK (NT.get k t) fun v=>qf t m l fun vs=>K (v::vs):=_root_.id rfl
theorem MZ {K:List NV->Prop} {k:D4} {l:List NRes}:qf t m (.cell1 k::l) K=rR (af (.load1 (.tmp k)) t m) fun v=>qf t m l fun vs=>K (v::vs):=_root_.id rfl
theorem MC {K:List NV->Prop} {k:D4} {n:Nat} {l:List NRes}:qf t m (.cellN k n::l) K=rR (af (.loadN n (.tmp k)) t m) fun v=>qf t m l fun vs=>K (v::vs):=_root_.id rfl
theorem Qc {v:NV} {K:NV->Prop}:rR (.val v) K=K v:=_root_.id rfl
theorem Iq {v:NV}:iC [v]=v:=_root_.id rfl
theorem Gv {a b:NV} {l:List NV}:iC (a::b::l)= .tup (a::b::l):=_root_.id rfl
theorem WF.of_wpG {P:Program} {E:NV->NH->Prop} {S:cR} {f:Nat} {args:List NV} {nf:NFun} (hs:∀l,S f l=fun _=>none) (hf:ah P f=some (.code nf)) {K:NV->NH->Prop} {L:List (D4×NV)} (hL:cN args 0 .leaf=am L .leaf)
 (h:wp ⟨P,E⟩ S none nf.body ⟨am L .leaf, [],none,hp [] 0 m⟩ (wZ nf.results K)):WF ⟨P,E⟩ S f args m K:=by
 rw[ab] at h
 obtain ⟨o,d,h1,h2⟩:=aM _ _ _ h
 rw[←hL] at h1
 cases o with
 |pan v=>exact Or.inr ⟨v,d.ctx,d.h,Call.of_pan hs hf h1 h2.1,h2.2⟩
 |_=>
  obtain ⟨ho,hd,v,hv,hK⟩:=sQ h2
  exact Or.inl ⟨v,d.ctx,d.h,Call.of_run hs hf ho h1 hd hv (by simp),hK⟩
theorem a6.ext {P:Program} {S:cR} {f:Nat} {args:List NV} {e:Ext} {v:NV} (hs:S f args=fun _=>none) (hf:ah P f=some (.ext e)) (hv:fW e args=some v):a6 P S f args m v m:=by
 refine ⟨none,by simp,0, ?_⟩
 unfold bZ
 rw[hs]
 dsimp only
 rw[hf]
 dsimp only
 rw[hv]
theorem vC (c:Nat):∀(l:List Nat) (i:Nat),(∃j,nA c l i=some j)↔c∈l:=by
 intro l
 induction l with
 |nil=>
  intro i;constructor
  ·rintro ⟨j,h⟩;cases h
  ·intro h;simp at h
 |cons x l ih=>
  intro i
  have e:nA c (x::l) i=cond (Nat.beq x c) (some i) (aq (Nat.succ i) (nA c l)):=rfl
  rw[e,ag]
  cases hb:Nat.beq x c with
  |true=>rw[Ra hb];simp
  |false=>
   have hne:=Nat.ne_of_beq_eq_false hb
   show (∃j,nA c l (i+1)=some j)↔_
   rw[ih,Q9]
   exact ⟨fun h=>Or.inr h,fun h=>h.elim (fun q=>Q3 q.symm hne) fun q=>q⟩
theorem H3 (s:List Nat) {c:Nat} (hc:c<256):∃z:Int,fW .idxByte [.str s,.int .u8 (.lit (c:Int))]=some (.int .i64 (.lit z))/\(0<=z↔c∈s):=by
 have e:fW .idxByte [.str s,.int .u8 (.lit (c:Int))]=cond (Nat.ble c 255) (match nA c s 0 with|some i=>some (.int .i64 (.lit (.ofNat i)))|none=>some (.int .i64 (.lit (.negSucc 0)))) none:=rfl
 rw[e,Nat.ble_eq_true_of_le (by omega)]
 cases hi:nA c s 0 with
 |some i=>exact ⟨(i:Int),rfl,fun _=>(vC c s 0).mp ⟨i,hi⟩,fun _=>by omega⟩
 |none=>exact ⟨-1,rfl,fun h=>by omega,fun h=>by obtain ⟨j,hj⟩:=(vC c s 0).mpr h;rw[hi] at hj;cases hj⟩
theorem Gp {x y c:Nat} (hc:c<=1):fW .add64 [.int .u64 (.lit (x:Int)),.int .u64 (.lit (y:Int)),.int .u64 (.lit (c:Int))]=some (NV.tup [NV.int .u64 (.lit (((x+y+c) % 18446744073709551616:Nat):Int)),.int .u64 (.lit (((x+y+c) / 18446744073709551616:Nat):Int))]):=by
 show cond (Nat.ble c 1) (aq (Nat.mod (Nat.add (Nat.add x y) c) 18446744073709551616) fun a=>aq (Nat.div (Nat.add (Nat.add x y) c) 18446744073709551616) fun b=>some (NV.tup [NV.int .u64 (.lit (.ofNat a)),.int .u64 (.lit (.ofNat b))])) none=_
 rw[Nat.ble_eq_true_of_le hc,ag,ag];rfl
end
end Nm
namespace Nm
open Go Go.RowKit
section
variable {t:Tm} {m:NH}
end
end Nm
namespace Nm
open Go Go.RowKit
theorem lQ {k:D4} {v:NV} {L:List (D4×NV)} {t:Tm}:NT.put k v (am L t)=am ((k,v)::L) t:=_root_.id rfl
theorem LT {k:D4} {v:NV} {L:List (D4×NV)} {t:Tm}:NT.put k v (am L t)=am ((k,v)::L) t:=_root_.id rfl
theorem Ju {m:NH} {id:D4}:(hp [] 0 m).get id=m.get id:=by rw[ab]
section
variable {P:Program} {S:cR}
end
theorem Mc {e bytes:Nat} {m m':NH} {v x v':NV} (h:B5 e bytes m v x= .mem v' m'):∀i∈ids v',i∈ids v∨¬aw m i:=by
 have hn:¬aw m m.next:=fun q=>Nat.lt_irrefl _ q
 have new:∀{a b c d:Nat},∀i∈ids (.slc m.next a b c d),i∈ids v∨¬aw m i:=by
  intro a b c d i hi
  rcases List.mem_cons.mp hi with rfl|hi
  ·exact Or.inr hn
  ·exact Q3 hi (by simp)
 have key:∀(k:Nat) (nw:List NV),fy e bytes m v k nw= .mem v' m'->∀i∈ids v',i∈ids v∨¬aw m i:=by
  intro k nw h
  cases v with
  |nils=>
   cases k with
   |zero=>cases h
   |succ k=>
    obtain ⟨-,h⟩:=aR (show cond (room (k+1) bytes) (m.new (.cells true nw) fun id h=>NR.mem (.slc id 0 (k+1) e (k+1)) h) .fail=_ from h) (by simp)
    rw[NH.new_eq] at h;cases h;exact new
  |slc id off len e' kc=>
   cases k with
   |zero=>
    obtain ⟨-,h⟩:=aR (show cond (Nat.beq e' e) (NR.val (.slc id off len e' kc)) .fail=_ from h) (by simp)
    cases h
   |succ k=>
    obtain ⟨-,h⟩:=aR (show cond (Nat.beq e' e) (fu m id fun c=>aq (Nat.add len (k+1)) fun n=>cond (Nat.ble n kc)
     (aX (dr nw (Nat.add off (Nat.mul len e)) c) fun c=>m.set id (.cells true c) fun h=>NR.mem (.slc id off n e kc) h)
     (aX (dW off c) fun c=>aX (gT (Nat.mul len e) c) fun old=>cond (room n bytes)
      (iL old nw fun l=>m.set id .dead fun h=>h.new (.cells true l) fun id h=>NR.mem (.slc id 0 n e n) h) .fail)) .fail=_ from h) (by simp)
    obtain ⟨c,-,h⟩:=gj h (by simp)
    rw[ag] at h
    cases hb:Nat.ble (Nat.add len (k+1)) kc with
    |true=>
     rw[hb] at h
     obtain ⟨c',-,h⟩:=aO h (by simp)
     rw[NH.set_eq] at h
     cases h
     exact fun i hi=>Or.inl hi
    |false=>
     rw[hb] at h
     obtain ⟨c',-,h⟩:=aO h (by simp)
     obtain ⟨c'',-,h⟩:=aO h (by simp)
     obtain ⟨-,h⟩:=aR h (by simp)
     rw[eS,NH.set_eq,NH.new_eq] at h
     cases h
     exact new
  |_=>cases h
 unfold B5 at h
 cases x with
 |nils=>exact key 0 [] h
 |slc id off len esz kc=>
  obtain ⟨-,h⟩:=aR (show cond (Nat.beq esz e) (eM m id (fun c=>aX (fb c off (Nat.mul len e)) fun l=>fy e bytes m v len l)) .fail=_ from h) (by simp)
  unfold eM at h
  split at h
  ·obtain ⟨l,-,h⟩:=aO h (by simp)
   exact key _ _ h
  ·cases h
 |_=>cases h
theorem dq.app2 {B m:NH} {v:NV} {e:Nat} {C:List (List NV)} {x:D4} {w:Bool} {cs:List NV} {kc bytes:Nat} (hv:dq B m v e C) (hx:m.get x=some (.cells w cs)) (hox:aw m x) (hl:cs.length=e) (hB:∀id,aw B id->aw m id)
 (hr:(C.length+1)*bytes<=1099511627776) (hr':C.length+1<=1099511627776):∃v' m',B5 e bytes m v (.slc x 0 1 e kc)= .mem v' m'/\dq B m' v' e (C++ [cs])/\Chg (ids v) m m'/\∀i∈ids v',i∈ids v∨¬aw m i:=by
 obtain ⟨v',m',h1,h2,h3⟩:=hv.app1 (bytes:=bytes) (kc:=kc) hx hox hl hB hr hr'
 exact ⟨v',m',h1,h2,h3,Mc h1⟩
section
variable {P:PE} {S:cR} {dst:D4} {L:List (D4×NV)} {t:Tm} {dfs:List Dfr} {ctx:Option NV} {l:List NOper} {K:Dyn->Prop} {B m:NH} {v:NV} {e:Nat} {C:List (List NV)} {x:D4} {w:Bool} {cs:List NV} {kc bytes:Nat}
theorem F0 (hv:dq B m v e C) (hx:m.get x=some (.cells w cs)) (hox:aw m x) (hl:cs.length=e) (hB:∀id,aw B id->aw m id)
 (hr:(C.length+1)*bytes<=1099511627776) (hr':C.length+1<=1099511627776) (h:∀v' m',dq B m' v' e (C++ [cs])->Chg (ids v) m m'->(∀i∈ids v',i∈ids v∨¬aw m i)->wO P S l ⟨am ((dst,v')::L) t,dfs,ctx,m'⟩ K):
 Ct P S (some dst) (am L t) dfs ctx m (B5 e bytes m v (.slc x 0 1 e kc)) l K:=by
 obtain ⟨v',m',h1,h2,h3,h4⟩:=hv.app2 (bytes:=bytes) (kc:=kc) hx hox hl hB hr hr'
 rw[h1]
 exact h v' m' h2 h3 h4
theorem jt {bb:Bool} (hv:dq B m v e C) (hx:m.get x=some (.cells w cs)) (hox:aw m x) (hl:cs.length=e) (hB:∀id,aw B id->aw m id)
 (hr:(C.length+1)*bytes<=1099511627776) (hr':C.length+1<=1099511627776) (h:∀v' m',dq B m' v' e (C++ [cs])->Chg (ids v) m m'->(∀i∈ids v',i∈ids v∨¬aw m i)->K ⟨am ((dst,v')::L) t,dfs,ctx,hp [] 0 m'⟩):
 Mn bb P S (some dst) (am L t) dfs ctx m (B5 e bytes m v (.slc x 0 1 e kc)) K:=by
 obtain ⟨v',m',h1,h2,h3,h4⟩:=hv.app2 (bytes:=bytes) (kc:=kc) hx hox hl hB hr hr'
 rw[h1,CW]
 have:=h v' m' h2 h3 h4
 rwa [ab] at this
end
section
variable {P:Program} {S:cR} {f:Nat} {args:List NV} {m:NH} {K:NV->NH->Prop}
variable {E:NV->NH->Prop}
theorem WF.use {Φ:NV->NH->Prop} (h:∃v m',a6 P S f args m v m'/\Φ v m') (hK:∀v m',Φ v m'->K v m'):WF ⟨P,E⟩ S f args m K:=by
 obtain ⟨v,m',h1,h2⟩:=h
 rw[h1.wf'];exact hK v m' h2
theorem WF.useH {Φ:NV->NH->Prop} (h:∃v m',a6 P S f args m v m'/\Φ v m') (hK:∀v m',Φ v m'->K v (hp [] 0 m')):WF ⟨P,E⟩ S f args m K:=by
 obtain ⟨v,m',h1,h2⟩:=h
 rw[h1.wf];exact hK v m' h2
theorem WF.use1 {v:NV} {Φ:NH->Prop} (h:∃m',a6 P S f args m v m'/\Φ m') (hK:∀m',Φ m'->K v m'):WF ⟨P,E⟩ S f args m K:=by
 obtain ⟨m',h1,h2⟩:=h
 rw[h1.wf'];exact hK m' h2
theorem WF.use1H {v:NV} {Φ:NH->Prop} (h:∃m',a6 P S f args m v m'/\Φ m') (hK:∀m',Φ m'->K v (hp [] 0 m')):WF ⟨P,E⟩ S f args m K:=by
 obtain ⟨m',h1,h2⟩:=h
 rw[h1.wf];exact hK m' h2
end
section
variable {P:PE} {S:cR} {r:Option D4} {a b:NC} {d:Dyn} {Q:Out->Dyn->Prop}
theorem Pq {c:NC} (Φ:Dyn->Prop) (h1:∀R:Dyn->Prop,(∀d',Φ d'->R d')->wp P S r a d (dR (Gk P S r b (dR R Q)) Q)) (h2:∀d',Φ d'->wp P S r c d' Q):wp P S r (.seq a (.seq b c)) d Q:=h1 _ h2
theorem PV {c e:NC} (Φ:Dyn->Prop) (h1:∀R:Dyn->Prop,(∀d',Φ d'->R d')->wp P S r a d (dR (Gk P S r b (dR (Gk P S r c (dR R Q)) Q)) Q)) (h2:∀d',Φ d'->wp P S r e d' Q):wp P S r (.seq a (.seq b (.seq c e))) d Q:=h1 _ h2
theorem PN {c e g:NC} (Φ:Dyn->Prop) (h1:∀R:Dyn->Prop,(∀d',Φ d'->R d')->wp P S r a d (dR (Gk P S r b (dR (Gk P S r c (dR (Gk P S r e (dR R Q)) Q)) Q)) Q)) (h2:∀d',Φ d'->wp P S r g d' Q):wp P S r (.seq a (.seq b (.seq c (.seq e g)))) d Q:=h1 _ h2
theorem J4 (Φ:Dyn->Prop) (h1:∀R:Dyn->Prop,(∀d',Φ d'->R d')->wp P S r a d (dR R Q)) (h2:∀d',Φ d'->wp P S r b d' Q):wp P S r (.seq a b) d Q:=h1 _ h2
end
section
variable {P:Program} {S:cR} {q:D4} {args:List NV} {m:NH} {K:NV->NH->Prop}
theorem WY.use1 {v:NV} {Φ:NH->Prop} (h:∃m',qi P S q args m v m'/\Φ m') (hK:∀m',Φ m'->K v m'):WY P S q args m K:=by
 obtain ⟨m',h1,h2⟩:=h
 rw[h1.wy,ab];exact hK m' h2
end
section
variable {P:Program} {S:cR} {f:Nat} {q:D4} {args:List NV} {m:NH}
theorem WF.ex1 {v:NV} {Φ:NH->Prop} (h:∀K:NV->NH->Prop,(∀m',Φ m'->K v m')->WF P S f args m K):∃m',a6 P S f args m v m'/\Φ m':=by
 obtain ⟨w,m',h1,rfl,h2⟩:=WF.ret (h (fun w m'=>w=v/\Φ m') fun m' h=>⟨rfl,h⟩)
 exact ⟨m',h1,h2⟩
theorem WY.ex1 {v:NV} {Φ:NH->Prop} (h:∀K:NV->NH->Prop,(∀m',Φ m'->K v m')->WY P S q args m K):∃m',qi P S q args m v m'/\Φ m':=by
 obtain ⟨w,m',h1,rfl,h2⟩:=WY.ret (h (fun w m'=>w=v/\Φ m') fun m' h=>⟨rfl,h⟩)
 exact ⟨m',h1,h2⟩
end
end Nm
namespace Nm
open Go Go.RowKit
def qY (P:Program):List Field->Nat->Nat->Bool
 | [],o,n=>o==n
 |f::fs,o,n=>(f.offset==o)&&qY P fs (o+P.cellsOf f.type) n
def kC (P:Program) (T:List TypeId) (t:TypeId):Bool:=match P.underlying t with
 |some .bool|some (.int _)|some .string=>true
 |some (.slice e)=>T.contains e&&decide (0<P.cellsOf e)
 |some (.struct fs)=>fs.toList.all (fun f=>T.contains f.type)&&qY P fs.toList 0 (P.cellsOf t)
 |_=>false
def Al (P:Program) (T:List TypeId):Bool:=T.all (kC P T)
mutual
inductive Ty (P:Program) (m:NH):TypeId->List NV->Prop
 |bool {t:TypeId} (ht:P.underlying t=some .bool) (b:Bool):Ty P m t [.bool b]
 |int {t:TypeId} {k:IntKind} (ht:P.underlying t=some (.int k)) (n:Int) (h:(Lit.int k n).wf=true):Ty P m t [.int k (.lit n)]
 |str {t:TypeId} (ht:P.underlying t=some .string) (l:List Nat) (h:∀b∈l,b<256) (hl:l.length<=maxLen):Ty P m t [.str l]
 |slc {t e:TypeId} (ht:P.underlying t=some (.slice e)) (v:NV) (C:List (List NV)) (hS:Sl m v (P.cellsOf e) C) (hl:C.length<=maxLen) (h:∀c∈C,Ty P m e c):Ty P m t [v]
 |struct {t:TypeId} {fs:Array Field} (ht:P.underlying t=some (.struct fs)) (l:List NV) (h:TyL P m (fs.toList.map (·.type)) l):Ty P m t l
inductive TyL (P:Program) (m:NH):List TypeId->List NV->Prop
 |nil:TyL P m [] []
 |cons {t:TypeId} {ts:List TypeId} (a b:List NV) (h:Ty P m t a) (hl:TyL P m ts b):TyL P m (t::ts) (a++b)
end
mutual
theorem Ty.grew {P:Program} {m m':NH} (hC:Chg [] m m'):∀{t:TypeId} {l:List NV},Ty P m t l->Ty P m' t l
 |_,_,.bool ht b=> .bool ht b
 |_,_,.int ht n h=> .int ht n h
 |_,_,.str ht l h hl=> .str ht l h hl
 |_,_,.slc ht v C hS hl h=> .slc ht v C (hS.grew hC) hl (fun c hc=>(h c hc).grew hC)
 |_,_,.struct ht l h=> .struct ht l (TyL.grew hC h)
theorem TyL.grew {P:Program} {m m':NH} (hC:Chg [] m m'):∀{ts:List TypeId} {l:List NV},TyL P m ts l->TyL P m' ts l
 |_,_,.nil=> .nil
 |_,_,.cons a b h hl=> .cons a b (h.grew hC) (TyL.grew hC hl)
end
section
def Ro (P:Program) (W:World) (ι:aU) (m:NH):Prop:=Rel P ι W.heap.size m W/\∀i p,ι i=some p->¬Live (m.get i)
def ext (ι:aU) (i:D4) (p:Pl):aU:=fun j=>if j.toNat=i.toNat then some p else ι j
theorem Ro.addE {P:Program} {W:World} {ι:aU} {m:NH} (h:Ro P W ι m) {b o:Nat} {c:List NV} {cur:Array Value} {T:TypeId} {fz:Nat×Nat} (hb:W.heap[b]? =some (.cells cur T fz)) (hn:o+c.length<=cur.size)
 (hc:∀i v,c[i]? =some v->∃v',cur[o+i]? =some v'/\VR ι v v'/\v'.oneCell'=true):
 ∃ι',Ro P W ι' (m.add (.cells false c))/\ι.le ι'/\Chg [] m (m.add (.cells false c))/\ι' m.next=some ⟨b,o,cur.size⟩/\(m.add (.cells false c)).get m.next=some (.cells false c)/\aw (m.add (.cells false c)) m.next:=by
 obtain ⟨hR,hL⟩:=h
 have hold:∀i p,ι i=some p->aw m i:=fun i p hi=>by
  obtain ⟨x,hx,_⟩:=hR.obj i p hi
  exact hR.fresh i x hx
 have hext:∀i p,ι i=some p->ext ι m.next ⟨b,o,cur.size⟩ i=some p:=fun i p hi=>by
  unfold ext;rw[Q4 (Nat.ne_of_lt (hold i p hi))];exact hi
 have hle:ι.le (ext ι m.next ⟨b,o,cur.size⟩):=hext
 have hinv:∀i p,ext ι m.next ⟨b,o,cur.size⟩ i=some p->(i=m.next/\p=⟨b,o,cur.size⟩)∨(ι i=some p/\i≠m.next):=fun i p hi=>by
  unfold ext at hi
  by_cases e:i.toNat=m.next.toNat
  ·rw[Q5 e] at hi;injection hi with hi;exact Or.inl ⟨D4.toNat_inj e,hi.symm⟩
  ·rw[Q4 e] at hi;exact Or.inr ⟨hi,fun q=>e (by rw[q])⟩
 have hnl:∀i p,ext ι m.next ⟨b,o,cur.size⟩ i=some p->¬Live ((m.add (.cells false c)).get i):=fun i p hi=>by
  rcases hinv i p hi with ⟨rfl,_⟩|⟨hi,hne⟩
  ·rw[NH.get_add_same];exact fun q=>q.2 c rfl
  ·rw[NH.get_add_ne _ _ hne];exact hL i p hi
 refine ⟨ext ι m.next ⟨b,o,cur.size⟩,⟨⟨?_, ?_, ?_, ?_, ?_,hR.gl.mono hle⟩,hnl⟩,hle,Chg.add m _,by unfold ext;rw[Q5 rfl],NH.get_add_same m _,bh m _⟩
 ·intro i p hi
  rcases hinv i p hi with ⟨rfl,rfl⟩|⟨hi,hne⟩
  ·refine ⟨.cells false c,NH.get_add_same m _, ?_⟩
   show ∃(cur':Array Value) (T:TypeId) (fz:Nat×Nat),W.heap[b]? =some (.cells cur' T fz)/\(false=true->fz=(0,0))/\cur'.size=cur.size/\o+c.length<=cur.size/\∀i v,c[i]? =some v->∃v',cur'[o+i]? =some v'/\VR (ext ι m.next ⟨b,o,cur.size⟩) v v'/\v'.oneCell'=true
   refine ⟨cur,T,fz,hb,fun q=>Bool.noConfusion q,rfl,hn,fun i v hv=> ?_⟩
   obtain ⟨v',h1,h2,h3⟩:=hc i v hv
   exact ⟨v',h1,h2.mono hle,h3⟩
  ·obtain ⟨x,h1,h2⟩:=hR.obj i p hi
   exact ⟨x,(NH.get_add_ne m _ hne).trans h1,h2.mono hle rfl⟩
 ·intro i j p q hi hj hne hl _
  exact Q3 hl (hnl i p hi)
 ·intro i p hi hl;exact Q3 hl (hnl i p hi)
 ·intro i p hi
  rcases hinv i p hi with ⟨rfl,rfl⟩|⟨hi,_⟩
  ·exact (Array.getElem?_eq_some_iff.mp hb).1
  ·exact hR.lt i p hi
 ·intro i x hx
  by_cases e:i=m.next
  ·subst e;exact bh m _
  ·rw[NH.get_add_ne _ _ e] at hx
   exact (Chg.add m (.cells false c)).old (hR.fresh i x hx)
theorem Ro.add {P:Program} {W:World} {ι:aU} {m:NH} (h:Ro P W ι m) {b o:Nat} {c:List NV} {cur:Array Value} {T:TypeId} {fz:Nat×Nat} (hb:W.heap[b]? =some (.cells cur T fz)) (hn:o+c.length<=cur.size)
 (hc:∀i v,c[i]? =some v->∃v',cur[o+i]? =some v'/\VR ι v v'/\v'.oneCell'=true):
 ∃ι' m',Ro P W ι' m'/\ι.le ι'/\Chg [] m m'/\ι' m.next=some ⟨b,o,cur.size⟩/\m'.get m.next=some (.cells false c)/\aw m' m.next:=by
 obtain ⟨ι',h⟩:=h.addE hb hn hc
 exact ⟨ι',_,h⟩
theorem Ro.nil (P:Program) (W:World) (hw:NG<=W.heap.size):Ro P W ι0 G0:=⟨Ng P W hw,fun i p h=>by rw[lK h];exact eY⟩
theorem E5 (a:Addr) (j:Nat):(a.add j).block=a.block:=by unfold Addr.add;split<;>rfl
theorem KM (a:Addr) (j:Nat):(a.add j).off=a.off+j:=by
 unfold Addr.add;split
 ·rename_i h;subst h;rfl
 ·rfl
theorem yu (a:Addr) (m n:Nat):(a.add m).add n=a.add (m+n):=by
 unfold Addr.add
 by_cases h:n=0
 ·subst h;simp
 ·by_cases h':m=0
  ·subst h';simp
  ·simp[h,h'];omega
theorem pU {w:World} {a:Addr} {v:Value} (h:w.cell? a=some v):∃cur T fz,w.heap[a.block]? =some (.cells cur T fz)/\cur[a.off]? =some v:=by
 unfold World.cell? at h
 split at h
 ·rename_i cur T fz hb
  refine ⟨cur,T,fz,hb, ?_⟩
  split at h
  ·cases h
  ·exact h
 ·cases h
theorem VRL.append {ι:aU} {a:List NV} {a':List Value} {b:List NV} {b':List Value} (h:VRL ι a a') (k:VRL ι b b'):VRL ι (a++b) (a'++b'):=by
 induction a generalizing a' with
 |nil=>cases h;exact k
 |cons v l ih=>cases h with
  |cons _ v' _ l' h hl=>exact .cons _ _ _ _ h (ih hl)
def Cs (W:World) (ι:aU) (a:Addr) (l:List NV):Prop:=∀(j:Nat) (v:NV),l[j]? =some v->∃v',W.cell? (a.add j)=some v'/\VR ι v v'/\v'.oneCell'=true
theorem Cs.mono {W:World} {ι ι':aU} (hι:ι.le ι') {a:Addr} {l:List NV} (h:Cs W ι a l):Cs W ι' a l:=fun j v hv=>let ⟨v',h1,h2,h3⟩:=h j v hv;⟨v',h1,h2.mono hι,h3⟩
theorem GB {P:Program} {W:World} {T:List TypeId} (hT:Al P T=true) (hne:∃(b:Nat) (cur:Array Value) (T:TypeId) (fz:Nat×Nat),W.heap[b]? =some (.cells cur T fz)) {H:Type} {enc:TypeId×Value->H}:∀(n:Nat) (t:TypeId),t∈T->∀(cs:List Value) (x:DataW H×List MemPlace),DataW.trod enc P W 0 (fun _=>true) true n t cs=some x->
 ∀(ι:aU) (m:NH),Ro P W ι m->∃ι' m' l,Ro P W ι' m'/\ι.le ι'/\Chg [] m m'/\VRL ι' l cs/\(∀v∈cs,v.oneCell'=true)/\Ty P m' t l:=by
 intro n
 induction n with
 |zero=>intro t _ cs x h;simp[DataW.trod] at h
 |succ n ih=>
  intro t ht cs x h ι m hR
  have hok:kC P T t=true:=List.all_eq_true.mp hT t ht
  unfold kC at hok
  split at hok
  ·rename_i hu
   obtain ⟨b,rfl,_⟩:=DataW.trod_bool hu h
   exact ⟨ι,m, [.bool b],hR,aU.le_refl ι,Chg.refl m,.cons _ _ _ _ (.bool b) .nil,by simp[Value.oneCell'],.bool hu b⟩
  ·rename_i k hu
   obtain ⟨z,rfl,_,hw⟩:=DataW.trod_int hu h
   exact ⟨ι,m, [.int k (.lit z)],hR,aU.le_refl ι,Chg.refl m,.cons _ _ _ _ (.int k z) .nil,by simp[Value.oneCell'],.int hu z hw⟩
  ·rename_i hu
   obtain ⟨s,rfl,_,hs⟩:=DataW.trod_string hu h
   refine ⟨ι,m, [.str (s.data.toList.map UInt8.toNat)],hR,aU.le_refl ι,Chg.refl m,.cons _ _ _ _ (.str _ s rfl) .nil,by simp[Value.oneCell'],.str hu _ ?_ ?_⟩
   ·intro b hb
    obtain ⟨c,_,rfl⟩:=List.mem_map.mp hb
    exact c.toNat_lt
   ·rw[List.length_map];exact hs
  ·rename_i e hu
   rw[Bool.and_eq_true,decide_eq_true_eq] at hok
   obtain ⟨he,hce⟩:=hok
   have he:e∈T:=by simpa using he
   rcases DataW.trod_slice hu h with ⟨rfl,_⟩|⟨a,len,cap,elems,rest,n',hn',rfl,_,_,hlc,hcm,hel,hE,hS,_⟩
   ·exact ⟨ι,m, [.nils],hR,aU.le_refl ι,Chg.refl m,.cons _ _ _ _ .nils .nil,by simp[Value.oneCell'],.slc hu .nils [] Sl.nil (by simp) (by simp)⟩
   ·have hn':n'=n:=by omega
    subst hn'
    obtain ⟨hrl,hS⟩:=hS rfl
    have go:∀k,k<=len->∃(ι':aU) (m':NH) (C:List (List NV)),Ro P W ι' m'/\ι.le ι'/\Chg [] m m'/\C.length=k/\(∀c∈C,Ty P m' e c/\c.length=P.cellsOf e)/\Cs W ι' a C.flatten:=by
     intro k
     induction k with
     |zero=>intro _;exact ⟨ι,m, [],hR,aU.le_refl ι,Chg.refl m,rfl,by simp,fun j v hv=>by simp at hv⟩
     |succ k ihk=>
      intro hk
      obtain ⟨ι1,m1,C,hR1,hle1,hC1,hlen,hall,hcs⟩:=ihk (by omega)
      have hEk:=hE k (by omega)
      rw[List.getElem?_eq_getElem (by omega)] at hEk
      obtain ⟨cs',h1,h2⟩:=Option.bind_eq_some_iff.mp hEk
      obtain ⟨_,hl',hcell⟩:=World.cells?_some h1
      obtain ⟨ι2,m2,l,hR2,hle2,hC2,hvr,hone,hty⟩:=ih e he cs' _ h2 ι1 m1 hR1
      have hll:=hvr.length
      have hfl:C.flatten.length=k*P.cellsOf e:=by rw[b7 fun c hc=>(hall c hc).2,hlen]
      refine ⟨ι2,m2,C++ [l],hR2,hle1.trans hle2,hC1.trans hC2 (fun _ h _=>h),by simp[hlen], ?_, ?_⟩
      ·intro c hc
       rcases List.mem_append.mp hc with hc|hc
       ·exact ⟨(hall c hc).1.grew hC2,(hall c hc).2⟩
       ·simp at hc;subst hc;exact ⟨hty,by omega⟩
      ·intro j v hv
       rw[List.flatten_append] at hv
       by_cases hj:j<C.flatten.length
       ·rw[List.getElem?_append_left hj] at hv
        exact (hcs.mono hle2) j v hv
       ·rw[List.getElem?_append_right (by omega)] at hv
        simp only[List.flatten_cons,List.flatten_nil,List.append_nil] at hv
        obtain ⟨v',h3,h4⟩:=hvr.get hv
        have hjl:j - C.flatten.length<cs'.length:=by
         rcases Nat.lt_or_ge (j - C.flatten.length) cs'.length with q|q
         ·exact q
         ·rw[List.getElem?_eq_none q] at h3;cases h3
        refine ⟨v', ?_,h4,hone v' (List.mem_of_getElem? h3)⟩
        have:=hcell (j - C.flatten.length) (by omega)
        rw[h3] at this
        rw[←this]
        rw[yu]
        congr 2
        omega
    obtain ⟨ι1,m1,C,hR1,hle1,hC1,hlen,hall,hcs⟩:=go len (Nat.le_refl _)
    have hfl:C.flatten.length=len*P.cellsOf e:=by rw[b7 fun c hc=>(hall c hc).2,hlen]
    have hend:∀(b o:Nat) (cur:Array Value) (T':TypeId) (fz:Nat×Nat) (c:List NV),W.heap[b]? =some (.cells cur T' fz)->o+c.length<=cur.size->(∀i v,c[i]? =some v->∃v',cur[o+i]? =some v'/\VR ι1 v v'/\v'.oneCell'=true)->
     (0<cap->a=⟨b,o,none⟩/\o+cap*P.cellsOf e<=cur.size)->c=C.flatten->
     ∃ι' m' l,Ro P W ι' m'/\ι.le ι'/\Chg [] m m'/\VRL ι' l [.slice (some a) len cap]/\(∀v∈ [Value.slice (some a) len cap],v.oneCell'=true)/\Ty P m' t l:=by
     rintro b o cur T' fz c hb hoc hcc ha rfl
     obtain ⟨ι2,m2,hR2,hle2,hC2,hi2,hg2,ho2⟩:=hR1.add hb hoc hcc
     refine ⟨ι2,m2, [.slc m1.next 0 len (P.cellsOf e) 0],hR2,hle1.trans hle2,hC1.trans hC2 (fun _ h _=>h),.cons _ _ _ _ (.slc _ _ _ _ _ _ a cap hi2 hlc (Nat.zero_le _) hcm hce fun hc=> ?_) .nil,by simp[Value.oneCell'], ?_⟩
     ·obtain ⟨h1,h2⟩:=ha hc
      exact ⟨h1,by simpa using h2⟩
     ·refine .slc hu _ C ⟨fun c hc=>(hall c hc).2,Or.inr ⟨m1.next,0,0,false,_,by rw[hlen],hg2,ho2, ?_, ?_⟩⟩ (by rw[hlen];omega) fun c hc=>((hall c hc).1).grew hC2
      ·rw[hfl,hlen];omega
      ·rw[List.drop_zero,hlen,←hfl,List.take_length]
    by_cases hcap:cap=0
    ·have hl0:len=0:=by omega
     have hC0:C= []:=List.length_eq_zero_iff.mp (by omega)
     subst hC0
     obtain ⟨b,cur,T',fz,hb⟩:=hne
     exact hend b 0 cur T' fz [] hb (by simp) (fun i v hv=>by simp at hv) (fun h=>by omega) rfl
    ·
     have cells:∀i,i<cap->∃cs',W.cells? 0 (a.add (i*P.cellsOf e)) (P.cellsOf e)=some cs':=by
      intro i hi
      rcases Nat.lt_or_ge i len with h|h
      ·have:=hE i h
       rw[List.getElem?_eq_getElem (by omega)] at this
       obtain ⟨cs',h1,_⟩:=Option.bind_eq_some_iff.mp this
       exact ⟨cs',h1⟩
      ·have:=hS (i - len) (by omega)
       rw[List.getElem?_eq_getElem (by omega),show len+(i - len)=i by omega] at this
       obtain ⟨cs',h1,_⟩:=Option.bind_eq_some_iff.mp this
       exact ⟨cs',h1⟩
     obtain ⟨cs0,h0⟩:=cells 0 (by omega)
     obtain ⟨_,hl0,hc0⟩:=World.cells?_some h0
     have hv0:=hc0 0 hce
     rw[List.getElem?_eq_getElem (by omega)] at hv0
     have hsp:=World.cell?_spot hv0
     obtain ⟨cur,T',fz,hb,_⟩:=pU hv0
     have hab:(a.add (0*P.cellsOf e)).add 0=a:=by rw[yu];simp[Addr.add]
     rw[hab] at hsp hb
     have hin:∀j v',W.cell? (a.add j)=some v'->cur[a.off+j]? =some v':=by
      intro j v' h
      obtain ⟨cur',T2,fz2,hb',hc'⟩:=pU h
      rw[E5] at hb'
      rw[KM] at hc'
      rw[hb] at hb'
      injection hb' with hb'
      injection hb' with hb' _ _
      subst hb'
      exact hc'
     obtain ⟨cs1,h1⟩:=cells (cap - 1) (by omega)
     obtain ⟨_,hl1,hc1⟩:=World.cells?_some h1
     have hv1:=hc1 (P.cellsOf e - 1) (by omega)
     rw[List.getElem?_eq_getElem (by omega)] at hv1
     have hmul:(cap - 1)*P.cellsOf e+P.cellsOf e=cap*P.cellsOf e:=by
      rw[←Nat.succ_mul];congr 1;omega
     have hlast:cur[a.off+(cap*P.cellsOf e - 1)]? =some cs1[P.cellsOf e - 1]:=by
      refine hin (cap*P.cellsOf e - 1) _ ?_
      rw[←hv1]
      rw[yu]
      congr 2
      omega
     have hsz:a.off+(cap*P.cellsOf e - 1)<cur.size:=(Array.getElem?_eq_some_iff.mp hlast).1
     have hcapp:0<cap*P.cellsOf e:=Nat.mul_pos (by omega) hce
     have hlm:len*P.cellsOf e<=cap*P.cellsOf e:=Nat.mul_le_mul_right _ hlc
     refine hend a.block a.off cur T' fz C.flatten hb (by omega) (fun i v hv=> ?_) (fun _=>⟨by cases a;simp at hsp;simp[hsp],by omega⟩) rfl
     obtain ⟨v',q1,q2,q3⟩:=hcs i v hv
     exact ⟨v',hin i v' q1,q2,q3⟩
  ·rename_i fs hu
   rw[Bool.and_eq_true] at hok
   obtain ⟨hft,htl⟩:=hok
   obtain ⟨xs,n',hn',_,hcl,hxl,hF⟩:=DataW.trod_struct hu h
   have hn':n'=n:=by omega
   subst hn'
   have go:∀(fl:List Field) (o:Nat) (ys:List (DataW H×List MemPlace)),(∀f∈fl,f.type∈T)->qY P fl o (P.cellsOf t)=true->o<=cs.length->(∀(i:Nat) (f:Field),fl[i]? =some f->∃y,DataW.trod enc P W 0 (fun _=>true) true n' f.type ((cs.drop f.offset).take (P.cellsOf f.type))=some y)->
    ∀(ι:aU) (m:NH),Ro P W ι m->∃ι' m' l,Ro P W ι' m'/\ι.le ι'/\Chg [] m m'/\VRL ι' l (cs.drop o)/\(∀v∈cs.drop o,v.oneCell'=true)/\TyL P m' (fl.map (·.type)) l:=by
    intro fl
    induction fl with
    |nil=>
     intro o ys _ htl _ _ ι m hR
     have ho:o=cs.length:=by rw[hcl];exact of_decide_eq_true htl
     subst ho
     rw[List.drop_length]
     exact ⟨ι,m, [],hR,aU.le_refl ι,Chg.refl m,.nil,by simp,.nil⟩
    |cons f fl ihf=>
     intro o ys hfT htl ho hF ι m hR
     have htl:((f.offset==o)&&qY P fl (o+P.cellsOf f.type) (P.cellsOf t))=true:=htl
     rw[Bool.and_eq_true,beq_iff_eq] at htl
     obtain ⟨rfl,htl⟩:=htl
     obtain ⟨y,hy⟩:=hF 0 f rfl
     obtain ⟨ι1,m1,l1,hR1,hle1,hC1,hvr1,hone1,hty1⟩:=ih f.type (hfT f (List.mem_cons_self ..)) _ y hy ι m hR
     have hle:f.offset+P.cellsOf f.type<=cs.length:=by
      have:∀(fl:List Field) (o:Nat),qY P fl o (P.cellsOf t)=true->o<=P.cellsOf t:=by
       intro fl
       induction fl with
       |nil=>intro o h;exact Nat.le_of_eq (of_decide_eq_true h)
       |cons g fl ih=>
        intro o h
        have h:((g.offset==o)&&qY P fl (o+P.cellsOf g.type) (P.cellsOf t))=true:=h
        rw[Bool.and_eq_true] at h
        have:=ih _ h.2
        omega
      have:=this fl _ htl
      omega
     obtain ⟨ι2,m2,l2,hR2,hle2,hC2,hvr2,hone2,hty2⟩:=ihf (f.offset+P.cellsOf f.type) [] (fun g hg=>hfT g (List.mem_cons_of_mem _ hg)) htl hle (fun i g hg=>hF (i+1) g (by simpa using hg)) ι1 m1 hR1
     have hsplit:cs.drop f.offset=(cs.drop f.offset).take (P.cellsOf f.type)++cs.drop (f.offset+P.cellsOf f.type):=by
      rw[←List.drop_drop,List.take_append_drop]
     refine ⟨ι2,m2,l1++l2,hR2,hle1.trans hle2,hC1.trans hC2 (fun _ h _=>h), ?_, ?_,.cons l1 l2 (hty1.grew hC2) hty2⟩
     ·rw[hsplit];exact VRL.append (hvr1.mono hle2) hvr2
     ·rw[hsplit];intro v hv
      rcases List.mem_append.mp hv with hv|hv
      ·exact hone1 v hv
      ·exact hone2 v hv
   obtain ⟨ι',m',l,h1,h2,h3,h4,h5,h6⟩:=go fs.toList 0 [] (fun f hf=>by simpa using List.all_eq_true.mp hft f hf) htl (Nat.zero_le _) (fun i f hf=>by
    have hi:i<xs.length:=by
     rcases Nat.lt_or_ge i fs.toList.length with q|q
     ·rw[hxl];simpa using q
     ·rw[List.getElem?_eq_none q] at hf;cases hf
    exact ⟨xs[i],by rw[hF i f (by simpa using hf),List.getElem?_eq_getElem hi]⟩) ι m hR
   rw[List.drop_zero] at h4 h5
   exact ⟨ι',m',l,h1,h2,h3,h4,h5,.struct hu l h6⟩
  ·cases hok
inductive TyA (P:Program) (m:NH):List TypeId->List NV->Prop
 |nil:TyA P m [] []
 |one {t:TypeId} {ts:List TypeId} {l:List NV} (x:NV) (hn:∀fs,P.underlying t≠some (.struct fs)) (h:Ty P m t [x]) (hl:TyA P m ts l):TyA P m (t::ts) (x::l)
 |agg {t:TypeId} {ts:List TypeId} {l:List NV} {fs:Array Field} (c:List NV) (ht:P.underlying t=some (.struct fs)) (h:Ty P m t c) (hl:TyA P m ts l):TyA P m (t::ts) (.agg c::l)
theorem TyA.grew {P:Program} {m m':NH} (hC:Chg [] m m'):∀{ts:List TypeId} {l:List NV},TyA P m ts l->TyA P m' ts l
 |_,_,.nil=> .nil
 |_,_,.one x hn h hl=> .one x hn (h.grew hC) (TyA.grew hC hl)
 |_,_,.agg c ht h hl=> .agg c ht (h.grew hC) (TyA.grew hC hl)
theorem BX {P:Program} {W:World} {base:Nat} {t:TypeId} {v:Value} (hok:∀fs,P.underlying t≠some (.struct fs)) (h:Value.okWide P W .any base t v) (ht:kC P [] t=true∨∃e,P.underlying t=some (.slice e)):v.cells=#[v]:=by
 unfold Value.okWide at h
 rcases ht with ht|⟨e,hu⟩
 ·unfold kC at ht
  split at ht
  ·rename_i hu;rw[hu] at h;unfold Cell.okWide Cell.ok at h;rw[hu] at h;dsimp only at h;cases v<;>first|rfl|exact h.elim
  ·rename_i hu;rw[hu] at h;unfold Cell.okWide Cell.ok at h;rw[hu] at h;dsimp only at h;cases v<;>first|rfl|exact h.elim
  ·rename_i hu;rw[hu] at h;unfold Cell.okWide Cell.ok at h;rw[hu] at h;dsimp only at h;cases v<;>first|rfl|exact h.elim
  ·rename_i e hu;rw[hu] at h;unfold Cell.okWide Cell.ok at h;rw[hu] at h;dsimp only at h;cases v<;>first|rfl|exact h.elim
  ·rename_i fs hu;exact Q3 hu (hok fs)
  ·cases ht
 ·rw[hu] at h;unfold Cell.okWide Cell.ok at h;rw[hu] at h;dsimp only at h;cases v<;>first|rfl|exact h.elim
theorem Br {P:Program} {W:World} {T:List TypeId} (hT:Al P T=true) (hne:∃(b:Nat) (cur:Array Value) (T:TypeId) (fz:Nat×Nat),W.heap[b]? =some (.cells cur T fz)) {base:Nat} {H:Type} {enc:TypeId×Value->H}:
 ∀(ts:List TypeId) (args:List Value) (ds:List (DataW H)) (ps:List MemPlace),(∀t∈ts,t∈T)->DataW.TrodAll enc P W 0 (fun _=>true) true ts args ds ps->(∀(j:Nat) t v,ts[j]? =some t->args[j]? =some v->Value.okWide P W .any base t v)->
 ∀(ι:aU) (m:NH),Ro P W ι m->∃ι' m' l,Ro P W ι' m'/\ι.le ι'/\Chg [] m m'/\VRL ι' l args/\TyA P m' ts l:=by
 intro ts
 induction ts with
 |nil=>
  intro args ds ps _ h _ ι m hR
  cases args with
  |nil=>exact ⟨ι,m, [],hR,aU.le_refl ι,Chg.refl m,.nil,.nil⟩
  |cons=>cases h
 |cons t ts ih=>
  intro args ds ps hts h hval ι m hR
  cases args with
  |nil=>cases h
  |cons v args=>
   cases ds with
   |nil=>cases h
   |cons d ds=>
    obtain ⟨p,q,⟨n,hd⟩,hr,_⟩:=h
    obtain ⟨ι1,m1,c,hR1,hle1,hC1,hv1,hone1,hty1⟩:=GB hT hne n t (hts t (List.mem_cons_self ..)) _ _ hd ι m hR
    obtain ⟨ι2,m2,l,hR2,hle2,hC2,hv2,hty2⟩:=ih args ds q (fun t ht=>hts t (List.mem_cons_of_mem _ ht)) hr (fun j t v h1 h2=>hval (j+1) t v (by simpa using h1) (by simpa using h2)) ι1 m1 hR1
    have hv:=hval 0 t v rfl rfl
    have hok:kC P T t=true:=List.all_eq_true.mp hT t (hts t (List.mem_cons_self ..))
    have hC:=hC1.trans hC2 (fun _ h _=>h)
    by_cases hst:∃fs,P.underlying t=some (.struct fs)
    ·obtain ⟨fs,hu⟩:=hst
     have hv':=hv
     unfold Value.okWide at hv'
     rw[hu] at hv'
     obtain ⟨cs,rfl,_,_⟩:=hv'
     refine ⟨ι2,m2,.agg c::l,hR2,hle1.trans hle2,hC,.cons _ _ _ _ ?_ hv2,.agg c hu (hty1.grew hC2) hty2⟩
     have:=VR.agg (ι:=ι2) c cs.toList (hv1.mono hle2) hone1
     simpa using this
    ·have hn:∀fs,P.underlying t≠some (.struct fs):=fun fs q=>hst ⟨fs,q⟩
     have hc:v.cells=#[v]:=by
      refine BX hn hv ?_
      unfold kC at hok ⊢
      split at hok
      ·rename_i hu;exact Or.inl rfl
      ·rename_i hu;exact Or.inl rfl
      ·rename_i hu;exact Or.inl rfl
      ·rename_i e hu;exact Or.inr ⟨e,hu⟩
      ·rename_i fs hu;exact Q3 hu (hn fs)
      ·cases hok
     rw[hc] at hv1
     cases hv1 with
     |cons x _ xl _ hx hxl=>
      cases hxl
      exact ⟨ι2,m2,x::l,hR2,hle1.trans hle2,hC,.cons _ _ _ _ (hx.mono hle2) hv2,.one x hn (hty1.grew hC2) hty2⟩
theorem xz {P:Program} (hM:P.follows .mixedOrders=true) (hP:P.check= .ok ()) {S:cR} (hS:gO P S) {T:List TypeId} (hT:Al P T=true) {f:Nat} {nf:NFun} (hf:ah P f=some (.code nf)) (hs:∀l,S f l=fun _=>none) {ts:List TypeId} (hts:∀t∈ts,t∈T)
 {m0:NH} (law:∀(m:NH) (l:List NV),Chg [] m0 m->TyA P m ts l->∃m',a6 P S f l m (.bool true) m') {W:World} {ι0:aU} (h0:Ro P W ι0 m0) (hne:∃(b:Nat) (cur:Array Value) (T:TypeId) (fz:Nat×Nat),W.heap[b]? =some (.cells cur T fz)) {base:Nat} {H:Type} {enc:TypeId×Value->H} {args:List Value} {ds:List (DataW H)} {ps:List MemPlace}
 (h:DataW.TrodAll enc P W 0 (fun _=>true) true ts args ds ps) (hval:∀(j:Nat) t v,ts[j]? =some t->args[j]? =some v->Value.okWide P W .any base t v):
 Calls P f args.toArray W fun e W'=>e= .returned (.bool true)/\Below W.heap.size W W':=by
 obtain ⟨ι,m,l,hR,_,hC,hv,hty⟩:=Br hT hne ts args ds ps hts h hval ι0 m0 h0
 obtain ⟨m',c,hc⟩:=law m l hC hty
 refine (E0 hM hP hS hf (hs l) hc hR.1 hR.2 hv).mono ?_
 rintro e W' ⟨⟨ι',v',rfl,h1,_,_⟩,hb⟩
 cases h1
 exact ⟨rfl,hb⟩
theorem trodAll_stays {P:Program} (hl:laidOutB P=true) {W W':World} (hb:Below W.heap.size W W') {H:Type} {enc:TypeId×Value->H} {sp:Nat->Bool}:∀(ts:List TypeId) (args:List Value) (ds:List (DataW H)) (ps:List MemPlace),(∀t∈ts,P.readableRec t=true/\t<P.types.size)->
 DataW.TrodAll enc P W 0 (fun _=>true) true ts args ds ps->(∀p∈ps,p.block<W.heap.size)->(∀p∈ps,sp p.block=true)->DataW.TrodAll enc P W' 0 sp true ts args ds ps:=by
 intro ts
 induction ts with
 |nil=>
  intro args ds ps _ h _ _
  cases args with
  |nil=>cases ds with
   |nil=>exact h
   |cons=>cases h
  |cons=>cases h
 |cons t ts ih=>
  intro args ds ps hr h hlt hsp
  cases args with
  |nil=>cases h
  |cons v args=>
   cases ds with
   |nil=>cases h
   |cons d ds=>
    obtain ⟨p,q,hd,hq,rfl⟩:=h
    exact ⟨p,q,WideElems.Trod_stays hl (hr t (List.mem_cons_self ..)).1 (hr t (List.mem_cons_self ..)).2 hd (fun x hx=>hb.same (hlt x (List.mem_append_left _ hx))) (fun x hx=>hsp x (List.mem_append_left _ hx)),
     ih args ds q (fun t ht=>hr t (List.mem_cons_of_mem _ ht)) hq (fun x hx=>hlt x (List.mem_append_right _ hx)) (fun x hx=>hsp x (List.mem_append_right _ hx)),rfl⟩
theorem Ty.inv_int {P:Program} {m:NH} {t:TypeId} {k:IntKind} {l:List NV} (hu:P.underlying t=some (.int k)) (h:Ty P m t l):∃n,l= [.int k (.lit n)]/\(Lit.int k n).wf=true:=by
 cases h with
 |bool ht=>rw[hu] at ht;cases ht
 |int ht n h=>rw[hu] at ht;injection ht with ht;injection ht with ht;subst ht;exact ⟨n,rfl,h⟩
 |str ht=>rw[hu] at ht;cases ht
 |slc ht=>rw[hu] at ht;cases ht
 |struct ht=>rw[hu] at ht;cases ht
theorem Ty.inv_slc {P:Program} {m:NH} {t e:TypeId} {l:List NV} (hu:P.underlying t=some (.slice e)) (h:Ty P m t l):∃v C,l= [v]/\Sl m v (P.cellsOf e) C/\C.length<=maxLen/\∀c∈C,Ty P m e c:=by
 cases h with
 |bool ht=>rw[hu] at ht;cases ht
 |int ht=>rw[hu] at ht;cases ht
 |str ht=>rw[hu] at ht;cases ht
 |slc ht v C hS hl h=>rw[hu] at ht;injection ht with ht;injection ht with ht;subst ht;exact ⟨v,C,rfl,hS,hl,h⟩
 |struct ht=>rw[hu] at ht;cases ht
theorem TyL.inv {P:Program} {m:NH} {t:TypeId} {ts:List TypeId} {l:List NV} (h:TyL P m (t::ts) l):∃a b,l=a++b/\Ty P m t a/\TyL P m ts b:=by
 cases h with
 |cons a b h hl=>exact ⟨a,b,rfl,h,hl⟩
theorem TyL.inv0 {P:Program} {m:NH} {l:List NV} (h:TyL P m [] l):l= []:=by cases h;rfl
theorem TyA.inv1 {P:Program} {m:NH} {t:TypeId} {ts:List TypeId} {l:List NV} (hn:∀fs,P.underlying t≠some (.struct fs)) (h:TyA P m (t::ts) l):∃x r,l=x::r/\Ty P m t [x]/\TyA P m ts r:=by
 cases h with
 |one x _ h hl=>exact ⟨x,_,rfl,h,hl⟩
 |agg c ht=>exact Q3 ht (hn _)
theorem TyA.inv0 {P:Program} {m:NH} {l:List NV} (h:TyA P m [] l):l= []:=by cases h;rfl
theorem a6.kept {P:Program} {S:cR} {f:Nat} {args:List NV} {v:NV} (h:S f args=fun h=>some (v,h)) (m:NH):a6 P S f args m v m:=by
 refine ⟨none,by simp,0, ?_⟩
 unfold bZ;rw[h]
theorem a6.keptM {P:Program} {S:cR} {f:Nat} {args:List NV} {v:NV} {m m':NH} (h:S f args m=some (v,m')):a6 P S f args m v m':=by
 refine ⟨none,by simp,0, ?_⟩
 unfold bZ;rw[h]
theorem trodAll_len {P:Program} {W:World} {base:Nat} {sp:Nat->Bool} {hd:Bool} {H:Type} {enc:TypeId×Value->H}:∀{ts:List TypeId} {vs:List Value} {ds:List (DataW H)} {ps:List MemPlace},DataW.TrodAll enc P W base sp hd ts vs ds ps->ds.length=ts.length:=by
 intro ts
 induction ts with
 |nil=>intro vs ds ps h;cases vs<;>cases ds<;>first|rfl|cases h
 |cons t ts ih=>
  intro vs ds ps h
  cases vs with
  |nil=>cases h
  |cons v vs=>cases ds with
   |nil=>cases h
   |cons d ds=>obtain ⟨_,_,_,h,_⟩:=h;simp[ih h]
end
end Nm
namespace Nm
open Go Go.RowKit
attribute [go_sem] KU Oe LA Oc OJ LG sT N7 J2 I1 Io I2 L2 GH Ib Jv Gz PK Nq Ow
attribute [go_sem] QB OG Nb LM Mr Ni Jy Jz HN NU OY HM Ii Qy PP DU QK QD
attribute [go_sem] La CW Gu G9 C1 Mh Gx LY MA Hc KV Ku Gr G7 Dz Ih D7 E7 DV
attribute [go_sem] Ij G4 DC Ip rS Bool.and_true Bool.true_and MJ Np Gs HA I0 Pv Pt PJ QJ P4
attribute [go_sem] PS PH PC Pu Qm Pw Qv PU Qs Qd Pp PA PO Pk Qe Pj P6 Qg Qh QH
attribute [go_sem] Pm PQ QC LT Mf N1 Qb NQ NK My MG Ns Ew FN CC Lg KR O5 GJ G5
attribute [go_sem] LL Dg DQ Bc In Mi Js Il Nx NX Lb
attribute [go_sem] Oq Jk Nu Mj HV Of IP Og ID Ny LQ KN Lw Jl Jm ww ER CO DE
attribute [go_sem] MY KW FT NE Iy FL Dc Nw Kh Nf N6 OP I5 On JA MM PL MS
attribute [go_sem] O4 MO No NJ Mz Na Oz OK N8 Bf OU NA LN JB Pr Nz Oo
attribute [go_sem] HQ GF Hm Nc NZ PR NW Po MV Ql Nl Jj Nat.sub_self Nat.sub_zero OZ NL IZ MD
attribute [go_sem] K3 Ie Nd Oh MZ MC Qc Iq Gv Lk ND JJ ML LO
attribute [go_sem] Qz EW Jg Ju cI bF JI oF Eu Fo EI up a7 fU KS O3 NP OX
attribute [go_sem] JO NN MW MX iT Bool.not_true Bool.not_false Ko Ja Int.toNat_natCast Int.toNat_zero Int.toNat_one
attribute [go_sem] List.getElem?_cons_zero List.getElem?_cons_succ List.length_cons List.length_nil List.set_cons_zero List.set_cons_succ List.take_zero List.drop_zero List.take_succ_cons List.drop_succ_cons List.take_nil List.drop_nil List.nil_append List.cons_append List.append_nil Nat.zero_add Nat.zero_mul Nat.testBit cond_true cond_false
attribute [go_sem] OI JX
attribute [go_sem] NT.get_leaf I3 GO ax beq_self_eq_true decide_true decide_false if_true if_false ite_true ite_false eq_self true_and and_true true_implies
noncomputable def ay:=And.intro (@List.length_set.{0})<|And.intro (@List.length_cons.{0})<|And.intro (@List.length_nil.{0})<|And.intro (@List.length_append.{0})<|And.intro (@List.length_map.{0,0})<|@List.length_replicate.{0}
namespace C
abbrev t (a:D4):NOpd:= .tmp a
abbrev k (z:Int):NOpd:= .const (.int .i64 (.lit z))
abbrev kb (z:Int):NOpd:= .const (.int .u8 (.lit z))
abbrev ku (z:Int):NOpd:= .const (.int .u64 (.lit z))
abbrev kt:NOpd:= .const (.bool true)
abbrev kf:NOpd:= .const (.bool false)
abbrev F (n:Nat):NOpd:= .const (.fn n [])
abbrev o (d:D4) (p:NOp) (i:Nat):NOper:=⟨some d,p,none,0,i⟩
abbrev O (d:D4) (p:NOp) (q i:Nat):NOper:=⟨some d,p,none,q,i⟩
abbrev G (d:D4) (p:NOp) (g:D4) (b:Bool) (i:Nat):NOper:=⟨some d,p,some (g,b),0,i⟩
abbrev m (d s:D4) (i:Nat):NOper:=⟨some d,.move (.tmp s),none,0,i⟩
abbrev f (n:Nat) (d s:D4) (i:Nat):NOper:=⟨some d,.fieldAddr n (.tmp s),none,0,i⟩
abbrev l (d s:D4) (i:Nat):NOper:=⟨some d,.load1 (.tmp s),none,0,i⟩
abbrev L (d s:D4) (i:Nat):NOper:=⟨some d,.lenSlc (.tmp s),none,0,i⟩
abbrev n (d s:D4) (i:Nat):NOper:=⟨some d,.nilCheck (.tmp s),none,0,i⟩
abbrev x (d s:D4) (j i:Nat):NOper:=⟨some d,.extract (.tmp s) j,none,0,i⟩
abbrev q (p:NOp) (i:Nat):NOper:=⟨none,p,none,0,i⟩
abbrev b (d:D4) (p:BinOp) (a c:NOpd) (i:Nat):NOper:=⟨some d,.bin .num p a c,none,0,i⟩
end C
end Nm
namespace Nm
open Go Go.RowKit
section
variable {t:Tm} {m:NH}
end
end Nm
namespace Nm
open Go Go.RowKit
section
variable {t:Tm} {m:NH}
theorem Nt {ty:Nat} {x:NOpd}:af (.mkIfc ty x) t m=oN (ρ t x) fun v=> .val (.ifc ty v):=by
 show wV t x _=_
 rw[bW]
noncomputable def Oy (v:NV):NR:=match v with| .ifc ty v=> .pan (.ifc ty v)|_=> .fail
theorem OB {x:NOpd}:af (.panic x) t m=oN (ρ t x) Oy:=by
 show wV t x _=_
 rw[bW];rfl
theorem OF {ty:Nat} {v:NV}:Oy (.ifc ty v)= .pan (.ifc ty v):=_root_.id rfl
noncomputable def Os (ty:Nat) (z v:NV):NR:=match v with
 | .ifc u v=>cond (Nat.beq u ty) (.val (.tup [v,.bool true])) (.val (.tup [z,.bool false]))
 | .nili=> .val (.tup [z,.bool false])
 |_=> .fail
theorem N9 {ty:Nat} {z:NV} {x:NOpd}:af (.typeAssert ty z x) t m=oN (ρ t x) (Os ty z):=by
 show wV t x _=_
 rw[bW];rfl
theorem Nr {ty:Nat} {z v:NV}:Os ty z (.ifc ty v)= .val (.tup [v,.bool true]):=by
 show cond (Nat.beq ty ty) _ _=_
 rw[Nat.beq_refl];rfl
end
attribute [go_sem] Nt OB OF N9 Nr
end Nm
namespace Nm
open Go
noncomputable def NC.parts (c:NC):List NC:=NC.rec (motive:=fun _=>List NC) [] (fun _=> []) (fun _=> []) (fun _ _ x y=>x++y) (fun _ _ _ x y=>x++y) (fun _ _ x=>x) (fun a x=>a::x) (fun _ _ a b x y=>a::x++b::y) (fun _=> []) [] c
noncomputable def part (o:Option NFn) (i:Nat):NC:=match o with|some (.code c)=>(c.body.parts[i]?).getD .skip|_=> .skip
theorem db (n:Nat):Int.ofNat (no_index (@OfNat.ofNat Nat n (instOfNatNat n)))=@OfNat.ofNat Int n instOfNat:=rfl
theorem bk:Int.negSucc 0=-1:=rfl
theorem bj:Int.negSucc 3=-4:=rfl
end Nm
namespace Nm
open Go Go.RowKit
noncomputable def yM (f:Nat) (F:List NV->NH->Option (NV×NH)) (S:cR):cR:=fun g=>cond (Nat.beq g f) F (S g)
section
def fo (P:Program) (f:Nat) (F:List NV->NH->Option (NV×NH)):Prop:=
 ∀(ι:aU) (B:Nat) (h:NH) (w:World) (args:List NV) (args':List Value) (v:NV) (h':NH),F args h=some (v,h')->Rel P ι B h w->B<=w.heap.size->VRL ι args args'->
  qP P ι B h w ((callFunc f args'.toArray).run P w) (.val v none h')
theorem kY {P:Program} {S:cR} {f:Nat} {F:List NV->NH->Option (NV×NH)} (hS:gO P S) (hF:fo P f F):gO P (yM f F S):=by
 intro ι B h w g args args' v h' hg hR hB hl
 unfold yM at hg
 cases hb:Nat.beq g f with
 |true=>
  rw[hb] at hg
  obtain rfl:=Ra hb
  exact hF ι B h w args args' v h' hg hR hB hl
 |false=>
  rw[hb] at hg
  exact hS ι B h w g args args' v h' hg hR hB hl
theorem fo.of {P:Program} {f:Nat} {F:List NV->NH->Option (NV×NH)} (hen:∀args w,(callFunc f args).run P w= .ok (.enter f args) w)
 (H:∀(ι:aU) (B:Nat) (h:NH) (w:World) (args:List NV) (args':List Value) (v:NV) (h':NH),F args h=some (v,h')->Rel P ι B h w->B<=w.heap.size->VRL ι args args'->
  Calls P f args'.toArray w fun e w'=>∃ι' v',e= .returned v'/\VR ι' v v'/\Rel P ι' B h' w'/\B<=w'.heap.size/\Grow ι h w ι' h' w'):fo P f F:=by
 intro ι B h w args args' v h' hF hR hB hl c0 cs
 obtain ⟨e,w',fr,⟨ι',v',he,hv,hR',hB',hG⟩,hcomes,hfn,hleave⟩:=H ι B h w args args' v h' hF hR hB hl (c0::cs)
 subst he
 exact ⟨ι',v',w',hv,hR',hB',hG,.inr ⟨w,.inl ⟨f,args'.toArray,hen _ w,Steps.trans hcomes (.one (step_leave_returned hleave))⟩⟩⟩
theorem Rel.below {P:Program} {ι:aU} {B:Nat} {h:NH} {w w':World} (hR:Rel P ι B h w) (hb:Below w.heap.size w w'):Rel P ι B h w':=
 ⟨fun i p hi=>by
  obtain ⟨o,o1,o2⟩:=hR.obj i p hi
  exact ⟨o,o1,o2.mono (aU.le_refl _) (hb.block _ (hR.lt i p hi))⟩,hR.inj,hR.base,fun i p hi=>Nat.lt_of_lt_of_le (hR.lt i p hi) hb.size,hR.fresh,hR.gl⟩
theorem Grow.below {ι:aU} {h:NH} {w w':World} (hb:Below w.heap.size w w'):Grow ι h w ι h w':=
 ⟨aU.le_refl _,Nat.le_refl _,fun _ _ x=> .inl x,fun i p x y=> .inr ⟨i,p,x,y,rfl⟩,fun _ _ _=>rfl,hb.size,hb.os,hb.tape,hb.output,fun b hb' _=>hb.block b hb'⟩
theorem fo.plain {P:Program} {f:Nat} {F:List NV->NH->Option (NV×NH)} (hen:∀args w,(callFunc f args).run P w= .ok (.enter f args) w)
 (H:∀(ι:aU) (B:Nat) (h:NH) (w:World) (args:List NV) (args':List Value) (v:NV) (h':NH),F args h=some (v,h')->Rel P ι B h w->VRL ι args args'->
  h'=h/\Calls P f args'.toArray w fun e w'=>(∃v',e= .returned v'/\VR ι v v')/\Below w.heap.size w w'):fo P f F:=
 fo.of hen fun ι B h w args args' v h' hF hR hB hl=>by
  obtain ⟨rfl,hc⟩:=H ι B h w args args' v h' hF hR hl
  refine hc.mono ?_
  rintro e w' ⟨⟨v',he,hv⟩,hb⟩
  exact ⟨ι,v',he,hv,hR.below hb,Nat.le_trans hB hb.size,.below hb⟩
theorem Rel.global {P:Program} {ι:aU} {B:Nat} {h:NH} {w:World} (hR:Rel P ι B h w) {g:Nat} (hg:g<NG) {wr:Bool} {c:List NV} (hc:h.get (D4.of g)=some (.cells wr c)) (hn:c.length=GN g):
 ∃cur T fz,w.heap[g]? =some (.cells cur T fz)/\VRL ι c cur.toList:=by
 obtain ⟨o,o1,o2⟩:=hR.obj _ _ (hR.gl g hg)
 rw[hc] at o1
 cases o1
 obtain ⟨cur,T,fz,k1,k2,k3,k4,k5⟩:=o2
 dsimp only at k1 k3 k4 k5
 refine ⟨cur,T,fz,k1,VRL.of_get (by simp;omega) fun i v hi=> ?_⟩
 obtain ⟨v',a,b,_⟩:=k5 i v hi
 exact ⟨v',by simpa using a,b⟩
theorem Ro.lay {P:Program} {W:World} {ι:aU} {m:NH} (h:Ro P W ι m) {g:Nat} (hg:g<NG) {c:List NV} {cur:Array Value} {T:TypeId} {fz:Nat×Nat} (hb:W.heap[g]? =some (.cells cur T fz)) (hn:cur.size=GN g)
 (hc:VRL ι c cur.toList) (h1:∀v∈cur.toList,v.oneCell'=true):Ro P W ι (m.put (D4.of g) (.cells false c)):=by
 obtain ⟨hR,hL⟩:=h
 have hι:=hR.gl g hg
 have hnl:∀i p,ι i=some p->¬Live ((m.put (D4.of g) (.cells false c)).get i):=fun i p hi=>by
  by_cases e:i=D4.of g
  ·subst e;rw[NH.get_put_same];exact fun q=>q.2 c rfl
  ·rw[NH.get_put_ne _ _ e];exact hL i p hi
 have hold:(D4.of g).toNat<m.next.toNat:=by
  obtain ⟨o,o1,_⟩:=hR.obj _ _ hι;exact hR.fresh _ _ o1
 refine ⟨⟨fun i p hi=> ?_,fun i j p q hi _ _ hl _=>Q3 hl (hnl i p hi),fun i p hi hl=>Q3 hl (hnl i p hi),hR.lt,fun i o ho=> ?_,hR.gl⟩,hnl⟩
 ·by_cases e:i=D4.of g
  ·subst e
   rw[hι] at hi;cases hi
   refine ⟨_,NH.get_put_same _ _ _,cur,T,fz,hb,fun q=>Bool.noConfusion q,hn,by rw[hc.length];simp;omega,fun i v hv=> ?_⟩
   obtain ⟨v',a,b⟩:=hc.get hv
   exact ⟨v',by simpa using a,b,h1 _ (List.mem_of_getElem? a)⟩
  ·obtain ⟨o,o1,o2⟩:=hR.obj i p hi
   exact ⟨o,by rw[NH.get_put_ne _ _ e];exact o1,o2⟩
 ·show i.toNat<m.next.toNat
  by_cases e:i=D4.of g
  ·subst e;exact hold
  ·rw[NH.get_put_ne _ _ e] at ho;exact hR.fresh i o ho
end
end Nm
namespace Nm
open Go Go.RowKit Go.Proofs Go.Sort
noncomputable section
def kh (fuel:Nat):Nat->List Nat->List Nat:=Nat.rec (fun _ acc=>acc) (fun _ ih u acc=>cond (Nat.ble (Nat.succ u) 10) (aq (Nat.add 48 u) fun d=>d::acc) (aq (Nat.add 48 (Nat.mod u 10)) fun d=>ih (Nat.div u 10) (d::acc))) fuel
def uL (n:Int):List Nat:=Int.rec (fun m=>kh 20 m []) (fun m=>45::kh 20 (Nat.succ m) []) n
def P7 (k:Nat):Nat->List NV:=Nat.rec (fun _=> []) (fun _ ih x=>aq x fun x=> .int .u64 (.lit (.ofNat x))::ih (Nat.mul x 10)) k
def pN:List NV:=P7 20 1
def lH (g:Nat) (h:NH):Bool:=match h.get (D4.of g) with|some (.cells _ c)=>iU (br 1) c pN|_=>false
def rj (g:Nat) (l:List NV) (h:NH):Option (NV×NH):=
 match l with
 | [.int .i64 (.lit n)]=>cond (lH g h) (cond (Gl (.negSucc 9223372036854775807) n) (cond (Gl n (.ofNat 9223372036854775807)) (some (.str (uL n),h)) none) none) none
 |_=>none
end
theorem qV (k u:Nat) (acc:List Nat):kh (k+1) u acc=if u<10 then (48+u)::acc else kh k (u / 10) ((48+u % 10)::acc):=by
 have e:kh (k+1) u acc=cond (Nat.ble (Nat.succ u) 10) (aq (Nat.add 48 u) fun d=>d::acc) (aq (Nat.add 48 (Nat.mod u 10)) fun d=>kh k (Nat.div u 10) (d::acc)):=rfl
 rw[e,ag,ag]
 by_cases h:u<10
 ·rw[Q5 h,Nat.ble_eq_true_of_le (by omega)];rfl
 ·rw[Q4 h]
  cases hb:Nat.ble (Nat.succ u) 10 with
  |true=>exact Q3 (Nat.le_of_ble_eq_true hb) (by omega)
  |false=>rfl
theorem tq:∀(k u:Nat) (acc:List Nat),u<10 ^ k->0<k->kh k u acc=(Lib.decDigits u).map UInt8.toNat++acc:=by
 intro k
 induction k with
 |zero=>intro u acc _ h;omega
 |succ k ih=>
  intro u acc hu _
  rw[qV,Lib.decDigits]
  by_cases h:u<10
  ·rw[Q5 h,dif_pos h];simp;omega
  ·rw[Q4 h,dif_neg h]
   rcases Nat.eq_zero_or_pos k with rfl|hk
   ·omega
   ·rw[ih _ _ (by rw[Nat.pow_succ] at hu;omega) hk]
    simp;omega
theorem FX {n:Int} (h0:-9223372036854775808<=n) (h1:n<=9223372036854775807):uL n=(Lib.itoa n).map UInt8.toNat:=by
 unfold Lib.itoa
 cases n with
 |ofNat m=>
  have e:uL (.ofNat m)=kh 20 m []:=rfl
  rw[e,tq 20 m [] (by show m<100000000000000000000;have:((m:Nat):Int)<=9223372036854775807:=h1;omega) (by omega),Q4 (by simp)]
  simp
 |negSucc m=>
  have e:uL (.negSucc m)=45::kh 20 (m+1) []:=rfl
  rw[e,tq 20 (m+1) [] (by show m+1<100000000000000000000;omega) (by omega),Q5 (by omega)]
  simp
theorem rm:pN=Lib.pow10Tab.map fun z=> .int .u64 (.lit z):=by
 have e:pN= [0,1,2,3,4,5,6,7,8,9,10,11,12,13,14,15,16,17,18,19].map fun k:Nat=>NV.int .u64 (.lit (.ofNat (10 ^ k))):=by kernel_rfl
 rw[e];rfl
theorem ow (w:World) (q:Nat) (os:Array Obj):Below w.heap.size w (grow (w.drewN q) os):=
 ⟨rfl,rfl,rfl,by first|(simp[grow];done)|(simp[grow];omega),fun i hi=>by
  show ((w.drewN q).heap++os)[i]? =_
  rw[Array.getElem?_append_left (by show i<w.heap.size;omega)]
  rfl⟩
section
theorem VRL.ints {ι:aU} {k:IntKind}:∀{zs:List Int} {l:List Value},VRL ι (zs.map fun z=> .int k (.lit z)) l->l=zs.map fun z=> .int k z:=by
 intro zs
 induction zs with
 |nil=>intro l h;cases h;rfl
 |cons z zs ih=>
  intro l h
  cases h with
  |cons _ v _ l' h hl=>cases h;rw[ih hl];rfl
theorem Fk {P:Program} {ι:aU} {B:Nat} {h:NH} {w:World} (hR:Rel P ι B h w) {g:Nat} (hg:g<NG) (hn:GN g=20) (hN:P.globalNamed "internal/strconv.uint64pow10" =some g) (ht:lH g h=true):Lib.TabIs P w "internal/strconv.uint64pow10" .u64 Lib.pow10Tab:=by
 unfold lH at ht
 split at ht
 ·rename_i wr c hc
  have:=jG (je 1) ht
  subst this
  obtain ⟨cur,T,fz,k1,k2⟩:=hR.global hg hc (by rw[hn];decide+kernel)
  rw[rm] at k2
  have:=VRL.ints k2
  unfold Lib.TabIs World.var?
  rw[hN]
  simp only[Option.bind_some,k1]
  rw[←this]
 ·cases ht
theorem Fd {P:Program} {ρ:Shelf.Ren} (L:LaysM.n171 P ρ) {g:Nat} (hg:g<NG) (hn:GN g=20) (hN:P.globalNamed "internal/strconv.uint64pow10" =some g):fo P (ρ.f 171) (rj g):=
 fo.plain (enters_of L.f171 (by kernel_rfl) rfl) fun ι B h w args args' v h' hF hR hl=>by
  unfold rj at hF
  split at hF
  ·rename_i n
   obtain ⟨c1,hF⟩:=aB hF
   obtain ⟨c2,hF⟩:=aB hF
   obtain ⟨c3,hF⟩:=aB hF
   cases hF
   rw[ji] at c2 c3
   have h0:-9223372036854775808<=n:=of_decide_eq_true c2
   have h1:n<=9223372036854775807:=of_decide_eq_true c3
   cases hl with
   |cons _ _ _ _ hx hnil=>
    cases hnil;cases hx
    refine ⟨rfl,(Any.strconv_Itoa L n h0 h1 w (Fk hR hg hn hN c1)).mono ?_⟩
    rintro e w' ⟨rfl,k,os,rfl⟩
    refine ⟨⟨_,rfl,.str _ _ ?_⟩,ow _ _ _⟩
    rw[FX h0 h1]
  ·cases hF
theorem HZ {P:Program} {ρ:Shelf.Ren} (L:LaysM.n171 P ρ) {f g:Nat} (hf:ρ.f 171=f) (hg:g<NG) (hn:GN g=20) (hN:P.globalNamed "internal/strconv.uint64pow10" =some g):fo P f (rj g):=hf▸Fd L hg hn hN
end
end Nm
/-! # a strings.Builder that stands at the beginning of a block of three cells -/
namespace Go.Proofs
open Go.Shelf Go.RowKit
variable {P : Program} {ρ : Ren}
structure WX (P : Program) (ρ : Ren) (T : TypeId) : Prop where
  lies : liesAt P P.depth T (3 / P.cellsOf T) 0 (ρ.t 72) 1 = true
  ne : T ≠ ρ.t 5
set_option maxHeartbeats 1000000 in
set_option maxRecDepth 100000 in
theorem W_copyCheck_fresh (L : Lays.n240 P ρ) (X : Builder.X72 P ρ) {T : TypeId} (Y : WX P ρ T) (b : Nat) (w : World) (h0 : w.cell? ⟨b, 0, none⟩ = some (.pointer none)) (hsh : w.shape? b = some (T, 3)) (hfz : w.frozen? ⟨b, 0, none⟩ = false) :
    Calls P (ρ.f 240) #[.pointer (some ⟨b, 0, none⟩)] w fun e w' => e = .returned (.tuple #[]) ∧ w' = w.setCell ⟨b, 0, none⟩ (.pointer (some ⟨b, 0, none⟩)) := by
  obtain ⟨j, hj, hjs⟩ := Option.map_eq_some_iff.1 X.sizeBuilder
  have mixed := L.mixed
  have t72 := L.t72; have a72 := L.a72; have z72 := L.z72; have v72 := L.v72; have u72 := run_underlying L.t72
  have t70 := L.t70; have a70 := L.a70; have z70 := L.z70; have v70 := L.v70; have u70 := run_underlying L.t70
  have t9 := L.t9; have a9 := L.a9; have z9 := L.z9; have v9 := L.v9; have u9 := run_underlying L.t9
  have t4 := L.t4; have a4 := L.a4; have z4 := L.z4; have v4 := L.v4; have u4 := run_underlying L.t4
  have t164 := L.t164; have a164 := L.a164; have z164 := L.z164; have v164 := L.v164; have u164 := run_underlying L.t164
  go_enter L.f240, Body.n240_ntmps ρ
  go_wp2
  rw [Lib.run_to_unsafe w ⟨b, 0, none⟩ L.t70 L.t164 hj (by rw [hjs]; decide) hsh (Nat.zero_lt_succ 2)]
  simp only [Result.andThen]
  rw [Oper.upon_value]
  go_wp2
  rw [run_callFunc_extern L.f276 (by kernel_rfl) (by kernel_rfl) (by kernel_rfl) (e := Extern.AbiNoEscape.same) (by kernel_rfl)]
  rw [Lib.run_noEscape]
  simp only [Result.andThen]
  rw [Oper.upon_value]
  go_wp2
  rw [Lib.run_from_unsafe w ⟨b, 0, none⟩ L.t164 L.t70 hj hsh Y.lies]
  simp only [Result.andThen]
  rw [Oper.upon_value]
  go_wp2
  go_end0
  exact ⟨rfl, rfl⟩
/-- a row of bytes that lies alone at the beginning of its block -/
def OW (e : TypeId) (v : Value) (n : Nat) (xs : List Value) (w : World) : Prop :=
  xs.length = n ∧ ((v = .slice none 0 0 ∧ n = 0) ∨ ∃ g cap cur, v = .slice (some ⟨g, 0, none⟩) n cap ∧ w.heap[g]? = some (.cells cur e (0, 0)) ∧ n ≤ cap ∧ cap ≤ maxLen ∧ cap ≤ cur.size ∧ cur.toList.take n = xs)
theorem OW.kept {e : TypeId} {v : Value} {n : Nat} {xs : List Value} {w w' : World} {b : Nat} (h : OW e v n xs w) (hne : v.ownBlock ≠ some b) (hk : ∀ k, k ≠ b → w'.heap[k]? = w.heap[k]?) : OW e v n xs w' := by
  refine ⟨h.1, ?_⟩
  rcases h.2 with h | ⟨g, cap, cur, rfl, hg, r⟩
  · exact .inl h
  · exact .inr ⟨g, cap, cur, rfl, (hk g fun q => hne (by simp [Value.ownBlock, q])).trans hg, r⟩
/-- the block, and the row that it owns -/
def WAt (T e : TypeId) (b : Nat) (p d : Value) (bs : List Value) (v : Value) (w : World) : Prop :=
  w.heap[b]? = some (.cells #[p, v, d] T (0, 0)) ∧ OW e v bs.length bs w ∧ v.ownBlock ≠ some b
theorem WAt.used {T e : TypeId} {b : Nat} {p d v : Value} {bs : List Value} {w : World} (h : WAt T e b p d bs v w) (q : Value) : WAt T e b q d bs v (w.setCell ⟨b, 0, none⟩ q) := by
  obtain ⟨hb, hown, hne⟩ := h
  have hlt : b < w.heap.size := by
    rcases Nat.lt_or_ge b w.heap.size with h' | h'
    · exact h'
    · simp [Array.getElem?_eq_none h'] at hb
  refine ⟨?_, ?_, hne⟩
  · simp [World.setCell, Array.getElem?_modify, hb]
  · exact hown.kept hne fun k hk => Below.heap_setCell _ _ _ _ (fun e => hk (by simp [e]))
theorem W_copyCheck (L : Lays.n240 P ρ) (X : Builder.X72 P ρ) {T : TypeId} (Y : WX P ρ T) (b : Nat) (d v : Value) (bs : List Value) (w : World) (h : WAt T (ρ.t 5) b (.pointer none) d bs v w ∨ WAt T (ρ.t 5) b (.pointer (some ⟨b, 0, none⟩)) d bs v w) :
    Calls P (ρ.f 240) #[.pointer (some ⟨b, 0, none⟩)] w fun e w' => e = .returned (.tuple #[]) ∧ (w' = w ∨ w' = w.setCell ⟨b, 0, none⟩ (.pointer (some ⟨b, 0, none⟩))) ∧ WAt T (ρ.t 5) b (.pointer (some ⟨b, 0, none⟩)) d bs v w' := by
  rcases h with h | h
  · refine (W_copyCheck_fresh L X Y b w (by rw [Lib.cell_of_heap h.1]; rfl) (by simp [World.shape?, h.1]) (Lib.frozen_of_heap h.1 0)).mono ?_
    rintro e w' ⟨rfl, rfl⟩
    exact ⟨rfl, .inr rfl, h.used _⟩
  · refine (Any.Builder_copyCheck_used L X b w (by rw [Lib.cell_of_heap h.1]; rfl)).mono ?_
    rintro e w' ⟨rfl, rfl⟩
    exact ⟨rfl, .inl rfl, h⟩
/-- where the row lies that an append of a string makes -/
theorem run_app_str {w : World} (t u ty e : TypeId) (i : TypeInfo) (ht : P.underlying t = some (.slice e)) (hu : P.underlying u = some .string) (hi : P.info? e = some i) (hz : i.zero = some (.int .u8 0))
    (hsize : i.size = 1) (hby : i.bytes = 1) (v : Value) (n : Nat) (xs : List Value) (hown : OW e v n xs w) (s : ByteArray) (h63 : n + s.size ≤ maxLen) (hbytes : n + s.size ≤ 140737488355328) :
    ∃ v' w', (Builtin.append_ #[t, u] ty #[v, .string s]).run P w = .ok v' w' ∧ OW e v' (n + s.size) (xs ++ Lib.strCells s) w' ∧ w.grownBy w' v.ownBlock ∧ (v' = .slice none 0 0 ↔ v = .slice none 0 0 ∧ s.size = 0) ∧
      (v'.ownBlock = v.ownBlock ∨ ∃ g, v'.ownBlock = some g ∧ w.heap.size ≤ g) := by
  have hxl : xs.length = n := hown.1
  have hlen : (xs ++ Lib.strCells s).length = n + s.size := by rw [List.length_append, hxl, Lib.strCells_length]
  have grown : ∀ (old : Nat), old < n + s.size → ∀ (row : Option Nat),
      OW e (.slice (some ⟨w.heap.size, 0, none⟩) (n + s.size) (grownCap w (n + s.size) old e)) (n + s.size) (xs ++ Lib.strCells s) (w.drew.alloc (.cells (xs.toArray ++ (Lib.strCells s).toArray ++ Builtin.zeroCells (Value.int .u8 0).cells (grownCap w (n + s.size) old e - (n + s.size))) e)) ∧
      w.grownBy (w.drew.alloc (.cells (xs.toArray ++ (Lib.strCells s).toArray ++ Builtin.zeroCells (Value.int .u8 0).cells (grownCap w (n + s.size) old e - (n + s.size))) e)) row := by
    intro old ho row
    have hge := grownCap_ge w (n + s.size) old e
    have hcm : grownCap w (n + s.size) old e ≤ maxLen := grownCap_le_maxLen w (n + s.size) old e h63
    refine ⟨⟨hlen, .inr ⟨w.heap.size, _, _, rfl, heap_alloc_new w.drew _, hge, hcm, ?_, ?_⟩⟩, ⟨rfl, rfl, rfl, by simp, fun k hk _ => Lib.alloc_old w.drew _ k hk⟩⟩
    · have hz1 : (Value.int IntKind.u8 0).cells.size = 1 := rfl
      simp only [Array.size_append, List.size_toArray, size_zeroCells, hz1, hxl, Lib.strCells_length]
      omega
    · simp only [Array.toList_append, List.append_assoc]
      rw [← List.append_assoc, ← hlen]
      exact List.take_left
  rcases hown.2 with ⟨rfl, rfl⟩ | ⟨g, cap, cur, rfl, hg, hnc, hcm, hcs, htake⟩
  · have hx : xs = [] := List.eq_nil_of_length_eq_zero hxl
    subst hx
    by_cases hm : s.size = 0
    · have hn : Lib.strCells s = [] := List.eq_nil_of_length_eq_zero (by rw [Lib.strCells_length]; exact hm)
      refine ⟨.slice none 0 0, w, ?_, by rw [hm, hn]; exact ⟨rfl, .inl ⟨rfl, rfl⟩⟩, ⟨rfl, rfl, rfl, Nat.le_refl _, fun _ _ _ => rfl⟩, by simp [hm], .inl rfl⟩
      have hf := Lib.run_firstCells_string (P := P) w 1 s
      rw [hm] at hf
      simp [Builtin.append_, run_underlying ht, run_underlying hu, sizeOf, typeInfo, hi, hsize, Builtin.lenOf, hm, hf]
    · have hr := run_append_nil_string (P := P) w t u ty e i (.int .u8 0) ht hu hi hz s (by omega) (by simp only [maxLen] at h63; omega) (by rw [hby]; omega)
      have hgr := grown 0 (by omega) (Value.ownBlock (.slice none 0 0))
      simp only [Nat.zero_add, List.nil_append, Array.empty_append] at hgr ⊢
      have e1 : (s.data.map fun b => Value.int .u8 b.toNat) = (Lib.strCells s).toArray := by
        apply Array.ext'
        simp [Lib.strCells]
      rw [e1] at hr
      exact ⟨_, _, hr, hgr.1, hgr.2, by simp [hm], .inr ⟨_, rfl, Nat.le_refl _⟩⟩
  · by_cases hroom : n + s.size ≤ cap
    · have hr := Lib.run_append_room_string (P := P) w t u ty e i ht hu hi hsize g n cap cur hg s hroom (by omega)
      refine ⟨_, _, hr, ⟨hlen, .inr ⟨g, cap, _, rfl, setRow_heap w g cur _ e _ hg, hroom, hcm, ?_, ?_⟩⟩, ⟨rfl, rfl, rfl, by simp, fun k _ hk => setRow_other w g k _ (fun e => hk (by simp [Value.ownBlock, e]))⟩, by simp, .inl rfl⟩
      · simp only [List.size_toArray, List.length_append, List.length_take, List.length_drop, Array.length_toList, Lib.strCells_length]
        omega
      · rw [htake, ← hlen]
        exact List.take_left
    · have holds : ∀ j u, xs[j]? = some u → w.cell? ((⟨g, 0, none⟩ : Addr).add j) = some u := fun j u hj => by
        have e : (⟨g, 0, none⟩ : Addr).add j = ⟨g, j, none⟩ := by simp [Addr.add]; omega
        have hjn : j < n := by rw [← hxl]; exact (List.getElem?_eq_some_iff.1 hj).1
        rw [← htake, List.getElem?_take, if_pos hjn, Array.getElem?_toList] at hj
        rw [e, Lib.cell_of_heap hg]; exact hj
      have hr := Lib.run_append_grow_string (P := P) w t u ty e i (.int .u8 0) ht hu hi hz ⟨g, 0, none⟩ n cap xs (by rw [hsize]; simpa using hxl) holds s (by omega) (by simp only [maxLen] at h63; omega) (by rw [hby]; exact growslice_fits (by omega) (by omega))
      have hgr := grown cap (by omega) (Value.ownBlock (.slice (some ⟨g, 0, none⟩) n cap))
      exact ⟨_, _, hr, hgr.1, hgr.2, by simp, .inr ⟨_, rfl, Nat.le_refl _⟩⟩
theorem wpList_app_str {ops : Array Oper} {rest : List Oper} {o : Oper} {a : Act} {Q : Exit → Act → World → Prop} {w : World} (hgd : o.guard = none) (sl x : Operand) (t u : TypeId)
    (ho : o.op = .call { callee := .builtin .append, args := #[sl, x], argTypes := #[t, u] })
    (e : TypeId) (i : TypeInfo) (ht : P.underlying t = some (.slice e)) (hu : P.underlying u = some .string) (hi : P.info? e = some i) (hz : i.zero = some (.int .u8 0))
    (hsize : i.size = 1) (hby : i.bytes = 1)
    (v : Value) (n : Nat) (xs : List Value) (hs : a.eval sl = v) (hown : OW e v n xs w) (s : ByteArray) (hx : a.eval x = .string s)
    (h63 : n + s.size ≤ maxLen) (hbytes : n + s.size ≤ 140737488355328)
    (h : ∀ v' w', OW e v' (n + s.size) (xs ++ Lib.strCells s) w' → w.grownBy w' v.ownBlock → (v' = .slice none 0 0 ↔ v = .slice none 0 0 ∧ s.size = 0) → (v'.ownBlock = v.ownBlock ∨ ∃ g, v'.ownBlock = some g ∧ w.heap.size ≤ g) → wpList P ops Q rest (a.put o.dst v') w') : wpList P ops Q (o :: rest) a w := by
  refine wpList_plain hgd fun K hK => ?_
  obtain ⟨v', w', hr, h2, h3, h4, h5⟩ := run_app_str (P := P) t u o.type e i ht hu hi hz hsize hby v n xs hown s h63 hbytes
  unfold Oper.wp execOp
  simp only [ho, resolve, invoke, builtin, Sem.run_bind, Sem.run_pure, Result.andThen_ok, List.map_toArray, List.map_cons, List.map_nil, hs, hx, hr]
  exact hK _ _ (h v' w' h2 h3 h4 h5)
set_option maxHeartbeats 1000000 in
set_option maxRecDepth 100000 in
theorem W_WriteString (L : Lays.n166 P ρ) (X : Builder.Extra P ρ) {T : TypeId} (Y : WX P ρ T) (b : Nat) (d v0 : Value) (bs : List Value) (s : ByteArray) (w : World) (h : WAt T (ρ.t 5) b (.pointer none) d bs v0 w ∨ WAt T (ρ.t 5) b (.pointer (some ⟨b, 0, none⟩)) d bs v0 w) (hlen : bs.length + s.size ≤ 140737488355328) :
    Calls P (ρ.f 166) #[.pointer (some ⟨b, 0, none⟩), .string s] w fun e w' => e = .returned (.tuple #[.int .i64 s.size, .nilIface]) ∧ ∃ v', WAt T (ρ.t 5) b (.pointer (some ⟨b, 0, none⟩)) d (bs ++ Lib.strCells s) v' w' ∧ (v' = .slice none 0 0 ↔ v0 = .slice none 0 0 ∧ s.size = 0) ∧
      w'.os = w.os ∧ w'.tape = w.tape ∧ w'.output = w.output ∧ w.heap.size ≤ w'.heap.size ∧ (v'.ownBlock = v0.ownBlock ∨ ∃ g, v'.ownBlock = some g ∧ w.heap.size ≤ g) ∧ (∀ k, k < w.heap.size → k ≠ b → v0.ownBlock ≠ some k → w'.heap[k]? = w.heap[k]?) := by
  obtain ⟨i0, hi, hz0, hz1, hz2⟩ := info_parts X.infoByte
  have mixed := L.mixed
  have t72 := L.t72; have a72 := L.a72; have z72 := L.z72; have v72 := L.v72; have u72 := run_underlying L.t72
  have t70 := L.t70; have a70 := L.a70; have z70 := L.z70; have v70 := L.v70; have u70 := run_underlying L.t70
  have t37 := L.t37; have a37 := L.a37; have z37 := L.z37; have v37 := L.v37; have u37 := run_underlying L.t37
  have t3 := L.t3; have a3 := L.a3; have z3 := L.z3; have v3 := L.v3; have u3 := run_underlying L.t3
  have t9 := L.t9; have a9 := L.a9; have z9 := L.z9; have v9 := L.v9; have u9 := run_underlying L.t9
  have t4 := L.t4; have a4 := L.a4; have z4 := L.z4; have v4 := L.v4; have u4 := run_underlying L.t4
  have t164 := L.t164; have a164 := L.a164; have z164 := L.z164; have v164 := L.v164; have u164 := run_underlying L.t164
  have t5 := X.t5; have a5 := X.a5; have z5 := X.z5; have v5 := X.v5; have u5 := run_underlying X.t5
  have e240 : ∀ args w, (callFunc (ρ.f 240) args).run P w = .ok (.enter (ρ.f 240) args) w := enters_of L.f240 (by kernel_rfl) rfl
  go_enter L.f166, Body.n166_ntmps ρ
  go_wp2_with (go_at_fn (ρ.f 240); refine (W_copyCheck { L with } X.toX72 Y b d v0 bs _ h).mono ?_)
  rintro e w1 ⟨rfl, hw1, hbk, hown, hne⟩
  have c0 : w1.cell? ⟨b, 0, none⟩ = some (.pointer (some ⟨b, 0, none⟩)) := by rw [Lib.cell_of_heap hbk]; rfl
  have c1 : w1.cell? ⟨b, 1, none⟩ = some v0 := by rw [Lib.cell_of_heap hbk]; rfl
  have hsz : w1.heap.size = w.heap.size := by rcases hw1 with rfl | rfl <;> simp [World.setCell]
  have hos : w1.os = w.os ∧ w1.tape = w.tape ∧ w1.output = w.output := by rcases hw1 with rfl | rfl <;> simp [World.setCell]
  have hoth : ∀ k, k ≠ b → w1.heap[k]? = w.heap[k]? := fun k hk => by
    rcases hw1 with rfl | rfl
    · rfl
    · exact Below.heap_setCell _ _ _ _ (fun e => hk e)
  clear hw1
  go_wp2_with (at_builtin; refine wpList_app_str rfl _ _ (ρ.t 37) (ρ.t 9) rfl (ρ.t 5) i0 L.t37 L.t9 hi hz0 hz1 hz2 _ _ _ rfl hown s rfl ?c3 ?c4 ?_)
  case c3 => unfold maxLen; omega
  case c4 => omega
  intro v' w2 hown' hgrow hnil hblk
  have hlt : b < w1.heap.size := by
    rcases Nat.lt_or_ge b w1.heap.size with h' | h'
    · exact h'
    · simp [Array.getElem?_eq_none h'] at hbk
  have hb2 : w2.heap[b]? = some (.cells #[.pointer (some ⟨b, 0, none⟩), v0, d] T (0, 0)) := by
    rw [hgrow.block b hlt (fun e => hne e.symm)]
    exact hbk
  have d0 : w2.cell? ⟨b, 0, none⟩ = some (.pointer (some ⟨b, 0, none⟩)) := by rw [Lib.cell_of_heap hb2]; rfl
  have d1 : w2.cell? ⟨b, 1, none⟩ = some v0 := by rw [Lib.cell_of_heap hb2]; rfl
  have f1 : w2.frozen? ⟨b, 1, none⟩ = false := Lib.frozen_of_heap hb2 1
  obtain ⟨ao, n', cap, rfl⟩ : ∃ ao n' cap, v' = .slice ao n' cap := by
    rcases hown'.2 with ⟨hv, _⟩ | ⟨g, cap, cur, hv, _⟩
    · exact ⟨_, _, _, hv⟩
    · exact ⟨_, _, _, hv⟩
  go_wp2
  go_ret2
  have hne' : (Value.slice ao n' cap).ownBlock ≠ some b := by
    rcases hblk with q | ⟨g, q, q2⟩
    · rw [q]; exact hne
    · rw [q]; intro q3; cases q3; omega
  refine ⟨rfl, _, ⟨?_, ?_, hne'⟩, ⟨fun q => ⟨(hnil.1 q).1, by rw [(hnil.1 q).2]; rfl⟩, fun q => hnil.2 ⟨q.1, ByteArray.size_eq_zero_iff.1 q.2⟩⟩, ?_, ?_, ?_, ?_, ?_, ?_⟩
  · simp [World.setCell, Array.getElem?_modify, hb2]
  · have hk := hown'.kept (w' := w2.setCell ⟨b, 1, none⟩ (.slice ao n' cap)) hne' fun k hk => Below.heap_setCell _ _ _ _ (fun e => hk (by simp [e]))
    simpa [Lib.strCells_length] using hk
  · exact hgrow.os.trans hos.1
  · exact hgrow.tape.trans hos.2.1
  · exact hgrow.output.trans hos.2.2
  · show w.heap.size ≤ (w2.setCell _ _).heap.size
    have := hgrow.size
    simp [World.setCell]; omega
  · exact hblk.imp id fun ⟨g, q1, q2⟩ => ⟨g, q1, by omega⟩
  · intro k hk hkb hko
    have : (w2.setCell ⟨b, 1, none⟩ (.slice ao n' cap)).heap[k]? = w2.heap[k]? := Below.heap_setCell _ _ _ _ (fun e => hkb e)
    rw [this, hgrow.block k (by omega) (fun e => hko e.symm)]
    exact hoth k hkb
set_option maxHeartbeats 2000000 in
set_option maxRecDepth 100000 in
theorem W_String (L : Lays.n169 P ρ) (X : Builder.Extra P ρ) {T : TypeId} (b g cap : Nat) (p d : Value) (l : List UInt8) (cur : Array Value) (w : World) (hbk : w.heap[b]? = some (.cells #[p, .slice (some ⟨g, 0, none⟩) l.length cap, d] T (0, 0))) (hg : w.heap[g]? = some (.cells cur (ρ.t 5) (0, 0)))
    (hnc : l.length ≤ cap) (hcm : cap ≤ maxLen) (hcs : cap ≤ cur.size) (htake : cur.toList.take l.length = Lib.byteCells l) (h0 : l ≠ []) :
    Calls P (ρ.f 169) #[.pointer (some ⟨b, 0, none⟩)] w fun e w' => e = .returned (.string ⟨l.toArray⟩) ∧ w' = w.drew.freeze ⟨g, 0, none⟩ l.length := by
  have hl0 : l.length ≠ 0 := by simpa using h0
  have c1 : w.drew.cell? ⟨b, 1, none⟩ = some (.slice (some ⟨g, 0, none⟩) l.length cap) := by
    have : w.drew.heap[b]? = some (.cells #[p, .slice (some ⟨g, 0, none⟩) l.length cap, d] T (0, 0)) := hbk
    rw [Lib.cell_of_heap this]; rfl
  have hSD : (Builtin.unsafeSliceData_ #[(ρ.t 37)] (ρ.t 127) #[.slice (some ⟨g, 0, none⟩) l.length cap]).run P w.drew = .ok (.pointer (some ⟨g, 0, none⟩)) w.drew :=
    Lib.run_unsafeSliceData_row _ _ _ _ _ _ (by omega)
  have hUS : (Builtin.unsafeString_ #[(ρ.t 127), (ρ.t 3)] (ρ.t 9) #[.pointer (some ⟨g, 0, none⟩), .int .i64 l.length]).run P w.drew = .ok (.string ⟨l.toArray⟩) (w.drew.freeze ⟨g, 0, none⟩ l.length) := by
    refine Lib.run_unsafeString_row w.drew (ρ.t 127) (ρ.t 3) (ρ.t 9) (ρ.t 5) L.t127 X.cellsByte g cur.size (by have hg' : w.drew.heap[g]? = some (.cells cur (ρ.t 5) (0, 0)) := hg; simp [World.shape?, hg']) l h0 (by omega) (by unfold maxLen at hcm; omega) ?_
    intro j x hx
    have hg' : w.drew.heap[g]? = some (.cells cur (ρ.t 5) (0, 0)) := hg
    have hj : j < l.length := (List.getElem?_eq_some_iff.1 hx).1
    have h1 : (Lib.byteCells l)[j]? = some (.int .u8 x.toNat) := by simp [Lib.byteCells, hx]
    rw [← htake, List.getElem?_take, if_pos hj, Array.getElem?_toList] at h1
    have e : (⟨g, 0, none⟩ : Addr).add j = ⟨g, j, none⟩ := by simp [Addr.add]; omega
    rw [e, Lib.cell_of_heap hg']
    exact h1
  have mixed := L.mixed
  have t72 := L.t72; have a72 := L.a72; have z72 := L.z72; have v72 := L.v72; have u72 := run_underlying L.t72
  have t70 := L.t70; have a70 := L.a70; have z70 := L.z70; have v70 := L.v70; have u70 := run_underlying L.t70
  have t37 := L.t37; have a37 := L.a37; have z37 := L.z37; have v37 := L.v37; have u37 := run_underlying L.t37
  have t127 := L.t127; have a127 := L.a127; have z127 := L.z127; have v127 := L.v127; have u127 := run_underlying L.t127
  have t3 := L.t3; have a3 := L.a3; have z3 := L.z3; have v3 := L.v3; have u3 := run_underlying L.t3
  have t9 := L.t9; have a9 := L.a9; have z9 := L.z9; have v9 := L.v9; have u9 := run_underlying L.t9
  have t5 := X.t5; have a5 := X.a5; have z5 := X.z5; have v5 := X.v5; have u5 := run_underlying X.t5
  go_enter L.f169, Body.n169_ntmps ρ
  go_wp2
  go_region_o
  all_goals (go_wp2; go_ret; exact ⟨rfl, rfl⟩)
set_option maxHeartbeats 2000000 in
set_option maxRecDepth 100000 in
theorem W_String_nil (L : Lays.n169 P ρ) (X : Builder.Extra P ρ) {T : TypeId} (b : Nat) (p d : Value) (w : World) (hbk : w.heap[b]? = some (.cells #[p, .slice none 0 0, d] T (0, 0))) :
    Calls P (ρ.f 169) #[.pointer (some ⟨b, 0, none⟩)] w fun e w' => e = .returned (.string ⟨#[]⟩) ∧ Below w.heap.size w w' := by
  have hUS := Any.unsafeString_none L X
  have c1 : w.drew.cell? ⟨b, 1, none⟩ = some (.slice none 0 0) := by
    have : w.drew.heap[b]? = some (.cells #[p, .slice none 0 0, d] T (0, 0)) := hbk
    rw [Lib.cell_of_heap this]; rfl
  have hSD : (Builtin.unsafeSliceData_ #[(ρ.t 37)] (ρ.t 127) #[.slice none 0 0]).run P w.drew = .ok (.pointer none) w.drew := rfl
  have mixed := L.mixed
  have t72 := L.t72; have a72 := L.a72; have z72 := L.z72; have v72 := L.v72; have u72 := run_underlying L.t72
  have t70 := L.t70; have a70 := L.a70; have z70 := L.z70; have v70 := L.v70; have u70 := run_underlying L.t70
  have t37 := L.t37; have a37 := L.a37; have z37 := L.z37; have v37 := L.v37; have u37 := run_underlying L.t37
  have t127 := L.t127; have a127 := L.a127; have z127 := L.z127; have v127 := L.v127; have u127 := run_underlying L.t127
  have t3 := L.t3; have a3 := L.a3; have z3 := L.z3; have v3 := L.v3; have u3 := run_underlying L.t3
  have t9 := L.t9; have a9 := L.a9; have z9 := L.z9; have v9 := L.v9; have u9 := run_underlying L.t9
  have t5 := X.t5; have a5 := X.a5; have z5 := X.z5; have v5 := X.v5; have u5 := run_underlying X.t5
  go_enter L.f169, Body.n169_ntmps ρ
  go_wp2
  go_region_o
  all_goals (go_wp2; go_ret; exact ⟨rfl, Below.drew (Below.refl _ w)⟩)
end Go.Proofs
namespace Nm
open Go Go.RowKit Go.Shelf Go.Proofs
noncomputable def gJ (s:List Nat):List NV:=List.rec [] (fun c _ r=> .int .u8 (.lit (.ofNat c))::r) s
noncomputable def sF (a b:List NV):List NV:=List.rec b (fun x _ r=>x::r) a
def mz (id:D4) (a:NV):Bool:=match a with| .nilp=>true| .ptr i 0=>Nat.beq i.toNat id.toNat|_=>false
noncomputable def Lm (T U:Nat) (l:List NV) (h:NH):Option (NV×NH):=
 match l with
 | [.ptr id 0,.str s]=>(match h.get id with
  |some (.cellsT T' [a,b,d])=>cond (Nat.beq T' T) (cond (mz id a) (match b with
   | .nils=>(match s with
    | []=>h.set id (.cellsT T [.ptr id 0,.nils,d]) fun h=>some (.tup [.int .i64 (.lit 0),.nili],h)
    |c::s=>aq (Nat.succ s.length) fun n=>cond (Nat.ble n 1000000) (h.set id (.cellsT T [.ptr id 0,.slc h.next 0 n 1 0,d]) fun h=>h.new (.cellsT U (gJ (c::s))) fun _ h=>some (.tup [.int .i64 (.lit (.ofNat n)),.nili],h)) none)
   | .slc ob 0 n 1 0=>(match h.get ob with
    |some (.cellsT U' c)=>cond (Nat.beq U' U) (cond (Nat.beq c.length n&&Nat.ble 1 n) (aq s.length fun m=>aq (Nat.add n m) fun k=>cond (Nat.ble k 1000000) (h.set ob .dead fun h=>h.set id (.cellsT T [.ptr id 0,.slc h.next 0 k 1 0,d]) fun h=>h.new (.cellsT U (sF c (gJ s))) fun _ h=>some (.tup [.int .i64 (.lit (.ofNat m)),.nili],h)) none) none) none
    |_=>none)
   |_=>none) none) none
  |_=>none)
 |_=>none
theorem sX (a b:List NV):sF a b=a++b:=by
 induction a with
 |nil=>rfl
 |cons x a ih=>show x::sF a b=_;rw[ih];rfl
theorem ic (s:List Nat):gJ s=s.map fun c=> .int .u8 (.lit (.ofNat c)):=by
 induction s with
 |nil=>rfl
 |cons x a ih=>show _::gJ a=_;rw[ih];rfl
section
variable {P:Program} {ι:aU} {B:Nat} {h h':NH} {w w':World}
theorem Rel.bld (hR:Rel P ι B h w) {id:D4} {p:Pl} (hp:ι id=some p) {T U:TypeId} {c0 c1 c2:List NV} (hid:h.get id=some (.cellsT T c0)) (K:D4->Prop) (hK:∀i,K i->i≠id/\Live (h.get i)/\h'.get i=some .dead/\∃q,ι i=some q)
 (hn:h'.next=h.next.nxt) (e1:h'.get h.next=some (.cellsT U c2)) (e2:h'.get id=some (.cellsT T c1)) (e3:∀i,i≠h.next->i≠id->¬K i->h'.get i=h.get i)
 {g:Nat} {cur curT:Array Value} (hg:w'.heap[g]? =some (.cells cur U (0,0))) (hgb:(∃i q,K i/\ι i=some q/\q.b=g)∨w.heap.size<=g)
 (hU:c2.length<=cur.size/\(MT U=true->c2.length=cur.size)) (hc2:∀ι':aU,ι.le ι'->∀(i:Nat) (v:NV),c2[i]? =some v->∃v':Value,cur[i]? =some v'/\VR ι' v v'/\v'.oneCell'=true)
 (hb:w'.heap[p.b]? =some (.cells curT T (0,0))) (hcT:curT.size=p.n) (hT:c1.length<=p.n/\(MT T=true->c1.length=p.n)) (hc1:∀ι':aU,ι.le ι'->ι' h.next=some ⟨g,0,cur.size⟩->∀(i:Nat) (v:NV),c1[i]? =some v->∃v':Value,curT[i]? =some v'/\VR ι' v v'/\v'.oneCell'=true)
 (hB:B<=w.heap.size) (hos:w'.os=w.os) (htape:w'.tape=w.tape) (hout:w'.output=w.output) (hsz:w.heap.size<=w'.heap.size)
 (hfr:∀k,k<w.heap.size->k≠p.b->(∀i q,K i->ι i=some q->q.b≠k)->w'.heap[k]? =w.heap[k]?):
 ∃ι',ι' h.next=some ⟨g,0,cur.size⟩/\Rel P ι' B h' w'/\Grow ι h w ι' h' w':=by
 have hnn:ι h.next=none:=by
  cases hi:ι h.next with
  |none=>rfl
  |some q=>obtain ⟨o,h1,_⟩:=hR.obj _ _ hi;exact Q3 (hR.fresh _ _ h1) (Nat.lt_irrefl _)
 have hlive:Live (h.get id):=by rw[hid];simp
 have hidn:id≠h.next:=fun q=>by rw[q,hnn] at hp;cases hp
 have hKn:∀i,K i->i≠h.next:=fun i hi q=>by obtain ⟨-,-,-,x,hx⟩:=hK i hi;rw[q,hnn] at hx;cases hx
 have hle:ι.le (ext ι h.next ⟨g,0,cur.size⟩):=fun i q hi=>by
  unfold ext
  by_cases e:i.toNat=h.next.toNat
  ·rw[D4.toNat_inj e,hnn] at hi;cases hi
  ·rw[Q4 e];exact hi
 have hinv:∀i q,ext ι h.next ⟨g,0,cur.size⟩ i=some q->(i=h.next/\q=⟨g,0,cur.size⟩)∨(ι i=some q/\i≠h.next):=fun i q hi=>by
  unfold ext at hi
  by_cases e:i.toNat=h.next.toNat
  ·rw[Q5 e] at hi;injection hi with hi;exact Or.inl ⟨D4.toNat_inj e,hi.symm⟩
  ·rw[Q4 e] at hi;exact Or.inr ⟨hi,fun q=>e (by rw[q])⟩
 have hnew:ext ι h.next ⟨g,0,cur.size⟩ h.next=some ⟨g,0,cur.size⟩:=by unfold ext;rw[Q5 rfl]
 have hlv:∀i,i≠h.next->Live (h'.get i)->Live (h.get i):=fun i hi hl=>by
  by_cases e:i=id
  ·subst e;exact hlive
  ·by_cases k:K i
   ·rw[(hK i k).2.2.1] at hl;exact Q3 rfl hl.1
   ·rwa [e3 i hi e k] at hl
 have hnd:∀i,i≠h.next->h'.get i≠some .dead->h.get i≠some .dead/\¬K i:=fun i hi hl=>by
  by_cases k:K i
  ·exact Q3 (hK i k).2.2.1 hl
  ·by_cases e:i=id
   ·subst e;exact ⟨hlive.1,k⟩
   ·rw[e3 i hi e k] at hl;exact ⟨hl,k⟩
 have hgj:∀j q,ι j=some q->h.get j≠some .dead->¬K j->q.b≠g:=fun j q hj hd hk=>by
  rcases hgb with ⟨i,r,k1,k2,k3⟩|k
  ·obtain ⟨-,l1,-,-⟩:=hK i k1
   have:=hR.inj i j r q k2 hj (fun e=>hk (e▸k1)) l1 hd
   omega
  ·have:=hR.lt j q hj;omega
 have hgB:B<=g:=by
  rcases hgb with ⟨i,r,k1,k2,k3⟩|k
  ·rw[←k3];exact hR.base i r k2 (hK i k1).2.1
  ·omega
 have hgl:g<w'.heap.size:=(Array.getElem?_eq_some_iff.1 hg).1
 refine ⟨_,hnew,⟨fun i q hi=> ?_,fun i j q r hi hj hij d1 d2=> ?_,fun i q hi d=> ?_,fun i q hi=> ?_,fun i o ho=> ?_,hR.gl.mono hle⟩,⟨hle, ?_,fun i q hi=> ?_,fun i q hi d=> ?_,fun i hi hl=> ?_,hsz,hos,htape,hout,fun b hb' hq=> ?_⟩⟩
 ·rcases hinv i q hi with ⟨rfl,rfl⟩|⟨hi,hne⟩
  ·exact ⟨_,e1,rfl,cur,hg,rfl,hU,hc2 _ hle⟩
  ·by_cases e:i=id
   ·subst e
    rw[hp] at hi;cases hi
    obtain ⟨o,o1,o2⟩:=hR.obj _ _ hp
    rw[hid] at o1;cases o1
    exact ⟨_,e2,o2.1,curT,hb,hcT,hT,hc1 _ hle hnew⟩
   ·by_cases k:K i
    ·exact ⟨_,(hK i k).2.2.1,trivial⟩
    ·obtain ⟨o,o1,o2⟩:=hR.obj i q hi
     refine ⟨o,by rw[e3 i hne e k];exact o1, ?_⟩
     by_cases hd:o= .dead
     ·subst hd;exact trivial
     ·have hd':h.get i≠some .dead:=by rw[o1];intro x;cases x;exact hd rfl
      refine o2.mono hle (hfr q.b (hR.lt i q hi) (hR.inj id i p q hp hi (fun x=>e x.symm) hlive hd').symm fun j r kj hj=> ?_)
      exact hR.inj j i r q hj hi (fun x=>k (x▸kj)) (hK j kj).2.1 hd'
 ·rcases hinv i q hi with ⟨rfl,rfl⟩|⟨hi,hne⟩
  ·rcases hinv j r hj with ⟨rfl,rfl⟩|⟨hj,hne'⟩
   ·exact Q3 rfl hij
   ·obtain ⟨x1,x2⟩:=hnd j hne' d2
    exact (hgj j r hj x1 x2).symm
  ·rcases hinv j r hj with ⟨rfl,rfl⟩|⟨hj,hne'⟩
   ·have l:=hlv i hne d1
    exact hgj i q hi l.1 fun k=>by rw[(hK i k).2.2.1] at d1;exact Q3 rfl d1.1
   ·exact hR.inj i j q r hi hj hij (hlv i hne d1) (hnd j hne' d2).1
 ·rcases hinv i q hi with ⟨rfl,rfl⟩|⟨hi,hne⟩
  ·exact hgB
  ·exact hR.base i q hi (hlv i hne d)
 ·rcases hinv i q hi with ⟨rfl,rfl⟩|⟨hi,_⟩
  ·exact hgl
  ·exact Nat.lt_of_lt_of_le (hR.lt i q hi) hsz
 ·rw[hn,D4.toNat_nxt]
  by_cases e:i=h.next
  ·subst e;omega
  ·by_cases e':i=id
   ·subst e';have:=hR.fresh _ _ hid;omega
   ·by_cases k:K i
    ·obtain ⟨-,l1,-,x,hx⟩:=hK i k
     obtain ⟨o,o1,_⟩:=hR.obj i x hx
     have:=hR.fresh i o o1;omega
    ·rw[e3 i e e' k] at ho;have:=hR.fresh i o ho;omega
 ·rw[hn,D4.toNat_nxt];omega
 ·rcases hinv i q hi with ⟨rfl,_⟩|⟨hi,_⟩
  ·exact .inr (Nat.le_refl _)
  ·exact .inl hi
 ·rcases hinv i q hi with ⟨rfl,rfl⟩|⟨hi,hne⟩
  ·rcases hgb with ⟨i,r,k1,k2,k3⟩|k
   ·exact .inr ⟨i,r,k2,(hK i k1).2.1,k3⟩
   ·exact .inl k
  ·exact .inr ⟨i,q,hi,hlv i hne d,rfl⟩
 ·have hne:i≠h.next:=fun e=>by rw[e] at hl;exact Nat.lt_irrefl _ hl
  have hk:¬K i:=fun k=>by obtain ⟨-,-,-,x,hx⟩:=hK i k;rw[hi] at hx;cases hx
  exact e3 i hne (fun e=>by rw[e,hp] at hi;cases hi) hk
 ·exact hfr b hb' (fun e=>hq id p hp hlive e.symm) fun i q k hi=>hq i q hi (hK i k).2.1
theorem Rel.bld0 (hR:Rel P ι B h w) {id:D4} {p:Pl} (hp:ι id=some p) {T:TypeId} {c0 c1:List NV} (hid:h.get id=some (.cellsT T c0)) {curT:Array Value}
 (hb:w'.heap[p.b]? =some (.cells curT T (0,0))) (hcT:curT.size=p.n) (hT:c1.length<=p.n/\(MT T=true->c1.length=p.n)) (hc1:∀(i:Nat) (v:NV),c1[i]? =some v->∃v':Value,curT[i]? =some v'/\VR ι v v'/\v'.oneCell'=true)
 (hos:w'.os=w.os) (htape:w'.tape=w.tape) (hout:w'.output=w.output) (hsz:w.heap.size<=w'.heap.size)
 (hfr:∀k,k<w.heap.size->k≠p.b->w'.heap[k]? =w.heap[k]?):Rel P ι B (h.put id (.cellsT T c1)) w'/\Grow ι h w ι (h.put id (.cellsT T c1)) w':=by
 have hlive:Live (h.get id):=by rw[hid];simp
 have hlv:∀i,Live ((h.put id (.cellsT T c1)).get i)->Live (h.get i):=fun i hl=>by
  by_cases e:i=id
  ·subst e;exact hlive
  ·rwa [NH.get_put_ne _ _ e] at hl
 have hnd:∀i,(h.put id (.cellsT T c1)).get i≠some .dead->h.get i≠some .dead:=fun i hl=>by
  by_cases e:i=id
  ·subst e;exact hlive.1
  ·rwa [NH.get_put_ne _ _ e] at hl
 refine ⟨⟨fun i q hi=> ?_,fun i j q r hi hj hij d1 d2=>hR.inj i j q r hi hj hij (hlv i d1) (hnd j d2),fun i q hi d=>hR.base i q hi (hlv i d),fun i q hi=>Nat.lt_of_lt_of_le (hR.lt i q hi) hsz,fun i o ho=> ?_,hR.gl⟩,⟨aU.le_refl _,Nat.le_refl _,fun i q hi=> .inl hi,fun i q hi d=> .inr ⟨i,q,hi,hlv i d,rfl⟩,fun i hi hl=> ?_,hsz,hos,htape,hout,fun b hb' hq=>hfr b hb' fun e=>hq id p hp hlive e.symm⟩⟩
 ·by_cases e:i=id
  ·subst e
   rw[hp] at hi;cases hi
   obtain ⟨o,o1,o2⟩:=hR.obj _ _ hp
   rw[hid] at o1;cases o1
   exact ⟨_,NH.get_put_same _ _ _,o2.1,curT,hb,hcT,hT,hc1⟩
  ·obtain ⟨o,o1,o2⟩:=hR.obj i q hi
   refine ⟨o,by rw[NH.get_put_ne _ _ e];exact o1, ?_⟩
   by_cases hd:o= .dead
   ·subst hd;exact trivial
   ·have hd':h.get i≠some .dead:=by rw[o1];intro x;cases x;exact hd rfl
    exact o2.mono (aU.le_refl _) (hfr q.b (hR.lt i q hi) (hR.inj id i p q hp hi (fun x=>e x.symm) hlive hd').symm)
 ·show i.toNat<h.next.toNat
  by_cases e:i=id
  ·subst e;exact hR.fresh _ _ hid
  ·rw[NH.get_put_ne _ _ e] at ho;exact hR.fresh i o ho
 ·exact NH.get_put_ne _ _ fun e=>by rw[e,hp] at hi;cases hi
theorem AU {ι:aU} {s:List Nat} {t:ByteArray} (hs:t.data.toList.map UInt8.toNat=s):∀(i:Nat) (v:NV),(gJ s)[i]? =some v->∃v':Value,(Lib.strCells t)[i]? =some v'/\VR ι v v'/\v'.oneCell'=true:=fun i v hv=>by
 subst hs
 rw[ic,List.map_map,List.getElem?_map] at hv
 obtain ⟨b,hb,rfl⟩:=Option.map_eq_some_iff.1 hv
 exact ⟨_,by rw[Lib.strCells,List.getElem?_map,hb];rfl,.int _ _,rfl⟩
theorem Nh {c:Array Value} {a b d:Value} (hn:c.size=3) (h0:c[0]? =some a) (h1:c[1]? =some b) (h2:c[2]? =some d):c=#[a,b,d]:=by
 apply Array.ext_getElem?
 intro i
 match i with
 |0=>exact h0
 |1=>exact h1
 |2=>exact h2
 |i+3=>rw[Array.getElem?_eq_none (by omega)];rfl
set_option maxHeartbeats 1000000 in
theorem ON {ρ:Ren} (L:Lays.n166 P ρ) (X:Builder.Extra P ρ) {T:TypeId} (Y:WX P ρ T) (hMT:MT T=true) (hMU:MT (ρ.t 5)=false) (hen:∀args w,(callFunc (ρ.f 166) args).run P w= .ok (.enter (ρ.f 166) args) w):fo P (ρ.f 166) (Lm T (ρ.t 5)):=
 fo.of hen fun ι B h w args args' v h' hF hR hB hl=>by
  unfold Lm at hF
  split at hF
  rotate_left
  ·cases hF
  rename_i id s
  cases hl with
  |cons _ _ _ _ hx hl1=>
  cases hx with
  |ptr _ _ p hp=>
  cases hl1 with
  |cons _ _ _ _ hy hl2=>
  cases hy with
  |str _ t hs=>
  cases hl2
  split at hF
  rotate_left
  ·cases hF
  rename_i T' a b d hid
  obtain ⟨g1,hF1⟩:=aB hF
  clear hF
  obtain rfl:=Ra g1
  obtain ⟨g2,hF⟩:=aB hF1
  clear hF1 g1
  obtain ⟨o,o1,o2⟩:=hR.obj id p hp
  rw[hid] at o1;cases o1
  obtain ⟨k0,cur0,k1,k2,k3,k4⟩:=o2
  have hn3:p.n=3:=(k3.2 hMT).symm
  obtain ⟨p0,c0,vp0,op0⟩:=k4 0 a rfl
  obtain ⟨v0,c1,vv0,ov0⟩:=k4 1 b rfl
  obtain ⟨d0,c2,vd0,od0⟩:=k4 2 d rfl
  have hcur:=Nh (by omega) c0 c1 c2
  subst hcur
  have hself:p0= .pointer none∨p0= .pointer (some ⟨p.b,0,none⟩):=by
   unfold mz at g2
   split at g2
   ·cases vp0;exact .inl rfl
   ·rename_i i
    have e:=D4.toNat_inj (Ra g2)
    subst e
    cases vp0 with
    |ptr _ _ p' hp'=>rw[hp] at hp';cases hp';exact .inr (by rw[k0])
   ·cases g2
  have hlive:Live (h.get id):=by rw[hid];simp
  have hsz:t.size=s.length:=by rw[←hs,List.length_map,Array.length_toList];rfl
  have hpo:(⟨p.b,p.o+0,none⟩:Addr)=⟨p.b,0,none⟩:=by rw[k0]
  rw[hpo]
  split at hF
  ·
   cases vv0
   have hW:WAt T' (ρ.t 5) p.b (.pointer none) d0 [] (.slice none 0 0) w∨WAt T' (ρ.t 5) p.b (.pointer (some ⟨p.b,0,none⟩)) d0 [] (.slice none 0 0) w:=by
    rcases hself with rfl|rfl
    ·exact .inl ⟨k1,⟨rfl,.inl ⟨rfl,rfl⟩⟩,by simp[Value.ownBlock]⟩
    ·exact .inr ⟨k1,⟨rfl,.inl ⟨rfl,rfl⟩⟩,by simp[Value.ownBlock]⟩
   split at hF
   ·rw[NH.set_eq] at hF
    injection hF with hF
    injection hF with hv hh
    subst hv;subst hh
    refine (W_WriteString L X Y p.b d0 _ [] t w hW (by simp[hsz])).mono ?_
    rintro e w' ⟨rfl,v',⟨w1,w2,w3⟩,hnil,hos,htape,hout,hsz',hblk,hfr⟩
    have hv':=hnil.2 ⟨rfl,by rw[hsz];rfl⟩
    subst hv'
    obtain ⟨r1,r2⟩:=hR.bld0 (w':=w') hp hid (c1:= [.ptr id 0,.nils,d]) w1 (by rw[hn3];rfl) ⟨by rw[hn3];exact Nat.le_refl 3,fun _=>by rw[hn3];rfl⟩ (fun i v hv=>by
     match i with
     |0=>cases hv;exact ⟨_,rfl,by rw[←hpo];exact .ptr _ _ p hp,rfl⟩
     |1=>cases hv;exact ⟨_,rfl,.nils,rfl⟩
     |2=>cases hv;exact ⟨_,rfl,vd0,od0⟩
     |i+3=>cases hv) hos htape hout hsz' (fun k hk hkb=>hfr k hk hkb (by simp[Value.ownBlock]))
    exact ⟨ι,_,rfl,.tup _ [_,_] (.cons _ _ _ _ (by rw[hsz];exact .int _ _) (.cons _ _ _ _ .nili .nil)),r1,Nat.le_trans hB hsz',r2⟩
   ·rename_i c s
    rw[ag] at hF
    obtain ⟨g3,hF3⟩:=aB hF
    clear hF
    have g3:=Nat.le_of_ble_eq_true g3
    rw[NH.set_eq,NH.new_eq] at hF3
    injection hF3 with hF
    injection hF with hv hh
    subst hv;subst hh
    have hsz:t.size=s.length+1:=hsz
    refine (W_WriteString L X Y p.b d0 _ [] t w hW (by simp;omega)).mono ?_
    rintro e w' ⟨rfl,v',⟨w1,w2,w3⟩,hnil,hos,htape,hout,hsz',hblk,hfr⟩
    rcases w2.2 with ⟨rfl,q⟩|⟨g,cap,cur,rfl,hg,n1,n2,n3,n4⟩
    ·have:=(hnil.1 rfl).2;omega
    have hlb:([]++Lib.strCells t).length=s.length+1:=by simp[Lib.strCells_length,hsz]
    rw[hlb] at w1 n1 n4
    have hbl:(gJ (c::s)).length=s.length+1:=by rw[ic,List.length_map];rfl
    obtain ⟨ι',j1,j2,j3⟩:=hR.bld (h':=(h.put id (.cellsT T' [.ptr id 0,.slc h.next 0 (Nat.succ s.length) 1 0,d])).add (.cellsT (ρ.t 5) (gJ (c::s)))) hp hid (fun _=>False) (fun _ q=>q.elim) rfl (NH.get_add_same _ _)
     (by rw[NH.get_add_ne _ _ (fun q=>by
      obtain ⟨o,h1,_⟩:=hR.obj _ _ hp
      have:=hR.fresh _ _ h1
      rw[q] at this;exact Nat.lt_irrefl _ this)];exact NH.get_put_same _ _ _) (fun i i1 i2 _=>by rw[NH.get_add_ne (h.put id _) _ i1,NH.get_put_ne _ _ i2])
     hg (.inr (by
      rcases hblk with q|⟨g',q,q'⟩
      ·cases q
      ·cases q;exact q')) ⟨by omega,fun q=>by rw[hMU] at q;cases q⟩ (fun ι' hle i v hv=>by
       have hi:i<s.length+1:=by rw[←hbl];exact (List.getElem?_eq_some_iff.1 hv).1
       obtain ⟨v',a1,a2,a3⟩:=AU (ι:=ι') hs i v hv
       refine ⟨v', ?_,a2,a3⟩
       rw[List.nil_append] at n4
       rw[←n4,List.getElem?_take,Q5 hi,Array.getElem?_toList] at a1
       exact a1) w1 (by rw[hn3];rfl) ⟨by rw[hn3];exact Nat.le_refl 3,fun _=>by rw[hn3];rfl⟩ (fun ι' hle hnx i v hv=>by
     match i with
     |0=>cases hv;exact ⟨_,rfl,by rw[←hpo];exact .ptr _ _ p (hle _ _ hp),rfl⟩
     |1=>cases hv;exact ⟨_,rfl,.slc _ _ _ _ _ _ _ _ hnx n1 (Nat.zero_le _) n2 (by decide) (fun _=>⟨rfl,by show 0+0+cap*1<=cur.size;omega⟩),rfl⟩
     |2=>cases hv;exact ⟨_,rfl,vd0.mono hle,od0⟩
     |i+3=>cases hv) hB hos htape hout hsz' (fun k hk hkb _=>hfr k hk hkb (by simp[Value.ownBlock]))
    exact ⟨ι',_,rfl,.tup _ [_,_] (.cons _ _ _ _ (by rw[hsz];exact .int _ _) (.cons _ _ _ _ .nili .nil)),j2,Nat.le_trans hB hsz',j3⟩
  ·
   rename_i ob n
   split at hF
   rotate_left
   ·cases hF
   rename_i U' c hob
   obtain ⟨g3,hF3⟩:=aB hF
   clear hF
   obtain rfl:=Ra g3
   obtain ⟨g4,hF⟩:=aB hF3
   clear hF3 g3
   simp only[Bool.and_eq_true] at g4
   obtain ⟨g4,g5⟩:=g4
   obtain rfl:=Ra g4
   have g5:=Nat.le_of_ble_eq_true g5
   rw[ag,ag] at hF
   obtain ⟨g6,hF3⟩:=aB hF
   clear hF
   have g6:=Nat.le_of_ble_eq_true g6
   have g6:c.length+s.length<=1000000:=g6
   rw[NH.set_eq,NH.set_eq,NH.new_eq] at hF3
   injection hF3 with hF
   injection hF with hv hh
   subst hv;subst hh
   cases vv0 with
   |slc _ _ _ _ _ q a' cap z1 z2 z3 z4 z5 z6=>
   obtain ⟨z6,z7⟩:=z6 (by omega)
   have z8:cap<=q.n:=by omega
   obtain ⟨o,o1,o2⟩:=hR.obj ob q z1
   rw[hob] at o1;cases o1
   obtain ⟨m0,curO,m1,m2,m3,m4⟩:=o2
   have hobl:Live (h.get ob):=by rw[hob];simp
   have hne:ob≠id:=fun e=>by
    rw[e,hid] at hob
    injection hob with x
    injection x with x _
    rw[x,hMU] at hMT;cases hMT
   have hqp:q.b≠p.b:=hR.inj ob id q p z1 hp hne hobl hlive.1
   have ha':a'=⟨q.b,0,none⟩:=by rw[z6,m0]
   subst ha'
   have hcl:(curO.toList.take c.length).length=c.length:=by
    have y:curO.toList.length=curO.size:=Array.length_toList
    rw[List.length_take];have:=m3.1;omega
   have hOW:OW (ρ.t 5) (.slice (some ⟨q.b,0,none⟩) c.length cap) (curO.toList.take c.length).length (curO.toList.take c.length) w:=by
    rw[hcl]
    exact ⟨hcl,.inr ⟨q.b,cap,curO,rfl,m1,z2,z4,by omega,rfl⟩⟩
   have hob2:(Value.slice (some ⟨q.b,0,none⟩) c.length cap).ownBlock≠some p.b:=fun e=>hqp (by simpa [Value.ownBlock] using e)
   have hW:WAt T' (ρ.t 5) p.b (.pointer none) d0 (curO.toList.take c.length) (.slice (some ⟨q.b,0,none⟩) c.length cap) w∨WAt T' (ρ.t 5) p.b (.pointer (some ⟨p.b,0,none⟩)) d0 (curO.toList.take c.length) (.slice (some ⟨q.b,0,none⟩) c.length cap) w:=by
    rcases hself with rfl|rfl
    ·exact .inl ⟨k1,hOW,hob2⟩
    ·exact .inr ⟨k1,hOW,hob2⟩
   refine (W_WriteString L X Y p.b d0 _ _ t w hW (by rw[hcl];omega)).mono ?_
   rintro e w' ⟨rfl,v',⟨w1,w2,w3⟩,hnil,hos,htape,hout,hsz',hblk,hfr⟩
   have hlb:(curO.toList.take c.length++Lib.strCells t).length=c.length+s.length:=by rw[List.length_append,hcl,Lib.strCells_length,hsz]
   rw[hlb] at w2
   rcases w2.2 with ⟨rfl,q⟩|⟨g,cap',cur,rfl,hg,n1,n2,n3,n4⟩
   ·omega
   have hbl:(sF c (gJ s)).length=c.length+s.length:=by rw[sX,List.length_append,ic,List.length_map]
   have hidn:∀{i:D4} {r:Pl},ι i=some r->i≠h.next:=fun hi e=>by
    obtain ⟨o,h1,_⟩:=hR.obj _ _ hi
    have:=hR.fresh _ _ h1
    rw[e] at this;exact Nat.lt_irrefl _ this
   obtain ⟨ι',j1,j2,j3⟩:=hR.bld (h':=((h.put ob .dead).put id (.cellsT T' [.ptr id 0,.slc h.next 0 (Nat.add c.length s.length) 1 0,d])).add (.cellsT (ρ.t 5) (sF c (gJ s)))) hp hid (fun i=>i=ob)
    (fun i e=>by rw[e];exact ⟨hne,hobl,by rw[NH.get_add_ne ((h.put ob .dead).put id _) _ (hidn z1),NH.get_put_ne _ _ hne];exact NH.get_put_same _ _ _,q,z1⟩) rfl (NH.get_add_same _ _)
    (by rw[NH.get_add_ne ((h.put ob .dead).put id _) _ (hidn hp)];exact NH.get_put_same _ _ _) (fun i i1 i2 i3=>by rw[NH.get_add_ne ((h.put ob .dead).put id _) _ i1,NH.get_put_ne _ _ i2,NH.get_put_ne _ _ i3])
    hg (by
     rcases hblk with e|⟨g',e,e'⟩
     ·cases e;exact .inl ⟨ob,q,rfl,z1,rfl⟩
     ·cases e;exact .inr e') ⟨by omega,fun q=>by rw[hMU] at q;cases q⟩ (fun ι' hle i v hv=>by
      have hi:i<c.length+s.length:=by rw[←hbl];exact (List.getElem?_eq_some_iff.1 hv).1
      have hat:cur[i]? =(curO.toList.take c.length++Lib.strCells t)[i]? :=by rw[←n4,List.getElem?_take,Q5 hi,Array.getElem?_toList]
      rw[hat]
      rw[sX] at hv
      by_cases h2:i<c.length
      ·rw[List.getElem?_append_left h2] at hv
       obtain ⟨u,a1,a2,a3⟩:=m4 i v hv
       exact ⟨u,by rw[List.getElem?_append_left (by omega),List.getElem?_take,Q5 h2,Array.getElem?_toList];exact a1,a2.mono hle,a3⟩
      ·rw[List.getElem?_append_right (by omega)] at hv
       rw[List.getElem?_append_right (by omega),hcl]
       exact AU hs _ v hv) w1 (by rw[hn3];rfl) ⟨by rw[hn3];exact Nat.le_refl 3,fun _=>by rw[hn3];rfl⟩ (fun ι' hle hnx i v hv=>by
    match i with
    |0=>cases hv;exact ⟨_,rfl,by rw[←hpo];exact .ptr _ _ p (hle _ _ hp),rfl⟩
    |1=>cases hv;exact ⟨_,rfl,.slc _ _ _ _ _ _ _ _ hnx n1 (Nat.zero_le _) n2 (by decide) (fun _=>⟨rfl,by show 0+0+cap'*1<=cur.size;omega⟩),rfl⟩
    |2=>cases hv;exact ⟨_,rfl,vd0.mono hle,od0⟩
    |i+3=>cases hv) hB hos htape hout hsz' (fun k hk hkb hK=>hfr k hk hkb (fun e=>hK ob q rfl z1 (by simpa [Value.ownBlock] using e)))
   exact ⟨ι',_,rfl,.tup _ [_,_] (.cons _ _ _ _ (by rw[hsz];exact .int _ _) (.cons _ _ _ _ .nili .nil)),j2,Nat.le_trans hB hsz',j3⟩
  ·cases hF
noncomputable def yE (c:List NV):Option (List Nat):=List.rec (some []) (fun v _ r=>match v with| .int .u8 (.lit (.ofNat k))=>cond (Nat.blt k 256) (match r with|some l=>some (k::l)|none=>none) none|_=>none) c
theorem tU:∀{c:List NV} {l:List Nat},yE c=some l->c=l.map (fun k=> .int .u8 (.lit (.ofNat k)))/\∀k∈l,k<256
 | [],l,e=>by cases e;exact ⟨rfl,by simp⟩
 |v::c,l,e=>by
  have e:(match (generalizing:=false) v with| .int .u8 (.lit (.ofNat k))=>cond (Nat.blt k 256) (match yE c with|some l=>some (k::l)|none=>none) none|_=>none)=some l:=e
  split at e
  ·obtain ⟨b,e2⟩:=aB e
   split at e2
   ·rename_i l' hl
    cases e2
    obtain ⟨q1,q2⟩:=tU hl
    refine ⟨by rw[q1];rfl,fun k hk=> ?_⟩
    rcases List.mem_cons.1 hk with rfl|hk
    ·exact Nat.le_of_ble_eq_true b
    ·exact q2 k hk
   ·cases e2
  ·cases e
noncomputable def Ch (T U:Nat) (l:List NV) (h:NH):Option (NV×NH):=
 match l with
 | [.ptr id 0]=>(match h.get id with
  |some (.cellsT T' [_,b,_])=>cond (Nat.beq T' T) (match b with
   | .nils=>some (.str [],h)
   | .slc ob 0 n 1 0=>(match h.get ob with
    |some (.cellsT U' c)=>cond (Nat.beq U' U) (cond (Nat.beq c.length n&&Nat.ble 1 n) (match yE c with|some s=>h.set ob .dead fun h=>some (.str s,h)|none=>none) none) none
    |_=>none)
   |_=>none) none
  |_=>none)
 |_=>none
theorem Kz {ρ:Ren} (L:Lays.n169 P ρ) (X:Builder.Extra P ρ) {T:TypeId} (hMT:MT T=true) (hMU:MT (ρ.t 5)=false) (hen:∀args w,(callFunc (ρ.f 169) args).run P w= .ok (.enter (ρ.f 169) args) w):fo P (ρ.f 169) (Ch T (ρ.t 5)):=
 fo.of hen fun ι B h w args args' v h' hF hR hB hl=>by
  unfold Ch at hF
  split at hF
  rotate_left
  ·cases hF
  rename_i id
  cases hl with
  |cons _ _ _ _ hx hl1=>
  cases hx with
  |ptr _ _ p hp=>
  cases hl1
  split at hF
  rotate_left
  ·cases hF
  rename_i T' a b d hid
  obtain ⟨g1,hF1⟩:=aB hF
  clear hF
  obtain rfl:=Ra g1
  clear g1
  obtain ⟨o,o1,o2⟩:=hR.obj id p hp
  rw[hid] at o1;cases o1
  obtain ⟨k0,cur0,k1,k2,k3,k4⟩:=o2
  have hn3:p.n=3:=(k3.2 hMT).symm
  obtain ⟨p0,c0,vp0,op0⟩:=k4 0 a rfl
  obtain ⟨v0,c1,vv0,ov0⟩:=k4 1 b rfl
  obtain ⟨d0,c2,vd0,od0⟩:=k4 2 d rfl
  have hcur:=Nh (by omega) c0 c1 c2
  subst hcur
  have hlive:Live (h.get id):=by rw[hid];simp
  have hpo:(⟨p.b,p.o+0,none⟩:Addr)=⟨p.b,0,none⟩:=by rw[k0]
  rw[hpo]
  split at hF1
  ·cases vv0
   injection hF1 with hF
   injection hF with hv hh
   subst hv;subst hh
   refine (W_String_nil L X p.b p0 d0 w k1).mono ?_
   rintro e w' ⟨rfl,hb⟩
   exact ⟨ι,_,rfl,.str _ _ rfl,hR.below hb,Nat.le_trans hB hb.size,.below hb⟩
  ·rename_i ob n
   split at hF1
   rotate_left
   ·cases hF1
   rename_i U' c hob
   obtain ⟨g3,hF3⟩:=aB hF1
   clear hF1
   obtain rfl:=Ra g3
   obtain ⟨g4,hF⟩:=aB hF3
   clear hF3 g3
   simp only[Bool.and_eq_true] at g4
   obtain ⟨g4,g5⟩:=g4
   obtain rfl:=Ra g4
   have g5:=Nat.le_of_ble_eq_true g5
   split at hF
   rotate_left
   ·cases hF
   rename_i ks hks
   obtain ⟨y1,y2⟩:=tU hks
   rw[NH.set_eq] at hF
   injection hF with hF
   injection hF with hv hh
   subst hv;subst hh
   cases vv0 with
   |slc _ _ _ _ _ q a' cap z1 z2 z3 z4 z5 z6=>
   obtain ⟨z6,z7⟩:=z6 (by omega)
   obtain ⟨o,o1,o2⟩:=hR.obj ob q z1
   rw[hob] at o1;cases o1
   obtain ⟨m0,curO,m1,m2,m3,m4⟩:=o2
   have hobl:Live (h.get ob):=by rw[hob];simp
   have ha':a'=⟨q.b,0,none⟩:=by rw[z6,m0]
   subst ha'
   have hkl:ks.length=c.length:=by rw[y1,List.length_map]
   have hll:(ks.map UInt8.ofNat).length=c.length:=by rw[List.length_map,hkl]
   have hcs:curO.toList.length=curO.size:=Array.length_toList
   have htk:curO.toList.take (ks.map UInt8.ofNat).length=Lib.byteCells (ks.map UInt8.ofNat):=by
    apply List.ext_getElem?
    intro i
    rw[hll,List.getElem?_take]
    by_cases hi:i<c.length
    ·rw[Q5 hi,Array.getElem?_toList]
     have hi2:i<ks.length:=by omega
     obtain ⟨u,a1,a2,a3⟩:=m4 i (.int .u8 (.lit (.ofNat ks[i]))) (by rw[y1,List.getElem?_map,List.getElem?_eq_getElem hi2];rfl)
     rw[a1]
     cases a2 with
     |int _ _=>
     have h256:=y2 ks[i] (List.getElem_mem hi2)
     simp only[Lib.byteCells,List.getElem?_map,List.getElem?_eq_getElem hi2,Option.map_some]
     congr 2
     rw[UInt8.toNat_ofNat',Nat.mod_eq_of_lt h256];rfl
    ·rw[Q4 hi,List.getElem?_eq_none (by simp[Lib.byteCells];omega)]
   rw[←hll] at k1
   refine (W_String L X p.b q.b cap p0 d0 (ks.map UInt8.ofNat) curO w k1 m1 (by omega) z4 (by omega) htk (fun e=>by rw[e] at hll;simp at hll;omega)).mono ?_
   rintro e w' ⟨rfl,rfl⟩
   obtain ⟨r1,r2⟩:=hR.turn (w':=w.drew.freeze ⟨q.b,0,none⟩ (ks.map UInt8.ofNat).length) z1 hobl .dead trivial (by unfold World.freeze;split<;>simp) (by unfold World.freeze;split<;>rfl) (by unfold World.freeze;split<;>rfl) (by unfold World.freeze;split<;>rfl) (fun b hb=>by
    unfold World.freeze;split
    ·rfl
    ·simp only[Array.getElem?_modify];rw[Q4 fun e=>hb e.symm];rfl)
   refine ⟨ι,_,rfl,.str _ _ ?_,r1,Nat.le_trans hB r2.size,r2⟩
   rw[List.toList_toArray,List.map_map]
   conv=>rhs;rw[←List.map_id ks]
   apply List.map_congr_left
   intro k hk
   show (UInt8.ofNat k).toNat=k
   rw[UInt8.toNat_ofNat',Nat.mod_eq_of_lt (y2 k hk)]
  ·cases hF1
end
end Nm
namespace Nm
open Go Go.RowKit Go.Shelf Go.Proofs
noncomputable def Cm (d:Nat):List Nat:=Nat.rec [] (fun _ r=>32::32::r) d
noncomputable def I8 (l:List NV) (h:NH):Option (NV×NH):=
 match l with
 | [.str [32,32],.int .i64 (.lit (.ofNat d))]=>cond (Nat.ble d 1000) (some (.str (Cm d),h)) none
 |_=>none
noncomputable def Im (g:Nat) (l:List NV) (h:NH):Option (NV×NH):=
 match l with
 | [.int .u64 (.lit (.ofNat n)),.int .i64 (.lit 10)]=>cond (Nat.ble n 99) (some (.str (kh 20 n []),h)) (cond (lH g h) (cond (Nat.ble n 18446744073709551615) (some (.str (kh 20 n []),h)) none) none)
 |_=>none
end Nm
/-
  DERIVED: THE SHELF's CONTRACTS AT THIS DUMP, IN PLAIN WORDS (tools/lay-plain.mjs out of 'TryzShq.lean', which tools/lay-shelf.mjs wrote): THE SAME DECLARATIONS UNDER THE SAME NAMES: 'import', 'namespace', 'open', 'def', 'theorem' AND NOTHING ELSE: no command of the shelf's: FOR A HAND-IN. Each laying: the table of numbers ('.._ren') and one theorem, a field a fact of the dump's own or the kernel's comparison; each contract: ONE APPLICATION.
-/
namespace Go.Proofs
open Go.Shelf
def Tryz.laysM171_ren : Go.Shelf.Ren := ⟨fun | 171 => 34 | 243 => 56 | 246 => 74 | 283 => 68 | 284 => 69 | 285 => 70 | 286 => 71 | 129 => 94 | 317 => 93 | 318 => 95 | 319 => 96 | 320 => 97 | 337 => 106 | 338 => 107 | n => n, fun | 3 => 3 | 9 => 9 | 2 => 2 | 4 => 4 | 171 => 120 | 0 => 0 | 53 => 39 | 37 => 22 | 5 => 5 | 173 => 123 | 212 => 144 | 51 => 131 | 20 => 20 | 213 => 145 | 46 => 111 | 232 => 158 | 233 => 159 | n => n, fun | 17 => 0 | 18 => 2 | 19 => 3 | n => n⟩
theorem Tryz.laysM171 : Go.Proofs.LaysM.n171 Tryz.prog Tryz.laysM171_ren := {
  mixed := by kernel_rfl
  f129 := Tryz.func94.trans (congrArg some (by kernel_rfl))
  f171 := Tryz.func34.trans (congrArg some (by kernel_rfl))
  f243 := Tryz.func56.trans (congrArg some (by kernel_rfl))
  f246 := Tryz.func74.trans (congrArg some (by kernel_rfl))
  f283 := Tryz.func68.trans (congrArg some (by kernel_rfl))
  f284 := Tryz.func69.trans (congrArg some (by kernel_rfl))
  f285 := Tryz.func70.trans (congrArg some (by kernel_rfl))
  f286 := Tryz.func71.trans (congrArg some (by kernel_rfl))
  f317 := Tryz.func93.trans (congrArg some (by kernel_rfl))
  f318 := Tryz.func95.trans (congrArg some (by kernel_rfl))
  f319 := Tryz.func96.trans (congrArg some (by kernel_rfl))
  f320 := Tryz.func97.trans (congrArg some (by kernel_rfl))
  f337 := Tryz.func106.trans (congrArg some (by kernel_rfl))
  f338 := Tryz.func107.trans (congrArg some (by kernel_rfl))
  t0 := Tryz.underlying0
  a0 := Tryz.isAgg0
  z0 := Tryz.sizeOf0
  v0 := Tryz.zeroValue0
  t2 := Tryz.underlying2
  a2 := Tryz.isAgg2
  z2 := Tryz.sizeOf2
  v2 := Tryz.zeroValue2
  t3 := Tryz.underlying3
  a3 := Tryz.isAgg3
  z3 := Tryz.sizeOf3
  v3 := Tryz.zeroValue3
  t4 := Tryz.underlying4
  a4 := Tryz.isAgg4
  z4 := Tryz.sizeOf4
  v4 := Tryz.zeroValue4
  t5 := Tryz.underlying5
  a5 := Tryz.isAgg5
  z5 := Tryz.sizeOf5
  v5 := Tryz.zeroValue5
  t9 := Tryz.underlying9
  a9 := Tryz.isAgg9
  z9 := Tryz.sizeOf9
  v9 := Tryz.zeroValue9
  t20 := Tryz.underlying20
  a20 := Tryz.isAgg20
  z20 := Tryz.sizeOf20
  v20 := Tryz.zeroValue20
  t37 := Tryz.underlying22
  a37 := Tryz.isAgg22
  z37 := Tryz.sizeOf22
  v37 := Tryz.zeroValue22
  t46 := Tryz.underlying111
  a46 := Tryz.isAgg111
  z46 := Tryz.sizeOf111
  v46 := Tryz.zeroValue111
  t51 := Tryz.underlying131
  a51 := Tryz.isAgg131
  z51 := Tryz.sizeOf131
  v51 := Tryz.zeroValue131
  t53 := Tryz.underlying39
  a53 := Tryz.isAgg39
  z53 := Tryz.sizeOf39
  v53 := Tryz.zeroValue39
  t171 := Tryz.underlying120
  a171 := Tryz.isAgg120
  z171 := Tryz.sizeOf120
  v171 := Tryz.zeroValue120
  t173 := Tryz.underlying123
  a173 := Tryz.isAgg123
  z173 := Tryz.sizeOf123
  v173 := Tryz.zeroValue123
  t212 := Tryz.underlying144
  a212 := Tryz.isAgg144
  z212 := Tryz.sizeOf144
  v212 := Tryz.zeroValue144
  t213 := Tryz.underlying145
  a213 := Tryz.isAgg145
  z213 := Tryz.sizeOf145
  t232 := Tryz.underlying158
  a232 := Tryz.isAgg158
  z232 := Tryz.sizeOf158
  v232 := Tryz.zeroValue158
  t233 := Tryz.underlying159
  a233 := Tryz.isAgg159
  z233 := Tryz.sizeOf159
  v233 := Tryz.zeroValue159
  g17 := by kernel_rfl
  g18 := by kernel_rfl
  g19 := by kernel_rfl
  i0 := by kernel_rfl
  i2 := by kernel_rfl
  i3 := by kernel_rfl
  i4 := by kernel_rfl
  i5 := by kernel_rfl
  i9 := by kernel_rfl
  i20 := by kernel_rfl
  i37 := by kernel_rfl
  i46 := by kernel_rfl
  i51 := by kernel_rfl
  i53 := by kernel_rfl
  i171 := by kernel_rfl
  i173 := by kernel_rfl
  i212 := by kernel_rfl
  i232 := by kernel_rfl
  i233 := by kernel_rfl
  m17 := by kernel_rfl
  m18 := by kernel_rfl
  m19 := by kernel_rfl }
def Tryz.lays105_ren : Go.Shelf.Ren := ⟨fun | 105 => 36 | 212 => 58 | 99 => 59 | 165 => 60 | 166 => 35 | 170 => 61 | 169 => 18 | 263 => 76 | 264 => 77 | 206 => 78 | 240 => 57 | 241 => 79 | 276 => 75 | 277 => 100 | n => n, fun | 9 => 9 | 3 => 3 | 4 => 4 | 20 => 20 | 0 => 0 | 46 => 111 | 109 => 112 | 5 => 5 | 72 => 55 | 76 => 90 | 51 => 131 | 146 => 132 | 53 => 39 | 148 => 134 | 70 => 53 | 37 => 22 | 75 => 89 | 127 => 96 | 164 => 129 | 80 => 65 | n => n, fun | n => n⟩
theorem Tryz.lays105 : Go.Proofs.Lays.n105 Tryz.prog Tryz.lays105_ren := {
  mixed := by kernel_rfl
  f99 := Tryz.func59.trans (congrArg some (by kernel_rfl))
  f105 := Tryz.func36.trans (congrArg some (by kernel_rfl))
  f165 := Tryz.func60.trans (congrArg some (by kernel_rfl))
  f166 := Tryz.func35.trans (congrArg some (by kernel_rfl))
  f169 := Tryz.func18.trans (congrArg some (by kernel_rfl))
  f170 := Tryz.func61.trans (congrArg some (by kernel_rfl))
  f206 := Tryz.func78.trans (congrArg some (by kernel_rfl))
  f212 := Tryz.func58.trans (congrArg some (by kernel_rfl))
  f240 := Tryz.func57.trans (congrArg some (by kernel_rfl))
  f241 := Tryz.func79.trans (congrArg some (by kernel_rfl))
  f263 := Tryz.func76.trans (congrArg some (by kernel_rfl))
  f264 := Tryz.func77.trans (congrArg some (by kernel_rfl))
  f276 := Tryz.func75.trans (congrArg some (by kernel_rfl))
  f277 := Tryz.func100.trans (congrArg some (by kernel_rfl))
  t0 := Tryz.underlying0
  a0 := Tryz.isAgg0
  z0 := Tryz.sizeOf0
  v0 := Tryz.zeroValue0
  t3 := Tryz.underlying3
  a3 := Tryz.isAgg3
  z3 := Tryz.sizeOf3
  v3 := Tryz.zeroValue3
  t4 := Tryz.underlying4
  a4 := Tryz.isAgg4
  z4 := Tryz.sizeOf4
  v4 := Tryz.zeroValue4
  t5 := Tryz.underlying5
  a5 := Tryz.isAgg5
  z5 := Tryz.sizeOf5
  v5 := Tryz.zeroValue5
  t9 := Tryz.underlying9
  a9 := Tryz.isAgg9
  z9 := Tryz.sizeOf9
  v9 := Tryz.zeroValue9
  t20 := Tryz.underlying20
  a20 := Tryz.isAgg20
  z20 := Tryz.sizeOf20
  v20 := Tryz.zeroValue20
  t37 := Tryz.underlying22
  a37 := Tryz.isAgg22
  z37 := Tryz.sizeOf22
  v37 := Tryz.zeroValue22
  t46 := Tryz.underlying111
  a46 := Tryz.isAgg111
  z46 := Tryz.sizeOf111
  v46 := Tryz.zeroValue111
  t51 := Tryz.underlying131
  a51 := Tryz.isAgg131
  z51 := Tryz.sizeOf131
  v51 := Tryz.zeroValue131
  t53 := Tryz.underlying39
  a53 := Tryz.isAgg39
  z53 := Tryz.sizeOf39
  v53 := Tryz.zeroValue39
  t70 := Tryz.underlying53
  a70 := Tryz.isAgg53
  z70 := Tryz.sizeOf53
  v70 := Tryz.zeroValue53
  t72 := Tryz.underlying55
  a72 := Tryz.isAgg55
  z72 := Tryz.sizeOf55
  v72 := Tryz.zeroValue55
  t75 := Tryz.underlying89
  a75 := Tryz.isAgg89
  z75 := Tryz.sizeOf89
  v75 := Tryz.zeroValue89
  t76 := Tryz.underlying90
  a76 := Tryz.isAgg90
  z76 := Tryz.sizeOf90
  v76 := Tryz.zeroValue90
  t109 := Tryz.underlying112
  a109 := Tryz.isAgg112
  z109 := Tryz.sizeOf112
  v109 := Tryz.zeroValue112
  t127 := Tryz.underlying96
  a127 := Tryz.isAgg96
  z127 := Tryz.sizeOf96
  v127 := Tryz.zeroValue96
  t146 := Tryz.underlying132
  a146 := Tryz.isAgg132
  z146 := Tryz.sizeOf132
  v146 := Tryz.zeroValue132
  t148 := Tryz.underlying134
  a148 := Tryz.isAgg134
  z148 := Tryz.sizeOf134
  v148 := Tryz.zeroValue134
  t164 := Tryz.underlying129
  a164 := Tryz.isAgg129
  z164 := Tryz.sizeOf129
  v164 := Tryz.zeroValue129 }
def Tryz.lays169_ren : Go.Shelf.Ren := ⟨fun | 169 => 18 | n => n, fun | 70 => 53 | 9 => 9 | 0 => 0 | 72 => 55 | 37 => 22 | 127 => 96 | 3 => 3 | 5 => 5 | n => n, fun | n => n⟩
theorem Tryz.lays169 : Go.Proofs.Lays.n169 Tryz.prog Tryz.lays169_ren := {
  mixed := by kernel_rfl
  f169 := Tryz.func18.trans (congrArg some (by kernel_rfl))
  t0 := Tryz.underlying0
  a0 := Tryz.isAgg0
  z0 := Tryz.sizeOf0
  v0 := Tryz.zeroValue0
  t3 := Tryz.underlying3
  a3 := Tryz.isAgg3
  z3 := Tryz.sizeOf3
  v3 := Tryz.zeroValue3
  t9 := Tryz.underlying9
  a9 := Tryz.isAgg9
  z9 := Tryz.sizeOf9
  v9 := Tryz.zeroValue9
  t37 := Tryz.underlying22
  a37 := Tryz.isAgg22
  z37 := Tryz.sizeOf22
  v37 := Tryz.zeroValue22
  t70 := Tryz.underlying53
  a70 := Tryz.isAgg53
  z70 := Tryz.sizeOf53
  v70 := Tryz.zeroValue53
  t72 := Tryz.underlying55
  a72 := Tryz.isAgg55
  z72 := Tryz.sizeOf55
  v72 := Tryz.zeroValue55
  t127 := Tryz.underlying96
  a127 := Tryz.isAgg96
  z127 := Tryz.sizeOf96
  v127 := Tryz.zeroValue96 }
end Go.Proofs
/-! # strconv.FormatUint at base 10 -/
namespace Go.Proofs
open Go.Shelf Go.RowKit Go.Sort Go.Lib
set_option maxHeartbeats 6400000 in
set_option maxRecDepth 100000 in
theorem fmtU (u : Nat) (hu64 : u < 18446744073709551616) (w : World) (htab : u < 100 ∨ Lib.TabIs Tryz.prog w "internal/strconv.uint64pow10" .u64 Lib.pow10Tab) :
    Calls Tryz.prog 50 #[.int .u64 u, .int .i64 10] w fun e w' => e = .returned (.string ⟨(Lib.decDigits u).toArray⟩) ∧ ∃ k os, w' = grow (w.drewN k) os := by
  have mixed := Tryz.laysM171.mixed
  by_cases hs : u < 100
  · go_enter Tryz.func50, Tryz.ntmps50
    go_wp2_with (go_at_call 68; refine (Any.internal_strconv_small { Tryz.laysM171 with } u hs _).mono ?_; rintro e w' ⟨rfl, rfl⟩)
    go_ret
    exact ⟨rfl, 0, #[], by simp [World.drewN_zero]⟩
  · have htab := htab.resolve_left hs
    have hu1 : 1 ≤ u := by omega
    have hnd20 : Lib.nDigits u ≤ 20 := by have := Lib.numDigits_eq u hu1 hu64; split at this <;> omega
    have hb3 : Lib.nDigits u ≤ 24 := by omega
    have hal : Tryz.prog.arrayLen 120 = 24 := by kernel_rfl
    have hsl1 : ∀ W, (Instr.sliceAt 120 (.pointer (some ⟨w.heap.size, 0, none⟩)) none (some (.int .i64 (Lib.nDigits u : Int))) none).run Tryz.prog W = .ok (.slice (some ⟨w.heap.size, 0, none⟩) (Lib.nDigits u) 24) W := fun W => by
      rw [run_sliceAt_array_h W 120 ⟨w.heap.size, 0, none⟩ (by kernel_rfl) .i64 (Lib.nDigits u : Int) (by omega) (by rw [hal]; omega)]
      go_simp
    have hH0 : Holds (fun (b : UInt8) => Value.int .u8 (b.toNat : Int)) (w.alloc (.cells Lib.zeros24 120)) w.heap.size 0 (Array.replicate (Lib.nDigits u) (0 : UInt8)) := fun j hj => by
      have hj' : j < Lib.nDigits u := by simpa using hj
      refine ⟨?_, World.frozen?_alloc_new _ _ _ _⟩
      rw [World.cell?_alloc_new, Lib.zeros24_at _ (by omega), getElem!_pos _ j hj]
      simp
    have hfmt := Any.internal_strconv_formatBase10 { Tryz.laysM171 with } w.heap.size 0 24 u (Array.replicate (Lib.nDigits u) 0) (w.alloc (.cells Lib.zeros24 120)) hH0 (by rw [Array.size_replicate]; exact Lib.lt_pow_nDigits u) hu64 (by rw [Array.size_replicate]; omega)
    rw [Array.size_replicate] at hfmt
    have HH0 := Lib.hid hH0
    clear hH0 hal
    go_enter Tryz.func50, Tryz.ntmps50
    go_wp2_with (first
      | (go_at_call 69; refine (Any.internal_strconv_numDigits { Tryz.laysM171 with } u hu1 hu64 _ (Lib.tabIs_alloc htab _)).mono ?_; rintro e w' ⟨rfl, rfl⟩))
    go_at_call 70
    refine hfmt.mono ?_
    rintro e w' ⟨rfl, k, v', dk, rfl, hF⟩
    have hcv : (convert 22 9 (.slice (some ⟨w.heap.size, 0, none⟩) (Lib.nDigits u) 24)).run Tryz.prog ((putRow (fun (b : UInt8) => Value.int .u8 (b.toNat : Int)) (w.alloc (.cells Lib.zeros24 120)) w.heap.size 0 dk).drewN k) = .ok (.string ⟨(Lib.decDigits u).toArray⟩) ((putRow (fun (b : UInt8) => Value.int .u8 (b.toNat : Int)) (w.alloc (.cells Lib.zeros24 120)) w.heap.size 0 dk).drewN k) := by
      have h := run_convert_bytes_back (P := Tryz.prog) ((putRow (fun (b : UInt8) => Value.int .u8 (b.toNat : Int)) (w.alloc (.cells Lib.zeros24 120)) w.heap.size 0 dk).drewN k) 22 9 5 ⟨w.heap.size, 0, none⟩ 24 (Lib.decDigits u) Tryz.underlying22 Tryz.underlying5 Tryz.underlying9 (fun j hj => by
        rw [Lib.row_is_numeral hF j hj, Lib.add_plain, World.cell?_drewN]
        exact cell?_putRow (fun (b : UInt8) => Value.int .u8 (b.toNat : Int)) _ w.heap.size 0 _ dk HH0.out (by rw [hF.size, Array.size_replicate]) j (by rw [hF.size]; rw [Lib.decDigits_length] at hj; exact hj))
      rw [Lib.decDigits_length] at h
      exact h
    go_wp2
    go_ret
    refine ⟨rfl, k, ?_⟩
    rw [alloc_eq_grow]
    obtain ⟨os', _, e⟩ := putRow_grow_new (fun (b : UInt8) => Value.int .u8 (b.toNat : Int)) w #[.cells Lib.zeros24 120] w.heap.size 0 dk (Nat.le_refl _)
    exact ⟨os', by rw [e]; rfl⟩
theorem fmtUint (u : Nat) (hu64 : u < 18446744073709551616) (w : World) (htab : u < 100 ∨ Lib.TabIs Tryz.prog w "internal/strconv.uint64pow10" .u64 Lib.pow10Tab) :
    Calls Tryz.prog 26 #[.int .u64 u, .int .i64 10] w fun e w' => e = .returned (.string ⟨(Lib.decDigits u).toArray⟩) ∧ ∃ k os, w' = grow (w.drewN k) os := by
  have hf := fmtU u hu64 w htab
  go_enter Tryz.func26, Tryz.ntmps26
  go_wp2_with (go_at_call 50; refine hf.mono ?_; rintro e w' ⟨rfl, k, os, rfl⟩)
  go_ret
  exact ⟨rfl, k, os, rfl⟩
end Go.Proofs
namespace Nm
open Go Go.RowKit Go.Shelf Go.Proofs
theorem zS (t:List UInt8) (h:t.map UInt8.toNat= [32,32]):∀d,(Lib.repeatL t d).map UInt8.toNat=Cm d
 |0=>rfl
 |d+1=>by
  show (t++Lib.repeatL t d).map UInt8.toNat=32::32::Cm d
  rw[List.map_append,h,zS t h d];rfl
theorem LH {P:Program} {ρ:Ren} (L:Lays.n105 P ρ) (X:Builder.Extra P ρ):fo P (ρ.f 105) I8:=
 fo.plain (enters_of L.f105 (by kernel_rfl) rfl) fun ι B h w args args' v h' hF hR hl=>by
  unfold I8 at hF
  split at hF
  ·rename_i d
   obtain ⟨c1,hF⟩:=aB hF
   cases hF
   have hd:=Nat.le_of_ble_eq_true c1
   cases hl with
   |cons _ _ _ _ hx hr=>
    cases hr with
    |cons _ _ _ _ hy hn=>
     cases hn;cases hx;cases hy
     rename_i t ht
     have hs:t.size=2:=by
      have:=congrArg List.length ht
      rw[List.length_map] at this
      rw[Lib.size_eq];exact this
     refine ⟨rfl,(Any.strings_Repeat L X t d w (by omega) (by rw[hs];omega)).mono ?_⟩
     rintro e w' ⟨rfl,hb⟩
     refine ⟨⟨_,rfl,.str _ _ ?_⟩,hb⟩
     exact zS _ ht d
  ·cases hF
theorem Ll {g:Nat} (hg:g<NG) (hn:GN g=20) (hN:Tryz.prog.globalNamed "internal/strconv.uint64pow10" =some g):fo Tryz.prog 26 (Im g):=
 fo.plain (enters_of Tryz.func26 (by kernel_rfl) rfl) fun ι B h w args args' v h' hF hR hl=>by
  unfold Im at hF
  split at hF
  ·rename_i n
   have key:n<18446744073709551616/\v= .str (kh 20 n [])/\h'=h/\(n<100∨Lib.TabIs Tryz.prog w "internal/strconv.uint64pow10" .u64 Lib.pow10Tab):=by
    cases c0:Nat.ble n 99 with
    |true=>
     rw[c0] at hF;cases hF
     have:=Nat.le_of_ble_eq_true c0
     exact ⟨by omega,rfl,rfl,Or.inl (by omega)⟩
    |false=>
     rw[c0] at hF
     obtain ⟨c1,hF⟩:=aB hF
     obtain ⟨c2,hF⟩:=aB hF
     cases hF
     have:=Nat.le_of_ble_eq_true c2
     exact ⟨by omega,rfl,rfl,Or.inr (Fk hR hg hn hN c1)⟩
   obtain ⟨k1,rfl,rfl,k2⟩:=key
   cases hl with
   |cons _ _ _ _ hx hr=>
    cases hr with
    |cons _ _ _ _ hy hnl=>
     cases hnl;cases hx;cases hy
     refine ⟨rfl,(fmtUint n k1 w k2).mono ?_⟩
     rintro e w' ⟨rfl,k,os,rfl⟩
     refine ⟨⟨_,rfl,.str _ _ ?_⟩,ow _ _ _⟩
     rw[tq 20 n [] (by show n<100000000000000000000;omega) (by omega),List.append_nil]
  ·cases hF
end Nm
set_option maxRecDepth 100000
set_option maxHeartbeats 4000000
namespace FR
open Go Nm Go.Proofs
open Nm.D4 (e)
open Nm.NC (reg regD)
open Nm.C
noncomputable def Qa:NFun:=by
 refine (fun _=> ?c:ah Tryz.prog 3=some (.code ?c)->NFun) ?h
 case h=>conv=>{lhs;reduce;dsimp only[db,bk,bj]}
theorem wT:ah Tryz.prog 3=some (.code Qa):=by kernel_rfl
noncomputable def QV:NFun:=by
 refine (fun _=> ?c:ah Tryz.prog 4=some (.code ?c)->NFun) ?h
 case h=>conv=>{lhs;reduce;dsimp only[db,bk,bj]}
theorem Kp:ah Tryz.prog 4=some (.code QV):=by kernel_rfl
noncomputable def Fc:NFun:=by
 refine (fun _=> ?c:ah Tryz.prog 5=some (.code ?c)->NFun) ?h
 case h=>conv=>{lhs;reduce;dsimp only[db,bk,bj]}
noncomputable def xr:NC:=by
 refine (fun _=> ?c:part (some (.code Fc)) 0= ?c->NC) ?h
 case h=>
  conv=>{lhs;whnf}
noncomputable def Qr:NFun:=by
 refine (fun _=> ?c:Fc= ?c->NFun) ?h
 case h=>
  have f0:=xr.eq_1
  dsimp only at f0
  conv=>{lhs;delta Fc;simp only[←f0]}
theorem DI:ah Tryz.prog 5=some (.code Qr):=by kernel_rfl
noncomputable def ze:NFun:=by
 refine (fun _=> ?c:ah Tryz.prog 6=some (.code ?c)->NFun) ?h
 case h=>conv=>{lhs;reduce;dsimp only[db,bk,bj]}
noncomputable def ym:NC:=by
 refine (fun _=> ?c:part (some (.code ze)) 0= ?c->NC) ?h
 case h=>
  conv=>{lhs;whnf}
noncomputable def ES:NC:=by
 refine (fun _=> ?c:part (some (.code ze)) 1= ?c->NC) ?h
 case h=>
  have f0:=ym.eq_1
  dsimp only at f0
  conv=>{lhs;whnf;simp only[←f0]}
noncomputable def Qi:NFun:=by
 refine (fun _=> ?c:ze= ?c->NFun) ?h
 case h=>
  have f0:=ym.eq_1
  dsimp only at f0
  have f1:=ES.eq_1
  dsimp only at f1
  conv=>{lhs;delta ze;simp only[←f0,←f1]}
theorem F6:ah Tryz.prog 6=some (.code Qi):=by kernel_rfl
noncomputable def AF:NFun:=by
 refine (fun _=> ?c:ah Tryz.prog 7=some (.code ?c)->NFun) ?h
 case h=>conv=>{lhs;reduce;dsimp only[db,bk,bj]}
noncomputable def vX:NC:=by
 refine (fun _=> ?c:part (some (.code AF)) 1= ?c->NC) ?h
 case h=>
  conv=>{lhs;whnf}
noncomputable def DW:NC:=by
 refine (fun _=> ?c:part (some (.code AF)) 0= ?c->NC) ?h
 case h=>
  have f0:=vX.eq_1
  dsimp only at f0
  conv=>{lhs;whnf;simp only[←f0]}
noncomputable def Qq:NFun:=by
 refine (fun _=> ?c:AF= ?c->NFun) ?h
 case h=>
  have f0:=vX.eq_1
  dsimp only at f0
  have f1:=DW.eq_1
  dsimp only at f1
  conv=>{lhs;delta AF;simp only[←f0,←f1]}
theorem DF:ah Tryz.prog 7=some (.code Qq):=by kernel_rfl
noncomputable def Od:NFun:=by
 refine (fun _=> ?c:ah Tryz.prog 8=some (.code ?c)->NFun) ?h
 case h=>conv=>{lhs;reduce;dsimp only[db,bk,bj]}
theorem rz:ah Tryz.prog 8=some (.code Od):=by kernel_rfl
noncomputable def QL:NFun:=by
 refine (fun _=> ?c:ah Tryz.prog 9=some (.code ?c)->NFun) ?h
 case h=>conv=>{lhs;reduce;dsimp only[db,bk,bj]}
theorem Fz:ah Tryz.prog 9=some (.code QL):=by kernel_rfl
noncomputable def Aq:NC:=(((reg [m e.a.f.b e.a.c 0,f 0 e.a.f.c e.c 1,l e.a.f.f e.a.f.c 2,L e.b.a.a e.a.f.f 3,b e.b.a.b .lss (t e.a.f.b) (t e.b.a.a) 4]).seq (NC.cond (t e.b.a.b) NC.skip (NC.exit 0))).seq ((NC.block 1 ((regD [f 0 e.b.b.a e.c 0,O e.b.b.b (.load1 (t e.b.b.a)) 1 1,m e.b.b.c e.a.c 2,O e.b.b.f (.indexSlc 2 (t e.b.b.b) (t e.b.b.c)) 7 3,O e.b.c.a (.loadN 2 (t e.b.b.f)) 15 4,f 0 e.b.c.b e.f 5,O e.b.c.c (.load1 (t e.b.c.b)) 32 6,m e.b.c.f e.a.c 7,O e.b.f.a (.indexSlc 2 (t e.b.c.c) (t e.b.c.f)) 224 8,O e.b.f.b (.loadN 2 (t e.b.f.a)) 480 9,O e.b.f.c (.eqAgg true [.str,.int] (t e.b.c.a) (t e.b.f.b)) 1023 10]).seq (NC.cond (t e.b.f.c) ((reg [o e.a.b (.move kf) 0]).seq NC.ret) NC.skip))).seq (reg [m e.b.a.c e.a.c 0,b e.b.a.f .add (t e.b.a.c) (k 1) 1,m e.a.c e.b.a.f 2])))
noncomputable def zc:NC:=(((reg [m e.b.f.f e.a.f 0,f 1 e.c.a.a e.c 1,l e.c.a.b e.c.a.a 2,L e.c.a.c e.c.a.b 3,b e.c.a.f .lss (t e.b.f.f) (t e.c.a.c) 4]).seq (NC.cond (t e.c.a.f) NC.skip (NC.exit 2))).seq ((NC.block 3 ((regD [f 1 e.c.b.c e.c 0,O e.c.b.f (.load1 (t e.c.b.c)) 1 1,m e.c.c.a e.a.f 2,O e.c.c.b (.indexSlc 2 (t e.c.b.f) (t e.c.c.a)) 7 3,O e.c.c.c (.fieldAddr 0 (t e.c.c.b)) 15 4,O e.c.c.f (.load1 (t e.c.c.c)) 31 5,f 1 e.c.f.a e.f 6,O e.c.f.b (.load1 (t e.c.f.a)) 64 7,m e.c.f.c e.a.f 8,O e.c.f.f (.indexSlc 2 (t e.c.f.b) (t e.c.f.c)) 448 9,O e.f.a.a (.fieldAddr 0 (t e.c.f.f)) 960 10,O e.f.a.b (.load1 (t e.f.a.a)) 1984 11,O e.f.a.c (.bin .num .neq (t e.c.c.f) (t e.f.a.b)) 4095 12,O e.f.a.f (.move (t e.f.a.c)) 8191 13,⟨some e.f.b.a,.fieldAddr 1 (t e.c),some (e.f.a.f,false),16383,14⟩,⟨some e.f.b.b,.load1 (t e.f.b.a),some (e.f.a.f,false),32767,15⟩,⟨some e.f.b.c,.move (t e.a.f),some (e.f.a.f,false),16383,16⟩,⟨some e.f.b.f,.indexSlc 2 (t e.f.b.b) (t e.f.b.c),some (e.f.a.f,false),131071,17⟩,⟨some e.f.c.a,.fieldAddr 1 (t e.f.b.f),some (e.f.a.f,false),262143,18⟩,⟨some e.f.c.b,.load1 (t e.f.c.a),some (e.f.a.f,false),524287,19⟩,⟨some e.f.c.c,.fieldAddr 1 (t e.f),some (e.f.a.f,false),16383,20⟩,⟨some e.f.c.f,.load1 (t e.f.c.c),some (e.f.a.f,false),1064959,21⟩,⟨some e.f.f.a,.move (t e.a.f),some (e.f.a.f,false),16383,22⟩,⟨some e.f.f.b,.indexSlc 2 (t e.f.c.f) (t e.f.f.a),some (e.f.a.f,false),7356415,23⟩,⟨some e.f.f.c,.fieldAddr 1 (t e.f.f.b),some (e.f.a.f,false),15745023,24⟩,⟨some e.f.f.f,.load1 (t e.f.f.c),some (e.f.a.f,false),32522239,25⟩,⟨some e.a.a.a.a,.move (t e.b),some (e.f.a.f,false),16383,26⟩,⟨some e.a.a.a.b,.call (F 25) [t e.f.c.b,t e.f.f.f,t e.a.a.a.a],some (e.f.a.f,false),134217727,27⟩,⟨some e.a.a.a.c,.un .not (t e.a.a.a.b),some (e.f.a.f,false),268435455,28⟩,O e.a.a.a.f (.pick (t e.f.a.f) kt (t e.a.a.a.c)) 536870911 29]).seq (NC.cond (t e.a.a.a.f) ((reg [o e.a.b (.move kf) 0]).seq NC.ret) NC.skip))).seq (reg [m e.c.b.a e.a.f 0,b e.c.b.b .add (t e.c.b.a) (k 1) 1,m e.a.f e.c.b.b 2])))
noncomputable def L0:NFun:=⟨(reg [o e.c (.box (t e) 28) 0,o e.f (.box (t e.a) 28) 1,o e.a.b (.move kf) 2]).seq (((reg [f 0 e.b.a e.c 0,l e.b.b e.b.a 1,L e.b.c e.b.b 2,f 0 e.b.f e.f 3,l e.c.a e.b.f 4,L e.c.b e.c.a 5,b e.c.c .neq (t e.b.c) (t e.c.b) 6,m e.c.f e.c.c 7,G e.f.a (.fieldAddr 1 (t e.c)) e.c.f false 8,G e.f.b (.load1 (t e.f.a)) e.c.f false 9,G e.f.c (.lenSlc (t e.f.b)) e.c.f false 10,G e.f.f (.fieldAddr 1 (t e.f)) e.c.f false 11,G e.a.a.a (.load1 (t e.f.f)) e.c.f false 12,G e.a.a.b (.lenSlc (t e.a.a.a)) e.c.f false 13,G e.a.a.c (.bin .num .neq (t e.f.c) (t e.a.a.b)) e.c.f false 14,o e.a.a.f (.pick (t e.c.f) kt (t e.a.a.c)) 15,m e.a.b.a e.a.a.f 16,G e.a.b.b (.fieldAddr 2 (t e.c)) e.a.b.a false 17,G e.a.b.c (.load1 (t e.a.b.b)) e.a.b.a false 18,G e.a.b.f (.fieldAddr 2 (t e.f)) e.a.b.a false 19,G e.a.c.a (.load1 (t e.a.b.f)) e.a.b.a false 20,G e.a.c.b (.move (t e.b)) e.a.b.a false 21,G e.a.c.c (.call (F 25) [t e.a.b.c,t e.a.c.a,t e.a.c.b]) e.a.b.a false 22,G e.a.c.f (.un .not (t e.a.c.c)) e.a.b.a false 23,o e.a.f.a (.pick (t e.a.b.a) kt (t e.a.c.f)) 24]).seq (NC.cond (t e.a.f.a) ((reg [o e.a.b (.move kf) 0]).seq NC.ret) NC.skip)).seq (((reg [o e.a.c (.move (k 0)) 0]).seq (NC.block 0 Aq.loop)).seq (((reg [o e.a.f (.move (k 0)) 0]).seq (NC.block 2 zc.loop)).seq ((reg [o e.a.b (.move kt) 0]).seq NC.ret)))),89, [.tmp e.a.b]⟩
theorem Ag:ah Tryz.prog 10=some (.code L0):=by kernel_rfl
noncomputable def F4:NFun:=by
 refine (fun _=> ?c:ah Tryz.prog 11=some (.code ?c)->NFun) ?h
 case h=>conv=>{lhs;reduce;dsimp only[db,bk,bj]}
theorem nH:ah Tryz.prog 11=some (.code F4):=by kernel_rfl
noncomputable def xJ:NFun:=by
 refine (fun _=> ?c:ah Tryz.prog 12=some (.code ?c)->NFun) ?h
 case h=>conv=>{lhs;reduce;dsimp only[db,bk,bj]}
noncomputable def sg:NC:=by
 refine (fun _=> ?c:part (some (.code xJ)) 0= ?c->NC) ?h
 case h=>
  conv=>{lhs;whnf}
noncomputable def I7:NFun:=by
 refine (fun _=> ?c:xJ= ?c->NFun) ?h
 case h=>
  have f0:=sg.eq_1
  dsimp only at f0
  conv=>{lhs;delta xJ;simp only[←f0]}
theorem AN:ah Tryz.prog 12=some (.code I7):=by kernel_rfl
noncomputable def Ld:NFun:=by
 refine (fun _=> ?c:ah Tryz.prog 13=some (.code ?c)->NFun) ?h
 case h=>conv=>{lhs;reduce;dsimp only[db,bk,bj]}
theorem zm:ah Tryz.prog 13=some (.code Ld):=by kernel_rfl
noncomputable def LB:NFun:=by
 refine (fun _=> ?c:ah Tryz.prog 14=some (.code ?c)->NFun) ?h
 case h=>conv=>{lhs;reduce;dsimp only[db,bk,bj]}
theorem zx:ah Tryz.prog 14=some (.code LB):=by kernel_rfl
noncomputable def L7:NFun:=by
 refine (fun _=> ?c:ah Tryz.prog 15=some (.code ?c)->NFun) ?h
 case h=>conv=>{lhs;reduce;dsimp only[db,bk,bj]}
theorem zu:ah Tryz.prog 15=some (.code L7):=by kernel_rfl
noncomputable def vZ:NFun:=by
 refine (fun _=> ?c:ah Tryz.prog 16=some (.code ?c)->NFun) ?h
 case h=>conv=>{lhs;reduce;dsimp only[db,bk,bj]}
noncomputable def AR:NC:=by
 refine (fun _=> ?c:part (some (.code vZ)) 0= ?c->NC) ?h
 case h=>
  conv=>{lhs;whnf}
noncomputable def JF:NFun:=by
 refine (fun _=> ?c:vZ= ?c->NFun) ?h
 case h=>
  have f0:=AR.eq_1
  dsimp only at f0
  conv=>{lhs;delta vZ;simp only[←f0]}
theorem y9:ah Tryz.prog 16=some (.code JF):=by kernel_rfl
noncomputable def wn:NFun:=by
 refine (fun _=> ?c:ah Tryz.prog 17=some (.code ?c)->NFun) ?h
 case h=>conv=>{lhs;reduce;dsimp only[db,bk,bj]}
noncomputable def AX:NC:=by
 refine (fun _=> ?c:part (some (.code wn)) 0= ?c->NC) ?h
 case h=>
  conv=>{lhs;whnf}
noncomputable def Kq:NFun:=by
 refine (fun _=> ?c:wn= ?c->NFun) ?h
 case h=>
  have f0:=AX.eq_1
  dsimp only at f0
  conv=>{lhs;delta wn;simp only[←f0]}
theorem AO:ah Tryz.prog 17=some (.code Kq):=by kernel_rfl
noncomputable def Lc:NFun:=by
 refine (fun _=> ?c:ah Tryz.prog 19=some (.code ?c)->NFun) ?h
 case h=>conv=>{lhs;reduce;dsimp only[db,bk,bj]}
theorem Ac:ah Tryz.prog 19=some (.code Lc):=by kernel_rfl
noncomputable def yT:NC:=(((reg [m e.b.a e.a.b 0,m e.b.b e 1,L e.b.c e.b.b 2,b e.b.f .lss (t e.b.a) (t e.b.c) 3]).seq (NC.cond (t e.b.f) NC.skip (NC.exit 0))).seq ((NC.block 1 ((reg [m e.c.c e 0,m e.c.f e.a.b 1,o e.f.a (.indexSlc 21 (t e.c.c) (t e.c.f)) 2,o e.f.b (.loadN 21 (t e.f.a)) 3,o e.a.c (.alloc [.int .i64 (.lit 0),.int .i64 (.lit 0),.str [],.str [],.int .i64 (.lit 0),.int .u64 (.lit 0),.int .u8 (.lit 0),.str [],.nils,.int .i64 (.lit 0),.int .u64 (.lit 0),.int .u8 (.lit 0),.str [],.nils,.int .i64 (.lit 0),.int .u64 (.lit 0),.int .u8 (.lit 0),.str [],.nils,.nils,.nils] 94) 4,q (.store 21 (t e.a.c) (t e.f.b)) 5]).seq ((reg [m e.f.c e.a 0,o e.f.f (.call (F 38) [t e.f.c]) 1,m e.a.f e.f.f 2]).seq ((reg [f 0 e.a.a.a e.a.c 0,l e.a.a.b e.a.a.a 1]).seq (NC.block 2 ((reg [b e.a.a.f .eql (t e.a.a.b) (k 0) 0,m e.a.a.c e.a.a.f 1]).seq (NC.cond (t e.a.a.c) (regD [m e.a.b.a e.a.a 0,m e.a.b.b e.a.f 1,O e.a.b.c (.bin .num .add (t e.a.b.a) (t e.a.b.b)) 3 2,O e.a.b.f (.bin .num .add (t e.a.b.c) (.const (.str [115,101,116,32]))) 7 3,f 2 e.a.c.a e.a.c 4,O e.a.c.b (.load1 (t e.a.c.a)) 16 5,O e.a.c.c (.bin .num .add (t e.a.b.f) (t e.a.c.b)) 63 6,O e.a.c.f (.bin .num .add (t e.a.c.c) (.const (.str [32]))) 127 7,f 9 e.a.f.a e.a.c 8,O e.a.f.b (.loadN 5 (t e.a.f.a)) 256 9,O e.a.f.c (.call (F 39) [t e.a.f.b]) 768 10,O e.a.f.f (.bin .num .add (t e.a.c.f) (t e.a.f.c)) 2047 11,O e.b.a.a (.bin .num .add (t e.a.f.f) (.const (.str [59,10]))) 4095 12,O e.a.a (.move (t e.b.a.a)) 8191 13]) ((reg [b e.b.a.c .eql (t e.a.a.b) (k 1) 0,m e.b.a.b e.b.a.c 1]).seq (NC.cond (t e.b.a.b) (regD [m e.b.a.f e.a.a 0,m e.b.b.a e.a.f 1,O e.b.b.b (.bin .num .add (t e.b.a.f) (t e.b.b.a)) 3 2,O e.b.b.c (.bin .num .add (t e.b.b.b) (.const (.str [108,111,97,100,32]))) 7 3,f 2 e.b.b.f e.a.c 4,O e.b.c.a (.load1 (t e.b.b.f)) 16 5,O e.b.c.b (.bin .num .add (t e.b.b.c) (t e.b.c.a)) 63 6,O e.b.c.c (.bin .num .add (t e.b.c.b) (.const (.str [32]))) 127 7,o e.b.c.f (.loadN 21 (t e.a.c)) 8,O e.b.f.a (.call (F 40) [t e.b.c.f]) 256 9,O e.b.f.b (.bin .num .add (t e.b.c.c) (t e.b.f.a)) 1023 10,O e.b.f.c (.bin .num .add (t e.b.f.b) (.const (.str [59,10]))) 2047 11,O e.a.a (.move (t e.b.f.c)) 4095 12]) ((reg [b e.c.a.a .eql (t e.a.a.b) (k 2) 0,m e.b.f.f e.c.a.a 1]).seq (NC.cond (t e.b.f.f) (regD [m e.c.a.b e.a.a 0,m e.c.a.c e.a.f 1,O e.c.a.f (.bin .num .add (t e.c.a.b) (t e.c.a.c)) 3 2,O e.c.b.a (.bin .num .add (t e.c.a.f) (.const (.str [115,116,111,114,101,32]))) 7 3,o e.c.b.b (.loadN 21 (t e.a.c)) 4,f 9 e.c.c.b e.a.c 8,O e.c.c.c (.loadN 5 (t e.c.c.b)) 256 9,O e.c.b.c (.call (F 40) [t e.c.b.b]) 16 5,O e.c.b.f (.bin .num .add (t e.c.b.a) (t e.c.b.c)) 63 6,O e.c.c.a (.bin .num .add (t e.c.b.f) (.const (.str [32]))) 127 7,O e.c.c.f (.call (F 39) [t e.c.c.c]) 816 10,O e.c.f.a (.bin .num .add (t e.c.c.a) (t e.c.c.f)) 2047 11,O e.c.f.b (.bin .num .add (t e.c.f.a) (.const (.str [59,10]))) 4095 12,O e.a.a (.move (t e.c.f.b)) 8191 13]) ((reg [b e.c.f.f .eql (t e.a.a.b) (k 3) 0,m e.c.f.c e.c.f.f 1]).seq (NC.cond (t e.c.f.c) (regD [m e.f.a.a e.a.a 0,m e.f.a.b e.a.f 1,O e.f.a.c (.bin .num .add (t e.f.a.a) (t e.f.a.b)) 3 2,O e.f.a.f (.bin .num .add (t e.f.a.c) (.const (.str [99,97,115,32]))) 7 3,f 2 e.f.b.a e.a.c 4,O e.f.b.b (.load1 (t e.f.b.a)) 16 5,O e.f.b.c (.bin .num .add (t e.f.a.f) (t e.f.b.b)) 63 6,O e.f.b.f (.bin .num .add (t e.f.b.c) (.const (.str [32]))) 127 7,o e.f.c.a (.loadN 21 (t e.a.c)) 8,f 9 e.f.f.a e.a.c 12,O e.f.f.b (.loadN 5 (t e.f.f.a)) 4096 13,f 14 e.a.a.a.b e.a.c 17,O e.a.a.a.c (.loadN 5 (t e.a.a.a.b)) 131072 18,O e.f.c.b (.call (F 40) [t e.f.c.a]) 256 9,O e.f.c.c (.bin .num .add (t e.f.b.f) (t e.f.c.b)) 1023 10,O e.f.c.f (.bin .num .add (t e.f.c.c) (.const (.str [32]))) 2047 11,O e.f.f.c (.call (F 39) [t e.f.f.b]) 13056 14,O e.f.f.f (.bin .num .add (t e.f.c.f) (t e.f.f.c)) 32767 15,O e.a.a.a.a (.bin .num .add (t e.f.f.f) (.const (.str [32]))) 65535 16,O e.a.a.a.f (.call (F 39) [t e.a.a.a.c]) 422656 19,O e.a.a.b.a (.bin .num .add (t e.a.a.a.a) (t e.a.a.a.f)) 1048575 20,O e.a.a.b.b (.bin .num .add (t e.a.a.b.a) (.const (.str [59,10]))) 2097151 21,O e.a.a (.move (t e.a.a.b.b)) 4194303 22]) ((reg [b e.a.a.b.f .eql (t e.a.a.b) (k 4) 0,m e.a.a.b.c e.a.a.b.f 1]).seq (NC.cond (t e.a.a.b.c) (reg [m e.a.a.c.a e.a.a 0,m e.a.a.c.b e.a.f 1,b e.a.a.c.c .add (t e.a.a.c.a) (t e.a.a.c.b) 2,b e.a.a.c.f .add (t e.a.a.c.c) (.const (.str [102,101,110,99,101,59,10])) 3,m e.a.a e.a.a.c.f 4]) ((reg [b e.a.a.f.b .eql (t e.a.a.b) (k 5) 0,m e.a.a.f.a e.a.a.f.b 1]).seq (NC.cond (t e.a.a.f.a) (reg [m e.a.a.f.c e.a.a 0,m e.a.a.f.f e.a.f 1,b e.a.b.a.a .add (t e.a.a.f.c) (t e.a.a.f.f) 2,b e.a.b.a.b .add (t e.a.b.a.a) (.const (.str [111,117,116,32])) 3,f 9 e.a.b.a.c e.a.c 4,o e.a.b.a.f (.loadN 5 (t e.a.b.a.c)) 5,o e.a.b.b.a (.call (F 39) [t e.a.b.a.f]) 6,b e.a.b.b.b .add (t e.a.b.a.b) (t e.a.b.b.a) 7,b e.a.b.b.c .add (t e.a.b.b.b) (.const (.str [59,10])) 8,m e.a.a e.a.b.b.c 9]) ((reg [b e.a.b.c.a .eql (t e.a.a.b) (k 6) 0,m e.a.b.b.f e.a.b.c.a 1]).seq (NC.cond (t e.a.b.b.f) ((regD [m e.a.b.c.b e.a.a 0,m e.a.b.c.c e.a.f 1,O e.a.b.c.f (.bin .num .add (t e.a.b.c.b) (t e.a.b.c.c)) 3 2,O e.a.b.f.a (.bin .num .add (t e.a.b.c.f) (.const (.str [105,102,32]))) 7 3,f 9 e.a.b.f.b e.a.c 4,O e.a.b.f.c (.loadN 5 (t e.a.b.f.b)) 16 5,f 19 e.a.c.a.c e.a.c 9,O e.a.c.a.f (.load1 (t e.a.c.a.c)) 512 10,m e.a.c.b.a e.a 11,O e.a.c.b.b (.bin .num .add (t e.a.c.b.a) (k 1)) 2048 12,m e.a.c.c.a e.a.f 15,O e.a.b.f.f (.call (F 39) [t e.a.b.f.c]) 48 6,O e.a.c.a.a (.bin .num .add (t e.a.b.f.a) (t e.a.b.f.f)) 127 7,O e.a.c.a.b (.bin .num .add (t e.a.c.a.a) (.const (.str [32,123,10]))) 255 8,O e.a.c.b.c (.call (F 20) [t e.a.c.a.f,t e.a.c.b.b]) 7792 13,O e.a.c.b.f (.bin .num .add (t e.a.c.a.b) (t e.a.c.b.c)) 16383 14,O e.a.c.c.b (.bin .num .add (t e.a.c.b.f) (t e.a.c.c.a)) 65535 16,O e.a.a (.move (t e.a.c.c.b)) 131071 17]).seq (((reg [f 20 e.a.c.c.c e.a.c 0,l e.a.c.c.f e.a.c.c.c 1,L e.a.c.f.a e.a.c.c.f 2,b e.a.c.f.b .gtr (t e.a.c.f.a) (k 0) 3]).seq (NC.cond (t e.a.c.f.b) (reg [m e.a.c.f.c e.a.a 0,b e.a.c.f.f .add (t e.a.c.f.c) (.const (.str [125,32,101,108,115,101,32,123,10])) 1,f 20 e.a.f.a.a e.a.c 2,l e.a.f.a.b e.a.f.a.a 3,m e.a.f.a.c e.a 4,b e.a.f.a.f .add (t e.a.f.a.c) (k 1) 5,o e.a.f.b.a (.call (F 20) [t e.a.f.a.b,t e.a.f.a.f]) 6,b e.a.f.b.b .add (t e.a.c.f.f) (t e.a.f.b.a) 7,m e.a.f.b.c e.a.f 8,b e.a.f.b.f .add (t e.a.f.b.b) (t e.a.f.b.c) 9,m e.a.a e.a.f.b.f 10]) NC.skip)).seq (reg [m e.a.f.c.a e.a.a 0,b e.a.f.c.b .add (t e.a.f.c.a) (.const (.str [125,10])) 1,m e.a.a e.a.f.c.b 2]))) ((reg [b e.a.f.c.f .eql (t e.a.a.b) (k 7) 0,m e.a.f.c.c e.a.f.c.f 1]).seq (NC.cond (t e.a.f.c.c) (regD [m e.a.f.f.a e.a.a 0,m e.a.f.f.b e.a.f 1,O e.a.f.f.c (.bin .num .add (t e.a.f.f.a) (t e.a.f.f.b)) 3 2,O e.a.f.f.f (.bin .num .add (t e.a.f.f.c) (.const (.str [119,104,105,108,101,32]))) 7 3,f 9 e.b.a.a.a e.a.c 4,O e.b.a.a.b (.loadN 5 (t e.b.a.a.a)) 16 5,f 19 e.b.a.b.b e.a.c 9,O e.b.a.b.c (.load1 (t e.b.a.b.b)) 512 10,m e.b.a.b.f e.a 11,O e.b.a.c.a (.bin .num .add (t e.b.a.b.f) (k 1)) 2048 12,m e.b.a.c.f e.a.f 15,O e.b.a.a.c (.call (F 39) [t e.b.a.a.b]) 48 6,O e.b.a.a.f (.bin .num .add (t e.a.f.f.f) (t e.b.a.a.c)) 127 7,O e.b.a.b.a (.bin .num .add (t e.b.a.a.f) (.const (.str [32,123,10]))) 255 8,O e.b.a.c.b (.call (F 20) [t e.b.a.b.c,t e.b.a.c.a]) 7792 13,O e.b.a.c.c (.bin .num .add (t e.b.a.b.a) (t e.b.a.c.b)) 16383 14,O e.b.a.f.a (.bin .num .add (t e.b.a.c.c) (t e.b.a.c.f)) 65535 16,O e.b.a.f.b (.bin .num .add (t e.b.a.f.a) (.const (.str [125,10]))) 131071 17,O e.a.a (.move (t e.b.a.f.b)) 262143 18]) NC.skip))))))))))))))))))))).seq (reg [m e.c.a e.a.b 0,b e.c.b .add (t e.c.a) (k 1) 1,m e.a.b e.c.b 2])))
noncomputable def Lz:NFun:=⟨(reg [o e.f (.move (.const (.str []))) 0]).seq ((reg [o e.a.a (.move (.const (.str []))) 0]).seq (((reg [o e.a.b (.move (k 0)) 0]).seq (NC.block 0 yT.loop)).seq ((reg [m e.b.a.f.c e.a.a 0,m e.f e.b.a.f.c 1]).seq NC.ret))),164, [.tmp e.f]⟩
theorem AJ:ah Tryz.prog 20=some (.code Lz):=by kernel_rfl
noncomputable def rN:NFun:=by
 refine (fun _=> ?c:ah Tryz.prog 21=some (.code ?c)->NFun) ?h
 case h=>conv=>{lhs;reduce;dsimp only[db,bk,bj]}
noncomputable def cW:NC:=by
 refine (fun _=> ?c:part (some (.code rN)) 0= ?c->NC) ?h
 case h=>
  conv=>{lhs;whnf}
noncomputable def dn:NC:=by
 refine (fun _=> ?c:part (some (.code rN)) 1= ?c->NC) ?h
 case h=>
  have f0:=cW.eq_1
  dsimp only at f0
  conv=>{lhs;whnf;simp only[←f0]}
noncomputable def L4:NFun:=by
 refine (fun _=> ?c:rN= ?c->NFun) ?h
 case h=>
  have f0:=cW.eq_1
  dsimp only at f0
  have f1:=dn.eq_1
  dsimp only at f1
  conv=>{lhs;delta rN;simp only[←f0,←f1]}
theorem zH:ah Tryz.prog 21=some (.code L4):=by kernel_rfl
noncomputable def Cp:NFun:=by
 refine (fun _=> ?c:ah Tryz.prog 22=some (.code ?c)->NFun) ?h
 case h=>conv=>{lhs;reduce;dsimp only[db,bk,bj]}
theorem sx:ah Tryz.prog 22=some (.code Cp):=by kernel_rfl
noncomputable def Lu:NFun:=by
 refine (fun _=> ?c:ah Tryz.prog 23=some (.code ?c)->NFun) ?h
 case h=>conv=>{lhs;reduce;dsimp only[db,bk,bj]}
theorem zK:ah Tryz.prog 23=some (.code Lu):=by kernel_rfl
noncomputable def xO:NFun:=by
 refine (fun _=> ?c:ah Tryz.prog 24=some (.code ?c)->NFun) ?h
 case h=>conv=>{lhs;reduce;dsimp only[db,bk,bj]}
noncomputable def A7:NC:=by
 refine (fun _=> ?c:part (some (.code xO)) 0= ?c->NC) ?h
 case h=>
  conv=>{lhs;whnf}
noncomputable def Lp:NFun:=by
 refine (fun _=> ?c:xO= ?c->NFun) ?h
 case h=>
  have f0:=A7.eq_1
  dsimp only at f0
  conv=>{lhs;delta xO;simp only[←f0]}
theorem Aa:ah Tryz.prog 24=some (.code Lp):=by kernel_rfl
noncomputable def wg:NFun:=by
 refine (fun _=> ?c:ah Tryz.prog 25=some (.code ?c)->NFun) ?h
 case h=>conv=>{lhs;reduce;dsimp only[db,bk,bj]}
noncomputable def sD:NC:=by
 refine (fun _=> ?c:part (some (.code wg)) 0= ?c->NC) ?h
 case h=>
  conv=>{lhs;whnf}
noncomputable def Hk:NFun:=by
 refine (fun _=> ?c:wg= ?c->NFun) ?h
 case h=>
  have f0:=sD.eq_1
  dsimp only at f0
  conv=>{lhs;delta wg;simp only[←f0]}
theorem sA:ah Tryz.prog 25=some (.code Hk):=by kernel_rfl
noncomputable def ru:NFun:=by
 refine (fun _=> ?c:ah Tryz.prog 27=some (.code ?c)->NFun) ?h
 case h=>conv=>{lhs;reduce;dsimp only[db,bk,bj]}
noncomputable def nM:NC:=by
 refine (fun _=> ?c:part (some (.code ru)) 1= ?c->NC) ?h
 case h=>
  conv=>{lhs;whnf}
noncomputable def zj:NC:=by
 refine (fun _=> ?c:part (some (.code ru)) 0= ?c->NC) ?h
 case h=>
  have f0:=nM.eq_1
  dsimp only at f0
  conv=>{lhs;whnf;simp only[←f0]}
noncomputable def Lt:NFun:=by
 refine (fun _=> ?c:ru= ?c->NFun) ?h
 case h=>
  have f0:=nM.eq_1
  dsimp only at f0
  have f1:=zj.eq_1
  dsimp only at f1
  conv=>{lhs;delta ru;simp only[←f0,←f1]}
theorem AD:ah Tryz.prog 27=some (.code Lt):=by kernel_rfl
noncomputable def rv:NC:=(((reg [m e.c.f e.a.c 0,m e.f.a e 1,L e.f.b e.f.a 2,b e.f.c .lss (t e.c.f) (t e.f.b) 3,m e.f.f e.f.c 4,G e.a.a.a (.move (t e)) e.f.f true 5,G e.a.a.b (.move (t e.a.c)) e.f.f true 6,G e.a.a.c (.indexSlc 1 (t e.a.a.a) (t e.a.a.b)) e.f.f true 7,G e.a.a.f (.load1 (t e.a.a.c)) e.f.f true 8,G e.a.b.a (.call (F 51) [t e.a.a.f]) e.f.f true 9,o e.a.b.b (.pick (t e.f.f) (t e.a.b.a) kf) 10]).seq (NC.cond (t e.a.b.b) NC.skip (NC.exit 0))).seq (NC.block 1 (reg [m e.a.b.c e.a.c 0,b e.a.b.f .add (t e.a.b.c) (k 1) 1,m e.a.c e.a.b.f 2])))
noncomputable def tF:NC:=(((reg [m e.a.b.b.b e.c.b 0,m e.a.b.b.c e.c.a 1,o e.a.b.b.f (.lenStr (t e.a.b.b.c)) 2,b e.a.b.c.a .lss (t e.a.b.b.b) (t e.a.b.b.f) 3]).seq (NC.cond (t e.a.b.c.a) NC.skip (NC.exit 5))).seq ((NC.block 6 ((reg [m e.a.b.c.f e.c.a 0,m e.a.b.f.a e.c.b 1,o e.a.b.f.b (.indexStr (t e.a.b.c.f) (t e.a.b.f.a)) 2,m e.a.b.f.c e.a.f 3,b e.a.b.f.f .eql (t e.a.b.f.b) (t e.a.b.f.c) 4]).seq (NC.cond (t e.a.b.f.f) ((reg [f 0 e.a.c.a.a e.b.a 0,q (.store 1 (t e.a.c.a.a) (k 3)) 1]).seq ((reg [m e.a.c.a.b e.c.a 0,m e.a.c.a.c e.c.b 1,m e.a.c.a.f e.c.b 2,b e.a.c.b.a .add (t e.a.c.a.f) (k 1) 3,o e.a.c.b.b (.sliceStr (t e.a.c.a.b) (some (t e.a.c.a.c)) (some (t e.a.c.b.a))) 4,f 1 e.a.c.b.c e.b.a 5,q (.store 1 (t e.a.c.b.c) (t e.a.c.b.b)) 6]).seq ((reg [o e.a.c.b.f (.loadN 4 (t e.b.a)) 0,m e.a.c.c.a e.a 1,b e.a.c.c.b .add (t e.a.c.c.a) (k 1) 2,q (.store 4 (t e.f) (t e.a.c.b.f)) 3,m e.a.a e.a.c.c.b 4,o e.a.b (.move (k 0)) 5]).seq NC.ret))) NC.skip))).seq (reg [m e.a.b.c.b e.c.b 0,b e.a.b.c.c .add (t e.a.b.c.b) (k 1) 1,m e.c.b e.a.b.c.c 2])))
noncomputable def sy:NC:=(((reg [m e.b.a.c e.b.c 0,m e.b.a.f e.a.c 1,b e.b.b.a .lss (t e.b.a.c) (t e.b.a.f) 2]).seq (NC.cond (t e.b.b.a) NC.skip (NC.exit 3))).seq ((NC.block 4 ((reg [m e.b.b.f e 0,m e.b.c.a e.b.c 1,o e.b.c.b (.indexSlc 1 (t e.b.b.f) (t e.b.c.a)) 2,l e.b.c.c e.b.c.b 3,b e.b.c.f .sub (t e.b.c.c) (kb 48) 4,o e.b.f.a (.toInt .u64 (t e.b.c.f)) 5,m e.b.f e.b.f.a 6]).seq (((reg [m e.b.f.b e 0,m e.b.f.c e.b.c 1,o e.b.f.f (.indexSlc 1 (t e.b.f.b) (t e.b.f.c)) 2,l e.c.a.a e.b.f.f 3,o e.c.a.b (.call (F 52) [t e.c.a.a]) 4,o e.c.a.c (.un .not (t e.c.a.b)) 5,m e.c.a.f e.c.a.c 6,G e.c.b.a (.move (t e.b.b)) e.c.a.f false 7,G e.c.b.b (.move (t e.b.f)) e.c.a.f false 8,G e.c.b.c (.bin .num .sub (ku 18446744073709551615) (t e.c.b.b)) e.c.a.f false 9,G e.c.b.f (.bin .num .quo (t e.c.b.c) (ku 10)) e.c.a.f false 10,G e.c.c.a (.bin .num .gtr (t e.c.b.a) (t e.c.b.f)) e.c.a.f false 11,o e.c.c.b (.pick (t e.c.a.f) kt (t e.c.c.a)) 12]).seq (NC.cond (t e.c.c.b) ((reg [o e.c.c.c (.loadN 4 (t e.b.a)) 0,m e.c.c.f e.a 1,q (.store 4 (t e.f) (t e.c.c.c)) 2,m e.a.a e.c.c.f 3,o e.a.b (.move (k 2)) 4]).seq NC.ret) NC.skip)).seq (reg [m e.c.f.a e.b.b 0,b e.c.f.b .mul (ku 10) (t e.c.f.a) 1,m e.c.f.c e.b.f 2,b e.c.f.f .add (t e.c.f.b) (t e.c.f.c) 3,m e.b.b e.c.f.f 4])))).seq (reg [m e.b.b.b e.b.c 0,b e.b.b.c .add (t e.b.b.b) (k 1) 1,m e.b.c e.b.b.c 2])))
noncomputable def JV:NFun:=⟨(reg [o e.f (.alloc [.int .i64 (.lit 0),.str [],.int .u64 (.lit 0),.int .i64 (.lit 0)] 50) 0,o e.a.a (.move (k 0)) 1,o e.a.b (.move (k 0)) 2]).seq ((reg [m e.c.c e.a 0,m e.a.c e.c.c 1]).seq ((NC.block 0 rv.loop).seq ((reg [m e.a.c.a e 0,m e.a.c.b e.a 1,o e.a.c.c (.indexSlc 1 (t e.a.c.a) (t e.a.c.b)) 2,l e.a.c.f e.a.c.c 3,m e.a.f e.a.c.f 4]).seq ((reg [m e.a.f.a e.a 0,o e.a.f.b (.build [.int .i64 (.lit 0),.str [],.int .u64 (.lit 0),.int .i64 (.lit 0)] [(3,1,t e.a.f.a)]) 1,o e.b.a (.alloc [.int .i64 (.lit 0),.str [],.int .u64 (.lit 0),.int .i64 (.lit 0)] 50) 2,q (.store 4 (t e.b.a) (t e.a.f.b)) 3]).seq ((NC.block 2 ((reg [m e.a.f.f e.a.f 0,o e.b.a.a (.call (F 52) [t e.a.f.f]) 1,m e.a.f.c e.b.a.a 2]).seq (NC.cond (t e.a.f.c) ((reg [o e.b.b (.move (ku 0)) 0]).seq (((reg [m e.b.a.b e.a 0,m e.b.c e.b.a.b 1]).seq (NC.block 3 sy.loop)).seq (((reg [m e.f.a.a e.a.f 0,b e.f.a.b .eql (t e.f.a.a) (kb 48) 1,m e.f.a.c e.f.a.b 2,G e.f.a.f (.move (t e.a.c)) e.f.a.c true 3,G e.f.b.a (.move (t e.a)) e.f.a.c true 4,G e.f.b.b (.bin .num .add (t e.f.b.a) (k 1)) e.f.a.c true 5,G e.f.b.c (.bin .num .gtr (t e.f.a.f) (t e.f.b.b)) e.f.a.c true 6,o e.f.b.f (.pick (t e.f.a.c) (t e.f.b.c) kf) 7]).seq (NC.cond (t e.f.b.f) ((reg [o e.f.c.a (.loadN 4 (t e.b.a)) 0,m e.f.c.b e.a 1,q (.store 4 (t e.f) (t e.f.c.a)) 2,m e.a.a e.f.c.b 3,o e.a.b (.move (k 2)) 4]).seq NC.ret) NC.skip)).seq ((reg [f 0 e.f.c.c e.b.a 0,q (.store 1 (t e.f.c.c) (k 2)) 1]).seq ((reg [m e.f.c.f e.b.b 0,f 2 e.f.f.a e.b.a 1,q (.store 1 (t e.f.f.a) (t e.f.c.f)) 2]).seq ((reg [o e.f.f.b (.loadN 4 (t e.b.a)) 0,m e.f.f.c e.a.c 1,q (.store 4 (t e.f) (t e.f.f.b)) 2,m e.a.a e.f.f.c 3,o e.a.b (.move (k 0)) 4]).seq NC.ret)))))) ((reg [m e.a.a.a.a e.a.f 0,o e.a.a.a.b (.call (F 53) [t e.a.a.a.a]) 1,m e.f.f.f e.a.a.a.b 2]).seq (NC.cond (t e.f.f.f) ((reg [m e.a.a.a.c e 0,m e.a.a.a.f e.a 1,m e.a.a.b.a e.a.c 2,o e.a.a.b.b (.sliceSlc 1 (t e.a.a.a.c) (some (t e.a.a.a.f)) (some (t e.a.a.b.a))) 3,o e.a.a.b.c (.bytesToStr (t e.a.a.b.b)) 4,f 1 e.a.a.b.f e.b.a 5,q (.store 1 (t e.a.a.b.f) (t e.a.a.b.c)) 6]).seq ((reg [f 0 e.a.a.c.a e.b.a 0,q (.store 1 (t e.a.a.c.a) (k 1)) 1]).seq (((reg [f 1 e.a.a.c.b e.b.a 0,l e.a.a.c.c e.a.a.c.b 1,o e.a.a.c.f (.call (F 54) [t e.a.a.c.c]) 2]).seq (NC.cond (t e.a.a.c.f) (reg [f 0 e.a.a.f.a e.b.a 0,q (.store 1 (t e.a.a.f.a) (k 4)) 1]) ((reg [f 1 e.a.a.f.b e.b.a 0,l e.a.a.f.c e.a.a.f.b 1,o e.a.a.f.f (.lenStr (t e.a.a.f.c)) 2,b e.a.b.a.a .gtr (t e.a.a.f.f) (k 16) 3]).seq (NC.cond (t e.a.b.a.a) ((reg [o e.a.b.a.b (.loadN 4 (t e.b.a)) 0,m e.a.b.a.c e.a 1,q (.store 4 (t e.f) (t e.a.b.a.b)) 2,m e.a.a e.a.b.a.c 3,o e.a.b (.move (k 2)) 4]).seq NC.ret) NC.skip)))).seq ((reg [o e.a.b.a.f (.loadN 4 (t e.b.a)) 0,m e.a.b.b.a e.a.c 1,q (.store 4 (t e.f) (t e.a.b.a.f)) 2,m e.a.a e.a.b.b.a 3,o e.a.b (.move (k 0)) 4]).seq NC.ret)))) NC.skip))))).seq ((reg [o e.c.a (.move (.const (.str [123,125,40,41,91,93,59,43,45,42,38,61,60]))) 0]).seq (((reg [o e.c.b (.move (k 0)) 0]).seq (NC.block 5 tF.loop)).seq ((reg [o e.a.c.c.c (.loadN 4 (t e.b.a)) 0,m e.a.c.c.f e.a 1,q (.store 4 (t e.f) (t e.a.c.c.c)) 2,m e.a.a e.a.c.c.f 3,o e.a.b (.move (k 2)) 4]).seq NC.ret)))))))),129, [.cellN e.f 4,.tmp e.a.a,.tmp e.a.b]⟩
theorem y8:ah Tryz.prog 28=some (.code JV):=by kernel_rfl
noncomputable def JH:NFun:=by
 refine (fun _=> ?c:ah Tryz.prog 29=some (.code ?c)->NFun) ?h
 case h=>conv=>{lhs;reduce;dsimp only[db,bk,bj]}
theorem zq:ah Tryz.prog 29=some (.code JH):=by kernel_rfl
noncomputable def Lr:NFun:=by
 refine (fun _=> ?c:ah Tryz.prog 30=some (.code ?c)->NFun) ?h
 case h=>conv=>{lhs;reduce;dsimp only[db,bk,bj]}
theorem AA:ah Tryz.prog 30=some (.code Lr):=by kernel_rfl
noncomputable def Kf:NFun:=by
 refine (fun _=> ?c:ah Tryz.prog 31=some (.code ?c)->NFun) ?h
 case h=>conv=>{lhs;reduce;dsimp only[db,bk,bj]}
theorem AB:ah Tryz.prog 31=some (.code Kf):=by kernel_rfl
noncomputable def JD:NFun:=by
 refine (fun _=> ?c:ah Tryz.prog 32=some (.code ?c)->NFun) ?h
 case h=>conv=>{lhs;reduce;dsimp only[db,bk,bj]}
theorem Aw:ah Tryz.prog 32=some (.code JD):=by kernel_rfl
noncomputable def we:NFun:=by
 refine (fun _=> ?c:ah Tryz.prog 33=some (.code ?c)->NFun) ?h
 case h=>conv=>{lhs;reduce;dsimp only[db,bk,bj]}
noncomputable def sU:NC:=by
 refine (fun _=> ?c:part (some (.code we)) 0= ?c->NC) ?h
 case h=>
  conv=>{lhs;whnf}
noncomputable def KH:NFun:=by
 refine (fun _=> ?c:we= ?c->NFun) ?h
 case h=>
  have f0:=sU.eq_1
  dsimp only at f0
  conv=>{lhs;delta we;simp only[←f0]}
theorem Be:ah Tryz.prog 33=some (.code KH):=by kernel_rfl
noncomputable def Ks:NFun:=⟨(reg [o e.c (.box (t e.a) 94) 0]).seq ((reg [f 0 e.f e.c 0,l e.a.a e.f 1]).seq (NC.block 0 ((reg [b e.a.c .eql (t e.a.a) (k 0) 0,m e.a.b e.a.c 1]).seq (NC.cond (t e.a.b) (regD [m e.a.f e 0,f 2 e.b.a e.c 1,O e.b.b (.load1 (t e.b.a)) 2 2,f 9 e.b.c e.c 3,O e.b.f (.loadN 5 (t e.b.c)) 8 4,O e.c.a (.call (F 11) [t e.b.f]) 24 5,O e.c.b (.buildSlice [.str [],.str [],.str [],.str [],.str []] 1 5 9 [(0,1,.const (.str [115,101,116,32])),(1,1,t e.b.b),(2,1,.const (.str [32])),(3,1,t e.c.a),(4,1,.const (.str [59]))]) 62 6,O e.c.c (.call (F 16) [t e.a.f,t e.c.b]) 127 7]) ((reg [b e.f.a .eql (t e.a.a) (k 1) 0,m e.c.f e.f.a 1]).seq (NC.cond (t e.c.f) (regD [m e.f.b e 0,f 2 e.f.c e.c 1,O e.f.f (.load1 (t e.f.c)) 2 2,o e.a.a.a (.loadN 21 (t e.c)) 3,O e.a.a.b (.call (F 62) [t e.a.a.a]) 8 4,O e.a.a.c (.buildSlice [.str [],.str [],.str [],.str [],.str []] 1 5 9 [(0,1,.const (.str [108,111,97,100,32])),(1,1,t e.f.f),(2,1,.const (.str [32])),(3,1,t e.a.a.b),(4,1,.const (.str [59]))]) 30 5,O e.a.a.f (.call (F 16) [t e.f.b,t e.a.a.c]) 63 6]) ((reg [b e.a.b.b .eql (t e.a.a) (k 2) 0,m e.a.b.a e.a.b.b 1]).seq (NC.cond (t e.a.b.a) (regD [m e.a.b.c e 0,o e.a.b.f (.loadN 21 (t e.c)) 1,f 9 e.a.c.b e.c 3,O e.a.c.c (.loadN 5 (t e.a.c.b)) 8 4,O e.a.c.a (.call (F 62) [t e.a.b.f]) 2 2,O e.a.c.f (.call (F 11) [t e.a.c.c]) 30 5,O e.a.f.a (.buildSlice [.str [],.str [],.str [],.str [],.str []] 1 5 9 [(0,1,.const (.str [115,116,111,114,101,32])),(1,1,t e.a.c.a),(2,1,.const (.str [32])),(3,1,t e.a.c.f),(4,1,.const (.str [59]))]) 62 6,O e.a.f.b (.call (F 16) [t e.a.b.c,t e.a.f.a]) 127 7]) ((reg [b e.a.f.f .eql (t e.a.a) (k 3) 0,m e.a.f.c e.a.f.f 1]).seq (NC.cond (t e.a.f.c) (regD [m e.b.a.a e 0,f 2 e.b.a.b e.c 1,O e.b.a.c (.load1 (t e.b.a.b)) 2 2,o e.b.a.f (.loadN 21 (t e.c)) 3,f 9 e.b.b.b e.c 5,O e.b.b.c (.loadN 5 (t e.b.b.b)) 32 6,f 14 e.b.c.a e.c 8,O e.b.c.b (.loadN 5 (t e.b.c.a)) 256 9,O e.b.b.a (.call (F 62) [t e.b.a.f]) 8 4,O e.b.b.f (.call (F 11) [t e.b.b.c]) 120 7,O e.b.c.c (.call (F 11) [t e.b.c.b]) 1016 10,O e.b.c.f (.buildSlice [.str [],.str [],.str [],.str [],.str [],.str [],.str [],.str [],.str []] 1 9 9 [(0,1,.const (.str [99,97,115,32])),(1,1,t e.b.a.c),(2,1,.const (.str [32])),(3,1,t e.b.b.a),(4,1,.const (.str [32])),(5,1,t e.b.b.f),(6,1,.const (.str [32])),(7,1,t e.b.c.c),(8,1,.const (.str [59]))]) 2046 11,O e.b.f.a (.call (F 16) [t e.b.a.a,t e.b.c.f]) 4095 12]) ((reg [b e.b.f.c .eql (t e.a.a) (k 4) 0,m e.b.f.b e.b.f.c 1]).seq (NC.cond (t e.b.f.b) (reg [m e.b.f.f e 0,o e.c.a.a (.buildSlice [.str []] 1 1 9 [(0,1,.const (.str [102,101,110,99,101,59]))]) 1,o e.c.a.b (.call (F 16) [t e.b.f.f,t e.c.a.a]) 2]) ((reg [b e.c.a.f .eql (t e.a.a) (k 5) 0,m e.c.a.c e.c.a.f 1]).seq (NC.cond (t e.c.a.c) (reg [m e.c.b.a e 0,f 9 e.c.b.b e.c 1,o e.c.b.c (.loadN 5 (t e.c.b.b)) 2,o e.c.b.f (.call (F 11) [t e.c.b.c]) 3,o e.c.c.a (.buildSlice [.str [],.str [],.str []] 1 3 9 [(0,1,.const (.str [111,117,116,32])),(1,1,t e.c.b.f),(2,1,.const (.str [59]))]) 4,o e.c.c.b (.call (F 16) [t e.c.b.a,t e.c.c.a]) 5]) ((reg [b e.c.c.f .eql (t e.a.a) (k 6) 0,m e.c.c.c e.c.c.f 1]).seq (NC.cond (t e.c.c.c) ((reg [m e.c.f.a e 0,f 9 e.c.f.b e.c 1,o e.c.f.c (.loadN 5 (t e.c.f.b)) 2,o e.c.f.f (.call (F 11) [t e.c.f.c]) 3,o e.f.a.a (.buildSlice [.str [],.str [],.str []] 1 3 9 [(0,1,.const (.str [105,102,32])),(1,1,t e.c.f.f),(2,1,.const (.str [32,123]))]) 4,o e.f.a.b (.call (F 16) [t e.c.f.a,t e.f.a.a]) 5]).seq ((reg [m e.f.a.c e 0,f 19 e.f.a.f e.c 1,l e.f.b.a e.f.a.f 2,o e.f.b.b (.call (F 17) [t e.f.a.c,t e.f.b.a]) 3]).seq (((reg [f 20 e.f.b.c e.c 0,l e.f.b.f e.f.b.c 1,L e.f.c.a e.f.b.f 2,b e.f.c.b .gtr (t e.f.c.a) (k 0) 3]).seq (NC.cond (t e.f.c.b) ((reg [m e.f.c.c e 0,o e.f.c.f (.buildSlice [.str []] 1 1 9 [(0,1,.const (.str [125,32,101,108,115,101,32,123]))]) 1,o e.f.f.a (.call (F 16) [t e.f.c.c,t e.f.c.f]) 2]).seq (reg [m e.f.f.b e 0,f 20 e.f.f.c e.c 1,l e.f.f.f e.f.f.c 2,o e.a.a.a.a (.call (F 17) [t e.f.f.b,t e.f.f.f]) 3])) NC.skip)).seq (reg [m e.a.a.a.b e 0,o e.a.a.a.c (.buildSlice [.str []] 1 1 9 [(0,1,.const (.str [125]))]) 1,o e.a.a.a.f (.call (F 16) [t e.a.a.a.b,t e.a.a.a.c]) 2])))) ((reg [b e.a.a.b.b .eql (t e.a.a) (k 7) 0,m e.a.a.b.a e.a.a.b.b 1]).seq (NC.cond (t e.a.a.b.a) ((reg [m e.a.a.b.c e 0,f 9 e.a.a.b.f e.c 1,o e.a.a.c.a (.loadN 5 (t e.a.a.b.f)) 2,o e.a.a.c.b (.call (F 11) [t e.a.a.c.a]) 3,o e.a.a.c.c (.buildSlice [.str [],.str [],.str []] 1 3 9 [(0,1,.const (.str [119,104,105,108,101,32])),(1,1,t e.a.a.c.b),(2,1,.const (.str [32,123]))]) 4,o e.a.a.c.f (.call (F 16) [t e.a.a.b.c,t e.a.a.c.c]) 5]).seq ((reg [m e.a.a.f.a e 0,f 19 e.a.a.f.b e.c 1,l e.a.a.f.c e.a.a.f.b 2,o e.a.a.f.f (.call (F 17) [t e.a.a.f.a,t e.a.a.f.c]) 3]).seq (reg [m e.a.b.a.a e 0,o e.a.b.a.b (.buildSlice [.str []] 1 1 9 [(0,1,.const (.str [125]))]) 1,o e.a.b.a.c (.call (F 16) [t e.a.b.a.a,t e.a.b.a.b]) 2]))) NC.skip)))))))))))))))))),104, []⟩
theorem zo:ah Tryz.prog 37=some (.code Ks):=by kernel_rfl
noncomputable def xN:NFun:=by
 refine (fun _=> ?c:ah Tryz.prog 38=some (.code ?c)->NFun) ?h
 case h=>conv=>{lhs;reduce;dsimp only[db,bk,bj]}
noncomputable def A6:NC:=by
 refine (fun _=> ?c:part (some (.code xN)) 0= ?c->NC) ?h
 case h=>
  conv=>{lhs;whnf}
noncomputable def JS:NFun:=by
 refine (fun _=> ?c:xN= ?c->NFun) ?h
 case h=>
  have f0:=A6.eq_1
  dsimp only at f0
  conv=>{lhs;delta xN;simp only[←f0]}
theorem zO:ah Tryz.prog 38=some (.code JS):=by kernel_rfl
noncomputable def Fp:NFun:=by
 refine (fun _=> ?c:ah Tryz.prog 39=some (.code ?c)->NFun) ?h
 case h=>conv=>{lhs;reduce;dsimp only[db,bk,bj]}
theorem nQ:ah Tryz.prog 39=some (.code Fp):=by kernel_rfl
noncomputable def Ma:NFun:=by
 refine (fun _=> ?c:ah Tryz.prog 40=some (.code ?c)->NFun) ?h
 case h=>conv=>{lhs;reduce;dsimp only[db,bk,bj]}
theorem Ak:ah Tryz.prog 40=some (.code Ma):=by kernel_rfl
noncomputable def IW:NFun:=by
 refine (fun _=> ?c:ah Tryz.prog 41=some (.code ?c)->NFun) ?h
 case h=>conv=>{lhs;reduce;dsimp only[db,bk,bj]}
theorem AC:ah Tryz.prog 41=some (.code IW):=by kernel_rfl
noncomputable def J7:NFun:=by
 refine (fun _=> ?c:ah Tryz.prog 42=some (.code ?c)->NFun) ?h
 case h=>conv=>{lhs;reduce;dsimp only[db,bk,bj]}
theorem zL:ah Tryz.prog 42=some (.code J7):=by kernel_rfl
noncomputable def Kt:NFun:=by
 refine (fun _=> ?c:ah Tryz.prog 43=some (.code ?c)->NFun) ?h
 case h=>conv=>{lhs;reduce;dsimp only[db,bk,bj]}
theorem zn:ah Tryz.prog 43=some (.code Kt):=by kernel_rfl
noncomputable def Ke:NFun:=by
 refine (fun _=> ?c:ah Tryz.prog 44=some (.code ?c)->NFun) ?h
 case h=>conv=>{lhs;reduce;dsimp only[db,bk,bj]}
theorem zp:ah Tryz.prog 44=some (.code Ke):=by kernel_rfl
noncomputable def KK:NFun:=by
 refine (fun _=> ?c:ah Tryz.prog 45=some (.code ?c)->NFun) ?h
 case h=>conv=>{lhs;reduce;dsimp only[db,bk,bj]}
theorem zA:ah Tryz.prog 45=some (.code KK):=by kernel_rfl
noncomputable def yA:NFun:=by
 refine (fun _=> ?c:ah Tryz.prog 46=some (.code ?c)->NFun) ?h
 case h=>conv=>{lhs;reduce;dsimp only[db,bk,bj]}
noncomputable def rW:NC:=by
 refine (fun _=> ?c:part (some (.code yA)) 0= ?c->NC) ?h
 case h=>
  conv=>{lhs;whnf}
noncomputable def Lh:NFun:=by
 refine (fun _=> ?c:yA= ?c->NFun) ?h
 case h=>
  have f0:=rW.eq_1
  dsimp only at f0
  conv=>{lhs;delta yA;simp only[←f0]}
theorem zk:ah Tryz.prog 46=some (.code Lh):=by kernel_rfl
noncomputable def Ly:NFun:=by
 refine (fun _=> ?c:ah Tryz.prog 47=some (.code ?c)->NFun) ?h
 case h=>conv=>{lhs;reduce;dsimp only[db,bk,bj]}
theorem zB:ah Tryz.prog 47=some (.code Ly):=by kernel_rfl
noncomputable def Jb:NFun:=by
 refine (fun _=> ?c:ah Tryz.prog 48=some (.code ?c)->NFun) ?h
 case h=>conv=>{lhs;reduce;dsimp only[db,bk,bj]}
theorem Bb:ah Tryz.prog 48=some (.code Jb):=by kernel_rfl
noncomputable def yi:NFun:=by
 refine (fun _=> ?c:ah Tryz.prog 49=some (.code ?c)->NFun) ?h
 case h=>conv=>{lhs;reduce;dsimp only[db,bk,bj]}
noncomputable def Ad:NC:=by
 refine (fun _=> ?c:part (some (.code yi)) 0= ?c->NC) ?h
 case h=>
  conv=>{lhs;whnf}
noncomputable def Kx:NFun:=by
 refine (fun _=> ?c:yi= ?c->NFun) ?h
 case h=>
  have f0:=Ad.eq_1
  dsimp only at f0
  conv=>{lhs;delta yi;simp only[←f0]}
theorem AG:ah Tryz.prog 49=some (.code Kx):=by kernel_rfl
noncomputable def Jw:NFun:=by
 refine (fun _=> ?c:ah Tryz.prog 51=some (.code ?c)->NFun) ?h
 case h=>conv=>{lhs;reduce;dsimp only[db,bk,bj]}
theorem Ai:ah Tryz.prog 51=some (.code Jw):=by kernel_rfl
noncomputable def KI:NFun:=by
 refine (fun _=> ?c:ah Tryz.prog 52=some (.code ?c)->NFun) ?h
 case h=>conv=>{lhs;reduce;dsimp only[db,bk,bj]}
theorem zT:ah Tryz.prog 52=some (.code KI):=by kernel_rfl
noncomputable def LC:NFun:=by
 refine (fun _=> ?c:ah Tryz.prog 53=some (.code ?c)->NFun) ?h
 case h=>conv=>{lhs;reduce;dsimp only[db,bk,bj]}
theorem y6:ah Tryz.prog 53=some (.code LC):=by kernel_rfl
end FR
set_option maxRecDepth 100000
set_option maxHeartbeats 4000000
namespace FR
open Go Nm Go.Proofs
open Nm.D4 (e)
open Nm.NC (reg regD)
open Nm.C
noncomputable def yo:NFun:=by
 refine (fun _=> ?c:ah Tryz.prog 54=some (.code ?c)->NFun) ?h
 case h=>conv=>{lhs;reduce;dsimp only[db,bk,bj]}
noncomputable def A3:NC:=by
 refine (fun _=> ?c:part (some (.code yo)) 0= ?c->NC) ?h
 case h=>
  conv=>{lhs;whnf}
noncomputable def J8:NFun:=by
 refine (fun _=> ?c:yo= ?c->NFun) ?h
 case h=>
  have f0:=A3.eq_1
  dsimp only at f0
  conv=>{lhs;delta yo;simp only[←f0]}
theorem AV:ah Tryz.prog 54=some (.code J8):=by kernel_rfl
noncomputable def JE:NFun:=by
 refine (fun _=> ?c:ah Tryz.prog 55=some (.code ?c)->NFun) ?h
 case h=>conv=>{lhs;reduce;dsimp only[db,bk,bj]}
theorem AL:ah Tryz.prog 55=some (.code JE):=by kernel_rfl
noncomputable def Jd:NFun:=by
 refine (fun _=> ?c:ah Tryz.prog 62=some (.code ?c)->NFun) ?h
 case h=>conv=>{lhs;reduce;dsimp only[db,bk,bj]}
theorem AI:ah Tryz.prog 62=some (.code Jd):=by kernel_rfl
noncomputable def wS:NFun:=by
 refine (fun _=> ?c:ah Tryz.prog 63=some (.code ?c)->NFun) ?h
 case h=>conv=>{lhs;reduce;dsimp only[db,bk,bj]}
noncomputable def yY:NC:=by
 refine (fun _=> ?c:part (some (.code wS)) 0= ?c->NC) ?h
 case h=>
  conv=>{lhs;whnf}
noncomputable def JM:NFun:=by
 refine (fun _=> ?c:wS= ?c->NFun) ?h
 case h=>
  have f0:=yY.eq_1
  dsimp only at f0
  conv=>{lhs;delta wS;simp only[←f0]}
theorem Ah:ah Tryz.prog 63=some (.code JM):=by kernel_rfl
noncomputable def xB:NFun:=by
 refine (fun _=> ?c:ah Tryz.prog 64=some (.code ?c)->NFun) ?h
 case h=>conv=>{lhs;reduce;dsimp only[db,bk,bj]}
noncomputable def AH:NC:=by
 refine (fun _=> ?c:part (some (.code xB)) 0= ?c->NC) ?h
 case h=>
  conv=>{lhs;whnf}
noncomputable def KO:NFun:=by
 refine (fun _=> ?c:xB= ?c->NFun) ?h
 case h=>
  have f0:=AH.eq_1
  dsimp only at f0
  conv=>{lhs;delta xB;simp only[←f0]}
theorem Ba:ah Tryz.prog 64=some (.code KO):=by kernel_rfl
noncomputable def KL:NFun:=⟨(reg [o e.f (.alloc [.int .i64 (.lit 0),.str [],.int .u64 (.lit 0),.int .i64 (.lit 0)] 50) 0,o e.a.a (.move (k 0)) 1,o e.a.b (.move kf) 2]).seq ((reg [m e.c.a e.a 0,o e.c.b (.build [.int .i64 (.lit 0),.str [],.int .u64 (.lit 0),.int .i64 (.lit 0)] [(3,1,t e.c.a)]) 1,o e.a.c (.alloc [.int .i64 (.lit 0),.str [],.int .u64 (.lit 0),.int .i64 (.lit 0)] 50) 2,q (.store 4 (t e.a.c) (t e.c.b)) 3]).seq (((reg [m e.c.c e 0,m e.c.f e.a 1,o e.f.a (.indexStr (t e.c.c) (t e.c.f)) 2,m e.a.f e.f.a 3]).seq (NC.block 0 ((reg [m e.f.c e.a.f 0,o e.f.f (.call (F 83) [t e.f.c]) 1,m e.f.b e.f.f 2]).seq (NC.cond (t e.f.b) ((reg [m e.a.a.a e 0,m e.a.a.b e.a 1,o e.a.a.c (.call (F 80) [t e.a.a.a,t e.a.a.b,.const (.fn 84 [])]) 2,m e.b.a e.a.a.c 3]).seq ((regD [m e.a.a.f e 0,m e.a.b.a e.a 1,m e.a.b.b e.b.a 2,O e.a.b.c (.sliceStr (t e.a.a.f) (some (t e.a.b.a)) (some (t e.a.b.b))) 7 3,f 0 e.a.b.f e.a.c 4,⟨none,.store 1 (t e.a.b.f) (k 1),none,16,5⟩,O e.a.c.a (.fieldAddr 1 (t e.a.c)) 63 6,⟨none,.store 1 (t e.a.c.a) (t e.a.b.c),none,127,7⟩]).seq (((regD [f 1 e.a.c.c e.a.c 1,O e.a.c.f (.load1 (t e.a.c.c)) 2 2,o e.a.c.b (.call (F 86) []) 0,O e.a.f.a (.call (F 85) [t e.a.c.b,t e.a.c.f]) 7 3]).seq (NC.cond (t e.a.f.a) (reg [f 0 e.a.f.b e.a.c 0,q (.store 1 (t e.a.f.b) (k 4)) 1]) NC.skip)).seq ((regD [o e.a.f.c (.loadN 4 (t e.a.c)) 0,m e.a.f.f e.b.a 1,m e.b.a.a e.a 2,O e.b.a.b (.bin .num .sub (t e.a.f.f) (t e.b.a.a)) 6 3,f 0 e.b.a.c e.a.c 4,O e.b.a.f (.load1 (t e.b.a.c)) 16 5,O e.b.b.a (.bin .num .eql (t e.b.a.f) (k 4)) 48 6,O e.b.b.b (.move (t e.b.b.a)) 112 7,⟨some e.b.b.c,.fieldAddr 1 (t e.a.c),some (e.b.b.b,false),240,8⟩,⟨some e.b.b.f,.load1 (t e.b.b.c),some (e.b.b.b,false),496,9⟩,⟨some e.b.c.a,.call (F 87) [t e.b.b.f],some (e.b.b.b,false),1008,10⟩,O e.b.c.b (.pick (t e.b.b.b) kt (t e.b.c.a)) 2032 11,⟨none,.store 4 (t e.f) (t e.a.f.c),none,2033,12⟩,O e.a.a (.move (t e.b.a.b)) 6143 13,O e.a.b (.move (t e.b.c.b)) 16383 14]).seq NC.ret)))) ((reg [m e.b.c.f e.a.f 0,o e.b.f.a (.call (F 88) [t e.b.c.f]) 1,m e.b.c.c e.b.f.a 2]).seq (NC.cond (t e.b.c.c) ((reg [m e.b.f.b e 0,m e.b.f.c e.a 1,o e.b.f.f (.call (F 80) [t e.b.f.b,t e.b.f.c,.const (.fn 88 [])]) 2,m e.b.b e.b.f.f 3]).seq ((reg [m e.c.a.b e 0,m e.c.a.c e.a 1,m e.c.a.f e.b.b 2,o e.c.b.a (.sliceStr (t e.c.a.b) (some (t e.c.a.c)) (some (t e.c.a.f))) 3,o e.c.b.b (.call (F 89) [t e.c.b.a]) 4,m e.c.a.a e.c.b.b 5,x e.c.b.c e.c.a.a 0 6,x e.c.b.f e.c.a.a 1 7,m e.b.c e.c.b.c 8,m e.b.f e.c.b.f 9]).seq ((reg [m e.c.c.a e.b.c 0,f 0 e.c.c.b e.a.c 1,q (.store 1 (t e.c.c.b) (k 2)) 2,f 2 e.c.c.c e.a.c 3,q (.store 1 (t e.c.c.c) (t e.c.c.a)) 4]).seq ((regD [o e.c.c.f (.loadN 4 (t e.a.c)) 0,m e.c.f.a e.b.b 1,m e.c.f.b e.a 2,O e.c.f.c (.bin .num .sub (t e.c.f.a) (t e.c.f.b)) 6 3,m e.c.f.f e.b.f 4,O e.f.a.a (.move (t e.c.f.f)) 16 5,⟨some e.f.a.b,.move (t e.b.b),some (e.f.a.a,true),48,6⟩,⟨some e.f.a.c,.move (t e),some (e.f.a.a,true),48,7⟩,⟨some e.f.a.f,.lenStr (t e.f.a.c),some (e.f.a.a,true),176,8⟩,⟨some e.f.b.a,.bin .num .eql (t e.f.a.b) (t e.f.a.f),some (e.f.a.a,true),496,9⟩,⟨some e.f.b.b,.move (t e.f.b.a),some (e.f.a.a,true),1008,10⟩,⟨some e.f.b.c,.move (t e),some (e.f.b.b,false),2032,11⟩,⟨some e.f.b.f,.move (t e.b.b),some (e.f.b.b,false),2032,12⟩,⟨some e.f.c.a,.indexStr (t e.f.b.c) (t e.f.b.f),some (e.f.b.b,false),8176,13⟩,⟨some e.f.c.b,.call (F 84) [t e.f.c.a],some (e.f.b.b,false),16368,14⟩,⟨some e.f.c.c,.un .not (t e.f.c.b),some (e.f.b.b,false),32752,15⟩,⟨some e.f.c.f,.pick (t e.f.b.b) kt (t e.f.c.c),some (e.f.a.a,true),65520,16⟩,O e.f.f.a (.pick (t e.f.a.a) (t e.f.c.f) kf) 131056 17,⟨none,.store 4 (t e.f) (t e.c.c.f),none,32753,18⟩,O e.a.a (.move (t e.c.f.c)) 294911 19,O e.a.b (.move (t e.f.f.a)) 1048575 20]).seq NC.ret)))) NC.skip)))))).seq ((regD [m e.f.f.b e 0,m e.f.f.c e.a 1,m e.f.f.f e.a 2,O e.a.a.a.a (.bin .num .add (t e.f.f.f) (k 1)) 4 3,O e.a.a.a.b (.sliceStr (t e.f.f.b) (some (t e.f.f.c)) (some (t e.a.a.a.a))) 15 4,f 0 e.a.a.a.c e.a.c 5,⟨none,.store 1 (t e.a.a.a.c) (k 3),none,32,6⟩,O e.a.a.a.f (.fieldAddr 1 (t e.a.c)) 127 7,⟨none,.store 1 (t e.a.a.a.f) (t e.a.a.a.b),none,255,8⟩]).seq ((regD [o e.a.a.b.a (.loadN 4 (t e.a.c)) 0,f 1 e.a.a.b.b e.a.c 1,O e.a.a.b.c (.load1 (t e.a.a.b.b)) 2 2,O e.a.a.b.f (.call (F 90) [.const (.str [123,125,40,41,91,93,59,43,45,42,38,61,60]),t e.a.a.b.c]) 6 3,⟨none,.store 4 (t e.f) (t e.a.a.b.a),none,15,4⟩,O e.a.a (.move (k 1)) 31 5,O e.a.b (.move (t e.a.a.b.f)) 63 6]).seq NC.ret)))),93, [.cellN e.f 4,.tmp e.a.a,.tmp e.a.b]⟩
theorem zR:ah Tryz.prog 65=some (.code KL):=by kernel_rfl
noncomputable def I4:NFun:=by
 refine (fun _=> ?c:ah Tryz.prog 66=some (.code ?c)->NFun) ?h
 case h=>conv=>{lhs;reduce;dsimp only[db,bk,bj]}
theorem yR:ah Tryz.prog 66=some (.code I4):=by kernel_rfl
noncomputable def Kd:NFun:=by
 refine (fun _=> ?c:ah Tryz.prog 67=some (.code ?c)->NFun) ?h
 case h=>conv=>{lhs;reduce;dsimp only[db,bk,bj]}
theorem Aj:ah Tryz.prog 67=some (.code Kd):=by kernel_rfl
noncomputable def yC:NFun:=by
 refine (fun _=> ?c:ah Tryz.prog 72=some (.code ?c)->NFun) ?h
 case h=>conv=>{lhs;reduce;dsimp only[db,bk,bj]}
noncomputable def rL:NC:=by
 refine (fun _=> ?c:part (some (.code yC)) 0= ?c->NC) ?h
 case h=>
  conv=>{lhs;whnf}
noncomputable def KY:NFun:=by
 refine (fun _=> ?c:yC= ?c->NFun) ?h
 case h=>
  have f0:=rL.eq_1
  dsimp only at f0
  conv=>{lhs;delta yC;simp only[←f0]}
theorem zb:ah Tryz.prog 72=some (.code KY):=by kernel_rfl
noncomputable def Lj:NFun:=by
 refine (fun _=> ?c:ah Tryz.prog 73=some (.code ?c)->NFun) ?h
 case h=>conv=>{lhs;reduce;dsimp only[db,bk,bj]}
theorem Ar:ah Tryz.prog 73=some (.code Lj):=by kernel_rfl
noncomputable def LX:NFun:=by
 refine (fun _=> ?c:ah Tryz.prog 77=some (.code ?c)->NFun) ?h
 case h=>conv=>{lhs;reduce;dsimp only[db,bk,bj]}
theorem Bd:ah Tryz.prog 77=some (.code LX):=by kernel_rfl
noncomputable def xn:NFun:=by
 refine (fun _=> ?c:ah Tryz.prog 80=some (.code ?c)->NFun) ?h
 case h=>conv=>{lhs;reduce;dsimp only[db,bk,bj]}
noncomputable def zP:NC:=by
 refine (fun _=> ?c:part (some (.code xn)) 0= ?c->NC) ?h
 case h=>
  conv=>{lhs;whnf}
noncomputable def Ji:NFun:=by
 refine (fun _=> ?c:xn= ?c->NFun) ?h
 case h=>
  have f0:=zP.eq_1
  dsimp only at f0
  conv=>{lhs;delta xn;simp only[←f0]}
theorem A8:ah Tryz.prog 80=some (.code Ji):=by kernel_rfl
noncomputable def Ka:NFun:=by
 refine (fun _=> ?c:ah Tryz.prog 81=some (.code ?c)->NFun) ?h
 case h=>conv=>{lhs;reduce;dsimp only[db,bk,bj]}
theorem zM:ah Tryz.prog 81=some (.code Ka):=by kernel_rfl
noncomputable def KT:NFun:=by
 refine (fun _=> ?c:ah Tryz.prog 82=some (.code ?c)->NFun) ?h
 case h=>conv=>{lhs;reduce;dsimp only[db,bk,bj]}
theorem zD:ah Tryz.prog 82=some (.code KT):=by kernel_rfl
noncomputable def Lf:NFun:=by
 refine (fun _=> ?c:ah Tryz.prog 83=some (.code ?c)->NFun) ?h
 case h=>conv=>{lhs;reduce;dsimp only[db,bk,bj]}
theorem yS:ah Tryz.prog 83=some (.code Lf):=by kernel_rfl
noncomputable def J6:NFun:=by
 refine (fun _=> ?c:ah Tryz.prog 84=some (.code ?c)->NFun) ?h
 case h=>conv=>{lhs;reduce;dsimp only[db,bk,bj]}
theorem zJ:ah Tryz.prog 84=some (.code J6):=by kernel_rfl
noncomputable def KQ:NFun:=by
 refine (fun _=> ?c:ah Tryz.prog 85=some (.code ?c)->NFun) ?h
 case h=>conv=>{lhs;reduce;dsimp only[db,bk,bj]}
theorem zw:ah Tryz.prog 85=some (.code KQ):=by kernel_rfl
noncomputable def Kb:NFun:=by
 refine (fun _=> ?c:ah Tryz.prog 86=some (.code ?c)->NFun) ?h
 case h=>conv=>{lhs;reduce;dsimp only[db,bk,bj]}
theorem zi:ah Tryz.prog 86=some (.code Kb):=by kernel_rfl
noncomputable def Kn:NFun:=by
 refine (fun _=> ?c:ah Tryz.prog 87=some (.code ?c)->NFun) ?h
 case h=>conv=>{lhs;reduce;dsimp only[db,bk,bj]}
theorem Af:ah Tryz.prog 87=some (.code Kn):=by kernel_rfl
noncomputable def Mg:NFun:=by
 refine (fun _=> ?c:ah Tryz.prog 88=some (.code ?c)->NFun) ?h
 case h=>conv=>{lhs;reduce;dsimp only[db,bk,bj]}
theorem za:ah Tryz.prog 88=some (.code Mg):=by kernel_rfl
noncomputable def wM:NFun:=by
 refine (fun _=> ?c:ah Tryz.prog 89=some (.code ?c)->NFun) ?h
 case h=>conv=>{lhs;reduce;dsimp only[db,bk,bj]}
noncomputable def rJ:NC:=by
 refine (fun _=> ?c:part (some (.code wM)) 0= ?c->NC) ?h
 case h=>
  conv=>{lhs;whnf}
noncomputable def L9:NFun:=by
 refine (fun _=> ?c:wM= ?c->NFun) ?h
 case h=>
  have f0:=rJ.eq_1
  dsimp only at f0
  conv=>{lhs;delta wM;simp only[←f0]}
theorem y7:ah Tryz.prog 89=some (.code L9):=by kernel_rfl
noncomputable def K0:NFun:=by
 refine (fun _=> ?c:ah Tryz.prog 90=some (.code ?c)->NFun) ?h
 case h=>conv=>{lhs;reduce;dsimp only[db,bk,bj]}
theorem Am:ah Tryz.prog 90=some (.code K0):=by kernel_rfl
noncomputable def J0:NFun:=by
 refine (fun _=> ?c:ah Tryz.prog 91=some (.code ?c)->NFun) ?h
 case h=>conv=>{lhs;reduce;dsimp only[db,bk,bj]}
theorem AP:ah Tryz.prog 91=some (.code J0):=by kernel_rfl
noncomputable def JN:NFun:=by
 refine (fun _=> ?c:ah Tryz.prog 92=some (.code ?c)->NFun) ?h
 case h=>conv=>{lhs;reduce;dsimp only[db,bk,bj]}
theorem As:ah Tryz.prog 92=some (.code JN):=by kernel_rfl
noncomputable def I9:NFun:=by
 refine (fun _=> ?c:ah Tryz.prog 98=some (.code ?c)->NFun) ?h
 case h=>conv=>{lhs;reduce;dsimp only[db,bk,bj]}
theorem yX:ah Tryz.prog 98=some (.code I9):=by kernel_rfl
noncomputable def xI:NFun:=by
 refine (fun _=> ?c:ah Tryz.prog 99=some (.code ?c)->NFun) ?h
 case h=>conv=>{lhs;reduce;dsimp only[db,bk,bj]}
noncomputable def zW:NC:=by
 refine (fun _=> ?c:part (some (.code xI)) 0= ?c->NC) ?h
 case h=>
  conv=>{lhs;whnf}
noncomputable def LR:NFun:=by
 refine (fun _=> ?c:xI= ?c->NFun) ?h
 case h=>
  have f0:=zW.eq_1
  dsimp only at f0
  conv=>{lhs;delta xI;simp only[←f0]}
theorem AE:ah Tryz.prog 99=some (.code LR):=by kernel_rfl
noncomputable def tg:NFun:=by
 refine (fun _=> ?c:ah Tryz.prog 101=some (.code ?c)->NFun) ?h
 case h=>conv=>{lhs;reduce;dsimp only[db,bk,bj]}
noncomputable def tZ:NC:=by
 refine (fun _=> ?c:part (some (.code tg)) 0= ?c->NC) ?h
 case h=>
  conv=>{lhs;whnf}
noncomputable def EP:NFun:=by
 refine (fun _=> ?c:tg= ?c->NFun) ?h
 case h=>
  have f0:=tZ.eq_1
  dsimp only at f0
  conv=>{lhs;delta tg;simp only[←f0]}
theorem uC:ah Tryz.prog 101=some (.code EP):=by kernel_rfl
noncomputable def DH:NFun:=by
 refine (fun _=> ?c:ah Tryz.prog 103=some (.code ?c)->NFun) ?h
 case h=>conv=>{lhs;reduce;dsimp only[db,bk,bj]}
theorem tV:ah Tryz.prog 103=some (.code DH):=by kernel_rfl
noncomputable def s9:NFun:=by
 refine (fun _=> ?c:ah Tryz.prog 104=some (.code ?c)->NFun) ?h
 case h=>conv=>{lhs;reduce;dsimp only[db,bk,bj]}
noncomputable def u0:NC:=by
 refine (fun _=> ?c:part (some (.code s9)) 0= ?c->NC) ?h
 case h=>
  conv=>{lhs;whnf}
noncomputable def FW:NFun:=by
 refine (fun _=> ?c:s9= ?c->NFun) ?h
 case h=>
  have f0:=u0.eq_1
  dsimp only at f0
  conv=>{lhs;delta s9;simp only[←f0]}
theorem vI:ah Tryz.prog 104=some (.code FW):=by kernel_rfl
noncomputable def CN:NFun:=by
 refine (fun _=> ?c:ah Tryz.prog 105=some (.code ?c)->NFun) ?h
 case h=>conv=>{lhs;reduce;dsimp only[db,bk,bj]}
theorem vo:ah Tryz.prog 105=some (.code CN):=by kernel_rfl
noncomputable def sc:NFun:=by
 refine (fun _=> ?c:ah Tryz.prog 108=some (.code ?c)->NFun) ?h
 case h=>conv=>{lhs;reduce;dsimp only[db,bk,bj]}
noncomputable def DP:NC:=by
 refine (fun _=> ?c:part (some (.code sc)) 0= ?c->NC) ?h
 case h=>
  conv=>{lhs;whnf}
noncomputable def FB:NFun:=by
 refine (fun _=> ?c:sc= ?c->NFun) ?h
 case h=>
  have f0:=DP.eq_1
  dsimp only at f0
  conv=>{lhs;delta sc;simp only[←f0]}
theorem tQ:ah Tryz.prog 108=some (.code FB):=by kernel_rfl
noncomputable def Dk:NFun:=by
 refine (fun _=> ?c:ah Tryz.prog 109=some (.code ?c)->NFun) ?h
 case h=>conv=>{lhs;reduce;dsimp only[db,bk,bj]}
theorem uH:ah Tryz.prog 109=some (.code Dk):=by kernel_rfl
noncomputable def EM:NFun:=by
 refine (fun _=> ?c:ah Tryz.prog 110=some (.code ?c)->NFun) ?h
 case h=>conv=>{lhs;reduce;dsimp only[db,bk,bj]}
theorem vj:ah Tryz.prog 110=some (.code EM):=by kernel_rfl
noncomputable def D5:NFun:=by
 refine (fun _=> ?c:ah Tryz.prog 111=some (.code ?c)->NFun) ?h
 case h=>conv=>{lhs;reduce;dsimp only[db,bk,bj]}
theorem uQ:ah Tryz.prog 111=some (.code D5):=by kernel_rfl
noncomputable def Iu:NFun:=by
 refine (fun _=> ?c:ah Tryz.prog 113=some (.code ?c)->NFun) ?h
 case h=>conv=>{lhs;reduce;dsimp only[db,bk,bj]}
theorem FH:ah Tryz.prog 113=some (.code Iu):=by kernel_rfl
noncomputable def nP:NFun:=by
 refine (fun _=> ?c:ah Tryz.prog 114=some (.code ?c)->NFun) ?h
 case h=>conv=>{lhs;reduce;dsimp only[db,bk,bj]}
noncomputable def uU:NC:=by
 refine (fun _=> ?c:part (some (.code nP)) 0= ?c->NC) ?h
 case h=>
  conv=>{lhs;whnf}
noncomputable def Fq:NC:=by
 refine (fun _=> ?c:part (some (.code nP)) 1= ?c->NC) ?h
 case h=>
  have f0:=uU.eq_1
  dsimp only at f0
  conv=>{lhs;whnf;simp only[←f0]}
noncomputable def IR:NFun:=by
 refine (fun _=> ?c:nP= ?c->NFun) ?h
 case h=>
  have f0:=uU.eq_1
  dsimp only at f0
  have f1:=Fq.eq_1
  dsimp only at f1
  conv=>{lhs;delta nP;simp only[←f0,←f1]}
theorem CZ:ah Tryz.prog 114=some (.code IR):=by kernel_rfl
noncomputable def nD:NFun:=by
 refine (fun _=> ?c:ah Tryz.prog 116=some (.code ?c)->NFun) ?h
 case h=>conv=>{lhs;reduce;dsimp only[db,bk,bj]}
noncomputable def vp:NC:=by
 refine (fun _=> ?c:part (some (.code nD)) 0= ?c->NC) ?h
 case h=>
  conv=>{lhs;whnf}
noncomputable def ED:NC:=by
 refine (fun _=> ?c:part (some (.code nD)) 1= ?c->NC) ?h
 case h=>
  have f0:=vp.eq_1
  dsimp only at f0
  conv=>{lhs;whnf;simp only[←f0]}
noncomputable def IQ:NFun:=by
 refine (fun _=> ?c:nD= ?c->NFun) ?h
 case h=>
  have f0:=vp.eq_1
  dsimp only at f0
  have f1:=ED.eq_1
  dsimp only at f1
  conv=>{lhs;delta nD;simp only[←f0,←f1]}
theorem Ds:ah Tryz.prog 116=some (.code IQ):=by kernel_rfl
end FR
set_option maxRecDepth 100000
set_option maxHeartbeats 4000000
namespace FR
open Go Nm Go.Proofs
open Nm.D4 (e)
open Nm.NC (reg regD)
open Nm.C
noncomputable def code:Nat->Option NFn:=(aI 48 (aI 23 (aI 12 (aI 7 (aI 4 (aI 3 (aG Tryz.prog 3 Qa) (aG Tryz.prog 4 QV)) (aI 5 (aG Tryz.prog 5 Qr) (aI 6 (aG Tryz.prog 6 Qi) (aG Tryz.prog 7 Qq)))) (aI 9 (aI 8 (aG Tryz.prog 8 Od) (aG Tryz.prog 9 QL)) (aI 10 (aG Tryz.prog 10 L0) (aI 11 (aG Tryz.prog 11 F4) (aG Tryz.prog 12 I7))))) (aI 17 (aI 14 (aI 13 (aG Tryz.prog 13 Ld) (aG Tryz.prog 14 LB)) (aI 15 (aG Tryz.prog 15 L7) (aI 16 (aG Tryz.prog 16 JF) (aG Tryz.prog 17 Kq)))) (aI 20 (aI 19 (aG Tryz.prog 19 Lc) (aG Tryz.prog 20 Lz)) (aI 21 (aG Tryz.prog 21 L4) (aI 22 (aG Tryz.prog 22 Cp) (aG Tryz.prog 23 Lu)))))) (aI 37 (aI 29 (aI 25 (aI 24 (aG Tryz.prog 24 Lp) (aG Tryz.prog 25 Hk)) (aI 27 (aG Tryz.prog 27 Lt) (aI 28 (aG Tryz.prog 28 JV) (aG Tryz.prog 29 JH)))) (aI 31 (aI 30 (aG Tryz.prog 30 Lr) (aG Tryz.prog 31 Kf)) (aI 32 (aG Tryz.prog 32 JD) (aI 33 (aG Tryz.prog 33 KH) (aG Tryz.prog 37 Ks))))) (aI 42 (aI 39 (aI 38 (aG Tryz.prog 38 JS) (aG Tryz.prog 39 Fp)) (aI 40 (aG Tryz.prog 40 Ma) (aI 41 (aG Tryz.prog 41 IW) (aG Tryz.prog 42 J7)))) (aI 45 (aI 43 (aG Tryz.prog 43 Kt) (aI 44 (aG Tryz.prog 44 Ke) (aG Tryz.prog 45 KK))) (aI 46 (aG Tryz.prog 46 Lh) (aI 47 (aG Tryz.prog 47 Ly) (aG Tryz.prog 48 Jb))))))) (aI 84 (aI 65 (aI 54 (aI 51 (aI 49 (aG Tryz.prog 49 Kx) (aG Tryz.prog 51 Jw)) (aI 52 (aG Tryz.prog 52 KI) (aI 53 (aG Tryz.prog 53 LC) (aG Tryz.prog 54 J8)))) (aI 62 (aI 55 (aG Tryz.prog 55 JE) (aG Tryz.prog 62 Jd)) (aI 63 (aG Tryz.prog 63 JM) (aI 64 (aG Tryz.prog 64 KO) (aG Tryz.prog 65 KL))))) (aI 77 (aI 67 (aI 66 (aG Tryz.prog 66 I4) (aG Tryz.prog 67 Kd)) (aI 72 (aG Tryz.prog 72 KY) (aI 73 (aG Tryz.prog 73 Lj) (aG Tryz.prog 77 LX)))) (aI 81 (aI 80 (aG Tryz.prog 80 Ji) (aG Tryz.prog 81 Ka)) (aI 82 (aG Tryz.prog 82 KT) (aI 83 (aG Tryz.prog 83 Lf) (aG Tryz.prog 84 J6)))))) (aI 99 (aI 89 (aI 86 (aI 85 (aG Tryz.prog 85 KQ) (aG Tryz.prog 86 Kb)) (aI 87 (aG Tryz.prog 87 Kn) (aI 88 (aG Tryz.prog 88 Mg) (aG Tryz.prog 89 L9)))) (aI 91 (aI 90 (aG Tryz.prog 90 K0) (aG Tryz.prog 91 J0)) (aI 92 (aG Tryz.prog 92 JN) (aI 98 (aG Tryz.prog 98 I9) (aG Tryz.prog 99 LR))))) (aI 108 (aI 103 (aI 101 (aG Tryz.prog 101 EP) (aG Tryz.prog 103 DH)) (aI 104 (aG Tryz.prog 104 FW) (aI 105 (aG Tryz.prog 105 CN) (aG Tryz.prog 108 FB)))) (aI 111 (aI 109 (aG Tryz.prog 109 Dk) (aI 110 (aG Tryz.prog 110 EM) (aG Tryz.prog 111 D5))) (aI 113 (aG Tryz.prog 113 Iu) (aI 114 (aG Tryz.prog 114 IR) (aG Tryz.prog 116 IQ))))))))
theorem GI:ig Tryz.prog code:=(ak (ak (ak (ak (ak (ak (aj wT) (aj Kp)) (ak (aj DI) (ak (aj F6) (aj DF)))) (ak (ak (aj rz) (aj Fz)) (ak (aj Ag) (ak (aj nH) (aj AN))))) (ak (ak (ak (aj zm) (aj zx)) (ak (aj zu) (ak (aj y9) (aj AO)))) (ak (ak (aj Ac) (aj AJ)) (ak (aj zH) (ak (aj sx) (aj zK)))))) (ak (ak (ak (ak (aj Aa) (aj sA)) (ak (aj AD) (ak (aj y8) (aj zq)))) (ak (ak (aj AA) (aj AB)) (ak (aj Aw) (ak (aj Be) (aj zo))))) (ak (ak (ak (aj zO) (aj nQ)) (ak (aj Ak) (ak (aj AC) (aj zL)))) (ak (ak (aj zn) (ak (aj zp) (aj zA))) (ak (aj zk) (ak (aj zB) (aj Bb))))))) (ak (ak (ak (ak (ak (aj AG) (aj Ai)) (ak (aj zT) (ak (aj y6) (aj AV)))) (ak (ak (aj AL) (aj AI)) (ak (aj Ah) (ak (aj Ba) (aj zR))))) (ak (ak (ak (aj yR) (aj Aj)) (ak (aj zb) (ak (aj Ar) (aj Bd)))) (ak (ak (aj A8) (aj zM)) (ak (aj zD) (ak (aj yS) (aj zJ)))))) (ak (ak (ak (ak (aj zw) (aj zi)) (ak (aj Af) (ak (aj za) (aj y7)))) (ak (ak (aj Am) (aj AP)) (ak (aj As) (ak (aj yX) (aj AE))))) (ak (ak (ak (aj uC) (aj tV)) (ak (aj vI) (ak (aj vo) (aj tQ)))) (ak (ak (aj uH) (ak (aj vj) (aj uQ))) (ak (aj FH) (ak (aj CZ) (aj Ds))))))))
end FR
