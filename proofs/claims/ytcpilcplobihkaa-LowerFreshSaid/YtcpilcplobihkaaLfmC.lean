/- A machine that runs the given program with memory and order of evaluation taken apart from the model's, the proof that what it answers is what the model answers, and rules to reason of its runs. Part 3 of 4. -/
import Derived.Defers
import Derived.RangeFuncRecord
import Derived.Laws.Externs
import Derived.Below
import Derived.Test.YtcpilcplobihkaaLfmB
namespace Nm
open Go
variable [Val]
noncomputable def gh (l:List NOpd) (t:Tm):Tm:=match l with
 | []=> .leaf
 | .tmp d::l=>match NT.get d t with|some v=>NT.put d v (gh l t)|none=>gh l t
 | .const _::l=>gh l t
omit [Val] in
theorem sB {l:List NOpd} {t:Tm} {k:D4} {v:NV} (h:NT.get k (gh l t)=some v):NOpd.tmp k∈l/\NT.get k t=some v:=by
 induction l with
 |nil=>rw[show gh [] t= .leaf from rfl,NT.get_leaf] at h;cases h
 |cons x l ih=>
  cases x with
  |const u=>obtain ⟨h1,h2⟩:=ih h;exact ⟨by simp[h1],h2⟩
  |tmp d=>
   have h':NT.get k (match NT.get d t with|some v=>NT.put d v (gh l t)|none=>gh l t)=some v:=h
   cases hd:NT.get d t with
   |none=>rw[hd] at h';obtain ⟨h1,h2⟩:=ih h';exact ⟨by simp[h1],h2⟩
   |some u=>
    rw[hd] at h'
    dsimp only at h'
    by_cases e:k=d
    ·subst e;rw[NT.get_put_same] at h';exact ⟨by simp,by rw[hd];exact h'⟩
    ·rw[NT.get_put_ne e] at h';obtain ⟨h1,h2⟩:=ih h';exact ⟨by simp[h1],h2⟩
omit [Val] in
theorem Gh {l:List NOpd} {t:Tm} {k:D4} (h:NOpd.tmp k∈l):NT.get k (gh l t)=NT.get k t:=by
 induction l with
 |nil=>cases h
 |cons x l ih=>
  cases x with
  |const u=>rcases List.mem_cons.1 h with h|h;cases h;exact ih h
  |tmp d=>
   show NT.get k (match NT.get d t with|some v=>NT.put d v (gh l t)|none=>gh l t)=_
   by_cases e:k=d
   ·subst e
    cases hd:NT.get k t with
    |some u=>exact NT.get_put_same _ _ _
    |none=>
     dsimp only
     cases hk:NT.get k (gh l t) with
     |none=>rfl
     |some v=>have:=(sB hk).2;rw[hd] at this;cases this
   ·have hl:NOpd.tmp k∈l:=by
     rcases List.mem_cons.1 h with h|h
     ·injection h with h;exact absurd h e
     ·exact h
    cases hd:NT.get d t with
    |none=>exact ih hl
    |some u=>dsimp only;rw[NT.get_put_ne e];exact ih hl
omit [Val] in
theorem DC {l:List NOpd} {t:Tm}:∀x∈l,ρ (gh l t) x=ρ t x:=by
 intro x hx
 cases x with
 |const v=>rfl
 |tmp d=>exact Gh hx
structure Inv (P:Program) (S:Nat->List NV->Option NV) (go:Option D4->NC->Dyn->Res) (rnd:Option D4) (B:Nat) (b:Frame) (ops:Array Oper) (d0 dE:Dyn) (R:List Rec) (ι0:aW) (cs0:List Frame) (w0:World) (size:Nat)
 (X:Nat->Prop) (R1 R2:List Rec) (D:Dyn) (ι:aW) (a:Act) (cs:List Frame) (w:World):Prop where
 down:∀i,X i->cY ops X i
 inR:∀i,X i->∃r∈R,r.o.idx=i
 split:R=R1++R2
 c1:Chain P S go rnd d0 R1 D
 c2:Chain P S go rnd D R2 dE
 effs:∀r∈R1,r.isE->X r.o.idx
 head:∀r R2',R2=r::R2'->r.isE/\¬X r.o.idx
 mv:Mv P B rnd b ι0 d0.ctx d0.h cs0 w0 ι D.dfs D.ctx D.h a.defers cs w
 pend:∀r∈R1,∀v h,r.k= .alloc v h->¬X r.o.idx->ι r.h.next=none/\D.h.get r.h.next=h.get r.h.next/\r.h.next.toNat<D.h.next.toNat/\d0.h.next.toNat<=r.h.next.toNat
 dist:∀r∈R1,∀r'∈R1,∀v h v' h',r.k= .alloc v h->r'.k= .alloc v' h'->¬X r.o.idx->¬X r'.o.idx->r.h.next=r'.h.next->r.o.idx=r'.o.idx
 fr:∀r∈R1,Fr r.h
 tw:∀r∈R,X r.o.idx->∀t,r.o.dst=some (D4.of t)->∃v',a.tmps[t]? =some v'/\VR ι r.val v'
 ti:∀k,(∀r∈R,X r.o.idx->r.o.dst≠some (D4.of k))->∀v,NT.get (D4.of k) d0.t=some v->∃v',a.tmps[k]? =some v'/\VR ι v v'
 size:a.tmps.size=size
section
variable {P:Program} {S:Nat->List NV->Option NV} {self:Option D4->NC->Dyn->Res} {rnd:Option D4} {B:Nat} {b:Frame} {k:List Item} {ops:Array Oper} {fn:Func} {l:List NOper}
 {d0 dE:Dyn} {R:List Rec} {ι0:aW} {cs0:List Frame} {w0:World} {size:Nat} {X:Nat->Prop} {R1 R2:List Rec} {D:Dyn} {ι:aW} {a:Act} {cs:List Frame} {w:World}
omit [Val] in
theorem CJ (hL:Lay P ops l) {x y:NOper} (hx:x∈l) (hy:y∈l) (h:x.idx=y.idx):x=y:=by
 have hn:=hL.nodup
 clear hL
 induction l with
 |nil=>cases hx
 |cons z l ih=>
  rw[List.map_cons,List.nodup_cons] at hn
  rcases List.mem_cons.1 hx with rfl|hx'
  ·rcases List.mem_cons.1 hy with rfl|hy'
   ·rfl
   ·exact absurd (List.mem_map.2 ⟨y,hy',h.symm⟩) hn.1
  ·rcases List.mem_cons.1 hy with rfl|hy'
   ·exact absurd (List.mem_map.2 ⟨x,by assumption,h⟩) hn.1
   ·exact ih (by assumption) hy' hn.2
omit [Val] in
theorem jd (hL:Lay P ops l) {A C:List NOper} {x:NOper} (h:l=A++x::C) {y:NOper} (hy:y∈C) {z:NOper} (hz:z∈A++ [x]):z.idx≠y.idx:=by
 intro e
 have hn:=hL.nodup
 rw[h,show A++x::C=(A++ [x])++C by simp,List.map_append,List.nodup_append] at hn
 exact hn.2.2 z.idx (List.mem_map.2 ⟨z,hz,rfl⟩) y.idx (List.mem_map.2 ⟨y,hy,rfl⟩) e
omit [Val] in
theorem ot (hr:RegOK P fn ops) (hd:∀i,X i->cY ops X i) {i:Nat} {o:Oper} (ho:ops[i]? =some o) (he:cY ops X i) {j:Nat} (hj:(uJ ops i).testBit j=true):X j:=
 I6 hr hd i o ho he j hj
theorem known (hr:RegOK P fn ops) (hL:Lay P ops l) (hRl:∀r∈R,r.o∈l) (I:Inv P S self rnd B b ops d0 dE R ι0 cs0 w0 size X R1 R2 D ι a cs w)
 {A:List Rec} {no:NOper} {rest:List NOper} (hl:l=A.map (·.o)++no::rest) (hA:∀r∈A,r∈R) {D1:Dyn} (hc:Chain P S self rnd d0 A D1) {o:Oper} (ho:ops[no.idx]? =some o) (hE:cY ops X no.idx) (hnX:¬X no.idx)
 {t:Nat} (ht:∀j oj,ops[j]? =some oj->oj.dst=some t->j=no.idx∨(uJ ops (max j no.idx)).testBit (min j no.idx)=true) {v:NV} (hv:NT.get (D4.of t) D1.t=some v):∃v',a.tmps[t]? =some v'/\VR ι v v':=by
 have hno:no∈l:=by rw[hl];simp
 have hord:∀x∈l,x.dst=some (D4.of t)->x.idx≠no.idx->(uJ ops no.idx).testBit x.idx=true∨(uJ ops x.idx).testBit no.idx=true:=by
  intro x hx hd hne
  obtain ⟨ox,m1,m2,_⟩:=hL.mem x hx
  rw[m2] at hd
  have hox:ox.dst=some t:=by
   cases h:ox.dst with
   |none=>rw[h] at hd;cases hd
   |some u=>rw[h] at hd;injection hd with hd;rw[D4.of_inj hd]
  rcases ht x.idx ox m1 hox with h|h
  ·exact absurd h hne
  ·rcases Nat.lt_or_ge x.idx no.idx with hlt|hge
   ·rw[Nat.max_eq_right (by omega),Nat.min_eq_left (by omega)] at h;exact .inl h
   ·rw[Nat.max_eq_left (by omega),Nat.min_eq_right (by omega)] at h;exact .inr h
 by_cases hw:∃r∈A,r.o.dst=some (D4.of t)
 ·obtain ⟨r,hrA,hrd⟩:=hw
  obtain ⟨A1,A2,rfl⟩:=List.append_of_mem hrA
  have hrl:r.o∈l:=hRl r (hA r hrA)
  have hne:r.o.idx≠no.idx:=by
   intro e
   have hl':l=A1.map (·.o)++r.o::(A2.map (·.o)++no::rest):=by rw[hl];simp
   exact jd hL hl' (y:=no) (by simp) (z:=r.o) (by simp) e
  have honly:∀x∈A2,x.o.dst≠some (D4.of t):=by
   intro x hx hd
   have hxl:x.o∈l:=hRl x (hA x (by simp[hx]))
   obtain ⟨o1,m1,m2,_⟩:=hL.mem r.o hrl
   obtain ⟨o2,n1,n2,_⟩:=hL.mem x.o hxl
   have f:∀{q:Option Nat},q.map D4.of=some (D4.of t)->q=some t:=by
    intro q hq
    cases q with
    |none=>cases hq
    |some u=>injection hq with hq;rw[D4.of_inj hq]
   have he:=hL.once r.o.idx x.o.idx o1 o2 t m1 n1 (f (by rw[←m2];exact hrd)) (f (by rw[←n2];exact hd))
   have hl':l=A1.map (·.o)++r.o::(A2.map (·.o)++no::rest):=by rw[hl];simp
   exact jd hL hl' (y:=x.o) (by simp;exact .inl ⟨x,hx,rfl⟩) (z:=r.o) (by simp) he
  rw[oU hc hrd honly] at hv
  cases hv
  rcases hord r.o hrl hrd hne with h|h
  ·exact I.tw r (hA r hrA) (ot hr I.down ho hE h) t hrd
  ·exfalso
   have hl':l=A1.map (·.o)++r.o::(A2.map (·.o)++no::rest):=by rw[hl];simp
   obtain ⟨_,_,_,_,_,hp⟩:=hL.mem r.o hrl
   obtain ⟨o',h1,h2⟩:=hL.pre _ _ _ hl' no.idx (by rw[hp];exact h)
   exact jd hL hl' (y:=no) (by simp) (z:=o') (by simp at h1 ⊢;exact .inl h1) h2
 ·rw[gY hc (fun x hx hd=>hw ⟨x,hx,hd⟩)] at hv
  refine I.ti t (fun x hx hX hd=> ?_) v hv
  have hxl:x.o∈l:=hRl x hx
  have hne:x.o.idx≠no.idx:=fun e=>hnX (e▸hX)
  have hxnA:x∉A:=fun h=>hw ⟨x,h,hd⟩
  rcases hord x.o hxl hd hne with h|h
  ·obtain ⟨_,_,_,_,_,hp⟩:=hL.mem no hno
   obtain ⟨o',h1,h2⟩:=hL.pre _ _ _ hl x.o.idx (by rw[hp];exact h)
   have ho'l:o'∈l:=by rw[hl];simp only[List.mem_append];exact .inl h1
   have:=CJ hL ho'l hxl h2
   subst this
   obtain ⟨r',hr',he⟩:=List.mem_map.1 h1
   exact hw ⟨r',hr',by rw[he];exact hd⟩
  ·obtain ⟨ox,m1,_⟩:=hL.mem x.o hxl
   exact hnX (ot hr I.down m1 (I.down _ hX) h)
theorem gt (hr:RegOK P fn ops) (hL:Lay P ops l) (hRl:∀r∈R,r.o∈l) (I:Inv P S self rnd B b ops d0 dE R ι0 cs0 w0 size X R1 R2 D ι a cs w)
 {A:List Rec} {no:NOper} {rest:List NOper} (hl:l=A.map (·.o)++no::rest) (hA:∀r∈A,r∈R) {D1:Dyn} (hc:Chain P S self rnd d0 A D1) {o:Oper} (ho:ops[no.idx]? =some o) (hE:cY ops X no.idx) (hnX:¬X no.idx)
 (hcp:ap P o.op=some no.op):TR ι (gh (opsOf no.op) D1.t) a.tmps:=by
 intro t v hv
 obtain ⟨h1,h2⟩:=sB hv
 have hop:=FA hcp h1
 refine known hr hL hRl I hl hA hc ho hE hnX (t:=t) (fun j oj hj hd=> ?_) h2
 rcases GM hr.tmps hj ho hd hop with h|h
 ·exact .inl h
 ·exact .inr h
theorem ma (hr:RegOK P fn ops) (hL:Lay P ops l) (hRl:∀r∈R,r.o∈l) (I:Inv P S self rnd B b ops d0 dE R ι0 cs0 w0 size X R1 R2 D ι a cs w)
 {A:List Rec} {no:NOper} {rest:List NOper} (hl:l=A.map (·.o)++no::rest) (hA:∀r∈A,r∈R) {D1:Dyn} (hc:Chain P S self rnd d0 A D1) {o:Oper} (ho:ops[no.idx]? =some o) (hE:cY ops X no.idx) (hnX:¬X no.idx)
 (hG:oZ ops o.guard no.guard) {on:Bool} (h:aB D1.t no.guard=some on):Region.wanted o (yielded ops a.tmps)=on:=by
 refine lU hG (ι:=ι) (fun t c hg v hv=> ?_) h
 cases hog:o.guard with
 |none=>rw[hog,hg] at hG;exact hG.elim
 |some jb=>
  obtain ⟨j,bb⟩:=jb
  rw[hog,hg] at hG
  obtain ⟨_,u,hu,hk⟩:=hG
  have:=D4.of_inj hk
  subst this
  obtain ⟨⟨e,he1,he2,he3⟩,_⟩:=hr.guard _ o j bb ho hog
  have hXj:X j:=by rw[←he2];exact hE o ho e he1 he3
  have hjd:∃oj,ops[j]? =some oj/\oj.dst=some t:=by
   unfold tv at hu
   split at hu
   ·rename_i oj hoj;exact ⟨oj,hoj,hu⟩
   ·cases hu
  obtain ⟨oj,hoj,hjt⟩:=hjd
  obtain ⟨r,hrR,hri⟩:=I.inR j hXj
  have hrd:r.o.dst=some (D4.of t):=by
   obtain ⟨o2,m1,m2,_⟩:=hL.mem r.o (hRl r hrR)
   rw[hri,hoj] at m1;cases m1
   rw[m2,hjt];rfl
  have hjb:(uJ ops no.idx).testBit j=true:=by
   unfold uJ
   rw[lj]
   obtain ⟨acc,h1,h2,h3⟩:=kS (fun acc (o:Oper)=>o.after.foldl (fun s e=>if Region.binds .any e then s|||2 ^ e.on|||acc.getD e.on 0 else s) 0) ops.toList no.idx o (by simpa using ho)
   rw[Array.getD_eq_getD_getElem?,h1]
   simp only[Option.getD_some]
   rw[←Array.foldl_toList]
   have hfold:∀(L:List Edge) (s:Nat),(e∈L∨s.testBit j=true)->(L.foldl (fun s e=>if Region.binds .any e then s|||2 ^ e.on|||acc.getD e.on 0 else s) s).testBit j=true:=by
    intro L
    induction L with
    |nil=>intro s h;rcases h with h|h;cases h;exact h
    |cons x L ih=>
     intro s h
     rw[List.foldl_cons]
     refine ih _ ?_
     rcases h with h|h
     ·rcases List.mem_cons.1 h with h|h
      ·right;rw[←h,if_pos he3,Nat.testBit_or,Nat.testBit_or,he2,Nat.testBit_two_pow];simp
      ·exact .inl h
     ·right
      split
      ·rw[Nat.testBit_or,Nat.testBit_or,h];rfl
      ·exact h
   exact hfold _ 0 (.inl he1)
  refine known hr hL hRl I hl hA hc ho hE hnX (t:=t) (fun j' oj' hj' hd'=> ?_) hv
  have:=hL.once j' j oj' oj t hj' hoj hd' hjt
  subst this
  right
  have hlt:=hr.edge no.idx o e ho he1 he3
  rw[he2] at hlt
  rw[Nat.max_eq_right (by omega),Nat.min_eq_left (by omega)]
  exact hjb
theorem lI (hL:Lay P ops l) (hRl:∀r∈R,r.o∈l) {ι':aW} (hle:ι.le ι') {r:Rec} (hr:r∈R) {o:Oper} (ho:ops[r.o.idx]? =some o) {v':Value} (hv:VR ι' r.val v') (hb:∀d,o.dst=some d->d<a.tmps.size)
 (tw:∀r∈R,X r.o.idx->∀t,r.o.dst=some (D4.of t)->∃v',a.tmps[t]? =some v'/\VR ι r.val v')
 (ti:∀k,(∀r∈R,X r.o.idx->r.o.dst≠some (D4.of k))->∀v,NT.get (D4.of k) d0.t=some v->∃v',a.tmps[k]? =some v'/\VR ι v v')
 (hRR:∀x∈R,x.o.idx=r.o.idx->x=r):
 (∀x∈R,(X x.o.idx∨x.o.idx=r.o.idx)->∀t,x.o.dst=some (D4.of t)->∃v'',(a.put o.dst v').tmps[t]? =some v''/\VR ι' x.val v'')/\
 (∀k,(∀x∈R,(X x.o.idx∨x.o.idx=r.o.idx)->x.o.dst≠some (D4.of k))->∀v,NT.get (D4.of k) d0.t=some v->∃v'',(a.put o.dst v').tmps[k]? =some v''/\VR ι' v v''):=by
 have hod:r.o.dst=o.dst.map D4.of:=by
  obtain ⟨o2,m1,m2,_⟩:=hL.mem r.o (hRl r hr);rw[ho] at m1;cases m1;exact m2
 have hput:∀t,o.dst≠some t->(a.put o.dst v').tmps[t]? =a.tmps[t]? :=by
  intro t ht
  cases hd:o.dst with
  |none=>rfl
  |some d=>
   show (a.tmps.setIfInBounds d v')[t]? =_
   rw[Array.getElem?_setIfInBounds_ne (fun e=>ht (by rw[hd,e]))]
 have hown:∀t,o.dst=some t->(a.put o.dst v').tmps[t]? =some v':=by
  intro t ht
  have:=hb t ht
  rw[ht]
  show (a.tmps.setIfInBounds t v')[t]? =_
  simp[this]
 constructor
 ·intro x hx hX t ht
  by_cases he:x.o.idx=r.o.idx
  ·have:=hRR x hx he
   subst this
   have hot:o.dst=some t:=by
    rw[hod] at ht
    cases h:o.dst with
    |none=>rw[h] at ht;cases ht
    |some u=>rw[h] at ht;injection ht with ht;rw[D4.of_inj ht]
   exact ⟨v',hown t hot,hv⟩
  ·have hX':X x.o.idx:=hX.resolve_right he
   obtain ⟨u,h1,h2⟩:=tw x hx hX' t ht
   refine ⟨u, ?_,h2.mono hle⟩
   rw[hput t ?_];exact h1
   intro hot
   obtain ⟨o2,m1,m2,_⟩:=hL.mem x.o (hRl x hx)
   have:o2.dst=some t:=by
    rw[m2] at ht
    cases h:o2.dst with
    |none=>rw[h] at ht;cases ht
    |some u=>rw[h] at ht;injection ht with ht;rw[D4.of_inj ht]
   exact he (hL.once _ _ o2 o t m1 ho this hot)
 ·intro t hn v hv0
  obtain ⟨u,h1,h2⟩:=ti t (fun x hx hX=>hn x hx (.inl hX)) v hv0
  refine ⟨u, ?_,h2.mono hle⟩
  rw[hput t ?_];exact h1
  intro hot
  exact hn r hr (.inr rfl) (by rw[hod,hot];rfl)
end
end Nm
namespace Nm
open Go
variable [Val]
section
variable {P:Program} {S:Nat->List NV->Option NV} {self:Option D4->NC->Dyn->Res} {rnd:Option D4} {B:Nat} {b:Frame} {k:List Item} {ops:Array Oper} {fn:Func} {l:List NOper}
 {d0 dE:Dyn} {R:List Rec} {ι0:aW} {cs0:List Frame} {w0:World} {size:Nat} {X:Nat->Prop} {R1 R2:List Rec} {D:Dyn} {ι:aW} {a:Act} {cs:List Frame} {w:World}
theorem Mv.more {ctx:Option NV} {h:NH} {dfs':List Dfr} {ctx':Option NV} {h' h'':NH} {ds':List Deferred} {cs':List Frame} {w':World} (m:Mv P B rnd b ι0 ctx h cs0 w0 ι dfs' ctx' h' ds' cs' w') (hn:h'.next.toNat<=h''.next.toNat)
 (hg:∀i,i.toNat<h'.next.toNat->h''.get i=h'.get i) (hf:Fr h''):Mv P B rnd b ι0 ctx h cs0 w0 ι dfs' ctx' h'' ds' cs' w':=
 ⟨⟨m.sd.df,m.sd.cx,m.sd.rel.more hg hf,m.sd.base,m.sd.rn⟩,m.gr.more m.sd.rel hn hg,m.ca⟩
omit [Val] in
theorem zr {op:Op} {n:NOp} (hc:ap P op=some n) (hcl:aj n≠.eff):∀c,op≠.defer c:=by
 rintro ⟨callee,args,ats⟩ rfl
 cases callee with
 |value f=>
  replace hc:ft f args.toList=some n:=hc
  unfold ft at hc
  split at hc
  ·cases hc;exact hcl rfl
  ·cases hc
 |builtin b=>have hc:(none:Option NOp)=some n:=hc;cases hc
 |invoke r m=>have hc:(none:Option NOp)=some n:=hc;cases hc
omit [Val] in
theorem u3 {i:Nat} {rest:List Nat} {o:Oper} {n:NOp} (ho:ops[i]? =some o) (hw:Region.wanted o (yielded ops a.tmps)=true) (hc:ap P o.op=some n) (hcl:aj n= .alloc) {v':Value} {w':World}
 (h1:(execOp a.eval o).run P w= .ok (.value v') w'):
 Steps P (lone (b.atR a (.inRegion ops (i::rest)::k)) cs w) (lone (b.atR (a.put o.dst v') (.inRegion ops rest::k)) cs w'):=by
 have hg:=stepGR_op (P:=P) (b:=b) (k:=k) (cs:=cs) (w:=w) (rest:=rest) ho hw
 have hfin:∀v,(b.atR a (.inRegion ops (i::rest)::k)).finish v=b.atR (a.put o.dst v) (.inRegion ops rest::k):=by
  intro v;rw[Frame.finish_atR,ho];rfl
 rw[eB (.inr (zr hc (by rw[hcl];simp)))] at hg
 refine .one (step_lone_go ?_)
 rw[hg,←hfin];simp[stepG.apply,h1]
theorem C9 (hC:CallsOK P S self) (hr:RegOK P fn ops) (hL:Lay P ops l) {rest0:List NOper} (hl:l=R.map (·.o)++rest0) (hQ:R.Pairwise QQ) (hsz:fn.ntmps<=size)
 (I:Inv P S self rnd B b ops d0 dE R ι0 cs0 w0 size X R1 R2 D ι a cs w) {r:Rec} (hrR:r∈R) (hE:cY ops X r.o.idx) (hnX:¬X r.o.idx) (rest:List Nat):
 ∃R1' R2' D' ι' a' cs' w',Steps P (lone (b.atR a (.inRegion ops (r.o.idx::rest)::k)) cs w) (lone (b.atR a' (.inRegion ops rest::k)) cs' w')/\
  Inv P S self rnd B b ops d0 dE R ι0 cs0 w0 size (fun j=>X j∨j=r.o.idx) R1' R2' D' ι' a' cs' w':=by
 have hRl:∀x∈R,x.o∈l:=fun x hx=>by rw[hl];simp only[List.mem_append];exact .inl (List.mem_map.2 ⟨x,hx,rfl⟩)
 obtain ⟨A,C,hAC⟩:=List.append_of_mem hrR
 have hA:∀x∈A,x∈R:=fun x hx=>by rw[hAC];simp[hx]
 have hlr:l=A.map (·.o)++r.o::(C.map (·.o)++rest0):=by rw[hl,hAC];simp
 have hchain:Chain P S self rnd d0 (A++r::C) dE:=by rw[←hAC,I.split];exact oC I.c1 I.c2
 obtain ⟨Dr,hcA,hcr⟩:=ez hchain
 obtain ⟨hDr,hok,hcC⟩:=cM hcr
 subst hDr
 obtain ⟨o,ho,hdst,hcp,hG,hpre⟩:=hL.mem r.o (hRl r hrR)
 have hbX:∀j,r.o.pre.testBit j=true->X j:=fun j hj=>ot hr I.down ho hE (by rw[←hpre];exact hj)
 have hRnd:(R.map (·.o.idx)).Nodup:=by
  have:=hL.nodup
  rw[hl,List.map_append,List.nodup_append] at this
  have h1:=this.1
  rw[List.map_map] at h1
  exact h1
 have hRR:∀x∈R,∀y∈R,x.o.idx=y.o.idx->x=y:=by
  clear hlr hA hcA hcr hcC hchain hok hAC hQ hl hrR hRl I
  intro x hx y hy he
  induction R with
  |nil=>cases hx
  |cons z R ih=>
   rw[List.map_cons,List.nodup_cons] at hRnd
   rcases List.mem_cons.1 hx with rfl|hx'
   ·rcases List.mem_cons.1 hy with rfl|hy'
    ·rfl
    ·exact absurd (List.mem_map.2 ⟨y,hy',he.symm⟩) hRnd.1
   ·rcases List.mem_cons.1 hy with rfl|hy'
    ·exact absurd (List.mem_map.2 ⟨x,hx',he⟩) hRnd.1
    ·exact ih hRnd.2 hx' hy'
 have hX':∀j,(X j∨j=r.o.idx)->cY ops (fun j=>X j∨j=r.o.idx) j:=by
  intro j hj o' ho' e he hb
  rcases hj with hj|rfl
  ·exact .inl (I.down j hj o' ho' e he hb)
  ·exact .inl (hE o' ho' e he hb)
 have hinR:∀j,(X j∨j=r.o.idx)->∃x∈R,x.o.idx=j:=by
  rintro j (hj|rfl)
  ·exact I.inR j hj
  ·exact ⟨r,hrR,rfl⟩
 have hdb:∀d,o.dst=some d->d<a.tmps.size:=fun d hd=>by rw[I.size];exact Nat.lt_of_lt_of_le (hr.dst _ o d ho hd) hsz
 have hput:=fun {ι':aW} (hle:ι.le ι') {v':Value} (hv:VR ι' r.val v')=>lI hL hRl hle hrR ho hv hdb I.tw I.ti (fun x hx=>hRR x hx r hrR)
 have hguard:∀{on:Bool},aB r.t r.o.guard=some on->Region.wanted o (yielded ops a.tmps)=on:=fun h=>ma hr hL hRl I hlr hA hcA ho hE hnX hG h
 have hhead:∀h2 R2',R2=h2::R2'->r∈R2'->QQ h2 r:=by
  intro h2 R2' h2e hm
  have hp:=hQ
  rw[I.split,h2e,List.pairwise_append] at hp
  exact (List.pairwise_cons.1 hp.2.1).1 r hm
 have hnohead:∀h2 R2',R2=h2::R2'->r.o.pre.testBit h2.o.idx=false:=by
  intro h2 R2' h2e
  cases hb:r.o.pre.testBit h2.o.idx with
  |false=>rfl
  |true=>exact absurd (hbX _ hb) (I.head h2 R2' h2e).2
 have calm:∀{ι':aW} {a':Act} {cs':List Frame} {w':World} {v':Value} {ds:List Deferred},¬r.isE->(∀v h,r.k≠.alloc v h)->Mv P B rnd b ι D.ctx D.h cs w ι' D.dfs D.ctx D.h ds cs' w'->VR ι' r.val v'->a'=({a with defers:=ds}:Act).put o.dst v'->
  Inv P S self rnd B b ops d0 dE R ι0 cs0 w0 size (fun j=>X j∨j=r.o.idx) R1 R2 D ι' a' cs' w':=by
  intro ι' a' cs' w' v' ds hnE hnA mv hv he
  subst he
  have hpt:=lI (a:={a with defers:=ds}) hL hRl mv.gr.le hrR ho hv hdb I.tw I.ti (fun x hx=>hRR x hx r hrR)
  refine ⟨hX',hinR,I.split,I.c1,I.c2,fun x hx hxE=> .inl (I.effs x hx hxE),fun h2 R2' he=>⟨(I.head h2 R2' he).1, ?_⟩, ?_, ?_, ?_,I.fr,hpt.1,hpt.2, ?_⟩
  ·rintro (h|h)
   ·exact (I.head h2 R2' he).2 h
   ·have:h2=r:=hRR h2 (by rw[I.split,he];simp) r hrR h
    exact hnE (this▸(I.head h2 R2' he).1)
  ·rw[put_defers];exact I.mv.trans mv
  ·intro x hx v h e hn
   obtain ⟨p1,p2,p3,p4⟩:=I.pend x hx v h e (fun hX=>hn (.inl hX))
   refine ⟨?_,p2,p3,p4⟩
   cases hi:ι' x.h.next with
   |none=>rfl
   |some p=>
    rcases mv.gr.new _ _ hi with h|h
    ·rw[p1] at h;cases h
    ·omega
  ·exact fun x hx y hy v h v' h' e e' n n'=>I.dist x hx y hy v h v' h' e e' (fun hX=>n (.inl hX)) (fun hX=>n' (.inl hX))
  ·rw[fp];exact I.size
 have hrun:∀h,ag r.o.op (gh (opsOf r.o.op) r.t) h=ag r.o.op r.t h:=fun h=>nZ DC h
 cases hk:r.k with
 |off=>
  have hg:aB r.t r.o.guard=some false:=by unfold Rec.ok at hok;rw[hk] at hok;exact hok
  have hskip:=stepR_op_skip (P:=P) (b:=b) (a:=a) (k:=k) (cs:=cs) (w:=w) (ops:=ops) (i:=r.o.idx) (rest:=rest) (by simp[ho,hguard hg])
  simp only[ho,Option.bind_some] at hskip
  have hval:r.val=aM:=by simp[Rec.val,hk]
  exact ⟨R1,R2,D,ι,_,cs,w,.one hskip,calm (ds:=a.defers) (v':=undef) (by simp[Rec.isE,hk]) (by simp[hk]) (Mv.refl I.mv.sd) (by rw[hval];exact dn) rfl⟩
 |pure v=>
  have hok':aB r.t r.o.guard=some true/\aj r.o.op= .pure/\ag r.o.op r.t r.h= .val v:=by unfold Rec.ok at hok;rw[hk] at hok;exact hok
  obtain ⟨g1,g2,g3⟩:=hok'
  have hcp':ap P o.op=some r.o.op:=hcp.resolve_right fun e=>by rw[e] at g2;cases g2
  have hT:TR ι (gh (opsOf r.o.op) r.t) a.tmps:=gt hr hL hRl I hlr hA hcA ho hE hnX hcp'
  have hx:=fo (S:=S) (self:=self) (k:=k) (rest:=rest) hC ho (hguard g1) hcp' (mg hT) I.mv.sd
  rw[hrun,AD g2 r.t D.h r.h,g3] at hx
  obtain ⟨v',ι1,ds1,cs1,w1,x1,x2,x3⟩:=hx
  have hval:r.val=v:=by simp[Rec.val,hk]
  exact ⟨R1,R2,D,ι1,_,cs1,w1,x1,calm (by simp[Rec.isE,hk]) (by simp[hk]) x3 (by rw[hval];exact x2) rfl⟩
 |read v=>
  have hok':aB r.t r.o.guard=some true/\aj r.o.op= .read/\ag r.o.op r.t r.h= .val v:=by unfold Rec.ok at hok;rw[hk] at hok;exact hok
  obtain ⟨g1,g2,g3⟩:=hok'
  have hcp':ap P o.op=some r.o.op:=hcp.resolve_right fun e=>by rw[e] at g2;cases g2
  have hT:TR ι (gh (opsOf r.o.op) r.t) a.tmps:=gt hr hL hRl I hlr hA hcA ho hE hnX hcp'
  have hx:=fo (S:=S) (self:=self) (k:=k) (rest:=rest) hC ho (hguard g1) hcp' (mg hT) I.mv.sd
  have hval:r.val=v:=by simp[Rec.val,hk]
  have hread:ag r.o.op r.t D.h= .val v:=by
   have hm:r∈R1∨r∈R2:=by have:=hrR;rw[I.split] at this;exact List.mem_append.1 this
   rcases hm with hm|hm
   ·obtain ⟨E1,E2,hE12⟩:=List.append_of_mem hm
    have hc1:=I.c1
    rw[hE12] at hc1
    obtain ⟨Dm,_,hc2⟩:=ez hc1
    obtain ⟨hDm,_,hc3⟩:=cM hc2
    refine Az g2 hc3 (fun x hx=>I.fr x (by rw[hE12];simp[hx])) ?_ ?_
    ·rw[show r.nx.h=r.h by simp[Rec.nx,hk]];exact g3
    ·intro x hx u dfs ctx h e
     have hxR1:x∈R1:=by rw[hE12];simp[hx]
     have hXx:X x.o.idx:=I.effs x hxR1 (by unfold Rec.isE;rw[e];trivial)
     have hqq:QQ r x:=by
      have hp:=hQ
      rw[I.split,hE12,List.append_assoc,List.pairwise_append] at hp
      exact (List.pairwise_cons.1 hp.2.1).1 x (by simp[hx])
     unfold QQ at hqq
     rw[hk] at hqq
     unfold QR at hqq
     rw[e] at hqq
     refine hqq ?_
     cases hb:x.o.pre.testBit r.o.idx with
     |false=>rfl
     |true=>
      obtain ⟨ox,m1,_,_,_,mp⟩:=hL.mem x.o (hRl x (by rw[I.split];simp[hxR1]))
      exact absurd (ot hr I.down m1 (I.down _ hXx) (by rw[←mp];exact hb)) hnX
   ·cases hR2:R2 with
    |nil=>rw[hR2] at hm;cases hm
    |cons h2 R2'=>
     have hhd:=I.head h2 R2' hR2
     have hDh:D=h2.st:=by have:=I.c2;rw[hR2] at this;exact (cM this).1
     rw[hR2] at hm
     rcases List.mem_cons.1 hm with rfl|hm'
     ·have:=hhd.1;simp[Rec.isE,hk] at this
     ·have hqq:=hhead h2 R2' hR2 hm'
      unfold QQ at hqq
      have hisE:=hhd.1
      unfold Rec.isE at hisE
      split at hqq
      ·unfold QE at hqq
       rw[hk] at hqq
       rw[hDh]
       exact hqq (hnohead h2 R2' hR2)
      ·rename_i e;rw[e] at hisE;exact hisE.elim
      ·rename_i hno _
       split at hisE
       ·rename_i e;exact absurd e (hno _ _ _ _)
       ·exact hisE.elim
  rw[hrun,hread] at hx
  obtain ⟨v',ι1,ds1,cs1,w1,x1,x2,x3⟩:=hx
  exact ⟨R1,R2,D,ι1,_,cs1,w1,x1,calm (by simp[Rec.isE,hk]) (by simp[hk]) x3 (by rw[hval];exact x2) rfl⟩
 |alloc v h=>
  have hok':aB r.t r.o.guard=some true/\aj r.o.op= .alloc/\ag r.o.op r.t r.h= .mem v h:=by unfold Rec.ok at hok;rw[hk] at hok;exact hok
  obtain ⟨g1,g2,g3⟩:=hok'
  have hcp':ap P o.op=some r.o.op:=hcp.resolve_right fun e=>by rw[e] at g2;cases g2
  have hT:TR ι (gh (opsOf r.o.op) r.t) a.tmps:=gt hr hL hRl I hlr hA hcA ho hE hnX hcp'
  have hm:r∈R1:=by
   have hm:r∈R1∨r∈R2:=by have:=hrR;rw[I.split] at this;exact List.mem_append.1 this
   rcases hm with hm|hm
   ·exact hm
   ·exfalso
    cases hR2:R2 with
    |nil=>rw[hR2] at hm;cases hm
    |cons h2 R2'=>
     have hhd:=I.head h2 R2' hR2
     rw[hR2] at hm
     rcases List.mem_cons.1 hm with rfl|hm'
     ·have:=hhd.1;simp[Rec.isE,hk] at this
     ·have hqq:=hhead h2 R2' hR2 hm'
      have hisE:=hhd.1
      unfold Rec.isE at hisE
      unfold QQ at hqq
      split at hqq
      ·unfold QE at hqq
       rw[hk] at hqq
       rw[hnohead h2 R2' hR2] at hqq;cases hqq
      ·rename_i e;rw[e] at hisE;exact hisE.elim
      ·rename_i hno _
       split at hisE
       ·rename_i e;exact absurd e (hno _ _ _ _)
       ·exact hisE.elim
  obtain ⟨p1,p2,p3,p4⟩:=I.pend r hm v h hk hnX
  obtain ⟨ob,V,hAl⟩:=uj (P:=P) (ι:=ι) (w:=w) (t:=gh (opsOf r.o.op) r.t) (e:=a.eval) (h0:=r.h) hcp' (mg hT) g2 (by rw[hrun,g3];simp)
  have hv0:=hAl.all r.h
  rw[hrun,g3] at hv0
  injection hv0 with hv1 hv2
  obtain ⟨v',w1,O,p,hw1,hres,hpb,hOR,hVR⟩:=hAl.real
  have hstep:=u3 (b:=b) (k:=k) (cs:=cs) (rest:=rest) ho (hguard g1) hcp' g2 hres
  have hn:ι r.h.next=none:=p1
  have hget:D.h.get r.h.next=some ob:=by rw[p2,hv2];exact NH.get_add_same _ _
  have hrel1:Rel P ι B D.h w1:=by rcases hw1 with rfl|rfl;exact I.mv.sd.rel;exact I.mv.sd.rel.drew
  have hgr1:Grow ι0 d0.h w0 ι D.h w1:=by rcases hw1 with rfl|rfl;exact I.mv.gr;exact I.mv.gr.drew
  have hw1s:w1.heap.size=w.heap.size:=by rcases hw1 with rfl|rfl<;>rfl
  have hB1:B<=w1.heap.size:=by rw[hw1s];exact I.mv.sd.base
  have hrel:=hrel1.at hB1 hn hget (p:=p) (O:=O) (by rw[hw1s];exact hpb) hOR
  have hgr:=hgr1.at hn p4 (O:=O) (p:=p) (by rw[hw1s];exact hpb)
  have hle:ι.le (ι.set r.h.next p):=aW.set_le hn
  have hvr:VR (ι.set r.h.next p) r.val v':=by
   rw[show r.val=v by simp[Rec.val,hk],hv1]
   exact hVR _ _ hle (aW.set_same _ _ _)
  have hpt:=hput hle hvr
  refine ⟨R1,R2,D,ι.set r.h.next p,_,cs,_,hstep,⟨hX',hinR,I.split,I.c1,I.c2,fun x hx hxE=> .inl (I.effs x hx hxE),fun h2 R2' he=>⟨(I.head h2 R2' he).1, ?_⟩, ?_, ?_, ?_,I.fr,hpt.1,hpt.2, ?_⟩⟩
  ·rintro (h|h)
   ·exact (I.head h2 R2' he).2 h
   ·have h3:h2=r:=hRR h2 (by rw[I.split,he];simp) r hrR h
    have:=(I.head h2 R2' he).1
    rw[h3] at this
    simp[Rec.isE,hk] at this
  ·rw[put_defers]
   have s:=I.mv.sd
   exact ⟨⟨s.df.mono hle,s.cx.mono hle,hrel,by have:=s.base;simp;omega,s.rn.mono hle⟩,hgr,I.mv.ca⟩
  ·intro x hx v2 h2 e hnx
   obtain ⟨q1,q2,q3,q4⟩:=I.pend x hx v2 h2 e (fun hX=>hnx (.inl hX))
   refine ⟨?_,q2,q3,q4⟩
   rw[aW.set_ne]
   ·exact q1
   ·intro he
    exact hnx (.inr (I.dist x hx r hm v2 h2 v h e hk (fun hX=>hnx (.inl hX)) hnX he))
  ·exact fun x hx y hy v h v' h' e e' n n'=>I.dist x hx y hy v h v' h' e e' (fun hX=>n (.inl hX)) (fun hX=>n' (.inl hX))
  ·rw[fp];exact I.size
 |eff v dfs1 ctx1 h1=>
  have hok':aB r.t r.o.guard=some true/\aj r.o.op= .eff/\dQ P S self rnd r.dfs r.ctx r.h (ag r.o.op r.t r.h)= .next v dfs1 ctx1 h1:=by unfold Rec.ok at hok;rw[hk] at hok;exact hok
  obtain ⟨g1,g2,g3⟩:=hok'
  have hcp':ap P o.op=some r.o.op:=hcp.resolve_right fun e=>by rw[e] at g3;cases g3
  have hT:TR ι (gh (opsOf r.o.op) r.t) a.tmps:=gt hr hL hRl I hlr hA hcA ho hE hnX hcp'
  have hisE:r.isE:=by unfold Rec.isE;rw[hk];trivial
  have hR2:∃R2',R2=r::R2':=by
   have hm:r∈R1∨r∈R2:=by have:=hrR;rw[I.split] at this;exact List.mem_append.1 this
   rcases hm with hm|hm
   ·exact absurd (I.effs r hm hisE) hnX
   ·cases hR2:R2 with
    |nil=>rw[hR2] at hm;cases hm
    |cons h2 R2'=>
     have hhd:=I.head h2 R2' hR2
     rw[hR2] at hm
     rcases List.mem_cons.1 hm with rfl|hm'
     ·exact ⟨R2',rfl⟩
     ·exfalso
      have hqq:=hhead h2 R2' hR2 hm'
      have hisE:=hhd.1
      unfold Rec.isE at hisE
      unfold QQ at hqq
      split at hqq
      ·unfold QE at hqq
       rw[hk] at hqq
       rw[hnohead h2 R2' hR2] at hqq;cases hqq
      ·rename_i e;rw[e] at hisE;exact hisE.elim
      ·rename_i hno _
       split at hisE
       ·rename_i e;exact absurd e (hno _ _ _ _)
       ·exact hisE.elim
  obtain ⟨R2',hR2⟩:=hR2
  have hc2:=I.c2
  rw[hR2] at hc2
  obtain ⟨hD,_,hcR⟩:=cM hc2
  have hx:=fo (S:=S) (self:=self) (k:=k) (rest:=rest) hC ho (hguard g1) hcp' (mg hT) I.mv.sd
  rw[hrun,show D.h=r.h by rw[hD];rfl,show D.dfs=r.dfs by rw[hD];rfl,show D.ctx=r.ctx by rw[hD];rfl,g3] at hx
  obtain ⟨v',ι1,ds1,cs1,w1,x1,x2,x3⟩:=hx
  obtain ⟨T1,T2,hT12,hT1,hT2⟩:=oB R2'
  rw[hT12] at hcR
  obtain ⟨D',hc3,hc4⟩:=ez hcR
  have hnx:r.nx.dfs=dfs1/\r.nx.ctx=ctx1/\r.nx.h=h1:=by simp[Rec.nx,hk]
  obtain ⟨n1,n2,n3⟩:=hnx
  have sk:=pY hc3 hT1 (by rw[n3];exact x3.sd.rel.fresh)
  have s1:=sk.dfs;rw[n1] at s1
  have s2:=sk.ctx;rw[n2] at s2
  have s3:=sk.next;rw[n3] at s3
  have s4:=sk.get;rw[n3] at s4
  have hDh:D.h=r.h:=by rw[hD];rfl
  have x3':Mv P B rnd b ι D.ctx D.h cs w ι1 dfs1 ctx1 h1 ds1 cs1 w1:=by rw[hD];exact x3
  have mv1:=(I.mv.trans x3').more s3 s4 sk.fresh
  have hval:r.val=v:=by simp[Rec.val,hk]
  have hpt:=lI (a:={a with defers:=ds1}) hL hRl x3.gr.le hrR ho (by rw[hval];exact x2) hdb I.tw I.ti (fun x hx=>hRR x hx r hrR)
  have hmono:D.h.next.toNat<=h1.next.toNat:=x3'.gr.next
  refine ⟨R1++r::T1,T2,D',ι1,_,cs1,w1,x1,⟨hX',hinR, ?_,oC I.c1 (hD▸.cons r T1 D' (by rw[Rec.ok,hk];exact ⟨g1,g2,g3⟩) hc3),hc4, ?_, ?_, ?_, ?_, ?_, ?_,hpt.1,hpt.2, ?_⟩⟩
  ·rw[I.split,hR2,hT12];simp
  ·intro x hx hxE
   rcases List.mem_append.1 hx with hx|hx
   ·exact .inl (I.effs x hx hxE)
   ·rcases List.mem_cons.1 hx with rfl|hx
    ·exact .inr rfl
    ·exact absurd hxE (hT1 x hx)
  ·intro h2 T2' he
   have hh2:=hT2 h2 T2' he
   refine ⟨hh2, ?_⟩
   have hmem:h2∈R2':=by rw[hT12,he];simp
   have hqq:QQ r h2:=by
    have hp:=hQ
    rw[I.split,hR2,List.pairwise_append] at hp
    exact (List.pairwise_cons.1 hp.2.1).1 h2 hmem
   have hbit:h2.o.pre.testBit r.o.idx=true:=by
    unfold QQ at hqq
    rw[hk] at hqq
    unfold QE at hqq
    cases hk2:h2.k with
    |eff v3 d3 c3 h3=>rw[hk2] at hqq;exact hqq
    |_=>unfold Rec.isE at hh2;rw[hk2] at hh2;exact hh2.elim
   have h2R:h2∈R:=by rw[I.split,hR2];simp[hmem]
   obtain ⟨o2,m1,_,_,_,mp⟩:=hL.mem h2.o (hRl h2 h2R)
   rintro (hX2|he2)
   ·exact hnX (ot hr I.down m1 (I.down _ hX2) (by rw[←mp];exact hbit))
   ·have:=hRR h2 h2R r hrR he2
    subst this
    have hl2:l=A.map (·.o)++h2.o::(C.map (·.o)++rest0):=hlr
    obtain ⟨o',q1,q2⟩:=hL.pre _ _ _ hl2 h2.o.idx hbit
    have hnd:=hL.nodup
    rw[hl2,List.map_append,List.nodup_append] at hnd
    exact hnd.2.2 o'.idx (List.mem_map.2 ⟨o',q1,rfl⟩) h2.o.idx (by simp) q2
  ·rw[put_defers,s1,s2];exact mv1
  ·intro x hx v2 h2 e hnx2
   rcases List.mem_append.1 hx with hx|hx
   ·obtain ⟨q1,q2,q3,q4⟩:=I.pend x hx v2 h2 e (fun hX=>hnx2 (.inl hX))
    refine ⟨?_, ?_,Nat.lt_of_lt_of_le q3 (Nat.le_trans hmono s3),q4⟩
    ·cases hi:ι1 x.h.next with
     |none=>rfl
     |some p=>
      rcases x3'.gr.new _ _ hi with h|h
      ·rw[q1] at h;cases h
      ·omega
    ·rw[s4 _ (by omega),x3'.gr.keep _ q1 q3,q2]
   ·rcases List.mem_cons.1 hx with rfl|hx
    ·rw[hk] at e;cases e
    ·obtain ⟨q1,q2,q3⟩:=sk.al x hx v2 h2 e
     rw[n3] at q1
     refine ⟨?_,q3,q2, ?_⟩
     ·cases hi:ι1 x.h.next with
      |none=>rfl
      |some p=>have:=x3.sd.rel.lt_next hi;omega
     ·have:=I.mv.gr.next;omega
  ·intro x hx y hy v2 h2 v3 h3 e e' nx ny he
   rcases List.mem_append.1 hx with hx'|hx'
   ·have px:=I.pend x hx' v2 h2 e (fun hX=>nx (.inl hX))
    rcases List.mem_append.1 hy with hy'|hy'
    ·exact I.dist x hx' y hy' v2 h2 v3 h3 e e' (fun hX=>nx (.inl hX)) (fun hX=>ny (.inl hX)) he
    ·rcases List.mem_cons.1 hy' with rfl|hy''
     ·rw[hk] at e';cases e'
     ·obtain ⟨q1,q2,q3⟩:=sk.al y hy'' v3 h3 e'
      rw[n3,←he] at q1
      have:=px.2.2.1
      omega
   ·rcases List.mem_cons.1 hx' with rfl|hx''
    ·rw[hk] at e;cases e
    ·obtain ⟨q1,q2,q3⟩:=sk.al x hx'' v2 h2 e
     rcases List.mem_append.1 hy with hy'|hy'
     ·have py:=I.pend y hy' v3 h3 e' (fun hX=>ny (.inl hX))
      rw[n3,he] at q1
      have:=py.2.2.1
      omega
     ·rcases List.mem_cons.1 hy' with rfl|hy''
      ·rw[hk] at e';cases e'
      ·exact sk.dist x hx'' y hy'' v2 h2 v3 h3 e e' he
  ·intro x hx
   rcases List.mem_append.1 hx with hx|hx
   ·exact I.fr x hx
   ·rcases List.mem_cons.1 hx with rfl|hx
    ·rw[←hDh];exact I.mv.sd.rel.fresh
    ·exact sk.fr x hx
  ·rw[fp];exact I.size
end
end Nm
namespace Nm
open Go
variable [Val]
section
variable {P:Program} {S:Nat->List NV->Option NV} {self:Option D4->NC->Dyn->Res} {rnd:Option D4} {B:Nat} {b:Frame} {k:List Item} {ops:Array Oper} {fn:Func} {l:List NOper}
 {d0 dE:Dyn} {R:List Rec} {ι0:aW} {cs0:List Frame} {w0:World} {size:Nat}
theorem dk.of_steps {m m':Machine} {ι:aW} {ctx:Option NV} {h:NH} {cs:List Frame} {w:World} {o:Out} {d':Dyn} (hs:Steps P m m') (g:dk P B rnd b k m' ι ctx h size cs w o d'):dk P B rnd b k m ι ctx h size cs w o d':=by
 obtain ⟨ι',a',cs',w',q1,q2⟩:=g
 exact ⟨ι',a',cs',w',q1.of_steps hs,q2⟩
theorem zH (hC:CallsOK P S self) (hr:RegOK P fn ops) (hL:Lay P ops l) {rest0:List NOper} (hl:l=R.map (·.o)++rest0) (hQ:R.Pairwise QQ) (hsz:fn.ntmps<=size) {G:Out} {dF:Dyn}
 (hfin:∀(X:Nat->Prop) (R1 R2:List Rec) (D:Dyn) (ι:aW) (a:Act) (cs:List Frame) (w:World),Inv P S self rnd B b ops d0 dE R ι0 cs0 w0 size X R1 R2 D ι a cs w->(∀i,i<ops.size->X i)->
  dk P B rnd b k (lone (b.atR a (.inRegion ops []::k)) cs w) ι0 d0.ctx d0.h size cs0 w0 G dF)
 (hstop:∀(X:Nat->Prop) (R1 R2:List Rec) (D:Dyn) (ι:aW) (a:Act) (cs:List Frame) (w:World),Inv P S self rnd B b ops d0 dE R ι0 cs0 w0 size X R1 R2 D ι a cs w->∀(no:NOper) (rest:List Nat),no∈rest0->cY ops X no.idx->¬X no.idx->
  dk P B rnd b k (lone (b.atR a (.inRegion ops (no.idx::rest)::k)) cs w) ι0 d0.ctx d0.h size cs0 w0 G dF):
 ∀(fuel tt:Nat) (listed:Array Bool) (X:Nat->Prop) (R1 R2:List Rec) (D:Dyn) (ι:aW) (a:Act) (cs:List Frame) (w:World),listed.size=ops.size->(∀i,X i↔listed[i]? =some true)->(iA ops listed).length<=fuel->
  Inv P S self rnd B b ops d0 dE R ι0 cs0 w0 size X R1 R2 D ι a cs w->
  dk P B rnd b k (lone (b.atR a (.inRegion ops (Region.linearise.go .any ops fuel tt listed [])::k)) cs w) ι0 d0.ctx d0.h size cs0 w0 G dF:=by
 intro fuel
 induction fuel with
 |zero=>
  intro tt listed X R1 R2 D ι a cs w hs hX hleft I
  rw[Fj]
  refine hfin X R1 R2 D ι a cs w I fun i hi=> ?_
  rw[hX]
  have he:iA ops listed= []:=List.eq_nil_of_length_eq_zero (by omega)
  rw[Array.getElem?_eq_getElem (by omega)]
  cases hb:listed[i]'(by omega) with
  |true=>rfl
  |false=>
   have hm:i∈iA ops listed:=by
    unfold iA
    rw[List.mem_filter]
    refine ⟨by simpa using hi, ?_⟩
    rw[Array.getD_eq_getD_getElem?,Array.getElem?_eq_getElem (by omega)];simp[hb]
   rw[he] at hm;cases hm
 |succ fuel ih=>
  intro tt listed X R1 R2 D ι a cs w hs hX hleft I
  rcases F1 ops fuel tt listed with ⟨h1,h2⟩|⟨i,t',h1,h2⟩
  ·rw[h2]
   exact hfin X R1 R2 D ι a cs w I fun i hi=>(hX i).2 (xk hr hs h1 i hi)
  ·rw[h2]
   obtain ⟨o,ho,hnl,hedge⟩:=zU h1
   have hi:i<ops.size:=(Array.getElem?_eq_some_iff.1 ho).1
   have hE:cY ops X i:=fun o' ho' e he hb=>by
    rw[ho] at ho';cases ho'
    exact (hX _).2 (hedge e he hb)
   have hnX:¬X i:=fun hx=>by
    have:=(hX i).1 hx
    rw[Array.getD_eq_getD_getElem?,this] at hnl
    cases hnl
   obtain ⟨no,hno,hidx⟩:=hL.all i hi
   rw[hl] at hno
   rcases List.mem_append.1 hno with hno|hno
   ·obtain ⟨r,hrR,rfl⟩:=List.mem_map.1 hno
    subst hidx
    obtain ⟨R1',R2',D',ι',a',cs',w',s1,I'⟩:=C9 (k:=k) hC hr hL hl hQ hsz I hrR hE hnX (Region.linearise.go .any ops fuel t' (listed.setIfInBounds r.o.idx true) [])
    refine dk.of_steps s1 (ih t' _ _ R1' R2' D' ι' a' cs' w' (by simpa using hs) (fun j=> ?_) ?_ I')
    ·by_cases hj:r.o.idx=j
     ·subst hj
      rw[Array.getElem?_setIfInBounds_self_of_lt (by omega)];simp
     ·rw[Array.getElem?_setIfInBounds_ne hj,hX j]
      constructor
      ·rintro (h|h)
       ·exact h
       ·exact absurd h.symm hj
      ·exact .inl
    ·have hlt:(iA ops (listed.setIfInBounds r.o.idx true)).length<(iA ops listed).length:=by
      unfold iA
      refine E6 (fun j _ hj=> ?_) r.o.idx (by simpa using hi) (by simp[hnl]) ?_
      ·rw[Array.getD_eq_getD_getElem?] at hj ⊢
       by_cases he:r.o.idx=j
       ·subst he;rw[Array.getElem?_setIfInBounds_self_of_lt (by omega)] at hj;simp at hj
       ·rw[Array.getElem?_setIfInBounds_ne he] at hj;exact hj
      ·rw[Array.getD_eq_getD_getElem?,Array.getElem?_setIfInBounds_self_of_lt (by omega)];rfl
     omega
   ·subst hidx
    exact hstop X R1 R2 D ι a cs w I no _ hno hE hnX
omit [Val] in
theorem qn:∀(l:List NOper) (hs:List (Nat×NH)) (rs:List (Nat×(NH->NR)×NV)) (d:Dyn) (o:Out) (d':Dyn),bQ P S self rnd l hs rs d= .mk o d'->o= .norm∨∃v,o= .pan v:=by
 intro l
 induction l with
 |nil=>intro hs rs d o d' h;cases h;exact .inl rfl
 |cons x l ih=>
  intro hs rs d o d' h
  obtain ⟨t,dfs,ctx,hp⟩:=d
  rw[bX] at h
  cases hg:aB t x.guard with
  |none=>rw[hg] at h;cases h
  |some on=>
   rw[hg] at h
   cases on with
   |false=>exact ih _ _ _ _ _ h
   |true=>
    dsimp only at h
    cases hcl:aj x.op with
    |pure=>
     rw[hcl] at h
     dsimp only at h
     cases hop:ag x.op t hp<;>rw[hop] at h<;>first|exact ih _ _ _ _ _ h|cases h
    |alloc=>
     rw[hcl] at h
     dsimp only at h
     cases ha:ahead x.pre hs with
     |false=>rw[ha] at h;cases h
     |true=>rw[ha] at h;simp only[cond_true] at h;cases hop:ag x.op t hp<;>rw[hop] at h<;>first|exact ih _ _ _ _ _ h|cases h
    |read=>
     rw[hcl] at h
     dsimp only at h
     cases hop:ag x.op t hp with
     |val v=>
      rw[hop] at h
      dsimp only at h
      cases hst:eo x.pre (ag x.op t) v hs with
      |false=>rw[hst] at h;cases h
      |true=>rw[hst] at h;exact ih _ _ _ _ _ h
     |_=>rw[hop] at h;cases h
    |eff=>
     rw[hcl] at h
     dsimp only at h
     cases ha:ahead x.pre hs with
     |false=>rw[ha] at h;cases h
     |true=>
      rw[ha] at h
      have h':dj (cA x.idx l) (zS x.dst (fun d=>cond (stays x.pre d.h rs) (bQ P S self rnd l ((x.idx,hp)::hs) rs d) .fail) t dfs ctx (dQ P S self rnd dfs ctx hp (ag x.op t hp)))= .mk o d':=h
      unfold dj at h'
      split at h'
      ·cases hb:cA x.idx l<;>rw[hb] at h'<;>cases h'
       exact .inr ⟨_,rfl⟩
      ·cases hoo:dQ P S self rnd dfs ctx hp (ag x.op t hp) with
       |fail=>rw[hoo] at h';cases h'
       |pan v h0=>rw[hoo] at h';cases h';exact .inr ⟨_,rfl⟩
       |next v dfs1 ctx1 h0=>
        rw[hoo] at h'
        have h2:cond (stays x.pre h0 rs) (bQ P S self rnd l ((x.idx,hp)::hs) rs ⟨aT x.dst v t,dfs1,ctx1,h0⟩) .fail= .mk o d':=h'
        cases hsy:stays x.pre h0 rs with
        |false=>rw[hsy] at h2;cases h2
        |true=>rw[hsy] at h2;exact ih _ _ _ _ _ h2
theorem Bo {a0:Act} (s:Sd P ι0 B rnd d0.dfs d0.ctx d0.h b a0.defers cs0 w0) (hT:TR ι0 d0.t a0.tmps) (hc:Chain P S self rnd d0 R dE) (hs:a0.tmps.size=size):
 ∃R1 R2 D,Inv P S self rnd B b ops d0 dE R ι0 cs0 w0 size (fun _=>False) R1 R2 D ι0 a0 cs0 w0:=by
 obtain ⟨T1,T2,hT12,hT1,hT2⟩:=oB R
 have hc':=hc
 rw[hT12] at hc'
 obtain ⟨D,c1,c2⟩:=ez hc'
 have sk:=pY c1 hT1 s.rel.fresh
 refine ⟨T1,T2,D,fun i h=>h.elim,fun i h=>h.elim,hT12,c1,c2,fun r hr hE=>absurd hE (hT1 r hr),fun r R2' he=>⟨hT2 r R2' he,fun h=>h⟩, ?_, ?_,fun r hr r' hr' v h v' h' e e' _ _ he=>sk.dist r hr r' hr' v h v' h' e e' he,sk.fr,fun r _ h=>h.elim,fun t _ v hv=>hT t v hv,hs⟩
 ·rw[sk.dfs,sk.ctx]
  exact (Mv.refl s).more sk.next sk.get sk.fresh
 ·intro r hr v h e _
  obtain ⟨q1,q2,q3⟩:=sk.al r hr v h e
  refine ⟨?_,q3,q2,q1⟩
  cases hi:ι0 r.h.next with
  |none=>rfl
  |some p=>have:=s.rel.lt_next hi;omega
theorem vW (hC:CallsOK P S self) (hr:RegOK P fn ops) (hL:Lay P ops l) (hsz:fn.ntmps<=size) {o:Out} {d':Dyn} (hrun:yQ P S self l rnd d0= .mk o d') {a0:Act}
 (s:Sd P ι0 B rnd d0.dfs d0.ctx d0.h b a0.defers cs0 w0) (hT:TR ι0 d0.t a0.tmps) (hs:a0.tmps.size=size) (tt:Nat):
 dk P B rnd b k (lone (b.atR a0 (.inRegion ops (Region.linearise .any ops tt)::k)) cs0 w0) ι0 d0.ctx d0.h size cs0 w0 o d':=by
 have hstart:∀{R:List Rec} {dE:Dyn} {rest0:List NOper} {G:Out} {dF:Dyn},l=R.map (·.o)++rest0->R.Pairwise QQ->Chain P S self rnd d0 R dE->
  (∀(X:Nat->Prop) (R1 R2:List Rec) (D:Dyn) (ι:aW) (a:Act) (cs:List Frame) (w:World),Inv P S self rnd B b ops d0 dE R ι0 cs0 w0 size X R1 R2 D ι a cs w->(∀i,i<ops.size->X i)->
   dk P B rnd b k (lone (b.atR a (.inRegion ops []::k)) cs w) ι0 d0.ctx d0.h size cs0 w0 G dF)->
  (∀(X:Nat->Prop) (R1 R2:List Rec) (D:Dyn) (ι:aW) (a:Act) (cs:List Frame) (w:World),Inv P S self rnd B b ops d0 dE R ι0 cs0 w0 size X R1 R2 D ι a cs w->∀(no:NOper) (rest:List Nat),no∈rest0->cY ops X no.idx->¬X no.idx->
   dk P B rnd b k (lone (b.atR a (.inRegion ops (no.idx::rest)::k)) cs w) ι0 d0.ctx d0.h size cs0 w0 G dF)->
  dk P B rnd b k (lone (b.atR a0 (.inRegion ops (Region.linearise .any ops tt)::k)) cs0 w0) ι0 d0.ctx d0.h size cs0 w0 G dF:=by
  intro R dE rest0 G dF hl hQ hc hfin hstop
  obtain ⟨R1,R2,D,I⟩:=Bo (ops:=ops) s hT hc hs
  refine zH hC hr hL hl hQ hsz hfin hstop ops.size tt (Array.replicate ops.size false) (fun _=>False) R1 R2 D ι0 a0 cs0 w0 (by simp) (fun i=> ?_) ?_ I
  ·simp[Array.getElem?_replicate]
  ·unfold iA
   exact Nat.le_trans (List.length_filter_le _ _) (by simp)
 unfold yQ at hrun
 split at hrun
 ·
  rename_i v d1 hpan
  cases hrun
  obtain ⟨R,q,l2,h',q1,q2,q3,_,_,q6,q7,q8,q9,_,q11,q12⟩:=DN l [] [] d0 d1 hpan
  have hRl:∀x∈R,x.o∈l:=fun x hx=>by rw[q1];simp only[List.mem_append];exact .inl (List.mem_map.2 ⟨x,hx,rfl⟩)
  have hql:q.o∈l:=by rw[q1];simp
  have hnq:∀x∈R,x.o.idx≠q.o.idx:=by
   intro x hx e
   have hnd:=hL.nodup
   rw[q1,List.map_append,List.nodup_append] at hnd
   exact hnd.2.2 x.o.idx (by rw[List.map_map];exact List.mem_map.2 ⟨x,hx,rfl⟩) q.o.idx (by simp) e
  refine hstart q1 q3 q2 (fun X R1 R2 D ι a cs w I hall=> ?_) (fun X R1 R2 D ι a cs w I no rest hno hE hnX=> ?_)
  ·obtain ⟨oq,m1,_⟩:=hL.mem q.o hql
   obtain ⟨x,hx,he⟩:=I.inR _ (hall q.o.idx (Array.getElem?_eq_some_iff.1 m1).1)
   exact absurd he (hnq x hx)
  ·rcases List.mem_cons.1 hno with rfl|hno
   ·obtain ⟨oq,ho,hdst,hcp,hG,hpre⟩:=hL.mem q.o hql
    have hcp':ap P oq.op=some q.o.op:=hcp.resolve_right fun e=>by rw[e] at q8;cases q8
    have hT:TR ι (gh (opsOf q.o.op) q.t) a.tmps:=gt hr hL hRl I q1 (fun _ h=>h) q2 ho hE hnX hcp'
    have hgu:=ma hr hL hRl I q1 (fun _ h=>h) q2 ho hE hnX hG q6
    have hbX:∀j,q.o.pre.testBit j=true->X j:=fun j hj=>ot hr I.down ho hE (by rw[←hpre];exact hj)
    have hR2:R2= []:=by
     cases hR2:R2 with
     |nil=>rfl
     |cons h2 R2'=>
      have hhd:=I.head h2 R2' hR2
      have hm:h2∈R:=by rw[I.split,hR2];simp
      exact absurd (hbX _ (q11 h2 hm hhd.1)) hhd.2
    have hc2:=I.c2
    rw[hR2] at hc2
    have hD:=eU hc2
    have hx:=fo (S:=S) (self:=self) (k:=k) (rest:=rest) hC ho hgu hcp' (mg hT) I.mv.sd
    rw[nZ DC D.h,←hD] at hx
    have q8':dQ P S self rnd q.st.dfs q.st.ctx q.st.h (ag q.o.op q.t q.st.h)= .pan v h':=q8
    rw[q8'] at hx
    obtain ⟨v',ι1,w1,td,x1,x2,x3⟩:=hx
    have hmv:=I.mv
    rw[←hD] at hmv
    rw[q9]
    refine ⟨ι1,a,cs,w1,⟨td,v',x2,x1⟩, ?_,hmv.trans x3,I.size⟩
    intro t v0 hv0
    obtain ⟨g1,g2⟩:=AQ hv0
    have g1':NT.get (D4.of t) q.st.t=some v0:=g1
    rw[gY q2 (fun x hx=>g2 x.o (hRl x hx))] at g1'
    obtain ⟨u,e1,e2⟩:=I.ti t (fun x hx _=>g2 x.o (hRl x hx)) v0 g1'
    exact ⟨u,e1,e2.mono x3.gr.le⟩
   ·exfalso
    have hnol:no∈l:=by rw[q1];simp[hno]
    obtain ⟨on,ho,_,_,_,hpre⟩:=hL.mem no hnol
    have hXq:X q.o.idx:=ot hr I.down ho hE (by rw[←hpre];exact q12 no hno)
    obtain ⟨x,hx,he⟩:=I.inR _ hXq
    exact hnq x hx he
 ·rename_i hnp
  cases o with
  |norm=>
   obtain ⟨R,h1,h2,h3,_,_⟩:=Ap l [] [] d0 d' hrun
   have hRl:∀x∈R,x.o∈l:=fun x hx=>by rw[←h1];exact List.mem_map.2 ⟨x,hx,rfl⟩
   refine hstart (rest0:= []) (by rw[List.append_nil];exact h1.symm) h3 h2 (fun X R1 R2 D ι a cs w I hall=> ?_) (fun X R1 R2 D ι a cs w I no rest hno=>by cases hno)
   have hRX:∀x∈R,X x.o.idx:=fun x hx=>by
    obtain ⟨ox,m1,_⟩:=hL.mem x.o (hRl x hx)
    exact hall _ (Array.getElem?_eq_some_iff.1 m1).1
   have hR2:R2= []:=by
    cases hR2:R2 with
    |nil=>rfl
    |cons h2 R2'=>exact absurd (hRX h2 (by rw[I.split,hR2];simp)) (I.head h2 R2' hR2).2
   have hc2:=I.c2
   rw[hR2] at hc2
   have hD:=eU hc2
   subst hD
   refine ⟨ι,a,cs,w,.one stepR_region_end, ?_,I.mv,I.size⟩
   intro t v hv
   by_cases hw:∃r∈R,r.o.dst=some (D4.of t)
   ·obtain ⟨r,hrR,hrd⟩:=hw
    obtain ⟨A,C,hAC⟩:=List.append_of_mem hrR
    have honly:∀x∈C,x.o.dst≠some (D4.of t):=by
     intro x hx hd
     have hxR:x∈R:=by rw[hAC];simp[hx]
     obtain ⟨o1,m1,m2,_⟩:=hL.mem r.o (hRl r hrR)
     obtain ⟨o2,n1,n2,_⟩:=hL.mem x.o (hRl x hxR)
     have f:∀{q:Option Nat},q.map D4.of=some (D4.of t)->q=some t:=by
      intro q hq
      cases q with
      |none=>cases hq
      |some u=>injection hq with hq;rw[D4.of_inj hq]
     have he:=hL.once r.o.idx x.o.idx o1 o2 t m1 n1 (f (by rw[←m2];exact hrd)) (f (by rw[←n2];exact hd))
     have hl':l=A.map (·.o)++r.o::C.map (·.o):=by rw[←h1,hAC];simp
     exact jd hL hl' (y:=x.o) (List.mem_map.2 ⟨x,hx,rfl⟩) (z:=r.o) (by simp) he
    have hch:=h2
    rw[hAC] at hch
    rw[oU hch hrd honly] at hv
    cases hv
    exact I.tw r hrR (hRX r hrR) t hrd
   ·rw[gY h2 (fun x hx hd=>hw ⟨x,hx,hd⟩)] at hv
    exact I.ti t (fun x hx _ hd=>hw ⟨x,hx,hd⟩) v hv
  |pan v=>exact absurd hrun (hnp v d')
  |ret=>rcases qn l [] [] d0 _ d' hrun with h|⟨v,h⟩<;>cases h
  |exit id=>rcases qn l [] [] d0 _ d' hrun with h|⟨v,h⟩<;>cases h
end
end Nm
namespace Nm
open Go
variable [Val]
section
variable {P:Program} {S:Nat->List NV->Option NV} {rnd:Option D4} {B:Nat} {b:Frame} {k:List Item} {size:Nat}
theorem dk.then {x:Item} {m:Machine} {ι:aW} {ctx:Option NV} {h:NH} {cs:List Frame} {w:World} {o:Out} {d1 d':Dyn} (g:dk P B rnd b (x::k) m ι ctx h size cs w .norm d1)
 (f:∀(ι':aW) (a':Act) (cs':List Frame) (w':World),TR ι' d1.t a'.tmps->Sd P ι' B rnd d1.dfs d1.ctx d1.h b a'.defers cs' w'->a'.tmps.size=size->
  dk P B rnd b k (lone (b.atR a' (x::k)) cs' w') ι' d1.ctx d1.h size cs' w' o d'):dk P B rnd b k m ι ctx h size cs w o d':=by
 obtain ⟨ι1,a1,cs1,w1,q1,q2,q3,q4⟩:=g
 obtain ⟨ι2,a2,cs2,w2,r1,r2,r3,r4⟩:=f ι1 a1 cs1 w1 q2 q3.sd q4
 exact ⟨ι2,a2,cs2,w2,r1.of_steps q1,r2,q3.trans r3,r4⟩
theorem dk.out {x:Item} {m:Machine} {ι:aW} {ctx:Option NV} {h:NH} {cs:List Frame} {w:World} {o:Out} {d':Dyn} (hx:∀id,o= .exit id->exitTo id (x::k)=exitTo id k) (ho:o≠.norm) (g:dk P B rnd b (x::k) m ι ctx h size cs w o d'):
 dk P B rnd b k m ι ctx h size cs w o d':=by
 obtain ⟨ι1,a1,cs1,w1,q1,q2⟩:=g
 refine ⟨ι1,a1,cs1,w1, ?_,q2⟩
 cases o with
 |norm=>exact absurd rfl ho
 |ret=>exact q1
 |exit id=>obtain ⟨k0,h1,h2⟩:=q1;exact ⟨k0,h1.trans (hx id rfl),h2⟩
 |pan v=>exact q1
theorem dk.undrew {m:Machine} {ι:aW} {ctx:Option NV} {h:NH} {cs:List Frame} {w:World} {o:Out} {d':Dyn} (g:dk P B rnd b k m ι ctx h size cs w.drew o d'):dk P B rnd b k m ι ctx h size cs w o d':=by
 obtain ⟨ι1,a1,cs1,w1,q1,q2,q3,q4⟩:=g
 have gr:=q3.gr
 exact ⟨ι1,a1,cs1,w1,q1,q2,⟨q3.sd,⟨gr.le,gr.next,gr.new,gr.blk,gr.keep,gr.size,gr.os,gr.tape,gr.output,gr.frame⟩,q3.ca⟩,q4⟩
def B6 (st:Item) (c:Code):Prop:=st= .code c∨∃x,c= .loop x/\st= .inLoop x
def ir (P:Program) (S:Nat->List NV->Option NV) (n:Nat):Prop:=
 ∀(c:Code) (nc:NC) (fn:Func) (bl la:List Nat),cI P c=some nc->CheckCode.code P fn bl la c= .ok ()->∀(rnd:Option D4) (d:Dyn) (o:Out) (d':Dyn),ev P S n rnd nc d= .mk o d'->
 ∀(st:Item),B6 st c->∀(B:Nat) (b:Frame) (k:List Item) (ι:aW) (a:Act) (cs:List Frame) (w:World),P.funcs[b.fn]? =some fn->TR ι d.t a.tmps->Sd P ι B rnd d.dfs d.ctx d.h b a.defers cs w->fn.ntmps<=a.tmps.size->
  dk P B rnd b k (lone (b.atR a (st::k)) cs w) ι d.ctx d.h a.tmps.size cs w o d'
omit [Val] in
theorem Da:∀{l:List Nat} {r:List D4},s8 l=some r->r=l.map D4.of:=by
 intro l
 induction l with
 |nil=>intro r h;cases h;rfl
 |cons x l ih=>
  intro r h
  have h':(Option.rec none (fun t=>D4.ofNat x fun n=>some (n::t)) (s8 l):Option (List D4))=some r:=h
  cases hl:s8 l with
  |none=>rw[hl] at h';cases h'
  |some t=>
   rw[hl] at h'
   have h2:(D4.ofNat x fun n=>some (n::t))=some r:=h'
   rw[D4.ofNat_eq] at h2
   cases h2
   rw[ih hl];rfl
omit [Val] in
theorem rI {a:Act} {cs:List Frame} {w w₁:World} {g:Operand} {ps:Array Tmp} {assign body:Code} {l:Nat} {mark:List Deferred}
 (he:(Instr.enterLoop b.fn a.tmps ps assign body b.roundOf).run P w= .ok (l,mark) w₁):
 (stepG P true {frame:=b.atR a (.code (.rangeFunc g ps assign body)::k),callers:=cs,status:= .running,dying:=none} w).bare=
  (stepG.apply P true (b.atR {a with defers:=mark++a.defers} (.inRangeFunc l::k)) cs none (do let d ←resolve a.eval (rangeCall g l) 0;invoke d.target d.args) w₁).bare:=by
 have hev:=Frame.eval_atR b {a with defers:=mark++a.defers} (.inRangeFunc l::k)
 simp only[Frame.atR] at hev
 simp[stepG,stepG.exec,Frame.atR,Sem.runT_eq,he,GStep.bare_after,hev]
 rfl
theorem js {self:Option D4->NC->Dyn->Res} (hC:CallsOK P S self) {fn:Func} (hfn:P.funcs[b.fn]? =some fn) {bl la:List Nat} {assign body:Code} {na nb:NC} (ca:cI P assign=some na) (cb:cI P body=some nb)
 (ka:CheckCode.code P fn [] [] assign= .ok ()) (kb:CheckCode.code P fn bl la body= .ok ()) {ps:Array Tmp} {nps:List D4} (hps:nps=ps.toList.map D4.of) (hpl:∀t∈ps.toList,t<fn.ntmps)
 {g:Operand} {f:Nat} {cap:List NV} {t:Tm} {dfs:List Dfr} {ctx:Option NV} {h:NH} {o:Out} {d':Dyn} (hrun:cr P S self f cap nps na nb t dfs ctx h= .mk o d')
 {ι:aW} {a:Act} {cs:List Frame} {w0 w:World} {mark:List Deferred} {r:Nat} (hT:TR ι t a.tmps) (s:Sd P ι B rnd dfs ctx h b (mark++a.defers) cs w) (hsz:fn.ntmps<=a.tmps.size)
 {cap':List Value} (hcap:VRL ι cap cap') (hg:a.eval g= .func (.func f) #[] cap'.toArray)
 (he:(Instr.enterLoop b.fn a.tmps ps assign body b.roundOf).run P w0= .ok (w.heap.size,mark) (w.alloc (.loop {state:= .ready,pending:=none,fn:=b.fn,tmps:=a.tmps,params:=ps,assign,body,defers:=r}))):
 dk P B rnd b k (lone (b.atR a (.code (.rangeFunc g ps assign body)::k)) cs w0) ι ctx h a.tmps.size cs w o d':=by
 obtain ⟨L,hL⟩:∃L:Loop,L={state:= .ready,pending:=none,fn:=b.fn,tmps:=a.tmps,params:=ps,assign,body,defers:=r}:=⟨_,rfl⟩
 rw[←hL] at he
 have hOR:∀ι':aW,ι.le ι'->OR P ι' (w.alloc (.loop L)) ⟨w.heap.size,0,0⟩ (.loop 0 .none t nps na nb):=fun ι' hle=>by
  subst hL
  exact ⟨_,dY w _,rfl,rfl,hT.mono hle,hps,ca,cb,⟨fn,bl,la,bl,hfn,hsz,ka,kb,rfl⟩,fun q hq=>Nat.lt_of_lt_of_le (hpl q hq) hsz⟩
 obtain ⟨ι1,i1,i2,i3,i4⟩:=s.rel.alloc s.base (.loop 0 .none t nps na nb) (.loop L) ⟨w.heap.size,0,0⟩ rfl hOR
 generalize hw1:w.alloc (.loop L)=w1 at *
 generalize hh1:h.add (.loop 0 .none t nps na nb)=h1 at *
 have hB1:B<=w1.heap.size:=Nat.le_trans s.base i4.size
 have hrun':(match cm P S self f (.yld h.next::cap) h1 with
  | .val _ _ h3=>eu h.next t dfs ctx h3
  | .pan v _ h3=> .mk (.pan v) ⟨t,dfs,ctx,h3⟩
  | .fail=> .fail)=Res.mk o d':=by
  rw[←hrun,←hh1]
  exact (NH.new_eq h (.loop 0 .none t nps na nb) fun l h=>match cm P S self f (.yld l::cap) h with
   | .val _ _ h=>eu l t dfs ctx h
   | .pan v _ h=> .mk (.pan v) ⟨t,dfs,ctx,h⟩
   | .fail=> .fail).symm
 have hcall:=hC.call ι1 B h1 w1 f (.yld h.next::cap) (.func (.yield w.heap.size) #[] #[]::cap') i3 hB1 (.cons _ _ _ _ (.yld h.next _ i1) (hcap.mono i2))
 have hs:(do let d ←resolve a.eval (rangeCall g w.heap.size) 0;invoke d.target d.args:Sem Next).run P w1=(callFunc f (Value.func (.yield w.heap.size) #[] #[]::cap').toArray).run P w1:=by
  simp only[resolve,hg,Deferred.ofValue,invoke,Sem.run_bind,Sem.run_pure,Result.andThen]
  congr 2
  simp[Act.eval]
 have hstep:=rI (k:=k) (cs:=cs) (g:=g) he
 have hfin:∀v,(b.atR {a with defers:=mark++a.defers} (.inRangeFunc w.heap.size::k)).finish v=b.atR {a with defers:=mark++a.defers} (.endRangeFunc w.heap.size::k):=finish_atR_inRangeFunc w.heap.size
 cases hcr:cm P S self f (.yld h.next::cap) h1 with
 |fail=>rw[hcr] at hrun';cases hrun'
 |val v x h3=>
  rw[hcr] at hcall hrun'
  obtain ⟨ι3,v',w3,c1,c2,c3,c4,c5⟩:=hcall (b.atR {a with defers:=mark++a.defers} (.inRangeFunc w.heap.size::k)) cs
  have hto:Steps P (lone (b.atR a (.code (.rangeFunc g ps assign body)::k)) cs w0) (lone (b.atR {a with defers:=mark++a.defers} (.endRangeFunc w.heap.size::k)) cs w3):=by
   rcases c5 with c5|⟨w2,⟨f',ar,c5,c6⟩|⟨l,f',tm,x,y,c5,c6⟩⟩
   ·refine .one (step_lone_go ?_)
    rw[hstep,←hfin v'];simp[stepG.apply,hs,c5]
   ·refine .head (step_lone_go ?_) (by rw[←hfin v'];exact c6)
    rw[hstep];simp[stepG.apply,hs,c5,Frame.atR]
   ·refine .head (step_lone_go ?_) (by rw[←hfin v'];exact c6)
    rw[hstep];simp[stepG.apply,hs,c5,Frame.atR]
  have hp3:ι3 h.next=some ⟨w.heap.size,0,0⟩:=c4.le _ _ i1
  obtain ⟨ob,ho1,ho2⟩:=c2.obj _ _ hp3
  have hre:eu h.next t dfs ctx h3= .mk o d':=hrun'
  unfold eu at hre
  rw[ho1] at hre
  cases ob with
  |loop st pd tm ps2 a2 b2=>
   dsimp only at hre
   cases hst:Nat.beq st 1 with
   |true=>rw[hst] at hre;cases hre
   |false=>
    rw[hst,NH.set_eq] at hre
    simp only[cond_false] at hre
    have hst1:st≠1:=Nat.ne_of_beq_eq_false hst
    obtain ⟨L3,l1,l2,l3,l4,l5,l6,l7,l8,l9⟩:=ho2
    have hbusy:L3.state≠.busy:=by
     intro e
     rw[e] at l2
     match st,l2,hst1 with
     |0,l2,_=>cases l2
     |1,_,h=>exact h rfl
     |2,l2,_=>cases l2
     |3,l2,_=>cases l2
    have hend:=run_endLoop (P:=P) l1 hbusy
    have hsz3:w.heap.size<w3.heap.size:=c2.lt _ _ hp3
    obtain ⟨t1,t2⟩:=c2.turn (w':=w3.putObj w.heap.size (.loop {L3 with state:= .exhausted})) hp3 (by rw[ho1];simp) (.loop 3 pd tm ps2 a2 b2)
     ⟨_,World.putObj_heap_same hsz3,rfl,l3,l4,l5,l6,l7,l8,l9⟩ (by simp) rfl rfl rfl (fun q hq=>World.putObj_heap_other hq)
    have hle:ι.le ι3:=i2.trans c4.le
    have hend':=stepR_endRangeFunc (P:=P) (b:=b) (a:={a with defers:=mark++a.defers}) (k:=k) (cs:=cs) hend
    have hsteps:=hto.trans (.one hend')
    have hmv:Mv P B rnd b ι ctx h cs w ι3 dfs ctx (h3.put h.next (.loop 3 pd tm ps2 a2 b2)) (mark++a.defers) cs (w3.putObj w.heap.size (.loop {L3 with state:= .exhausted})):=
     ⟨⟨s.df.mono hle,s.cx.mono hle,t1,by simpa using c3,s.rn.mono hle⟩,(i4.trans c4).trans t2,.refl _ _⟩
    generalize w3.putObj w.heap.size (.loop {L3 with state:= .exhausted})=w4 at hsteps hmv
    cases pd with
    |none=>
     cases hre
     rw[show L3.pending=none from l3] at hsteps
     exact ⟨ι3,{a with defers:=mark++a.defers},cs,_,hsteps,hT.mono hle,hmv,rfl⟩
    |ret=>
     cases hre
     rw[show L3.pending=some .ret from l3] at hsteps
     exact ⟨ι3,{a with defers:=mark++a.defers},cs,_,⟨k,hsteps⟩,hT.mono hle,hmv,rfl⟩
    |exit id=>
     cases hre
     rw[show L3.pending=some (.exit id) from l3] at hsteps
     exact ⟨ι3,{a with defers:=mark++a.defers},cs,_,⟨k,rfl,hsteps⟩,hT.mono hle,hmv,rfl⟩
  |_=>cases hre
 |pan v x h3=>
  rw[hcr] at hcall hrun'
  cases hrun'
  obtain ⟨ι3,v',w3,c1,c2,c3,c4,w2,c5⟩:=hcall (b.atR {a with defers:=mark++a.defers} (.inRangeFunc w.heap.size::k)) cs
  have hle:ι.le ι3:=i2.trans c4.le
  refine ⟨ι3,{a with defers:=mark++a.defers},cs,w3,⟨.inRangeFunc w.heap.size::k,v',c1, ?_⟩,hT.mono hle,⟨⟨s.df.mono hle,s.cx.mono hle,c2,c3,s.rn.mono hle⟩,i4.trans c4,.refl _ _⟩,rfl⟩
  rw[←Frame.raise_atR b {a with defers:=mark++a.defers} (.inRangeFunc w.heap.size::k)]
  rcases c5 with ⟨f',ar,c5,c6⟩|⟨l,f',tm,x,y,c5,c6⟩
  ·refine .head (step_lone_go ?_) c6
   rw[hstep];simp[stepG.apply,hs,c5,Frame.atR]
  ·refine .head (step_lone_go ?_) c6
   rw[hstep];simp[stepG.apply,hs,c5,Frame.atR]
end
end Nm
namespace Nm
open Go
variable [Val]
section
variable {P:Program} {S:Nat->List NV->Option NV}
theorem zu (hM:P.follows .mixedOrders=true) {n:Nat} (hO:ir P S n) (hC:CallsOK P S (ev P S n)):ir P S (n+1):=by
 intro c nc fn bl la hc hk rnd d o d' hrun st hst B b k ι a cs w hfn hT s hsz
 have self:∀{x:Code} {nx:NC} {bl la:List Nat},cI P x=some nx->CheckCode.code P fn bl la x= .ok ()->∀{d1:Dyn} {o1:Out} {d2:Dyn},ev P S n rnd nx d1= .mk o1 d2->∀{st:Item},B6 st x->
  ∀{k:List Item} {ι:aW} {a:Act} {cs:List Frame} {w:World},TR ι d1.t a.tmps->Sd P ι B rnd d1.dfs d1.ctx d1.h b a.defers cs w->fn.ntmps<=a.tmps.size->
  dk P B rnd b k (lone (b.atR a (st::k)) cs w) ι d1.ctx d1.h a.tmps.size cs w o1 d2:=
  fun hx hkx _ _ _ hr _ hs _ _ _ _ _ hT s hsz=>hO _ _ fn _ _ hx hkx rnd _ _ _ hr _ hs B b _ _ _ _ _ hfn hT s hsz
 have hcode:(∀x,c≠.loop x)->st= .code c:=fun h=>by
  rcases hst with h1|⟨x,h1,_⟩
  ·exact h1
  ·exact absurd h1 (h x)
 cases c with
 |skip=>
  rw[hcode (by simp)]
  cases hc
  have hrun':(Res.mk .norm d)= .mk o d':=hrun
  cases hrun'
  exact ⟨ι,a,cs,w,.one stepR_skip,hT,Mv.refl s,rfl⟩
 |region id ops draw=>
  rw[hcode (by simp)]
  cases draw with
  |false=>
   have hc':(match dz P ops ops.toList 0 [] with|some l=>some (NC.reg l)|none=>none)=some nc:=hc
   split at hc'
   ·rename_i l hl
    cases hc'
    have hrun':c9 P S (ev P S n) rnd l d= .mk o d':=hrun
    obtain ⟨t,dfs,ctx,h⟩:=d
    refine dk.of_steps (.one stepR_region) ?_
    have:=zt (k:=k) hC (mh hk) ops.toList 0 l [] (fun j=>by simp) hl t dfs ctx h o d' hrun' ι a cs w hT s hsz
    rw[List.range_eq_range']
    simpa using this
   ·cases hc'
  |true=>
   obtain ⟨l,rfl,hL⟩:=GL hc
   have hrun':yQ P S (ev P S n) l rnd d= .mk o d':=hrun
   have hs':Sd P ι B rnd d.dfs d.ctx d.h b a.defers cs w.drew:=⟨s.df,s.cx,s.rel.drew,s.base,s.rn⟩
   refine dk.undrew (dk.of_steps (.one stepR_region_draw) ?_)
   have hsch:Region.schedule (P.follows .mixedOrders) ops (w.tape w.drawn (.order b.fn id))=Region.linearise .any ops (w.tape w.drawn (.order b.fn id)):=by unfold Region.schedule;rw[hM];rfl
   rw[hsch]
   exact vW hC (mh hk) hL hsz hrun' hs' hT rfl _
 |seq x y=>
  rw[hcode (by simp)]
  have hc':(match cI P x with|some a=>(match cI P y with|some b=>some (NC.seq a b)|none=>none)|none=>none)=some nc:=hc
  split at hc'
  ·rename_i nx hx
   split at hc'
   ·rename_i ny hy
    cases hc'
    obtain ⟨k1,k2⟩:=A0 hk
    have hrun':(match ev P S n rnd nx d with
     | .mk o d=>(match o with
      | .norm=>ev P S n rnd ny d
      |o=> .mk o d)
     | .fail=> .fail)=Res.mk o d':=vM.symm.trans hrun
    refine dk.of_steps (.one stepR_seq) ?_
    cases he:ev P S n rnd nx d with
    |fail=>rw[he] at hrun';cases hrun'
    |mk o1 d1=>
     rw[he] at hrun'
     have g1:=self hx k1 he (.inl rfl) (k:= .code y::k) hT s hsz
     cases o1 with
     |norm=>
      exact g1.then fun ι' a' cs' w' hT' s' hz=>by
       have:=self hy k2 hrun' (.inl rfl) (k:=k) hT' s' (by rw[hz];exact hsz)
       rw[hz] at this;exact this
     |ret=>cases hrun';exact g1.out (by simp) (by simp)
     |exit id=>cases hrun';exact g1.out (fun _ _=>rfl) (by simp)
     |pan v=>cases hrun';exact g1.out (by simp) (by simp)
   ·cases hc'
  ·cases hc'
 |cond e x y=>
  rw[hcode (by simp)]
  have hc':(match az e with
   |some c=>(match cI P x with|some a=>(match cI P y with|some b=>some (NC.cond c a b)|none=>none)|none=>none)
   |none=>none)=some nc:=hc
  split at hc'
  ·rename_i ne hne
   split at hc'
   ·rename_i nx hx
    split at hc'
    ·rename_i ny hy
     cases hc'
     obtain ⟨k1,k2⟩:=Ak hk
     have hrun':(match ρ d.t ne with
      |some (.bool c)=>Bool.rec (ev P S n rnd ny d) (ev P S n rnd nx d) c
      |_=> .fail)=Res.mk o d':=xN.symm.trans hrun
     cases hv:ρ d.t ne with
     |none=>rw[hv] at hrun';cases hrun'
     |some v=>
      rw[hv] at hrun'
      cases v with
      |bool q=>
       have hq:=mg hT e ne hne _ hv
       have hev:a.eval e= .bool q:=by generalize a.eval e=z at hq;cases hq;rfl
       refine dk.of_steps (.one (stepR_cond hev)) ?_
       cases q with
       |true=>exact self hx k1 hrun' (.inl rfl) hT s hsz
       |false=>exact self hy k2 hrun' (.inl rfl) hT s hsz
      |_=>cases hrun'
    ·cases hc'
   ·cases hc'
  ·cases hc'
 |block id x=>
  rw[hcode (by simp)]
  have hc':(match cI P x with|some a=>aw id fun id=>some (NC.block id a)|none=>none)=some nc:=hc
  split at hc'
  ·rename_i nx hx
   rw[ae] at hc'
   cases hc'
   have k1:=u5 hk
   have hrun':(match ev P S n rnd nx d with
    | .mk o d=>(match o with
     | .exit i=>cond (Nat.beq i id) (.mk .norm d) (.mk (.exit i) d)
     |o=> .mk o d)
    | .fail=> .fail)=Res.mk o d':=um.symm.trans hrun
   refine dk.of_steps (.one stepR_block) ?_
   cases he:ev P S n rnd nx d with
   |fail=>rw[he] at hrun';cases hrun'
   |mk o1 d1=>
    rw[he] at hrun'
    have g1:=self hx k1 he (.inl rfl) (k:= .inBlock id::k) hT s hsz
    cases o1 with
    |norm=>
     cases hrun'
     obtain ⟨ι1,a1,cs1,w1,q1,q2⟩:=g1
     exact ⟨ι1,a1,cs1,w1,Steps.trans q1 (.one stepR_inBlock),q2⟩
    |ret=>cases hrun';exact g1.out (by simp) (by simp)
    |exit i=>
     dsimp only at hrun'
     cases hb:Nat.beq i id with
     |true=>
      rw[hb] at hrun'
      cases hrun'
      have:=Nat.eq_of_beq_eq_true hb
      subst this
      obtain ⟨ι1,a1,cs1,w1,⟨k0,q0,q1⟩,q2⟩:=g1
      refine ⟨ι1,a1,cs1,w1,Steps.trans q1 (.one (stepR_exit ?_)),q2⟩
      rw[q0];simp[exitTo]
     |false=>
      rw[hb] at hrun'
      cases hrun'
      have hne:=Nat.ne_of_beq_eq_false hb
      refine g1.out (fun i' hi'=> ?_) (by simp)
      cases hi'
      have:(id==i)=false:=by simpa using fun e=>hne e.symm
      simp[exitTo,this]
    |pan v=>cases hrun';exact g1.out (by simp) (by simp)
  ·cases hc'
 |loop x=>
  have hc':(match cI P x with|some a=>some (NC.loop a)|none=>none)=some nc:=hc
  split at hc'
  ·rename_i nx hx
   cases hc'
   have k1:=zV hk
   have hrun':(match ev P S n rnd nx d with
    | .mk o d=>(match o with
     | .norm=>ev P S n rnd (.loop nx) d
     |o=> .mk o d)
    | .fail=> .fail)=Res.mk o d':=re.symm.trans hrun
   have h1:Steps P (lone (b.atR a (st::k)) cs w) (lone (b.atR a (.code x:: .inLoop x::k)) cs w):=by
    rcases hst with rfl|⟨y,hy,rfl⟩
    ·exact .one stepR_loop
    ·cases hy;exact .one stepR_inLoop
   refine dk.of_steps h1 ?_
   cases he:ev P S n rnd nx d with
   |fail=>rw[he] at hrun';cases hrun'
   |mk o1 d1=>
    rw[he] at hrun'
    have g1:=self hx k1 he (.inl rfl) (k:= .inLoop x::k) hT s hsz
    cases o1 with
    |norm=>
     exact g1.then fun ι' a' cs' w' hT' s' hz=>by
      have:=self hc hk hrun' (.inr ⟨x,rfl,rfl⟩) (k:=k) hT' s' (by rw[hz];exact hsz)
      rw[hz] at this;exact this
    |ret=>cases hrun';exact g1.out (by simp) (by simp)
    |exit id=>cases hrun';exact g1.out (fun _ _=>rfl) (by simp)
    |pan v=>cases hrun';exact g1.out (by simp) (by simp)
  ·cases hc'
 |exit id=>
  rw[hcode (by simp)]
  have hc':(aw id fun id=>some (NC.exit id))=some nc:=hc
  rw[ae] at hc'
  cases hc'
  have hrun':Res.mk (.exit id) d= .mk o d':=hrun
  cases hrun'
  exact ⟨ι,a,cs,w,⟨k,rfl,Steps.refl P _⟩,hT,Mv.refl s,rfl⟩
 |ret=>
  rw[hcode (by simp)]
  cases hc
  have hrun':Res.mk .ret d= .mk o d':=hrun
  cases hrun'
  exact ⟨ι,a,cs,w,⟨k,Steps.refl P _⟩,hT,Mv.refl s,rfl⟩
 |rangeFunc g ps x y=>
  rw[hcode (by simp)]
  have hc':(match az g,s8 ps.toList with
   |some f,some ps=>(match cI P x with|some a=>(match cI P y with|some b=>some (NC.rangeFunc f ps a b)|none=>none)|none=>none)
   |_,_=>none)=some nc:=hc
  split at hc'
  ·rename_i nf nps hf hps
   split at hc'
   ·rename_i nx hx
    split at hc'
    ·rename_i ny hy
     cases hc'
     obtain ⟨k1,k2,k3⟩:=xp hk
     have hnps:=Da hps
     obtain ⟨t,dfs,ctx,h⟩:=d
     have hrun':(match ρ t nf with
      |some (.fn f cap)=>(match (generalizing:=false) rnd with
       |none=>h.new (.defd true) fun m h=>cr P S (ev P S n) f cap nps nx ny t (.mark m::dfs) ctx h
       |some l=>(match h.get l with
        |some (.loop ..)=>cr P S (ev P S n) f cap nps nx ny t dfs ctx h
        |_=> .fail))
      |_=> .fail)=Res.mk o d':=hrun
     cases hv:ρ t nf with
     |none=>rw[hv] at hrun';cases hrun'
     |some v=>
      rw[hv] at hrun'
      cases v with
      |fn f cap=>
       have hq:=mg hT g nf hf _ hv
       obtain ⟨cap',hcap,hg⟩:∃cap',VRL ι cap cap'/\a.eval g= .func (.func f) #[] cap'.toArray:=by
        generalize a.eval g=z at hq
        cases hq with
        |fn _ _ cap' h=>exact ⟨cap',h,rfl⟩
       cases rnd with
       |none=>
        have hro:b.roundOf=none:=s.rn
        have hrun2:(h.new (.defd true) fun m h=>cr P S (ev P S n) f cap nps nx ny t (.mark m::dfs) ctx h)=Res.mk o d':=hrun'
        rw[NH.new_eq] at hrun2
        obtain ⟨ι1,i1,i2,i3,i4⟩:=s.rel.alloc s.base (.defd true) (.deferred (some [])) ⟨w.heap.size,0,0⟩ rfl (fun ι' _=>dY w _)
        have henter:=run_enterLoop_outer (P:=P) (w:=w) b.fn a.tmps ps x y
        have hs1:Sd P ι1 B none (.mark h.next::dfs) ctx (h.add (.defd true)) b ([{target:= .collected w.heap.size,args:=#[]}]++a.defers) cs (w.alloc (.deferred (some []))):=
         ⟨⟨⟨_,i1,rfl⟩,s.df.mono i2⟩,s.cx.mono i2,i3,Nat.le_trans s.base i4.size,s.rn⟩
        have g:=js (k:=k) hC hfn hx hy k2 k3 hnps k1 hrun2 (w0:=w) (mark:= [{target:= .collected w.heap.size,args:=#[]}]) (r:=w.heap.size) (hT.mono i2) hs1 hsz (hcap.mono i2) hg (by rw[hro,henter];simp)
        obtain ⟨ι2,a2,cs2,w2,q1,q2,q3,q4⟩:=g
        exact ⟨ι2,a2,cs2,w2,q1,q2,⟨q3.sd,i4.trans q3.gr,q3.ca⟩,q4⟩
       |some l0=>
        obtain ⟨p0,hp0,hro⟩:=s.rn
        have hrun2:(match h.get l0 with
         |some (.loop ..)=>cr P S (ev P S n) f cap nps nx ny t dfs ctx h
         |_=> .fail)=Res.mk o d':=hrun'
        obtain ⟨ob,ho1,ho2⟩:=s.rel.obj _ _ hp0
        rw[ho1] at hrun2
        cases ob with
        |loop st pd tm ps2 a2 b2=>
         obtain ⟨L3,l1,_⟩:=ho2
         have henter:(Instr.enterLoop b.fn a.tmps ps x y (some p0.b)).run P w= .ok (w.heap.size, []) (w.alloc (.loop {state:= .ready,pending:=none,fn:=b.fn,tmps:=a.tmps,params:=ps,assign:=x,body:=y,defers:=L3.defers})):=by
          unfold Instr.enterLoop
          simp only[Sem.run_bind,run_getLoop l1,run_newObj_alloc,Result.andThen,Sem.run_pure]
         exact js (k:=k) hC hfn hx hy k2 k3 hnps k1 hrun2 (w0:=w) (mark:= []) (r:=L3.defers) hT s hsz hcap hg (by rw[hro,henter])
        |_=>cases hrun2
      |_=>cases hrun'
    ·cases hc'
   ·cases hc'
  ·cases hc'
 |_=>cases hc
end
end Nm
namespace Nm
open Go
variable [Val]
def x6 (ι:aW):Option NV->FrameMode->Prop
 |none,m=>m= .returning
 |some v,m=>∃v',m= .panicking [{v:=v',recovered:=false}]/\VR ι v v'
theorem x6.mono {ι ι':aW} (hι:ι.le ι') {p:Option NV} {m:FrameMode} (h:x6 ι p m):x6 ι' p m:=by
 cases p with
 |none=>exact h
 |some v=>obtain ⟨v',h1,h2⟩:=h;exact ⟨v',h1,h2.mono hι⟩
theorem x6.ne_run {ι:aW} {p:Option NV} {m:FrameMode} (h:x6 ι p m):m≠.run:=by
 cases p with
 |none=>rw[show m= .returning from h];simp
 |some v=>obtain ⟨v',h1,h2⟩:=h;rw[h1];simp
theorem x6.settle {ι:aW} {p:Option NV} {m:FrameMode} (h:x6 ι p m):Go.settle m=m:=by
 cases p with
 |none=>rw[show m= .returning from h];rfl
 |some v=>obtain ⟨v',h1,h2⟩:=h;rw[h1];rfl
theorem x6.ctx {ι:aW} {p:Option NV} {c:Frame} {cs:List Frame} (h:x6 ι p c.mode):uZ ι .deferred (c::cs) p:=by
 cases p with
 |none=>
  intro b hb
  have h':c.mode= .returning:=h
  unfold tryRecover
  rw[hb]
  simp only[h']
 |some v=>
  obtain ⟨v',h1,h2⟩:=h
  exact ⟨rfl,c,cs,v', [],rfl,h1,h2⟩
section
variable {P:Program} {S:Nat->List NV->Option NV} {B:Nat}
def Eg (tmps:Array Value):ResultVar->Sem Value
 | .tmp t=>pure (tmps.getD t undef)
 | .cell a t=>do loadVar t (←asAddr (tmps.getD a undef))
omit [Val] in
theorem vD (fn:Func) (tmps:Array Value):results fn tmps=(do let vs ←fn.results.mapM (Eg tmps);pure (if h:vs.size=1 then vs[0] else .tuple vs)):=by
 unfold results
 congr 1
noncomputable def ru (h:NH) (t:Tm):NRes->NR
 | .tmp k=>(match NT.get k t with|some v=>NR.val v|none=> .fail)
 | .cell1 k=>fF (.tmp k) t h
 | .cellN k n=>fD n (.tmp k) t h
omit [Val] in
theorem rk (h:NH) (t:Tm) (r:NRes) (l:List NRes) (F:CR) (K:List NV->CR):
 cp h t (r::l) F K=(match ru h t r with| .val v=>cp h t l F fun l=>K (v::l)|_=>F):=by
 cases r<;>rfl
omit [Val] in
theorem nq {w:World} {T:TypeId} {v:Value} {u:Value} (h:aG ((Instr.loadAt T v).run P w)= .ok (.value u) w):(do loadVar T (←asAddr v):Sem Value).run P w= .ok u w:=by
 cases v with
 |pointer a=>
  cases a with
  |none=>simp[aG,Instr.loadAt,Instr.sureAddr,stuck,Sem.run_bind,Sem.run,Result.andThen] at h
  |some a=>
   simp only[aG,Instr.loadAt,Instr.sureAddr,asAddr,Sem.run_bind,Sem.run_pure,Result.andThen] at h ⊢
   cases hr:Sem.run P (loadVar T a) w with
   |ok x w1=>rw[hr] at h;cases h;rfl
   |halt x w1=>rw[hr] at h;cases h
 |_=>simp[aG,Instr.loadAt,Instr.sureAddr,stuck,Sem.run_bind,Sem.run,Result.andThen] at h
theorem Ar {ι:aW} {h:NH} {w:World} {t:Tm} {tmps:Array Value} (hT:TR ι t tmps) (hR:Rel P ι B h w) {r0:CR} (hr0:r0≠.fail):∀(l:List ResultVar) (nl:List NRes) (K:List NV->CR),cZ P l=some nl->cp h t nl .fail K=r0->
 ∃vs vs',K vs=r0/\VRL ι vs vs'/\(l.mapM (Eg tmps)).run P w= .ok vs' w:=by
 have ov:∀k:Nat,OV ι t (.tmp (D4.of k)) (tmps.getD k undef):=by
  intro k v hv
  obtain ⟨v',h1,h2⟩:=hT k v hv
  rw[xX h1];exact h2
 intro l
 induction l with
 |nil=>
  intro nl K hc hk
  cases hc
  exact ⟨[], [],hk,.nil,by simp⟩
 |cons r l ih=>
  intro nl K hc hk
  have step:∀{nr:NRes} {nl':List NRes},cZ P l=some nl'->nl=nr::nl'->(∀v,ru h t nr= .val v->∃v',(Eg tmps r).run P w= .ok v' w/\VR ι v v')->
   ∃vs vs',K vs=r0/\VRL ι vs vs'/\((r::l).mapM (Eg tmps)).run P w= .ok vs' w:=by
   intro nr nl' h1 h2 h3
   subst h2
   rw[rk] at hk
   cases hv:ru h t nr with
   |val v=>
    rw[hv] at hk
    obtain ⟨v',q1,q2⟩:=h3 v hv
    obtain ⟨vs,vs',p1,p2,p3⟩:=ih nl' _ h1 hk
    refine ⟨v::vs,v'::vs',p1,.cons _ _ _ _ q2 p2, ?_⟩
    rw[List.mapM_cons]
    simp only[Sem.run_bind,q1,p3,Result.andThen,Sem.run_pure]
   |_=>rw[hv] at hk;exact absurd hk.symm hr0
  cases r with
  |tmp k=>
   have hc':(match cZ P l with|some l=>D4.ofNat k fun t=>some (NRes.tmp t::l)|none=>none)=some nl:=by
    have e:cZ P (.tmp k::l)=(match ResultVar.tmp k,cZ P l with
     | .tmp t,some l=>D4.ofNat t fun t=>some (.tmp t::l)
     | .cell t ty,some l=>(match kJ P ty with
      |some none=>D4.ofNat t fun t=>some (.cell1 t::l)
      |some (some n)=>D4.ofNat t fun t=>some (.cellN t n::l)
      |none=>none)
     |_,none=>none):=rfl
    rw[e] at hc
    cases hl:cZ P l with
    |none=>rw[hl] at hc;exact hc
    |some l1=>rw[hl] at hc;exact hc
   cases hl:cZ P l with
   |none=>rw[hl] at hc';cases hc'
   |some l1=>
    rw[hl] at hc'
    have hc2:(D4.ofNat k fun t=>some (NRes.tmp t::l1))=some nl:=hc'
    rw[D4.ofNat_eq] at hc2
    refine step hl (Option.some.inj hc2).symm fun v hv=> ?_
    have hv':(match NT.get (D4.of k) t with|some v=>NR.val v|none=> .fail)=NR.val v:=hv
    cases hg:NT.get (D4.of k) t with
    |none=>rw[hg] at hv';cases hv'
    |some u=>
     rw[hg] at hv';cases hv'
     exact ⟨_,rfl,ov k _ hg⟩
  |cell k T=>
   have e:cZ P (.cell k T::l)=(match ResultVar.cell k T,cZ P l with
    | .tmp t,some l=>D4.ofNat t fun t=>some (.tmp t::l)
    | .cell t ty,some l=>(match kJ P ty with
     |some none=>D4.ofNat t fun t=>some (.cell1 t::l)
     |some (some n)=>D4.ofNat t fun t=>some (.cellN t n::l)
     |none=>none)
    |_,none=>none):=rfl
   rw[e] at hc
   cases hl:cZ P l with
   |none=>rw[hl] at hc;cases hc
   |some l1=>
    rw[hl] at hc
    dsimp only at hc
    cases ha:kJ P T with
    |none=>rw[ha] at hc;cases hc
    |some q=>
     rw[ha] at hc
     cases q with
     |none=>
      have hc2:(D4.ofNat k fun t=>some (NRes.cell1 t::l1))=some nl:=hc
      rw[D4.ofNat_eq] at hc2
      refine step hl (Option.some.inj hc2).symm fun v hv=> ?_
      have:=lR (B:=B) (h:=h) (w:=w) ha (ov k) hR
      rw[show fF (.tmp (D4.of k)) t h= .val v from hv] at this
      obtain ⟨v',h1,h2⟩:=this
      exact ⟨v',nq h1,h2⟩
     |some m=>
      have hc2:(D4.ofNat k fun t=>some (NRes.cellN t m::l1))=some nl:=hc
      rw[D4.ofNat_eq] at hc2
      refine step hl (Option.some.inj hc2).symm fun v hv=> ?_
      have:=md (B:=B) (h:=h) (w:=w) ha (ov k) hR
      rw[show fD m (.tmp (D4.of k)) t h= .val v from hv] at this
      obtain ⟨v',h1,h2⟩:=this
      exact ⟨v',nq h1,h2⟩
theorem pD {ι:aW} {h:NH} {w:World} {t:Tm} {tmps:Array Value} (hT:TR ι t tmps) (hR:Rel P ι B h w) {fn:Func} {nl:List NRes} (hc:cZ P fn.results.toList=some nl) {ctx:Option NV} {r0:CR} (hr0:r0≠.fail)
 (h0:cp h t nl .fail (fun l=> .val (ic l) ctx h)=r0):∃v v',r0= .val v ctx h/\VR ι v v'/\(results fn tmps).run P w= .ok v' w:=by
 obtain ⟨vs,vs',h1,h2,h3⟩:=Ar hT hR hr0 _ _ _ hc h0
 refine ⟨ic vs,if h:vs'.toArray.size=1 then vs'.toArray[0] else .tuple vs'.toArray,h1.symm, ?_, ?_⟩
 ·cases h2 with
  |nil=>exact .tup [] [] .nil
  |cons v v' l l' hv hl=>
   cases hl with
   |nil=>exact hv
   |cons u u' l l' hu hl=>
    have:¬(v'::u'::l').toArray.size=1:=by simp
    rw[dif_neg this]
    exact .tup _ _ (.cons _ _ _ _ hv (.cons _ _ _ _ hu hl))
 ·rw[vD,Array.mapM_eq_mapM_toList]
  simp only[Sem.run_bind,map_eq_pure_bind,h3,Result.andThen,Sem.run_pure]
end
end Nm
namespace Nm
open Go
variable [Val]
section
variable {P:Program} {S:Nat->List NV->Option NV} {B:Nat}
omit [Val] in
theorem je {f:Nat} {nf:NFun} (h:aD P f=some (.code nf)):∃fn c,P.funcs[f]? =some fn/\fn.body=some c/\fn.name≠ "runtime.NumGoroutine" /\cI P c=some nf.body/\cZ P fn.results.toList=some nf.results:=by
 unfold aD at h
 split at h
 ·rename_i fn hfn
  cases hn:(fn.name== "runtime.NumGoroutine") with
  |true=>rw[hn] at h;cases h
  |false=>
   rw[hn] at h
   simp only[cond_false] at h
   split at h
   ·rename_i c hb
    split at h
    ·rename_i nb nr h1 h2
     rw[ae] at h
     cases h
     exact ⟨fn,c,hfn,hb,by simpa using hn,h1,h2⟩
    ·cases h
   ·split at h<;>cases h
 ·cases h
omit [Val] in
theorem lJ {f:Nat} {fn:Func} {c:Code} (hf:P.funcs[f]? =some fn) (hb:fn.body=some c) (hn:fn.name≠ "runtime.NumGoroutine") (args:Array Value) (w:World):(callFunc f args).run P w= .ok (.enter f args) w:=by
 simp[callFunc,hf,hb,hn]
noncomputable def dL:List NV->Nat->Tm->Tm
 | [],_,t=>t
 |v::vs,k,t=>dL vs (k+1) (NT.put (D4.of k) v t)
omit [Val] in
theorem C1 {R:Type} (vs:List NV) (K:Tm->R):C0 vs K=K (dL vs 0 .leaf):=by
 have go:∀(vs:List NV) (k:Nat) (t:Tm),(List.rec (motive:=fun _=>D4->Tm->R) (fun _ t=>K t) (fun v _ ih k t=>NT.set k v t fun t=>k.succ fun k=>ih k t) vs (D4.of k) t:R)=K (dL vs k t):=by
  intro vs
  induction vs with
  |nil=>intro k t;rfl
  |cons v vs ih=>
   intro k t
   have e:(List.rec (motive:=fun _=>D4->Tm->R) (fun _ t=>K t) (fun v _ ih k t=>NT.set k v t fun t=>k.succ fun k=>ih k t) (v::vs) (D4.of k) t:R)=
    NT.set (D4.of k) v t fun t=>(D4.of k).succ fun k=>(List.rec (motive:=fun _=>D4->Tm->R) (fun _ t=>K t) (fun v _ ih k t=>NT.set k v t fun t=>k.succ fun k=>ih k t) vs k t:R):=rfl
   rw[e,NT.set_eq,D4.succ_eq]
   exact ih (k+1) _
 exact go vs 0 .leaf
omit [Val] in
theorem wx:∀(vs:List NV) (k:Nat) (t:Tm) (j:Nat) (v:NV),NT.get (D4.of j) (dL vs k t)=some v->(∃i,j=k+i/\vs[i]? =some v)∨(NT.get (D4.of j) t=some v/\(j<k∨k+vs.length<=j)):=by
 intro vs
 induction vs with
 |nil=>intro k t j v h;exact .inr ⟨h,by simp;omega⟩
 |cons u vs ih=>
  intro k t j v h
  rcases ih (k+1) _ j v h with ⟨i,h1,h2⟩|⟨h1,h2⟩
  ·exact .inl ⟨i+1,by omega,by simpa using h2⟩
  ·by_cases e:j=k
   ·subst e
    rw[NT.get_put_same] at h1
    exact .inl ⟨0,rfl,by simpa using h1⟩
   ·rw[NT.get_put_ne (fun x=>e (D4.of_inj x))] at h1
    exact .inr ⟨h1,by simp;omega⟩
theorem Ey {ι:aW} {args:List NV} {args':List Value} (h:VRL ι args args') (n:Nat):TR ι (dL args 0 .leaf) (args'.toArray++Array.replicate n undef):=by
 intro j v hv
 rcases wx args 0 .leaf j v hv with ⟨i,h1,h2⟩|⟨h1,_⟩
 ·obtain ⟨v',h3,h4⟩:=h.get h2
  refine ⟨v', ?_,h4⟩
  have:j=i:=by omega
  subst this
  have hlt:=(List.getElem?_eq_some_iff.1 h3).1
  rw[Array.getElem?_append_left (by simpa using hlt)]
  simpa using h3
 ·rw[NT.get_leaf] at h1;cases h1
def KQ (P:Program) (B:Nat) (ι:aW) (h:NH) (w:World) (fr0:Frame) (kind:CallKind) (ctx:Option NV) (cs:List Frame):CR->Prop
 | .fail=>True
 | .val v ctx' h'=>∃ι' v' w' cs' fr,VR ι' v v'/\Rel P ι' B h' w'/\B<=w'.heap.size/\Grow ι h w ι' h' w'/\mS cs ctx cs' ctx'/\Steps P (lone fr0 cs w) (lone fr cs' w')/\fr.kind=kind/\fr.fn=fr0.fn/\fr.going P w' (.returned v')
 | .pan v ctx' h'=>∃ι' v' w' cs' fr,VR ι' v v'/\Rel P ι' B h' w'/\B<=w'.heap.size/\Grow ι h w ι' h' w'/\mS cs ctx cs' ctx'/\Steps P (lone fr0 cs w) (lone fr cs' w')/\fr.kind=kind/\fr.fn=fr0.fn/\fr.going P w' (.panicked [{v:=v',recovered:=false}])
def Gx (P:Program) (callF:Nat->List NV->Option NV->NH->CR):Prop:=
 ∀(f:Nat) (args:List NV) (p:Option NV) (h:NH),callF f args p h≠.fail->(∃nf,aD P f=some (.code nf))/\
  ∀(B:Nat) (ι:aW) (w:World) (args':List Value) (kind:CallKind) (cs:List Frame),Rel P ι B h w->B<=w.heap.size->VRL ι args args'->uZ ι kind cs p->
   KQ P B ι h w (Frame.enter P f args'.toArray kind) kind p cs (callF f args p h)
omit [Val] in
theorem lQ (callF:Nat->List NV->Option NV->NH->CR) (K:Option NV->NH->CR) (c:Dfr) (l:List Dfr) (p:Option NV) (h:NH):
 unwind callF K (c::l) p h=match c with
  | .call f cap=>(match callF f cap p h with
   | .val _ p h=>unwind callF K l p h
   |_=> .fail)
  | .mark id=>match h.get id with
   |some (.defd true)=>unwind callF K l p (h.put id (.defd false))
   |_=> .fail:=by
 have e:unwind callF K (c::l) p h=match c with
  | .call f cap=>(match callF f cap p h with
   | .val _ p h=>unwind callF K l p h
   |_=> .fail)
  | .mark id=>match h.get id with
   |some (.defd true)=>h.set id (.defd false) fun h=>unwind callF K l p h
   |_=> .fail:=rfl
 rw[e]
 cases c with
 |call f cap=>rfl
 |mark id=>
  dsimp only
  split
  ·exact NH.set_eq _ _ _ _
  ·rfl
theorem rM {callF:Nat->List NV->Option NV->NH->CR} (hF:Gx P callF) {K:Option NV->NH->CR} {r:CR} (hr:r≠.fail):∀(l:List Dfr) (p:Option NV) (h:NH),unwind callF K l p h=r->
 ∀(ι:aW) (w:World) (fr:Frame) (cs:List Frame),DR ι l fr.defers->Rel P ι B h w->B<=w.heap.size->x6 ι p fr.mode->
 ∃p' h' ι' w' fr',K p' h'=r/\Rel P ι' B h' w'/\B<=w'.heap.size/\Grow ι h w ι' h' w'/\x6 ι' p' fr'.mode/\fr'.defers= []/\fr'.tmps=fr.tmps/\fr'.fn=fr.fn/\fr'.kind=fr.kind/\Steps P (lone fr cs w) (lone fr' cs w'):=by
 intro l
 induction l with
 |nil=>
  intro p h hu ι w fr cs hd hR hB hm
  have hde:fr.defers= []:=by
   cases hds:fr.defers with
   |nil=>rfl
   |cons d ds=>rw[hds] at hd;exact hd.elim
  exact ⟨p,h,ι,w,fr,hu,hR,hB,.refl _ _ _,hm,hde,rfl,rfl,rfl,Steps.refl P _⟩
 |cons c l ih=>
  intro p h hu ι w fr cs hd hR hB hm
  rw[lQ] at hu
  cases hds:fr.defers with
  |nil=>rw[hds] at hd;cases c<;>exact hd.elim
  |cons d ds=>
   rw[hds] at hd
   cases c with
   |mark id=>
    obtain ⟨⟨pl,hp,hde⟩,hd'⟩:=hd
    have hu':(match h.get id with
     |some (.defd true)=>unwind callF K l p (h.put id (.defd false))
     |_=> .fail)=r:=hu
    obtain ⟨ob,ho1,ho2⟩:=hR.obj _ _ hp
    rw[ho1] at hu'
    cases ob with
    |defd q=>
     cases q with
     |false=>exact absurd hu'.symm hr
     |true=>
      have hob:w.heap[pl.b]? =some (.deferred (some [])):=ho2
      have htake:=run_takeDeferred (P:=P) hob
      have hst:=step_collected (cs:=cs) hm.ne_run hds (by rw[hde]) htake
      have hlt:=hR.lt _ _ hp
      obtain ⟨t1,t2⟩:=hR.turn (w':=w.putObj pl.b (.deferred none)) hp (by rw[ho1];simp) (.defd false) (World.putObj_heap_same hlt) (by simp) rfl rfl rfl (fun q hq=>World.putObj_heap_other hq)
      obtain ⟨p',h',ι',w',fr',q1,q2,q3,q4,q5,q6,q7,q8,q9,q10⟩:=ih p _ hu' ι _ {fr with defers:= []++ds} cs hd' t1 (by simpa using hB) hm
      exact ⟨p',h',ι',w',fr',q1,q2,q3,t2.trans q4,q5,q6,q7,q8,q9,.head hst q10⟩
    |_=>exact absurd hu'.symm hr
   |call f cap=>
    obtain ⟨⟨cap',hcap,hde⟩,hd'⟩:=hd
    have hu':(match callF f cap p h with
     | .val _ p h=>unwind callF K l p h
     |_=> .fail)=r:=hu
    cases hcf:callF f cap p h with
    |fail=>rw[hcf] at hu';exact absurd hu'.symm hr
    |pan v x h1=>rw[hcf] at hu';exact absurd hu'.symm hr
    |val v p1 h1=>
     rw[hcf] at hu'
     obtain ⟨⟨nf,hnf⟩,hFr⟩:=hF f cap p h (by rw[hcf];simp)
     obtain ⟨fnn,code,e1,e2,e3,_⟩:=je hnf
     have hinv:(invoke d.target d.args).run P w= .ok (.enter f cap'.toArray) w:=by
      rw[hde]
      have:=lJ (P:=P) e1 e2 e3 (#[]++cap'.toArray) w
      simp only[Array.empty_append] at this
      simp only[invoke,Array.empty_append]
      exact this
     have hst:=step_defer (cs:=cs) hm.ne_run hds (by rw[hde]) hinv
     have hfr:=hFr B ι w cap' .deferred ({fr with defers:=ds}::cs) hR hB hcap (x6.ctx (c:={fr with defers:=ds}) hm)
     rw[hcf] at hfr
     obtain ⟨ι1,v',w1,cs1,frx,f1,f2,f3,f4,f5,f6,f7,_,f8⟩:=hfr
     have hback:∃m',x6 ι1 p1 m'/\Steps P (lone fr cs w) (lone {fr with defers:=ds,mode:=m'} cs w1):=by
      rcases f5 with ⟨rfl,rfl⟩|⟨rfl,_,c0,rest,v0,older,g1,g2,rfl⟩
      ·refine ⟨fr.mode,hm.mono f4.le,.head hst (Steps.trans f6 (.one ?_))⟩
       have:=step_going_returned (c:={fr with defers:=ds}) (cs:=cs) f7 f8
       rw[show settle ({fr with defers:=ds}:Frame).mode=fr.mode from hm.settle] at this
       exact this
      ·injection g1 with g3 g4
       subst g3 g4
       refine ⟨.returning,rfl,.head hst (Steps.trans f6 (.one ?_))⟩
       have:=step_going_returned (c:={({fr with defers:=ds}:Frame) with mode:= .panicking ({v:=v0,recovered:=true}::older)}) (cs:=cs) f7 f8
       have hol:older= []:=by
        cases p with
        |none=>
         have:fr.mode= .returning:=hm
         rw[show ({fr with defers:=ds}:Frame).mode=fr.mode from rfl,this] at g2
         cases g2
        |some q=>
         obtain ⟨q',hq1,_⟩:=hm
         rw[show ({fr with defers:=ds}:Frame).mode=fr.mode from rfl,hq1] at g2
         cases g2
         rfl
       rw[hol] at this ⊢
       exact this
     obtain ⟨m',hm',hsteps⟩:=hback
     obtain ⟨p',h',ι',w',fr',q1,q2,q3,q4,q5,q6,q7,q8,q9,q10⟩:=ih p1 h1 hu' ι1 w1 {fr with defers:=ds,mode:=m'} cs (hd'.mono f4.le) f2 f3 hm'
     exact ⟨p',h',ι',w',fr',q1,q2,q3,f4.trans q4,q5,q6,q7,q8,q9,hsteps.trans q10⟩
def kL (P:Program):Prop:=∀(f:Nat) (fn:Func) (c:Code),P.funcs[f]? =some fn->fn.body=some c->CheckCode.code P fn [] [] c= .ok ()
omit [Val] in
theorem kz (h:P.check= .ok ()):kL P:=by
 intro f fn c hf hb
 unfold Program.check at h
 obtain ⟨_,h1,_⟩:=bH h
 have h2:=rb h1 f (by simp;exact (Array.getElem?_eq_some_iff.1 hf).1)
 unfold CheckCode.funcAt at h2
 rw[hf] at h2
 have h3:=tg h2
 unfold CheckCode.func at h3
 obtain ⟨_,_,h3⟩:=bH h3
 obtain ⟨_,_,h3⟩:=bH h3
 obtain ⟨_,_,h3⟩:=bH h3
 rw[hb] at h3
 simp only at h3
 obtain ⟨_,_,h3⟩:=bH h3
 obtain ⟨_,h4,_⟩:=bH h3
 exact h4
omit [Val] in
theorem fb (self:Option D4->NC->Dyn->Res) (depth f:Nat) (args:List NV) (ctx:Option NV) (h:NH):
 cQ P self (depth+1) f args ctx h=match aD P f with
  |some (.code nf)=>(match self none nf.body ⟨dL args 0 .leaf, [],ctx,h⟩ with
   | .mk o d=>(match o with
    | .norm| .ret=>unwind (cQ P self depth) (finish nf.results d) d.dfs none d.h
    | .pan v=>unwind (cQ P self depth) (finish nf.results d) d.dfs (some v) d.h
    | .exit _=> .fail)
   | .fail=> .fail)
  |_=> .fail:=by
 have e:cQ P self (depth+1) f args ctx h=match aD P f with
  |some (.code nf)=>C0 args fun t=>(match self none nf.body ⟨t, [],ctx,h⟩ with
   | .mk o d=>(match o with
    | .norm| .ret=>unwind (cQ P self depth) (finish nf.results d) d.dfs none d.h
    | .pan v=>unwind (cQ P self depth) (finish nf.results d) d.dfs (some v) d.h
    | .exit _=> .fail)
   | .fail=> .fail)
  |_=> .fail:=rfl
 rw[e]
 split
 ·exact C1 _ _
 ·rfl
theorem iE (hK:kL P) {n:Nat} (hO:ir P S n):∀depth,Gx P (cQ P (ev P S n) depth):=by
 intro depth
 induction depth with
 |zero=>intro f args p h hne;exact absurd rfl hne
 |succ depth ih=>
  intro f args p h hne
  rw[fb] at hne ⊢
  cases hcf:aD P f with
  |none=>rw[hcf] at hne;exact absurd rfl hne
  |some x=>
   cases x with
   |ext e=>rw[hcf] at hne;exact absurd rfl hne
   |code nf=>
    refine ⟨⟨nf,rfl⟩,fun B ι w args' kind cs hR hB hargs hctx=> ?_⟩
    rw[hcf] at hne
    dsimp only at hne ⊢
    obtain ⟨fn,c,hf,hb,hname,hcc,hres⟩:=je hcf
    let b:Frame:={(default:Frame) with fn:=f,kind:=kind}
    let a0:Act:={tmps:=args'.toArray++Array.replicate (fn.ntmps - args'.toArray.size) undef,defers:= []}
    have henter:Frame.enter P f args'.toArray kind=b.atR a0 [.code c]:=by
     simp[Frame.enter,Frame.atR,hf,hb,b,a0]
     rfl
    cases hev:ev P S n none nf.body ⟨dL args 0 .leaf, [],p,h⟩ with
    |fail=>rw[hev] at hne;exact absurd rfl hne
    |mk o d=>
     rw[hev] at hne
     have hs:Sd P ι B none [] p h b a0.defers cs w:=⟨trivial,hctx,hR,hB,rfl⟩
     have hgo:=hO c nf.body fn [] [] hcc (hK f fn c hf hb) none ⟨dL args 0 .leaf, [],p,h⟩ o d hev (.code c) (.inl rfl) B b [] ι a0 cs w hf (Ey hargs _) hs (by simp[a0];omega)
     rw[←henter] at hgo
     obtain ⟨ι1,a1,cs1,w1,g1,g2,g3,g4⟩:=hgo
     have out:∀(q:Option NV) (fr1:Frame),(unwind (cQ P (ev P S n) depth) (finish nf.results d) d.dfs q d.h)≠.fail->x6 ι1 q fr1.mode->fr1.defers=a1.defers->fr1.tmps=a1.tmps->fr1.kind=kind->fr1.fn=f->
      Steps P (lone (Frame.enter P f args'.toArray kind) cs w) (lone fr1 cs1 w1)->KQ P B ι h w (Frame.enter P f args'.toArray kind) kind p cs (unwind (cQ P (ev P S n) depth) (finish nf.results d) d.dfs q d.h):=by
      intro q fr1 hq hm hdf htm hkd hfn hst
      have sd:=g3.sd
      obtain ⟨p',h',ι',w',fr',q1,q2,q3,q4,q5,q6,q7,q8,q9,q10⟩:=rM ih hq d.dfs q d.h rfl ι1 w1 fr1 cs1 (by rw[hdf];exact sd.df) sd.rel sd.base hm
      have hTR:TR ι' d.t fr'.tmps:=by rw[q7,htm];exact g2.mono q4.le
      have hff:P.funcs[fr'.fn]? =some fn:=by rw[q8,hfn];exact hf
      cases p' with
      |none=>
       have q1':cp h' d.t nf.results .fail (fun l=> .val (ic l) d.ctx h')=unwind (cQ P (ev P S n) depth) (finish nf.results d) d.dfs q d.h:=q1
       obtain ⟨v,v',r1,r2,r3⟩:=pD hTR q2 hres hq q1'
       rw[r1]
       exact ⟨ι',v',w',cs1,fr',r2,q2,q3,g3.gr.trans q4,g3.ca,hst.trans q10,by rw[q9,hkd],by rw[q8,hfn];rfl,q5,q6,fn,hff,r3⟩
      |some v=>
       have q1':CR.pan v d.ctx h'=unwind (cQ P (ev P S n) depth) (finish nf.results d) d.dfs q d.h:=q1
       rw[←q1']
       obtain ⟨v',m1,m2⟩:=q5
       exact ⟨ι',v',w',cs1,fr',m2,q2,q3,g3.gr.trans q4,g3.ca,hst.trans q10,by rw[q9,hkd],by rw[q8,hfn];rfl,m1,q6,fn,hff⟩
     cases o with
     |norm=>
      have g1':Steps P (lone (Frame.enter P f args'.toArray kind) cs w) (lone (b.atR a1 []) cs1 w1):=g1
      exact out none {b.atR a1 [] with mode:= .returning} hne rfl rfl rfl rfl rfl (g1'.trans (.one (stepR_end rfl)))
     |ret=>
      obtain ⟨k0,g1'⟩:=g1
      exact out none {b.atR a1 (.code .ret::k0) with mode:= .returning} hne rfl rfl rfl rfl rfl (g1'.trans (.one (stepR_ret rfl)))
     |exit id=>exact absurd rfl hne
     |pan v=>
      obtain ⟨td,v',m1,g1'⟩:=g1
      exact out (some v) _ hne ⟨v',rfl,m1⟩ rfl rfl rfl rfl g1'
end
end Nm
namespace Nm
open Go
variable [Val]
omit [Val] in
theorem x1:Extern.allNextRows.lookup "math/bits.Add64" =none:=by kernel_rfl
omit [Val] in
theorem x2:Extern.allNextRows.lookup "" =none:=by kernel_rfl
omit [Val] in
theorem x3:Extern.allGenericRows.lookup "math/bits.Add64" =none:=by kernel_rfl
omit [Val] in
theorem x4:Extern.allTypedRows.lookup "math/bits.Add64" =none:=by kernel_rfl
omit [Val] in
theorem x5:Extern.allRows.lookup "math/bits.Add64" =some add64Entry:=by kernel_rfl
omit [Val] in
theorem y1:Extern.allNextRows.lookup "internal/bytealg.IndexByteString" =none:=by kernel_rfl
omit [Val] in
theorem y3:Extern.allGenericRows.lookup "internal/bytealg.IndexByteString" =none:=by kernel_rfl
omit [Val] in
theorem y4:Extern.allTypedRows.lookup "internal/bytealg.IndexByteString" =none:=by kernel_rfl
omit [Val] in
theorem y5:Extern.allRows.lookup "internal/bytealg.IndexByteString" =some Extern.BytealgIndexByte.indexByte:=by kernel_rfl
omit [Val] in
theorem Fv (c:Nat):∀(l:List Nat) (i:Nat),As c l i=(l.findIdx? (fun x=>x==c)).map (·+i):=by
 intro l
 induction l with
 |nil=>intro i;rfl
 |cons x l ih=>
  intro i
  have e:As c (x::l) i=cond (Nat.beq x c) (some i) (aw (Nat.succ i) (As c l)):=rfl
  rw[e,ae,ih,List.findIdx?_cons]
  cases h:Nat.beq x c with
  |true=>have:=Nat.eq_of_beq_eq_true h;simp[this]
  |false=>
   have:=Nat.ne_of_beq_eq_false h
   simp only[cond_false]
   rw[if_neg (by simpa using this)]
   cases List.findIdx? (fun x=>x==c) l with
   |none=>rfl
   |some j=>simp;omega
omit [Val] in
theorem xi (p:Nat->Bool):∀n,(List.range n).find? p=none↔∀i,i<n->p i=false:=by
 intro n;simp
omit [Val] in
theorem sR (s:ByteArray) (c:Nat) (hc:c<=255):firstIdx s c.toUInt8=match As c (s.data.toList.map UInt8.toNat) 0 with|some i=>(i:Int)|none=>-1:=by
 rw[Fv]
 have hsz:s.data.toList.length=s.size:=bw s
 have hml:(s.data.toList.map UInt8.toNat).length=s.size:=by rw[List.length_map,hsz]
 have hat:∀i (h:i<s.size),(s[i]! ==c.toUInt8)=(((s.data.toList.map UInt8.toNat)[i]'(by rw[hml];exact h))==c):=by
  intro i h
  have e:s[i]! =s.data.toList[i]'(by rw[hsz];exact h):=by
   rw[getElem!_pos s i h];simp[ByteArray.getElem_eq_getElem_data]
  rw[e,List.getElem_map]
  rw[Bool.eq_iff_iff]
  simp only[beq_iff_eq]
  constructor
  ·intro h;rw[h];simp;omega
  ·intro h;rw[←h];simp
 unfold firstIdx
 cases hf:(s.data.toList.map UInt8.toNat).findIdx? (fun x=>x==c) with
 |none=>
  have h1:(List.range s.size).find? (fun i=>s[i]! ==c.toUInt8)=none:=by
   rw[xi]
   intro i hi
   rw[hat i hi]
   rw[List.findIdx?_eq_none_iff] at hf
   exact hf _ (List.getElem_mem _)
  rw[h1];rfl
 |some j=>
  rw[List.findIdx?_eq_some_iff_getElem] at hf
  obtain ⟨hj,h1,h2⟩:=hf
  have hj':j<s.size:=by rw[←hml];exact hj
  have h3:(List.range s.size).find? (fun i=>s[i]! ==c.toUInt8)=some j:=by
   rw[List.find?_range_eq_some]
   refine ⟨?_,by simpa using hj',fun k hk=> ?_⟩
   ·rw[hat j hj'];exact h1
   ·rw[hat k (by omega)]
    simpa using h2 k hk
  rw[h3];simp
section
variable {P:Program} {S:Nat->List NV->Option NV} {B:Nat}
theorem zL {ι:aW} {fn:Func} {e:Ext} {f:Nat} (hf:P.funcs[f]? =some fn) (hb:fn.body=none) (he:yJ fn=some e) {args:List NV} {args':List Value} (ha:VRL ι args args') {v:NV} (hv:nC e args=some v) (w:World):
 ∃v',(callFunc f args'.toArray).run P w= .ok (.value v') w/\VR ι v v':=by
 unfold yJ at he
 obtain ⟨ho,he⟩:=af he
 have ho':fn.origin= "" :=by simpa using ho
 cases hn:(fn.name== "math/bits.Add64") with
 |true=>
  rw[hn] at he
  cases he
  have hname:fn.name= "math/bits.Add64" :=by simpa using hn
  have hnx:Extern.findNext fn=none:=by unfold Extern.findNext;rw[hname,ho'];simp only[x1,x2];rfl
  have hfi:Extern.find fn=some add64Entry:=by unfold Extern.find;rw[hname,ho'];simp only[x3,x4,x5];rfl
  have hcall:=run_callFunc_extern hf (by rw[hname];decide) (by rw[hb];rfl) hnx hfi args'.toArray w
  unfold nC at hv
  split at hv
  ·rename_i x y c hargs
   obtain ⟨hc1,hv⟩:=af hv
   rw[ae,ae] at hv
   cases hv
   cases ha with
   |cons _ _ _ _ h1 ha=>
    cases ha with
    |cons _ _ _ _ h2 ha=>
     cases ha with
     |cons _ _ _ _ h3 ha=>
      cases ha
      cases h1;cases h2;cases h3
      have hc:=Nat.le_of_ble_eq_true hc1
      refine ⟨_, ?_,.tup [_,_] [_,_] (.cons _ _ _ _ (.int .u64 _) (.cons _ _ _ _ (.int .u64 _) .nil))⟩
      have:=run_add64 (P:=P) (Int.ofNat x) (Int.ofNat y) (Int.ofNat c) (Int.natCast_nonneg _) (Int.natCast_nonneg _) (Int.natCast_nonneg _) (by show (c:Int)<=1;omega) w
      rw[hcall]
      show Result.andThen (Sem.run P (add64Entry #[.int .u64 (Int.ofNat x),.int .u64 (Int.ofNat y),.int .u64 (Int.ofNat c)]) w) _=_
      rw[this]
      rfl
  ·rename_i h;cases h
  ·cases hv
 |false=>
  rw[hn] at he
  simp only[cond_false] at he
  obtain ⟨hn2,he⟩:=af he
  cases he
  have hname:fn.name= "internal/bytealg.IndexByteString" :=by simpa using hn2
  have hnx:Extern.findNext fn=none:=by unfold Extern.findNext;rw[hname,ho'];simp only[y1,x2];rfl
  have hfi:Extern.find fn=some Extern.BytealgIndexByte.indexByte:=by unfold Extern.find;rw[hname,ho'];simp only[y3,y4,y5];rfl
  have hcall:=run_callFunc_extern hf (by rw[hname];decide) (by rw[hb];rfl) hnx hfi args'.toArray w
  unfold nC at hv
  split at hv
  ·rename_i h;cases h
  ·rename_i s c _
   obtain ⟨hc1,hv⟩:=af hv
   have hc:=Nat.le_of_ble_eq_true hc1
   cases ha with
   |cons _ _ _ _ h1 ha=>
    cases ha with
    |cons _ _ _ _ h2 ha=>
     cases ha
     cases h2
     cases h1 with
     |str l s' hs=>
      subst hs
      have hrun:=run_indexByte_string (P:=P) s' (Int.ofNat c) w
      refine ⟨.int .i64 (firstIdx s' c.toUInt8), ?_, ?_⟩
      ·rw[hcall]
       show Result.andThen (Sem.run P (Extern.BytealgIndexByte.indexByte #[.string s',.int .u8 (Int.ofNat c)]) w) _=_
       rw[hrun]
       rfl
      ·rw[sR s' c hc]
       cases hi:As c (s'.data.toList.map UInt8.toNat) 0 with
       |none=>rw[hi] at hv;cases hv;exact .int .i64 _
       |some i=>rw[hi] at hv;cases hv;exact .int .i64 _
  ·cases hv
def kD (P:Program) (S:Nat->List NV->Option NV):Prop:=
 ∀(ι:aW) (B:Nat) (h:NH) (w:World) (f:Nat) (args:List NV) (args':List Value) (v:NV),S f args=some v->Rel P ι B h w->B<=w.heap.size->VRL ι args args'->
  ss P ι B h w ((callFunc f args'.toArray).run P w) (.val v none h)
theorem Dp:kD P Ma:=fun _ _ _ _ _ _ _ _ h=>by cases h
omit [Val] in
theorem An {f:Nat} {e:Ext} (h:aD P f=some (.ext e)):∃fn,P.funcs[f]? =some fn/\fn.body=none/\yJ fn=some e:=by
 unfold aD at h
 split at h
 ·rename_i fn hfn
  cases hn:(fn.name== "runtime.NumGoroutine") with
  |true=>rw[hn] at h;cases h
  |false=>
   rw[hn] at h
   simp only[cond_false] at h
   split at h
   ·split at h
    ·rw[ae] at h;cases h
    ·cases h
   ·rename_i hb
    split at h
    ·rename_i e' he;cases h;exact ⟨fn,hfn,hb,he⟩
    ·cases h
 ·cases h
omit [Val] in
theorem d9 {fr:Frame} {w:World} {e:Ending} (hk:fr.kind= .normal) (h:fr.going P w e):fr.leaving P w e:=by
 cases e with
 |returned v=>exact ⟨h.1,h.2.1,hk,h.2.2⟩
 |panicked c=>exact h
 |outgrown=>trivial
theorem n4 (hK:kL P) (hS:kD P S) {n:Nat} (hO:ir P S n) (ι:aW) (B:Nat) (h:NH) (w:World) (f:Nat) (args:List NV) (args':List Value) (hR:Rel P ι B h w) (hB:B<=w.heap.size) (ha:VRL ι args args'):
 ss P ι B h w ((callFunc f args'.toArray).run P w) (cm P S (ev P S n) f args h):=by
 unfold cm
 cases hs:S f args with
 |some v=>exact hS ι B h w f args args' v hs hR hB ha
 |none=>
  dsimp only
  cases hcf:aD P f with
  |none=>trivial
  |some x=>
   cases x with
   |ext e=>
    dsimp only
    cases hx:nC e args with
    |none=>trivial
    |some v=>
     intro c cs
     obtain ⟨fn,h1,h2,h3⟩:=An hcf
     obtain ⟨v',e1,e2⟩:=zL h1 h2 h3 ha hx w
     exact ⟨ι,v',w,e2,hR,hB,.refl _ _ _,.inl e1⟩
   |code nf=>
    dsimp only
    have hD:=iE hK hO 3 f args none h
    obtain ⟨fn,code,e1,e2,e3,_⟩:=je hcf
    have hent:=lJ (P:=P) e1 e2 e3 args'.toArray w
    cases hr:cQ P (ev P S n) 3 f args none h with
    |fail=>trivial
    |val v x h'=>
     intro c cs
     obtain ⟨_,hF⟩:=hD (by rw[hr];simp)
     have hF:=hF B ι w args' .normal (c::cs) hR hB ha (fun b hb=>by unfold tryRecover;rw[hb])
     rw[hr] at hF
     obtain ⟨ι',v',w',cs',fr,f1,f2,f3,f4,f5,f6,f7,_,f8⟩:=hF
     obtain ⟨rfl,_⟩:=f5.none
     exact ⟨ι',v',w',f1,f2,f3,f4,.inr ⟨w,.inl ⟨f,args'.toArray,hent,Steps.trans f6 (.one (step_leave_returned (d9 f7 f8)))⟩⟩⟩
    |pan v x h'=>
     intro c cs
     obtain ⟨_,hF⟩:=hD (by rw[hr];simp)
     have hF:=hF B ι w args' .normal (c::cs) hR hB ha (fun b hb=>by unfold tryRecover;rw[hb])
     rw[hr] at hF
     obtain ⟨ι',v',w',cs',fr,f1,f2,f3,f4,f5,f6,f7,_,f8⟩:=hF
     obtain ⟨rfl,_⟩:=f5.none
     exact ⟨ι',v',w',f1,f2,f3,f4,w,.inl ⟨f,args'.toArray,hent,Steps.trans f6 (.one (step_leave_panicked (d9 f7 f8)))⟩⟩
noncomputable def po:List D4->List NV->Tm->Tm
 |p::ps,v::vs,t=>po ps vs (NT.put p v t)
 |_,_,t=>t
omit [Val] in
theorem ml {r:CR} (hr:r≠.fail) {K:Tm->CR}:∀{ps:List D4} {vs:List NV} {t:Tm},dN .fail ps vs t K=r->vs.length=ps.length/\K (po ps vs t)=r:=by
 intro ps
 induction ps with
 |nil=>
  intro vs t h
  cases vs with
  |nil=>exact ⟨rfl,h⟩
  |cons v vs=>exact absurd (show CR.fail=r from h).symm hr
 |cons p ps ih=>
  intro vs t h
  cases vs with
  |nil=>exact absurd (show CR.fail=r from h).symm hr
  |cons v vs=>
   have e:dN .fail (p::ps) (v::vs) t K=NT.set p v t fun t=>dN .fail ps vs t K:=rfl
   rw[e,NT.set_eq] at h
   obtain ⟨h1,h2⟩:=ih h
   exact ⟨by simp[h1],h2⟩
theorem Fl {ι:aW}:∀{ps:List Nat} {vs:List NV} {vs':List Value} {t:Tm} {a:Array Value},VRL ι vs vs'->TR ι t a->(∀q∈ps,q<a.size)->
 TR ι (po (ps.map D4.of) vs t) ((ps.zip vs').foldl (fun tmps (t,a)=>tmps.setIfInBounds t a) a)/\((ps.zip vs').foldl (fun tmps (t,a)=>tmps.setIfInBounds t a) a).size=a.size:=by
 intro ps
 induction ps with
 |nil=>intro vs vs' t a _ hT _;cases vs<;>exact ⟨hT,rfl⟩
 |cons p ps ih=>
  intro vs vs' t a hv hT hp
  cases hv with
  |nil=>exact ⟨hT,rfl⟩
  |cons v v' vs vs' h1 h2=>
   have hT':=hT.put (hp p (by simp)) h1
   obtain ⟨q1,q2⟩:=ih h2 hT' (fun q hq=>by simp;exact hp q (by simp[hq]))
   exact ⟨q1,q2.trans (by simp)⟩
def JF (P:Program) (B:Nat) (ι:aW) (h:NH) (w:World) (fr0:Frame) (c:Frame) (cs:List Frame):CR->Prop
 | .fail=>True
 | .val v _ h'=>∃ι' v' w',VR ι' v v'/\Rel P ι' B h' w'/\B<=w'.heap.size/\Grow ι h w ι' h' w'/\Steps P (lone fr0 (c::cs) w) (lone (c.finish v') cs w')
 | .pan v _ h'=>∃ι' v' w',VR ι' v v'/\Rel P ι' B h' w'/\B<=w'.heap.size/\Grow ι h w ι' h' w'/\Steps P (lone fr0 (c::cs) w) (lone (c.raise [{v:=v',recovered:=false}]) cs w')
theorem lS {n:Nat} (hO:ir P S n) (ι:aW) (B:Nat) (h:NH) (w:World) (l:D4) (p:Pl) (args:List NV) (args':List Value) (hR:Rel P ι B h w) (hB:B<=w.heap.size) (ha:VRL ι args args') (hp:ι l=some p):
 ss P ι B h w ((Instr.yield p.b args'.toArray).run P w) (round (ev P S n) l args h):=by
 by_cases hne:round (ev P S n) l args h= .fail
 ·rw[hne];trivial
 generalize hrr:round (ev P S n) l args h=r at hne
 have hrr':=hrr
 unfold round at hrr'
 obtain ⟨ob,ho1,ho2⟩:=hR.obj _ _ hp
 rw[ho1] at hrr'
 cases ob with
 |loop st pd tm ps na nb=>
  cases st with
  |succ st=>exact absurd hrr'.symm hne
  |zero=>
   obtain ⟨L,l1,l2,l3,l4,l5,l6,l7,⟨fn,bl,la,lb,l8,l9,l10,l11,_⟩,l12⟩:=ho2
   obtain ⟨hlen,hrr2⟩:=ml hne hrr'
   have hsz:args'.toArray.size=L.params.size:=by
    have:=ha.length
    rw[l5] at hlen
    simp at hlen ⊢;omega
   have hy:=run_yield (P:=P) l1 hsz
   obtain ⟨t1,t2⟩:=Fl (ps:=L.params.toList) ha l4 l12
   have hz:(L.params.zip args'.toArray).foldl (fun tmps (t,a)=>tmps.setIfInBounds t a) L.tmps=(L.params.toList.zip args').foldl (fun tmps (t,a)=>tmps.setIfInBounds t a) L.tmps:=by
    rw[←Array.foldl_toList,Array.toList_zip]
   rw[hz] at hy
   rw[←l5] at t1
   generalize (L.params.toList.zip args').foldl (fun tmps (t,a)=>tmps.setIfInBounds t a) L.tmps=tmps at hy t1 t2
   let b:Frame:={(default:Frame) with fn:=L.fn,kind:= .normal,roundOf:=some p.b}
   have hfr:Frame.round p.b L.fn tmps L.assign L.body .normal=b.atR {tmps:=tmps,defers:= []} [.code L.assign,.beginRound,.code L.body]:=by
    simp[Frame.round,Frame.atR,b]
   cases hev:ev P S n (some l) na ⟨po ps args tm, [],none,h⟩ with
   |fail=>rw[hev] at hrr2;exact absurd hrr2.symm hne
   |mk o d=>
    rw[hev] at hrr2
    cases o with
    |norm=>
     dsimp only at hrr2
     cases hdd:d.dfs with
     |cons x xs=>rw[hdd] at hrr2;exact absurd hrr2.symm hne
     |nil=>
      rw[hdd] at hrr2
      have hrb:cJ (ev P S n) l nb d.t d.h=r:=hrr2
      have main:∀(c:Frame) (cs:List Frame),JF P B ι h w (Frame.round p.b L.fn tmps L.assign L.body .normal) c cs r:=by
       intro c cs
       have hctx:∀ι:aW,uZ ι b.kind (c::cs) none:=fun ι b' hb'=>by unfold tryRecover;rw[hb']
       have hs:Sd P ι B (some l) [] none h b ([]:List Deferred) (c::cs) w:=⟨trivial,hctx ι,hR,hB,⟨p,hp,rfl⟩⟩
       have hgo:=hO L.assign na fn [] [] l6 l10 (some l) ⟨po ps args tm, [],none,h⟩ .norm d hev (.code L.assign) (.inl rfl) B b [.beginRound,.code L.body] ι {tmps:=tmps,defers:= []} (c::cs) w l8 t1 hs (by rw[t2];exact l9)
       obtain ⟨ι1,a1,cs1,w1,g1,g2,g3,g4⟩:=hgo
       obtain ⟨rfl,hctx1⟩:=g3.ca.none
       have sd1:=g3.sd
       have hdef1:a1.defers= []:=by
        have:=sd1.df
        rw[hdd] at this
        cases hq:a1.defers with
        |nil=>rfl
        |cons d ds=>rw[hq] at this;exact this.elim
       have hp1:ι1 l=some p:=g3.gr.le _ _ hp
       obtain ⟨ob1,ho3,ho4⟩:=sd1.rel.obj _ _ hp1
       have hrb':=hrb
       unfold cJ at hrb'
       rw[ho3] at hrb'
       cases ob1 with
       |loop st1 pd1 tm1 ps1 na1 nb1=>
        cases st1 with
        |succ st1=>exact absurd hrb'.symm hne
        |zero=>
         replace hrb':d.h.set l (.loop 1 pd1 tm1 ps1 na1 nb1) (fun h=>match ev P S n (some l) nb ⟨d.t, [],none,h⟩ with
          | .mk o d=>(match o with
           | .pan v=>(match d.dfs with| []=>CR.pan v none d.h|_=> .fail)
           |o=>dK l o d.h)
          | .fail=> .fail)=r:=hrb'
         rw[NH.set_eq] at hrb'
         obtain ⟨L1,m1,m2,m3⟩:=ho4
         have hbr:=run_beginRound (P:=P) m1 m2
         have hlt1:=sd1.rel.lt _ _ hp1
         have hst1:SR 1 ({L1 with state:= .busy}:Loop).state:=rfl
         obtain ⟨u1,u2⟩:=sd1.rel.turn (w':=w1.putObj p.b (.loop {L1 with state:= .busy})) hp1 (by rw[ho3];simp) (.loop 1 pd1 tm1 ps1 na1 nb1)
          ⟨_,World.putObj_heap_same hlt1,hst1,m3⟩ (by simp) rfl rfl rfl (fun q hq=>World.putObj_heap_other hq)
         have hbeg:=stepR_beginRound (P:=P) (b:=b) (a:=a1) (k:= [.code L.body]) (cs:=c::cs) rfl hbr
         have hs2:Sd P ι1 B (some l) [] none (d.h.put l (.loop 1 pd1 tm1 ps1 na1 nb1)) b a1.defers (c::cs) (w1.putObj p.b (.loop {L1 with state:= .busy})):=
          ⟨by rw[hdef1];trivial,hctx ι1,u1,by simpa using sd1.base,⟨p,hp1,rfl⟩⟩
         generalize w1.putObj p.b (.loop {L1 with state:= .busy})=w2 at *
         generalize d.h.put l (.loop 1 pd1 tm1 ps1 na1 nb1)=h2 at *
         cases hev2:ev P S n (some l) nb ⟨d.t, [],none,h2⟩ with
         |fail=>rw[hev2] at hrb';exact absurd hrb'.symm hne
         |mk o2 d2=>
          rw[hev2] at hrb'
          have hgo2:=hO L.body nb fn bl la l7 l11 (some l) ⟨d.t, [],none,h2⟩ o2 d2 hev2 (.code L.body) (.inl rfl) B b [] ι1 a1 (c::cs) w2 l8 g2 hs2 (by rw[g4,t2];exact l9)
          obtain ⟨ι3,a3,cs3,w3,e1,e2,e3,e4⟩:=hgo2
          obtain ⟨rfl,_⟩:=e3.ca.none
          have hp3:ι3 l=some p:=e3.gr.le _ _ hp1
          have hpre:Steps P (lone (Frame.round p.b L.fn tmps L.assign L.body .normal) (c::cs) w) (lone (b.atR a1 [.code L.body]) (c::cs) w2):=by
           rw[hfr];exact Steps.trans g1 (.one hbeg)
          have hgr:=(g3.gr.trans u2).trans e3.gr
          have fin:∀(jump:Option Code) (st':Nat) (pd':Jump),dK l o2 d2.h=r->(∀tm ps na nb,(match o2 with
           | .norm=>(d2.h.set l (.loop 0 .none tm ps na nb) fun h=>CR.val (.bool true) none h)
           | .ret=>d2.h.set l (.loop 2 .ret tm ps na nb) fun h=> .val (.bool false) none h
           | .exit id=>d2.h.set l (.loop 2 (.exit id) tm ps na nb) fun h=> .val (.bool false) none h
           | .pan _=> .fail)= .val (.bool jump.isNone) none (d2.h.put l (.loop st' pd' tm ps na nb)))->
           (SR st' (if jump.isNone then .ready else .done))->JR pd' jump->
           (∀(v:Value) (w4:World),(Instr.endRound p.b jump).run P w3= .ok v w4->Steps P (lone (b.atR a1 [.code L.body]) (c::cs) w2) (lone (c.finish v) cs w4))->
           JF P B ι h w (Frame.round p.b L.fn tmps L.assign L.body .normal) c cs r:=by
           intro jump st' pd' hre hval hSR hJR hsteps
           unfold dK at hre
           obtain ⟨ob3,ho5,ho6⟩:=e3.sd.rel.obj _ _ hp3
           rw[ho5] at hre
           cases ob3 with
           |loop st3 pd3 tm3 ps3 na3 nb3=>
            have hre':=(hval tm3 ps3 na3 nb3).symm.trans hre
            rw[←hre']
            obtain ⟨L3,k1,k2,k3,k4⟩:=ho6
            have hend:=run_endRound (P:=P) jump k1
            have hlt3:=e3.sd.rel.lt _ _ hp3
            obtain ⟨z1,z2⟩:=e3.sd.rel.turn (w':=w3.putObj p.b (.loop {L3 with state:=if jump.isNone then .ready else .done,pending:=jump})) hp3 (by rw[ho5];simp) (.loop st' pd' tm3 ps3 na3 nb3)
             ⟨_,World.putObj_heap_same hlt3,hSR,hJR,k4⟩ (by simp) rfl rfl rfl (fun q hq=>World.putObj_heap_other hq)
            exact ⟨ι3,.bool jump.isNone,_,.bool _,z1,by simpa using e3.sd.base,hgr.trans z2,hpre.trans (hsteps _ _ hend)⟩
           |_=>exact absurd hre.symm hne
          cases o2 with
          |norm=>
           exact fin none 0 .none hrb' (fun tm ps na nb=>NH.set_eq _ _ _ _) rfl rfl fun v w4 he=>Steps.trans e1 (.one (stepR_round_end rfl rfl he))
          |ret=>
           obtain ⟨k0,e1⟩:=e1
           exact fin (some .ret) 2 .ret hrb' (fun tm ps na nb=>NH.set_eq _ _ _ _) rfl rfl fun v w4 he=>Steps.trans e1 (.one (stepR_round_ret rfl rfl he))
          |exit id=>
           obtain ⟨k0,e0,e1⟩:=e1
           exact fin (some (.exit id)) 2 (.exit id) hrb' (fun tm ps na nb=>NH.set_eq _ _ _ _) rfl rfl fun v w4 he=>Steps.trans e1 (.one (stepR_round_exit rfl rfl (by rw[e0];rfl) he))
          |pan v=>
           dsimp only at hrb'
           cases hd2:d2.dfs with
           |cons x xs=>rw[hd2] at hrb';exact absurd hrb'.symm hne
           |nil=>
            rw[hd2] at hrb'
            rw[←show CR.pan v none d2.h=r from hrb']
            obtain ⟨td,v',f1,f2⟩:=e1
            have hdef3:a3.defers= []:=by
             have:=e3.sd.df
             rw[hd2] at this
             cases hq:a3.defers with
             |nil=>rfl
             |cons d ds=>rw[hq] at this;exact this.elim
            refine ⟨ι3,v',w3,f1,e3.sd.rel,e3.sd.base,hgr,hpre.trans (Steps.trans f2 (.one (step_leave_panicked ⟨rfl,hdef3,fn,l8⟩)))⟩
       |_=>exact absurd hrb'.symm hne
      cases r with
      |fail=>trivial
      |val v x h'=>
       intro c cs
       obtain ⟨ι',v',w',q1,q2,q3,q4,q5⟩:=main c cs
       exact ⟨ι',v',w',q1,q2,q3,q4,.inr ⟨w,.inr ⟨p.b,L.fn,tmps,L.assign,L.body,hy,q5⟩⟩⟩
      |pan v x h'=>
       intro c cs
       obtain ⟨ι',v',w',q1,q2,q3,q4,q5⟩:=main c cs
       exact ⟨ι',v',w',q1,q2,q3,q4,w,.inr ⟨p.b,L.fn,tmps,L.assign,L.body,hy,q5⟩⟩
    |_=>exact absurd hrr2.symm hne
 |_=>exact absurd hrr'.symm hne
theorem nH (hM:P.follows .mixedOrders=true) (hK:kL P) (hS:kD P S):∀n,ir P S n/\CallsOK P S (ev P S n):=by
 intro n
 induction n with
 |zero=>
  have h0:ir P S 0:=fun c nc fn bl la _ _ rnd d o d' h=>by cases h
  exact ⟨h0,⟨n4 hK hS h0,lS h0⟩⟩
 |succ n ih=>
  have h1:ir P S (n+1):=zu hM ih.1 ih.2
  exact ⟨h1,⟨n4 hK hS h1,lS h1⟩⟩
end
end Nm
namespace Nm
open Go Go.RowKit
variable [Val]
noncomputable def D5 (cf:Nat->Option NFn) (S:Nat->List NV->Option NV) (n f:Nat) (args:List NV):CR:=cQ cf (ev cf S n) 3 f args none ⟨.leaf,.e⟩
def ι0:aW:=fun _=>none
theorem KV (P:Program) (w:World):Rel P ι0 w.heap.size ⟨.leaf,.e⟩ w where
 obj:=fun i p h=>by cases h
 inj:=fun i j p q h=>by cases h
 base:=fun i p h=>by cases h
 lt:=fun i p h=>by cases h
 fresh:=fun i o h=>by rw[show NH.get ⟨.leaf,.e⟩ i=NT.get i .leaf from rfl,NT.get_leaf] at h;cases h
theorem Fx {P:Program} {S:Nat->List NV->Option NV} (hM:P.follows .mixedOrders=true) (hP:P.check= .ok ()) (hS:kD P S) {n f:Nat} {args:List NV} {v:NV} {x:Option NV} {h:NH} (hr:D5 P S n f args= .val v x h) {args':List Value} (ha:VRL ι0 args args') (w:World):
 Calls P f args'.toArray w fun e w'=>(∃ι v',e= .returned v'/\VR ι v v'/\Rel P ι w.heap.size h w')/\Below w.heap.size w w':=by
 intro cs
 obtain ⟨hO,_⟩:=nH hM (kz hP) hS n
 have hD:=iE (kz hP) hO 3 f args none ⟨.leaf,.e⟩
 obtain ⟨_,hF⟩:=hD (by rw[show cQ P (ev P S n) 3 f args none ⟨.leaf,.e⟩= .val v x h from hr];simp)
 have hF:=hF w.heap.size ι0 w args' .normal cs (KV P w) (Nat.le_refl _) ha (fun b hb=>by unfold tryRecover;rw[hb])
 rw[show cQ P (ev P S n) 3 f args none ⟨.leaf,.e⟩= .val v x h from hr] at hF
 obtain ⟨ι',v',w',cs',fr,f1,f2,f3,f4,f5,f6,f7,f8,f9⟩:=hF
 obtain ⟨rfl,_⟩:=f5.none
 refine ⟨.returned v',w',fr,⟨⟨ι',v',rfl,f1,f2⟩,⟨f4.os,f4.tape,f4.output,f4.size,fun k hk=>f4.frame k hk fun i p hi=>by cases hi⟩⟩,f6,f8,d9 f7 f9⟩
end Nm
namespace Nm
open Go Go.RowKit
variable [Val]
mutual
def eH:NV->Bool
 | .bool _| .int _ _| .str _| .nilp| .nils| .nilm| .nilf| .nili=>true
 | .ifc _ v=>eH v
 | .agg l=>j7 l
 | .tup l=>j7 l
 |_=>false
def j7:List NV->Bool
 | []=>true
 |v::l=>eH v&&j7 l
end
mutual
theorem VR.plain {ι ι':aW}:∀{v:NV} {v':Value},VR ι v v'->eH v=true->VR ι' v v'
 |_,_,.bool b,_=> .bool b
 |_,_,.int k n,_=> .int k n
 |_,_,.ige k a n h,_=> .ige k a n h
 |_,_,.ile k a n h,_=> .ile k a n h
 |_,_,.sym k c ts n h hn,_=> .sym k c ts n h hn
 |_,_,.str l s h,_=> .str l s h
 |_,_,.nilp,_=> .nilp
 |_,_,.ptr ..,h=>by simp[eH] at h
 |_,_,.nils,_=> .nils
 |_,_,.slc ..,h=>by simp[eH] at h
 |_,_,.nilm,_=> .nilm
 |_,_,.map ..,h=>by simp[eH] at h
 |_,_,.nilf,_=> .nilf
 |_,_,.fn ..,h=>by simp[eH] at h
 |_,_,.yld ..,h=>by simp[eH] at h
 |_,_,.nili,_=> .nili
 |_,_,.ifc t v v' h,k=> .ifc t v v' (VR.plain h (by simpa [eH] using k))
 |_,_,.agg l l' h h1,k=> .agg l l' (VRL.plain h (by simpa [eH] using k)) h1
 |_,_,.tup l l' h,k=> .tup l l' (VRL.plain h (by simpa [eH] using k))
theorem VRL.plain {ι ι':aW}:∀{l:List NV} {l':List Value},VRL ι l l'->j7 l=true->VRL ι' l l'
 |_,_,.nil,_=> .nil
 |_,_,.cons v v' l l' h hl,k=> .cons v v' l l' (VR.plain h (by simp[j7] at k;exact k.1)) (VRL.plain hl (by simp[j7] at k;exact k.2))
end
noncomputable def JG (f:Nat) (args:List NV) (v:NV) (S:Nat->List NV->Option NV):Nat->List NV->Option NV:=fun g l=>
 cond (Nat.beq g f) (cond (iq (bP 3) l args) (some v) (S g l)) (S g l)
noncomputable def te (cf:Nat->Option NFn) (S:Nat->List NV->Option NV) (n f:Nat) (args:List NV) (v:NV):Bool:=
 match D5 cf S n f args with
 | .val u _ _=>cond (j7 args) (cond (eH v) (bP 5 u v) false) false
 |_=>false
omit [Val] in
theorem tR {P:Program} {self:Option D4->NC->Dyn->Res} {d f:Nat} {args:List NV} {ctx:Option NV} {h:NH} (hn:cQ P self d f args ctx h≠.fail):∃nf,aD P f=some (.code nf):=by
 cases d with
 |zero=>exact absurd rfl hn
 |succ d=>
  rw[fb] at hn
  cases hc:aD P f with
  |none=>rw[hc] at hn;exact absurd rfl hn
  |some x=>
   cases x with
   |code nf=>exact ⟨nf,rfl⟩
   |ext e=>rw[hc] at hn;exact absurd rfl hn
theorem Gg {P:Program} {S:Nat->List NV->Option NV} (hM:P.follows .mixedOrders=true) (hP:P.check= .ok ()) (hS:kD P S) {n f:Nat} {args:List NV} {v:NV} (hr:te P S n f args v=true):kD P (JG f args v S):=by
 intro ι B h w g l l' u hg hR hB hl
 have hg':cond (Nat.beq g f) (cond (iq (bP 3) l args) (some v) (S g l)) (S g l)=some u:=hg
 by_cases h1:Nat.beq g f=true/\iq (bP 3) l args=true
 ·obtain ⟨h2,h3⟩:=h1
  rw[h2,h3] at hg'
  cases hg'
  have:=Nat.eq_of_beq_eq_true h2
  subst this
  have:=kR (kE 3) h3
  subst this
  unfold te at hr
  split at hr
  ·rename_i u x h0 hrun
   obtain ⟨p1,hr⟩:=de hr
   obtain ⟨p2,hr⟩:=de hr
   have:=kE _ _ _ hr
   subst this
   intro c cs
   have hcalls:=Fx hM hP hS hrun (hl.plain p1) w
   obtain ⟨e,w',fr,⟨⟨ι1,v',he,hv,_⟩,hb⟩,hcomes,hfn,hleave⟩:=hcalls (c::cs)
   subst he
   obtain ⟨nf,hnf⟩:=tR (show cQ P (ev P S n) 3 g l none ⟨.leaf,.e⟩≠.fail by rw[show cQ P (ev P S n) 3 g l none ⟨.leaf,.e⟩=_ from hrun];simp)
   obtain ⟨fn,code,e1,e2,e3,_⟩:=je hnf
   refine ⟨ι,v',w',hv.plain p2,⟨fun i p hi=> ?_,hR.inj,hR.base,fun i p hi=>Nat.lt_of_lt_of_le (hR.lt i p hi) hb.size,hR.fresh⟩,Nat.le_trans hB hb.size, ?_,.inr ⟨w,.inl ⟨g,l'.toArray,lJ e1 e2 e3 _ w,Steps.trans hcomes (.one (step_leave_returned hleave))⟩⟩⟩
   ·obtain ⟨o,o1,o2⟩:=hR.obj i p hi
    exact ⟨o,o1,o2.mono (aW.le_refl _) (hb.block _ (hR.lt i p hi))⟩
   ·exact ⟨aW.le_refl _,Nat.le_refl _,fun _ _ x=> .inl x,fun i p x y=> .inr ⟨i,p,x,y,rfl⟩,fun _ _ _=>rfl,hb.size,hb.os,hb.tape,hb.output,fun b hb' _=>hb.block b hb'⟩
  ·cases hr
 ·have:S g l=some u:=by
   cases h2:Nat.beq g f with
   |false=>rw[h2] at hg';exact hg'
   |true=>
    rw[h2] at hg'
    cases h3:iq (bP 3) l args with
    |false=>rw[h3] at hg';exact hg'
    |true=>exact absurd ⟨h2,h3⟩ h1
  exact hS ι B h w g l l' u this hR hB hl
noncomputable def aP (P:Program) (k:Nat) (nf:NFun) (f:Nat):Option NFn:=cond (Nat.beq f k) (some (.code nf)) (aD P f)
noncomputable def aS (m:Nat) (a b:Nat->Option NFn) (f:Nat):Option NFn:=cond (Nat.ble f m) (a f) (b f)
def jw (P:Program) (cf:Nat->Option NFn):Prop:=∀f,cf f=aD P f
omit [Val] in
theorem aq {P:Program} {k:Nat} {nf:NFun} (h:aD P k=some (.code nf)):jw P (aP P k nf):=fun f=>by
 unfold aP
 cases hb:Nat.beq f k with
 |false=>rfl
 |true=>rw[Nat.eq_of_beq_eq_true hb];exact h.symm
omit [Val] in
theorem au {P:Program} {m:Nat} {a b:Nat->Option NFn} (ha:jw P a) (hb:jw P b):jw P (aS m a b):=fun f=>by
 unfold aS
 cases Nat.ble f m with
 |false=>exact hb f
 |true=>exact ha f
omit [Val] in
theorem jw.kept {P:Program} {cf:Nat->Option NFn} (h:jw P cf) {S:Nat->List NV->Option NV} {n f:Nat} {args:List NV} {v:NV} (hr:te cf S n f args v=true):te P S n f args v=true:=by
 have e:cf=aD P:=funext h
 rw[e] at hr;exact hr
end Nm
namespace Nm
open Go Go.RowKit
noncomputable section
end
end Nm
namespace Nm
open Go Go.RowKit
def Le (a b:Option D4->NC->Dyn->Res):Prop:=∀r c d o d',a r c d= .mk o d'->b r c d= .mk o d'
section
variable {P:Program} {S:Nat->List NV->Option NV} {a b:Option D4->NC->Dyn->Res}
theorem iI {F G:Nat->List NV->Option NV->NH->CR} (h:∀f l p m r,F f l p m=r->r≠.fail->G f l p m=r) {K:Option NV->NH->CR}:∀(l:List Dfr) (p:Option NV) (m:NH) (r:CR),unwind F K l p m=r->r≠.fail->unwind G K l p m=r:=by
 intro l
 induction l with
 |nil=>exact fun p m r e _=>e
 |cons c l ih=>
  intro p m r e hr
  rw[lQ] at e ⊢
  cases c with
  |mark id=>
   dsimp only at e ⊢
   split at e
   ·exact ih _ _ _ e hr
   ·exact absurd e.symm hr
  |call f cap=>
   dsimp only at e ⊢
   cases hf:F f cap p m with
   |fail=>rw[hf] at e;exact absurd e.symm hr
   |pan v x m'=>rw[hf] at e;exact absurd e.symm hr
   |val v x m'=>
    rw[hf] at e
    rw[h f cap p m _ hf (by simp)]
    exact ih _ _ _ e hr
theorem vo (h:Le a b):∀(d f:Nat) (l:List NV) (p:Option NV) (m:NH) (r:CR),cQ P a d f l p m=r->r≠.fail->cQ P b d f l p m=r:=by
 intro d
 induction d with
 |zero=>intro f l p m r e hr;exact absurd e.symm hr
 |succ d ih=>
  intro f l p m r e hr
  rw[fb] at e ⊢
  cases hc:aD P f with
  |none=>rw[hc] at e;exact absurd e.symm hr
  |some x=>
   cases x with
   |ext x=>rw[hc] at e;exact absurd e.symm hr
   |code nf=>
    rw[hc] at e
    dsimp only at e ⊢
    cases ha:a none nf.body ⟨dL l 0 .leaf, [],p,m⟩ with
    |fail=>rw[ha] at e;exact absurd e.symm hr
    |mk o d'=>
     rw[ha] at e
     rw[h _ _ _ _ _ ha]
     cases o with
     |norm=>exact iI (fun f l p m r=>ih f l p m r) _ _ _ _ e hr
     |ret=>exact iI (fun f l p m r=>ih f l p m r) _ _ _ _ e hr
     |pan v=>exact iI (fun f l p m r=>ih f l p m r) _ _ _ _ e hr
     |exit id=>exact absurd e.symm hr
theorem dt (h:Le a b) {f:Nat} {l:List NV} {m:NH} {r:CR} (e:cm P S a f l m=r) (hr:r≠.fail):cm P S b f l m=r:=by
 unfold cm at e ⊢
 cases hs:S f l with
 |some v=>rw[hs] at e;exact e
 |none=>
  rw[hs] at e
  dsimp only at e ⊢
  cases hc:aD P f with
  |none=>rw[hc] at e;exact e
  |some x=>
   rw[hc] at e
   cases x with
   |ext x=>exact e
   |code nf=>exact vo h _ _ _ _ _ _ e hr
theorem oW (h:Le a b) {l:D4} {bd:NC} {t:Tm} {m:NH} {r:CR} (e:cJ a l bd t m=r) (hr:r≠.fail):cJ b l bd t m=r:=by
 unfold cJ at e ⊢
 split at e
 ·rename_i p tm ps assign body hm
  rw[NH.set_eq] at e ⊢
  cases ha:a (some l) bd ⟨t, [],none,m.put l (.loop 1 p tm ps assign body)⟩ with
  |fail=>rw[ha] at e;exact absurd e.symm hr
  |mk o d=>rw[ha] at e;rw[h _ _ _ _ _ ha];exact e
 ·exact absurd e.symm hr
theorem fj (h:Le a b) {l:D4} {args:List NV} {m:NH} {r:CR} (e:round a l args m=r) (hr:r≠.fail):round b l args m=r:=by
 unfold round at e ⊢
 split at e
 ·rename_i x tm ps assign body hm
  obtain ⟨h1,h2⟩:=ml hr e
  have key:∀K:Tm->CR,dN .fail ps args tm K=K (po ps args tm):=by
   clear e h2 hm
   intro K
   induction ps generalizing args tm with
   |nil=>cases args with
    |nil=>rfl
    |cons=>simp at h1
   |cons q ps ih=>
    cases args with
    |nil=>simp at h1
    |cons v vs=>
     have e:dN .fail (q::ps) (v::vs) tm K=NT.set q v tm fun t=>dN .fail ps vs t K:=rfl
     rw[e,NT.set_eq]
     exact ih _ (by simpa using h1)
  rw[key]
  cases ha:a (some l) assign ⟨po ps args tm, [],none,m⟩ with
  |fail=>rw[ha] at h2;exact absurd h2.symm hr
  |mk o d=>
   rw[ha] at h2
   rw[h _ _ _ _ _ ha]
   cases o with
   |norm=>
    dsimp only at h2 ⊢
    split at h2
    ·exact oW h h2 hr
    ·exact absurd h2.symm hr
   |_=>exact absurd h2.symm hr
 ·exact absurd e.symm hr
theorem mU (h:Le a b) {rnd:Option D4} {dfs:List Dfr} {ctx:Option NV} {m:NH} {x:NR} {r:OpO} (e:dQ P S a rnd dfs ctx m x=r) (hr:r≠.fail):dQ P S b rnd dfs ctx m x=r:=by
 cases x with
 |call f l=>
  have e':yf dfs ctx (cm P S a f l m)=r:=e
  have hn:cm P S a f l m≠.fail:=fun hh=>by rw[hh] at e';exact hr e'.symm
  show yf dfs ctx (cm P S b f l m)=r
  rw[dt h rfl hn];exact e'
 |yld l args=>
  have e':yf dfs ctx (round a l args m)=r:=e
  have hn:round a l args m≠.fail:=fun hh=>by rw[hh] at e';exact hr e'.symm
  show yf dfs ctx (round b l args m)=r
  rw[fj h rfl hn];exact e'
 |_=>exact e
theorem Cq {dst:Option D4} {K L:Dyn->Res} (hk:∀d o d',K d= .mk o d'->L d= .mk o d') {t:Tm} {dfs:List Dfr} {ctx:Option NV} {x:OpO} {o:Out} {d':Dyn} (e:zS dst K t dfs ctx x= .mk o d'):zS dst L t dfs ctx x= .mk o d':=by
 cases x with
 |fail=>cases e
 |next v dfs ctx h=>exact hk _ _ _ e
 |pan v h=>exact e
theorem GX {dst:Option D4} {K:Dyn->Res} {t:Tm} {dfs:List Dfr} {ctx:Option NV} {x:OpO} {o:Out} {d':Dyn} (e:zS dst K t dfs ctx x= .mk o d'):x≠.fail:=by
 rintro rfl;cases e
theorem iw (h:Le a b) {rnd:Option D4}:∀(l:List NOper) (d:Dyn) (o:Out) (d':Dyn),c9 P S a rnd l d= .mk o d'->c9 P S b rnd l d= .mk o d':=by
 intro l
 induction l with
 |nil=>exact fun d o d' e=>e
 |cons x l ih=>
  rintro ⟨t,dfs,ctx,m⟩ o d' e
  rw[cU] at e ⊢
  cases hg:aB t x.guard with
  |none=>rw[hg] at e;cases e
  |some on=>
   rw[hg] at e
   cases on with
   |false=>exact ih _ _ _ e
   |true=>
    dsimp only at e ⊢
    rw[mU h rfl (GX e)]
    exact Cq ih e
theorem lN (h:Le a b) {rnd:Option D4}:∀(l:List NOper) (hs:List (Nat×NH)) (rs:List (Nat×(NH->NR)×NV)) (d:Dyn) (o:Out) (d':Dyn),bQ P S a rnd l hs rs d= .mk o d'->bQ P S b rnd l hs rs d= .mk o d':=by
 intro l
 induction l with
 |nil=>exact fun hs rs d o d' e=>e
 |cons x l ih=>
  rintro hs rs ⟨t,dfs,ctx,m⟩ o d' e
  rw[bX] at e ⊢
  cases hg:aB t x.guard with
  |none=>rw[hg] at e;cases e
  |some on=>
   rw[hg] at e
   cases on with
   |false=>exact ih _ _ _ _ _ e
   |true=>
    dsimp only at e ⊢
    cases hcl:aj x.op with
    |pure=>
     rw[hcl] at e
     dsimp only at e ⊢
     cases hop:ag x.op t m<;>rw[hop] at e<;>first|exact ih _ _ _ _ _ e|cases e
    |alloc=>
     rw[hcl] at e
     dsimp only at e ⊢
     cases ha:ahead x.pre hs with
     |false=>rw[ha] at e;cases e
     |true=>
      rw[ha] at e
      simp only[cond_true] at e ⊢
      cases hop:ag x.op t m<;>rw[hop] at e<;>first|exact ih _ _ _ _ _ e|cases e
    |read=>
     rw[hcl] at e
     dsimp only at e ⊢
     cases hop:ag x.op t m with
     |val v=>
      rw[hop] at e
      dsimp only at e ⊢
      cases hst:eo x.pre (ag x.op t) v hs with
      |false=>rw[hst] at e;cases e
      |true=>rw[hst] at e;exact ih _ _ _ _ _ e
     |_=>rw[hop] at e;cases e
    |eff=>
     rw[hcl] at e
     dsimp only at e ⊢
     cases ha:ahead x.pre hs with
     |false=>rw[ha] at e;cases e
     |true=>
      rw[ha] at e
      simp only[cond_true] at e ⊢
      have hk:∀d o d',cond (stays x.pre d.h rs) (bQ P S a rnd l ((x.idx,m)::hs) rs d) .fail= .mk o d'->cond (stays x.pre d.h rs) (bQ P S b rnd l ((x.idx,m)::hs) rs d) .fail= .mk o d':=by
       intro d o d' e
       cases hs':stays x.pre d.h rs with
       |false=>rw[hs'] at e;cases e
       |true=>rw[hs'] at e;exact ih _ _ _ _ _ e
      have hne:dQ P S a rnd dfs ctx m (ag x.op t m)≠.fail:=by
       intro hh
       rw[hh] at e
       cases e
      rw[mU h rfl hne]
      cases hoo:dQ P S a rnd dfs ctx m (ag x.op t m) with
      |fail=>exact absurd hoo hne
      |pan v m'=>rw[hoo] at e;exact e
      |next v dfs1 ctx1 m'=>
       rw[hoo] at e
       have e':dj (cA x.idx l) (cond (stays x.pre m' rs) (bQ P S a rnd l ((x.idx,m)::hs) rs ⟨aT x.dst v t,dfs1,ctx1,m'⟩) .fail)= .mk o d':=e
       show dj (cA x.idx l) (cond (stays x.pre m' rs) (bQ P S b rnd l ((x.idx,m)::hs) rs ⟨aT x.dst v t,dfs1,ctx1,m'⟩) .fail)= .mk o d'
       cases hin:cond (stays x.pre m' rs) (bQ P S a rnd l ((x.idx,m)::hs) rs ⟨aT x.dst v t,dfs1,ctx1,m'⟩) .fail with
       |fail=>rw[hin] at e';cases e'
       |mk o2 d2=>
        have:=hk ⟨aT x.dst v t,dfs1,ctx1,m'⟩ o2 d2 hin
        rw[hin] at e'
        rw[show cond (stays x.pre m' rs) (bQ P S b rnd l ((x.idx,m)::hs) rs ⟨aT x.dst v t,dfs1,ctx1,m'⟩) .fail= .mk o2 d2 from this]
        exact e'
theorem kW (h:Le a b) {f:Nat} {cap:List NV} {ps:List D4} {x y:NC} {t:Tm} {dfs:List Dfr} {ctx:Option NV} {m:NH} {o:Out} {d':Dyn} (e:cr P S a f cap ps x y t dfs ctx m= .mk o d'):cr P S b f cap ps x y t dfs ctx m= .mk o d':=by
 unfold cr at e ⊢
 rw[NH.new_eq] at e ⊢
 cases hc:cm P S a f (.yld m.next::cap) (m.add (.loop 0 .none t ps x y)) with
 |fail=>rw[hc] at e;cases e
 |val v c m'=>rw[hc] at e;rw[dt h hc (by simp)];exact e
 |pan v c m'=>rw[hc] at e;rw[dt h hc (by simp)];exact e
theorem wS (h:Le a b):Le (oJ P S a) (oJ P S b):=by
 intro r c d o d' e
 cases c with
 |skip=>exact e
 |reg l=>exact iw h _ _ _ _ e
 |regD l=>
  have e':(match bQ P S a r l [] [] d with| .mk (.pan v) d=>Res.mk (.pan v) ⟨oV l d.t,d.dfs,d.ctx,d.h⟩|r=>r)= .mk o d':=e
  show (match bQ P S b r l [] [] d with| .mk (.pan v) d=>Res.mk (.pan v) ⟨oV l d.t,d.dfs,d.ctx,d.h⟩|r=>r)= .mk o d'
  cases hr:bQ P S a r l [] [] d with
  |fail=>rw[hr] at e';cases e'
  |mk o2 d2=>rw[hr] at e';rw[lN h _ _ _ _ _ _ hr];exact e'
 |seq x y=>
  have e':(match a r x d with| .mk o d=>(match o with| .norm=>a r y d|o=> .mk o d)| .fail=> .fail)=Res.mk o d':=(vN (cf:=P) (S:=S)).symm.trans e
  refine (vN (cf:=P) (S:=S)).trans ?_
  show (match b r x d with| .mk o d=>(match o with| .norm=>b r y d|o=> .mk o d)| .fail=> .fail)=Res.mk o d'
  cases hx:a r x d with
  |fail=>rw[hx] at e';cases e'
  |mk o2 d2=>
   rw[hx] at e'
   rw[h _ _ _ _ _ hx]
   cases o2 with
   |norm=>exact h _ _ _ _ _ e'
   |_=>exact e'
 |cond g x y=>
  have e':(match ρ d.t g with|some (.bool c)=>(Bool.rec (a r y d) (a r x d) c:Res)|_=> .fail)=Res.mk o d':=(rO (cf:=P) (S:=S)).symm.trans e
  refine (rO (cf:=P) (S:=S)).trans ?_
  show (match ρ d.t g with|some (.bool c)=>(Bool.rec (b r y d) (b r x d) c:Res)|_=> .fail)=Res.mk o d'
  cases hg:ρ d.t g with
  |none=>rw[hg] at e';cases e'
  |some v=>
   rw[hg] at e'
   cases v with
   |bool q=>cases q<;>exact h _ _ _ _ _ e'
   |_=>cases e'
 |block id x=>
  have e':(match a r x d with| .mk o d=>(match o with| .exit i=>cond (Nat.beq i id) (.mk .norm d) (.mk (.exit i) d)|o=> .mk o d)| .fail=> .fail)=Res.mk o d':=(mV (cf:=P) (S:=S)).symm.trans e
  refine (mV (cf:=P) (S:=S)).trans ?_
  show (match b r x d with| .mk o d=>(match o with| .exit i=>cond (Nat.beq i id) (.mk .norm d) (.mk (.exit i) d)|o=> .mk o d)| .fail=> .fail)=Res.mk o d'
  cases hx:a r x d with
  |fail=>rw[hx] at e';cases e'
  |mk o2 d2=>rw[hx] at e';rw[h _ _ _ _ _ hx];exact e'
 |loop x=>
  have e':(match a r x d with| .mk o d=>(match o with| .norm=>a r (.loop x) d|o=> .mk o d)| .fail=> .fail)=Res.mk o d':=(kw (cf:=P) (S:=S)).symm.trans e
  refine (kw (cf:=P) (S:=S)).trans ?_
  show (match b r x d with| .mk o d=>(match o with| .norm=>b r (.loop x) d|o=> .mk o d)| .fail=> .fail)=Res.mk o d'
  cases hx:a r x d with
  |fail=>rw[hx] at e';cases e'
  |mk o2 d2=>
   rw[hx] at e'
   rw[h _ _ _ _ _ hx]
   cases o2 with
   |norm=>exact h _ _ _ _ _ e'
   |_=>exact e'
 |rangeFunc f ps x y=>
  obtain ⟨t,dfs,ctx,m⟩:=d
  have e':(match ρ t f with
   |some (.fn f cap)=>(match (generalizing:=false) r with
    |none=>m.new (.defd true) fun q m=>cr P S a f cap ps x y t (.mark q::dfs) ctx m
    |some l=>(match m.get l with
     |some (.loop ..)=>cr P S a f cap ps x y t dfs ctx m
     |_=> .fail))
   |_=> .fail)=Res.mk o d':=e
  show (match ρ t f with
   |some (.fn f cap)=>(match (generalizing:=false) r with
    |none=>m.new (.defd true) fun q m=>cr P S b f cap ps x y t (.mark q::dfs) ctx m
    |some l=>(match m.get l with
     |some (.loop ..)=>cr P S b f cap ps x y t dfs ctx m
     |_=> .fail))
   |_=> .fail)=Res.mk o d'
  cases hf:ρ t f with
  |none=>rw[hf] at e';cases e'
  |some v=>
   rw[hf] at e'
   cases v with
   |fn f cap=>
    dsimp only at e' ⊢
    cases r with
    |none=>
     dsimp only at e' ⊢
     rw[NH.new_eq] at e' ⊢
     exact kW h e'
    |some l=>
     dsimp only at e' ⊢
     split at e'
     ·exact kW h e'
     ·cases e'
   |_=>cases e'
 |exit id=>exact e
 |ret=>exact e
theorem FX:∀n,Le (ev P S n) (ev P S (n+1)):=by
 intro n
 induction n with
 |zero=>intro r c d o d' e;cases e
 |succ n ih=>exact wS ih
theorem bV {n m:Nat} (hnm:n<=m):Le (ev P S n) (ev P S m):=by
 induction m with
 |zero=>
  have:n=0:=by omega
  subst this;exact fun _ _ _ _ _ e=>e
 |succ m ih=>
  by_cases h:n=m+1
  ·subst h;exact fun _ _ _ _ _ e=>e
  ·exact fun r c d o d' e=>FX m r c d o d' (ih (by omega) r c d o d' e)
end
def eG (P:Program) (S:Nat->List NV->Option NV) (r:Option D4) (c:NC) (d:Dyn) (o:Out) (d':Dyn):Prop:=∃n,ev P S n r c d= .mk o d'
def Call (P:Program) (S:Nat->List NV->Option NV) (f:Nat) (l:List NV) (m:NH) (x:CR):Prop:=x≠.fail/\∃n,cm P S (ev P S n) f l m=x
def mr (P:Program) (S:Nat->List NV->Option NV) (r:Option D4) (l:List NOper) (d:Dyn) (o:Out) (d':Dyn):Prop:=∃n,c9 P S (ev P S n) r l d= .mk o d'
section
variable {P:Program} {S:Nat->List NV->Option NV} {r:Option D4}
theorem eG.skip (d:Dyn):eG P S r .skip d .norm d:=⟨1,rfl⟩
theorem eG.ret (d:Dyn):eG P S r .ret d .ret d:=⟨1,rfl⟩
theorem eG.exit (id:Nat) (d:Dyn):eG P S r (.exit id) d (.exit id) d:=⟨1,rfl⟩
theorem eG.seq {x y:NC} {d d1 d2:Dyn} {o:Out} (hx:eG P S r x d .norm d1) (hy:eG P S r y d1 o d2):eG P S r (.seq x y) d o d2:=by
 obtain ⟨n,hn⟩:=hx
 obtain ⟨m,hm⟩:=hy
 refine ⟨max n m+1, ?_⟩
 refine vM.trans ?_
 show (match ev P S (max n m) r x d with| .mk o d=>(match o with| .norm=>ev P S (max n m) r y d|o=> .mk o d)| .fail=> .fail)=Res.mk o d2
 rw[bV (Nat.le_max_left n m) _ _ _ _ _ hn]
 exact bV (Nat.le_max_right n m) _ _ _ _ _ hm
theorem eG.seq_out {x y:NC} {d d1:Dyn} {o:Out} (hx:eG P S r x d o d1) (ho:o≠.norm):eG P S r (.seq x y) d o d1:=by
 obtain ⟨n,hn⟩:=hx
 refine ⟨n+1, ?_⟩
 refine vM.trans ?_
 show (match ev P S n r x d with| .mk o d=>(match o with| .norm=>ev P S n r y d|o=> .mk o d)| .fail=> .fail)=Res.mk o d1
 rw[hn]
 cases o<;>first|rfl|exact absurd rfl ho
theorem eG.cond {g:NOpd} {q:Bool} {x y:NC} {d d1:Dyn} {o:Out} (hg:ρ d.t g=some (.bool q)) (h:eG P S r (if q then x else y) d o d1):eG P S r (.cond g x y) d o d1:=by
 obtain ⟨n,hn⟩:=h
 refine ⟨n+1, ?_⟩
 refine xN.trans ?_
 show (match ρ d.t g with|some (.bool c)=>(Bool.rec (ev P S n r y d) (ev P S n r x d) c:Res)|_=> .fail)=Res.mk o d1
 rw[hg]
 cases q<;>exact hn
theorem eG.block {id:Nat} {x:NC} {d d1:Dyn} {o:Out} (h:eG P S r x d o d1):eG P S r (.block id x) d (match o with| .exit i=>_root_.cond (Nat.beq i id) .norm (.exit i)|o=>o) d1:=by
 obtain ⟨n,hn⟩:=h
 refine ⟨n+1, ?_⟩
 refine um.trans ?_
 show (match ev P S n r x d with| .mk o d=>(match o with| .exit i=>_root_.cond (Nat.beq i id) (Res.mk .norm d) (Res.mk (.exit i) d)|o=>Res.mk o d)| .fail=>Res.fail)=_
 rw[hn]
 cases o with
 |exit i=>dsimp only;cases Nat.beq i id<;>rfl
 |_=>rfl
theorem eG.loop {x:NC} {d d1 d2:Dyn} {o:Out} (hx:eG P S r x d .norm d1) (hy:eG P S r (.loop x) d1 o d2):eG P S r (.loop x) d o d2:=by
 obtain ⟨n,hn⟩:=hx
 obtain ⟨m,hm⟩:=hy
 refine ⟨max n m+1, ?_⟩
 refine re.trans ?_
 show (match ev P S (max n m) r x d with| .mk o d=>(match o with| .norm=>ev P S (max n m) r (.loop x) d|o=> .mk o d)| .fail=> .fail)=Res.mk o d2
 rw[bV (Nat.le_max_left n m) _ _ _ _ _ hn]
 exact bV (Nat.le_max_right n m) _ _ _ _ _ hm
theorem eG.loop_out {x:NC} {d d1:Dyn} {o:Out} (hx:eG P S r x d o d1) (ho:o≠.norm):eG P S r (.loop x) d o d1:=by
 obtain ⟨n,hn⟩:=hx
 refine ⟨n+1, ?_⟩
 refine re.trans ?_
 show (match ev P S n r x d with| .mk o d=>(match o with| .norm=>ev P S n r (.loop x) d|o=> .mk o d)| .fail=> .fail)=Res.mk o d1
 rw[hn]
 cases o<;>first|rfl|exact absurd rfl ho
theorem eG.reg {l:List NOper} {d d1:Dyn} {o:Out} (h:mr P S r l d o d1):eG P S r (.reg l) d o d1:=by
 obtain ⟨n,hn⟩:=h
 exact ⟨n+1,hn⟩
theorem mr.nil (d:Dyn):mr P S r [] d .norm d:=⟨0,rfl⟩
theorem mr.val {x:NOper} {l:List NOper} {t:Tm} {dfs:List Dfr} {ctx:Option NV} {m:NH} {o:Out} {d1:Dyn} {v:NV} (hg:aB t x.guard=some true) (hop:ag x.op t m= .val v)
 (h:mr P S r l ⟨aT x.dst v t,dfs,ctx,m⟩ o d1):mr P S r (x::l) ⟨t,dfs,ctx,m⟩ o d1:=by
 obtain ⟨n,hn⟩:=h
 refine ⟨n, ?_⟩
 rw[cU,hg,hop]
 exact hn
theorem mr.mem {x:NOper} {l:List NOper} {t:Tm} {dfs:List Dfr} {ctx:Option NV} {m m':NH} {o:Out} {d1:Dyn} {v:NV} (hg:aB t x.guard=some true) (hop:ag x.op t m= .mem v m')
 (h:mr P S r l ⟨aT x.dst v t,dfs,ctx,m'⟩ o d1):mr P S r (x::l) ⟨t,dfs,ctx,m⟩ o d1:=by
 obtain ⟨n,hn⟩:=h
 refine ⟨n, ?_⟩
 rw[cU,hg,hop]
 exact hn
theorem mr.off {x:NOper} {l:List NOper} {t:Tm} {dfs:List Dfr} {ctx:Option NV} {m:NH} {o:Out} {d1:Dyn} (hg:aB t x.guard=some false)
 (h:mr P S r l ⟨aT x.dst aM t,dfs,ctx,m⟩ o d1):mr P S r (x::l) ⟨t,dfs,ctx,m⟩ o d1:=by
 obtain ⟨n,hn⟩:=h
 refine ⟨n, ?_⟩
 rw[cU,hg]
 exact hn
theorem mr.call {x:NOper} {l:List NOper} {t:Tm} {dfs:List Dfr} {ctx:Option NV} {m m':NH} {o:Out} {d1:Dyn} {f:Nat} {args:List NV} {v:NV} {c:Option NV} (hg:aB t x.guard=some true) (hop:ag x.op t m= .call f args)
 (hc:Call P S f args m (.val v c m')) (h:mr P S r l ⟨aT x.dst v t,dfs,ctx,m'⟩ o d1):mr P S r (x::l) ⟨t,dfs,ctx,m⟩ o d1:=by
 obtain ⟨n,hn⟩:=h
 obtain ⟨hne,k,hk⟩:=hc
 refine ⟨max n k, ?_⟩
 rw[cU,hg,hop]
 show zS x.dst (c9 P S (ev P S (max n k)) r l) t dfs ctx (yf dfs ctx (cm P S (ev P S (max n k)) f args m))=_
 rw[dt (bV (Nat.le_max_right n k)) hk hne]
 exact iw (bV (Nat.le_max_left n k)) _ _ _ _ hn
theorem Call.of_run {f:Nat} {nf:NFun} (hs:∀l,S f l=none) (hf:aD P f=some (.code nf)) {args:List NV} {m:NH} {o:Out} {d:Dyn} (ho:o= .norm∨o= .ret) (h:eG P S none nf.body ⟨dL args 0 .leaf, [],none,m⟩ o d) (hd:d.dfs= [])
 {x:CR} (hx:cp d.h d.t nf.results .fail (fun l=> .val (ic l) d.ctx d.h)=x) (hne:x≠.fail):Call P S f args m x:=by
 obtain ⟨n,hn⟩:=h
 refine ⟨hne,n, ?_⟩
 unfold cm
 rw[hs]
 dsimp only
 rw[hf]
 dsimp only
 rw[fb,hf]
 dsimp only
 rw[hn]
 rcases ho with rfl|rfl<;>(dsimp only;rw[hd];exact hx)
variable [Val] in
theorem A6 (hM:P.follows .mixedOrders=true) (hP:P.check= .ok ()) (hS:kD P S) {f:Nat} {args:List NV} {m m':NH} {v:NV} {c:Option NV} {nf:NFun} (hf:aD P f=some (.code nf)) (hs:S f args=none) (hc:Call P S f args m (.val v c m'))
 {ι:aW} {w:World} (hR:Rel P ι w.heap.size m w) (hlive:∀i p,ι i=some p->¬Live (m.get i)) {args':List Value} (ha:VRL ι args args'):
 Calls P f args'.toArray w fun e w'=>(∃ι' v',e= .returned v'/\VR ι' v v'/\ι.le ι'/\Rel P ι' w.heap.size m' w')/\Below w.heap.size w w':=by
 intro cs
 obtain ⟨_,n,hn⟩:=hc
 have hn':cQ P (ev P S n) 3 f args none m= .val v c m':=by
  unfold cm at hn
  rw[hs] at hn
  dsimp only at hn
  rw[hf] at hn
  exact hn
 obtain ⟨hO,_⟩:=nH hM (kz hP) hS n
 have hD:=iE (kz hP) hO 3 f args none m
 obtain ⟨_,hF⟩:=hD (by rw[hn'];simp)
 have hF:=hF w.heap.size ι w args' .normal cs hR (Nat.le_refl _) ha (fun b hb=>by unfold tryRecover;rw[hb])
 rw[hn'] at hF
 obtain ⟨ι',v',w',cs',fr,f1,f2,f3,f4,f5,f6,f7,f8,f9⟩:=hF
 obtain ⟨rfl,_⟩:=f5.none
 refine ⟨.returned v',w',fr,⟨⟨ι',v',rfl,f1,f4.le,f2⟩,⟨f4.os,f4.tape,f4.output,f4.size,fun k hk=>f4.frame k hk fun i p hi hl=>absurd hl (hlive i p hi)⟩⟩,f6,f8,d9 f7 f9⟩
end
end Nm
namespace Nm
open Go Go.RowKit
noncomputable def ak:List (D4×NV)->Tm->Tm
 | [],t=>t
 |p::l,t=>NT.put p.1 p.2 (ak l t)
noncomputable def eJ (k:D4):List (D4×NV)->Option NV->Option NV
 | [],d=>d
 |p::l,d=>cond (bn k p.1) (some p.2) (eJ k l d)
theorem n9 (k:D4):bn k k=true:=by
 induction k with
 |e=>rfl
 |a d ih=>exact ih
 |b d ih=>exact ih
 |c d ih=>exact ih
 |f d ih=>exact ih
theorem fZ (k:D4) (l:List (D4×NV)) (t:Tm):NT.get k (ak l t)=eJ k l (NT.get k t):=by
 induction l with
 |nil=>rfl
 |cons p l ih=>
  show NT.get k (NT.put p.1 p.2 (ak l t))=cond (bn k p.1) (some p.2) (eJ k l (NT.get k t))
  cases h:bn k p.1 with
  |true=>rw[iL h,NT.get_put_same];rfl
  |false=>
   have hne:k≠p.1:=fun e=>by rw[e,n9] at h;cases h
   rw[NT.get_put_ne hne,ih];rfl
def bK (P:Program) (S:Nat->List NV->Option NV) (r:Option D4) (l:List NOper) (hs:List (Nat×NH)) (rs:List (Nat×(NH->NR)×NV)) (d:Dyn) (o:Out) (d':Dyn):Prop:=∃n,bQ P S (ev P S n) r l hs rs d= .mk o d'
section
variable {P:Program} {S:Nat->List NV->Option NV} {r:Option D4} {x:NOper} {l:List NOper} {hs:List (Nat×NH)} {rs:List (Nat×(NH->NR)×NV)} {t:Tm} {dfs:List Dfr} {ctx:Option NV} {m m':NH} {o:Out} {d d1:Dyn} {v:NV}
theorem eG.regD (h:bK P S r l [] [] d .norm d1):eG P S r (.regD l) d .norm d1:=by
 obtain ⟨n,hn⟩:=h
 refine ⟨n+1, ?_⟩
 show (match bQ P S (ev P S n) r l [] [] d with| .mk (.pan v) d=>Res.mk (.pan v) ⟨oV l d.t,d.dfs,d.ctx,d.h⟩|r=>r)=_
 rw[hn]
theorem bK.nil (d:Dyn):bK P S r [] hs rs d .norm d:=⟨0,rfl⟩
theorem bK.off (hg:aB t x.guard=some false) (h:bK P S r l hs rs ⟨aT x.dst aM t,dfs,ctx,m⟩ o d1):bK P S r (x::l) hs rs ⟨t,dfs,ctx,m⟩ o d1:=by
 obtain ⟨n,hn⟩:=h
 exact ⟨n,by rw[bX,hg];exact hn⟩
theorem bK.pure (hg:aB t x.guard=some true) (hc:aj x.op= .pure) (hop:ag x.op t m= .val v) (h:bK P S r l hs rs ⟨aT x.dst v t,dfs,ctx,m⟩ o d1):bK P S r (x::l) hs rs ⟨t,dfs,ctx,m⟩ o d1:=by
 obtain ⟨n,hn⟩:=h
 exact ⟨n,by rw[bX,hg];dsimp only;rw[hc];dsimp only;rw[hop];exact hn⟩
theorem bK.alloc (hg:aB t x.guard=some true) (hc:aj x.op= .alloc) (ha:ahead x.pre hs=true) (hop:ag x.op t m= .mem v m') (h:bK P S r l hs rs ⟨aT x.dst v t,dfs,ctx,m'⟩ o d1):bK P S r (x::l) hs rs ⟨t,dfs,ctx,m⟩ o d1:=by
 obtain ⟨n,hn⟩:=h
 exact ⟨n,by rw[bX,hg];dsimp only;rw[hc];dsimp only;rw[ha,hop];exact hn⟩
theorem bK.read (hg:aB t x.guard=some true) (hc:aj x.op= .read) (hop:ag x.op t m= .val v) (ha:eo x.pre (ag x.op t) v hs=true)
 (h:bK P S r l hs ((x.idx,ag x.op t,v)::rs) ⟨aT x.dst v t,dfs,ctx,m⟩ o d1):bK P S r (x::l) hs rs ⟨t,dfs,ctx,m⟩ o d1:=by
 obtain ⟨n,hn⟩:=h
 exact ⟨n,by rw[bX,hg];dsimp only;rw[hc];dsimp only;rw[hop];dsimp only;rw[ha];exact hn⟩
theorem bK.eff (hg:aB t x.guard=some true) (hc:aj x.op= .eff) (ha:ahead x.pre hs=true) (hop:ag x.op t m= .mem v m') (hst:stays x.pre m' rs=true)
 (h:bK P S r l ((x.idx,m)::hs) rs ⟨aT x.dst v t,dfs,ctx,m'⟩ .norm d1):bK P S r (x::l) hs rs ⟨t,dfs,ctx,m⟩ .norm d1:=by
 obtain ⟨n,hn⟩:=h
 refine ⟨n, ?_⟩
 rw[bX,hg];dsimp only;rw[hc];dsimp only;rw[ha,hop]
 show dj (cA x.idx l) (cond (stays x.pre m' rs) (bQ P S (ev P S n) r l ((x.idx,m)::hs) rs ⟨aT x.dst v t,dfs,ctx,m'⟩) .fail)=_
 rw[hst]
 show dj (cA x.idx l) (bQ P S (ev P S n) r l ((x.idx,m)::hs) rs ⟨aT x.dst v t,dfs,ctx,m'⟩)=_
 rw[hn];rfl
theorem bK.effv (hg:aB t x.guard=some true) (hc:aj x.op= .eff) (ha:ahead x.pre hs=true) (hop:ag x.op t m= .val v) (hst:stays x.pre m rs=true)
 (h:bK P S r l ((x.idx,m)::hs) rs ⟨aT x.dst v t,dfs,ctx,m⟩ .norm d1):bK P S r (x::l) hs rs ⟨t,dfs,ctx,m⟩ .norm d1:=by
 obtain ⟨n,hn⟩:=h
 refine ⟨n, ?_⟩
 rw[bX,hg];dsimp only;rw[hc];dsimp only;rw[ha,hop]
 show dj (cA x.idx l) (cond (stays x.pre m rs) (bQ P S (ev P S n) r l ((x.idx,m)::hs) rs ⟨aT x.dst v t,dfs,ctx,m⟩) .fail)=_
 rw[hst]
 show dj (cA x.idx l) (bQ P S (ev P S n) r l ((x.idx,m)::hs) rs ⟨aT x.dst v t,dfs,ctx,m⟩)=_
 rw[hn];rfl
theorem bK.call {f:Nat} {args:List NV} {c:Option NV} (hg:aB t x.guard=some true) (hc:aj x.op= .eff) (ha:ahead x.pre hs=true) (hop:ag x.op t m= .call f args) (hcall:Call P S f args m (.val v c m')) (hst:stays x.pre m' rs=true)
 (h:bK P S r l ((x.idx,m)::hs) rs ⟨aT x.dst v t,dfs,ctx,m'⟩ .norm d1):bK P S r (x::l) hs rs ⟨t,dfs,ctx,m⟩ .norm d1:=by
 obtain ⟨n,hn⟩:=h
 obtain ⟨hne,k,hk⟩:=hcall
 refine ⟨max n k, ?_⟩
 rw[bX,hg];dsimp only;rw[hc];dsimp only;rw[ha,hop]
 show dj (cA x.idx l) (zS x.dst (fun d=>cond (stays x.pre d.h rs) (bQ P S (ev P S (max n k)) r l ((x.idx,m)::hs) rs d) .fail) t dfs ctx (yf dfs ctx (cm P S (ev P S (max n k)) f args m)))=_
 rw[dt (bV (Nat.le_max_right n k)) hk hne]
 show dj (cA x.idx l) (cond (stays x.pre m' rs) (bQ P S (ev P S (max n k)) r l ((x.idx,m)::hs) rs ⟨aT x.dst v t,dfs,ctx,m'⟩) .fail)=_
 rw[hst]
 show dj (cA x.idx l) (bQ P S (ev P S (max n k)) r l ((x.idx,m)::hs) rs ⟨aT x.dst v t,dfs,ctx,m'⟩)=_
 rw[lN (bV (Nat.le_max_left n k)) _ _ _ _ _ _ hn];rfl
end
def yp (P:Program) (S:Nat->List NV->Option NV) (l:D4) (args:List NV) (m:NH) (x:CR):Prop:=x≠.fail/\∃n,round (ev P S n) l args m=x
section
variable {P:Program} {S:Nat->List NV->Option NV} {r:Option D4} {x:NOper} {l:List NOper} {hs:List (Nat×NH)} {rs:List (Nat×(NH->NR)×NV)} {t:Tm} {dfs:List Dfr} {ctx:Option NV} {m m':NH} {o:Out} {d1:Dyn} {v:NV} {q:D4} {args:List NV} {c:Option NV}
theorem mr.yld (hg:aB t x.guard=some true) (hop:ag x.op t m= .yld q args) (hc:yp P S q args m (.val v c m')) (h:mr P S r l ⟨aT x.dst v t,dfs,ctx,m'⟩ o d1):mr P S r (x::l) ⟨t,dfs,ctx,m⟩ o d1:=by
 obtain ⟨n,hn⟩:=h
 obtain ⟨hne,k,hk⟩:=hc
 refine ⟨max n k, ?_⟩
 rw[cU,hg,hop]
 show zS x.dst (c9 P S (ev P S (max n k)) r l) t dfs ctx (yf dfs ctx (round (ev P S (max n k)) q args m))=_
 rw[fj (bV (Nat.le_max_right n k)) hk hne]
 exact iw (bV (Nat.le_max_left n k)) _ _ _ _ hn
theorem bK.yld (hg:aB t x.guard=some true) (hc:aj x.op= .eff) (ha:ahead x.pre hs=true) (hop:ag x.op t m= .yld q args) (hcall:yp P S q args m (.val v c m')) (hst:stays x.pre m' rs=true)
 (h:bK P S r l ((x.idx,m)::hs) rs ⟨aT x.dst v t,dfs,ctx,m'⟩ .norm d1):bK P S r (x::l) hs rs ⟨t,dfs,ctx,m⟩ .norm d1:=by
 obtain ⟨n,hn⟩:=h
 obtain ⟨hne,k,hk⟩:=hcall
 refine ⟨max n k, ?_⟩
 rw[bX,hg];dsimp only;rw[hc];dsimp only;rw[ha,hop]
 show dj (cA x.idx l) (zS x.dst (fun d=>cond (stays x.pre d.h rs) (bQ P S (ev P S (max n k)) r l ((x.idx,m)::hs) rs d) .fail) t dfs ctx (yf dfs ctx (round (ev P S (max n k)) q args m)))=_
 rw[fj (bV (Nat.le_max_right n k)) hk hne]
 show dj (cA x.idx l) (cond (stays x.pre m' rs) (bQ P S (ev P S (max n k)) r l ((x.idx,m)::hs) rs ⟨aT x.dst v t,dfs,ctx,m'⟩) .fail)=_
 rw[hst]
 show dj (cA x.idx l) (bQ P S (ev P S (max n k)) r l ((x.idx,m)::hs) rs ⟨aT x.dst v t,dfs,ctx,m'⟩)=_
 rw[lN (bV (Nat.le_max_left n k)) _ _ _ _ _ _ hn];rfl
end
section
variable {P:Program} {S:Nat->List NV->Option NV} {r:Option D4} {x:NOper} {l:List NOper} {hs:List (Nat×NH)} {rs:List (Nat×(NH->NR)×NV)} {L:List (D4×NV)} {t:Tm} {dfs:List Dfr} {ctx:Option NV} {m m':NH} {o:Out} {d1:Dyn} {v:NV} {k:D4}
theorem bK.p (hd:x.dst=some k) (hg:aB (ak L t) x.guard=some true) (hc:aj x.op= .pure) (hop:ag x.op (ak L t) m= .val v) (h:bK P S r l hs rs ⟨ak ((k,v)::L) t,dfs,ctx,m⟩ o d1):bK P S r (x::l) hs rs ⟨ak L t,dfs,ctx,m⟩ o d1:=
 bK.pure hg hc hop (by rw[hd];exact h)
theorem bK.rd (hd:x.dst=some k) (hg:aB (ak L t) x.guard=some true) (hc:aj x.op= .read) (hop:ag x.op (ak L t) m= .val v) (ha:eo x.pre (ag x.op (ak L t)) v hs=true)
 (h:bK P S r l hs ((x.idx,ag x.op (ak L t),v)::rs) ⟨ak ((k,v)::L) t,dfs,ctx,m⟩ o d1):bK P S r (x::l) hs rs ⟨ak L t,dfs,ctx,m⟩ o d1:=
 bK.read hg hc hop ha (by rw[hd];exact h)
theorem bK.e (hd:x.dst=some k) (hg:aB (ak L t) x.guard=some true) (hc:aj x.op= .eff) (ha:ahead x.pre hs=true) (hop:ag x.op (ak L t) m= .mem v m') (hst:stays x.pre m' rs=true)
 (h:bK P S r l ((x.idx,m)::hs) rs ⟨ak ((k,v)::L) t,dfs,ctx,m'⟩ .norm d1):bK P S r (x::l) hs rs ⟨ak L t,dfs,ctx,m⟩ .norm d1:=
 bK.eff hg hc ha hop hst (by rw[hd];exact h)
theorem bK.c {f:Nat} {args:List NV} {c:Option NV} (hd:x.dst=some k) (hg:aB (ak L t) x.guard=some true) (hc:aj x.op= .eff) (ha:ahead x.pre hs=true) (hop:ag x.op (ak L t) m= .call f args) (hcall:Call P S f args m (.val v c m')) (hst:stays x.pre m' rs=true)
 (h:bK P S r l ((x.idx,m)::hs) rs ⟨ak ((k,v)::L) t,dfs,ctx,m'⟩ .norm d1):bK P S r (x::l) hs rs ⟨ak L t,dfs,ctx,m⟩ .norm d1:=
 bK.call hg hc ha hop hcall hst (by rw[hd];exact h)
end
section
variable {t:Tm} {m:NH}
theorem jU {op:BinOp} {k:IntKind} {a b:Int} (h:cP op=false):dH .num op (.int k (.lit a)) (.int k (.lit b))=bG op k a b:=by
 show cond (cP op) (bG op k a b) (cond (jG k k) (bG op k a b) none)=_
 rw[show jG k k=true by cases k<;>rfl,h];rfl
theorem KB {k:IntKind} {a b:Int}:dH .num .lss (.int k (.lit a)) (.int k (.lit b))=some (.bool (decide (a<b))):=
 (jU rfl).trans (by show bj (jo a b)=_;rw[cj,aL])
theorem Kb {k:IntKind} {a b:Int}:dH .num .leq (.int k (.lit a)) (.int k (.lit b))=some (.bool (decide (a<=b))):=
 (jU rfl).trans (by show bj (mz a b)=_;rw[cO,aL])
theorem Lf {k:IntKind} {a b:Int}:dH .num .gtr (.int k (.lit a)) (.int k (.lit b))=some (.bool (decide (b<a))):=
 (jU rfl).trans (by show bj (jo b a)=_;rw[cj,aL])
theorem J5 {k:IntKind} {a b:Int}:dH .num .geq (.int k (.lit a)) (.int k (.lit b))=some (.bool (decide (b<=a))):=
 (jU rfl).trans (by show bj (mz b a)=_;rw[cO,aL])
theorem Jv {k:IntKind} {a b:Int}:dH .num .eql (.int k (.lit a)) (.int k (.lit b))=some (.bool (decide (a=b))):=
 (jU rfl).trans (by show bj (lF a b)=_;rw[bW,aL];rfl)
theorem J7 {k:IntKind} {a b:Int}:dH .num .neq (.int k (.lit a)) (.int k (.lit b))=some (.bool (decide (a≠b))):=
 (jU rfl).trans (by show bj (gc (lF a b))=_;rw[bW,aL,ct];by_cases h:a=b<;>simp[h])
theorem wrap_small {n:Int} (h:-9223372036854775808<=n) (h':n<9223372036854775808):bE .i64 n=n:=by
 cases n with
 |ofNat m=>
  show cond (Nat.ble (Nat.succ m) 9223372036854775808) (Int.ofNat m) _=_
  rw[Nat.ble_eq_true_of_le (by have:(m:Int)<9223372036854775808:=h';omega)];rfl
 |negSucc m=>
  show cond (Nat.ble (Nat.succ m) 9223372036854775808) (Int.negSucc m) _=_
  rw[Nat.ble_eq_true_of_le (by have:-9223372036854775808<=Int.negSucc m:=h;omega)];rfl
theorem K4 {a b:Int} (h:-9223372036854775808<=a+b) (h':a+b<9223372036854775808):dH .num .add (.int .i64 (.lit a)) (.int .i64 (.lit b))=some (.int .i64 (.lit (a+b))):=by
 refine (jU rfl).trans ?_
 show b9 .i64 (bE .i64 (pg a b))=_
 have e:pg a b=a+b:=by cases a<;>cases b<;>rfl
 rw[e,wrap_small h h']
 exact cK _ _
end
end Nm
namespace Nm
open Go Go.RowKit
def dr (K:Dyn->Prop) (Q:Out->Dyn->Prop) (o:Out) (d:Dyn):Prop:=match o with| .norm=>K d|o=>Q o d
def ip (i:Nat) (Q:Out->Dyn->Prop) (o:Out) (d:Dyn):Prop:=match o with| .exit j=>Q (if j=i then .norm else .exit j) d|o=>Q o d
def wB (o:Option NV) (A B:Prop):Prop:=match o with|some (.bool q)=>(q=true->A)/\(q=false->B)|_=>False
section
variable (P:Program) (S:Nat->List NV->Option NV) (r:Option D4)
def W (c:NC) (d:Dyn) (Q:Out->Dyn->Prop):Prop:=∃o d',eG P S r c d o d'/\Q o d'
def wN (dst:Option D4) (t:Tm) (dfs:List Dfr) (ctx:Option NV) (m:NH) (x:NR) (K:Dyn->Prop):Prop:=match x with
 | .val v=>K ⟨aT dst v t,dfs,ctx,m⟩
 | .mem v m'=>K ⟨aT dst v t,dfs,ctx,m'⟩
 | .call f args=>∃v c m',Call P S f args m (.val v c m')/\K ⟨aT dst v t,dfs,ctx,m'⟩
 | .yld q args=>∃v c m',yp P S q args m (.val v c m')/\K ⟨aT dst v t,dfs,ctx,m'⟩
 |_=>False
def wO:List NOper->Dyn->(Dyn->Prop)->Prop
 | [],d,K=>K d
 |x::l,d,K=>match aB d.t x.guard with
  |some true=>wN P S x.dst d.t d.dfs d.ctx d.h (ag x.op d.t d.h) fun d=>wO l d K
  |some false=>wO l ⟨aT x.dst aM d.t,d.dfs,d.ctx,d.h⟩ K
  |none=>False
def wD:List NOper->List (Nat×NH)->List (Nat×(NH->NR)×NV)->Dyn->(Dyn->Prop)->Prop
 | [],_,_,d,K=>K d
 |x::l,hs,rs,d,K=>match aB d.t x.guard with
  |some true=>(match aj x.op with
   | .pure=>(match ag x.op d.t d.h with| .val v=>wD l hs rs ⟨aT x.dst v d.t,d.dfs,d.ctx,d.h⟩ K|_=>False)
   | .alloc=>ahead x.pre hs=true/\(match ag x.op d.t d.h with| .mem v m'=>wD l hs rs ⟨aT x.dst v d.t,d.dfs,d.ctx,m'⟩ K|_=>False)
   | .read=>(match ag x.op d.t d.h with| .val v=>eo x.pre (ag x.op d.t) v hs=true/\wD l hs ((x.idx,ag x.op d.t,v)::rs) ⟨aT x.dst v d.t,d.dfs,d.ctx,d.h⟩ K|_=>False)
   | .eff=>ahead x.pre hs=true/\wN P S x.dst d.t d.dfs d.ctx d.h (ag x.op d.t d.h) fun d'=>stays x.pre d'.h rs=true/\wD l ((x.idx,d.h)::hs) rs d' K)
  |some false=>wD l hs rs ⟨aT x.dst aM d.t,d.dfs,d.ctx,d.h⟩ K
  |none=>False
def wp:NC->Dyn->(Out->Dyn->Prop)->Prop
 | .skip,d,Q=>Q .norm d
 | .ret,d,Q=>Q .ret d
 | .exit i,d,Q=>Q (.exit i) d
 | .seq a b,d,Q=>wp a d (dr (fun d=>wp b d Q) Q)
 | .cond g a b,d,Q=>wB (ρ d.t g) (wp a d Q) (wp b d Q)
 | .block i a,d,Q=>wp a d (ip i Q)
 | .reg l,d,Q=>wO P S l d (Q .norm)
 | .regD l,d,Q=>wD P S l [] [] d (Q .norm)
 | .loop a,d,Q=>W P S r (.loop a) d Q
 | .rangeFunc f ps a b,d,Q=>W P S r (.rangeFunc f ps a b) d Q
end
section
variable {P:Program} {S:Nat->List NV->Option NV} {r:Option D4}
theorem BH:∀(l:List NOper) (d:Dyn) (K:Dyn->Prop),wO P S l d K->∃d',mr P S r l d .norm d'/\K d':=by
 intro l
 induction l with
 |nil=>exact fun d K h=>⟨d,mr.nil d,h⟩
 |cons x l ih=>
  rintro ⟨t,dfs,ctx,m⟩ K h
  unfold wO at h
  dsimp only at h
  split at h
  ·rename_i hg
   cases hop:ag x.op t m with
   |val v=>rw[hop] at h;obtain ⟨d',h1,h2⟩:=ih _ _ h;exact ⟨d',mr.val hg hop h1,h2⟩
   |mem v m'=>rw[hop] at h;obtain ⟨d',h1,h2⟩:=ih _ _ h;exact ⟨d',mr.mem hg hop h1,h2⟩
   |call f args=>
    rw[hop] at h
    obtain ⟨v,c,m',hc,h⟩:=h
    obtain ⟨d',h1,h2⟩:=ih _ _ h
    exact ⟨d',mr.call hg hop hc h1,h2⟩
   |yld q args=>
    rw[hop] at h
    obtain ⟨v,c,m',hc,h⟩:=h
    obtain ⟨d',h1,h2⟩:=ih _ _ h
    exact ⟨d',mr.yld hg hop hc h1,h2⟩
   |_=>rw[hop] at h;exact h.elim
  ·rename_i hg
   obtain ⟨d',h1,h2⟩:=ih _ _ h;exact ⟨d',mr.off hg h1,h2⟩
  ·exact h.elim
theorem Bl:∀(l:List NOper) (hs:List (Nat×NH)) (rs:List (Nat×(NH->NR)×NV)) (d:Dyn) (K:Dyn->Prop),wD P S l hs rs d K->∃d',bK P S r l hs rs d .norm d'/\K d':=by
 intro l
 induction l with
 |nil=>exact fun hs rs d K h=>⟨d,bK.nil d,h⟩
 |cons x l ih=>
  rintro hs rs ⟨t,dfs,ctx,m⟩ K h
  unfold wD at h
  dsimp only at h
  split at h
  ·rename_i hg
   split at h
   ·rename_i hcl
    cases hop:ag x.op t m with
    |val v=>rw[hop] at h;obtain ⟨d',h1,h2⟩:=ih _ _ _ _ h;exact ⟨d',bK.pure hg hcl hop h1,h2⟩
    |_=>rw[hop] at h;exact h.elim
   ·rename_i hcl
    obtain ⟨ha,h⟩:=h
    cases hop:ag x.op t m with
    |mem v m'=>rw[hop] at h;obtain ⟨d',h1,h2⟩:=ih _ _ _ _ h;exact ⟨d',bK.alloc hg hcl ha hop h1,h2⟩
    |_=>rw[hop] at h;exact h.elim
   ·rename_i hcl
    cases hop:ag x.op t m with
    |val v=>rw[hop] at h;obtain ⟨ha,h⟩:=h;obtain ⟨d',h1,h2⟩:=ih _ _ _ _ h;exact ⟨d',bK.read hg hcl hop ha h1,h2⟩
    |_=>rw[hop] at h;exact h.elim
   ·rename_i hcl
    obtain ⟨ha,h⟩:=h
    cases hop:ag x.op t m with
    |val v=>rw[hop] at h;obtain ⟨hst,h⟩:=h;obtain ⟨d',h1,h2⟩:=ih _ _ _ _ h;exact ⟨d',bK.effv hg hcl ha hop hst h1,h2⟩
    |mem v m'=>rw[hop] at h;obtain ⟨hst,h⟩:=h;obtain ⟨d',h1,h2⟩:=ih _ _ _ _ h;exact ⟨d',bK.eff hg hcl ha hop hst h1,h2⟩
    |call f args=>
     rw[hop] at h
     obtain ⟨v,c,m',hc,hst,h⟩:=h
     obtain ⟨d',h1,h2⟩:=ih _ _ _ _ h
     exact ⟨d',bK.call hg hcl ha hop hc hst h1,h2⟩
    |yld q args=>
     rw[hop] at h
     obtain ⟨v,c,m',hc,hst,h⟩:=h
     obtain ⟨d',h1,h2⟩:=ih _ _ _ _ h
     exact ⟨d',bK.yld hg hcl ha hop hc hst h1,h2⟩
    |_=>rw[hop] at h;exact h.elim
  ·rename_i hg
   obtain ⟨d',h1,h2⟩:=ih _ _ _ _ h;exact ⟨d',bK.off hg h1,h2⟩
  ·exact h.elim
theorem aK:∀(c:NC) (d:Dyn) (Q:Out->Dyn->Prop),wp P S r c d Q->W P S r c d Q:=by
 intro c
 induction c with
 |skip=>exact fun d Q h=>⟨_,_,eG.skip d,h⟩
 |ret=>exact fun d Q h=>⟨_,_,eG.ret d,h⟩
 |exit i=>exact fun d Q h=>⟨_,_,eG.exit i d,h⟩
 |seq a b iha ihb=>
  intro d Q h
  obtain ⟨o,d1,h1,h2⟩:=iha _ _ h
  cases o with
  |norm=>obtain ⟨o,d2,h3,h4⟩:=ihb _ _ h2;exact ⟨o,d2,eG.seq h1 h3,h4⟩
  |_=>exact ⟨_,_,eG.seq_out h1 (by simp),h2⟩
 |cond g a b iha ihb=>
  intro d Q h
  unfold wp wB at h
  split at h
  ·rename_i q hq
   cases q with
   |true=>obtain ⟨o,d1,h1,h2⟩:=iha _ _ (h.1 rfl);exact ⟨o,d1,eG.cond hq (by simpa using h1),h2⟩
   |false=>obtain ⟨o,d1,h1,h2⟩:=ihb _ _ (h.2 rfl);exact ⟨o,d1,eG.cond hq (by simpa using h1),h2⟩
  ·exact h.elim
 |block i a iha=>
  intro d Q h
  obtain ⟨o,d1,h1,h2⟩:=iha _ _ h
  refine ⟨_,d1,eG.block h1, ?_⟩
  cases o with
  |exit j=>
   dsimp only
   change Q (if j=i then .norm else .exit j) d1 at h2
   by_cases e:j=i
   ·subst e;rw[if_pos rfl] at h2;rw[Nat.beq_refl];exact h2
   ·rw[if_neg e] at h2
    rw[show Nat.beq j i=false from by cases hb:Nat.beq j i with|false=>rfl|true=>exact absurd (Nat.eq_of_beq_eq_true hb) e];exact h2
  |_=>exact h2
 |reg l=>
  intro d Q h
  obtain ⟨d',h1,h2⟩:=BH (r:=r) _ _ _ h
  exact ⟨_,_,eG.reg h1,h2⟩
 |regD l=>
  intro d Q h
  obtain ⟨d',h1,h2⟩:=Bl (r:=r) _ _ _ _ _ h
  exact ⟨_,_,eG.regD h1,h2⟩
 |loop a _=>exact fun d Q h=>h
 |rangeFunc f ps a b _ _=>exact fun d Q h=>h
theorem W.loop {c:NC} {Q:Out->Dyn->Prop} (I:Nat->Dyn->Prop) (h:∀k d,I k d->W P S r c d (fun o d'=>match o with| .norm=>∃j,j<k/\I j d'|o=>Q o d')):∀k d,I k d->W P S r (.loop c) d Q:=by
 intro k
 induction k using Nat.strongRecOn with
 |ind k ih=>
  intro d hd
  obtain ⟨o,d',h1,h2⟩:=h k d hd
  cases o with
  |norm=>
   obtain ⟨j,hj,hI⟩:=h2
   obtain ⟨o,d2,h3,h4⟩:=ih j hj d' hI
   exact ⟨o,d2,eG.loop h1 h3,h4⟩
  |_=>exact ⟨_,_,eG.loop_out h1 (by simp),h2⟩
theorem W.mono {c:NC} {d:Dyn} {Q Q':Out->Dyn->Prop} (h:W P S r c d Q) (hq:∀o d,Q o d->Q' o d):W P S r c d Q':=by
 obtain ⟨o,d',h1,h2⟩:=h
 exact ⟨o,d',h1,hq _ _ h2⟩
end
end Nm
namespace Nm
open Go Go.RowKit
section
variable {P:Program} {S:Nat->List NV->Option NV} {r:Option D4} {dst:Option D4} {op:NOp} {pre idx:Nat} {l:List NOper} {hs:List (Nat×NH)} {rs:List (Nat×(NH->NR)×NV)}
 {L:List (D4×NV)} {t:Tm} {dfs:List Dfr} {ctx:Option NV} {m m':NH} {v:NV} {k k':D4} {d:Dyn} {Q:Out->Dyn->Prop} {K:Dyn->Prop} {A B:Prop}
theorem G2:wp P S r .skip d Q=Q .norm d:=_root_.id rfl
theorem JB:wp P S r .ret d Q=Q .ret d:=_root_.id rfl
theorem GH {i:Nat}:wp P S r (.exit i) d Q=Q (.exit i) d:=_root_.id rfl
theorem qJ {i:Nat} {a:NC}:wp P S r (.block i a) d Q=wp P S r a d (ip i Q):=_root_.id rfl
theorem KW:wp P S r (.reg l) d Q=wO P S l d (Q .norm):=_root_.id rfl
theorem Hx:wp P S r (.regD l) d Q=wD P S l [] [] d (Q .norm):=_root_.id rfl
theorem IY {a:NC}:wp P S r (.loop a) d Q=W P S r (.loop a) d Q:=_root_.id rfl
theorem HK:dr K Q .norm d=K d:=_root_.id rfl
theorem Ib:dr K Q .ret d=Q .ret d:=_root_.id rfl
theorem FQ {i:Nat}:dr K Q (.exit i) d=Q (.exit i) d:=_root_.id rfl
theorem Eq {i:Nat}:ip i Q .norm d=Q .norm d:=_root_.id rfl
theorem Hi {i:Nat}:ip i Q .ret d=Q .ret d:=_root_.id rfl
theorem E5 {i j:Nat}:ip i Q (.exit j) d=Q (if j=i then .norm else .exit j) d:=_root_.id rfl
theorem KG:wO P S [] d K=K d:=_root_.id rfl
def wX (c:qg) (x:NR) (P:Program) (S:Nat->List NV->Option NV) (f:NH->NR) (dst:Option D4) (pre idx:Nat) (l:List NOper) (hs:List (Nat×NH)) (rs:List (Nat×(NH->NR)×NV)) (d:Dyn) (K:Dyn->Prop):Prop:=
 match c with
 | .pure=>(match x with| .val v=>wD P S l hs rs ⟨aT dst v d.t,d.dfs,d.ctx,d.h⟩ K|_=>False)
 | .alloc=>ahead pre hs=true/\(match x with| .mem v m'=>wD P S l hs rs ⟨aT dst v d.t,d.dfs,d.ctx,m'⟩ K|_=>False)
 | .read=>(match x with| .val v=>eo pre f v hs=true/\wD P S l hs ((idx,f,v)::rs) ⟨aT dst v d.t,d.dfs,d.ctx,d.h⟩ K|_=>False)
 | .eff=>ahead pre hs=true/\wN P S dst d.t d.dfs d.ctx d.h x fun d'=>stays pre d'.h rs=true/\wD P S l ((idx,d.h)::hs) rs d' K
theorem Ix:wD P S [] hs rs d K=K d:=_root_.id rfl
theorem Eo:wD P S (⟨dst,op,none,pre,idx⟩::l) hs rs ⟨ak L t,dfs,ctx,m⟩ K=wX (aj op) (ag op (ak L t) m) P S (ag op (ak L t)) dst pre idx l hs rs ⟨ak L t,dfs,ctx,m⟩ K:=by
 cases h:aj op<;>simp only[wD,aB,h,wX]<;>cases ag op (ak L t) m<;>rfl
section
variable {f:NH->NR}
theorem Fs:wX .pure (.val v) P S f (some k) pre idx l hs rs ⟨ak L t,dfs,ctx,m⟩ K=wD P S l hs rs ⟨ak ((k,v)::L) t,dfs,ctx,m⟩ K:=_root_.id rfl
theorem DZ:wX .alloc (.mem v m') P S f (some k) pre idx l hs rs ⟨ak L t,dfs,ctx,m⟩ K=(ahead pre hs=true/\wD P S l hs rs ⟨ak ((k,v)::L) t,dfs,ctx,m'⟩ K):=_root_.id rfl
theorem El:wX .read (.val v) P S f (some k) pre idx l hs rs ⟨ak L t,dfs,ctx,m⟩ K=(eo pre f v hs=true/\wD P S l hs ((idx,f,v)::rs) ⟨ak ((k,v)::L) t,dfs,ctx,m⟩ K):=_root_.id rfl
theorem DS:eo pre f v []=true:=_root_.id rfl
theorem Cj:ahead pre []=true:=_root_.id rfl
theorem B1:stays pre m []=true:=_root_.id rfl
end
theorem Jy:NT.get k (ak L t)=eJ k L (NT.get k t):=fZ k L t
theorem Ld:ρ (ak L t) (.tmp k)=eJ k L (NT.get k t):=fZ k L t
theorem Gb:ρ t (.const v)=some v:=_root_.id rfl
theorem FI {o:Option NV}:eJ k [] o=o:=_root_.id rfl
theorem It {o:Option NV}:eJ k ((k',v)::L) o=cond (bn k k') (some v) (eJ k L o):=_root_.id rfl
theorem Mx:bn .e .e=true:=_root_.id rfl
theorem LH:bn .e (.a k)=false:=_root_.id rfl
theorem MN:bn .e (.b k)=false:=_root_.id rfl
theorem L7:bn .e (.c k)=false:=_root_.id rfl
theorem LO:bn .e (.f k)=false:=_root_.id rfl
theorem LG:bn (.a k) .e=false:=_root_.id rfl
theorem Ly:bn (.a k) (.a k')=bn k k':=_root_.id rfl
theorem LS:bn (.a k) (.b k')=false:=_root_.id rfl
theorem L9:bn (.a k) (.c k')=false:=_root_.id rfl
theorem Mn:bn (.a k) (.f k')=false:=_root_.id rfl
theorem LY:bn (.b k) .e=false:=_root_.id rfl
theorem LL:bn (.b k) (.a k')=false:=_root_.id rfl
theorem MD:bn (.b k) (.b k')=bn k k':=_root_.id rfl
theorem LX:bn (.b k) (.c k')=false:=_root_.id rfl
theorem MP:bn (.b k) (.f k')=false:=_root_.id rfl
theorem L8:bn (.c k) .e=false:=_root_.id rfl
theorem Ml:bn (.c k) (.a k')=false:=_root_.id rfl
theorem Mi:bn (.c k) (.b k')=false:=_root_.id rfl
theorem LW:bn (.c k) (.c k')=bn k k':=_root_.id rfl
theorem LN:bn (.c k) (.f k')=false:=_root_.id rfl
theorem Mg:bn (.f k) .e=false:=_root_.id rfl
theorem LC:bn (.f k) (.a k')=false:=_root_.id rfl
theorem LI:bn (.f k) (.b k')=false:=_root_.id rfl
theorem Mf:bn (.f k) (.c k')=false:=_root_.id rfl
theorem MI:bn (.f k) (.f k')=bn k k':=_root_.id rfl
end
def oN (o:Option NV) (K:NV->NR):NR:=match o with|some v=>K v|none=> .fail
theorem Mj {v:NV} {K:NV->NR}:oN (some v) K=K v:=_root_.id rfl
theorem bR {t:Tm} {x:NOpd} {K:NV->NR}:wV t x K=oN (ρ t x) K:=by
 unfold wV oN;cases ρ t x<;>rfl
theorem MQ {v:NV}:vr (some v)= .val v:=_root_.id rfl
def Hf (v:NV):NR:=match v with| .slc _ _ n _ _=> .val (.int .i64 (.lit (.ofNat n)))| .nils=> .val (.int .i64 (.lit (.ofNat 0)))|_=> .fail
def my (n:Nat) (s i:NV):NR:=match s,i with| .slc id off len _ _,.int _ (.lit (.ofNat i))=>if i<len then .val (.ptr id (off+i*n)) else .fail|_,_=> .fail
noncomputable def FY (m:NH) (p:NV):NR:=match p with| .ptr id off=>(match m.get id with|some (.cells _ c)=>oN c[off]? .val|_=> .fail)|_=> .fail
noncomputable def Et (n:Nat) (m:NH) (p:NV):NR:=match p with| .ptr id off=>(match m.get id with|some (.cells _ c)=>if off+n<=c.length then .val (.agg ((c.drop off).take n)) else .fail|_=> .fail)|_=> .fail
def Lg (k:Nat) (p:NV):NR:=match p with| .ptr id off=> .val (.ptr id (off+k))|_=> .fail
def La (k:Nat) (a:NV):NR:=match a with| .agg l=>oN l[k]? .val|_=> .fail
section
variable {t:Tm} {m:NH}
theorem Ij {x:NOpd}:ag (.move x) t m=oN (ρ t x) .val:=bR
theorem KA {c:BC} {op:BinOp} {x y:NOpd}:ag (.bin c op x y) t m=oN (ρ t x) fun a=>oN (ρ t y) fun b=>vr (dH c op a b):=by
 show wV t x (fun a=>wV t y fun b=>vr (dH c op a b))=_
 simp only[bR]
theorem MB {u:UnOp} {x:NOpd}:ag (.un u x) t m=oN (ρ t x) fun v=>vr (Ll u v):=bR
theorem KC {x:NOpd}:ag (.lenSlc x) t m=oN (ρ t x) Hf:=by
 show wV t x _=_
 rw[bR];cases ρ t x with
 |none=>rfl
 |some v=>cases v<;>rfl
theorem Je {n:Nat} {x i:NOpd}:ag (.indexSlc n x i) t m=oN (ρ t x) fun s=>oN (ρ t i) fun i=>my n s i:=by
 show wV t x (fun v=>dS t i fun i=>match v with
  | .slc id off len _ _=>cond (Nat.ble (Nat.succ i) len) (aw (Nat.add off (Nat.mul i n)) fun o=> .val (.ptr id o)) .fail
  |_=> .fail)=_
 unfold dS
 simp only[bR]
 cases ρ t x with
 |none=>rfl
 |some s=>
  show oN (ρ t i) _=oN (ρ t i) _
  cases ρ t i with
  |none=>rfl
  |some j=>
   show aR (jp j) _=my n s j
   cases j with
   |int k z=>
    cases z with
    |lit z=>
     cases z with
     |ofNat q=>
      cases s with
      |slc id off len e kc=>
       show cond (Nat.ble (Nat.succ q) len) (aw (Nat.add off (Nat.mul q n)) fun o=>NR.val (.ptr id o)) .fail=if q<len then _ else _
       rw[ae]
       by_cases hq:q<len
       ·rw[if_pos hq,Nat.ble_eq_true_of_le hq];rfl
       ·rw[if_neg hq,show Nat.ble (Nat.succ q) len=false from by cases hb:Nat.ble (Nat.succ q) len with|false=>rfl|true=>exact absurd (Nat.le_of_ble_eq_true hb) hq];rfl
      |_=>rfl
     |negSucc q=>cases s<;>rfl
    |_=>cases s<;>rfl
   |_=>cases s<;>rfl
theorem KH {x:NOpd}:ag (.load1 x) t m=oN (ρ t x) (FY m):=by
 show wV t x (fun a=>match a with| .ptr id off=>bS m id fun c=>aR (ij c off) .val|_=> .fail)=_
 rw[bR]
 cases ρ t x with
 |none=>rfl
 |some v=>
  cases v with
  |ptr id off=>
   show bS m id (fun c=>aR (ij c off) .val)=FY m (.ptr id off)
   unfold bS FY
   dsimp only
   split<;>rename_i hm
   ·rw[hm];dsimp only;rw[d7];cases (_:List NV)[off]? <;>rfl
   ·split<;>rename_i h2
    ·exact absurd h2 (hm _ _)
    ·rfl
  |_=>rfl
theorem J0 {k:Nat} {x:NOpd}:ag (.fieldAddr k x) t m=oN (ρ t x) (Lg k):=by
 show wV t x (fun v=>match v with| .ptr id o=>aw (Nat.add o k) fun o=> .val (.ptr id o)|_=> .fail)=_
 rw[bR]
 cases ρ t x with
 |none=>rfl
 |some v=>cases v<;>first|rfl|exact ae (R:=NR) _ (fun o=> .val (.ptr _ o))
theorem JY {k off:Nat} {id:D4}:Lg k (.ptr id off)= .val (.ptr id (off+k)):=_root_.id rfl
end
theorem Jz {b:Bool}:Ll .not (.bool b)=some (.bool (!b)):=by cases b<;>rfl
end Nm
namespace Nm
open Go Go.RowKit
def rK (o:Option NV) (K:NV->Prop):Prop:=match o with|some v=>K v|none=>False
def AI (rs:List NRes) (K:NV->NH->Prop) (o:Out) (d:Dyn):Prop:=(o= .norm∨o= .ret)/\d.dfs= []/\∃v,cp d.h d.t rs .fail (fun l=> .val (ic l) d.ctx d.h)= .val v d.ctx d.h/\K v d.h
section
variable {P:Program} {S:Nat->List NV->Option NV} {L:List (D4×NV)} {t:Tm} {ctx:Option NV} {m:NH} {K:NV->NH->Prop} {k k1 k2 k3:D4}
theorem KN {o:Out} (ho:o= .norm∨o= .ret):AI [.tmp k] K o ⟨ak L t, [],ctx,m⟩=rK (eJ k L (NT.get k t)) fun v=>K v m:=by
 apply propext
 have e:∀x,NT.get k (ak L t)=x->cp m (ak L t) [.tmp k] .fail (fun l=> .val (ic l) ctx m)=(match x with|some v=>CR.val v ctx m|none=> .fail):=by
  rintro x rfl
  show (match (match NT.get k (ak L t) with|some v=>NR.val v|none=>NR.fail) with| .val v=>CR.val (ic [v]) ctx m|_=>CR.fail)=_
  cases NT.get k (ak L t)<;>rfl
 constructor
 ·rintro ⟨_,_,v,h1,h2⟩
  change cp m (ak L t) [.tmp k] .fail (fun l=> .val (ic l) ctx m)=_ at h1
  rw[e _ (fZ _ _ _)] at h1
  cases hx:eJ k L (NT.get k t) with
  |none=>rw[hx] at h1;cases h1
  |some u=>rw[hx] at h1;cases h1;exact h2
 ·intro h
  cases hx:eJ k L (NT.get k t) with
  |none=>rw[hx] at h;exact h.elim
  |some u=>rw[hx] at h;exact ⟨ho,rfl,u,(e _ ((fZ _ _ _).trans hx)),h⟩
theorem HZ:AI [.tmp k] K .ret ⟨ak L t, [],ctx,m⟩=rK (eJ k L (NT.get k t)) fun v=>K v m:=KN (.inr rfl)
theorem L0 {v:NV} {K:NV->Prop}:rK (some v) K=K v:=_root_.id rfl
def WF (P:Program) (S:Nat->List NV->Option NV) (f:Nat) (args:List NV) (m:NH) (K:NV->NH->Prop):Prop:=∃v c m',Call P S f args m (.val v c m')/\K v m'
theorem WF.of_wp (hs:∀f l,S f l=none) {f:Nat} {nf:NFun} (hf:aD P f=some (.code nf)) {args:List NV} {K:NV->NH->Prop} (hL:dL args 0 .leaf=ak L .leaf)
 (h:wp P S none nf.body ⟨ak L .leaf, [],none,m⟩ (AI nf.results K)):WF P S f args m K:=by
 obtain ⟨o,d,h1,ho,hd,v,hv,hK⟩:=aK _ _ _ h
 rw[←hL] at h1
 exact ⟨v,d.ctx,d.h,Call.of_run (hs f) hf ho h1 hd hv (by simp),hK⟩
end
end Nm
namespace Nm
open Go Go.RowKit
def na (m:NH) (j:Nat):D4:=D4.of (m.next.toNat+j)
def aC (m:NH) (id:D4):Prop:=id.toNat<m.next.toNat
instance (m:NH) (id:D4):Decidable (aC m id):=inferInstanceAs (Decidable (_<_))
inductive AK where
 |n (j:Nat)
 |o (id:D4)
noncomputable def tu (m:NH):List (AK×NO)->NT NO
 | []=>m.m
 |(.n j,x)::l=>NT.put (na m j) x (tu m l)
 |(.o id,x)::l=>if aC m id then NT.put id x (tu m l) else tu m l
noncomputable def hp (l:List (AK×NO)) (k:Nat) (m:NH):NH:=⟨tu m l,na m k⟩
def kK (j:Nat):List (AK×NO)->Option NO->Option NO
 | [],d=>d
 |(.n i,x)::l,d=>if j=i then some x else kK j l d
 |(.o _,_)::l,d=>kK j l d
noncomputable def iQ (id:D4):List (AK×NO)->Option NO->Option NO
 | [],d=>d
 |(.n _,_)::l,d=>iQ id l d
 |(.o i,x)::l,d=>@ite _ (id=i) (Classical.propDecidable _) (some x) (iQ id l d)
theorem jF {m:NH} {i j:Nat} (h:na m i=na m j):i=j:=by
 have:=D4.of_inj h;omega
theorem IM (m:NH) (k:Nat):(na m k).nxt=na m (k+1):=by
 apply D4.toNat_inj
 rw[D4.toNat_nxt];unfold na;rw[D4.toNat_of,D4.toNat_of];omega
theorem qL (m:NH):na m 0=m.next:=D4.of_toNat _
theorem ai (m:NH):hp [] 0 m=m:=by
 show NH.mk m.m (na m 0)=m
 rw[qL]
theorem aC.ne {m:NH} {id:D4} (h:aC m id) (j:Nat):id≠na m j:=by
 intro e
 unfold aC at h
 rw[e] at h;unfold na at h;rw[D4.toNat_of] at h;omega
section
variable {m:NH} {l:List (AK×NO)} {k j:Nat} {o:NO} {id:D4}
theorem IN:(hp l k m).next=na m k:=_root_.id rfl
theorem tJ:(hp l k m).add o=hp ((.n k,o)::l) (k+1) m:=by
 show NH.mk (NT.put (na m k) o (tu m l)) (na m k).nxt=NH.mk (NT.put (na m k) o (tu m l)) (na m (k+1))
 rw[IM]
theorem HN:(hp l k m).put (na m j) o=hp ((.n j,o)::l) k m:=_root_.id rfl
theorem qD (h:aC m id):(hp l k m).put id o=hp ((.o id,o)::l) k m:=by
 show NH.mk (NT.put id o (tu m l)) (na m k)=NH.mk (if aC m id then NT.put id o (tu m l) else tu m l) (na m k)
 rw[if_pos h]
theorem ax:(hp l k m).get (na m j)=kK j l (m.get (na m j)):=by
 show NT.get (na m j) (tu m l)=_
 induction l with
 |nil=>rfl
 |cons p l ih=>
  obtain ⟨a,x⟩:=p
  cases a with
  |n i=>
   show NT.get (na m j) (NT.put (na m i) x (tu m l))=if j=i then some x else kK j l _
   split
   ·rename_i h;rw[h];exact NT.get_put_same _ _ _
   ·rename_i h;rw[NT.get_put_ne (fun e=>h (jF e))];exact ih
  |o i=>
   show NT.get (na m j) (if aC m i then NT.put i x (tu m l) else tu m l)=kK j l _
   split
   ·rename_i h;rw[NT.get_put_ne (fun e=>h.ne j e.symm)];exact ih
   ·exact ih
theorem aQ (h:aC m id):(hp l k m).get id=iQ id l (m.get id):=by
 show NT.get id (tu m l)=_
 induction l with
 |nil=>rfl
 |cons p l ih=>
  obtain ⟨a,x⟩:=p
  cases a with
  |n i=>
   show NT.get id (NT.put (na m i) x (tu m l))=iQ id l _
   rw[NT.get_put_ne (h.ne _)];exact ih
  |o i=>
   show NT.get id (if aC m i then NT.put i x (tu m l) else tu m l)=@ite _ (id=i) (Classical.propDecidable _) (some x) (iQ id l _)
   by_cases e:id=i
   ·rw[if_pos e,←e,if_pos h];exact NT.get_put_same _ _ _
   ·rw[if_neg e]
    split
    ·rw[NT.get_put_ne e];exact ih
    ·exact ih
theorem Bx {i:Nat} {d:Option NO}:kK j ((.n i,o)::l) d=if j=i then some o else kK j l d:=_root_.id rfl
theorem Bc {i:D4} {d:Option NO}:kK j ((.o i,o)::l) d=kK j l d:=_root_.id rfl
theorem B8 {d:Option NO}:iQ id [] d=d:=_root_.id rfl
theorem tG {i:Nat} {d:Option NO}:iQ id ((.n i,o)::l) d=iQ id l d:=_root_.id rfl
theorem ay {d:Option NO}:iQ id ((.o id,o)::l) d=some o:=if_pos rfl
theorem bc {i:D4} {d:Option NO} (h:id≠i):iQ id ((.o i,o)::l) d=iQ id l d:=if_neg h
end
structure Chg (S:List D4) (m m':NH):Prop where
 next:m.next.toNat<=m'.next.toNat
 get:∀{id},aC m id->id∉S->m'.get id=m.get id
theorem Chg.old {S:List D4} {m m':NH} {id:D4} (h:Chg S m m') (ho:aC m id):aC m' id:=Nat.lt_of_lt_of_le ho h.next
theorem Chg.refl (m:NH):Chg [] m m:=⟨Nat.le_refl _,fun _ _=>rfl⟩
theorem Chg.weak {S T:List D4} {a b:NH} (h:Chg S a b) (hs:∀id,id∈S->aC a id->id∈T):Chg T a b:=
 ⟨h.1,fun {id} ho hi=>h.2 ho fun q=>hi (hs id q ho)⟩
theorem Chg.trans {S T:List D4} {a b c:NH} (h:Chg S a b) (h':Chg T b c) (hs:∀id,id∈T->aC a id->id∈S):Chg S a c:=
 ⟨Nat.le_trans h.1 h'.1,fun {id} ho hi=>(h'.2 (h.old ho) fun q=>hi (hs id q ho)).trans (h.2 ho hi)⟩
def aU:List (AK×NO)->List D4
 | []=> []
 |(.n _,_)::l=>aU l
 |(.o i,_)::l=>i::aU l
theorem jA (l:List (AK×NO)) (k:Nat) (m:NH):Chg (aU l) m (hp l k m):=by
 refine ⟨by show m.next.toNat<=(na m k).toNat;unfold na;rw[D4.toNat_of];omega,fun {id} ho hi=> ?_⟩
 rw[aQ ho]
 induction l with
 |nil=>rfl
 |cons p l ih=>
  obtain ⟨a,x⟩:=p
  cases a with
  |n i=>rw[tG];exact ih hi
  |o i=>
   have hi:id∉i::aU l:=hi
   rw[List.mem_cons] at hi
   rw[bc (fun e=>hi (Or.inl e))]
   exact ih fun q=>hi (Or.inr q)
theorem ab {l:List (AK×NO)} {k j:Nat} {m:NH} (h:j<k):aC (hp l k m) (na m j):=by
 show (na m j).toNat<(na m k).toNat
 unfold na;rw[D4.toNat_of,D4.toNat_of];omega
theorem aa {l:List (AK×NO)} {k:Nat} {m:NH} {id:D4} (h:aC m id):aC (hp l k m) id:=(jA l k m).old h
theorem aI {m:NH} {j:Nat}:¬aC m (na m j):=by
 show ¬(na m j).toNat<m.next.toNat
 unfold na;rw[D4.toNat_of];omega
def bI (P:Program) (S:Nat->List NV->Option NV) (f:Nat) (args:List NV) (m:NH) (v:NV) (m':NH):Prop:=∃c,Call P S f args m (.val v c m')
section
variable {P:Program} {S:Nat->List NV->Option NV} {f:Nat} {args:List NV} {m:NH}
theorem WF.ret {K:NV->NH->Prop} (h:WF P S f args m K):∃v m',bI P S f args m v m'/\K v m':=by
 obtain ⟨v,c,m',hc,hk⟩:=h;exact ⟨v,m',⟨c,hc⟩,hk⟩
theorem Call.det {x y:CR} (h:Call P S f args m x) (h':Call P S f args m y):x=y:=by
 obtain ⟨hn,n,e⟩:=h
 obtain ⟨hn',k,e'⟩:=h'
 rw[←dt (bV (Nat.le_max_left n k)) e hn,dt (bV (Nat.le_max_right n k)) e' hn']
theorem bI.wf {v:NV} {m':NH} (h:bI P S f args m v m') {K:NV->NH->Prop}:WF P S f args m K=K v (hp [] 0 m'):=by
 rw[ai]
 apply propext
 constructor
 ·rintro ⟨u,c,n,hc,hk⟩
  obtain ⟨c',h'⟩:=h
  have:=Call.det hc h'
  injection this with a _ b
  rw[←a,←b];exact hk
 ·intro hk
  obtain ⟨c,h⟩:=h
  exact ⟨v,c,m',h,hk⟩
end
section
variable {t:Tm} {m:NH}
theorem GE {x:NOpd} {ty:Nat}:ag (.box x ty) t m=oN (ρ t x) fun v=>match cellsOf v with|some cs=> .mem (.ptr m.next 0) (m.add (.cells true cs))|none=> .fail:=by
 show wV t x (fun v=>aR (cellsOf v) fun cs=>m.new (.cells true cs) fun id h=> .mem (.ptr id 0) h)=_
 rw[bR]
 cases ρ t x with
 |none=>rfl
 |some v=>
  show aR (cellsOf v) _=(match cellsOf v with|some cs=>_|none=>NR.fail)
  cases cellsOf v with
  |none=>rfl
  |some cs=>exact NH.new_eq m (.cells true cs) (fun id h=>NR.mem (.ptr id 0) h)
theorem Fg {z:List NV} {ty:Nat}:ag (.alloc z ty) t m= .mem (.ptr m.next 0) (m.add (.cells true z)):=NH.new_eq m (.cells true z) (fun id h=>NR.mem (.ptr id 0) h)
end
end Nm
namespace Nm
open Go Go.RowKit
section
variable {P:Program} {S:Nat->List NV->Option NV}
theorem yp.of {l:D4} {args:List NV} {m:NH} {p p1:Jump} {tm tm1:NT NV} {ps ps1:List D4} {a b a1 b1:NC} {d1 d2:Dyn} {o:Out} {x:CR}
 (hm:m.get l=some (.loop 0 p tm ps a b)) (hlen:args.length=ps.length) (ha:eG P S (some l) a ⟨po ps args tm, [],none,m⟩ .norm d1) (hd1:d1.dfs= [])
 (hm1:d1.h.get l=some (.loop 0 p1 tm1 ps1 a1 b1)) (hb:eG P S (some l) b ⟨d1.t, [],none,d1.h.put l (.loop 1 p1 tm1 ps1 a1 b1)⟩ o d2) (ho:∀v,o≠.pan v) (hr:dK l o d2.h=x) (hne:x≠.fail):yp P S l args m x:=by
 obtain ⟨n,hn⟩:=ha
 obtain ⟨k,hk⟩:=hb
 refine ⟨hne,max n k, ?_⟩
 have key:∀(ps:List D4) (args:List NV) (tm:Tm) (K:Tm->CR),args.length=ps.length->dN .fail ps args tm K=K (po ps args tm):=by
  intro ps
  induction ps with
  |nil=>intro args tm K h;cases args with
   |nil=>rfl
   |cons=>simp at h
  |cons q ps ih=>
   intro args tm K h
   cases args with
   |nil=>simp at h
   |cons v vs=>
    have e:dN .fail (q::ps) (v::vs) tm K=NT.set q v tm fun t=>dN .fail ps vs t K:=rfl
    rw[e,NT.set_eq]
    exact ih _ _ _ (by simpa using h)
 unfold round
 rw[hm]
 show dN .fail ps args tm (fun t=>match ev P S (max n k) (some l) a ⟨t, [],none,m⟩ with
  | .mk .norm d=>(match d.dfs with| []=>cJ (ev P S (max n k)) l b d.t d.h|_=> .fail)
  |_=> .fail)=x
 rw[key _ _ _ _ hlen,bV (Nat.le_max_left n k) _ _ _ _ _ hn]
 show (match d1.dfs with| []=>cJ (ev P S (max n k)) l b d1.t d1.h|_=> .fail)=x
 rw[hd1]
 show cJ (ev P S (max n k)) l b d1.t d1.h=x
 unfold cJ
 rw[hm1]
 show (d1.h.set l (.loop 1 p1 tm1 ps1 a1 b1) fun h=>(match ev P S (max n k) (some l) b ⟨d1.t, [],none,h⟩ with
  | .mk o d=>(match o with
   | .pan v=>(match d.dfs with| []=>CR.pan v none d.h|_=> .fail)
   |o=>dK l o d.h)
  | .fail=> .fail))=x
 rw[NH.set_eq,bV (Nat.le_max_right n k) _ _ _ _ _ hk]
 cases o with
 |pan v=>exact absurd rfl (ho v)
 |_=>exact hr
theorem eG.range {f:Nat} {cap:List NV} {fx:NOpd} {ps:List D4} {a b:NC} {t:Tm} {dfs:List Dfr} {ctx:Option NV} {m m':NH} {v:NV} {c:Option NV} {o:Out} {d:Dyn}
 (hf:ρ t fx=some (.fn f cap)) (hc:Call P S f (.yld (m.add (.defd true)).next::cap) ((m.add (.defd true)).add (.loop 0 .none t ps a b)) (.val v c m'))
 (he:eu (m.add (.defd true)).next t (.mark m.next::dfs) ctx m'= .mk o d):eG P S none (.rangeFunc fx ps a b) ⟨t,dfs,ctx,m⟩ o d:=by
 obtain ⟨hne,k,hk⟩:=hc
 refine ⟨k+1, ?_⟩
 show (match ρ t fx with
  |some (.fn f cap)=>m.new (.defd true) fun q m=>cr P S (ev P S k) f cap ps a b t (.mark q::dfs) ctx m
  |_=>Res.fail)=_
 rw[hf]
 try dsimp only
 rw[NH.new_eq]
 unfold cr
 rw[NH.new_eq,hk]
 exact he
end
end Nm
namespace Nm
open Go Go.RowKit
section
variable {t:Tm} {m:NH}
theorem Bj {k:Nat} {x:NOpd}:ag (.field1 k x) t m=oN (ρ t x) (La k):=by
 show wV t x (fun v=>match v with| .agg l=>aR (ij l k) .val|_=> .fail)=_
 rw[bR]
 cases ρ t x with
 |none=>rfl
 |some v=>
  cases v with
  |agg l=>show aR (ij l k) .val=oN l[k]? .val;rw[d7];cases l[k]? <;>rfl
  |_=>rfl
theorem Lc {k:Nat} {l:List NV}:La k (.agg l)=oN l[k]? .val:=_root_.id rfl
theorem Kj {n:Nat} {x:NOpd}:ag (.loadN n x) t m=oN (ρ t x) (Et n m):=by
 show wV t x (fun a=>match a with| .ptr id off=>bS m id fun c=>aR (fC c off n) fun l=> .val (.agg l)|_=> .fail)=_
 rw[bR]
 cases ρ t x with
 |none=>rfl
 |some v=>
  cases v with
  |ptr id off=>
   show bS m id (fun c=>aR (fC c off n) fun l=> .val (.agg l))=Et n m (.ptr id off)
   unfold bS Et
   dsimp only
   split<;>rename_i hm
   ·rw[hm];dsimp only;rw[gl];split<;>rfl
   ·split<;>rename_i h2
    ·exact absurd h2 (hm _ _)
    ·rfl
  |_=>rfl
def KZ (i:Nat) (a:NV):NR:=match a with| .tup l=>oN l[i]? .val|_=> .fail
theorem AA {i:Nat} {x:NOpd}:ag (.extract x i) t m=oN (ρ t x) (KZ i):=by
 show wV t x (fun v=>match v with| .tup l=>aR (ij l i) .val|_=> .fail)=_
 rw[bR]
 cases ρ t x with
 |none=>rfl
 |some v=>
  cases v with
  |tup l=>show aR (ij l i) .val=oN l[i]? .val;rw[d7];cases l[i]? <;>rfl
  |_=>rfl
theorem K3 {i:Nat} {l:List NV}:KZ i (.tup l)=oN l[i]? .val:=_root_.id rfl
def zj (f:NV) (l:List NV):NR:=match f with| .fn f cap=> .call f (l++cap)| .yld r=> .yld r l|_=> .fail
noncomputable def Eb (t:Tm):List NOpd->(List NV->NR)->NR
 | [],K=>K []
 |x::l,K=>oN (ρ t x) fun v=>Eb t l fun l=>K (v::l)
theorem ry {l:List NOpd} {K:List NV->NR}:xo t l .fail K=Eb t l K:=by
 induction l generalizing K with
 |nil=>rfl
 |cons x l ih=>
  show Option.rec NR.fail (fun v=>xo t l .fail fun l=>K (v::l)) (ρ t x)=oN (ρ t x) fun v=>Eb t l fun l=>K (v::l)
  cases ρ t x with
  |none=>rfl
  |some v=>exact ih
theorem HC {K:List NV->NR}:Eb t [] K=K []:=_root_.id rfl
theorem KL {x:NOpd} {l:List NOpd} {K:List NV->NR}:Eb t (x::l) K=oN (ρ t x) fun v=>Eb t l fun l=>K (v::l):=_root_.id rfl
theorem IB {f:NOpd} {args:List NOpd}:ag (.call f args) t m=oN (ρ t f) fun f=>Eb t args (zj f):=by
 show wV t f (fun f=>xo t args .fail fun l=>match f with| .fn f cap=>ia l cap fun l=> .call f l| .yld r=> .yld r l|_=> .fail)=_
 rw[bR]
 cases ρ t f with
 |none=>rfl
 |some f=>
  show xo t args .fail _=Eb t args (zj f)
  rw[ry]
  congr 1
  funext l
  cases f with
  |fn f cap=>exact eM l cap (fun l=>NR.call f l)
  |_=>rfl
theorem HO {f:Nat} {cap l:List NV}:zj (.fn f cap) l= .call f (l++cap):=_root_.id rfl
theorem JE {q:D4} {l:List NV}:zj (.yld q) l= .yld q l:=_root_.id rfl
theorem Im {f:Nat} {l:List NOpd}:ag (.mkFn f l) t m=Eb t l fun l=> .val (.fn f l):=ry
end
end Nm
namespace Nm
open Go Go.RowKit
section
variable {t:Tm} {m:NH}
noncomputable def Lr (n:Nat) (m:NH) (a v:NV):NR:=match a with
 | .ptr id off=>(match cellsOf v with
  |some cs=>if cs.length=n then (match m.get id with
   |some (.cells true c)=>if off+cs.length<=c.length then .mem aM (m.put id (.cells true (c.take off++cs++c.drop (off+cs.length)))) else .fail
   |_=> .fail) else .fail
  |none=> .fail)
 |_=> .fail
theorem EQ {n:Nat} {a x:NOpd}:ag (.store n a x) t m=oN (ρ t a) fun a=>oN (ρ t x) fun v=>Lr n m a v:=by
 show wV t a (fun a=>wV t x fun v=>match a with
  | .ptr id off=>aR (cellsOf v) fun cs=>db cs fun k=>cond (Nat.beq k n) (storeAt m id off cs fun h=> .mem aM h) .fail
  |_=> .fail)=_
 simp only[bR]
 cases ρ t a with
 |none=>rfl
 |some a=>
  show oN (ρ t x) _=oN (ρ t x) _
  cases ρ t x with
  |none=>rfl
  |some v=>
   cases a with
   |ptr id off=>
    show aR (cellsOf v) (fun cs=>db cs fun k=>cond (Nat.beq k n) (storeAt m id off cs fun h=> .mem aM h) .fail)=Lr n m (.ptr id off) v
    unfold Lr
    cases cellsOf v with
    |none=>rfl
    |some cs=>
     show db cs (fun k=>cond (Nat.beq k n) (storeAt m id off cs fun h=> .mem aM h) .fail)=if cs.length=n then _ else _
     rw[bF]
     cases hb:Nat.beq cs.length n with
     |false=>rw[if_neg (Nat.ne_of_beq_eq_false hb)];rfl
     |true=>
      rw[if_pos (Nat.eq_of_beq_eq_true hb)]
      show storeAt m id off cs (fun h=> .mem aM h)=_
      unfold storeAt ee
      cases hm:m.get id with
      |none=>rfl
      |some o=>
       cases o with
       |cells w c=>
        cases w with
        |false=>rfl
        |true=>
         show aR (dx cs off c) (fun c=>m.set id (.cells true c) fun h=> .mem aM h)=if off+cs.length<=c.length then _ else _
         rw[fy]
         split
         ·exact NH.set_eq m id _ (fun h=>NR.mem aM h)
         ·rfl
       |_=>rfl
   |_=>rfl
end
end Nm
namespace Nm
open Go Go.RowKit
section
variable {t:Tm} {m:NH}
noncomputable def Na (n len:Nat) (m:NH) (o:Option (List NV)):NR:=match o with|some l=> .mem (.slc m.next 0 len n len) (m.add (.cells true l))|none=> .fail
theorem Iu {z:List NV} {n len ty:Nat} {ps:List (Nat×Nat×NOpd)}:ag (.buildSlice z n len ty ps) t m=Na n len m (cw t ps 0 z):=by
 show aR (cw t ps 0 z) (fun l=>m.new (.cells true l) fun id h=> .mem (.slc id 0 len n len) h)=_
 cases cw t ps 0 z with
 |none=>rfl
 |some l=>exact NH.new_eq m (.cells true l) (fun id h=>NR.mem (.slc id 0 len n len) h)
theorem ML {n len:Nat} {l:List NV}:Na n len m (some l)= .mem (.slc m.next 0 len n len) (m.add (.cells true l)):=_root_.id rfl
def oO {α β:Type} (o:Option α) (K:α->Option β):Option β:=match o with|some x=>K x|none=>none
theorem LD {α β:Type} {x:α} {K:α->Option β}:oO (some x) K=K x:=_root_.id rfl
end
end Nm
namespace Nm
open Go Go.RowKit
def wQ (q:Bool) (A B:Dyn->Prop) (d:Dyn):Prop:=(q=true->A d)/\(q=false->B d)
def wC (o:Option NV) (A B:Dyn->Prop) (d:Dyn):Prop:=wB o (A d) (B d)
def wG (o:Option NV) (b:Bool) (A B:Dyn->Prop) (d:Dyn):Prop:=match o with
 |some (.bool q)=>wQ (q==b) A B d
 |some _=>B d
 |none=>False
def Ay (F:Tm->List Dfr->Option NV->NH->Prop) (d:Dyn):Prop:=F d.t d.dfs d.ctx d.h
noncomputable def DI (x:NR) (v:NV):Bool:=match x with| .val u=>bP 4 u v|_=>false
section
variable {P:Program} {S:Nat->List NV->Option NV} {r:Option D4} {dst:Option D4} {op:NOp} {pre idx:Nat} {l:List NOper} {hs:List (Nat×NH)} {rs:List (Nat×(NH->NR)×NV)}
 {L:List (D4×NV)} {t:Tm} {dfs:List Dfr} {ctx:Option NV} {m m':NH} {v:NV} {k k' g:D4} {d:Dyn} {Q:Out->Dyn->Prop} {K:Dyn->Prop} {A B:Dyn->Prop} {b q:Bool}
theorem Md:wC (some (.bool q)) A B d=wQ q A B d:=_root_.id rfl
theorem Jg:wQ true A B d=A d:=by simp[wQ]
theorem K5:wQ false A B d=B d:=by simp[wQ]
theorem Mo:wG (some (.bool q)) b A B d=wQ (q==b) A B d:=_root_.id rfl
theorem Jl:wG (some aM) b A B d=B d:=_root_.id rfl
theorem E9:wO P S (⟨dst,op,some (g,b),pre,idx⟩::l) ⟨ak L t,dfs,ctx,m⟩ K=wG (eJ g L (NT.get g t)) b (Ay fun t dfs ctx m=>wN P S dst t dfs ctx m (ag op t m) fun d=>wO P S l d K) (Ay fun t dfs ctx m=>wO P S l ⟨aT dst aM t,dfs,ctx,m⟩ K) ⟨ak L t,dfs,ctx,m⟩:=by
 unfold wG
 rw[←fZ]
 show (match aB (ak L t) (some (g,b)) with|some true=>_|some false=>_|none=>False)=_
 have e:aB (ak L t) (some (g,b))=(match NT.get g (ak L t) with|some (.bool q)=>some (q==b)|some _=>some false|none=>none):=by
  show Option.rec (motive:=fun _=>Option Bool) none (fun v=>NV.onBool (some false) (fun c=>some (fu b c)) v) (NT.get g (ak L t))=_
  cases NT.get g (ak L t) with
  |none=>rfl
  |some v=>cases v with
   |bool q=>cases q<;>cases b<;>rfl
   |_=>rfl
 rw[e]
 cases NT.get g (ak L t) with
 |none=>rfl
 |some v=>cases v with
  |bool q=>
   dsimp only
   unfold wQ Ay
   cases (q==b)<;>simp
  |_=>rfl
theorem BE:wD P S (⟨dst,op,some (g,b),pre,idx⟩::l) hs rs ⟨ak L t,dfs,ctx,m⟩ K=wG (eJ g L (NT.get g t)) b (Ay fun t dfs ctx m=>wX (aj op) (ag op t m) P S (ag op t) dst pre idx l hs rs ⟨t,dfs,ctx,m⟩ K) (Ay fun t dfs ctx m=>wD P S l hs rs ⟨aT dst aM t,dfs,ctx,m⟩ K) ⟨ak L t,dfs,ctx,m⟩:=by
 unfold wG
 rw[←fZ]
 have e:aB (ak L t) (some (g,b))=(match NT.get g (ak L t) with|some (.bool q)=>some (q==b)|some _=>some false|none=>none):=by
  show Option.rec (motive:=fun _=>Option Bool) none (fun v=>NV.onBool (some false) (fun c=>some (fu b c)) v) (NT.get g (ak L t))=_
  cases NT.get g (ak L t) with
  |none=>rfl
  |some v=>cases v with
   |bool q=>cases q<;>cases b<;>rfl
   |_=>rfl
 have e2:wD P S (⟨dst,op,some (g,b),pre,idx⟩::l) hs rs ⟨ak L t,dfs,ctx,m⟩ K=(match aB (ak L t) (some (g,b)) with
  |some true=>wX (aj op) (ag op (ak L t) m) P S (ag op (ak L t)) dst pre idx l hs rs ⟨ak L t,dfs,ctx,m⟩ K
  |some false=>wD P S l hs rs ⟨aT dst aM (ak L t),dfs,ctx,m⟩ K
  |none=>False):=by
  unfold wX
  simp only[wD]
  all_goals (cases aB (ak L t) (some (g,b)) with
   |none=>rfl
   |some q=>cases q with
    |false=>rfl
    |true=>cases aj op<;>cases ag op (ak L t) m<;>rfl)
 rw[e2,e]
 cases NT.get g (ak L t) with
 |none=>rfl
 |some v=>cases v with
  |bool q=>
   dsimp only
   unfold wQ Ay
   cases (q==b)<;>simp
  |_=>rfl
theorem Gd {i:Nat} {f:NH->NR} {u:NV}:stays pre m ((i,f,u)::rs)=cond (Nat.testBit pre i) (stays pre m rs) (DI (f m) u&&stays pre m rs):=by
 show cond (Nat.testBit pre i) (stays pre m rs) (match f m with| .val v=>cond (bP 4 v u) (stays pre m rs) false|_=>false)=_
 congr 1
 cases f m with
 |val u'=>show cond (bP 4 u' u) _ false=(bP 4 u' u&&_);cases bP 4 u' u<;>rfl
 |_=>rfl
theorem Fb {i:Nat}:ahead pre ((i,m)::hs)=cond (Nat.testBit pre i) (ahead pre hs) false:=_root_.id rfl
theorem CD {u:NV}:DI (.val u) v=bP 4 u v:=_root_.id rfl
end
theorem gO (d:D4):bn d d=true:=n9 d
theorem sP (l:List Nat):x8 l l=true:=by
 induction l with
 |nil=>rfl
 |cons x l ih=>show cond (Nat.beq x x) (x8 l l) false=true;rw[Nat.beq_refl];exact ih
theorem vQ (l:List ST):pP l l=true:=by
 induction l with
 |nil=>rfl
 |cons x l ih=>
  obtain ⟨m,i,lo,hi⟩:=x
  show cond (Nat.beq m m) (cond (Nat.beq i i) (cond (Nat.beq lo lo) (cond (Nat.beq hi hi) (pP l l) false) false) false) false=true
  simp[ih]
def zc (v:NV):Prop:=match v with| .agg _| .tup _| .fn _ _| .ifc _ _| .int _ (.ge _)| .int _ (.le _)=>False|_=>True
theorem jl {n:Nat} {v:NV} (h:zc v):bP (n+1) v v=true:=by
 show yo (bP n) v v=true
 have hi:∀z:Int,lF z z=true:=fun z=>by rw[bW];simp
 cases v with
 |bool b=>cases b<;>rfl
 |int k x=>cases x with
  |lit z=>show cond (jG k k) (lF z z) false=true;rw[hi];cases k<;>rfl
  |sym c ts=>show cond (jG k k) (cond (lF c c) (pP ts ts) false) false=true;rw[hi,vQ];cases k<;>rfl
  |ge z=>exact h.elim
  |le z=>exact h.elim
 |str s=>exact sP s
 |ptr id o=>show cond (bn id id) (Nat.beq o o) false=true;rw[gO];simp
 |slc id o n e k=>show cond (bn id id) (cond (Nat.beq o o) (cond (Nat.beq n n) (cond (Nat.beq e e) (Nat.beq k k) false) false) false) false=true;rw[gO];simp
 |map id=>exact gO id
 |yld id=>exact gO id
 |agg l=>exact h.elim
 |tup l=>exact h.elim
 |fn f c=>exact h.elim
 |ifc t v=>exact h.elim
 |_=>rfl
theorem xr {n:Nat} {l:List NV} (h:∀v∈l,zc v):iq (bP (n+1)) l l=true:=by
 induction l with
 |nil=>rfl
 |cons x l ih=>
  show cond (bP (n+1) x x) (iq (bP (n+1)) l l) false=true
  rw[jl (h x (List.mem_cons_self ..))]
  exact ih fun v hv=>h v (List.mem_cons_of_mem _ hv)
theorem nL {n:Nat} {l:List NV} (h:∀v∈l,zc v):bP (n+2) (.agg l) (.agg l)=true:=xr h
theorem F7 {n:Nat} {k:IntKind} {z:Int}:bP (n+1) (.int k (.lit z)) (.int k (.lit z))=true:=jl trivial
theorem FT {n:Nat} {l:List Nat}:bP (n+1) (.str l) (.str l)=true:=jl trivial
end Nm
namespace Nm
open Go Go.RowKit
theorem JT {a b:Int} (h:-9223372036854775808<=a - b) (h':a - b<9223372036854775808):dH .num .sub (.int .i64 (.lit a)) (.int .i64 (.lit b))=some (.int .i64 (.lit (a - b))):=by
 refine (jU rfl).trans ?_
 show b9 .i64 (bE .i64 (ni a b))=_
 rw[eQ,wrap_small h h']
 exact cK _ _
theorem JD {a b:Int} (h:-9223372036854775808<=a*b) (h':a*b<9223372036854775808):dH .num .mul (.int .i64 (.lit a)) (.int .i64 (.lit b))=some (.int .i64 (.lit (a*b))):=by
 refine (jU rfl).trans ?_
 show b9 .i64 (bE .i64 (pM a b))=_
 rw[fE,wrap_small h h']
 exact cK _ _
theorem HD {p:Prop} [Decidable p] (h:p):decide p=true:=by simp[h]
theorem FC {p:Prop} [Decidable p] (h:¬p):decide p=false:=by simp[h]
section
variable {m:NH}
theorem Kk {off n e kc:Nat} {id:D4}:Hf (.slc id off n e kc)= .val (.int .i64 (.lit (n:Int))):=_root_.id rfl
theorem BI {n off len e kc:Nat} {id:D4} {ik:IntKind} {z:Int} (h0:0<=z) (h1:z<len):my n (.slc id off len e kc) (.int ik (.lit z))= .val (.ptr id (off+z.toNat*n)):=by
 obtain ⟨i,rfl⟩:=Int.eq_ofNat_of_zero_le h0
 show (if i<len then NR.val (.ptr id (off+i*n)) else .fail)= .val (.ptr id (off+i*n))
 rw[if_pos (by omega)]
noncomputable def JP (off:Nat) (o:Option NO):NR:=match o with|some (.cells _ c)=>oN c[off]? .val|_=> .fail
noncomputable def Jw (n off:Nat) (o:Option NO):NR:=match o with|some (.cells _ c)=>if off+n<=c.length then .val (.agg ((c.drop off).take n)) else .fail|_=> .fail
theorem Kn {id:D4} {off:Nat}:FY m (.ptr id off)=JP off (m.get id):=_root_.id rfl
theorem Kx {id:D4} {n off:Nat}:Et n m (.ptr id off)=Jw n off (m.get id):=_root_.id rfl
theorem GQ {off:Nat} {w:Bool} {c:List NV}:JP off (some (.cells w c))=oN c[off]? .val:=_root_.id rfl
theorem Ik {n off:Nat} {w:Bool} {c:List NV} (h:off+n<=c.length):Jw n off (some (.cells w c))= .val (.agg ((c.drop off).take n)):=if_pos h
noncomputable def Mc (n:Nat) (id:D4) (off:Nat) (m:NH) (cs:Option (List NV)) (o:Option NO):NR:=match cs with
 |some cs=>if cs.length=n then (match o with
  |some (.cells true c)=>if off+cs.length<=c.length then .mem aM (m.put id (.cells true (c.take off++cs++c.drop (off+cs.length)))) else .fail
  |_=> .fail) else .fail
 |none=> .fail
theorem Mm {n off:Nat} {id:D4} {v:NV}:Lr n m (.ptr id off) v=Mc n id off m (cellsOf v) (m.get id):=_root_.id rfl
theorem jq {c:List NV} {off:Nat} {x:NV} (h:off<c.length):c.take off++ [x]++c.drop (off+1)=c.set off x:=by
 rw[List.set_eq_take_append_cons_drop,if_pos h]
 simp
theorem Kt {off:Nat} {id:D4} {x:NV} {c:List NV} (h:off<c.length):Mc 1 id off m (some [x]) (some (.cells true c))= .mem aM (m.put id (.cells true (c.set off x))):=by
 show (if [x].length=1 then (if off+ [x].length<=c.length then NR.mem aM (m.put id (.cells true (c.take off++ [x]++c.drop (off+ [x].length)))) else .fail) else .fail)=_
 rw[if_pos (show [x].length=1 from rfl),if_pos (by show off+1<=_;omega)]
 show NR.mem aM (m.put id (.cells true (c.take off++ [x]++c.drop (off+1))))=_
 rw[jq h]
theorem Jh {n off:Nat} {id:D4} {cs c:List NV} (h:cs.length=n+2) (h':off+(n+2)<=c.length):Mc (n+2) id off m (some cs) (some (.cells true c))= .mem aM (m.put id (.cells true (c.take off++cs++c.drop (off+(n+2))))):=by
 rw[←h] at h' ⊢
 show (if cs.length=cs.length then (if off+cs.length<=c.length then NR.mem aM (m.put id (.cells true (c.take off++cs++c.drop (off+cs.length)))) else .fail) else .fail)=_
 rw[if_pos rfl,if_pos h']
end
section
variable {t:Tm} {m:NH}
def xF (c:NV) (a b:Option NV):NR:=match c with| .bool c=>(if c then oN a .val else oN b .val)|_=> .fail
theorem GN {c a b:NOpd}:ag (.pick c a b) t m=oN (ρ t c) fun c=>xF c (ρ t a) (ρ t b):=by
 show wV t c (fun c=>match c with| .bool c=>Bool.rec (wV t b .val) (wV t a .val) c|_=> .fail)=_
 rw[bR]
 cases ρ t c with
 |none=>rfl
 |some v=>
  cases v with
  |bool q=>show Bool.rec (wV t b .val) (wV t a .val) q=if q then oN (ρ t a) .val else oN (ρ t b) .val;rw[bR,bR];cases q<;>rfl
  |_=>rfl
theorem EG {a b:Option NV}:xF (.bool true) a b=oN a .val:=_root_.id rfl
theorem EW {a b:Option NV}:xF (.bool false) a b=oN b .val:=_root_.id rfl
theorem F3 {q p r:Bool}:xF (.bool q) (some (.bool p)) (some (.bool r))= .val (.bool (if q then p else r)):=by cases q<;>rfl
theorem BR {mx:Bool} {l:List NOpd}:ag (.minmax mx l) t m=Eb t l fun l=>oN (AM mx l) .val:=by
 show xo t l .fail (fun l=>aR (AM mx l) .val)=_
 rw[ry]
 congr 1
 funext l
 cases AM mx l<;>rfl
theorem Kq {k:IntKind} {a b:Int}:AM true [.int k (.lit a),.int k (.lit b)]=some (.int k (.lit (max a b))):=by
 show Option.rec (motive:=fun _=>Option NV) none some (cond (cond true (jo a b) (jo b a)) (some (NV.int k (.lit b))) (some (.int k (.lit a))))=_
 rw[cj]
 by_cases h:a<b
 ·simp[h,Int.max_def,show a<=b by omega]
 ·simp[h,Int.max_def];omega
theorem K9 {k:IntKind} {a b:Int}:AM false [.int k (.lit a),.int k (.lit b)]=some (.int k (.lit (min a b))):=by
 show Option.rec (motive:=fun _=>Option NV) none some (cond (cond false (jo a b) (jo b a)) (some (NV.int k (.lit b))) (some (.int k (.lit a))))=_
 rw[cj a b,cj b a]
 by_cases h:b<a
 ·rw[decide_eq_true h,Int.min_eq_right (by omega)];rfl
 ·rw[decide_eq_false h,Int.min_eq_left (by omega)];rfl
noncomputable def Cd (z:List NV) (n bytes:Nat) (m:NH) (l c:Nat):NR:=cond (Nat.ble l c) (cond (room c bytes) (.mem (.slc m.next 0 l n c) (m.add (.cells true (rep c z)))) .fail) .fail
theorem z4 {z:List NV} {n bytes ty:Nat} {l c:NOpd}:ag (.mkSlice z n bytes ty l c) t m=oN (ρ t l) fun l=>aR (jp l) fun l=>oN (ρ t c) fun c=>aR (jp c) fun c=>Cd z n bytes m l c:=by
 show dS t l (fun l=>dS t c fun c=>cond (Nat.ble l c) (cond (room c bytes) (wA c z fun cs=>m.new (.cells true cs) fun id h=> .mem (.slc id 0 l n c) h) .fail) .fail)=_
 unfold dS
 rw[bR]
 congr 1
 funext lv
 congr 1
 funext i
 rw[bR]
 congr 1
 funext cv
 congr 1
 funext j
 rw[fJ,NH.new_eq]
 rfl
theorem IT {k:IntKind} {a:Int} {K:Nat->NR} (h:0<=a):aR (jp (.int k (.lit a))) K=K a.toNat:=by
 obtain ⟨i,rfl⟩:=Int.eq_ofNat_of_zero_le h
 rfl
theorem Hb {z:List NV} {n bytes i:Nat} (h1:i*bytes<=1099511627776) (h2:i<=1099511627776):Cd z n bytes m i i= .mem (.slc m.next 0 i n i) (m.add (.cells true (rep i z))):=by
 unfold Cd
 rw[Nat.ble_eq_true_of_le (Nat.le_refl i)]
 have e:room i bytes=true:=by
  unfold room
  rw[show Nat.ble (Nat.mul i bytes) 1099511627776=true from Nat.ble_eq_true_of_le h1,show Nat.ble i 1099511627776=true from Nat.ble_eq_true_of_le h2]
  rfl
 rw[e];rfl
noncomputable def Ce (n bytes:Nat) (m:NH) (s x:NV):NR:=fB n m x fun k new=>eS n bytes m s k new
theorem CZ {n bytes ty:Nat} {s x:NOpd}:ag (.append n bytes ty s x) t m=oN (ρ t s) fun s=>oN (ρ t x) fun x=>Ce n bytes m s x:=by
 show wV t s (fun s=>wV t x fun x=>fB n m x fun k new=>eS n bytes m s k new)=_
 rw[bR];congr 1;funext s;rw[bR];rfl
noncomputable def MZ (o:Option (List NV)):NR:=match o with|some l=> .val (.agg l)|none=> .fail
theorem Fo {z:List NV} {ps:List (Nat×Nat×NOpd)}:ag (.build z ps) t m=MZ (c7 t ps z):=by
 show aR (c7 t ps z) (fun l=> .val (.agg l))=_
 cases c7 t ps z<;>rfl
theorem Mt {l:List NV}:MZ (some l)= .val (.agg l):=_root_.id rfl
theorem Lk {l:List NV}:c7 t [] l=some l:=_root_.id rfl
noncomputable def My (t:Tm) (ps:List (Nat×Nat×NOpd)) (off k:Nat) (l:List NV) (o:Option (List NV)):Option (List NV):=match o with
 |some cs=>if cs.length=k then (match dx cs off l with|some l=>c7 t ps l|none=>none) else none
 |none=>none
theorem Lz {ps:List (Nat×Nat×NOpd)} {off k:Nat} {x:NOpd} {l:List NV}:c7 t ((off,k,x)::ps) l=oO (ρ t x) fun v=>My t ps off k l (cellsOf v):=by
 show Option.rec (motive:=fun _=>Option (List NV)) none (fun v:NV=>Option.rec (motive:=fun _=>Option (List NV)) none (fun cs=>db cs fun j=>cond (Nat.beq j k) (Option.rec (motive:=fun _=>Option (List NV)) none (c7 t ps) (dx cs off l)) none) (cellsOf v)) (ρ t x)=_
 cases ρ t x with
 |none=>rfl
 |some v=>
  show Option.rec (motive:=fun _=>Option (List NV)) none (fun cs=>db cs fun j=>cond (Nat.beq j k) (Option.rec (motive:=fun _=>Option (List NV)) none (c7 t ps) (dx cs off l)) none) (cellsOf v)=My t ps off k l (cellsOf v)
  cases cellsOf v with
  |none=>rfl
  |some cs=>
   show db cs (fun j=>cond (Nat.beq j k) (Option.rec (motive:=fun _=>Option (List NV)) none (c7 t ps) (dx cs off l)) none)=if cs.length=k then _ else _
   rw[bF]
   cases hb:Nat.beq cs.length k with
   |false=>rw[if_neg (Nat.ne_of_beq_eq_false hb)];rfl
   |true=>rw[if_pos (Nat.eq_of_beq_eq_true hb)];cases dx cs off l<;>rfl
theorem K6 {ps:List (Nat×Nat×NOpd)} {off:Nat} {x:NV} {l:List NV} (h:off<l.length):My t ps off 1 l (some [x])=c7 t ps (l.set off x):=by
 show (if [x].length=1 then (match dx [x] off l with|some l=>c7 t ps l|none=>none) else none)=_
 rw[if_pos (show [x].length=1 from rfl),fy,if_pos (by show off+1<=_;omega)]
 show c7 t ps (l.take off++ [x]++l.drop (off+1))=_
 rw[jq h]
end
end Nm
namespace Nm
open Go Go.RowKit
section
variable {t:Tm} {m:NH}
noncomputable def gE (t:Tm) (x:Option NOpd) (d:Nat) (K:Nat->NR):NR:=match x with|none=>K d|some x=>oN (ρ t x) fun v=>aR (jp v) K
theorem eX {x:Option NOpd} {d:Nat} {K:Nat->NR}:dc t x d K=gE t x d K:=by
 cases x with
 |none=>rfl
 |some x=>show wV t x _=_;rw[bR];rfl
noncomputable def Fh (n:Nat) (id:D4) (off len e kc a b:Nat):NR:=cond (Nat.ble a b) (cond (Nat.ble b (Bool.rec kc len (Nat.ble kc len))) (cond (Nat.beq e n) (.val (.slc id (off+a*n) (b - a) n (kc - a))) .fail) .fail) .fail
noncomputable def wH (n:Nat) (t:Tm) (lo hi:Option NOpd) (v:NV):NR:=match v with
 | .slc id off len e kc=>gE t hi len fun b=>gE t lo 0 fun a=>Fh n id off len e kc a b
 | .nils=>gE t hi 0 fun b=>gE t lo 0 fun a=>cond (Nat.beq a 0) (cond (Nat.beq b 0) (.val .nils) .fail) .fail
 |_=> .fail
theorem Kd {n:Nat} {x:NOpd} {lo hi:Option NOpd}:ag (.sliceSlc n x lo hi) t m=oN (ρ t x) (wH n t lo hi):=by
 show wV t x (fun v=>match v with
  | .slc id off len e kc=>dc t hi len fun b=>dc t lo 0 fun a=>cond (Nat.ble a b) (cond (Nat.ble b (Bool.rec kc len (Nat.ble kc len))) (cond (Nat.beq e n)
   (aw (Nat.add off (Nat.mul a n)) fun o=>aw (Nat.sub b a) fun m=>aw (Nat.sub kc a) fun k=> .val (.slc id o m n k)) .fail) .fail) .fail
  | .nils=>dc t hi 0 fun b=>dc t lo 0 fun a=>cond (Nat.beq a 0) (cond (Nat.beq b 0) (.val .nils) .fail) .fail
  |_=> .fail)=_
 rw[bR]
 congr 1
 funext v
 cases v with
 |slc id off len e kc=>
  dsimp only[wH]
  rw[eX]
  congr 1
  funext b
  rw[eX]
  congr 1
  funext a
  simp only[ae]
  rfl
 |nils=>
  dsimp only[wH]
  rw[eX]
  congr 1
  funext b
  rw[eX]
 |_=>rfl
theorem HE {d:Nat} {K:Nat->NR}:gE t none d K=K d:=_root_.id rfl
theorem JK {x:NOpd} {d:Nat} {K:Nat->NR}:gE t (some x) d K=oN (ρ t x) fun v=>aR (jp v) K:=_root_.id rfl
theorem A3 {n off len e kc:Nat} {id:D4} {lo hi:Option NOpd}:wH n t lo hi (.slc id off len e kc)=gE t hi len fun b=>gE t lo 0 fun a=>Fh n id off len e kc a b:=_root_.id rfl
theorem BN {n:Nat} {lo hi:Option NOpd}:wH n t lo hi .nils=gE t hi 0 fun b=>gE t lo 0 fun a=>cond (Nat.beq a 0) (cond (Nat.beq b 0) (.val .nils) .fail) .fail:=_root_.id rfl
theorem Gs {n a b off len kc:Nat} {id:D4} (h:a<=b) (h':b<=len):Fh n id off len n kc a b= .val (.slc id (off+a*n) (b - a) n (kc - a)):=by
 unfold Fh
 rw[Nat.ble_eq_true_of_le h,Nat.beq_refl,show Nat.ble b (Bool.rec kc len (Nat.ble kc len))=true from Nat.ble_eq_true_of_le (by
  cases hb:Nat.ble kc len with
  |true=>exact h'
  |false=>
   have:¬kc<=len:=fun q=>by rw[Nat.ble_eq_true_of_le q] at hb;cases hb
   show b<=kc
   omega)]
 rfl
end
end Nm
