/- Contracts of functions that the law LowerPrograms reaches, part 0. -/
import Derived.Test.YtcpilcplobihkaaLoc
open Go Nm Go.Proofs
namespace FR
set_option linter.unusedSimpArgs false
set_option linter.unusedVariables false
abbrev u8 (c:Nat):NV:= .int .u8 (.lit (c:Int))
abbrev u64 (n:Nat):NV:= .int .u64 (.lit (n:Int))
inductive Ex where
 |mk (k:Int) (n o:Nat) (s:List Nat) (ks:List Ex)
inductive Stm where
 |mk (k a:Int) (nm ce:List Nat) (i x y:Ex) (b e:List Stm)
theorem Ex.ind {P:Ex->Prop} (h:∀k n o s ks,(∀x∈ks,P x)->P (.mk k n o s ks)):∀x,P x
 | .mk k n o s ks=>h k n o s ks fun x _=>Ex.ind h x
theorem Stm.ind {P:Stm->Prop} (h:∀k a nm ce i x y b e,(∀s∈b,P s)->(∀s∈e,P s)->P (.mk k a nm ce i x y b e)):∀s,P s
 | .mk k a nm ce i x y b e=>h k a nm ce i x y b e (fun s _=>Stm.ind h s) (fun s _=>Stm.ind h s)
inductive RE (m:NH) (T:D4->Prop):Ex->List NV->Prop
 |mk {k:Int} {n o:Nat} {s:List Nat} {ks:List Ex} {v:NV} {C:List (List NV)} (hv:Sl m v 5 C) (hT:∀i∈ids v,T i) (hl:C.length=ks.length) (h:∀(i:Nat) (x:Ex) (c:List NV),ks[i]? =some x->C[i]? =some c->RE m T x c):
  RE m T (.mk k n o s ks) [ii k,u64 n,u8 o,.str s,v]
inductive RS (m:NH) (T:D4->Prop):Stm->List NV->Prop
 |mk {k a:Int} {nm ce:List Nat} {i x y:Ex} {b e:List Stm} {ci cx cy:List NV} {vb ve:NV} {B E:List (List NV)} (hi:RE m T i ci) (hx:RE m T x cx) (hy:RE m T y cy)
  (hb:Sl m vb 21 B) (hbT:∀i∈ids vb,T i) (hbl:B.length=b.length) (hbR:∀(j:Nat) (s:Stm) (c:List NV),b[j]? =some s->B[j]? =some c->RS m T s c)
  (he:Sl m ve 21 E) (heT:∀i∈ids ve,T i) (hel:E.length=e.length) (heR:∀(j:Nat) (s:Stm) (c:List NV),e[j]? =some s->E[j]? =some c->RS m T s c):
  RS m T (.mk k a nm ce i x y b e) ([ii k,ii a,.str nm,.str ce]++ci++cx++cy++ [vb,ve])
def bo (T:D4->Prop) (m m':NH):Prop:=∀i,T i->ay m i->m'.get i=m.get i/\ay m' i
theorem io {m m':NH} (h:Chg [] m m') (T:D4->Prop):bo T m m':=fun _ _ ho=>⟨h.get ho (by simp),h.old ho⟩
theorem bo.of {S:List D4} {m m':NH} {T:D4->Prop} (h:Chg S m m') (hT:∀i,T i->i∉S):bo T m m':=fun i hi ho=>⟨h.get ho (hT i hi),h.old ho⟩
theorem fk {m M:NH} {l:List (AK×NO)} {k:Nat} (h:Chg [] m M) (e:aR l= []):Chg [] m (hp l k M):=h.trans (ao e) (by simp)
theorem fF {m m':NH} {T:D4->Prop} {v:NV} {e:Nat} {C:List (List NV)} (h:Sl m v e C) (hT:∀i∈ids v,T i) (hs:bo T m m'):Sl m' v e C:=by
 obtain ⟨h0,⟨rfl,rfl⟩|⟨id,off,kc,w,c,rfl,h1,h2,h3,h4⟩⟩:=h
 ·exact ⟨h0,Or.inl ⟨rfl,rfl⟩⟩
 ·obtain ⟨g1,g2⟩:=hs id (hT id (List.mem_cons_self ..)) h2
  exact ⟨h0,Or.inr ⟨id,off,kc,w,c,rfl,g1.trans h1,g2,h3,h4⟩⟩
theorem RE.stays {m m':NH} {T:D4->Prop} (hs:bo T m m') {x:Ex} {c:List NV} (h:RE m T x c):RE m' T x c:=by
 induction h with
 |mk hv hT hl h ih=>exact .mk (fF hv hT hs) hT hl ih
theorem RE.weak {m:NH} {T T':D4->Prop} (hT':∀i,T i->T' i) {x:Ex} {c:List NV} (h:RE m T x c):RE m T' x c:=by
 induction h with
 |mk hv hT hl h ih=>exact .mk hv (fun i hi=>hT' i (hT i hi)) hl ih
theorem RS.stays {m m':NH} {T:D4->Prop} (hs:bo T m m') {x:Stm} {c:List NV} (h:RS m T x c):RS m' T x c:=by
 induction h with
 |mk hi hx hy hb hbT hbl hbR he heT hel heR ih1 ih2=>exact .mk (hi.stays hs) (hx.stays hs) (hy.stays hs) (fF hb hbT hs) hbT hbl ih1 (fF he heT hs) heT hel ih2
theorem RS.weak {m:NH} {T T':D4->Prop} (hT':∀i,T i->T' i) {x:Stm} {c:List NV} (h:RS m T x c):RS m T' x c:=by
 induction h with
 |mk hi hx hy hb hbT hbl hbR he heT hel heR ih1 ih2=>exact .mk (hi.weak hT') (hx.weak hT') (hy.weak hT') hb (fun i q=>hT' i (hbT i q)) hbl ih1 he (fun i q=>hT' i (heT i q)) hel ih2
structure SE (m:NH) (T:D4->Prop) (v:NV) (l:List Ex) (C:List (List NV)):Prop where
 sl:Sl m v 5 C
 hT:∀i∈ids v,T i
 len:C.length=l.length
 R:∀(i:Nat) (x:Ex) (c:List NV),l[i]? =some x->C[i]? =some c->RE m T x c
structure SS (m:NH) (T:D4->Prop) (v:NV) (l:List Stm) (C:List (List NV)):Prop where
 sl:Sl m v 21 C
 hT:∀i∈ids v,T i
 len:C.length=l.length
 R:∀(i:Nat) (x:Stm) (c:List NV),l[i]? =some x->C[i]? =some c->RS m T x c
theorem RE.inv {m:NH} {T:D4->Prop} {k:Int} {n o:Nat} {s:List Nat} {ks:List Ex} {c:List NV} (h:RE m T (.mk k n o s ks) c):∃v C,c= [ii k,u64 n,u8 o,.str s,v]/\SE m T v ks C:=by
 cases h with
 |mk hv hT hl h=>exact ⟨_,_,rfl,hv,hT,hl,h⟩
theorem RE.of {m:NH} {T:D4->Prop} {k:Int} {n o:Nat} {s:List Nat} {ks:List Ex} {v:NV} {C:List (List NV)} (h:SE m T v ks C):RE m T (.mk k n o s ks) [ii k,u64 n,u8 o,.str s,v]:= .mk h.sl h.hT h.len h.R
theorem RE.len {m:NH} {T:D4->Prop} {x:Ex} {c:List NV} (h:RE m T x c):c.length=5:=by cases h;rfl
theorem RS.len {m:NH} {T:D4->Prop} {x:Stm} {c:List NV} (h:RS m T x c):c.length=21:=by
 cases h with
 |mk hi hx hy=>simp[hi.len,hx.len,hy.len]
def Ex.k:Ex->Int| .mk k _ _ _ _=>k
def Ex.n:Ex->Nat| .mk _ n _ _ _=>n
def Ex.o:Ex->Nat| .mk _ _ o _ _=>o
def Ex.s:Ex->List Nat| .mk _ _ _ s _=>s
def Ex.ks:Ex->List Ex| .mk _ _ _ _ ks=>ks
abbrev Ex.l (x:Ex) (v:NV):List NV:= [ii x.k,u64 x.n,u8 x.o,.str x.s,v]
theorem RE.inv' {m:NH} {T:D4->Prop} {x:Ex} {c:List NV} (h:RE m T x c):∃v C,c=x.l v/\SE m T v x.ks C:=by
 cases x;exact h.inv
theorem RS.inv {m:NH} {T:D4->Prop} {k a:Int} {nm ce:List Nat} {i x y:Ex} {b e:List Stm} {c:List NV} (h:RS m T (.mk k a nm ce i x y b e) c):
 ∃vi vx vy vb ve B E,c= [ii k,ii a,.str nm,.str ce,ii i.k,u64 i.n,u8 i.o,.str i.s,vi,ii x.k,u64 x.n,u8 x.o,.str x.s,vx,ii y.k,u64 y.n,u8 y.o,.str y.s,vy,vb,ve]/\
  RE m T i (i.l vi)/\RE m T x (x.l vx)/\RE m T y (y.l vy)/\SS m T vb b B/\SS m T ve e E:=by
 cases h with
 |mk hi hx hy hb hbT hbl hbR he heT hel heR=>
  obtain ⟨vi,Ci,rfl,-⟩:=hi.inv'
  obtain ⟨vx,Cx,rfl,-⟩:=hx.inv'
  obtain ⟨vy,Cy,rfl,-⟩:=hy.inv'
  exact ⟨vi,vx,vy,_,_,_,_,rfl,hi,hx,hy,⟨hb,hbT,hbl,hbR⟩,⟨he,heT,hel,heR⟩⟩
theorem SE.stays {m m':NH} {T:D4->Prop} (hs:bo T m m') {v:NV} {l:List Ex} {C:List (List NV)} (h:SE m T v l C):SE m' T v l C:=⟨fF h.sl h.hT hs,h.hT,h.len,fun i x c a b=>(h.R i x c a b).stays hs⟩
theorem SS.stays {m m':NH} {T:D4->Prop} (hs:bo T m m') {v:NV} {l:List Stm} {C:List (List NV)} (h:SS m T v l C):SS m' T v l C:=⟨fF h.sl h.hT hs,h.hT,h.len,fun i x c a b=>(h.R i x c a b).stays hs⟩
theorem SE.at {m:NH} {T:D4->Prop} {v:NV} {l:List Ex} {C:List (List NV)} (h:SE m T v l C) (i:Nat) (hi:i<l.length):∃c,C[i]? =some c/\RE m T l[i] c:=by
 have hc:i<C.length:=by rw[h.len];exact hi
 exact ⟨C[i],List.getElem?_eq_getElem hc,h.R i _ _ (List.getElem?_eq_getElem hi) (List.getElem?_eq_getElem hc)⟩
theorem SS.at {m:NH} {T:D4->Prop} {v:NV} {l:List Stm} {C:List (List NV)} (h:SS m T v l C) (i:Nat) (hi:i<l.length):∃c,C[i]? =some c/\RS m T l[i] c:=by
 have hc:i<C.length:=by rw[h.len];exact hi
 exact ⟨C[i],List.getElem?_eq_getElem hc,h.R i _ _ (List.getElem?_eq_getElem hi) (List.getElem?_eq_getElem hc)⟩
def zE:Ex:= .mk 0 0 0 [] []
theorem Bn (m:NH) (T:D4->Prop) (k:Int) (n o:Nat) (s:List Nat):RE m T (.mk k n o s []) [ii k,u64 n,u8 o,.str s,.nils]:= .mk (C:= []) Sl.nil (by simp[ids]) rfl (by simp)
structure SV where
 (vi vx vy vb ve:NV)
def Stm.k:Stm->Int| .mk k _ _ _ _ _ _ _ _=>k
def Stm.a:Stm->Int| .mk _ a _ _ _ _ _ _ _=>a
def Stm.nm:Stm->List Nat| .mk _ _ s _ _ _ _ _ _=>s
def Stm.ce:Stm->List Nat| .mk _ _ _ s _ _ _ _ _=>s
def Stm.i:Stm->Ex| .mk _ _ _ _ x _ _ _ _=>x
def Stm.x:Stm->Ex| .mk _ _ _ _ _ x _ _ _=>x
def Stm.y:Stm->Ex| .mk _ _ _ _ _ _ x _ _=>x
def Stm.b:Stm->List Stm| .mk _ _ _ _ _ _ _ b _=>b
def Stm.e:Stm->List Stm| .mk _ _ _ _ _ _ _ _ e=>e
abbrev Stm.l (s:Stm) (w:SV):List NV:= [ii s.k,ii s.a,.str s.nm,.str s.ce,ii s.i.k,u64 s.i.n,u8 s.i.o,.str s.i.s,w.vi,ii s.x.k,u64 s.x.n,u8 s.x.o,.str s.x.s,w.vx,ii s.y.k,u64 s.y.n,u8 s.y.o,.str s.y.s,w.vy,w.vb,w.ve]
structure SP (m:NH) (T:D4->Prop) (s:Stm) (w:SV):Prop where
 i:RE m T s.i (s.i.l w.vi)
 x:RE m T s.x (s.x.l w.vx)
 y:RE m T s.y (s.y.l w.vy)
 b:∃B,SS m T w.vb s.b B
 e:∃E,SS m T w.ve s.e E
theorem RS.inv' {m:NH} {T:D4->Prop} {s:Stm} {c:List NV} (h:RS m T s c):∃w,c=s.l w/\SP m T s w:=by
 cases s
 obtain ⟨vi,vx,vy,vb,ve,B,E,rfl,h1,h2,h3,h4,h5⟩:=h.inv
 exact ⟨⟨vi,vx,vy,vb,ve⟩,rfl,h1,h2,h3,⟨B,h4⟩,⟨E,h5⟩⟩
end FR
open Go Nm Go.Proofs
namespace FR
set_option linter.unusedSimpArgs false
set_option linter.unusedVariables false
mutual
def Ex.names:Ex->List (List Nat)
 | .mk k _ _ s ks=>if k=1 then [s] else if k=2 then bX ks else []
def bX:List Ex->List (List Nat)
 | []=> []
 |x::xs=>x.names++bX xs
end
mutual
def Stm.all:Stm->List Stm
 | .mk k a nm ce i x y b e=> .mk k a nm ce i x y b e::((if k=6∨k=7 then bk b else [])++(if k=6 then bk e else []))
def bk:List Stm->List Stm
 | []=> []
 |s::l=>s.all++bk l
end
def Stm.own:Stm->List (List Nat)
 | .mk k _ nm _ i x y _ _=>(if k=0∨k=1∨k=3 then [nm] else [])++((if k=1∨k=2∨k=3 then i.names else [])++((if k=0∨k=2∨k=3∨k=5∨k=6∨k=7 then x.names else [])++(if k=3 then y.names else [])))
def locals (l:List Stm):List (List Nat):=((bk l).flatMap Stm.own).foldl aP []
mutual
def Ex.sz:Ex->Nat
 | .mk _ _ _ _ ks=>1+jd ks
def jd:List Ex->Nat
 | []=>0
 |x::xs=>x.sz+jd xs
end
mutual
def Stm.sz:Stm->Nat
 | .mk _ _ _ _ i x y b e=>1+i.sz+x.sz+y.sz+bA b+bA e
def bA:List Stm->Nat
 | []=>0
 |s::l=>s.sz+bA l
end
theorem IX (x:Ex):1<=x.sz:=by cases x;rw[Ex.sz];omega
theorem rl (ks:List Ex):ks.length<=jd ks:=by
 induction ks with
 |nil=>simp
 |cons x ks ih=>have:=IX x;rw[jd,List.length_cons];omega
theorem Hc (x:Stm):1<=x.sz:=by cases x;rw[Stm.sz];omega
theorem lg (ks:List Stm):ks.length<=bA ks:=by
 induction ks with
 |nil=>simp
 |cons x ks ih=>have:=Hc x;rw[bA,List.length_cons];omega
theorem cB:∀x:Ex,x.names.length<=x.sz:=by
 apply Ex.ind
 intro k n o s ks ih
 rw[Ex.names,Ex.sz]
 have:∀ks:List Ex,(∀x∈ks,x.names.length<=x.sz)->(bX ks).length<=jd ks:=by
  intro ks
  induction ks with
  |nil=>intro _;simp[bX]
  |cons x xs ih=>
   intro h
   have h1:=h x (List.mem_cons_self ..)
   have h2:=ih fun y hy=>h y (List.mem_cons_of_mem _ hy)
   rw[bX,jd,List.length_append];omega
 have:=this ks ih
 split
 ·simp
 ·split
  ·omega
  ·simp
theorem pS (a b:List Ex):bX (a++b)=bX a++bX b:=by
 induction a with
 |nil=>rfl
 |cons x a ih=>rw[List.cons_append,bX,bX,ih,List.append_assoc]
theorem mg (a b:List Stm):bk (a++b)=bk a++bk b:=by
 induction a with
 |nil=>rfl
 |cons x a ih=>rw[List.cons_append,bk,bk,ih,List.append_assoc]
end FR
open Go Nm Go.Proofs
namespace FR
set_option linter.unusedSimpArgs false
set_option linter.unusedVariables false
noncomputable def S0:Nat->List NV->Option NV:=LV 19 [] (.bool true)<|NZ
abbrev AI (l:List Int):List (List NV):=l.map fun z=> [ii z]
abbrev bw (l:List (List Nat)):List (List NV):=l.map fun s=> [.str s]
def bW {α:Type} [DecidableEq α] (l:List α) (x:α):Int:=match l.findIdx? (fun a=>decide (x=a)) with|some i=>(i:Int)|none=>-1
theorem gl {α:Type} [DecidableEq α] {l:List α} {x:α} {i:Nat} (hi:i<l.length) (h:x=l[i]) (hn:∀j (hj:j<i),x≠l[j]'(by omega)):bW l x=i:=by
 unfold bW
 rw[List.findIdx?_eq_some_iff_getElem.mpr ⟨hi,by simp[h],fun j hj=>by simpa using hn j hj⟩]
theorem eX {α:Type} [DecidableEq α] {l:List α} {x:α} (hn:∀j (hj:j<l.length),x≠l[j]):bW l x=-1:=by
 unfold bW
 rw[List.findIdx?_eq_none_iff.mpr]
 intro y hy
 obtain ⟨j,hj,rfl⟩:=List.getElem_of_mem hy
 simpa using hn j hj
theorem gu {α:Type} [DecidableEq α] {l:List α} {x:α}:0<=bW l x↔x∈l:=by
 constructor
 ·intro h
  rcases Decidable.em (x∈l) with q|q
  ·exact q
  ·rw[eX fun j hj e=>q (by rw[e];exact List.getElem_mem hj)] at h;omega
 ·intro h
  unfold bW
  cases hf:l.findIdx? (fun a=>decide (x=a)) with
  |some i=>dsimp only;omega
  |none=>have:=List.findIdx?_eq_none_iff.mp hf x h;simp at this
theorem rE {α:Type} [DecidableEq α] {l:List α} {x:α}:bW l x<l.length/\-1<=bW l x:=by
 unfold bW
 cases hf:l.findIdx? (fun a=>decide (x=a)) with
 |some i=>obtain ⟨h,-⟩:=List.findIdx?_eq_some_iff_getElem.mp hf;dsimp only;omega
 |none=>dsimp only;omega
theorem A0 {m:NH} {v:NV} {l:List Int} (hv:Sl m v 1 (AI l)) (hsz:l.length<=1099511627776) (x:Int):bm Try.prog S0 115 [v,ii x] m (ii (bW l x)) m:=by
 have h:∃r m',bm Try.prog S0 115 [v,ii x] m r m'/\r=ii (bW l x)/\m'=m:=by
  refine WF.ex fun K hK=> ?_
  refine WF.of_wpG (fun _=>rfl) u6 (L:= [(.a .e,ii x),(.e,v)]) rfl ?_
  unfold Di
  have hlen:=hv.len
  rw[List.length_map] at hlen
  simp (disch:=first|assumption|omega) only[go_sem,seval,hlen]
  refine W.loop (fun k d=>∃t i,d=⟨t, [],none,hp [] 0 m⟩/\NT.get D4.e t=some v/\NT.get D4.e.a t=some (ii x)/\NT.get D4.e.a.c t=some (ii l.length)/\NT.get D4.e.a.f t=some (ii (i:Nat))/\i+k=l.length/\∀j (hj:j<i) (hl:j<l.length),x≠l[j]) ?_ l.length _ ⟨_,0,rfl,by simp only[go_sem,seval],by simp only[go_sem,seval],by simp only[go_sem,seval],by simp only[go_sem,seval]<;>rfl,by omega,by simp⟩
  rintro k d ⟨t,i,rfl,g1,g2,g3,g4,hik,hn⟩
  apply aA
  unfold u0
  change wp _ _ _ _ ⟨an [] t, [],none,hp [] 0 m⟩ _
  by_cases hi:i<l.length
  ·obtain ⟨id,off,w,c,a1,a2,a3,a4,a5⟩:=hv.at i (by simpa using hi)
   rw[List.getElem_map] at a5
   have c0:=bg a5 0 (by omega)
   rw[Nat.add_zero] at c0
   by_cases he:x=l[i]
   ·have he':decide (x=l[i])=true:=decide_eq_true he
    simp (disch:=first|assumption|omega) only[go_sem,seval,g1,g2,g3,g4,a1,a2,c0,he']
    exact hK _ _ ⟨by rw[gl hi he fun j hj=>hn j hj (by omega)],ag m⟩
   ·have he':decide (x=l[i])=false:=decide_eq_false he
    simp (disch:=first|assumption|omega) only[go_sem,seval,g1,g2,g3,g4,a1,a2,c0,he']
    refine ⟨k - 1,by omega,_,i+1,by rfl, ?_, ?_, ?_, ?_,by omega, ?_⟩
    ·simp (disch:=first|assumption|omega) only[go_sem,seval,g1]
    ·simp (disch:=first|assumption|omega) only[go_sem,seval,g2]
    ·simp (disch:=first|assumption|omega) only[go_sem,seval,g3]
    ·simp (disch:=first|assumption|omega) only[go_sem,seval]<;>rfl
    ·intro j hj hl
     rcases Nat.lt_or_ge j i with h|h
     ·exact hn j h hl
     ·have:j=i:=by omega
      subst this;exact he
  ·simp (disch:=first|assumption|omega) only[go_sem,seval,g1,g2,g3,g4]
   exact hK _ _ ⟨by rw[eX fun j hj=>hn j (by omega) hj],ag m⟩
 obtain ⟨r,m',h1,rfl,rfl⟩:=h
 exact h1
theorem qg {m:NH} {v:NV} {l:List (List Nat)} (hv:Sl m v 1 (bw l)) (hsz:l.length<=1099511627776) (x:List Nat):bm Try.prog S0 66 [v,(.str x)] m (ii (bW l x)) m:=by
 have h:∃r m',bm Try.prog S0 66 [v,(.str x)] m r m'/\r=ii (bW l x)/\m'=m:=by
  refine WF.ex fun K hK=> ?_
  refine WF.of_wpG (fun _=>rfl) Ad (L:= [(.a .e,(.str x)),(.e,v)]) rfl ?_
  unfold Il
  have hlen:=hv.len
  rw[List.length_map] at hlen
  simp (disch:=first|assumption|omega) only[go_sem,seval,hlen]
  refine W.loop (fun k d=>∃t i,d=⟨t, [],none,hp [] 0 m⟩/\NT.get D4.e t=some v/\NT.get D4.e.a t=some ((.str x))/\NT.get D4.e.a.c t=some (ii l.length)/\NT.get D4.e.a.f t=some (ii (i:Nat))/\i+k=l.length/\∀j (hj:j<i) (hl:j<l.length),x≠l[j]) ?_ l.length _ ⟨_,0,rfl,by simp only[go_sem,seval],by simp only[go_sem,seval],by simp only[go_sem,seval],by simp only[go_sem,seval]<;>rfl,by omega,by simp⟩
  rintro k d ⟨t,i,rfl,g1,g2,g3,g4,hik,hn⟩
  apply aA
  unfold zu
  change wp _ _ _ _ ⟨an [] t, [],none,hp [] 0 m⟩ _
  by_cases hi:i<l.length
  ·obtain ⟨id,off,w,c,a1,a2,a3,a4,a5⟩:=hv.at i (by simpa using hi)
   rw[List.getElem_map] at a5
   have c0:=bg a5 0 (by omega)
   rw[Nat.add_zero] at c0
   by_cases he:x=l[i]
   ·have he':decide (x=l[i])=true:=decide_eq_true he
    simp (disch:=first|assumption|omega) only[go_sem,seval,g1,g2,g3,g4,a1,a2,c0,he']
    exact hK _ _ ⟨by rw[gl hi he fun j hj=>hn j hj (by omega)],ag m⟩
   ·have he':decide (x=l[i])=false:=decide_eq_false he
    simp (disch:=first|assumption|omega) only[go_sem,seval,g1,g2,g3,g4,a1,a2,c0,he']
    refine ⟨k - 1,by omega,_,i+1,by rfl, ?_, ?_, ?_, ?_,by omega, ?_⟩
    ·simp (disch:=first|assumption|omega) only[go_sem,seval,g1]
    ·simp (disch:=first|assumption|omega) only[go_sem,seval,g2]
    ·simp (disch:=first|assumption|omega) only[go_sem,seval,g3]
    ·simp (disch:=first|assumption|omega) only[go_sem,seval]<;>rfl
    ·intro j hj hl
     rcases Nat.lt_or_ge j i with h|h
     ·exact hn j h hl
     ·have:j=i:=by omega
      subst this;exact he
  ·simp (disch:=first|assumption|omega) only[go_sem,seval,g1,g2,g3,g4]
   exact hK _ _ ⟨by rw[eX fun j hj=>hn j (by omega) hj],ag m⟩
 obtain ⟨r,m',h1,rfl,rfl⟩:=h
 exact h1
theorem sx {m:NH} {v:NV} {l:List Int} (hv:Sl m v 1 (AI l)) (hsz:l.length<=1099511627776) (x:Int):bm Try.prog S0 136 [v,ii x] m (.bool (decide (x∈l))) m:=by
 have h:∃r m',bm Try.prog S0 136 [v,ii x] m r m'/\r= .bool (decide (x∈l))/\m'=m:=by
  refine WF.ex fun K hK=> ?_
  refine WF.of_wpG (fun _=>rfl) vo (L:= [(.a .e,ii x),(.e,v)]) rfl ?_
  unfold Fe
  simp (disch:=first|assumption|omega) only[go_sem,seval,ag,(A0 hv hsz x).wf']
  exact hK _ _ ⟨by simp only[gu],rfl⟩
 obtain ⟨r,m',h1,rfl,rfl⟩:=h
 exact h1
theorem rN {m:NH} {v:NV} {l:List (List Nat)} (hv:Sl m v 1 (bw l)) (hsz:l.length<=1099511627776) (x:List Nat):bm Try.prog S0 99 [v,(.str x)] m (.bool (decide (x∈l))) m:=by
 have h:∃r m',bm Try.prog S0 99 [v,(.str x)] m r m'/\r= .bool (decide (x∈l))/\m'=m:=by
  refine WF.ex fun K hK=> ?_
  refine WF.of_wpG (fun _=>rfl) Ae (L:= [(.a .e,(.str x)),(.e,v)]) rfl ?_
  unfold Iw
  simp (disch:=first|assumption|omega) only[go_sem,seval,ag,(qg hv hsz x).wf']
  exact hK _ _ ⟨by simp only[gu],rfl⟩
 obtain ⟨r,m',h1,rfl,rfl⟩:=h
 exact h1
theorem KB (m:NH) {v:NV} {l:List Int} (hv:Sl m v 1 (AI l)) (hsz:l.length<=1099511627776) {k:Int} {c:List NV} (hc:c.length=20):∃m',bm Try.prog S0 91 [.agg (ii k::c),v] m (.bool (decide (k∈l))) m'/\Chg [] m m':=by
 have h:∃r m',bm Try.prog S0 91 [.agg (ii k::c),v] m r m'/\r= .bool (decide (k∈l))/\Chg [] m m':=by
  refine WF.ex fun K hK=> ?_
  refine WF.of_wpG (fun _=>rfl) zS (L:= [(.a .e,v),(.e,.agg (ii k::c))]) rfl ?_
  unfold Jg
  have hC:Chg [] m (hp [(.n 0,.cells true (ii k::c))] 1 m):=ao rfl
  simp (disch:=first|assumption|omega) only[go_sem,seval,(sx (hv.chg hC fun _ _=>by simp) hsz k).wf']
  exact hK _ _ ⟨rfl,hC⟩
 obtain ⟨r,m',h1,rfl,h2⟩:=h
 exact ⟨m',h1,h2⟩
end FR
open Go Nm Go.Proofs
namespace FR
set_option linter.unusedSimpArgs false
set_option linter.unusedVariables false
def bD (m:NH) (v v':NV):Prop:=∀i∈ids v',i∈ids v∨¬ay m i
theorem bD.refl (m:NH) (v:NV):bD m v v:=fun _ h=>Or.inl h
theorem bD.trans {m m':NH} {v v' v'':NV} (h:bD m v v') (h':bD m' v' v'') (ho:∀i,ay m i->ay m' i):bD m v v'':=fun i hi=>by
 rcases h' i hi with q|q
 ·exact h i q
 ·exact Or.inr fun o=>q (ho i o)
theorem bD.chg {m m' m'':NH} {v v':NV} (h:bD m v v') (hC:Chg (ids v) m m') (hC':Chg (ids v') m' m''):Chg (ids v) m m'':=hC.trans hC' fun i hi ho=>(h i hi).elim _root_.id fun q=>absurd ho q
theorem GO (l:List (List Nat)) (s:List Nat):(aP l s).length<=l.length+1:=by unfold aP;split<;>simp
theorem b9 (more:List (List Nat)):∀l:List (List Nat),(more.foldl aP l).length<=l.length+more.length:=by
 induction more with
 |nil=>intro l;simp
 |cons s more ih=>intro l;have:=ih (aP l s);have:=GO l s;simp only[List.foldl_cons,List.length_cons];omega
theorem ni (l:List (List Nat)) (s:List Nat):bw (l++ [s])=bw l++ [[.str s]]:=by simp
theorem Br {B m:NH} {v w:NV} {l more:List (List Nat)} (hv:bz B m v 1 (bw l)) (hw:Sl m w 1 (bw more)) (hd:∀i∈ids w,i∉ids v) (hB:∀id,ay B id->ay m id) (hsz:l.length+more.length<=1000000000) {t:Tm}
 (g1:NT.get D4.e t=some v) (g2:NT.get D4.e.a.c t=some w) (g3:NT.get D4.e.a.f t=some (ii more.length)) (g4:NT.get D4.e.b.a t=some (ii 0)) {Q:Out->Dyn->Prop}
 (hQ:∀t' M v',NT.get D4.e t'=some v'->bz B M v' 1 (bw (more.foldl aP l))->Chg (ids v) m M->bD m v v'->Q (.exit 0) ⟨an [] t', [],none,M⟩):
 W Try.prog S0 none sa.loop ⟨t, [],none,m⟩ Q:=by
 refine W.loop (fun k d=>∃t M i v',d=⟨t, [],none,M⟩/\NT.get D4.e t=some v'/\NT.get D4.e.a.c t=some w/\NT.get D4.e.a.f t=some (ii more.length)/\NT.get D4.e.b.a t=some (ii (i:Nat))/\i+k=more.length/\bz B M v' 1 (bw ((more.take i).foldl aP l))/\Chg (ids v) m M/\bD m v v') ?_ more.length _ ⟨t,m,0,v,rfl,g1,g2,g3,g4,by omega,hv,(Chg.refl m).weak (by simp),bD.refl m v⟩
 rintro k d ⟨t,M,i,v',rfl,g1,g2,g3,g4,hik,hv,hC,hF⟩
 apply aA
 unfold sa
 change wp _ _ _ _ ⟨an [] t, [],none,M⟩ _
 by_cases hi:i<more.length
 ·have hwM:=hw.chg hC hd
  obtain ⟨id,off,wr,c,a1,a2,a3,a4,a5⟩:=hwM.at i (by simpa using hi)
  rw[List.getElem_map] at a5
  have c0:=bg a5 0 (by omega)
  rw[Nat.add_zero] at c0
  have hle:=b9 (more.take i) l
  rw[List.length_take] at hle
  have hct:=rN hv.sl (by omega) more[i]
  have htk:(more.take (i+1)).foldl aP l=aP ((more.take i).foldl aP l) more[i]:=by
   rw[List.take_add_one,List.getElem?_eq_getElem hi,Option.toList_some,List.foldl_append];rfl
  by_cases hin:more[i]∈(more.take i).foldl aP l
  ·rw[decide_eq_true hin] at hct
   simp (config:={maxSteps:=1000000}) (disch:=first|assumption|omega|exact ab (by omega)|exact aa (by assumption)|(simp only[ap]<;>omega)) only[go_sem,seval,g1,g2,g3,g4,a1,a2,c0,hct.wf']
   refine ⟨k - 1,by omega,_,M,i+1,v',by rfl, ?_, ?_, ?_, ?_,by omega, ?_,hC,hF⟩
   ·simp (config:={maxSteps:=1000000}) (disch:=first|assumption|omega|exact ab (by omega)|exact aa (by assumption)|(simp only[ap]<;>omega)) only[go_sem,seval,g1]
   ·simp (config:={maxSteps:=1000000}) (disch:=first|assumption|omega|exact ab (by omega)|exact aa (by assumption)|(simp only[ap]<;>omega)) only[go_sem,seval,g2]
   ·simp (config:={maxSteps:=1000000}) (disch:=first|assumption|omega|exact ab (by omega)|exact aa (by assumption)|(simp only[ap]<;>omega)) only[go_sem,seval,g3]
   ·simp (config:={maxSteps:=1000000}) (disch:=first|assumption|omega|exact ab (by omega)|exact aa (by assumption)|(simp only[ap]<;>omega)) only[go_sem,seval]<;>rfl
   ·rw[htk,show aP _ _=_ from if_pos hin];exact hv
  ·rw[decide_eq_false hin] at hct
   rw[←ag M] at hct ⊢
   simp (config:={maxSteps:=1000000}) (disch:=first|assumption|omega|exact ab (by omega)|exact aa (by assumption)|(simp only[ap]<;>omega)) only[go_sem,seval,g1,g2,g3,g4,a1,a2,c0,hct.wf']
   have hC1:Chg [] M (hp [(.n 0,.cells true [.str more[i]])] 1 M):=ao rfl
   refine dR (hv.chg hC1 fun _ _=>by simp) av (ab (by omega)) rfl (fun i hi=>hC1.old (hC.old (hB i hi))) (by simp;omega) (by simp;omega) ?_
   intro v2 M2 hv2 hC2 hF2
   simp (config:={maxSteps:=1000000}) (disch:=first|assumption|omega|exact ab (by omega)|exact aa (by assumption)|(simp only[ap]<;>omega)) only[go_sem,seval,g1,g2,g3,g4]
   have hF1:bD M v' v2:=fun i hi=>(hF2 i hi).imp _root_.id fun q o=>q (hC1.old o)
   have hC3:Chg (ids v') M M2:=(hC1.weak (by simp)).trans hC2 fun _ h _=>h
   refine ⟨k - 1,by omega,_,M2,i+1,v2,by rfl, ?_, ?_, ?_, ?_,by omega, ?_,hF.chg hC hC3,hF.trans hF1 fun i hi=>hC.old hi⟩
   ·simp (config:={maxSteps:=1000000}) (disch:=first|assumption|omega|exact ab (by omega)|exact aa (by assumption)|(simp only[ap]<;>omega)) only[go_sem,seval]
   ·simp (config:={maxSteps:=1000000}) (disch:=first|assumption|omega|exact ab (by omega)|exact aa (by assumption)|(simp only[ap]<;>omega)) only[go_sem,seval,g2]
   ·simp (config:={maxSteps:=1000000}) (disch:=first|assumption|omega|exact ab (by omega)|exact aa (by assumption)|(simp only[ap]<;>omega)) only[go_sem,seval,g3]
   ·simp (config:={maxSteps:=1000000}) (disch:=first|assumption|omega|exact ab (by omega)|exact aa (by assumption)|(simp only[ap]<;>omega)) only[go_sem,seval]<;>rfl
   ·rw[htk,show aP _ _=_ from if_neg hin,ni];exact hv2
 ·simp (config:={maxSteps:=1000000}) (disch:=first|assumption|omega|exact ab (by omega)|exact aa (by assumption)|(simp only[ap]<;>omega)) only[go_sem,seval,g1,g2,g3,g4]
  have e:(more.take i)=more:=List.take_of_length_le (by omega)
  rw[e] at hv
  refine hQ _ _ v' ?_ hv hC hF
  simp (config:={maxSteps:=1000000}) (disch:=first|assumption|omega|exact ab (by omega)|exact aa (by assumption)|(simp only[ap]<;>omega)) only[go_sem,seval,sO,g1]
theorem wg {B m:NH} {v w:NV} {l more:List (List Nat)} (hv:bz B m v 1 (bw l)) (hw:Sl m w 1 (bw more)) (hd:∀i∈ids w,i∉ids v) (hB:∀id,ay B id->ay m id) (hsz:l.length+more.length<=1000000000):
 ∃v' m',bm Try.prog S0 54 [v,w] m v' m'/\bz B m' v' 1 (bw (more.foldl aP l))/\Chg (ids v) m m'/\bD m v v':=by
 refine WF.ex fun K hK=> ?_
 refine WF.of_wpG (fun _=>rfl) y9 (L:= [(.a .e,w),(.e,v)]) rfl ?_
 unfold IT
 have hlen:=hw.len
 rw[List.length_map] at hlen
 simp (disch:=first|assumption|omega) only[go_sem,seval,hlen,ag]
 refine Br hv hw hd hB hsz (by simp only[go_sem,seval]) (by simp only[go_sem,seval]) (by simp only[go_sem,seval]) (by simp only[go_sem,seval]) ?_
 intro t' M v' g1 h1 h2 h3
 simp (disch:=first|assumption|omega) only[go_sem,seval,g1]
 exact hK _ _ ⟨h1,h2,h3⟩
end FR
open Go Nm Go.Proofs
namespace FR
set_option linter.unusedSimpArgs false
set_option linter.unusedVariables false
def OQ (x:Ex):Prop:=∀{m0:NH} {T:D4->Prop} {c:List NV} {B m:NH} {v:NV} {l:List (List Nat)},RE m0 T x c->Chg [] m0 m->bz B m v 1 (bw l)->(∀i,ay m0 i->ay B i)->(∀i,ay B i->ay m i)->l.length+x.sz<=1000000000->
 ∃v' m',bm Try.prog S0 100 [v,.agg c] m v' m'/\bz B m' v' 1 (bw (l++x.names))/\Chg (ids v) m m'/\bD m v v'
theorem iG {m0 B m m':NH} {v:NV} {e:Nat} {C:List (List NV)} (hv:bz B m v e C) (h0:∀i,ay m0 i->ay B i) (hC0:Chg [] m0 m) (hC:Chg (ids v) m m'):Chg [] m0 m':=
 hC0.trans hC fun i hi ho=>absurd (h0 i ho) (hv.new i hi)
theorem ij {ks:List Ex} {i:Nat} (hi:i<ks.length):bX (ks.take (i+1))=bX (ks.take i)++ks[i].names:=by
 rw[List.take_add_one,List.getElem?_eq_getElem hi,Option.toList_some,pS,bX,bX,List.append_nil]
theorem uR (ks:List Ex) (i:Nat) (hi:i<ks.length):(bX (ks.take i)).length+ks[i].sz<=jd ks:=by
 induction ks generalizing i with
 |nil=>simp at hi
 |cons x ks ih=>
  cases i with
  |zero=>simp[bX,jd]
  |succ i=>
   have h1:=cB x
   have:=ih i (by simpa using hi)
   simp only[List.take_succ_cons,bX,jd,List.length_append,List.getElem_cons_succ];omega
theorem sJ {m0:NH} {T:D4->Prop} {ks:List Ex} {vk:NV} {C:List (List NV)} (hS:SE m0 T vk ks C) (ih:∀x∈ks,OQ x) {B m:NH} {v:NV} {l:List (List Nat)} (hC0:Chg [] m0 m) (hv:bz B m v 1 (bw l)) (h0:∀i,ay m0 i->ay B i) (hB:∀i,ay B i->ay m i)
 (hsz:l.length+jd ks<=1000000000) {t:Tm} (g1:NT.get D4.e t=some v) (g2:NT.get D4.e.f.c t=some vk) (g3:NT.get D4.e.f.f t=some (ii ks.length)) (g4:NT.get D4.e.a.a.a t=some (ii 0)) {Q:Out->Dyn->Prop}
 (hQ:∀t' M v',NT.get D4.e t'=some v'->bz B M v' 1 (bw (l++bX ks))->Chg (ids v) m M->bD m v v'->Q (.exit 1) ⟨an [] t', [],none,M⟩):
 W Try.prog S0 none oy.loop ⟨t, [],none,m⟩ Q:=by
 refine W.loop (fun k d=>∃t M i v',d=⟨t, [],none,M⟩/\NT.get D4.e t=some v'/\NT.get D4.e.f.c t=some vk/\NT.get D4.e.f.f t=some (ii ks.length)/\NT.get D4.e.a.a.a t=some (ii (i:Nat))/\i+k=ks.length/\bz B M v' 1 (bw (l++bX (ks.take i)))/\Chg (ids v) m M/\bD m v v') ?_ ks.length _ ⟨t,m,0,v,rfl,g1,g2,g3,g4,by omega,by simpa [bX] using hv,(Chg.refl m).weak (by simp),bD.refl m v⟩
 rintro k d ⟨t,M,i,v',rfl,g1,g2,g3,g4,hik,hv',hC,hF⟩
 apply aA
 unfold oy
 change wp _ _ _ _ ⟨an [] t, [],none,M⟩ _
 have hCM:=iG hv h0 hC0 hC
 by_cases hi:i<ks.length
 ·have hSM:=(hS.stays (io hCM T))
  obtain ⟨cx,hcx,hRx⟩:=hS.at i hi
  obtain ⟨id,off,wr,c,a1,a2,a3,a4,a5⟩:=hSM.sl.at i (by rw[hS.len];exact hi)
  have ecx:C[i]'(by rw[hS.len];exact hi)=cx:=by
   have:=List.getElem?_eq_getElem (l:=C) (i:=i) (by rw[hS.len];exact hi)
   rw[this] at hcx;injection hcx
  rw[ecx] at a5
  obtain ⟨vx,Cx,rfl,-⟩:=hRx.inv'
  have hszi:=uR ks i hi
  rw[←ag M]
  have hl5:(ks[i].l vx).length=5:=rfl
  have hls:=rl ks
  have hl5':(ks[i].l vx).take 5=ks[i].l vx:=rfl
  simp (config:={maxSteps:=1000000}) (disch:=first|assumption|omega|exact ab (by omega)|exact aa (by assumption)|(simp only[ap]<;>omega)) only[go_sem,seval,g1,g2,g3,g4,a1,a2,a5,hl5,hl5']
  generalize hM1:hp _ 1 M=M1
  have hC1:Chg [] M M1:=by rw[←hM1];exact ao rfl
  refine WF.use (ih ks[i] (List.getElem_mem hi) hRx (hCM.trans hC1 (by simp)) (hv'.chg hC1 fun _ _=>by simp) h0 (fun i hi=>hC1.old (hC.old (hB i hi))) (by rw[List.length_append];omega)) ?_
  rintro v2 M2 ⟨hv2,hC2,hF2⟩
  simp (config:={maxSteps:=1000000}) (disch:=first|assumption|omega|exact ab (by omega)|exact aa (by assumption)|(simp only[ap]<;>omega)) only[go_sem,seval,g1,g2,g3,g4]
  have hC3:Chg (ids v') M M2:=(hC1.weak (by simp)).trans hC2 fun _ h _=>h
  refine ⟨k - 1,by omega,_,M2,i+1,v2,by rfl, ?_, ?_, ?_, ?_,by omega, ?_,hF.chg hC hC3,hF.trans (fun i hi=>(hF2 i hi).imp _root_.id fun q o=>q (hC1.old o)) fun i hi=>hC.old hi⟩
  ·simp (config:={maxSteps:=1000000}) (disch:=first|assumption|omega|exact ab (by omega)|exact aa (by assumption)|(simp only[ap]<;>omega)) only[go_sem,seval]
  ·simp (config:={maxSteps:=1000000}) (disch:=first|assumption|omega|exact ab (by omega)|exact aa (by assumption)|(simp only[ap]<;>omega)) only[go_sem,seval,g2]
  ·simp (config:={maxSteps:=1000000}) (disch:=first|assumption|omega|exact ab (by omega)|exact aa (by assumption)|(simp only[ap]<;>omega)) only[go_sem,seval,g3]
  ·simp (config:={maxSteps:=1000000}) (disch:=first|assumption|omega|exact ab (by omega)|exact aa (by assumption)|(simp only[ap]<;>omega)) only[go_sem,seval]<;>rfl
  ·rw[ij hi,←List.append_assoc];exact hv2
 ·simp (config:={maxSteps:=1000000}) (disch:=first|assumption|omega|exact ab (by omega)|exact aa (by assumption)|(simp only[ap]<;>omega)) only[go_sem,seval,g1,g2,g3,g4]
  have e:(ks.take i)=ks:=List.take_of_length_le (by omega)
  rw[e] at hv'
  refine hQ _ _ v' ?_ hv' hC hF
  simp (config:={maxSteps:=1000000}) (disch:=first|assumption|omega|exact ab (by omega)|exact aa (by assumption)|(simp only[ap]<;>omega)) only[go_sem,seval,sO,g1]
theorem DO:∀x,OQ x:=by
 apply Ex.ind
 intro kd n o s ks ih m0 T c B m v l hR hC0 hv h0 hB hsz
 obtain ⟨vk,C,rfl,hS⟩:=hR.inv
 rw[Ex.sz] at hsz
 refine WF.ex fun K hK=> ?_
 refine WF.of_wpG (fun _=>rfl) tQ (L:= [(.a .e,.agg [ii kd,u64 n,u8 o,.str s,vk]),(.e,v)]) rfl ?_
 unfold Eo
 have hC1:Chg [] m (hp [(.n 0,.cells true [ii kd,u64 n,u8 o,.str s,vk])] 1 m):=ao rfl
 have hlen:=(hS.stays (io (hC0.trans hC1 (by simp)) T)).sl.len
 rw[hS.len] at hlen
 by_cases h1:kd=1
 ·subst h1
  simp (config:={maxSteps:=1000000}) (disch:=first|assumption|omega|exact ab (by omega)|exact aa (by assumption)|(simp only[ap]<;>omega)) only[go_sem,seval]
  have hC2:Chg [] m (hp [(.n 1,.cells true [.str s]),(.n 0,.cells true [ii 1,u64 n,u8 o,.str s,vk])] 2 m):=ao rfl
  refine dR (hv.chg hC2 fun _ _=>by simp) av (ab (by omega)) rfl (fun i hi=>hC2.old (hB i hi)) (by simp;omega) (by simp;omega) ?_
  intro v2 M2 hv2 hC3 hF2
  simp (config:={maxSteps:=1000000}) (disch:=first|assumption|omega|exact ab (by omega)|exact aa (by assumption)|(simp only[ap]<;>omega)) only[go_sem,seval]
  refine hK _ _ ⟨?_,(hC2.weak (by simp)).trans hC3 fun _ h _=>h,fun i hi=>(hF2 i hi).imp _root_.id fun q o=>q (hC2.old o)⟩
  rw[Ex.names,if_pos rfl,ni];exact hv2
 ·by_cases h2:kd=2
  ·subst h2
   simp (config:={maxSteps:=1000000}) (disch:=first|assumption|omega|exact ab (by omega)|exact aa (by assumption)|(simp only[ap]<;>omega)) only[go_sem,seval,hlen]
   refine sJ hS ih (hC0.trans hC1 (by simp)) (hv.chg hC1 fun _ _=>by simp) h0 (fun i hi=>hC1.old (hB i hi)) (by omega) (by simp only[go_sem,seval]) (by simp only[go_sem,seval]) (by simp only[go_sem,seval]) (by simp only[go_sem,seval]) ?_
   intro t' M v' g1 q1 q2 q3
   simp (config:={maxSteps:=1000000}) (disch:=first|assumption|omega|exact ab (by omega)|exact aa (by assumption)|(simp only[ap]<;>omega)) only[go_sem,seval,g1]
   refine hK _ _ ⟨?_,(hC1.weak (by simp)).trans q2 fun _ h _=>h,fun i hi=>(q3 i hi).imp _root_.id fun q o=>q (hC1.old o)⟩
   rw[Ex.names,if_neg (by omega),if_pos rfl];exact q1
  ·simp (config:={maxSteps:=1000000}) (disch:=first|assumption|omega|exact ab (by omega)|exact aa (by assumption)|(simp only[ap]<;>omega)) only[go_sem,seval]
   refine hK _ _ ⟨?_,hC1.weak (by simp),bD.refl m v⟩
   rw[Ex.names,if_neg h1,if_neg h2,List.append_nil];exact hv.chg hC1 fun _ _=>by simp
end FR
open Go Nm Go.Proofs
namespace FR
set_option linter.unusedSimpArgs false
set_option linter.unusedVariables false
theorem vF (s:Stm):s.own=(if s.k=0∨s.k=1∨s.k=3 then [s.nm] else [])++((if s.k=1∨s.k=2∨s.k=3 then s.i.names else [])++((if s.k=0∨s.k=2∨s.k=3∨s.k=5∨s.k=6∨s.k=7 then s.x.names else [])++(if s.k=3 then s.y.names else []))):=by cases s;rfl
theorem sZ (s:Stm):s.sz=1+s.i.sz+s.x.sz+s.y.sz+bA s.b+bA s.e:=by cases s;rfl
theorem BM (l:List Int):(AI l).flatten=l.map ii:=by
 induction l with
 |nil=>rfl
 |cons a l ih=>show [ii a]++(AI l).flatten=_;rw[ih];rfl
theorem uC (M:NH) {k:Int} (l:List Int) {n:Nat} {c:List NV} (hc:c.length=20) (hn:n=l.length) (hl:l.length<=10):∃m',bm Try.prog S0 91 [.agg (ii k::c),.slc M.next 0 n 1 n] (M.add (.cells true (l.map ii))) (.bool (decide (k∈l))) m'/\Chg [] M m':=by
 subst hn
 have h:Sl (M.add (.cells true (l.map ii))) (.slc M.next 0 l.length 1 l.length) 1 (AI l):=
  (bz.of (B:=M) (by simp) (fun q=>Nat.lt_irrefl _ q) (NH.get_add_same M _) (jh M _) (BM l).symm (by simp) (by simp)).sl
 obtain ⟨m',h1,h2⟩:=KB _ h (by omega) (k:=k) hc
 exact ⟨m',h1,(Chg.add M _).trans h2 (by simp)⟩
theorem yu {m0 m:NH} {T:D4->Prop} {s:Stm} {c:List NV} (hR:RS m0 T s c) (hC0:Chg [] m0 m) (hsz:s.sz<=100000000):
 ∃v m',bm Try.prog S0 55 [.agg c] m v m'/\bz m m' v 1 (bw s.own)/\Chg [] m m':=by
 obtain ⟨w,rfl,hP⟩:=hR.inv'
 refine WF.ex fun K hK=> ?_
 refine WF.of_wpG (fun _=>rfl) z6 (L:= [(.e,.agg (s.l w))]) rfl ?_
 unfold H1
 rw[sZ] at hsz
 have hni:=cB s.i
 have hnx:=cB s.x
 have hny:=cB s.y
 generalize hm1:hp [(.n 0,.cells true (s.l w))] 1 m=m1
 have hC1:Chg [] m m1:=by rw[←hm1];exact ao rfl
 have hC01:Chg [] m0 m1:=hC0.trans hC1 (by simp)
 have hg0:m1.get (na m 0)=some (.cells true (s.l w)):=by rw[←hm1];exact av
 have ho0:ay m1 (na m 0):=by rw[←hm1];exact ab (by omega)
 let Φ:List (List Nat)->Dyn->Prop:=fun l d=>∃t M v,d=⟨t, [],none,M⟩/\NT.get D4.e.a t=some (.ptr (na m 0) 0)/\NT.get D4.e.c t=some v/\bz m1 M v 1 (bw l)/\Chg [] m1 M
 have hl21:(s.l w).length=21:=rfl
 have hl21':(s.l w).take 21=s.l w:=rfl
 have hins:∀{M M':NH} {v:NV} {l:List (List Nat)} {x:Ex} {c:List NV},Chg [] m1 M->Chg [] M M'->bz m1 M v 1 (bw l)->RE m0 T x c->l.length+x.sz<=1000000000->∃v' M'',bm Try.prog S0 100 [v,.agg c] M' v' M''/\bz m1 M'' v' 1 (bw (l++x.names))/\Chg [] m1 M'':=by
  intro M M' v l x c h1 h2 h3 h4 h5
  have hC':=h1.trans h2 (by simp)
  obtain ⟨v',M'',q1,q2,q3,-⟩:=DO x h4 (hC01.trans hC' (by simp)) (h3.chg h2 fun _ _=>by simp) (fun i hi=>hC01.old hi) (fun i hi=>hC'.old hi) h5
  exact ⟨v',M'',q1,q2,iG h3 (fun i hi=>hi) h1 ((h2.weak (by simp)).trans q3 fun _ h _=>h)⟩
 refine gD (fun d=>d=⟨an [(.a .e,.ptr (na m 0) 0),(.b .e,.nils),(.e,.agg (s.l w))] .leaf, [],none,m1⟩) (fun R hR=> ?_) ?_
 ·simp (config:={maxSteps:=1000000}) (disch:=first|assumption|omega|exact ab (by omega)|exact aa (by assumption)|(simp only[ap]<;>omega)) only[go_sem,seval,hm1]
  exact hR _ rfl
 rintro d rfl
 refine gD (Φ []) (fun R hR=> ?_) ?_
 ·simp (config:={maxSteps:=1000000}) (disch:=first|assumption|omega|exact ab (by omega)|exact aa (by assumption)|(simp only[ap]<;>omega)) only[go_sem,seval]
  exact hR _ ⟨_,_,.nils,rfl,by simp only[go_sem,seval],by simp only[go_sem,seval],bz.nil,Chg.refl m1⟩
 rintro d ⟨t,M,v,rfl,g1,g2,hv,hC⟩
 change wp _ _ _ _ ⟨an [] t, [],none,M⟩ _
 refine gD (Φ (if s.k=0∨s.k=1∨s.k=3 then [s.nm] else [])) (fun R hR=> ?_) ?_
 ·have hgM:=(hC.get ho0 (by simp)).trans hg0
  simp (config:={maxSteps:=1000000}) (disch:=first|assumption|omega|exact ab (by omega)|exact aa (by assumption)|(simp only[ap]<;>omega)) only[go_sem,seval,g1,g2,hgM,hl21,hl21']
  refine WF.use1H (uC M [0,1,3] rfl rfl (by decide)) ?_
  intro M' hC'
  have hgM':=(hC'.get (hC.old ho0) (by simp)).trans hgM
  have hoM':=hC'.old (hC.old ho0)
  by_cases hk:s.k∈ [0,1,3]
  ·rw[decide_eq_true hk]
   simp (config:={maxSteps:=1000000}) (disch:=first|assumption|omega|exact ab (by omega)|exact aa (by assumption)|(simp only[ap]<;>omega)) only[go_sem,seval,g1,g2,hgM',hoM']
   have hC2:Chg [] M' (hp [(.n 0,.cells true [.str s.nm])] 1 M'):=ao rfl
   have hC3:=hC'.trans hC2 (by simp)
   refine dR (C:= []) (B:=m1) (hv.chg hC3 fun _ _=>by simp) av (ab (by omega)) rfl (fun i hi=>hC3.old (hC.old hi)) (by simp) (by simp) ?_
   intro v2 M2 hv2 hC4 hF
   simp (config:={maxSteps:=1000000}) (disch:=first|assumption|omega|exact ab (by omega)|exact aa (by assumption)|(simp only[ap]<;>omega)) only[go_sem,seval,g1,g2]
   refine hR _ ⟨_,_,v2,rfl,by simp only[go_sem,seval,g1],by simp only[go_sem,seval], ?_, ?_⟩
   ·rw[if_pos (by simpa using hk)];exact hv2
   ·exact iG hv (fun i hi=>hi) hC ((hC3.weak (by simp)).trans hC4 fun _ h _=>h)
  ·rw[decide_eq_false hk]
   simp (config:={maxSteps:=1000000}) (disch:=first|assumption|omega|exact ab (by omega)|exact aa (by assumption)|(simp only[ap]<;>omega)) only[go_sem,seval,g1,g2,ag]
   refine hR _ ⟨_,_,v,rfl,by simp only[go_sem,seval,g1],by simp only[go_sem,seval,g2], ?_,hC.trans hC' (by simp)⟩
   rw[if_neg (by simpa using hk)];exact hv.chg hC' fun _ _=>by simp
 clear g1 g2 hv hC
 rintro d ⟨t,M,v,rfl,g1,g2,hv,hC⟩
 change wp _ _ _ _ ⟨an [] t, [],none,M⟩ _
 generalize hL1:(if s.k=0∨s.k=1∨s.k=3 then [s.nm] else [])=L1 at hv
 have hn1:L1.length<=1:=by rw[←hL1];split<;>simp
 refine gD (Φ (L1++if s.k=1∨s.k=2∨s.k=3 then s.i.names else [])) (fun R hR=> ?_) ?_
 ·have hgM:=(hC.get ho0 (by simp)).trans hg0
  simp (config:={maxSteps:=1000000}) (disch:=first|assumption|omega|exact ab (by omega)|exact aa (by assumption)|(simp only[ap]<;>omega)) only[go_sem,seval,g1,g2,hgM,hl21,hl21']
  refine WF.use1H (uC M [1,2,3] rfl rfl (by decide)) ?_
  intro M' hC'
  have hgM':=(hC'.get (hC.old ho0) (by simp)).trans hgM
  have hoM':=hC'.old (hC.old ho0)
  by_cases hk:s.k∈ [1,2,3]
  ·rw[decide_eq_true hk]
   simp (config:={maxSteps:=1000000}) (disch:=first|assumption|omega|exact ab (by omega)|exact aa (by assumption)|(simp only[ap]<;>omega)) only[go_sem,seval,g1,g2,hgM',hoM',ag]
   refine WF.use (hins hC hC' hv hP.i (by omega)) ?_
   rintro v2 M2 ⟨hv2,hC2⟩
   simp (config:={maxSteps:=1000000}) (disch:=first|assumption|omega|exact ab (by omega)|exact aa (by assumption)|(simp only[ap]<;>omega)) only[go_sem,seval,g1,g2]
   refine hR _ ⟨_,_,v2,rfl,by simp only[go_sem,seval,g1],by simp only[go_sem,seval], ?_,hC2⟩
   rw[if_pos (by simpa using hk)];exact hv2
  ·rw[decide_eq_false hk]
   simp (config:={maxSteps:=1000000}) (disch:=first|assumption|omega|exact ab (by omega)|exact aa (by assumption)|(simp only[ap]<;>omega)) only[go_sem,seval,g1,g2,ag]
   refine hR _ ⟨_,_,v,rfl,by simp only[go_sem,seval,g1],by simp only[go_sem,seval,g2], ?_,hC.trans hC' (by simp)⟩
   rw[if_neg (by simpa using hk),List.append_nil];exact hv.chg hC' fun _ _=>by simp
 clear g1 g2 hv hC
 rintro d ⟨t,M,v,rfl,g1,g2,hv,hC⟩
 change wp _ _ _ _ ⟨an [] t, [],none,M⟩ _
 generalize hL2:(L1++if s.k=1∨s.k=2∨s.k=3 then s.i.names else [])=L2 at hv
 have hn2:L2.length<=1+s.i.sz:=by rw[←hL2,List.length_append];split<;>first|omega|(rw[List.length_nil];omega)
 refine gD (Φ (L2++if s.k=0∨s.k=2∨s.k=3∨s.k=5∨s.k=6∨s.k=7 then s.x.names else [])) (fun R hR=> ?_) ?_
 ·have hgM:=(hC.get ho0 (by simp)).trans hg0
  simp (config:={maxSteps:=1000000}) (disch:=first|assumption|omega|exact ab (by omega)|exact aa (by assumption)|(simp only[ap]<;>omega)) only[go_sem,seval,g1,g2,hgM,hl21,hl21']
  refine WF.use1H (uC M [0,2,3,5,6,7] rfl rfl (by decide)) ?_
  intro M' hC'
  have hgM':=(hC'.get (hC.old ho0) (by simp)).trans hgM
  have hoM':=hC'.old (hC.old ho0)
  by_cases hk:s.k∈ [0,2,3,5,6,7]
  ·rw[decide_eq_true hk]
   simp (config:={maxSteps:=1000000}) (disch:=first|assumption|omega|exact ab (by omega)|exact aa (by assumption)|(simp only[ap]<;>omega)) only[go_sem,seval,g1,g2,hgM',hoM',ag]
   refine WF.use (hins hC hC' hv hP.x (by omega)) ?_
   rintro v2 M2 ⟨hv2,hC2⟩
   simp (config:={maxSteps:=1000000}) (disch:=first|assumption|omega|exact ab (by omega)|exact aa (by assumption)|(simp only[ap]<;>omega)) only[go_sem,seval,g1,g2]
   refine hR _ ⟨_,_,v2,rfl,by simp only[go_sem,seval,g1],by simp only[go_sem,seval], ?_,hC2⟩
   rw[if_pos (by simpa using hk)];exact hv2
  ·rw[decide_eq_false hk]
   simp (config:={maxSteps:=1000000}) (disch:=first|assumption|omega|exact ab (by omega)|exact aa (by assumption)|(simp only[ap]<;>omega)) only[go_sem,seval,g1,g2,ag]
   refine hR _ ⟨_,_,v,rfl,by simp only[go_sem,seval,g1],by simp only[go_sem,seval,g2], ?_,hC.trans hC' (by simp)⟩
   rw[if_neg (by simpa using hk),List.append_nil];exact hv.chg hC' fun _ _=>by simp
 clear g1 g2 hv hC
 rintro d ⟨t,M,v,rfl,g1,g2,hv,hC⟩
 change wp _ _ _ _ ⟨an [] t, [],none,M⟩ _
 generalize hL3:(L2++if s.k=0∨s.k=2∨s.k=3∨s.k=5∨s.k=6∨s.k=7 then s.x.names else [])=L3 at hv
 have hn3:L3.length<=1+s.i.sz+s.x.sz:=by rw[←hL3,List.length_append];split<;>first|omega|(rw[List.length_nil];omega)
 have hown:s.own=L3++if s.k=3 then s.y.names else []:=by rw[vF,←hL3,←hL2,←hL1];simp only[List.append_assoc]
 have hgM:=(hC.get ho0 (by simp)).trans hg0
 have fin:∀{v M},bz m1 M v 1 (bw s.own)->Chg [] m1 M->bz m M v 1 (bw s.own)/\Chg [] m M:=fun h1 h2=>⟨h1.back fun i hi=>hC1.old hi,hC1.trans h2 (by simp)⟩
 by_cases hk:s.k=3
 ·rw[if_pos hk] at hown
  have hd:decide (s.k=3)=true:=decide_eq_true hk
  simp (config:={maxSteps:=1000000}) (disch:=first|assumption|omega|exact ab (by omega)|exact aa (by assumption)|(simp only[ap]<;>omega)) only[go_sem,seval,g1,g2,hgM,hl21,hl21',hd]
  refine WF.use (hins hC (Chg.refl M) hv hP.y (by omega)) ?_
  rintro v2 M2 ⟨hv2,hC2⟩
  simp (config:={maxSteps:=1000000}) (disch:=first|assumption|omega|exact ab (by omega)|exact aa (by assumption)|(simp only[ap]<;>omega)) only[go_sem,seval,g1,g2]
  rw[←hown] at hv2
  exact hK _ _ (fin hv2 hC2)
 ·rw[if_neg hk,List.append_nil] at hown
  have hd:decide (s.k=3)=false:=decide_eq_false hk
  simp (config:={maxSteps:=1000000}) (disch:=first|assumption|omega|exact ab (by omega)|exact aa (by assumption)|(simp only[ap]<;>omega)) only[go_sem,seval,g1,g2,hgM,hl21,hl21',hd]
  rw[←hown] at hv
  exact hK _ _ (fin hv hC)
end FR
open Go Nm Go.Proofs
namespace FR
set_option linter.unusedSimpArgs false
set_option linter.unusedVariables false
def a6 {σ:Type} (f:σ->Stm->σ×Bool):List Stm->σ->σ×Bool
 | [],s=>(s,true)
 |x::l,s=>if (f s x).2 then a6 f l (f s x).1 else f s x
theorem dS {σ:Type} (f:σ->Stm->σ×Bool) (a b:List Stm):∀s,a6 f (a++b) s=if (a6 f a s).2 then a6 f b (a6 f a s).1 else a6 f a s:=by
 induction a with
 |nil=>intro s;simp[a6]
 |cons x a ih=>
  intro s
  simp only[List.cons_append,a6]
  split
  ·exact ih _
  ·rename_i h;simp[h]
def Al {σ:Type} (A:σ->Stm->Prop) (f:σ->Stm->σ×Bool):List Stm->σ->Prop
 | [],_=>True
 |x::l,s=>A s x/\((f s x).2=true->Al A f l (f s x).1)
theorem lu {σ:Type} {A:σ->Stm->Prop} {f:σ->Stm->σ×Bool} (a b:List Stm):∀s,Al A f (a++b) s↔Al A f a s/\((a6 f a s).2=true->Al A f b (a6 f a s).1):=by
 induction a with
 |nil=>intro s;simp[Al,a6]
 |cons x a ih=>
  intro s
  simp only[List.cons_append,Al,a6,ih]
  constructor
  ·rintro ⟨h1,h2⟩
   refine ⟨⟨h1,fun h=>(h2 h).1⟩,fun h=> ?_⟩
   cases hb:(f s x).2 with
   |true=>rw[hb] at h;simp only[if_true] at h ⊢;exact (h2 hb).2 h
   |false=>rw[hb] at h;simp[hb] at h
  ·rintro ⟨⟨h1,h2⟩,h3⟩
   refine ⟨h1,fun h=>⟨h2 h,fun h4=> ?_⟩⟩
   rw[h] at h3;simp only[if_true] at h3;exact h3 h4
structure Ylds {σ:Type} (q:D4) (m0:NH) (T:D4->Prop) (A:σ->Stm->Prop) (f:σ->Stm->σ×Bool) (Φ:σ->List D4->NH->Prop):Prop where
 base:∀{s F N},Φ s F N->Chg [] m0 N
 old:∀{s F N},Φ s F N->∀i∈F,ay N i
 grow:∀{s F N N'},Φ s F N->Chg [] N N'->Φ s F N'
 y:∀{s F N x c},Φ s F N->RS m0 T x c->A s x->∃N',vH Try.prog S0 q [.agg c] N (.bool (f s x).2) N'/\∃F',Φ (f s x).1 F' N'/\Chg F N N'/\∀i∈F',i∈F∨¬ay N i
section
variable {σ:Type} {q:D4} {m0:NH} {T:D4->Prop} {A:σ->Stm->Prop} {f:σ->Stm->σ×Bool} {Φ:σ->List D4->NH->Prop}
def mi (q:D4) (m0:NH) (T:D4->Prop) (A:σ->Stm->Prop) (f:σ->Stm->σ×Bool) (Φ:σ->List D4->NH->Prop) (l:List Stm):Prop:=
 ∀{v C N s F},SS m0 T v l C->Φ s F N->Al A f (bk l) s->bA l<=1000000000->
  ∃N',bm Try.prog S0 98 [v,.yld q] N (.bool (a6 f (bk l) s).2) N'/\∃F',Φ (a6 f (bk l) s).1 F' N'/\Chg F N N'/\∀i∈F',i∈F∨¬ay N i
theorem nK (x:Stm):x.all=x::((if x.k=6∨x.k=7 then bk x.b else [])++(if x.k=6 then bk x.e else [])):=by cases x;rfl
theorem qr {l:List Stm} {i:Nat} (hi:i<l.length):bk (l.take (i+1))=bk (l.take i)++l[i].all:=by
 rw[List.take_add_one,List.getElem?_eq_getElem hi,Option.toList_some,mg,bk,bk,List.append_nil]
theorem yW {l:List Stm} {x:Stm} (hx:x∈l):x.sz<=bA l:=by
 induction l with
 |nil=>simp at hx
 |cons a l ih=>
  rw[bA]
  rcases List.mem_cons.mp hx with rfl|hx
  ·omega
  ·have:=ih hx;omega
theorem xQ (hy:Ylds q m0 T A f Φ) {x:Stm} {w:SV} (hR:RS m0 T x (x.l w)) (hP:SP m0 T x w) (hb:mi q m0 T A f Φ x.b) (he:mi q m0 T A f Φ x.e) {s:σ} (hA:Al A f x.all s) (hsz:x.sz<=1000000000)
 {v:NV} {N:NH} {F:List D4} (hΦ:Φ s F N) {i n:Nat} {id:D4} {off:Nat} {wr:Bool} {C:List NV} (hi:i<n) (hn:n<=1000000000) (a1:jw 21 v (ii i)= .val (.ptr id off)) (a2:N.get id=some (.cells wr C)) (a3:ay N id) (a4:off+21<=C.length) (a5:(C.drop off).take 21=x.l w) {t:Tm}
 (g1:NT.get D4.e.a t=some (.yld q)) (g2:NT.get D4.e.a.c t=some v) (g3:NT.get D4.e.a.f t=some (ii n)) (g4:NT.get D4.e.b.a t=some (ii i)) {Q:Out->Dyn->Prop}
 (hN:(a6 f x.all s).2=true->∀t' N' F',Φ (a6 f x.all s).1 F' N'->Chg F N N'->(∀i∈F',i∈F∨¬ay N i)->NT.get D4.e.a t'=some (.yld q)->NT.get D4.e.a.c t'=some v->NT.get D4.e.a.f t'=some (ii n)->NT.get D4.e.b.a t'=some (ii (i+1:Nat))->Q .norm ⟨t', [],none,N'⟩)
 (hF:(a6 f x.all s).2=false->∀t' N' F',Φ (a6 f x.all s).1 F' N'->Chg F N N'->(∀i∈F',i∈F∨¬ay N i)->NT.get D4.e.f t'=some (.bool false)->Q .ret ⟨an [] t', [],none,N'⟩):
 wp Try.prog S0 none mP ⟨an [] t, [],none,N⟩ Q:=by
 unfold mP
 have hl21:(x.l w).length=21:=rfl
 have hl21':(x.l w).take 21=x.l w:=rfl
 rw[←ag N]
 simp (config:={maxSteps:=1000000}) (disch:=first|assumption|omega|exact ab (by omega)|exact aa (by assumption)|(simp only[ap]<;>omega)) only[go_sem,seval,g1,g2,g3,g4,a1,a2,a5,hl21,hl21']
 generalize hM1:hp _ 1 N=M1
 have hC1:Chg [] N M1:=by rw[←hM1];exact ao rfl
 have hg0:M1.get (na N 0)=some (.cells true (x.l w)):=by rw[←hM1];exact av
 have ho0:ay M1 (na N 0):=by rw[←hM1];exact ab (by omega)
 have hal:=nK x
 rw[hal] at hA
 refine WY.use1 (hy.y (hy.grow hΦ hC1) hR hA.1) ?_
 rintro M2 ⟨F2,hΦ2,hC2,hF2⟩
 have hn0:na N 0∉F:=fun h=>(hy.old hΦ _ h).ne 0 rfl
 have hg2:=(hC2.get ho0 hn0).trans hg0
 have ho2:=hC2.old ho0
 have hC02:Chg F N M2:=(hC1.weak (by simp)).trans hC2 fun _ h _=>h
 have hN2:∀i∈F2,i∈F∨¬ay N i:=fun i hi=>(hF2 i hi).imp _root_.id fun q o=>q (hC1.old o)
 cases hb1:(f s x).2 with
 |false=>
  have hfo:a6 f x.all s=f s x:=by rw[hal,a6,hb1];rfl
  simp (config:={maxSteps:=1000000}) (disch:=first|assumption|omega|exact ab (by omega)|exact aa (by assumption)|(simp only[ap]<;>omega)) only[go_sem,seval,g1,g2,g3,g4,hg2,ho2]
  rw[hfo] at hF
  exact hF hb1 _ M2 F2 hΦ2 hC02 hN2 (by simp only[go_sem,seval])
 |true=>
  have hfo:a6 f x.all s=a6 f ((if x.k=6∨x.k=7 then bk x.b else [])++(if x.k=6 then bk x.e else [])) (f s x).1:=by rw[hal,a6,hb1];rfl
  rw[hfo] at hN hF
  simp (config:={maxSteps:=1000000}) (disch:=first|assumption|omega|exact ab (by omega)|exact aa (by assumption)|(simp only[ap]<;>omega)) only[go_sem,seval,g1,g2,g3,g4,hg2,ho2,hl21,hl21']
  refine WF.use1 (uC M2 [6,7] rfl rfl (by decide)) ?_
  intro M3 hC3
  have hΦ3:=hy.grow hΦ2 hC3
  have hg3:=(hC3.get ho2 (by simp)).trans hg2
  have ho3:=hC3.old ho2
  have hC03:Chg F N M3:=hC02.trans hC3 (by simp)
  have hrb:=sZ x
  by_cases hk:x.k=6∨x.k=7
  ·rw[decide_eq_true (by simpa using hk:x.k∈ [6,7])]
   rw[if_pos hk] at hN hF hal
   obtain ⟨B,hB⟩:=hP.b
   obtain ⟨E,hE⟩:=hP.e
   have hA2:=hA.2 hb1
   rw[if_pos hk,lu] at hA2
   have hAb:=hA2.1
   simp (config:={maxSteps:=1000000}) (disch:=first|assumption|omega|exact ab (by omega)|exact aa (by assumption)|(simp only[ap]<;>omega)) only[go_sem,seval,g1,g2,g3,g4,hg3,ho3]
   refine WF.use1 (hb hB hΦ3 hAb (by omega)) ?_
   rintro M4 ⟨F4,hΦ4,hC4,hF4⟩
   have hn3:na N 0∉F2:=fun h=>(hN2 _ h).elim hn0 fun q=>by
    rcases hF2 _ h with h|h
    ·exact hn0 h
    ·exact h ho0
   have hg4:=(hC4.get ho3 hn3).trans hg3
   have ho4:=hC4.old ho3
   have hC04:Chg F N M4:=hC03.trans hC4 fun i hi ho=>(hN2 i hi).elim _root_.id fun q=>absurd ho q
   have hN4:∀i∈F4,i∈F∨¬ay N i:=fun i hi=>(hF4 i hi).elim (hN2 i) fun q=>Or.inr fun o=>q (hC03.old o)
   rw[dS] at hN hF
   cases hb2:(a6 f (bk x.b) (f s x).1).2 with
   |false=>
    rw[hb2] at hF
    simp (config:={maxSteps:=1000000}) (disch:=first|assumption|omega|exact ab (by omega)|exact aa (by assumption)|(simp only[ap]<;>omega)) only[go_sem,seval,g1,g2,g3,g4,hg4,ho4]
    refine hF hb2 _ M4 F4 hΦ4 hC04 hN4 (by simp only[go_sem,seval])
   |true=>
    rw[hb2,if_pos rfl] at hN hF
    by_cases h6:x.k=6
    ·rw[if_pos h6] at hN hF hal
     have hAe:=hA2.2 hb2
     rw[if_pos h6] at hAe
     have hd:decide (x.k=6)=true:=decide_eq_true h6
     simp (config:={maxSteps:=1000000}) (disch:=first|assumption|omega|exact ab (by omega)|exact aa (by assumption)|(simp only[ap]<;>omega)) only[go_sem,seval,g1,g2,g3,g4,hg4,ho4,hd]
     refine WF.use1 (he hE hΦ4 hAe (by omega)) ?_
     rintro M5 ⟨F5,hΦ5,hC5,hF5⟩
     have hC05:Chg F N M5:=hC04.trans hC5 fun i hi ho=>(hN4 i hi).elim _root_.id fun q=>absurd ho q
     have hN5:∀i∈F5,i∈F∨¬ay N i:=fun i hi=>(hF5 i hi).elim (hN4 i) fun q=>Or.inr fun o=>q (hC04.old o)
     cases hb3:(a6 f (bk x.e) (a6 f (bk x.b) (f s x).1).1).2 with
     |false=>
      simp (config:={maxSteps:=1000000}) (disch:=first|assumption|omega|exact ab (by omega)|exact aa (by assumption)|(simp only[ap]<;>omega)) only[go_sem,seval,g1,g2,g3,g4]
      refine hF hb3 _ M5 F5 hΦ5 hC05 hN5 (by simp only[go_sem,seval])
     |true=>
      simp (config:={maxSteps:=1000000}) (disch:=first|assumption|omega|exact ab (by omega)|exact aa (by assumption)|(simp only[ap]<;>omega)) only[go_sem,seval,g1,g2,g3,g4]
      refine hN hb3 _ M5 F5 hΦ5 hC05 hN5 (by simp only[go_sem,seval,g1]) (by simp only[go_sem,seval,g2]) (by simp only[go_sem,seval,g3]) (by simp only[go_sem,seval]<;>rfl)
    ·rw[if_neg h6] at hN hF
     have hd:decide (x.k=6)=false:=decide_eq_false h6
     simp (config:={maxSteps:=1000000}) (disch:=first|assumption|omega|exact ab (by omega)|exact aa (by assumption)|(simp only[ap]<;>omega)) only[go_sem,seval,g1,g2,g3,g4,hg4,ho4,hd]
     refine hN rfl _ M4 F4 hΦ4 hC04 hN4 (by simp only[go_sem,seval,g1]) (by simp only[go_sem,seval,g2]) (by simp only[go_sem,seval,g3]) (by simp only[go_sem,seval]<;>rfl)
  ·rw[decide_eq_false (by simpa using hk:x.k∉ [6,7])]
   have h6:x.k≠6:=fun e=>hk (Or.inl e)
   rw[if_neg hk,if_neg h6] at hN hF
   have hd:decide (x.k=6)=false:=decide_eq_false h6
   simp (config:={maxSteps:=1000000}) (disch:=first|assumption|omega|exact ab (by omega)|exact aa (by assumption)|(simp only[ap]<;>omega)) only[go_sem,seval,g1,g2,g3,g4,hg3,ho3,hd]
   refine hN rfl _ M3 F2 hΦ3 hC03 hN2 (by simp only[go_sem,seval,g1]) (by simp only[go_sem,seval,g2]) (by simp only[go_sem,seval,g3]) (by simp only[go_sem,seval]<;>rfl)
end
end FR
open Go Nm Go.Proofs
namespace FR
set_option linter.unusedSimpArgs false
set_option linter.unusedVariables false
section
variable {σ:Type} {q:D4} {m0:NH} {T:D4->Prop} {A:σ->Stm->Prop} {f:σ->Stm->σ×Bool} {Φ:σ->List D4->NH->Prop}
theorem nU (l:List Stm) (i:Nat) (hi:i<l.length):bk l=bk (l.take i)++(l[i].all++bk (l.drop (i+1))):=by
 conv=>lhs;rw[←List.take_append_drop i l,List.drop_eq_getElem_cons hi]
 rw[mg,bk]
theorem lT (hy:Ylds q m0 T A f Φ) {l:List Stm} (ih:∀x∈l,mi q m0 T A f Φ x.b/\mi q m0 T A f Φ x.e):mi q m0 T A f Φ l:=by
 intro v C N s F hS hΦ hA hsz
 refine WF.ex1 fun K hK=> ?_
 refine WF.of_wpG (fun _=>rfl) yn (L:= [(.a .e,.yld q),(.e,v)]) rfl ?_
 unfold JV
 have hlen:=(hS.stays (io (hy.base hΦ) T)).sl.len
 rw[hS.len] at hlen
 have hll:=lg l
 simp (disch:=first|assumption|omega) only[go_sem,seval,hlen,ag]
 refine W.loop (fun k d=>∃t M i F',d=⟨t, [],none,M⟩/\NT.get D4.e.a t=some (.yld q)/\NT.get D4.e.a.c t=some v/\NT.get D4.e.a.f t=some (ii l.length)/\NT.get D4.e.b.a t=some (ii (i:Nat))/\i+k=l.length/\(a6 f (bk (l.take i)) s).2=true/\Φ (a6 f (bk (l.take i)) s).1 F' M/\Chg F N M/\(∀i∈F',i∈F∨¬ay N i)) ?_ l.length _ ⟨_,N,0,F,rfl,by simp only[go_sem,seval],by simp only[go_sem,seval],by simp only[go_sem,seval],by simp only[go_sem,seval]<;>rfl,by omega,rfl,hΦ,(Chg.refl N).weak (by simp),fun _ h=>Or.inl h⟩
 rintro k d ⟨t,M,i,F',rfl,g1,g2,g3,g4,hik,hb,hΦ',hC,hF⟩
 apply aA
 change wp _ _ _ _ ⟨an [] t, [],none,M⟩ _
 by_cases hi:i<l.length
 ·have hCM:=hy.base hΦ'
  have hSM:=hS.stays (io hCM T)
  obtain ⟨cx,hcx,hRx⟩:=hS.at i hi
  obtain ⟨id,off,wr,c,a1,a2,a3,a4,a5⟩:=hSM.sl.at i (by rw[hS.len];exact hi)
  have ecx:C[i]'(by rw[hS.len];exact hi)=cx:=by
   have:=List.getElem?_eq_getElem (l:=C) (i:=i) (by rw[hS.len];exact hi)
   rw[this] at hcx;injection hcx
  rw[ecx] at a5
  obtain ⟨w,rfl,hP⟩:=hRx.inv'
  have hsx:=yW (List.getElem_mem hi)
  obtain ⟨h1,h2⟩:=ih _ (List.getElem_mem hi)
  have hst:a6 f (bk (l.take (i+1))) s=a6 f l[i].all (a6 f (bk (l.take i)) s).1:=by rw[qr hi,dS,hb,if_pos rfl]
  rw[nU l i hi,lu,lu] at hA
  have hAi:=(hA.2 hb).1
  refine xQ hy hRx hP h1 h2 hAi (by omega) hΦ' (n:=l.length) hi (by omega) a1 a2 a3 a4 a5 g1 g2 g3 g4 ?_ ?_
  ·intro hb2 t' N' F2 hΦ2 hC2 hF2 g1 g2 g3 g4
   refine ⟨k - 1,by omega,t',N',i+1,F2,rfl,g1,g2,g3,g4,by omega, ?_, ?_,hC.trans hC2 fun j hj ho=>(hF j hj).elim _root_.id fun q=>absurd ho q,fun j hj=>(hF2 j hj).elim (hF j) fun q=>Or.inr fun o=>q (hC.old o)⟩
   ·rw[hst];exact hb2
   ·rw[hst];exact hΦ2
  ·intro hb2 t' N' F2 hΦ2 hC2 hF2 g1
   have hfin:a6 f (bk l) s=a6 f l[i].all (a6 f (bk (l.take i)) s).1:=by
    rw[nU l i hi,dS,hb,if_pos rfl,dS,hb2];rfl
   simp (disch:=first|assumption|omega) only[go_sem,seval,g1]
   rw[hfin] at hK
   rw[←hb2]
   exact hK _ ⟨F2,hΦ2,hC.trans hC2 fun j hj ho=>(hF j hj).elim _root_.id fun q=>absurd ho q,fun j hj=>(hF2 j hj).elim (hF j) fun q=>Or.inr fun o=>q (hC.old o)⟩
 ·have e:(l.take i)=l:=List.take_of_length_le (by omega)
  rw[e] at hb hΦ'
  rw[hb] at hK
  unfold mP
  simp (disch:=first|assumption|omega) only[go_sem,seval,g1,g2,g3,g4]
  exact hK _ ⟨F',hΦ',hC,hF⟩
theorem CH (hy:Ylds q m0 T A f Φ):∀l:List Stm,mi q m0 T A f Φ l:=by
 have key:∀x:Stm,mi q m0 T A f Φ x.b/\mi q m0 T A f Φ x.e:=by
  apply Stm.ind
  intro k a nm ce i x y b e hb he
  exact ⟨lT hy hb,lT hy he⟩
 exact fun l=>lT hy fun x _=>key x
theorem Fh (hy:Ylds q m0 T A f Φ) {l:List Stm} {v:NV} {C:List (List NV)} {N:NH} {s:σ} {F:List D4} {id:D4} (hg:N.get id=some (.cells true [v])) (hS:SS m0 T v l C) (hΦ:Φ s F N) (hA:Al A f (bk l) s) (hsz:bA l<=1000000000):
 ∃N',bm Try.prog S0 97 [.yld q,.ptr id 0] N (.tup []) N'/\∃F',Φ (a6 f (bk l) s).1 F' N'/\Chg F N N'/\∀i∈F',i∈F∨¬ay N i:=by
 refine WF.ex1 fun K hK=> ?_
 refine WF.of_wpG (fun _=>rfl) Ac (L:= [(.a .e,.ptr id 0),(.e,.yld q)]) rfl ?_
 unfold JA
 simp (disch:=first|assumption|omega) only[go_sem,seval,hg,ag]
 refine WF.use1 (CH hy l hS hΦ hA hsz) ?_
 intro N' h
 simp (disch:=first|assumption|omega) only[go_sem,seval]
 exact hK _ h
end
theorem Hx (m:NH) {v:NV} (hv:cellsOf v=some [v]):bm Try.prog S0 53 [v] m (.fn 97 [.ptr (na m 0) 0]) (hp [(.n 0,.cells true [v])] 1 m):=by
 have h:∃r m',bm Try.prog S0 53 [v] m r m'/\r= .fn 97 [.ptr (na m 0) 0]/\m'=(hp [(.n 0,.cells true [v])] 1 m):=by
  refine WF.ex fun K hK=> ?_
  refine WF.of_wpG (fun _=>rfl) z4 (L:= [(.e,v)]) rfl ?_
  unfold JI
  simp (disch:=first|assumption|omega) only[go_sem,seval,hv]
  exact hK _ _ ⟨rfl,rfl⟩
 obtain ⟨r,m',h1,rfl,rfl⟩:=h
 exact h1
end FR
open Go Nm Go.Proofs
namespace FR
set_option linter.unusedSimpArgs false
set_option linter.unusedVariables false
def O9 (q o:D4) (t:Tm) (M1:NH) (st:List (List Nat)×Nat) (F:List D4) (N:NH):Prop:=∃u,F=q::o::ids u/\Chg [q,o] M1 N/\N.get q=some (.loop 0 .none t [D4.e.a.c] jm ji)/\N.get o=some (.cells true [u])/\bz M1 N u 1 (bw st.1)/\st.1.length<=st.2
def OU (st:List (List Nat)×Nat) (x:Stm):Prop:=x.sz<=100000000/\st.2+x.own.length<=100000000
def HE (st:List (List Nat)×Nat) (x:Stm):(List (List Nat)×Nat)×Bool:=((x.own.foldl aP st.1,st.2+x.own.length),true)
theorem Gw {m0 M1:NH} {T:D4->Prop} {q o:D4} {t:Tm} (h1:NT.get D4.e.c t=some (.ptr o 0)) (h0:∀S,Chg [q,o] M1 S->Chg [] m0 S) (hoq:o≠q) (hqo:ay M1 q) (hoo:ay M1 o):Ylds q m0 T OU HE (O9 q o t M1):=by
 refine ⟨?_, ?_, ?_, ?_⟩
 ·rintro s F N ⟨u,rfl,hC,hq,ho,hu,hl⟩;exact h0 _ hC
 ·rintro s F N ⟨u,rfl,hC,hq,ho,hu,hl⟩ i hi
  rcases List.mem_cons.mp hi with rfl|hi
  ·exact hC.old hqo
  ·rcases List.mem_cons.mp hi with rfl|hi
   ·exact hC.old hoo
   ·exact hu.sl.old i hi
 ·rintro s F N N' ⟨u,rfl,hC,hq,ho,hu,hl⟩ hC'
  exact ⟨u,rfl,hC.trans hC' (by simp),(hC'.get (hC.old hqo) (by simp)).trans hq,(hC'.get (hC.old hoo) (by simp)).trans ho,hu.chg hC' fun _ _=>by simp,hl⟩
 ·rintro s F N x c ⟨u,rfl,hC,hq,ho,hu,hl⟩ hR ⟨hA1,hA2⟩
  obtain ⟨w,rfl,hP⟩:=hR.inv'
  refine WY.ex1 fun K hK=> ?_
  refine WY.of_wp hq rfl jm.eq_1 ji.eq_1 ?_
  change wp _ _ _ _ ⟨an [(D4.e.a.c,.agg (x.l w))] t, [],none,hp [] 0 N⟩ _
  have hl21:(x.l w).length=21:=rfl
  have hl21':(x.l w).take 21=x.l w:=rfl
  have oq:=hC.old hqo
  have oo:=hC.old hoo
  have hqo':q≠o:=fun e=>hoq e.symm
  simp (config:={maxSteps:=1000000}) (disch:=first|assumption|omega|exact ab (by omega)|exact aa (by assumption)|(simp only[ap]<;>omega)) only[go_sem,seval,h1,hq,ho,hl21,hl21']
  generalize hM2:hp _ 1 N=M2
  have hC2:Chg [q] N M2:=by rw[←hM2];exact ao rfl
  have q2:M2.get q=some (.loop 1 .none t [D4.e.a.c] jm ji):=by rw[←hM2];exact (aO oq).trans az
  have o2:M2.get o=some (.cells true [u]):=(hC2.get oo (by simpa using hoq)).trans ho
  have b2:M2.get (na N 0)=some (.cells true (x.l w)):=by rw[←hM2];exact av
  have ob2:ay M2 (na N 0):=by rw[←hM2];exact ab (by omega)
  have hC02:Chg [] m0 M2:=h0 _ (hC.trans (hC2.weak (T:= [q,o]) (by simp)) fun _ h _=>h)
  refine WF.use (yu hR hC02 hA1) ?_
  rintro v3 M3 ⟨hv3,hC3⟩
  have q3:=(hC3.get (hC2.old oq) (by simp)).trans q2
  have o3:=(hC3.get (hC2.old oo) (by simp)).trans o2
  have b3:=(hC3.get ob2 (by simp)).trans b2
  have hqu:q∉ids u:=fun h=>hu.new _ h hqo
  have hou:o∉ids u:=fun h=>hu.new _ h hoo
  have hu3:bz M1 M3 u 1 (bw s.1):=(hu.chg hC2 fun i hi=>by simp;rintro rfl;exact hqu hi).chg hC3 fun _ _=>by simp
  have hus:br 4 u u=true:=hu.sl.same
  simp (config:={maxSteps:=1000000}) (disch:=first|assumption|omega|exact ab (by omega)|exact aa (by assumption)|(simp only[ap]<;>omega)) only[go_sem,seval,h1,q3,o3,b3,hl21,hl21',hus]
  refine WF.use (wg hu3 hv3.sl (fun i hi hiu=>hv3.new i hi (hC2.old (hu.sl.old i hiu))) (fun i hi=>hC3.old (hC2.old (hC.old hi))) (by omega)) ?_
  rintro v4 M4 ⟨hv4,hC4,hF4⟩
  have q4:=(hC4.get (hC3.old (hC2.old oq)) hqu).trans q3
  have o4:=(hC4.get (hC3.old (hC2.old oo)) hou).trans o3
  have oq4:=hC4.old (hC3.old (hC2.old oq))
  have oo4:=hC4.old (hC3.old (hC2.old oo))
  rw[←ag M4]
  simp (config:={maxSteps:=1000000}) (disch:=first|assumption|omega|exact ab (by omega)|exact aa (by assumption)|(simp only[ap]<;>omega)) only[go_sem,seval,h1,q4,o4,b3,hl21,hl21',hus,hv4.sl.one]
  generalize hM5:hp _ 0 M4=M5
  have hC5:Chg [q,o] M4 M5:=by rw[←hM5];exact ao rfl
  have hqv:q∉ids v4:=fun h=>hv4.new _ h hqo
  have hov:o∉ids v4:=fun h=>hv4.new _ h hoo
  have hCN:Chg (q::o::ids u) N M5:=(((hC2.weak (T:=q::o::ids u) (by simp)).trans hC3 (by simp)).trans hC4 (fun _ h _=>by simp[h])).trans hC5 (fun i h _=>by simp at h ⊢;rcases h with h|h<;>simp[h])
  refine hK _ ⟨_,⟨v4,rfl, ?_, ?_, ?_, ?_, ?_⟩,hCN, ?_⟩
  ·refine hC.trans hCN fun i hi ho=> ?_
   simp only[List.mem_cons] at hi
   rcases hi with rfl|rfl|hi
   ·simp
   ·simp
   ·exact absurd ho (hu.new i hi)
  ·rw[←hM5];exact (aO oq4).trans az
  ·rw[←hM5];exact (aO oo4).trans ((bh hoq).trans az)
  ·refine hv4.chg hC5 fun i hi=> ?_
   simp only[List.mem_cons,List.not_mem_nil,or_false,not_or]
   exact ⟨fun e=>hqv (e▸hi),fun e=>hov (e▸hi)⟩
  ·have:=b9 x.own s.1
   show _<=s.2+x.own.length
   simp only[HE]
   omega
  ·intro i hi
   simp only[List.mem_cons] at hi ⊢
   rcases hi with rfl|rfl|hi
   ·simp
   ·simp
   ·rcases hF4 i hi with h|h
    ·exact Or.inl (Or.inr (Or.inr h))
    ·exact Or.inr fun ho=>h (hC3.old (hC2.old ho))
theorem Hq (l:List Stm):∀st,a6 HE l st=(((l.flatMap Stm.own).foldl aP st.1,st.2+(l.flatMap Stm.own).length),true):=by
 induction l with
 |nil=>intro st;rfl
 |cons x l ih=>
  intro st
  show (if true then a6 HE l (HE st x).1 else _)=_
  rw[if_pos rfl,ih]
  simp only[HE,List.flatMap_cons,List.foldl_append,List.length_append]
  rw[Nat.add_assoc]
theorem Mh (l:List Stm):∀st:List (List Nat)×Nat,(∀x∈l,x.sz<=100000000)->st.2+(l.flatMap Stm.own).length<=100000000->Al OU HE l st:=by
 induction l with
 |nil=>intro st _ _;trivial
 |cons x l ih=>
  intro st h1 h2
  rw[List.flatMap_cons,List.length_append] at h2
  exact ⟨⟨h1 x (List.mem_cons_self ..),by omega⟩,fun _=>ih _ (fun y hy=>h1 y (List.mem_cons_of_mem _ hy)) (by simp only[HE];omega)⟩
theorem D5:∀x:Stm,(∀y∈x.all,y.sz<=x.sz)/\(x.all.flatMap Stm.own).length<=2*x.sz:=by
 apply Stm.ind
 intro k a nm ce i x y b e hb he
 have key:∀l:List Stm,(∀s∈l,(∀y∈s.all,y.sz<=s.sz)/\(s.all.flatMap Stm.own).length<=2*s.sz)->(∀y∈bk l,y.sz<=bA l)/\((bk l).flatMap Stm.own).length<=2*bA l:=by
  intro l
  induction l with
  |nil=>intro _;exact ⟨by simp[bk],by simp[bk]⟩
  |cons s l ih=>
   intro h
   obtain ⟨h1,h2⟩:=h s (List.mem_cons_self ..)
   obtain ⟨h3,h4⟩:=ih fun y hy=>h y (List.mem_cons_of_mem _ hy)
   rw[bk,bA,List.flatMap_append,List.length_append]
   refine ⟨fun y hy=> ?_,by omega⟩
   rcases List.mem_append.mp hy with hy|hy
   ·have:=h1 y hy;omega
   ·have:=h3 y hy;omega
 obtain ⟨b1,b2⟩:=key b hb
 obtain ⟨e1,e2⟩:=key e he
 have hi:=cB i
 have hx:=cB x
 have hy:=cB y
 have ho:(Stm.mk k a nm ce i x y b e).own.length<=1+i.sz+x.sz+y.sz:=by
  rw[Stm.own]
  simp only[List.length_append]
  have:∀(p:Prop) [Decidable p] (l:List (List Nat)),(if p then l else []).length<=l.length:=by intro p _ l;split<;>simp
  have a1:=this (k=0∨k=1∨k=3) [nm]
  have a2:=this (k=1∨k=2∨k=3) i.names
  have a3:=this (k=0∨k=2∨k=3∨k=5∨k=6∨k=7) x.names
  have a4:=this (k=3) y.names
  simp only[List.length_singleton] at a1
  omega
 rw[Stm.all,Stm.sz]
 constructor
 ·intro z hz
  rcases List.mem_cons.mp hz with rfl|hz
  ·rw[Stm.sz];omega
  ·rcases List.mem_append.mp hz with hz|hz
   ·split at hz
    ·have:=b1 z hz;omega
    ·simp at hz
   ·split at hz
    ·have:=e1 z hz;omega
    ·simp at hz
 ·rw[List.flatMap_cons,List.flatMap_append,List.length_append,List.length_append]
  have c1:((if k=6∨k=7 then bk b else []).flatMap Stm.own).length<=2*bA b:=by split<;>first|exact b2|simp
  have c2:((if k=6 then bk e else []).flatMap Stm.own).length<=2*bA e:=by split<;>first|exact e2|simp
  omega
theorem kZ (l:List Stm):(∀y∈bk l,y.sz<=bA l)/\((bk l).flatMap Stm.own).length<=2*bA l:=by
 induction l with
 |nil=>exact ⟨by simp[bk],by simp[bk]⟩
 |cons s l ih=>
  obtain ⟨h1,h2⟩:=D5 s
  obtain ⟨h3,h4⟩:=ih
  rw[bk,bA,List.flatMap_append,List.length_append]
  refine ⟨fun y hy=> ?_,by omega⟩
  rcases List.mem_append.mp hy with hy|hy
  ·have:=h1 y hy;omega
  ·have:=h3 y hy;omega
theorem Dp {m0 m:NH} {T:D4->Prop} {v:NV} {l:List Stm} {C:List (List NV)} (hS:SS m0 T v l C) (hC0:Chg [] m0 m) (hsz:bA l<=10000000):
 ∃r m',bm Try.prog S0 17 [v] m r m'/\bz m m' r 1 (bw (locals l))/\Chg [] m m':=by
 refine WF.ex fun K hK=> ?_
 refine WF.of_wpM (fun _=>rfl) zo (L:= [(.e,v)]) rfl ?_
 unfold HY
 simp (disch:=first|assumption|omega) only[go_sem,seval,(Hx _ hS.sl.one).wf']
 generalize hM0:hp [(.n 0,.cells true [.nils])] 1 m=M0
 have hC1:Chg [] m M0:=by rw[←hM0];exact ao rfl
 have go0:M0.get (na m 0)=some (.cells true [.nils]):=by rw[←hM0];exact av
 have oo0:ay M0 (na m 0):=by rw[←hM0];exact ab (by omega)
 generalize hM:hp [(.n 0,.cells true [v])] 1 M0=M
 have hC2:Chg [] M0 M:=by rw[←hM];exact ao rfl
 have gz:M.get (na M0 0)=some (.cells true [v]):=by rw[←hM];exact av
 have oz:ay M (na M0 0):=by rw[←hM];exact ab (by omega)
 have go:=(hC2.get oo0 (by simp)).trans go0
 have oo:=hC2.old oo0
 have hCm:Chg [] m M:=hC1.trans hC2 (by simp)
 generalize ht:an [(D4.e.a.b,NV.fn 97 [NV.ptr (na M0 0) 0]),(D4.e.a.a,v),(D4.e.c,NV.ptr (na m 0) 0),(D4.e.b,NV.nils),(D4.e,v)] NT.leaf=t
 have g1:NT.get D4.e.c t=some (.ptr (na m 0) 0):=by rw[←ht];simp (disch:=first|assumption|omega) only[go_sem,seval]
 have g2:NT.get D4.e.a.b t=some (.fn 97 [.ptr (na M0 0) 0]):=by rw[←ht];simp (disch:=first|assumption|omega) only[go_sem,seval]
 clear ht
 generalize hM1:hp [(.n 1,.loop 0 .none t [D4.e.a.c] jm ji),(.n 0,.defd true)] 2 M=M1
 have hG:Chg [] M M1:=by rw[←hM1];exact ao rfl
 have oq:ay M1 (na M 1):=by rw[←hM1];exact ab (by omega)
 have om:ay M1 (na M 0):=by rw[←hM1];exact ab (by omega)
 have gq:M1.get (na M 1)=some (.loop 0 .none t [D4.e.a.c] jm ji):=by rw[←hM1];exact av
 have gm:M1.get (na M 0)=some (.defd true):=by rw[←hM1];exact av
 have hoq:na m 0≠na M 1:=oo.ne 1
 have hCm1:Chg [] m M1:=hCm.trans hG (by simp)
 have h0:∀S,Chg [na M 1,na m 0] M1 S->Chg [] m0 S:=fun S h=>(hC0.trans hCm1 (by simp)).trans h fun i hi ho=>by
  simp only[List.mem_cons,List.not_mem_nil,or_false] at hi
  rcases hi with rfl|rfl
  ·exact absurd (hCm.old (hC0.old ho)) aF
  ·exact absurd (hC0.old ho) aF
 have hY:=Gw (T:=T) g1 h0 hoq oq (hG.old oo)
 obtain ⟨hA1,hA2⟩:=kZ l
 obtain ⟨m',hr,F',⟨u,rfl,hC3,hq3,ho3,hu3,-⟩,hC4,-⟩:=Fh hY (s:=([],0)) (F:= [na M 1,na m 0]) (id:=na M0 0) ((hG.get oz (by simp)).trans gz) hS ⟨.nils,rfl,(Chg.refl M1).weak (by simp),gq,(hG.get oo (by simp)).trans go,bz.nil,by simp⟩ (Mh _ _ (fun x hx=>by have:=hA1 x hx;omega) (by show 0+_<=_;omega)) (by omega)
 rw[Hq] at hu3
 refine W.rangeN g2 (hM1▸hr) hq3 ?_ (hC3.old oq)
 have gm3:m'.get (na M 0)=some (.defd true):=(hC3.get om (by
  simp only[List.mem_cons,List.not_mem_nil,or_false,not_or]
  exact ⟨fun e=>by have:=je e;omega,fun e=>oo.ne 0 e.symm⟩)).trans gm
 have om3:=hC3.old om
 have oo3:=hC3.old (hG.old oo)
 have hne:na M 0≠na M 1:=fun e=>by have:=je e;omega
 change hJ _ _ _ ⟨an [] t,_,_,_⟩
 simp (disch:=first|assumption|omega) only[go_sem,seval,g1,gm3,om3,ho3,oo3,hoq,hne]
 generalize hMe:hp _ 0 m'=Me
 have hCe:Chg [na M 1,na M 0] m' Me:=by rw[←hMe];exact (ao rfl:Chg [na M 0,na M 1] m' _).weak (by intro i hi _;simp at hi ⊢;exact hi.symm)
 refine hK _ _ ⟨?_, ?_⟩
 ·refine (hu3.chg hCe fun i hi=> ?_).back fun i hi=>hCm1.old hi
  simp only[List.mem_cons,List.not_mem_nil,or_false,not_or]
  exact ⟨fun e=>hu3.new i hi (e▸oq),fun e=>hu3.new i hi (e▸om)⟩
 ·refine ((hCm1.weak (T:= [na M 1,na m 0,na M 0]) (by simp)).trans hC3 fun i h _=>by simp at h ⊢;rcases h with h|h<;>simp[h]).trans hCe (fun i h _=>by simp at h ⊢;rcases h with h|h<;>simp[h]) |>.weak fun i hi ho=> ?_
  simp only[List.mem_cons,List.not_mem_nil,or_false] at hi
  rcases hi with rfl|rfl|rfl
  ·exact absurd (hCm.old ho) aF
  ·exact absurd ho aF
  ·exact absurd (hCm.old ho) aF
end FR
open Go Nm Go.Proofs
namespace FR
set_option linter.unusedSimpArgs false
set_option linter.unusedVariables false
theorem EL {B m:NH} {v:NV} {l:List (List Nat)} (hv:bz B m v 1 (bw l)) (hB:∀id,ay B id->ay m id) (s:List Nat) (hsz:l.length<=1000000000):
 ∃v' m',bm Try.prog S0 96 [v,.str s] m v' m'/\bz B m' v' 1 (bw (aP l s))/\Chg (ids v) m m'/\bD m v v':=by
 refine WF.ex fun K hK=> ?_
 refine WF.of_wpG (fun _=>rfl) zl (L:= [(.a .e,.str s),(.e,v)]) rfl ?_
 unfold Ix
 have hlen:=hv.sl.len
 rw[List.length_map] at hlen
 simp (config:={maxSteps:=1000000}) (disch:=first|assumption|omega|exact ab (by omega)|exact aa (by assumption)|(simp only[ap]<;>omega)) only[go_sem,seval]
 refine W.loop (fun k d=>∃t i,d=⟨t, [],none,hp [] 0 m⟩/\NT.get D4.e t=some v/\NT.get D4.e.a t=some (.str s)/\NT.get D4.e.a.a t=some (ii (i:Nat))/\i+k=l.length/\∀j (hj:j<i) (hl:j<l.length),s≠l[j]) ?_ l.length _ ⟨_,0,rfl,by simp only[go_sem,seval],by simp only[go_sem,seval],by simp only[go_sem,seval]<;>rfl,by omega,by simp⟩
 rintro k d ⟨t,i,rfl,g1,g2,g3,hik,hn⟩
 apply aA
 unfold y8
 change wp _ _ _ _ ⟨an [] t, [],none,hp [] 0 m⟩ _
 by_cases hi:i<l.length
 ·obtain ⟨id,off,w,c,a1,a2,a3,a4,a5⟩:=hv.sl.at i (by simpa using hi)
  rw[List.getElem_map] at a5
  have c0:=bg a5 0 (by omega)
  rw[Nat.add_zero] at c0
  by_cases he:s=l[i]
  ·have he':decide (l[i]=s)=true:=decide_eq_true he.symm
   simp (config:={maxSteps:=1000000}) (disch:=first|assumption|omega|exact ab (by omega)|exact aa (by assumption)|(simp only[ap]<;>omega)) only[go_sem,seval,g1,g2,g3,hlen,a1,a2,c0,he',ag]
   exact hK _ _ ⟨by rw[show aP l s=l from if_pos (by rw[he];exact List.getElem_mem hi)];exact hv,(Chg.refl m).weak (by simp),bD.refl m v⟩
  ·have he':decide (l[i]=s)=false:=decide_eq_false fun e=>he e.symm
   simp (config:={maxSteps:=1000000}) (disch:=first|assumption|omega|exact ab (by omega)|exact aa (by assumption)|(simp only[ap]<;>omega)) only[go_sem,seval,g1,g2,g3,hlen,a1,a2,c0,he']
   refine ⟨k - 1,by omega,_,i+1,by rfl, ?_, ?_, ?_,by omega, ?_⟩
   ·simp (config:={maxSteps:=1000000}) (disch:=first|assumption|omega|exact ab (by omega)|exact aa (by assumption)|(simp only[ap]<;>omega)) only[go_sem,seval,g1]
   ·simp (config:={maxSteps:=1000000}) (disch:=first|assumption|omega|exact ab (by omega)|exact aa (by assumption)|(simp only[ap]<;>omega)) only[go_sem,seval,g2]
   ·simp (config:={maxSteps:=1000000}) (disch:=first|assumption|omega|exact ab (by omega)|exact aa (by assumption)|(simp only[ap]<;>omega)) only[go_sem,seval]<;>rfl
   ·intro j hj hl
    rcases Nat.lt_or_ge j i with h|h
    ·exact hn j h hl
    ·have:j=i:=by omega
     subst this;exact he
 ·simp (config:={maxSteps:=1000000}) (disch:=first|assumption|omega|exact ab (by omega)|exact aa (by assumption)|(simp only[ap]<;>omega)) only[go_sem,seval,g1,g2,g3,hlen]
  have hC1:Chg [] m (hp [(.n 0,.cells true [.str s])] 1 m):=ao rfl
  refine dR (hv.chg hC1 fun _ _=>by simp) av (ab (by omega)) rfl (fun i hi=>hC1.old (hB i hi)) (by simp;omega) (by simp;omega) ?_
  intro v2 M2 hv2 hC2 hF2
  simp (config:={maxSteps:=1000000}) (disch:=first|assumption|omega|exact ab (by omega)|exact aa (by assumption)|(simp only[ap]<;>omega)) only[go_sem,seval]
  refine hK _ _ ⟨?_,(hC1.weak (by simp)).trans hC2 fun _ h _=>h,fun i hi=>(hF2 i hi).imp _root_.id fun q o=>q (hC1.old o)⟩
  rw[show aP l s=l++ [s] from if_neg fun h=>by
   obtain ⟨j,hj,e⟩:=List.getElem_of_mem h
   exact hn j (by omega) hj e.symm,ni]
  exact hv2
def CV (f:Nat) (args:NV->List NV) (m0:NH) (N:List (List Nat)) (sz:Nat):Prop:=∀{B m:NH} {v:NV} {l:List (List Nat)},Chg [] m0 m->bz B m v 1 (bw l)->(∀i,ay m0 i->ay B i)->(∀i,ay B i->ay m i)->l.length+sz<=1000000000->
 ∃v' m',bm Try.prog S0 f (args v) m v' m'/\bz B m' v' 1 (bw (N.foldl aP l))/\Chg (ids v) m m'/\bD m v v'
def O0 (x:Ex):Prop:=∀{m0:NH} {T:D4->Prop} {c:List NV},RE m0 T x c->CV 139 (fun v=> [v,.agg c]) m0 x.names x.sz
theorem nY {m0:NH} {T:D4->Prop} {kd:Int} {n o:Nat} {s:List Nat} {ks:List Ex} {vk:NV} {C:List (List NV)} (hS:SE m0 T vk ks C) (ih:∀x∈ks,O0 x) {B m:NH} {v:NV} {l:List (List Nat)} (hC0:Chg [] m0 m) (hv:bz B m v 1 (bw l)) (h0:∀i,ay m0 i->ay B i) (hB:∀i,ay B i->ay m i)
 {b:D4} (hb:m.get b=some (.cells true [ii kd,u64 n,u8 o,.str s,vk])) (hob:ay m b) (hbv:b∉ids v) (h1:kd≠1)
 (hsz:l.length+jd ks<=1000000000) {t:Tm} (g1:NT.get D4.e t=some v) (g2:NT.get D4.e.c t=some (.ptr b 0)) (g4:NT.get D4.e.a.a t=some (ii 0)) {Q:Out->Dyn->Prop}
 (hQ:∀t' M v',NT.get D4.e t'=some v'->bz B M v' 1 (bw ((Ex.mk kd n o s ks).names.foldl aP l))->Chg (ids v) m M->bD m v v'->Q (.exit 0) ⟨an [] t', [],none,M⟩):
 W Try.prog S0 none ph.loop ⟨t, [],none,m⟩ Q:=by
 refine W.loop (fun k d=>∃t M i v',d=⟨t, [],none,M⟩/\NT.get D4.e t=some v'/\NT.get D4.e.c t=some (.ptr b 0)/\NT.get D4.e.a.a t=some (ii (i:Nat))/\i+k=ks.length/\(i=0∨kd=2)/\bz B M v' 1 (bw ((bX (ks.take i)).foldl aP l))/\Chg (ids v) m M/\bD m v v') ?_ ks.length _ ⟨t,m,0,v,rfl,g1,g2,g4,by omega,Or.inl rfl,by simpa [bX] using hv,(Chg.refl m).weak (by simp),bD.refl m v⟩
 rintro k d ⟨t,M,i,v',rfl,g1,g2,g4,hik,hk2,hv',hC,hF⟩
 apply aA
 unfold ph
 change wp _ _ _ _ ⟨an [] t, [],none,M⟩ _
 have hCM:=iG hv h0 hC0 hC
 have hSM:=(hS.stays (io hCM T))
 have hbM:=(hC.get hob hbv).trans hb
 have hlen:=hSM.sl.len
 rw[hS.len] at hlen
 have hls:=rl ks
 rw[←ag M]
 by_cases hi:i<ks.length
 ·by_cases hkd:kd=2
  ·obtain ⟨cx,hcx,hRx⟩:=hS.at i hi
   obtain ⟨id,off,wr,c,a1,a2,a3,a4,a5⟩:=hSM.sl.at i (by rw[hS.len];exact hi)
   have ecx:C[i]'(by rw[hS.len];exact hi)=cx:=by
    have:=List.getElem?_eq_getElem (l:=C) (i:=i) (by rw[hS.len];exact hi)
    rw[this] at hcx;injection hcx
   rw[ecx] at a5
   obtain ⟨vx,Cx,rfl,-⟩:=hRx.inv'
   have hszi:=uR ks i hi
   have hfl:=b9 (bX (ks.take i)) l
   have hd:decide (kd=2)=true:=decide_eq_true hkd
   simp (disch:=first|assumption|omega) only[go_sem,seval,g1,g2,g4,hbM,hlen,a1,a2,a5,hd]
   rw[ag]
   refine WF.use (ih ks[i] (List.getElem_mem hi) hRx hCM hv' h0 (fun i hi=>hC.old (hB i hi)) (by omega)) ?_
   rintro v2 M2 ⟨hv2,hC2,hF2⟩
   simp (disch:=first|assumption|omega) only[go_sem,seval,g1,g2,g4]
   refine ⟨k - 1,by omega,_,M2,i+1,v2,by rfl, ?_, ?_, ?_,by omega,Or.inr hkd, ?_,hF.chg hC hC2,hF.trans hF2 fun i hi=>hC.old hi⟩
   ·simp (disch:=first|assumption|omega) only[go_sem,seval]
   ·simp (disch:=first|assumption|omega) only[go_sem,seval,g2]
   ·simp (disch:=first|assumption|omega) only[go_sem,seval]<;>rfl
   ·rw[ij hi,List.foldl_append];exact hv2
  ·have hd:decide (kd=2)=false:=decide_eq_false hkd
   have hi0:i=0:=hk2.resolve_right hkd
   subst hi0
   simp (disch:=first|assumption|omega) only[go_sem,seval,g1,g2,g4,hbM,hlen,hd]
   rw[ag]
   refine hQ _ _ v' ?_ ?_ hC hF
   ·simp (disch:=first|assumption|omega) only[go_sem,seval,g1]
   ·rw[Ex.names,if_neg h1,if_neg hkd];exact hv'
 ·simp (disch:=first|assumption|omega) only[go_sem,seval,g1,g2,g4,hbM,hlen]
  rw[ag]
  have e:(ks.take i)=ks:=List.take_of_length_le (by omega)
  rw[e] at hv'
  refine hQ _ _ v' ?_ ?_ hC hF
  ·simp (disch:=first|assumption|omega) only[go_sem,seval,g1]
  ·rw[Ex.names,if_neg h1]
   split
   ·exact hv'
   ·have:ks= []:=List.length_eq_zero_iff.mp (by omega)
    subst this;exact hv'
theorem sM:∀x,O0 x:=by
 apply Ex.ind
 intro kd n o s ks ih m0 T c hR B m v l hC0 hv h0 hB hsz
 obtain ⟨vk,C,rfl,hS⟩:=hR.inv
 rw[Ex.sz] at hsz
 refine WF.ex fun K hK=> ?_
 refine WF.of_wpG (fun _=>rfl) uG (L:= [(.a .e,.agg [ii kd,u64 n,u8 o,.str s,vk]),(.e,v)]) rfl ?_
 unfold CM
 have hob:ay (hp [(.n 0,.cells true [ii kd,u64 n,u8 o,.str s,vk])] 1 m) (na m 0):=ab (by omega)
 have hgb:(hp [(.n 0,.cells true [ii kd,u64 n,u8 o,.str s,vk])] 1 m).get (na m 0)=some (.cells true [ii kd,u64 n,u8 o,.str s,vk]):=av
 by_cases h1:kd=1
 ·subst h1
  simp (disch:=first|assumption|omega) only[go_sem,seval]
  generalize hM1:hp _ 1 m=M1
  have hC1:Chg [] m M1:=by rw[←hM1];exact ao rfl
  refine WF.use (EL (hv.chg hC1 fun _ _=>by simp) (fun i hi=>hC1.old (hB i hi)) s (by omega)) ?_
  rintro v2 M2 ⟨hv2,hC2,hF2⟩
  simp (disch:=first|assumption|omega) only[go_sem,seval]
  refine hK _ _ ⟨?_,(hC1.weak (by simp)).trans hC2 fun _ h _=>h,fun i hi=>(hF2 i hi).imp _root_.id fun q o=>q (hC1.old o)⟩
  rw[Ex.names,if_pos rfl];exact hv2
 ·have hd:decide (kd=1)=false:=decide_eq_false h1
  simp (disch:=first|assumption|omega) only[go_sem,seval,hd]
  generalize hM1:hp _ 1 m=M1 at hob hgb
  have hC1:Chg [] m M1:=by rw[←hM1];exact ao rfl
  refine nY hS ih (hC0.trans hC1 (by simp)) (hv.chg hC1 fun _ _=>by simp) h0 (fun i hi=>hC1.old (hB i hi)) hgb hob (fun h=>(hv.sl.old _ h).ne 0 rfl) h1 (by omega) (by simp only[go_sem,seval]) (by simp only[go_sem,seval]) (by simp only[go_sem,seval]) ?_
  intro t' M v' g1 q1 q2 q3
  simp (disch:=first|assumption|omega) only[go_sem,seval,g1]
  exact hK _ _ ⟨q1,(hC1.weak (by simp)).trans q2 fun _ h _=>h,fun i hi=>(q3 i hi).imp _root_.id fun q o=>q (hC1.old o)⟩
end FR
open Go Nm Go.Proofs
namespace FR
set_option linter.unusedSimpArgs false
set_option linter.unusedVariables false
theorem Gn (m:NH) (k:Int):bm Try.prog S0 138 [ii k] m (.bool (decide (k=0∨k=1∨k=3))) m:=by
 have h:∃r m',bm Try.prog S0 138 [ii k] m r m'/\r= .bool (decide (k=0∨k=1∨k=3))/\m'=m:=by
  refine WF.ex fun K hK=> ?_
  refine WF.of_wpG (fun _=>rfl) vd (L:= [(.e,ii k)]) rfl ?_
  unfold BY
  by_cases h0:k=0
  ·subst h0;simp (disch:=first|assumption|omega) only[go_sem,seval,ag];exact hK _ _ ⟨rfl,rfl⟩
  ·by_cases h1:k=1
   ·subst h1;simp (disch:=first|assumption|omega) only[go_sem,seval,ag];exact hK _ _ ⟨rfl,rfl⟩
   ·by_cases h3:k=3
    ·subst h3;simp (disch:=first|assumption|omega) only[go_sem,seval,ag];exact hK _ _ ⟨rfl,rfl⟩
    ·simp (disch:=first|assumption|omega) only[go_sem,seval,ag];exact hK _ _ ⟨by simp[h0,h1,h3],rfl⟩
 obtain ⟨r,m',h1,rfl,rfl⟩:=h
 exact h1
theorem sX (m:NH) (k:Int):bm Try.prog S0 94 [ii k] m (.bool (decide (k=1∨k=2∨k=3))) m:=by
 have h:∃r m',bm Try.prog S0 94 [ii k] m r m'/\r= .bool (decide (k=1∨k=2∨k=3))/\m'=m:=by
  refine WF.ex fun K hK=> ?_
  refine WF.of_wpG (fun _=>rfl) zr (L:= [(.e,ii k)]) rfl ?_
  unfold IR
  by_cases h0:k=1
  ·subst h0;simp (disch:=first|assumption|omega) only[go_sem,seval,ag];exact hK _ _ ⟨rfl,rfl⟩
  ·by_cases h1:k=2
   ·subst h1;simp (disch:=first|assumption|omega) only[go_sem,seval,ag];exact hK _ _ ⟨rfl,rfl⟩
   ·by_cases h3:k=3
    ·subst h3;simp (disch:=first|assumption|omega) only[go_sem,seval,ag];exact hK _ _ ⟨rfl,rfl⟩
    ·simp (disch:=first|assumption|omega) only[go_sem,seval,ag];exact hK _ _ ⟨by simp[h0,h1,h3],rfl⟩
 obtain ⟨r,m',h1,rfl,rfl⟩:=h
 exact h1
theorem HD {m0:NH} {T:D4->Prop} {s:Stm} {c:List NV} (hR:RS m0 T s c):CV 95 (fun v=> [v,.agg c]) m0 s.own s.sz:=by
 obtain ⟨w,rfl,hP⟩:=hR.inv'
 intro B m v0 l hC0 hv0 h0 hB hsz
 refine WF.ex fun K hK=> ?_
 refine WF.of_wpG (fun _=>rfl) zm (L:= [(.a .e,.agg (s.l w)),(.e,v0)]) rfl ?_
 unfold It
 rw[sZ] at hsz
 have hni:=cB s.i
 have hnx:=cB s.x
 have hny:=cB s.y
 generalize hm1:hp [(.n 0,.cells true (s.l w))] 1 m=m1
 have hC1:Chg [] m m1:=by rw[←hm1];exact ao rfl
 have hC01:Chg [] m0 m1:=hC0.trans hC1 (by simp)
 have hg0:m1.get (na m 0)=some (.cells true (s.l w)):=by rw[←hm1];exact av
 have ho0:ay m1 (na m 0):=by rw[←hm1];exact ab (by omega)
 have hn0:na m 0∉ids v0:=fun h=>(hv0.sl.old _ h).ne 0 rfl
 let Φ:List (List Nat)->Dyn->Prop:=fun N d=>∃t M v,d=⟨t, [],none,M⟩/\NT.get D4.e.c t=some (.ptr (na m 0) 0)/\NT.get D4.e t=some v/\bz B M v 1 (bw (N.foldl aP l))/\Chg (ids v0) m1 M/\bD m1 v0 v
 have hl21:(s.l w).length=21:=rfl
 have hl21':(s.l w).take 21=s.l w:=rfl
 have hstep:∀{M M':NH} {v v':NV},Chg (ids v0) m1 M->bD m1 v0 v->Chg (ids v) M M'->bD M v v'->Chg (ids v0) m1 M'/\bD m1 v0 v':=fun h1 h2 h3 h4=>⟨h2.chg h1 h3,h2.trans h4 fun i hi=>h1.old hi⟩
 have hins:∀{M:NH} {v:NV} {N:List (List Nat)} {x:Ex} {c:List NV},Chg (ids v0) m1 M->bD m1 v0 v->bz B M v 1 (bw (N.foldl aP l))->RE m0 T x c->l.length+N.length+x.sz<=1000000000->∃v' M',bm Try.prog S0 139 [v,.agg c] M v' M'/\bz B M' v' 1 (bw ((N++x.names).foldl aP l))/\Chg (ids v0) m1 M'/\bD m1 v0 v':=by
  intro M v N x c h1 h2 h3 h4 h5
  have hfl:=b9 N l
  obtain ⟨v',M',q1,q2,q3,q4⟩:=sM x h4 (hC01.trans h1 fun i hi ho=>absurd (h0 i ho) (hv0.new i hi)) h3 h0 (fun i hi=>h1.old (hC1.old (hB i hi))) (by omega)
  obtain ⟨r1,r2⟩:=hstep h1 h2 q3 q4
  exact ⟨v',M',q1,by rw[List.foldl_append];exact q2,r1,r2⟩
 refine gD (Φ []) (fun R hR=> ?_) ?_
 ·simp (disch:=first|assumption|omega) only[go_sem,seval,hm1]
  exact hR _ ⟨_,_,v0,rfl,by simp only[go_sem,seval],by simp only[go_sem,seval],hv0.chg hC1 fun _ _=>by simp,(Chg.refl m1).weak (by simp),bD.refl m1 v0⟩
 rintro d ⟨t,M,v,rfl,g1,g2,hv,hC,hF⟩
 change wp _ _ _ _ ⟨an [] t, [],none,M⟩ _
 refine gD (Φ (if s.k=0∨s.k=1∨s.k=3 then [s.nm] else [])) (fun R hR=> ?_) ?_
 ·have hgM:=(hC.get ho0 hn0).trans hg0
  simp (disch:=first|assumption|omega) only[go_sem,seval,g1,g2,hgM,hl21,hl21',(Gn _ _).wf']
  by_cases hk:s.k=0∨s.k=1∨s.k=3
  ·rw[decide_eq_true hk]
   simp (disch:=first|assumption|omega) only[go_sem,seval,g1,g2,hgM]
   refine WF.use (EL hv (fun i hi=>hC.old (hC1.old (hB i hi))) s.nm (by simp;omega)) ?_
   rintro v2 M2 ⟨hv2,hC2,hF2⟩
   simp (disch:=first|assumption|omega) only[go_sem,seval,g1,g2]
   obtain ⟨r1,r2⟩:=hstep hC hF hC2 hF2
   refine hR _ ⟨_,_,v2,rfl,by simp only[go_sem,seval,g1],by simp only[go_sem,seval], ?_,r1,r2⟩
   rw[if_pos hk];exact hv2
  ·rw[decide_eq_false hk]
   simp (disch:=first|assumption|omega) only[go_sem,seval,g1,g2,ag]
   refine hR _ ⟨_,_,v,rfl,by simp only[go_sem,seval,g1],by simp only[go_sem,seval,g2], ?_,hC,hF⟩
   rw[if_neg hk];exact hv
 clear g1 g2 hv hC hF
 rintro d ⟨t,M,v,rfl,g1,g2,hv,hC,hF⟩
 change wp _ _ _ _ ⟨an [] t, [],none,M⟩ _
 generalize hL1:(if s.k=0∨s.k=1∨s.k=3 then [s.nm] else [])=L1 at hv
 have hn1:L1.length<=1:=by rw[←hL1];split<;>simp
 refine gD (Φ (L1++if s.k=1∨s.k=2∨s.k=3 then s.i.names else [])) (fun R hR=> ?_) ?_
 ·have hgM:=(hC.get ho0 hn0).trans hg0
  simp (disch:=first|assumption|omega) only[go_sem,seval,g1,g2,hgM,hl21,hl21',(sX _ _).wf']
  by_cases hk:s.k=1∨s.k=2∨s.k=3
  ·rw[decide_eq_true hk]
   simp (disch:=first|assumption|omega) only[go_sem,seval,g1,g2,hgM]
   refine WF.use (hins hC hF hv hP.i (by omega)) ?_
   rintro v2 M2 ⟨hv2,r1,r2⟩
   simp (disch:=first|assumption|omega) only[go_sem,seval,g1,g2]
   refine hR _ ⟨_,_,v2,rfl,by simp only[go_sem,seval,g1],by simp only[go_sem,seval], ?_,r1,r2⟩
   rw[if_pos hk];exact hv2
  ·rw[decide_eq_false hk]
   simp (disch:=first|assumption|omega) only[go_sem,seval,g1,g2,ag]
   refine hR _ ⟨_,_,v,rfl,by simp only[go_sem,seval,g1],by simp only[go_sem,seval,g2], ?_,hC,hF⟩
   rw[if_neg hk,List.append_nil];exact hv
 clear g1 g2 hv hC hF
 rintro d ⟨t,M,v,rfl,g1,g2,hv,hC,hF⟩
 change wp _ _ _ _ ⟨an [] t, [],none,M⟩ _
 generalize hL2:(L1++if s.k=1∨s.k=2∨s.k=3 then s.i.names else [])=L2 at hv
 have hn2:L2.length<=1+s.i.sz:=by rw[←hL2,List.length_append];split<;>first|omega|(rw[List.length_nil];omega)
 refine gD (Φ (L2++if s.k=0∨s.k=2∨s.k=3∨s.k=5∨s.k=6∨s.k=7 then s.x.names else [])) (fun R hR=> ?_) ?_
 ·have hgM:=(hC.get ho0 hn0).trans hg0
  by_cases hk:s.k=0∨s.k=2∨s.k=3∨s.k=5∨s.k=6∨s.k=7
  ·rw[if_pos hk] at hR
   rcases hk with h|h|h|h|h|h<;>simp (disch:=first|assumption|omega) only[go_sem,seval,g1,g2,hgM,h]<;>(refine WF.use (hins hC hF hv hP.x (by omega)) ?_;rintro v2 M2 ⟨hv2,r1,r2⟩;simp (disch:=first|assumption|omega) only[go_sem,seval,g1,g2];exact hR _ ⟨_,_,v2,rfl,by simp only[go_sem,seval,g1],by simp only[go_sem,seval],hv2,r1,r2⟩)
  ·rw[if_neg hk,List.append_nil] at hR
   have d0:decide (s.k=0)=false:=decide_eq_false (by omega)
   have d2:decide (s.k=2)=false:=decide_eq_false (by omega)
   have d3:decide (s.k=3)=false:=decide_eq_false (by omega)
   by_cases h5:5<=s.k
   ·have d7:decide (s.k<=7)=false:=decide_eq_false (by omega)
    simp (disch:=first|assumption|omega) only[go_sem,seval,g1,g2,hgM,d0,d2,d3,d7,ag]
    exact hR _ ⟨_,_,v,rfl,by simp only[go_sem,seval,g1],by simp only[go_sem,seval,g2],hv,hC,hF⟩
   ·simp (disch:=first|assumption|omega) only[go_sem,seval,g1,g2,hgM,d0,d2,d3,ag]
    exact hR _ ⟨_,_,v,rfl,by simp only[go_sem,seval,g1],by simp only[go_sem,seval,g2],hv,hC,hF⟩
 clear g1 g2 hv hC hF
 rintro d ⟨t,M,v,rfl,g1,g2,hv,hC,hF⟩
 change wp _ _ _ _ ⟨an [] t, [],none,M⟩ _
 generalize hL3:(L2++if s.k=0∨s.k=2∨s.k=3∨s.k=5∨s.k=6∨s.k=7 then s.x.names else [])=L3 at hv
 have hn3:L3.length<=1+s.i.sz+s.x.sz:=by rw[←hL3,List.length_append];split<;>first|omega|(rw[List.length_nil];omega)
 have hown:s.own=L3++if s.k=3 then s.y.names else []:=by rw[vF,←hL3,←hL2,←hL1];simp only[List.append_assoc]
 have hgM:=(hC.get ho0 hn0).trans hg0
 have fin:∀{v M},bz B M v 1 (bw (s.own.foldl aP l))->Chg (ids v0) m1 M->bD m1 v0 v->bz B M v 1 (bw (s.own.foldl aP l))/\Chg (ids v0) m M/\bD m v0 v:=fun h1 h2 h3=>⟨h1,(hC1.weak (by simp)).trans h2 fun _ h _=>h,fun i hi=>(h3 i hi).imp _root_.id fun q o=>q (hC1.old o)⟩
 by_cases hk:s.k=3
 ·rw[if_pos hk] at hown
  have hd:decide (s.k=3)=true:=decide_eq_true hk
  simp (disch:=first|assumption|omega) only[go_sem,seval,g1,g2,hgM,hl21,hl21',hd]
  refine WF.use (hins hC hF hv hP.y (by omega)) ?_
  rintro v2 M2 ⟨hv2,r1,r2⟩
  simp (disch:=first|assumption|omega) only[go_sem,seval,g1,g2]
  rw[←hown] at hv2
  exact hK _ _ (fin hv2 r1 r2)
 ·rw[if_neg hk,List.append_nil] at hown
  have hd:decide (s.k=3)=false:=decide_eq_false hk
  simp (disch:=first|assumption|omega) only[go_sem,seval,g1,g2,hgM,hl21,hl21',hd]
  rw[←hown] at hv
  exact hK _ _ (fin hv hC hF)
end FR
open Go Nm Go.Proofs
namespace FR
set_option linter.unusedSimpArgs false
set_option linter.unusedVariables false
abbrev fC (l:List Stm):List (List Nat):=(bk l).flatMap Stm.own
def KA (m0:NH) (T:D4->Prop) (l:List Stm):Prop:=∀{vb:NV} {C:List (List NV)},SS m0 T vb l C->CV 56 (fun v=> [v,vb]) m0 (fC l) (2*bA l)
theorem EQ (x:Stm):x.all.flatMap Stm.own=x.own++((if x.k=6∨x.k=7 then fC x.b else [])++(if x.k=6 then fC x.e else [])):=by
 rw[nK,List.flatMap_cons,List.flatMap_append]
 congr 2
 ·split<;>rfl
 ·split<;>rfl
theorem CA (l:List Stm) (i:Nat) (hi:i<l.length):(fC (l.take i)).length+2*l[i].sz<=2*bA l:=by
 induction l generalizing i with
 |nil=>simp at hi
 |cons x l ih=>
  cases i with
  |zero=>simp[fC,bk,bA];omega
  |succ i=>
   obtain ⟨-,h1⟩:=D5 x
   have:=ih i (by simpa using hi)
   simp only[List.take_succ_cons,fC,bk,bA,List.flatMap_append,List.length_append,List.getElem_cons_succ] at this ⊢;omega
theorem z9 {m:NH} {T:D4->Prop} {v:NV} {l:List Stm} {C:List (List NV)} (h:SS m T v l C) (i:Nat) (hi:i<l.length):∃w,C[i]? =some (l[i].l w)/\RS m T l[i] (l[i].l w)/\SP m T l[i] w:=by
 obtain ⟨c,h1,h2⟩:=h.at i hi
 obtain ⟨w,rfl,h3⟩:=h2.inv'
 exact ⟨w,h1,h2,h3⟩
theorem rk {m:NH} {T:D4->Prop} {v:NV} {l:List Stm} {C:List (List NV)} (h:SS m T v l C) (i:Nat) (hi:i<l.length) {cs:List NV} (hc:C[i]? =some cs):∃id off w c,jw 21 v (.int .i64 (.lit (i:Int)))= .val (.ptr id off)/\m.get id=some (.cells w c)/\ay m id/\off+21<=c.length/\(c.drop off).take 21=cs:=by
 have hl:i<C.length:=by rw[h.len];exact hi
 obtain ⟨id,off,w,c,a1,a2,a3,a4,a5⟩:=h.sl.at i hl
 rw[List.getElem?_eq_getElem hl] at hc
 injection hc with hc
 exact ⟨id,off,w,c,a1,a2,a3,a4,a5.trans hc⟩
theorem Gh (s:Stm):s.own.length<=1+s.i.sz+s.x.sz+s.y.sz:=by
 have hi:=cB s.i
 have hx:=cB s.x
 have hy:=cB s.y
 rw[vF]
 simp only[List.length_append]
 have:∀(p:Prop) [Decidable p] (l:List (List Nat)),(if p then l else []).length<=l.length:=by intro p _ l;split<;>simp
 have a1:=this (s.k=0∨s.k=1∨s.k=3) [s.nm]
 have a2:=this (s.k=1∨s.k=2∨s.k=3) s.i.names
 have a3:=this (s.k=0∨s.k=2∨s.k=3∨s.k=5∨s.k=6∨s.k=7) s.x.names
 have a4:=this (s.k=3) s.y.names
 simp only[List.length_singleton] at a1
 omega
theorem jL {m0:NH} {T:D4->Prop} {l:List Stm} (ih:∀x∈l,KA m0 T x.b/\KA m0 T x.e):KA m0 T l:=by
 intro vb C hS B m v0 N0 hC0 hv0 h0 hB hsz
 refine WF.ex fun K hK=> ?_
 refine WF.of_wpG (fun _=>rfl) yO (L:= [(.a .e,vb),(.e,v0)]) rfl ?_
 unfold HW
 have hll:=lg l
 simp (disch:=first|assumption|omega) only[go_sem,seval,ag]
 refine W.loop (fun k d=>∃t M i v,d=⟨t, [],none,M⟩/\NT.get D4.e t=some v/\NT.get D4.e.a t=some vb/\NT.get D4.e.a.a t=some (ii (i:Nat))/\i+k=l.length/\bz B M v 1 (bw ((fC (l.take i)).foldl aP N0))/\Chg (ids v0) m M/\bD m v0 v) ?_ l.length _ ⟨_,m,0,v0,rfl,by simp only[go_sem,seval],by simp only[go_sem,seval],by simp only[go_sem,seval]<;>rfl,by omega,hv0,(Chg.refl m).weak (by simp),bD.refl m v0⟩
 rintro k d ⟨t,M,i,v,rfl,g1,g2,g3,hik,hv,hC,hF⟩
 apply aA
 unfold yJ
 change wp _ _ _ _ ⟨an [] t, [],none,M⟩ _
 have hstep:∀{M M':NH} {v v':NV},Chg (ids v0) m M->bD m v0 v->Chg (ids v) M M'->bD M v v'->Chg (ids v0) m M'/\bD m v0 v':=fun h1 h2 h3 h4=>⟨h2.chg h1 h3,h2.trans h4 fun i hi=>h1.old hi⟩
 have hbase:∀{M:NH},Chg (ids v0) m M->Chg [] m0 M:=fun h=>iG hv0 h0 hC0 h
 have hlenM:∀{M:NH},Chg (ids v0) m M->CO vb= .val (ii l.length):=fun h=>by
  have:=(hS.stays (io (hbase h) T)).sl.len
  rw[hS.len] at this;exact this
 have hlen:=hlenM hC
 by_cases hi:i<l.length
 ·obtain ⟨w,hcw,hRx,hP⟩:=z9 hS i hi
  have hmem:∀{M:NH},Chg (ids v0) m M->∃id off wr c,jw 21 vb (.int .i64 (.lit (i:Int)))= .val (.ptr id off)/\M.get id=some (.cells wr c)/\ay M id/\off+21<=c.length/\(c.drop off).take 21=l[i].l w:=fun h=>rk (hS.stays (io (hbase h) T)) i hi hcw
  have hszi:=CA l i hi
  have hfl:=b9 (fC (l.take i)) N0
  obtain ⟨h1,h2⟩:=ih _ (List.getElem_mem hi)
  obtain ⟨id,off,wr,c,a1,a2,a3,a4,a5⟩:=hmem hC
  have hrb:=sZ l[i]
  have htk:fC (l.take (i+1))=fC (l.take i)++(l[i].own++((if l[i].k=6∨l[i].k=7 then fC l[i].b else [])++(if l[i].k=6 then fC l[i].e else []))):=by
   show (bk _).flatMap _=_
   rw[qr hi,List.flatMap_append,EQ]
  obtain ⟨B1,hB1⟩:=hP.b
  obtain ⟨E1,hE1⟩:=hP.e
  simp (disch:=first|assumption|omega) only[go_sem,seval,g1,g2,g3,hlen,a1,a2,a5]
  refine WF.use (HD hRx (hbase hC) hv h0 (fun i hi=>hC.old (hB i hi)) (by omega)) ?_
  rintro v2 M2 ⟨hv2,hC2,hF2⟩
  obtain ⟨r1,r2⟩:=hstep hC hF hC2 hF2
  obtain ⟨id2,off2,wr2,c2,b1,b2,b3,b4,b5⟩:=hmem r1
  have b1':=a1.symm.trans b1
  injection b1' with b1';injection b1' with e1 e2;subst e1 e2
  have hon:=Gh l[i]
  have hfl2:=b9 l[i].own ((fC (l.take i)).foldl aP N0)
  have hcells:∀{c:List NV},(c.drop off).take 21=l[i].l w->c[off+0]? =some (ii l[i].k)/\c[off+19]? =some w.vb/\c[off+20]? =some w.ve:=fun h=>⟨bg h 0 (by omega),bg h 19 (by omega),bg h 20 (by omega)⟩
  obtain ⟨k0,k19,k20⟩:=hcells b5
  have hsb:(fC l[i].b).length<=2*bA l[i].b:=(kZ l[i].b).2
  have hmem2:∀{M:NH},Chg (ids v0) m M->∃wr c,M.get id=some (.cells wr c)/\c[off+0]? =some (ii l[i].k)/\c[off+19]? =some w.vb/\c[off+20]? =some w.ve:=fun h=>by
   obtain ⟨id2,off2,wr2,c2,b1,b2,b3,b4,b5⟩:=hmem h
   have b1':=a1.symm.trans b1
   injection b1' with b1';injection b1' with e1 e2;subst e1 e2
   exact ⟨wr2,c2,b2,hcells b5⟩
  have fin:∀(t':Tm) (M':NH) (v':NV) (X:List (List Nat)),NT.get D4.e t'=some v'->NT.get D4.e.a t'=some vb->NT.get D4.e.a.a t'=some (ii (i+1:Nat))->bz B M' v' 1 (bw (X.foldl aP (l[i].own.foldl aP ((fC (l.take i)).foldl aP N0))))->X=((if l[i].k=6∨l[i].k=7 then fC l[i].b else [])++(if l[i].k=6 then fC l[i].e else []))->Chg (ids v0) m M'->bD m v0 v'->
   ∃j,j<k/\∃t M i v,(⟨t', [],none,M'⟩:Dyn)=⟨t, [],none,M⟩/\NT.get D4.e t=some v/\NT.get D4.e.a t=some vb/\NT.get D4.e.a.a t=some (ii (i:Nat))/\i+j=l.length/\bz B M v 1 (bw ((fC (l.take i)).foldl aP N0))/\Chg (ids v0) m M/\bD m v0 v:=by
   intro t' M' v' X q1 q2 q3 q4 q5 q6 q7
   refine ⟨k - 1,by omega,t',M',i+1,v',rfl,q1,q2,q3,by omega, ?_,q6,q7⟩
   rw[htk,List.foldl_append,List.foldl_append,←q5];exact q4
  by_cases h6:l[i].k=6
  ·simp (disch:=first|assumption|omega) only[go_sem,seval,g1,g2,g3,hlen,a1,b2,k0,k19,k20,h6]
   refine WF.use (h1 hB1 (hbase r1) hv2 h0 (fun i hi=>r1.old (hB i hi)) (by omega)) ?_
   rintro v3 M3 ⟨hv3,hC3,hF3⟩
   obtain ⟨s1,s2⟩:=hstep r1 r2 hC3 hF3
   obtain ⟨wr3,c3,d2,e0,e19,e20⟩:=hmem2 s1
   have hfl3:=b9 (fC l[i].b) (l[i].own.foldl aP ((fC (l.take i)).foldl aP N0))
   simp (disch:=first|assumption|omega) only[go_sem,seval,g1,g2,g3,hlen,a1,d2,e0,e19,e20,h6]
   refine WF.use (h2 hE1 (hbase s1) hv3 h0 (fun i hi=>s1.old (hB i hi)) (by omega)) ?_
   rintro v4 M4 ⟨hv4,hC4,hF4⟩
   obtain ⟨u1,u2⟩:=hstep s1 s2 hC4 hF4
   simp (disch:=first|assumption|omega) only[go_sem,seval,g1,g2,g3]
   refine fin _ _ v4 (fC l[i].b++fC l[i].e) (by simp only[go_sem,seval]) (by simp only[go_sem,seval,g2]) (by simp only[go_sem,seval]<;>rfl) ?_ (by simp[h6]) u1 u2
   rw[List.foldl_append];exact hv4
  ·have d6:decide (l[i].k=6)=false:=decide_eq_false h6
   by_cases h7:l[i].k=7
   ·simp (disch:=first|assumption|omega) only[go_sem,seval,g1,g2,g3,hlen,a1,b2,k0,k19,k20,h7]
    refine WF.use (h1 hB1 (hbase r1) hv2 h0 (fun i hi=>r1.old (hB i hi)) (by omega)) ?_
    rintro v3 M3 ⟨hv3,hC3,hF3⟩
    obtain ⟨s1,s2⟩:=hstep r1 r2 hC3 hF3
    obtain ⟨wr3,c3,d2,e0,e19,e20⟩:=hmem2 s1
    simp (disch:=first|assumption|omega) only[go_sem,seval,g1,g2,g3,hlen,a1,d2,e0,e19,e20,h7]
    exact fin _ _ v3 (fC l[i].b) (by simp only[go_sem,seval]) (by simp only[go_sem,seval,g2]) (by simp only[go_sem,seval]<;>rfl) hv3 (by simp[h7]) s1 s2
   ·have d7:decide (l[i].k=7)=false:=decide_eq_false h7
    simp (disch:=first|assumption|omega) only[go_sem,seval,g1,g2,g3,hlen,a1,b2,k0,k19,k20,d6,d7]
    exact fin _ _ v2 [] (by simp only[go_sem,seval]) (by simp only[go_sem,seval,g2]) (by simp only[go_sem,seval]<;>rfl) hv2 (by simp[h6,h7]) r1 r2
 ·simp (disch:=first|assumption|omega) only[go_sem,seval,g1,g2,g3,hlen]
  have e:(l.take i)=l:=List.take_of_length_le (by omega)
  rw[e] at hv
  exact hK _ _ ⟨hv,hC,hF⟩
theorem GE {m0:NH} {T:D4->Prop}:∀l:List Stm,KA m0 T l:=by
 have key:∀x:Stm,KA m0 T x.b/\KA m0 T x.e:=by
  apply Stm.ind
  intro k a nm ce i x y b e hb he
  exact ⟨jL hb,jL he⟩
 exact fun l=>jL fun x _=>key x
theorem EB {m0 m:NH} {T:D4->Prop} {v:NV} {l:List Stm} {C:List (List NV)} (hS:SS m0 T v l C) (hC0:Chg [] m0 m) (hsz:bA l<=10000000):
 ∃r m',bm Try.prog S0 18 [v] m r m'/\bz m m' r 1 (bw (locals l))/\Chg [] m m':=by
 refine WF.ex fun K hK=> ?_
 refine WF.of_wpG (fun _=>rfl) zy (L:= [(.e,v)]) rfl ?_
 unfold Iv
 simp (disch:=first|assumption|omega) only[go_sem,seval,ag]
 have h0:bz m m .nils 1 (bw []):=bz.nil
 refine WF.use (@GE m0 T l v C hS m m .nils [] hC0 h0 (fun i hi=>hC0.old hi) (fun i hi=>hi) (by simp;omega)) ?_
 rintro v2 M2 ⟨hv2,hC2,hF2⟩
 simp (disch:=first|assumption|omega) only[go_sem,seval]
 exact hK _ _ ⟨hv2,hC2⟩
end FR
open Go Nm Go.Proofs
namespace FR
set_option linter.unusedSimpArgs false
set_option linter.unusedVariables false
abbrev iu (z:Int):NV:= .int .u64 (.lit z)
def Nq (z:Int):Prop:=0<=z/\z<18446744073709551616
end FR
open Go Nm Go.Proofs
namespace FR
set_option linter.unusedSimpArgs false
set_option linter.unusedVariables false
abbrev Ob (l:List Int):List (List NV):=l.map fun z=> [iu z]
structure Env (m0:NH) (vn vv:NV) (ns:List (List Nat)) (vs:List Int):Prop where
 n:Sl m0 vn 1 (bw ns)
 v:Sl m0 vv 1 (Ob vs)
 i:∀z∈vs,Nq z
 ln:ns.length<=1000000
 lv:vs.length<=1000000
theorem Env.grow {m0 m:NH} {vn vv:NV} {ns:List (List Nat)} {vs:List Int} (h:Env m0 vn vv ns vs) (hC:Chg [] m0 m):Env m vn vv ns vs:=⟨h.n.chg hC fun _ _=>by simp,h.v.chg hC fun _ _=>by simp,h.i,h.ln,h.lv⟩
theorem bo.grow {T:D4->Prop} {a b c:NH} (h:bo T a b) (hC:Chg [] b c):bo T a c:=fun i hi ho=>by
 obtain ⟨h1,h2⟩:=h i hi ho
 exact ⟨(hC.get h2 (by simp)).trans h1,hC.old h2⟩
theorem Hs {m0 M:NH} {T:D4->Prop} {ks:List Ex} {vk:NV} {C:List (List NV)} (hS:SE m0 T vk ks C) (hst:bo T m0 M) (i:Nat) (hi:i<ks.length):∃u id off w c,RE m0 T ks[i] (ks[i].l u)/\jw 5 vk (.int .i64 (.lit (i:Int)))= .val (.ptr id off)/\M.get id=some (.cells w c)/\ay M id/\off+5<=c.length/\(c.drop off).take 5=ks[i].l u:=by
 obtain ⟨cx,hcx,hRx⟩:=hS.at i hi
 have hc:i<C.length:=by rw[hS.len];exact hi
 obtain ⟨id,off,wr,c,a1,a2,a3,a4,a5⟩:=(hS.stays hst).sl.at i hc
 obtain ⟨u,Cx,rfl,-⟩:=hRx.inv'
 rw[List.getElem?_eq_getElem hc] at hcx
 injection hcx with hcx
 exact ⟨u,id,off,wr,c,hRx,a1,a2,a3,a4,a5.trans hcx⟩
theorem mO {m:NH} {T:D4->Prop} {x:Ex} {u:NV} (h:RE m T x (x.l u)):br 4 (.agg (x.l u)) (.agg (x.l u))=true:=by
 cases x
 obtain ⟨v,C,e,hS⟩:=h.inv
 refine ko ?_
 intro w hw
 rw[e] at hw
 simp only[List.mem_cons,List.not_mem_nil,or_false] at hw
 rcases hw with rfl|rfl|rfl|rfl|rfl
 ·trivial
 ·trivial
 ·trivial
 ·trivial
 ·exact hS.sl.flat
end FR
open Go Nm Go.Proofs
namespace FR
set_option linter.unusedSimpArgs false
set_option linter.unusedVariables false
end FR
open Go Nm Go.Proofs
namespace FR
set_option linter.unusedSimpArgs false
set_option linter.unusedVariables false
abbrev lm (l:List (List Nat×Int)):List (List NV):=l.map fun c=> [.str c.1,ii c.2]
structure Ths (m:NH) (T:D4->Prop) (v:NV) (l:List (List Nat×List Stm)) (C:List (List NV)):Prop where
 sl:Sl m v 2 C
 hT:∀i∈ids v,T i
 len:C.length=l.length
 R:∀(i:Nat) (x:List Nat×List Stm) (c:List NV),l[i]? =some x->C[i]? =some c->∃vb B,c= [.str x.1,vb]/\SS m T vb x.2 B
theorem Ths.stays {m m':NH} {T:D4->Prop} (hs:bo T m m') {v:NV} {l:List (List Nat×List Stm)} {C:List (List NV)} (h:Ths m T v l C):Ths m' T v l C:=
 ⟨fF h.sl h.hT hs,h.hT,h.len,fun i x c a b=>by obtain ⟨vb,B,e,h⟩:=h.R i x c a b;exact ⟨vb,B,e,h.stays hs⟩⟩
theorem Ths.at {m:NH} {T:D4->Prop} {v:NV} {l:List (List Nat×List Stm)} {C:List (List NV)} (h:Ths m T v l C) (i:Nat) (hi:i<l.length):∃vb B id off w c,SS m T vb l[i].2 B/\jw 2 v (.int .i64 (.lit (i:Int)))= .val (.ptr id off)/\m.get id=some (.cells w c)/\ay m id/\off+2<=c.length/\(c.drop off).take 2= [.str l[i].1,vb]:=by
 have hc:i<C.length:=by rw[h.len];exact hi
 obtain ⟨vb,B,e,hS⟩:=h.R i _ _ (List.getElem?_eq_getElem hi) (List.getElem?_eq_getElem hc)
 obtain ⟨id,off,w,c,a1,a2,a3,a4,a5⟩:=h.sl.at i hc
 exact ⟨vb,B,id,off,w,c,hS,a1,a2,a3,a4,a5.trans e⟩
structure Prg where
 cs:List (List Nat×Int)
 ts:List (List Nat×List Stm)
 r:List Stm
structure RP (m:NH) (T:D4->Prop) (p:Prg) (vc vt vr:NV):Prop where
 c:Sl m vc 2 (lm p.cs)
 cT:∀i∈ids vc,T i
 t:∃C,Ths m T vt p.ts C
 r:∃C,SS m T vr p.r C
theorem RP.stays {m m':NH} {T:D4->Prop} (hs:bo T m m') {p:Prg} {vc vt vr:NV} (h:RP m T p vc vt vr):RP m' T p vc vt vr:=
 ⟨fF h.c h.cT hs,h.cT,let ⟨C,q⟩:=h.t;⟨C,q.stays hs⟩,let ⟨C,q⟩:=h.r;⟨C,q.stays hs⟩⟩
end FR
open Go Nm Go.Proofs
namespace FR
set_option linter.unusedSimpArgs false
set_option linter.unusedVariables false
def nE (s:Int):Bool:=decide (1<=s/\s<=64/\s.toNat&&& (s.toNat - 1)=0)
def dc:List (List Nat)->Int->List (List Nat×Int)->Int
 |_,_, []=>0
 |seen,w,c::l=>if c.1∈seen then 5 else if nE c.2=false then 7 else if 64 - w<c.2 then 3 else dc (aP seen c.1) (w+c.2) l
def fy:List (List Nat)->List (List Nat)->Int
 |_, []=>0
 |seen,n::l=>if n∈seen then 5 else fy (aP seen n) l
theorem B0 {l:List (List Nat)} {s x:List Nat}:x∈aP l s↔x∈l∨x=s:=by
 unfold aP
 split
 ·rename_i h;constructor
  ·exact Or.inl
  ·rintro (q|rfl)
   ·exact q
   ·exact h
 ·simp
theorem ga {x:List Nat}:∀(more l:List (List Nat)),x∈more.foldl aP l↔x∈l∨x∈more:=by
 intro more
 induction more with
 |nil=>intro l;simp
 |cons a more ih=>intro l;rw[List.foldl_cons,ih,B0,List.mem_cons,or_assoc]
theorem Fu {a b:Nat} (ha:a<1000) (hb:b<1000):dK .num .and (ii a) (ii b)=some (ii ((a&&& b:Nat):Int)):=
 (j6 rfl).trans (bits_nat (k:= .i64) (Or.inl rfl) (by show a<9223372036854775808;omega) (by show b<9223372036854775808;omega) rfl)
theorem qW {s:Int} (h1:1<=s) (h2:s<=64):dK .num .and (ii s) (ii (s - 1))=some (ii (s.toNat&&& (s.toNat - 1):Nat)):=by
 obtain ⟨n,rfl⟩:=Int.eq_ofNat_of_zero_le (by omega:0<=s)
 rw[show ((n:Int) - 1)=((n - 1:Nat):Int) by omega]
 exact Fu (by omega) (by omega)
theorem FM {m:NH} {v:NV} {l:List (List Nat×Int)} (hv:Sl m v 2 (lm l)) (hsz:l.length<=1000000):∃m',bm Try.prog S0 89 [v] m (ii (dc [] 0 l)) m'/\Chg [] m m':=by
 refine WF.ex1 fun K hK=> ?_
 refine WF.of_wpG (fun _=>rfl) yC (L:= [(.e,v)]) rfl ?_
 unfold J5
 have hlen:=hv.len
 rw[List.length_map] at hlen
 simp (config:={maxSteps:=1000000}) (disch:=first|assumption|omega|exact ab (by omega)|exact aa (by assumption)|(simp only[ap]<;>omega)) only[go_sem,seval,hlen]
 generalize hM0:hp _ 1 m=M0
 have hC0:Chg [] m M0:=by rw[←hM0];exact ao rfl
 have hg0:M0.get (na m 0)=some (.map (fZ [])):=by rw[←hM0];exact av
 have ho0:ay M0 (na m 0):=by rw[←hM0];exact ab (by omega)
 refine W.loop (fun k d=>∃t M i seen w,d=⟨t, [],none,M⟩/\NT.get D4.e.c t=some (ii w)/\NT.get D4.e.f t=some (.map (na m 0))/\NT.get D4.e.a.f t=some v/\NT.get D4.e.b.a t=some (ii l.length)/\NT.get D4.e.b.b t=some (ii (i:Nat))/\i+k=l.length/\0<=w/\w<=64/\dc seen w (l.drop i)=dc [] 0 l/\M.get (na m 0)=some (.map (fZ seen))/\ay M (na m 0)/\Chg [] m M) ?_ l.length _ ⟨_,M0,0, [],0,rfl,by simp only[go_sem,seval],by simp only[go_sem,seval],by simp only[go_sem,seval],by simp only[go_sem,seval],by simp only[go_sem,seval]<;>rfl,by omega,by omega,by omega,rfl,hg0,ho0,hC0⟩
 rintro k d ⟨t,M,i,seen,w,rfl,g1,g2,g3,g4,g5,hik,hw0,hw,hE,hg,ho,hC⟩
 apply aA
 unfold zG
 change wp _ _ _ _ ⟨an [] t, [],none,M⟩ _
 rw[←ag M]
 by_cases hi:i<l.length
 ·obtain ⟨id,off,wr,c,a1,a2,a3,a4,a5⟩:=hv.at i (by simpa using hi)
  rw[List.getElem_map] at a5
  have a2':=(hC.get a3 (by simp)).trans a2
  have a3':=hC.old a3
  rw[List.drop_eq_getElem_cons hi] at hE
  generalize hc:l[i]=cc at hE a5
  obtain ⟨n,s⟩:=cc
  rw[dc] at hE
  dsimp only at hE a5
  by_cases hin:n∈seen
  ·rw[if_pos hin] at hE
   have hd:decide (n∈seen)=true:=decide_eq_true hin
   simp (config:={maxSteps:=1000000}) (disch:=first|assumption|omega|exact ab (by omega)|exact aa (by assumption)|(simp only[ap]<;>omega)) only[go_sem,seval,g1,g2,g3,g4,g5,hlen,a1,a2',a5,hg,hd]
   rw[←hE] at hK
   exact hK _ (fk hC rfl)
  ·rw[if_neg hin] at hE
   have hd:decide (n∈seen)=false:=decide_eq_false hin
   by_cases hpw:nE s=true
   ·rw[if_neg (by simp[hpw])] at hE
    have hp':=of_decide_eq_true hpw
    obtain ⟨p1,p2,p3⟩:=hp'
    have hpa:=qW p1 p2
    rw[p3] at hpa
    by_cases hlw:64 - w<s
    ·rw[if_pos hlw] at hE
     simp (config:={maxSteps:=1000000}) (disch:=first|assumption|omega|exact ab (by omega)|exact aa (by assumption)|(simp only[ap]<;>omega)) only[go_sem,seval,g1,g2,g3,g4,g5,hlen,a1,a2',a5,hg,hd,hpa]
     rw[←hE] at hK
     exact hK _ (fk hC rfl)
    ·rw[if_neg hlw] at hE
     simp (config:={maxSteps:=1000000}) (disch:=first|assumption|omega|exact ab (by omega)|exact aa (by assumption)|(simp only[ap]<;>omega)) only[go_sem,seval,g1,g2,g3,g4,g5,hlen,a1,a2',a5,hg,hd,hpa]
     generalize hM1:hp _ 1 M=M1
     have hC1:Chg [na m 0] M M1:=by rw[←hM1];exact ao rfl
     refine ⟨k - 1,by omega,_,M1,i+1,_,w+s,by rfl,by simp only[go_sem,seval],by simp only[go_sem,seval,g2],by simp only[go_sem,seval,g3],by simp only[go_sem,seval,g4],by simp only[go_sem,seval]<;>rfl,by omega,by omega,by omega,hE, ?_,hC1.old ho,hC.trans hC1 fun i hi ho=> ?_⟩
     ·rw[←hM1];exact (aO ho).trans az
     ·simp only[List.mem_cons,List.not_mem_nil,or_false] at hi;subst hi;exact absurd ho aF
   ·have hpw:nE s=false:=by simpa using hpw
    rw[if_pos hpw] at hE
    have hp':=of_decide_eq_false hpw
    by_cases h1:s<1
    ·simp (config:={maxSteps:=1000000}) (disch:=first|assumption|omega|exact ab (by omega)|exact aa (by assumption)|(simp only[ap]<;>omega)) only[go_sem,seval,g1,g2,g3,g4,g5,hlen,a1,a2',a5,hg,hd]
     rw[←hE] at hK
     exact hK _ (fk hC rfl)
    ·by_cases h2:64<s
     ·simp (config:={maxSteps:=1000000}) (disch:=first|assumption|omega|exact ab (by omega)|exact aa (by assumption)|(simp only[ap]<;>omega)) only[go_sem,seval,g1,g2,g3,g4,g5,hlen,a1,a2',a5,hg,hd]
      rw[←hE] at hK
      exact hK _ (fk hC rfl)
     ·have hpa:=qW (by omega:1<=s) (by omega)
      have hne:s.toNat&&& (s.toNat - 1)≠0:=fun h=>hp' ⟨by omega,by omega,h⟩
      generalize s.toNat&&& (s.toNat - 1)=r at hpa hne
      simp (config:={maxSteps:=1000000}) (disch:=first|assumption|omega|exact ab (by omega)|exact aa (by assumption)|(simp only[ap]<;>omega)) only[go_sem,seval,g1,g2,g3,g4,g5,hlen,a1,a2',a5,hg,hd,hpa]
      rw[←hE] at hK
      exact hK _ (fk hC rfl)
 ·simp (config:={maxSteps:=1000000}) (disch:=first|assumption|omega|exact ab (by omega)|exact aa (by assumption)|(simp only[ap]<;>omega)) only[go_sem,seval,g1,g2,g3,g4,g5,hlen]
  rw[List.drop_of_length_le (by omega),dc] at hE
  rw[←hE] at hK
  rw[ag]
  exact hK _ hC
theorem Bh {m:NH} {T:D4->Prop} {v:NV} {l:List (List Nat×List Stm)} {C:List (List NV)} (hT:Ths m T v l C) (hsz:l.length<=1000000):∃m',bm Try.prog S0 90 [v] m (ii (fy [] (l.map (·.1)))) m'/\Chg [] m m':=by
 refine WF.ex1 fun K hK=> ?_
 refine WF.of_wpG (fun _=>rfl) yw (L:= [(.e,v)]) rfl ?_
 unfold I9
 have hlen:=hT.sl.len
 rw[hT.len] at hlen
 simp (config:={maxSteps:=1000000}) (disch:=first|assumption|omega|exact ab (by omega)|exact aa (by assumption)|(simp only[ap]<;>omega)) only[go_sem,seval,hlen]
 generalize hM0:hp _ 1 m=M0
 have hC0:Chg [] m M0:=by rw[←hM0];exact ao rfl
 have hg0:M0.get (na m 0)=some (.map (fZ [])):=by rw[←hM0];exact av
 have ho0:ay M0 (na m 0):=by rw[←hM0];exact ab (by omega)
 refine W.loop (fun k d=>∃t M i seen,d=⟨t, [],none,M⟩/\NT.get D4.e.c t=some (.map (na m 0))/\NT.get D4.e.a.c t=some v/\NT.get D4.e.a.f t=some (ii l.length)/\NT.get D4.e.b.a t=some (ii (i:Nat))/\i+k=l.length/\fy seen ((l.map (·.1)).drop i)=fy [] (l.map (·.1))/\M.get (na m 0)=some (.map (fZ seen))/\ay M (na m 0)/\Chg [] m M) ?_ l.length _ ⟨_,M0,0, [],rfl,by simp only[go_sem,seval],by simp only[go_sem,seval],by simp only[go_sem,seval],by simp only[go_sem,seval]<;>rfl,by omega,rfl,hg0,ho0,hC0⟩
 rintro k d ⟨t,M,i,seen,rfl,g1,g2,g3,g4,hik,hE,hg,ho,hC⟩
 apply aA
 unfold zP
 change wp _ _ _ _ ⟨an [] t, [],none,M⟩ _
 rw[←ag M]
 by_cases hi:i<l.length
 ·obtain ⟨vb,B,id,off,wr,c,-,a1,a2,a3,a4,a5⟩:=hT.at i hi
  have a2':=(hC.get a3 (by simp)).trans a2
  have a3':=hC.old a3
  rw[List.drop_eq_getElem_cons (by simpa using hi),List.getElem_map,fy] at hE
  generalize l[i].1=n at hE a5
  by_cases hin:n∈seen
  ·rw[if_pos hin] at hE
   have hd:decide (n∈seen)=true:=decide_eq_true hin
   simp (config:={maxSteps:=1000000}) (disch:=first|assumption|omega|exact ab (by omega)|exact aa (by assumption)|(simp only[ap]<;>omega)) only[go_sem,seval,g1,g2,g3,g4,hlen,a1,a2',a5,hg,hd]
   rw[←hE] at hK
   exact hK _ (fk hC rfl)
  ·rw[if_neg hin] at hE
   have hd:decide (n∈seen)=false:=decide_eq_false hin
   simp (config:={maxSteps:=1000000}) (disch:=first|assumption|omega|exact ab (by omega)|exact aa (by assumption)|(simp only[ap]<;>omega)) only[go_sem,seval,g1,g2,g3,g4,hlen,a1,a2',a5,hg,hd]
   generalize hM1:hp _ 1 M=M1
   have hC1:Chg [na m 0] M M1:=by rw[←hM1];exact ao rfl
   refine ⟨k - 1,by omega,_,M1,i+1,_,by rfl,by simp only[go_sem,seval,g1],by simp only[go_sem,seval,g2],by simp only[go_sem,seval,g3],by simp only[go_sem,seval]<;>rfl,by omega,hE, ?_,hC1.old ho,hC.trans hC1 fun i hi ho=> ?_⟩
   ·rw[←hM1];exact (aO ho).trans az
   ·simp only[List.mem_cons,List.not_mem_nil,or_false] at hi;subst hi;exact absurd ho aF
 ·simp (config:={maxSteps:=1000000}) (disch:=first|assumption|omega|exact ab (by omega)|exact aa (by assumption)|(simp only[ap]<;>omega)) only[go_sem,seval,g1,g2,g3,g4,hlen]
  rw[List.drop_of_length_le (by simp;omega),fy] at hE
  rw[←hE] at hK
  rw[ag]
  exact hK _ hC
def qj (p:Prg):Int:=if 16<p.cs.length∨p.ts.length=0∨4<p.ts.length then 3 else if dc [] 0 p.cs≠0 then dc [] 0 p.cs else fy [] (p.ts.map (·.1))
theorem Id {m:NH} {T:D4->Prop} {p:Prg} {vc vt vr:NV} (h:RP m T p vc vt vr) (hs:p.cs.length<=1000000/\p.ts.length<=1000000):∃m',bm Try.prog S0 48 [.agg [vc,vt,vr]] m (ii (qj p)) m'/\Chg [] m m':=by
 refine WF.ex1 fun K hK=> ?_
 refine WF.of_wpG (fun _=>rfl) zO (L:= [(.e,.agg [vc,vt,vr])]) rfl ?_
 unfold Ko
 obtain ⟨C,hT⟩:=h.t
 have l1:=h.c.len
 have l2:=hT.sl.len
 rw[List.length_map] at l1
 rw[hT.len] at l2
 unfold qj at hK
 by_cases h1:16<p.cs.length
 ·rw[if_pos (Or.inl h1)] at hK
  simp (disch:=first|assumption|omega) only[go_sem,seval,l1,l2]
  exact hK _ (ao rfl)
 ·by_cases h2:p.ts.length=0
  ·rw[if_pos (Or.inr (Or.inl h2))] at hK
   simp (disch:=first|assumption|omega) only[go_sem,seval,l1,l2]
   exact hK _ (ao rfl)
  ·by_cases h3:4<p.ts.length
   ·rw[if_pos (Or.inr (Or.inr h3))] at hK
    simp (disch:=first|assumption|omega) only[go_sem,seval,l1,l2]
    exact hK _ (ao rfl)
   ·rw[if_neg (by omega)] at hK
    have hC1:Chg [] m (hp [(.n 0,.cells true [vc,vt,vr])] 1 m):=ao rfl
    obtain ⟨m2,hr,hC2⟩:=FM (h.c.chg hC1 fun _ _=>by simp) hs.1
    have g2:m2.get (na m 0)=some (.cells true [vc,vt,vr]):=(hC2.get (ab (by omega)) (by simp)).trans av
    have o2:ay m2 (na m 0):=hC2.old (ab (by omega))
    have hC:=hC1.trans hC2 (by simp)
    simp (disch:=first|assumption|omega) only[go_sem,seval,l1,l2,hr.wf',g2,o2]
    by_cases h4:dc [] 0 p.cs=0
    ·rw[if_neg (by simpa using h4)] at hK
     rw[h4]
     obtain ⟨m3,hr3,hC3⟩:=Bh (hT.stays (io hC T)) hs.2
     simp (disch:=first|assumption|omega) only[go_sem,seval,g2,o2,hr3.wf']
     exact hK _ (hC.trans hC3 (by simp))
    ·rw[if_pos h4] at hK
     have hd:decide (dc [] 0 p.cs≠0)=true:=decide_eq_true h4
     simp (disch:=first|assumption|omega) only[go_sem,seval,g2,o2,hd]
     exact hK _ hC
end FR
open Go Nm Go.Proofs
namespace FR
set_option linter.unusedSimpArgs false
set_option linter.unusedVariables false
theorem rL {m:NH} {v:NV} {l:List (List Nat×Int)} (hv:Sl m v 2 (lm l)) (hsz:l.length<=1000000) (s:List Nat):bm Try.prog S0 50 [v,.str s] m (ii (bW (l.map (·.1)) s)) m:=by
 have h:∃r m',bm Try.prog S0 50 [v,.str s] m r m'/\r=ii (bW (l.map (·.1)) s)/\m'=m:=by
  refine WF.ex fun K hK=> ?_
  refine WF.of_wpG (fun _=>rfl) yk (L:= [(.a .e,.str s),(.e,v)]) rfl ?_
  unfold IU
  have hlen:=hv.len
  rw[List.length_map] at hlen
  simp (disch:=first|assumption|omega) only[go_sem,seval,ag]
  refine W.loop (fun k d=>∃t i,d=⟨t, [],none,m⟩/\NT.get D4.e t=some v/\NT.get D4.e.a t=some (.str s)/\NT.get D4.e.a.a t=some (ii (i:Nat))/\i+k=l.length/\∀j (hj:j<i) (hl:j<l.length),s≠l[j].1) ?_ l.length _ ⟨_,0,rfl,by simp only[go_sem,seval],by simp only[go_sem,seval],by simp only[go_sem,seval]<;>rfl,by omega,by simp⟩
  rintro k d ⟨t,i,rfl,g1,g2,g3,hik,hn⟩
  apply aA
  unfold z7
  change wp _ _ _ _ ⟨an [] t, [],none,m⟩ _
  by_cases hi:i<l.length
  ·obtain ⟨id,off,wr,c,a1,a2,a3,a4,a5⟩:=hv.at i (by simpa using hi)
   rw[List.getElem_map] at a5
   have c0:c[off+0]? =some (.str l[i].1):=bg a5 0 (by omega)
   by_cases he:l[i].1=s
   ·simp (disch:=first|assumption|omega) only[go_sem,seval,g1,g2,g3,hlen,a1,a2,c0,he]
    have hf:bW (l.map (·.1)) s=i:=gl (by simpa using hi) (by simp[he]) fun j hj=>by rw[List.getElem_map];exact hn j hj (by omega)
    exact hK _ _ ⟨by rw[hf],rfl⟩
   ·simp (disch:=first|assumption|omega) only[go_sem,seval,g1,g2,g3,hlen,a1,a2,c0,he]
    refine ⟨k - 1,by omega,_,i+1,by rfl,by simp only[go_sem,seval,g1],by simp only[go_sem,seval,g2],by simp only[go_sem,seval]<;>rfl,by omega,fun j hj hl=> ?_⟩
    rcases Nat.lt_or_ge j i with q|q
    ·exact hn j q hl
    ·obtain rfl:j=i:=by omega
     exact fun q=>he q.symm
  ·simp (disch:=first|assumption|omega) only[go_sem,seval,g1,g2,g3,hlen]
   have hf:bW (l.map (·.1)) s=-1:=eX fun j hj=>by rw[List.getElem_map];exact hn j (by simp at hj;omega) (by simpa using hj)
   exact hK _ _ ⟨by rw[hf],rfl⟩
 obtain ⟨r,m',h1,rfl,rfl⟩:=h
 exact h1
theorem Hk (m:NH) (s:Int):bm Try.prog S0 51 [ii s] m (.bool (nE s)) m:=by
 have h:∃r m',bm Try.prog S0 51 [ii s] m r m'/\r= .bool (nE s)/\m'=m:=by
  refine WF.ex fun K hK=> ?_
  refine WF.of_wpG (fun _=>rfl) yE (L:= [(.e,ii s)]) rfl ?_
  unfold JW
  by_cases h1:1<=s
  ·by_cases h2:s<=64
   ·have hpa:=qW h1 h2
    by_cases h3:s.toNat&&& (s.toNat - 1)=0
    ·rw[h3] at hpa
     simp (disch:=first|assumption|omega) only[go_sem,seval,ag,hpa]
     exact hK _ _ ⟨by unfold nE;rw[decide_eq_true ⟨h1,h2,h3⟩],rfl⟩
    ·have hne:nE s=false:=decide_eq_false fun h=>h3 h.2.2
     generalize s.toNat&&& (s.toNat - 1)=r at hpa h3
     simp (disch:=first|assumption|omega) only[go_sem,seval,ag,hpa]
     exact hK _ _ ⟨by rw[hne],rfl⟩
   ·simp (disch:=first|assumption|omega) only[go_sem,seval,ag]
    exact hK _ _ ⟨by unfold nE;rw[decide_eq_false fun h=>h2 h.2.1],rfl⟩
  ·simp (disch:=first|assumption|omega) only[go_sem,seval,ag]
   exact hK _ _ ⟨by unfold nE;rw[decide_eq_false fun h=>h1 h.1],rfl⟩
 obtain ⟨r,m',h1,rfl,rfl⟩:=h
 exact h1
end FR
open Go Nm Go.Proofs
namespace FR
set_option linter.unusedSimpArgs false
set_option linter.unusedVariables false
structure Sp where
 (k d a b c t ce n o:Int)
abbrev ib (z:Int):NV:= .int .u8 (.lit z)
abbrev Sp.l (s:Sp):List NV:= [ii s.k,ii s.d,ii s.a,ii s.b,ii s.c,ii s.t,ii s.ce,iu s.n,ib s.o]
structure Ms where
 st:List Sp
 (v lb:Int)
def bv (s:Sp) (X:Ms):Ms:=⟨X.st++ [s],X.v,X.lb⟩
def bx (n:Int) (X:Ms):Ms:=bv ⟨0,X.v,0,0,0,0,0,n,0⟩ ⟨X.st,X.v+1,X.lb⟩
def pp (o a b:Int) (X:Ms):Ms:=bv ⟨2,X.v,a,b,0,0,0,0,o⟩ ⟨X.st,X.v+1,X.lb⟩
structure Ms.ok (X:Ms) (k:Nat):Prop where
 s:X.st.length+k<=1000000000
 v0:0<=X.v
 v:X.v+k<=1000000000
 l0:0<=X.lb
 l:X.lb+k<=1000000000
theorem Ms.ok.weak {X:Ms} {k j:Nat} (h:X.ok k) (hj:j<=k):X.ok j:=⟨by have:=h.s;omega,h.v0,by have:=h.v;omega,h.l0,by have:=h.l;omega⟩
theorem bL {X:Ms} {k:Nat} (h:X.ok (k+1)) (s:Sp):(bv s X).ok k:=⟨by have:=h.s;simp[bv];omega,h.v0,by have:=h.v;simp only[bv];omega,h.l0,by have:=h.l;simp only[bv];omega⟩
theorem dl {X:Ms} {k:Nat} (h:X.ok (k+1)) (n:Int):(bx n X).ok k:=⟨by have:=h.s;simp[bx,bv];omega,by have:=h.v0;simp only[bx,bv];omega,by have:=h.v;simp only[bx,bv];omega,h.l0,by have:=h.l;simp only[bx,bv];omega⟩
theorem my {X:Ms} {k:Nat} (h:X.ok (k+1)) (o a b:Int):(pp o a b X).ok k:=⟨by have:=h.s;simp[pp,bv];omega,by have:=h.v0;simp only[pp,bv];omega,by have:=h.v;simp only[pp,bv];omega,h.l0,by have:=h.l;simp only[pp,bv];omega⟩
structure MK (B m:NH) (r:D4) (vc vn:NV) (lo:Int) (vs:NV) (X:Ms):Prop where
 g:m.get r=some (.cells true [vc,vn,ii X.v,ii lo,vs,ii X.lb])
 o:ay m r
 nB:¬ay B r
 s:bz B m vs 9 (X.st.map Sp.l)
 n:r∉ids vs
 c:Chg [] B m
structure Ev (r:D4) (vs vs':NV) (m m':NH):Prop where
 c:Chg (r::ids vs) m m'
 f:∀j∈ids vs',j∈ids vs∨¬ay m j
section
variable {B m m' m'' M:NH} {r i:D4} {vc vn vs vs' vs'':NV} {lo:Int} {X X':Ms}
theorem Ev.trans (h:Ev r vs vs' m m') (h':Ev r vs' vs'' m' m''):Ev r vs vs'' m m'':=
 ⟨h.c.trans h'.c fun i hi ho=>by
  rcases List.mem_cons.mp hi with rfl|hi
  ·exact List.mem_cons_self ..
  ·exact (h.f i hi).elim (fun q=>List.mem_cons_of_mem _ q) fun q=>absurd ho q,
 fun j hj=>(h'.f j hj).elim (h.f j) fun q=>Or.inr fun ho=>q (h.c.old ho)⟩
theorem Ev.pre (hC:Chg [] m m') (h:Ev r vs vs' m' m''):Ev r vs vs' m m'':=
 ⟨(hC.weak (T:=r::ids vs) (by simp)).trans h.c fun i hi _=>hi,fun j hj=>(h.f j hj).imp id fun q ho=>q (hC.old ho)⟩
theorem Ev.grow (hC:Chg [] m m'):Ev r vs vs m m':=⟨hC.weak (by simp),fun j hj=>Or.inl hj⟩
theorem Ev.get (h:Ev r vs vs' m m') (ho:ay m i) (hr:i≠r) (hi:i∉ids vs):m'.get i=m.get i:=h.c.get ho (by simp[hr,hi])
theorem Ev.nin (h:Ev r vs vs' m m') (ho:ay m i) (hi:i∉ids vs):i∉ids vs':=fun q=>(h.f i q).elim hi fun q=>q ho
theorem MK.grow (h:MK B m r vc vn lo vs X) (hC:Chg [] m m'):MK B m' r vc vn lo vs X:=
 ⟨(hC.get h.o (by simp)).trans h.g,hC.old h.o,h.nB,h.s.chg hC fun _ _=>by simp,h.n,h.c.trans hC (by simp)⟩
theorem MK.new (h:MK B m r vc vn lo vs X) (k:Nat):na m k≠r/\na m k∉ids vs:=⟨fun e=>h.o.ne k e.symm,fun q=>aF (h.s.sl.old _ q)⟩
theorem MK.chg (h:MK B m r vc vn lo vs X) (hE:Ev r vs vs' m m'):Chg [] B m':=h.c.trans hE.c fun i hi ho=>by
 rcases List.mem_cons.mp hi with rfl|hi
 ·exact absurd ho h.nB
 ·exact absurd ho (h.s.new i hi)
end
section
variable {B m:NH} {r:D4} {vc vn vs:NV} {lo:Int} {X:Ms}
theorem eu (h:MK B m r vc vn lo vs X) (s:Sp) (hl:X.st.length<=10000000000):∃m',bm Try.prog S0 58 [.ptr r 0,.agg s.l] m (.tup []) m'/\∃vs',MK B m' r vc vn lo vs' (bv s X)/\Ev r vs vs' m m':=by
 refine WF.ex1 fun K hK=> ?_
 refine WF.of_wpG (fun _=>rfl) zF (L:= [(.a .e,.agg s.l),(.e,.ptr r 0)]) rfl ?_
 unfold IY
 have hg:=h.g
 have ho:=h.o
 have hs1:=h.s.sl.same (n:=3)
 simp (config:={maxSteps:=1000000}) (disch:=first|assumption|omega|exact ab (by omega)|exact aa (by assumption)|(simp only[ap]<;>omega)) only[go_sem,seval,hg]
 generalize hM:hp _ 2 m=M
 have hC:Chg [] m M:=by rw[←hM];exact ao rfl
 have gx:M.get (na m 1)=some (.cells true s.l):=by rw[←hM];exact av
 have g0:M.get (na m 0)=some (.cells true s.l):=by rw[←hM];exact av
 have o0:ay M (na m 0):=by rw[←hM];exact ab (by omega)
 have ox:ay M (na m 1):=by rw[←hM];exact ab (by omega)
 have h1:=h.grow hC
 refine fj h1.s gx ox rfl (fun i hi=>h1.c.old hi) (by simp;omega) (by simp;omega) ?_
 intro vs2 M2 hs2 hC2 hF2
 have hg2:=(hC2.get h1.o h1.n).trans h1.g
 have ho2:=hC2.old h1.o
 have hs2o:=hs2.sl.one
 have gx2:=(hC2.get o0 (h.new 0).2).trans g0
 simp (config:={maxSteps:=1000000}) (disch:=first|assumption|omega|exact ab (by omega)|exact aa (by assumption)|(simp only[ap]<;>omega)) only[go_sem,seval,hg2,hs1,gx2,hC2.old o0,hs2o]
 refine hK _ ⟨vs2, ?_, ?_⟩
 ·generalize hM3:hp _ 0 M2=M3
  have hC3:Chg [r] M2 M3:=by rw[←hM3];exact ao rfl
  have hn:r∉ids vs2:=fun q=>(hF2 r q).elim h.n fun q=>q h1.o
  refine ⟨by rw[←hM3];exact (aO ho2).trans az,hC3.old ho2,h.nB, ?_,hn, ?_⟩
  ·have:=hs2.chg hC3 fun i hi q=>hn (by simp at q;exact q▸hi)
   simpa [bv] using this
  ·refine (h1.c.trans hC2 fun i hi q=>absurd q (h1.s.new i hi)).trans hC3 fun i hi q=> ?_
   simp only[List.mem_cons,List.not_mem_nil,or_false] at hi;subst hi;exact absurd q h.nB
 ·refine ⟨?_,fun j hj=>(hF2 j hj).imp id fun q ho=>q (hC.old ho)⟩
  refine ((hC.weak (T:=r::ids vs) (by simp)).trans hC2 fun i hi _=>List.mem_cons_of_mem _ hi).trans (ao rfl) fun i hi _=> ?_
  simp only[aR,List.mem_cons,List.not_mem_nil,or_false] at hi;subst hi;exact List.mem_cons_self ..
theorem HC (h:MK B m r vc vn lo vs X) {k:Nat} (hk:X.ok (k+1)):∃m',bm Try.prog S0 164 [.ptr r 0] m (ii X.v) m'/\∃vs',MK B m' r vc vn lo vs' ⟨X.st,X.v+1,X.lb⟩/\Ev r vs vs' m m':=by
 refine WF.ex1 fun K hK=> ?_
 refine WF.of_wpG (fun _=>rfl) tv (L:= [(.e,.ptr r 0)]) rfl ?_
 unfold Dj
 have hg:=h.g
 have ho:=h.o
 have hl:=hk.v
 have hl0:=hk.v0
 have e1:X.v+1 - 1=X.v:=by omega
 simp (config:={maxSteps:=1000000}) (disch:=first|assumption|omega|exact ab (by omega)|exact aa (by assumption)|(simp only[ap]<;>omega)) only[go_sem,seval,hg,e1]
 generalize hM3:hp _ 0 m=M3
 have hC3:Chg [r] m M3:=by rw[←hM3];exact ao rfl
 refine hK _ ⟨vs,⟨?_,hC3.old ho,h.nB,h.s.chg hC3 fun i hi q=>h.n (by simp at q;exact q▸hi),h.n, ?_⟩,⟨hC3.weak (by simp),fun j hj=>Or.inl hj⟩⟩
 ·rw[←hM3];exact (aO ho).trans az
 ·refine h.c.trans hC3 fun i hi q=> ?_
  simp only[List.mem_cons,List.not_mem_nil,or_false] at hi;subst hi;exact absurd q h.nB
theorem mN (h:MK B m r vc vn lo vs X) (n:Int) {k:Nat} (hk:X.ok (k+1)):∃m',bm Try.prog S0 140 [.ptr r 0,iu n] m (ii X.v) m'/\∃vs',MK B m' r vc vn lo vs' (bx n X)/\Ev r vs vs' m m':=by
 refine WF.ex1 fun K hK=> ?_
 refine WF.of_wpG (fun _=>rfl) uk (L:= [(.a .e,iu n),(.e,.ptr r 0)]) rfl ?_
 unfold Ez
 obtain ⟨m1,h1,v1,k1,e1⟩:=HC h hk
 have hk1:=hk.s
 obtain ⟨m2,h2,v2,k2,e2⟩:=eu k1 ⟨0,X.v,0,0,0,0,0,n,0⟩ (by dsimp only;omega)
 simp (config:={maxSteps:=1000000}) (disch:=first|assumption|omega|exact ab (by omega)|exact aa (by assumption)|(simp only[ap]<;>omega)) only[go_sem,seval,ag,h1.wf',h2.wf']
 exact hK _ ⟨v2,k2,e1.trans e2⟩
theorem yv (h:MK B m r vc vn lo vs X) (o a b:Int) {k:Nat} (hk:X.ok (k+1)):∃m',bm Try.prog S0 141 [.ptr r 0,ib o,ii a,ii b] m (ii X.v) m'/\∃vs',MK B m' r vc vn lo vs' (pp o a b X)/\Ev r vs vs' m m':=by
 refine WF.ex1 fun K hK=> ?_
 refine WF.of_wpG (fun _=>rfl) sG (L:= [(.c .e,ii b),(.b .e,ii a),(.a .e,ib o),(.e,.ptr r 0)]) rfl ?_
 unfold En
 obtain ⟨m1,h1,v1,k1,e1⟩:=HC h hk
 have hk1:=hk.s
 obtain ⟨m2,h2,v2,k2,e2⟩:=eu k1 ⟨2,X.v,a,b,0,0,0,0,o⟩ (by dsimp only;omega)
 simp (config:={maxSteps:=1000000}) (disch:=first|assumption|omega|exact ab (by omega)|exact aa (by assumption)|(simp only[ap]<;>omega)) only[go_sem,seval,ag,h1.wf',h2.wf']
 exact hK _ ⟨v2,k2,e1.trans e2⟩
end
section
variable {B m:NH} {r:D4} {vc vn vs:NV} {lo:Int} {X:Ms}
theorem eA (h:MK B m r vc vn lo vs X) (s:Sp) (hl:X.st.length<=10000000000):∃m',bm Try.prog S0 60 [.ptr r 0,.agg s.l] m (.tup []) m'/\∃vs',MK B m' r vc vn lo vs' (bv s X)/\Ev r vs vs' m m':=by
 refine WF.ex1 fun K hK=> ?_
 refine WF.of_wpG (fun _=>rfl) zT (L:= [(.a .e,.agg s.l),(.e,.ptr r 0)]) rfl ?_
 unfold H6
 have hg:=h.g
 have ho:=h.o
 have hs1:=h.s.sl.same (n:=3)
 simp (config:={maxSteps:=1000000}) (disch:=first|assumption|omega|exact ab (by omega)|exact aa (by assumption)|(simp only[ap]<;>omega)) only[go_sem,seval,hg]
 generalize hM:hp _ 2 m=M
 have hC:Chg [] m M:=by rw[←hM];exact ao rfl
 have gx:M.get (na m 1)=some (.cells true s.l):=by rw[←hM];exact av
 have g0:M.get (na m 0)=some (.cells true s.l):=by rw[←hM];exact av
 have o0:ay M (na m 0):=by rw[←hM];exact ab (by omega)
 have ox:ay M (na m 1):=by rw[←hM];exact ab (by omega)
 have h1:=h.grow hC
 refine fj h1.s gx ox rfl (fun i hi=>h1.c.old hi) (by simp;omega) (by simp;omega) ?_
 intro vs2 M2 hs2 hC2 hF2
 have hg2:=(hC2.get h1.o h1.n).trans h1.g
 have ho2:=hC2.old h1.o
 have hs2o:=hs2.sl.one
 have gx2:=(hC2.get o0 (h.new 0).2).trans g0
 simp (config:={maxSteps:=1000000}) (disch:=first|assumption|omega|exact ab (by omega)|exact aa (by assumption)|(simp only[ap]<;>omega)) only[go_sem,seval,hg2,hs1,gx2,hC2.old o0,hs2o]
 refine hK _ ⟨vs2, ?_, ?_⟩
 ·generalize hM3:hp _ 0 M2=M3
  have hC3:Chg [r] M2 M3:=by rw[←hM3];exact ao rfl
  have hn:r∉ids vs2:=fun q=>(hF2 r q).elim h.n fun q=>q h1.o
  refine ⟨by rw[←hM3];exact (aO ho2).trans az,hC3.old ho2,h.nB, ?_,hn, ?_⟩
  ·have:=hs2.chg hC3 fun i hi q=>hn (by simp at q;exact q▸hi)
   simpa [bv] using this
  ·refine (h1.c.trans hC2 fun i hi q=>absurd q (h1.s.new i hi)).trans hC3 fun i hi q=> ?_
   simp only[List.mem_cons,List.not_mem_nil,or_false] at hi;subst hi;exact absurd q h.nB
 ·refine ⟨?_,fun j hj=>(hF2 j hj).imp id fun q ho=>q (hC.old ho)⟩
  refine ((hC.weak (T:=r::ids vs) (by simp)).trans hC2 fun i hi _=>List.mem_cons_of_mem _ hi).trans (ao rfl) fun i hi _=> ?_
  simp only[aR,List.mem_cons,List.not_mem_nil,or_false] at hi;subst hi;exact List.mem_cons_self ..
theorem HJ (h:MK B m r vc vn lo vs X) {k:Nat} (hk:X.ok (k+1)):∃m',bm Try.prog S0 176 [.ptr r 0] m (ii X.v) m'/\∃vs',MK B m' r vc vn lo vs' ⟨X.st,X.v+1,X.lb⟩/\Ev r vs vs' m m':=by
 refine WF.ex1 fun K hK=> ?_
 refine WF.of_wpG (fun _=>rfl) uo (L:= [(.e,.ptr r 0)]) rfl ?_
 unfold DC
 have hg:=h.g
 have ho:=h.o
 have hl:=hk.v
 have hl0:=hk.v0
 have e1:X.v+1 - 1=X.v:=by omega
 simp (config:={maxSteps:=1000000}) (disch:=first|assumption|omega|exact ab (by omega)|exact aa (by assumption)|(simp only[ap]<;>omega)) only[go_sem,seval,hg,e1]
 generalize hM3:hp _ 0 m=M3
 have hC3:Chg [r] m M3:=by rw[←hM3];exact ao rfl
 refine hK _ ⟨vs,⟨?_,hC3.old ho,h.nB,h.s.chg hC3 fun i hi q=>h.n (by simp at q;exact q▸hi),h.n, ?_⟩,⟨hC3.weak (by simp),fun j hj=>Or.inl hj⟩⟩
 ·rw[←hM3];exact (aO ho).trans az
 ·refine h.c.trans hC3 fun i hi q=> ?_
  simp only[List.mem_cons,List.not_mem_nil,or_false] at hi;subst hi;exact absurd q h.nB
theorem nh (h:MK B m r vc vn lo vs X) (n:Int) {k:Nat} (hk:X.ok (k+1)):∃m',bm Try.prog S0 167 [.ptr r 0,iu n] m (ii X.v) m'/\∃vs',MK B m' r vc vn lo vs' (bx n X)/\Ev r vs vs' m m':=by
 refine WF.ex1 fun K hK=> ?_
 refine WF.of_wpG (fun _=>rfl) uI (L:= [(.a .e,iu n),(.e,.ptr r 0)]) rfl ?_
 unfold Fo
 obtain ⟨m1,h1,v1,k1,e1⟩:=HJ h hk
 have hk1:=hk.s
 obtain ⟨m2,h2,v2,k2,e2⟩:=eA k1 ⟨0,X.v,0,0,0,0,0,n,0⟩ (by dsimp only;omega)
 simp (config:={maxSteps:=1000000}) (disch:=first|assumption|omega|exact ab (by omega)|exact aa (by assumption)|(simp only[ap]<;>omega)) only[go_sem,seval,ag,h1.wf',h2.wf']
 exact hK _ ⟨v2,k2,e1.trans e2⟩
theorem zH (h:MK B m r vc vn lo vs X) (o a b:Int) {k:Nat} (hk:X.ok (k+1)):∃m',bm Try.prog S0 168 [.ptr r 0,ib o,ii a,ii b] m (ii X.v) m'/\∃vs',MK B m' r vc vn lo vs' (pp o a b X)/\Ev r vs vs' m m':=by
 refine WF.ex1 fun K hK=> ?_
 refine WF.of_wpG (fun _=>rfl) sP (L:= [(.c .e,ii b),(.b .e,ii a),(.a .e,ib o),(.e,.ptr r 0)]) rfl ?_
 unfold Ei
 obtain ⟨m1,h1,v1,k1,e1⟩:=HJ h hk
 have hk1:=hk.s
 obtain ⟨m2,h2,v2,k2,e2⟩:=eA k1 ⟨2,X.v,a,b,0,0,0,0,o⟩ (by dsimp only;omega)
 simp (config:={maxSteps:=1000000}) (disch:=first|assumption|omega|exact ab (by omega)|exact aa (by assumption)|(simp only[ap]<;>omega)) only[go_sem,seval,ag,h1.wf',h2.wf']
 exact hK _ ⟨v2,k2,e1.trans e2⟩
end
end FR
open Go Nm Go.Proofs
namespace FR
set_option linter.unusedSimpArgs false
set_option linter.unusedVariables false
def jB (z:Int):Int:=max 1 (min z 64)
theorem qX (z:Int):1<=jB z/\jB z<=64:=by unfold jB;omega
def di:List (List Nat×Int)->Int
 | []=>0
 |c::l=>jB c.2+di l
theorem sm (l:List (List Nat×Int)):0<=di l/\di l<=64*l.length:=by
 induction l with
 |nil=>simp[di]
 |cons c l ih=>have:=qX c.2;rw[di,List.length_cons];omega
theorem oa (l:List (List Nat×Int)):∀(i:Nat) (hi:i<l.length),di (l.take (i+1))=di (l.take i)+jB l[i].2:=by
 induction l with
 |nil=>intro i hi;simp at hi
 |cons c l ih=>
  intro i hi
  cases i with
  |zero=>simp[di]
  |succ i=>
   have:=ih i (by simpa using hi)
   rw[List.take_succ_cons,di,this,List.take_succ_cons,di,List.getElem_cons_succ];omega
def HF (l:List (List Nat×Int)) (i:Int):Int:=if 0<=i/\i<l.length then 4096+8*di (l.take i.toNat) else 4096
theorem Gc {m:NH} {v:NV} {l:List (List Nat×Int)} (hv:Sl m v 2 (lm l)) (hsz:l.length<=1000000):∃m',bm Try.prog S0 72 [v] m (ii (di l)) m'/\Chg [] m m':=by
 refine WF.ex1 fun K hK=> ?_
 refine WF.of_wpG (fun _=>rfl) yV (L:= [(.e,v)]) rfl ?_
 unfold Je
 have hlen:=hv.len
 rw[List.length_map] at hlen
 simp (config:={maxSteps:=1000000}) (disch:=first|assumption|omega|exact ab (by omega)|exact aa (by assumption)|(simp only[ap]<;>omega)) only[go_sem,seval,hlen,ag]
 refine W.loop (fun k d=>∃t M i,d=⟨t, [],none,M⟩/\NT.get D4.e.c t=some (ii (di (l.take i)))/\NT.get D4.e.a.b t=some v/\NT.get D4.e.a.c t=some (ii l.length)/\NT.get D4.e.a.f t=some (ii (i:Nat))/\i+k=l.length/\Chg [] m M) ?_ l.length _ ⟨_,m,0,rfl,by simp only[go_sem,seval]<;>rfl,by simp only[go_sem,seval],by simp only[go_sem,seval],by simp only[go_sem,seval]<;>rfl,by omega,Chg.refl m⟩
 rintro k d ⟨t,M,i,rfl,g1,g2,g3,g4,hik,hC⟩
 apply aA
 unfold yQ
 change wp _ _ _ _ ⟨an [] t, [],none,M⟩ _
 rw[←ag M]
 by_cases hi:i<l.length
 ·obtain ⟨id,off,wr,c,a1,a2,a3,a4,a5⟩:=hv.at i (by simpa using hi)
  rw[List.getElem_map] at a5
  have a2':=(hC.get a3 (by simp)).trans a2
  have a3':=hC.old a3
  have hw:=oa l i hi
  have hb:=sm (l.take i)
  rw[List.length_take] at hb
  have hc:=qX l[i].2
  unfold jB at hw hc
  simp (config:={maxSteps:=1000000}) (disch:=first|assumption|omega|exact ab (by omega)|exact aa (by assumption)|(simp only[ap]<;>omega)) only[go_sem,seval,g1,g2,g3,g4,hlen,a1,a2',a5]
  exact ⟨k - 1,by omega,_,_,i+1,by rfl,by simp only[go_sem,seval,hw],by simp only[go_sem,seval,g2],by simp only[go_sem,seval,g3],by simp only[go_sem,seval]<;>rfl,by omega,fk hC rfl⟩
 ·rw[List.take_of_length_le (by omega)] at g1
  simp (config:={maxSteps:=1000000}) (disch:=first|assumption|omega|exact ab (by omega)|exact aa (by assumption)|(simp only[ap]<;>omega)) only[go_sem,seval,g1,g2,g3,g4,hlen,ag]
  exact hK _ hC
theorem IS {m:NH} {oc:D4} {s nm:List Nat} {z:Int} (hc:m.get oc=some (.cells true [.str s])) (ho:ay m oc):∃m',bm Try.prog S0 175 [.agg [.str nm,ii z],.ptr oc 0] m (.bool (decide (nm=s))) m'/\Chg [] m m':=by
 refine WF.ex1 fun K hK=> ?_
 refine WF.of_wpG (fun _=>rfl) tn (L:= [(.a .e,.ptr oc 0),(.e,.agg [.str nm,ii z])]) rfl ?_
 unfold Dt
 simp (disch:=first|assumption|omega) only[go_sem,seval,hc]
 exact hK _ (ao rfl)
theorem Km {m:NH} {v:NV} {l:List (List Nat×Int)} {oc:D4} {s:List Nat} (hv:Sl m v 2 (lm l)) (hsz:l.length<=1000000) (hc:m.get oc=some (.cells true [.str s])) (ho:ay m oc):
 ∃m',bm Try.prog S0 174 [v,.fn 175 [.ptr oc 0]] m (ii (bW (l.map (·.1)) s)) m'/\Chg [] m m':=by
 refine WF.ex1 fun K hK=> ?_
 refine WF.of_wpG (fun _=>rfl) ug (L:= [(.a .e,.fn 175 [.ptr oc 0]),(.e,v)]) rfl ?_
 unfold DM
 have hlen:=hv.len
 rw[List.length_map] at hlen
 simp (disch:=first|assumption|omega) only[go_sem,seval,hlen,ag]
 refine W.loop (fun k d=>∃t M i,d=⟨t, [],none,M⟩/\NT.get D4.e t=some v/\NT.get D4.e.a t=some (.fn 175 [.ptr oc 0])/\NT.get D4.e.a.c t=some (ii l.length)/\NT.get D4.e.a.f t=some (ii (i:Nat))/\i+k=l.length/\Chg [] m M/\∀j (hj:j<i) (hl:j<l.length),s≠l[j].1) ?_ l.length _ ⟨_,m,0,rfl,by simp only[go_sem,seval],by simp only[go_sem,seval],by simp only[go_sem,seval],by simp only[go_sem,seval]<;>rfl,by omega,Chg.refl m,by simp⟩
 rintro k d ⟨t,M,i,rfl,g1,g2,g3,g4,hik,hC,hn⟩
 apply aA
 unfold uh
 change wp _ _ _ _ ⟨an [] t, [],none,M⟩ _
 by_cases hi:i<l.length
 ·obtain ⟨id,off,wr,c,a1,a2,a3,a4,a5⟩:=hv.at i (by simpa using hi)
  rw[List.getElem_map] at a5
  have a2':=(hC.get a3 (by simp)).trans a2
  obtain ⟨M2,hr,hC2⟩:=IS (nm:=l[i].1) (z:=l[i].2) ((hC.get ho (by simp)).trans hc) (hC.old ho)
  by_cases he:l[i].1=s
  ·rw[decide_eq_true he] at hr
   simp (disch:=first|assumption|omega) only[go_sem,seval,g1,g2,g3,g4,a1,a2',a5,hr.wf']
   have hf:bW (l.map (·.1)) s=i:=gl (by simpa using hi) (by simp[he]) fun j hj=>by rw[List.getElem_map];exact hn j hj (by omega)
   rw[hf] at hK
   exact hK _ (hC.trans hC2 (by simp))
  ·rw[decide_eq_false he] at hr
   simp (disch:=first|assumption|omega) only[go_sem,seval,g1,g2,g3,g4,a1,a2',a5,hr.wf']
   refine ⟨k - 1,by omega,_,M2,i+1,by rfl,by simp only[go_sem,seval,g1],by simp only[go_sem,seval,g2],by simp only[go_sem,seval,g3],by simp only[go_sem,seval]<;>rfl,by omega,hC.trans hC2 (by simp),fun j hj hl=> ?_⟩
   rcases Nat.lt_or_ge j i with q|q
   ·exact hn j q hl
   ·obtain rfl:j=i:=by omega
    exact fun q=>he q.symm
 ·simp (disch:=first|assumption|omega) only[go_sem,seval,g1,g2,g3,g4]
  have hf:bW (l.map (·.1)) s=-1:=eX fun j hj=>by rw[List.getElem_map];exact hn j (by simp at hj;omega) (by simpa using hj)
  rw[hf] at hK
  exact hK _ hC
theorem J4 {m:NH} {v:NV} {l:List (List Nat×Int)} (hv:Sl m v 2 (lm l)) (hsz:l.length<=1000000) (s:List Nat):∃m',bm Try.prog S0 165 [v,.str s] m (ii (bW (l.map (·.1)) s)) m'/\Chg [] m m':=by
 refine WF.ex1 fun K hK=> ?_
 refine WF.of_wpG (fun _=>rfl) te (L:= [(.a .e,.str s),(.e,v)]) rfl ?_
 unfold CQ
 have hC:Chg [] m (hp [(.n 0,.cells true [.str s])] 1 m):=ao rfl
 have hg:(hp [(.n 0,.cells true [.str s])] 1 m).get (na m 0)=some (.cells true [.str s]):=av
 have ho:ay (hp [(.n 0,.cells true [.str s])] 1 m) (na m 0):=ab (by omega)
 obtain ⟨m2,hr,hC2⟩:=Km (hv.chg hC fun _ _=>by simp) hsz hg ho
 simp (disch:=first|assumption|omega) only[go_sem,seval,hr.wf']
 exact hK _ (hC.trans hC2 (by simp))
theorem NS {m:NH} {v:NV} {l:List (List Nat×Int)} (hv:Sl m v 2 (lm l)) (hsz:l.length<=1000000) (i:Int):∃m',bm Try.prog S0 166 [v,ii i] m (ii (HF l i)) m'/\Chg [] m m':=by
 refine WF.ex1 fun K hK=> ?_
 refine WF.of_wpG (fun _=>rfl) s9 (L:= [(.a .e,ii i),(.e,v)]) rfl ?_
 unfold Cf
 have hlen:=hv.len
 rw[List.length_map] at hlen
 unfold HF at hK
 by_cases h0:i<0
 ·rw[if_neg (by omega)] at hK
  simp (disch:=first|assumption|omega) only[go_sem,seval,ag]
  exact hK _ (Chg.refl m)
 ·by_cases h1:i<l.length
  ·rw[if_pos (by omega)] at hK
   simp (disch:=first|assumption|omega) only[go_sem,seval,ag,hlen]
   obtain ⟨n,rfl⟩:=Int.eq_ofNat_of_zero_le (by omega:0<=i)
   refine zp hv (a:=0) (b:=n) (by omega) (by simp;omega) (fun K=>by (simp (disch:=first|assumption|omega) only[go_sem,seval])) (fun d K hd=>by (simp (disch:=first|assumption|omega) only[go_sem,seval])) ?_
   intro v2 hv2 hi2
   have hw:((lm l).drop 0).take (n - 0)=lm (l.take n):=by simp[List.map_take]
   rw[hw] at hv2
   obtain ⟨m2,hr,hC2⟩:=Gc hv2 (by simp;omega)
   have hb:=sm (l.take n)
   rw[List.length_take] at hb
   simp (disch:=first|assumption|omega) only[go_sem,seval,hr.wf',HO]
   exact hK _ hC2
  ·rw[if_neg (by omega)] at hK
   simp (disch:=first|assumption|omega) only[go_sem,seval,ag,hlen]
   exact hK _ (Chg.refl m)
theorem Jw (m:NH) (s:List Nat) (z:Int):∃m',bm Try.prog S0 160 [.agg [.str s,ii z]] m (ii (jB z)) m'/\Chg [] m m':=by
 refine WF.ex1 fun K hK=> ?_
 refine WF.of_wpG (fun _=>rfl) uO (L:= [(.e,.agg [.str s,ii z])]) rfl ?_
 unfold EM
 unfold jB at hK
 by_cases h1:z<1
 ·rw[show max 1 (min z 64)=1 by omega] at hK
  simp (disch:=first|assumption|omega) only[go_sem,seval]
  exact hK _ (ao rfl)
 ·by_cases h2:64<z
  ·rw[show max 1 (min z 64)=64 by omega] at hK
   simp (disch:=first|assumption|omega) only[go_sem,seval]
   exact hK _ (ao rfl)
  ·rw[show max 1 (min z 64)=z by omega] at hK
   simp (disch:=first|assumption|omega) only[go_sem,seval]
   exact hK _ (ao rfl)
theorem Ok {m:NH} {v:NV} {l:List (List Nat×Int)} (hv:Sl m v 2 (lm l)) (hsz:l.length<=1000000) (i:Int):∃m',bm Try.prog S0 169 [v,ii i] m (ii (HF l i)) m'/\Chg [] m m':=by
 refine WF.ex1 fun K hK=> ?_
 refine WF.of_wpG (fun _=>rfl) u3 (L:= [(.a .e,ii i),(.e,v)]) rfl ?_
 unfold Ef
 have hlen:=hv.len
 rw[List.length_map] at hlen
 simp (disch:=first|assumption|omega) only[go_sem,seval,ag]
 refine W.loop (fun k d=>∃t M j,d=⟨t, [],none,M⟩/\NT.get D4.e t=some v/\NT.get D4.e.a t=some (ii i)/\NT.get D4.e.a.a t=some (ii (4096+8*di (l.take j)))/\NT.get D4.e.a.b t=some (ii (j:Nat))/\j+k=l.length/\(j=0∨(j<=i/\i<l.length))/\Chg [] m M) ?_ l.length _ ⟨_,m,0,rfl,by simp only[go_sem,seval],by simp only[go_sem,seval],by simp only[go_sem,seval]<;>rfl,by simp only[go_sem,seval]<;>rfl,by omega,Or.inl rfl,Chg.refl m⟩
 rintro k d ⟨t,M,j,rfl,g1,g2,g3,g4,hjk,hj,hC⟩
 apply aA
 unfold sI
 change wp _ _ _ _ ⟨an [] t, [],none,M⟩ _
 by_cases hji:j<i
 ·by_cases hil:i<l.length
  ·have hjl:j<l.length:=by omega
   obtain ⟨id,off,wr,c,a1,a2,a3,a4,a5⟩:=hv.at j (by simpa using hjl)
   rw[List.getElem_map] at a5
   have a2':=(hC.get a3 (by simp)).trans a2
   obtain ⟨M2,hr,hC2⟩:=Jw M l[j].1 l[j].2
   have hw:=oa l j hjl
   have hb:=sm (l.take j)
   rw[List.length_take] at hb
   have hc:=qX l[j].2
   simp (disch:=first|assumption|omega) only[go_sem,seval,g1,g2,g3,g4,hlen,a1,a2',a5,hr.wf',HO]
   exact ⟨k - 1,by omega,_,M2,j+1,by rfl,by simp only[go_sem,seval,g1],by simp only[go_sem,seval,g2],by simp only[go_sem,seval,hw,show 4096+8*(di (l.take j)+jB l[j].2)=4096+8*di (l.take j)+8*jB l[j].2 by omega],by simp only[go_sem,seval]<;>rfl,by omega,Or.inr ⟨by omega,hil⟩,hC.trans hC2 (by simp)⟩
  ·obtain rfl:j=0:=by omega
   unfold HF at hK
   rw[if_neg (by omega)] at hK
   simp (disch:=first|assumption|omega) only[go_sem,seval,g1,g2,g3,g4,hlen]
   exact hK _ hC
 ·unfold HF at hK
  by_cases h0:0<=i/\i<l.length
  ·rw[if_pos h0,show i.toNat=j by omega] at hK
   simp (disch:=first|assumption|omega) only[go_sem,seval,g1,g2,g3,g4,hlen]
   exact hK _ hC
  ·rw[if_neg h0] at hK
   obtain rfl:j=0:=by omega
   simp (disch:=first|assumption|omega) only[go_sem,seval,g1,g2,g3,g4,hlen]
   exact hK _ hC
end FR
open Go Nm Go.Proofs
namespace FR
set_option linter.unusedSimpArgs false
set_option linter.unusedVariables false
def eV (ns:List (List Nat)) (s:List Nat):Int:=max 0 (bW ns s)
mutual
def Ex.lw (ns:List (List Nat)):Ex->Ms->Int×Ms
 | .mk k n o s ks,X=>if k=0 then (X.v,bx n X) else if k=1 then (eV ns s,X) else if k=2 then Nb ns o ks X else (0,X)
def Nb (ns:List (List Nat)) (o:Nat):List Ex->Ms->Int×Ms
 | [],X=>(0,X)
 | [_],X=>(0,X)
 |a::b::_,X=>((b.lw ns (a.lw ns X).2).2.v,pp o (a.lw ns X).1 (b.lw ns (a.lw ns X).2).1 (b.lw ns (a.lw ns X).2).2)
end
theorem cr {ns:List (List Nat)}:∀(x:Ex) {X:Ms} {k:Nat},X.ok (k+x.sz)->(x.lw ns X).2.ok k:=by
 apply Ex.ind (P:=fun x=>∀{X:Ms} {k:Nat},X.ok (k+x.sz)->(x.lw ns X).2.ok k)
 intro c n o s ks ih X k h
 rw[Ex.sz] at h
 rw[Ex.lw]
 split
 ·exact dl (h.weak (by omega)) _
 ·split
  ·exact h.weak (by omega)
  ·split
   ·match ks,ih,h with
    | [],_,h=>exact h.weak (by omega)
    | [_],_,h=>exact h.weak (by omega)
    |a::b::l,ih,h=>
     rw[jd,jd] at h
     rw[Nb]
     refine my ?_ _ _ _
     refine ih b (by simp) ?_
     refine ih a (by simp) (h.weak ?_)
     omega
   ·exact h.weak (by omega)
def OP (f:Nat) (ns:List (List Nat)) (x:Ex):Prop:=∀{B m:NH} {T:D4->Prop} {c:List NV} {r:D4} {vc vn vs:NV} {lo:Int} {X:Ms} {k:Nat},RE B T x c->Sl B vn 1 (bw ns)->ns.length<=1000000->MK B m r vc vn lo vs X->X.ok (k+x.sz)->
 ∃m',bm Try.prog S0 f [.ptr r 0,.agg c] m (ii (x.lw ns X).1) m'/\∃vs',MK B m' r vc vn lo vs' (x.lw ns X).2/\Ev r vs vs' m m'
theorem G1 {B:NH} {T:D4->Prop} {ks:List Ex} {vk:NV} {C:List (List NV)} (hS:SE B T vk ks C) (i:Nat) (hi:i<ks.length):∃u id off w c,RE B T ks[i] (ks[i].l u)/\jw 5 vk (.int .i64 (.lit (i:Int)))= .val (.ptr id off)/\B.get id=some (.cells w c)/\ay B id/\off+5<=c.length/\(c.drop off).take 5=ks[i].l u:=
 Hs hS (io (Chg.refl B) T) i hi
section
variable {B m:NH} {r:D4} {vc vn vs:NV} {lo:Int} {X:Ms} {ns:List (List Nat)}
theorem nd (h:MK B m r vc vn lo vs X) (hn:Sl B vn 1 (bw ns)) (hsz:ns.length<=1000000) (s:List Nat):bm Try.prog S0 102 [.ptr r 0,.str s] m (ii (eV ns s)) m:=by
 have h:∃m',bm Try.prog S0 102 [.ptr r 0,.str s] m (ii (eV ns s)) m'/\m'=m:=by
  refine WF.ex1 fun K hK=> ?_
  refine WF.of_wpG (fun _=>rfl) vj (L:= [(.a .e,.str s),(.e,.ptr r 0)]) rfl ?_
  unfold Fm
  have hg:=h.g
  have hi:=qg (hn.chg h.c fun _ _=>by simp) (by omega) s
  simp (disch:=first|assumption|omega) only[go_sem,seval,ag,hg,hi.wf']
  exact hK _ rfl
 obtain ⟨m',h1,rfl⟩:=h
 exact h1
theorem mQ (h:MK B m r vc vn lo vs X) (hn:Sl B vn 1 (bw ns)) (hsz:ns.length<=1000000) (s:List Nat):bm Try.prog S0 145 [.ptr r 0,.str s] m (ii (eV ns s)) m:=by
 have h:∃m',bm Try.prog S0 145 [.ptr r 0,.str s] m (ii (eV ns s)) m'/\m'=m:=by
  refine WF.ex1 fun K hK=> ?_
  refine WF.of_wpG (fun _=>rfl) ut (L:= [(.a .e,.str s),(.e,.ptr r 0)]) rfl ?_
  unfold Dh
  have hg:=h.g
  have hv:=hn.chg h.c fun _ _=>by simp
  have hlen:=hv.len
  rw[List.length_map] at hlen
  simp (disch:=first|assumption|omega) only[go_sem,seval,ag]
  refine W.loop (fun k d=>∃t i,d=⟨t, [],none,m⟩/\NT.get D4.e t=some (.ptr r 0)/\NT.get D4.e.a t=some (.str s)/\NT.get D4.e.a.a t=some (ii (i:Nat))/\i+k=ns.length/\∀j (hj:j<i) (hl:j<ns.length),s≠ns[j]) ?_ ns.length _ ⟨_,0,rfl,by simp only[go_sem,seval],by simp only[go_sem,seval],by simp only[go_sem,seval]<;>rfl,by omega,by simp⟩
  rintro k d ⟨t,i,rfl,g1,g2,g3,hik,hno⟩
  apply aA
  unfold uL
  change wp _ _ _ _ ⟨an [] t, [],none,m⟩ _
  by_cases hi:i<ns.length
  ·obtain ⟨id,off,wr,c,a1,a2,a3,a4,a5⟩:=hv.at i (by simpa using hi)
   rw[List.getElem_map] at a5
   have c0:c[off]? =some (.str ns[i]):=bg a5 0 (by omega)
   have hvs:=hv.same (n:=3)
   by_cases he:ns[i]=s
   ·simp (disch:=first|assumption|omega) only[go_sem,seval,g1,g2,g3,hg,hlen,a1,a2,c0,he]
    have hf:bW ns s=i:=gl hi he.symm fun j hj=>hno j hj (by omega)
    have hl:eV ns s=i:=by unfold eV;rw[hf];omega
    rw[hl] at hK
    exact hK _ rfl
   ·simp (disch:=first|assumption|omega) only[go_sem,seval,g1,g2,g3,hg,hlen,a1,a2,c0,he]
    refine ⟨k - 1,by omega,_,i+1,by rfl,by simp only[go_sem,seval,g1],by simp only[go_sem,seval,g2],by simp only[go_sem,seval]<;>rfl,by omega,fun j hj hl=> ?_⟩
    rcases Nat.lt_or_ge j i with q|q
    ·exact hno j q hl
    ·obtain rfl:j=i:=by omega
     exact fun q=>he q.symm
  ·simp (disch:=first|assumption|omega) only[go_sem,seval,g1,g2,g3,hg,hlen]
   have hf:bW ns s=-1:=eX fun j hj=>hno j (by omega) hj
   have hl:eV ns s=0:=by unfold eV;rw[hf];omega
   rw[hl] at hK
   exact hK _ rfl
 obtain ⟨m',h1,rfl⟩:=h
 exact h1
end
theorem fJ {ns:List (List Nat)}:∀x:Ex,OP 101 ns x:=by
 apply Ex.ind
 intro cd n o s ks ih B m T c r vc vn vs lo X k hR hn hsz h hk
 obtain ⟨vk,C,rfl,hS⟩:=hR.inv
 refine WF.ex1 fun K hK=> ?_
 refine WF.of_wpG (fun _=>rfl) uU (L:= [(.a .e,.agg [ii cd,u64 n,u8 o,.str s,vk]),(.e,.ptr r 0)]) rfl ?_
 unfold B9
 generalize hM1:hp [(.n 0,.cells true [ii cd,u64 n,u8 o,.str s,vk])] 1 m=M1
 have hC1:Chg [] m M1:=by rw[←hM1];exact ao rfl
 have hg1:M1.get (na m 0)=some (.cells true [ii cd,u64 n,u8 o,.str s,vk]):=by rw[←hM1];exact av
 have ho1:ay M1 (na m 0):=by rw[←hM1];exact ab (by omega)
 have k1:=h.grow hC1
 obtain ⟨nr1,ns1⟩:=h.new 0
 rw[Ex.lw] at hK
 have hlen:=hS.sl.len
 rw[hS.len] at hlen
 rw[Ex.sz] at hk
 by_cases h0:cd=0
 ·rw[if_pos h0] at hK
  subst h0
  obtain ⟨m2,h2,v2,k2,e2⟩:=mN k1 n (hk.weak (by omega:0+1<=_))
  simp (disch:=first|assumption|omega) only[go_sem,seval,hM1,hg1,h2.wf']
  exact hK _ ⟨v2,k2,Ev.pre hC1 e2⟩
 rw[if_neg h0] at hK
 by_cases h1:cd=1
 ·rw[if_pos h1] at hK
  subst h1
  have h2:=nd k1 hn hsz s
  simp (disch:=first|assumption|omega) only[go_sem,seval,hM1,hg1,h2.wf']
  exact hK _ ⟨vs,k1,Ev.grow hC1⟩
 rw[if_neg h1] at hK
 by_cases h2:cd=2
 ·rw[if_pos h2] at hK
  subst h2
  match ks,ih,hS,hlen,hk,hK with
  | [],_,_,hlen,_,hK=>
   simp (disch:=first|assumption|omega) only[go_sem,seval,hM1,hg1,hlen]
   exact hK _ ⟨vs,k1,Ev.grow hC1⟩
  | [_],_,_,hlen,_,hK=>
   simp (disch:=first|assumption|omega) only[go_sem,seval,hM1,hg1,hlen]
   exact hK _ ⟨vs,k1,Ev.grow hC1⟩
  |a::b::l,ih,hS,hlen,hk,hK=>
   rw[jd,jd] at hk
   rw[Nb] at hK
   have hlr:(((a::b::l).length:Nat):Int)=l.length+2:=by simp;omega
   rw[hlr] at hlen
   obtain ⟨ua,ida,offa,wa,ca,hRa,a1,a2,a3,a4,a5⟩:=G1 hS 0 (by simp)
   obtain ⟨ub,idb,offb,wb,cb,hRb,b1,b2,b3,b4,b5⟩:=G1 hS 1 (by simp)
   have a1':jw 5 vk (.int .i64 (.lit 0))= .val (.ptr ida offa):=a1
   have b1':jw 5 vk (.int .i64 (.lit 1))= .val (.ptr idb offb):=b1
   dsimp only[List.getElem_cons_zero,List.getElem_cons_succ] at hRa hRb a5 b5
   obtain ⟨m2,r2,v2,k2,e2⟩:=ih a (by simp) hRa hn hsz k1 (k:=k+1+b.sz) (hk.weak (by omega))
   have ok2:=cr a (ns:=ns) (X:=X) (k:=k+1+b.sz) (hk.weak (by omega))
   have hg2:=(e2.get ho1 nr1 ns1).trans hg1
   have ho2:=e2.c.old ho1
   have ns2:=e2.nin ho1 ns1
   obtain ⟨m3,r3,v3,k3,e3⟩:=ih b (by simp) hRb hn hsz k2 (k:=k+1) (ok2.weak (by omega))
   have ok3:=cr b (ns:=ns) (X:=(a.lw ns X).2) (k:=k+1) (ok2.weak (by omega))
   have hg3:=(e3.get ho2 nr1 ns2).trans hg2
   have a2':=(k1.c.get a3 (by simp)).trans a2
   have b2':=(k2.c.get b3 (by simp)).trans b2
   have b2'':=(k3.c.get b3 (by simp)).trans b2
   obtain ⟨m4,r4,v4,k4,e4⟩:=yv k3 (o:Int) (a.lw ns X).1 (b.lw ns (a.lw ns X).2).1 (k:=k) ok3
   have hvk:=hS.sl.same (n:=3)
   have sb:=mO hRb
   have e0:(0:Int)<=l.length+2:=by omega
   simp (disch:=first|assumption|omega) only[go_sem,seval,hM1,hg1,hlen,a1',a2',a5,r2.wf',hg2,b1',b2',b5,r3.wf',hg3,b2'',hvk,sb,r4.wf']
   exact hK _ ⟨v4,k4,(Ev.pre hC1 e2).trans (e3.trans e4)⟩
 ·rw[if_neg h2] at hK
  simp (disch:=first|assumption|omega) only[go_sem,seval,hM1,hg1]
  exact hK _ ⟨vs,k1,Ev.grow hC1⟩
theorem fU {ns:List (List Nat)}:∀x:Ex,OP 144 ns x:=by
 apply Ex.ind
 intro cd n o s ks ih B m T c r vc vn vs lo X k hR hn hsz h hk
 obtain ⟨vk,C,rfl,hS⟩:=hR.inv
 refine WF.ex1 fun K hK=> ?_
 refine WF.of_wpG (fun _=>rfl) uA (L:= [(.a .e,.agg [ii cd,u64 n,u8 o,.str s,vk]),(.e,.ptr r 0)]) rfl ?_
 unfold El
 generalize hM1:hp [(.n 0,.cells true [ii cd,u64 n,u8 o,.str s,vk])] 1 m=M1
 have hC1:Chg [] m M1:=by rw[←hM1];exact ao rfl
 have hg1:M1.get (na m 0)=some (.cells true [ii cd,u64 n,u8 o,.str s,vk]):=by rw[←hM1];exact av
 have ho1:ay M1 (na m 0):=by rw[←hM1];exact ab (by omega)
 have k1:=h.grow hC1
 obtain ⟨nr1,ns1⟩:=h.new 0
 rw[Ex.lw] at hK
 have hlen:=hS.sl.len
 rw[hS.len] at hlen
 rw[Ex.sz] at hk
 by_cases h0:cd=0
 ·rw[if_pos h0] at hK
  subst h0
  obtain ⟨m2,h2,v2,k2,e2⟩:=nh k1 n (hk.weak (by omega:0+1<=_))
  simp (disch:=first|assumption|omega) only[go_sem,seval,hM1,hg1,h2.wf']
  exact hK _ ⟨v2,k2,Ev.pre hC1 e2⟩
 rw[if_neg h0] at hK
 by_cases h1:cd=1
 ·rw[if_pos h1] at hK
  subst h1
  have h2:=mQ k1 hn hsz s
  simp (disch:=first|assumption|omega) only[go_sem,seval,hM1,hg1,h2.wf']
  exact hK _ ⟨vs,k1,Ev.grow hC1⟩
 rw[if_neg h1] at hK
 by_cases h2:cd=2
 ·rw[if_pos h2] at hK
  subst h2
  match ks,ih,hS,hlen,hk,hK with
  | [],_,_,hlen,_,hK=>
   simp (disch:=first|assumption|omega) only[go_sem,seval,hM1,hg1,hlen]
   exact hK _ ⟨vs,k1,Ev.grow hC1⟩
  | [_],_,_,hlen,_,hK=>
   simp (disch:=first|assumption|omega) only[go_sem,seval,hM1,hg1,hlen]
   exact hK _ ⟨vs,k1,Ev.grow hC1⟩
  |a::b::l,ih,hS,hlen,hk,hK=>
   rw[jd,jd] at hk
   rw[Nb] at hK
   have hlr:(((a::b::l).length:Nat):Int)=l.length+2:=by simp;omega
   rw[hlr] at hlen
   obtain ⟨ua,ida,offa,wa,ca,hRa,a1,a2,a3,a4,a5⟩:=G1 hS 0 (by simp)
   obtain ⟨ub,idb,offb,wb,cb,hRb,b1,b2,b3,b4,b5⟩:=G1 hS 1 (by simp)
   have a1':jw 5 vk (.int .i64 (.lit 0))= .val (.ptr ida offa):=a1
   have b1':jw 5 vk (.int .i64 (.lit 1))= .val (.ptr idb offb):=b1
   dsimp only[List.getElem_cons_zero,List.getElem_cons_succ] at hRa hRb a5 b5
   obtain ⟨m2,r2,v2,k2,e2⟩:=ih a (by simp) hRa hn hsz k1 (k:=k+1+b.sz) (hk.weak (by omega))
   have ok2:=cr a (ns:=ns) (X:=X) (k:=k+1+b.sz) (hk.weak (by omega))
   have hg2:=(e2.get ho1 nr1 ns1).trans hg1
   have ho2:=e2.c.old ho1
   have ns2:=e2.nin ho1 ns1
   obtain ⟨m3,r3,v3,k3,e3⟩:=ih b (by simp) hRb hn hsz k2 (k:=k+1) (ok2.weak (by omega))
   have ok3:=cr b (ns:=ns) (X:=(a.lw ns X).2) (k:=k+1) (ok2.weak (by omega))
   have hg3:=(e3.get ho2 nr1 ns2).trans hg2
   have a2':=(k1.c.get a3 (by simp)).trans a2
   have b2':=(k2.c.get b3 (by simp)).trans b2
   have b2'':=(k3.c.get b3 (by simp)).trans b2
   obtain ⟨m4,r4,v4,k4,e4⟩:=zH k3 (o:Int) (a.lw ns X).1 (b.lw ns (a.lw ns X).2).1 (k:=k) ok3
   have hvk:=hS.sl.same (n:=3)
   have sb:=mO hRb
   have e0:(0:Int)<=l.length+2:=by omega
   simp (disch:=first|assumption|omega) only[go_sem,seval,hM1,hg1,hlen,a1',a2',a5,r2.wf',hg2,b1',b2',b5,r3.wf',hg3,b2'',hvk,sb,r4.wf']
   exact hK _ ⟨v4,k4,(Ev.pre hC1 e2).trans (e3.trans e4)⟩
 ·rw[if_neg h2] at hK
  simp (disch:=first|assumption|omega) only[go_sem,seval,hM1,hg1]
  exact hK _ ⟨vs,k1,Ev.grow hC1⟩
end FR
open Go Nm Go.Proofs
namespace FR
set_option linter.unusedSimpArgs false
set_option linter.unusedVariables false
def nH (cs:List (List Nat×Int)) (z:Int):Int:=if 0<=z then ((cs[z.toNat]?).map (·.2)).getD 1 else 1
def HG (i mk ba:Int) (X:Ms):Int×Ms:=
 let X2:=bx mk X
 let X3:=pp 38 i X.v X2
 let X4:=bx 8 X3
 let X5:=pp 42 X2.v X3.v X4
 let X6:=bx ba X5
 (X6.v,pp 43 X4.v X5.v X6)
def a7 (cs:List (List Nat×Int)) (ns:List (List Nat)) (s:Stm) (X:Ms):Int×Ms:=
 HG (s.i.lw ns X).1 ((nH cs (bW (cs.map (·.1)) s.ce) - 1) % 18446744073709551616) (HF cs (bW (cs.map (·.1)) s.ce) % 18446744073709551616) (s.i.lw ns X).2
def eE (cs:List (List Nat×Int)) (s:Stm):Int:=max 0 (bW (cs.map (·.1)) s.ce)
theorem FS {i sz a:Int} {X:Ms} {k:Nat} (h:X.ok (k+6)):(HG i sz a X).2.ok k:=
 my (dl (my (dl (my (dl h _) _ _ _) _) _ _ _) _) _ _ _
theorem fB {cs:List (List Nat×Int)} {ns:List (List Nat)} {s:Stm} {X:Ms} {k:Nat} (h:X.ok (k+6+s.i.sz)):(a7 cs ns s X).2.ok k:=FS (cr _ h)
theorem rb (z:Int):Gl .u64 (.int .i64 (.lit z))= .val (iu (z % 18446744073709551616)):=Cl
theorem EV {B m:NH} {T:D4->Prop} {s:Stm} {w:SV} {r:D4} {vc vn vs:NV} {lo:Int} {X:Ms} {k:Nat} {cs:List (List Nat×Int)} {ns:List (List Nat)} (hR:RE B T s.i (s.i.l w.vi)) (hc:Sl B vc 2 (lm cs)) (hcz:cs.length<=1000000) (hn:Sl B vn 1 (bw ns)) (hsz:ns.length<=1000000) (h:MK B m r vc vn lo vs X) (hk:X.ok (k+6+s.i.sz)) (hzb:∀(n:Nat) (z:Int) {h:n<cs.length},cs[n].2=z->-9223372036854775808<=z - 1/\z - 1<9223372036854775808):
 ∃m',bm Try.prog S0 142 [.ptr r 0,.agg (s.l w)] m (.tup [ii (a7 cs ns s X).1,ii (eE cs s)]) m'/\∃vs',MK B m' r vc vn lo vs' (a7 cs ns s X).2/\Ev r vs vs' m m':=by
 refine WF.ex1 fun K hK=> ?_
 refine WF.of_wpG (fun _=>rfl) s8 (L:= [(.a .e,.agg (s.l w)),(.e,.ptr r 0)]) rfl ?_
 unfold Fb
 generalize hM1:hp [(.n 0,.cells true (s.l w))] 1 m=M1
 have hC1:Chg [] m M1:=by rw[←hM1];exact ao rfl
 have hg1:M1.get (na m 0)=some (.cells true (s.l w)):=by rw[←hM1];exact av
 have ho1:ay M1 (na m 0):=by rw[←hM1];exact ab (by omega)
 have k1:=h.grow hC1
 obtain ⟨nr1,ns1⟩:=h.new 0
 obtain ⟨M2,hf,hC2⟩:∃M2,bm Try.prog S0 165 [vc,.str s.ce] M1 (ii (bW (cs.map (·.1)) s.ce)) M2/\Chg [] M1 M2:=J4 (hc.chg k1.c fun _ _=>by simp) hcz s.ce
 have hg2:=(hC2.get ho1 (by simp)).trans hg1
 have ho2:=hC2.old ho1
 have k2:=k1.grow hC2
 have g1:=k1.g
 have g2:=k2.g
 have hcs:=hc.same (n:=3)
 have hsl:(s.l w).length=21:=rfl
 have lt:=rE (l:=cs.map (·.1)) (x:=s.ce)
 rw[List.length_map] at lt
 unfold a7 eE at hK
 generalize bW (cs.map (·.1)) s.ce=ce at hf lt hK
 generalize hsize:nH cs ce=sz at hK
 generalize hmk:(sz - 1) % 18446744073709551616=mk at hK
 generalize hba:HF cs ce % 18446744073709551616=ba at hK
 obtain ⟨m3,r3,v3,k3,e3⟩:=fJ s.i hR hn hsz k2 (k:=k+6) hk
 have ok3:=cr s.i (ns:=ns) (X:=X) (k:=k+6) hk
 have hg3:=(e3.get ho2 nr1 ns1).trans hg2
 generalize hlw:s.i.lw ns X=q at r3 k3 ok3 hK
 obtain ⟨iv,X3⟩:=q
 dsimp only at r3 k3 ok3 hK
 obtain ⟨m4,r4,v4,k4,e4⟩:=mN k3 mk (k:=k+5) ok3
 have ok4:=dl ok3 mk
 obtain ⟨m5,r5,v5,k5,e5⟩:=yv k4 38 iv X3.v (k:=k+4) ok4
 have ok5:=my ok4 38 iv X3.v
 obtain ⟨m6,r6,v6,k6,e6⟩:=mN k5 8 (k:=k+3) ok5
 have ok6:=dl ok5 8
 obtain ⟨m7,r7,v7,k7,e7⟩:=yv k6 42 (bx mk X3).v (pp 38 iv X3.v (bx mk X3)).v (k:=k+2) ok6
 have ok7:=my ok6 42 (bx mk X3).v (pp 38 iv X3.v (bx mk X3)).v
 have g7:=k7.g
 obtain ⟨m8,r8,hC8⟩:=NS (hc.chg k7.c fun _ _=>by simp) hcz ce
 have k8:=k7.grow hC8
 have g8:=k8.g
 obtain ⟨m9,r9,v9,k9,e9⟩:=mN k8 ba (k:=k+1) ok7
 have ok9:=dl ok7 ba
 obtain ⟨m0,r0,v0,k0,e0⟩:=yv k9 43 (bx 8 (pp 38 iv X3.v (bx mk X3))).v (pp 42 (bx mk X3).v (pp 38 iv X3.v (bx mk X3)).v (bx 8 (pp 38 iv X3.v (bx mk X3)))).v (k:=k) ok9
 have hE:Ev r vs v0 m m0:=Ev.pre (hC1.trans hC2 (by simp)) (e3.trans (e4.trans (e5.trans (e6.trans (e7.trans (Ev.pre hC8 (e9.trans e0)))))))
 by_cases hce:ce<0
 ·have hs1:sz=1:=by rw[←hsize];unfold nH;rw[if_neg (by omega)]
  subst hs1
  obtain rfl:mk=0:=by rw[←hmk];rfl
  have hm:max 0 ce=0:=by omega
  rw[hm] at hK
  simp (disch:=first|assumption|omega) only[go_sem,seval,hM1,hg1,g1,hf.wf',hg2,g2,hcs,hsl,r3.wf',r4.wf',r5.wf',r6.wf',r7.wf',g7,r8.wf',r9.wf',r0.wf',rb,hm,hmk,hba]
  exact hK _ ⟨v0,k0,hE⟩
 ·obtain ⟨n,rfl⟩:=Int.eq_ofNat_of_zero_le (by omega:0<=ce)
  have hnl:n<cs.length:=by omega
  obtain ⟨id,off,wr,c,a1,a2,a3,a4,a5⟩:=hc.at n (by simpa using hnl)
  rw[List.getElem_map] at a5
  have c1:c[off+1]? =some (ii cs[n].2):=bg a5 1 (by omega)
  have hs1:cs[n].2=sz:=by rw[←hsize];unfold nH;rw[if_pos (by omega),Int.toNat_natCast,List.getElem?_eq_getElem hnl];rfl
  rw[hs1] at c1
  have a2':=(k2.c.get a3 (by simp)).trans a2
  have hm:max 0 (n:Int)=n:=by omega
  rw[hm] at hK
  obtain ⟨hz1,hz2⟩:-9223372036854775808<=sz - 1/\sz - 1<9223372036854775808:=hzb _ _ hs1
  simp (disch:=first|assumption|omega) only[go_sem,seval,hM1,hg1,g1,hf.wf',hg2,g2,hcs,hsl,a1,a2',c1,hg3,r3.wf',r4.wf',r5.wf',r6.wf',r7.wf',g7,r8.wf',r9.wf',r0.wf',rb,hm,hmk,hba]
  exact hK _ ⟨v0,k0,hE⟩
theorem n8 {B m:NH} {T:D4->Prop} {s:Stm} {w:SV} {r:D4} {vc vn vs:NV} {lo:Int} {X:Ms} {k:Nat} {cs:List (List Nat×Int)} {ns:List (List Nat)} (hR:RE B T s.i (s.i.l w.vi)) (hc:Sl B vc 2 (lm cs)) (hcz:cs.length<=1000000) (hn:Sl B vn 1 (bw ns)) (hsz:ns.length<=1000000) (h:MK B m r vc vn lo vs X) (hk:X.ok (k+6+s.i.sz)) (hzb:∀(n:Nat) (z:Int) {h:n<cs.length},cs[n].2=z->-9223372036854775808<=z - 1/\z - 1<9223372036854775808):
 ∃m',bm Try.prog S0 146 [.ptr r 0,.agg (s.l w)] m (.tup [ii (a7 cs ns s X).1,ii (eE cs s)]) m'/\∃vs',MK B m' r vc vn lo vs' (a7 cs ns s X).2/\Ev r vs vs' m m':=by
 refine WF.ex1 fun K hK=> ?_
 refine WF.of_wpG (fun _=>rfl) tq (L:= [(.a .e,.agg (s.l w)),(.e,.ptr r 0)]) rfl ?_
 unfold Dn
 generalize hM1:hp [(.n 0,.cells true (s.l w))] 1 m=M1
 have hC1:Chg [] m M1:=by rw[←hM1];exact ao rfl
 have hg1:M1.get (na m 0)=some (.cells true (s.l w)):=by rw[←hM1];exact av
 have ho1:ay M1 (na m 0):=by rw[←hM1];exact ab (by omega)
 have k1:=h.grow hC1
 obtain ⟨nr1,ns1⟩:=h.new 0
 obtain ⟨M2,hf,hC2⟩:∃M2,bm Try.prog S0 50 [vc,.str s.ce] M1 (ii (bW (cs.map (·.1)) s.ce)) M2/\Chg [] M1 M2:=⟨M1,rL (hc.chg k1.c fun _ _=>by simp) hcz s.ce,Chg.refl M1⟩
 have hg2:=(hC2.get ho1 (by simp)).trans hg1
 have ho2:=hC2.old ho1
 have k2:=k1.grow hC2
 have g1:=k1.g
 have g2:=k2.g
 have hcs:=hc.same (n:=3)
 have hsl:(s.l w).length=21:=rfl
 have lt:=rE (l:=cs.map (·.1)) (x:=s.ce)
 rw[List.length_map] at lt
 unfold a7 eE at hK
 generalize bW (cs.map (·.1)) s.ce=ce at hf lt hK
 generalize hsize:nH cs ce=sz at hK
 generalize hmk:(sz - 1) % 18446744073709551616=mk at hK
 generalize hba:HF cs ce % 18446744073709551616=ba at hK
 obtain ⟨m3,r3,v3,k3,e3⟩:=fU s.i hR hn hsz k2 (k:=k+6) hk
 have ok3:=cr s.i (ns:=ns) (X:=X) (k:=k+6) hk
 have hg3:=(e3.get ho2 nr1 ns1).trans hg2
 generalize hlw:s.i.lw ns X=q at r3 k3 ok3 hK
 obtain ⟨iv,X3⟩:=q
 dsimp only at r3 k3 ok3 hK
 obtain ⟨m4,r4,v4,k4,e4⟩:=nh k3 mk (k:=k+5) ok3
 have ok4:=dl ok3 mk
 obtain ⟨m5,r5,v5,k5,e5⟩:=zH k4 38 iv X3.v (k:=k+4) ok4
 have ok5:=my ok4 38 iv X3.v
 obtain ⟨m6,r6,v6,k6,e6⟩:=nh k5 8 (k:=k+3) ok5
 have ok6:=dl ok5 8
 obtain ⟨m7,r7,v7,k7,e7⟩:=zH k6 42 (bx mk X3).v (pp 38 iv X3.v (bx mk X3)).v (k:=k+2) ok6
 have ok7:=my ok6 42 (bx mk X3).v (pp 38 iv X3.v (bx mk X3)).v
 have g7:=k7.g
 obtain ⟨m8,r8,hC8⟩:=Ok (hc.chg k7.c fun _ _=>by simp) hcz ce
 have k8:=k7.grow hC8
 have g8:=k8.g
 obtain ⟨m9,r9,v9,k9,e9⟩:=nh k8 ba (k:=k+1) ok7
 have ok9:=dl ok7 ba
 obtain ⟨m0,r0,v0,k0,e0⟩:=zH k9 43 (bx 8 (pp 38 iv X3.v (bx mk X3))).v (pp 42 (bx mk X3).v (pp 38 iv X3.v (bx mk X3)).v (bx 8 (pp 38 iv X3.v (bx mk X3)))).v (k:=k) ok9
 have hE:Ev r vs v0 m m0:=Ev.pre (hC1.trans hC2 (by simp)) (e3.trans (e4.trans (e5.trans (e6.trans (e7.trans (Ev.pre hC8 (e9.trans e0)))))))
 by_cases hce:ce<0
 ·have hs1:sz=1:=by rw[←hsize];unfold nH;rw[if_neg (by omega)]
  subst hs1
  obtain rfl:mk=0:=by rw[←hmk];rfl
  have hm:max 0 ce=0:=by omega
  rw[hm] at hK
  simp (disch:=first|assumption|omega) only[go_sem,seval,hM1,hg1,g1,hf.wf',hg2,g2,hcs,hsl,r3.wf',r4.wf',r5.wf',r6.wf',r7.wf',g7,r8.wf',r9.wf',r0.wf',rb,hm,hmk,hba]
  exact hK _ ⟨v0,k0,hE⟩
 ·obtain ⟨n,rfl⟩:=Int.eq_ofNat_of_zero_le (by omega:0<=ce)
  have hnl:n<cs.length:=by omega
  obtain ⟨id,off,wr,c,a1,a2,a3,a4,a5⟩:=hc.at n (by simpa using hnl)
  rw[List.getElem_map] at a5
  have c1:c[off+1]? =some (ii cs[n].2):=bg a5 1 (by omega)
  have hs1:cs[n].2=sz:=by rw[←hsize];unfold nH;rw[if_pos (by omega),Int.toNat_natCast,List.getElem?_eq_getElem hnl];rfl
  rw[hs1] at c1
  have a2':=(k2.c.get a3 (by simp)).trans a2
  have hm:max 0 (n:Int)=n:=by omega
  rw[hm] at hK
  obtain ⟨hz1,hz2⟩:-9223372036854775808<=sz - 1/\sz - 1<9223372036854775808:=hzb _ _ hs1
  simp (disch:=first|assumption|omega) only[go_sem,seval,hM1,hg1,g1,hf.wf',hg2,g2,hcs,hsl,a1,a2',c1,hg3,r3.wf',r4.wf',r5.wf',r6.wf',r7.wf',g7,r8.wf',r9.wf',r0.wf',rb,hm,hmk,hba]
  exact hK _ ⟨v0,k0,hE⟩
end FR
open Go Nm Go.Proofs
namespace FR
set_option linter.unusedSimpArgs false
set_option linter.unusedVariables false
def cX (n:Int) (X:Ms):Ms:=⟨X.st,X.v,X.lb+n⟩
def aJ (k a t:Int):Sp:=⟨k,0,a,0,0,t,0,0,0⟩
mutual
def Stm.lw (cs:List (List Nat×Int)) (ns:List (List Nat)):Stm->Ms->Ms
 | .mk k a nm ce i x y b e,X=>
  if k=0 then bv ⟨1,eV ns nm,(x.lw ns X).1,0,0,0,0,0,0⟩ (x.lw ns X).2
  else if k=1 then bv ⟨3,eV ns nm,(a7 cs ns (.mk k a nm ce i x y b e) X).1,0,0,0,eE cs (.mk k a nm ce i x y b e),0,0⟩ (a7 cs ns (.mk k a nm ce i x y b e) X).2
  else if k=2 then bv ⟨4,0,(a7 cs ns (.mk k a nm ce i x y b e) X).1,(x.lw ns (a7 cs ns (.mk k a nm ce i x y b e) X).2).1,0,0,eE cs (.mk k a nm ce i x y b e),0,0⟩ (x.lw ns (a7 cs ns (.mk k a nm ce i x y b e) X).2).2
  else if k=3 then bv ⟨5,eV ns nm,(a7 cs ns (.mk k a nm ce i x y b e) X).1,(x.lw ns (a7 cs ns (.mk k a nm ce i x y b e) X).2).1,(y.lw ns (x.lw ns (a7 cs ns (.mk k a nm ce i x y b e) X).2).2).1,0,eE cs (.mk k a nm ce i x y b e),0,0⟩ (y.lw ns (x.lw ns (a7 cs ns (.mk k a nm ce i x y b e) X).2).2).2
  else if k=4 then bv (aJ 13 0 0) X
  else if k=5 then bv (aJ 8 (x.lw ns X).1 0) (x.lw ns X).2
  else if k=6 then bv (aJ 9 0 (X.lb+1)) (jQ cs ns e (bv (aJ 9 0 X.lb) (bv (aJ 10 0 (X.lb+1)) (jQ cs ns b (bv (aJ 11 (x.lw ns (cX 2 X)).1 X.lb) (x.lw ns (cX 2 X)).2)))))
  else if k=7 then bv (aJ 9 0 (X.lb+1)) (bv (aJ 10 0 X.lb) (jQ cs ns b (bv (aJ 11 (x.lw ns (bv (aJ 9 0 X.lb) (cX 2 X))).1 (X.lb+1)) (x.lw ns (bv (aJ 9 0 X.lb) (cX 2 X))).2)))
  else X
def jQ (cs:List (List Nat×Int)) (ns:List (List Nat)):List Stm->Ms->Ms
 | [],X=>X
 |s::l,X=>jQ cs ns l (s.lw cs ns X)
end
theorem jX {X:Ms} {k:Nat} (h:X.ok (k+2)):(cX 2 X).ok k:=⟨by have:=h.s;simp only[cX];omega,h.v0,by have:=h.v;simp only[cX];omega,by have:=h.l0;simp only[cX];omega,by have:=h.l;simp only[cX];omega⟩
section
variable {cs:List (List Nat×Int)} {ns:List (List Nat)}
theorem lV {l:List Stm} (h:∀s∈l,∀{X:Ms} {k:Nat},X.ok (k+16*s.sz)->(s.lw cs ns X).ok k):∀{X:Ms} {k:Nat},X.ok (k+16*bA l)->(jQ cs ns l X).ok k:=by
 induction l with
 |nil=>intro X k q;rw[jQ];exact q.weak (by omega)
 |cons s l ih=>
  intro X k q
  rw[bA] at q
  rw[jQ]
  exact ih (fun y hy=>h y (List.mem_cons_of_mem _ hy)) (h s (List.mem_cons_self ..) (q.weak (by omega)))
theorem w7:∀(s:Stm) {X:Ms} {k:Nat},X.ok (k+16*s.sz)->(s.lw cs ns X).ok k:=by
 apply Stm.ind (P:=fun s=>∀{X:Ms} {k:Nat},X.ok (k+16*s.sz)->(s.lw cs ns X).ok k)
 intro k a nm ce i x y b e hb he X q h
 rw[Stm.sz] at h
 rw[Stm.lw]
 have hB:∀{X:Ms} {k:Nat},X.ok (k+16*bA b)->(jQ cs ns b X).ok k:=lV hb
 have hE:∀{X:Ms} {k:Nat},X.ok (k+16*bA e)->(jQ cs ns e X).ok k:=lV he
 split
 ·exact bL (cr x (h.weak (by omega))) _
 split
 ·exact bL (fB (h.weak (by simp only[Stm.i];omega))) _
 split
 ·exact bL (cr x (fB (h.weak (by simp only[Stm.i];omega)))) _
 split
 ·exact bL (cr y (cr x (fB (h.weak (by simp only[Stm.i];omega))))) _
 split
 ·exact bL (h.weak (by omega)) _
 split
 ·exact bL (cr x (h.weak (by omega))) _
 split
 ·exact bL (hE (bL (bL (hB (bL (cr x (jX (h.weak (by omega)))) _)) _) _)) _
 split
 ·exact bL (bL (hB (bL (cr x (bL (jX (h.weak (by omega))) _)) _)) _) _
 ·exact h.weak (by omega)
theorem gO {l:List Stm} {X:Ms} {k:Nat} (h:X.ok (k+16*bA l)):(jQ cs ns l X).ok k:=lV (fun s _=>w7 s) h
end
structure Cx (B:NH) (vc vn:NV) (cs:List (List Nat×Int)) (ns:List (List Nat)):Prop where
 c:Sl B vc 2 (lm cs)
 cl:cs.length<=1000000
 z:∀(n:Nat) (z:Int) {h:n<cs.length},cs[n].2=z->-9223372036854775808<=z - 1/\z - 1<9223372036854775808
 n:Sl B vn 1 (bw ns)
 nl:ns.length<=1000000
structure Kp (m:NH) (r:D4) (vs:NV) (t:D4) (c:List NV):Prop where
 g:m.get t=some (.cells true c)
 o:ay m t
 nr:t≠r
 ns:t∉ids vs
theorem Kp.next {m m':NH} {r t:D4} {vs vs':NV} {c:List NV} (h:Kp m r vs t c) (e:Ev r vs vs' m m'):Kp m' r vs' t c:=⟨(e.get h.o h.nr h.ns).trans h.g,e.c.old h.o,h.nr,e.nin h.o h.ns⟩
theorem Kp.grow {m m':NH} {r t:D4} {vs:NV} {c:List NV} (h:Kp m r vs t c) (e:Chg [] m m'):Kp m' r vs t c:=⟨(e.get h.o (by simp)).trans h.g,e.old h.o,h.nr,h.ns⟩
theorem MK.off {B m m':NH} {r:D4} {vc vn vs:NV} {lo:Int} {X:Ms} {S:List D4} (h:MK B m r vc vn lo vs X) (hC:Chg S m m') (hS:∀i∈S,i≠r/\i∉ids vs/\¬ay B i):MK B m' r vc vn lo vs X:=
 ⟨(hC.get h.o fun q=>(hS _ q).1 rfl).trans h.g,hC.old h.o,h.nB,h.s.chg hC fun i hi q=>(hS i q).2.1 hi,h.n,h.c.trans hC fun i hi ho=>absurd ho (hS i hi).2.2⟩
theorem Ev.off {m m' m'':NH} {r:D4} {vs vs':NV} {S:List D4} (h:Ev r vs vs' m m') (hC:Chg S m' m'') (hS:∀i∈S,¬ay m i):Ev r vs vs' m m'':=⟨h.c.trans hC fun i hi ho=>absurd ho (hS i hi),h.f⟩
def ur (f:Nat) (cs:List (List Nat×Int)) (ns:List (List Nat)) (l:List Stm):Prop:=∀{B m:NH} {T:D4->Prop} {v vc vn vs:NV} {C:List (List NV)} {r:D4} {lo:Int} {X:Ms} {k:Nat},SS B T v l C->Cx B vc vn cs ns->MK B m r vc vn lo vs X->X.ok (k+16*bA l)->
 ∃m',bm Try.prog S0 f [.ptr r 0,v] m (.tup []) m'/\∃vs',MK B m' r vc vn lo vs' (jQ cs ns l X)/\Ev r vs vs' m m'
def MY (f:Nat) (cs:List (List Nat×Int)) (ns:List (List Nat)) (s:Stm):Prop:=∀{B m:NH} {T:D4->Prop} {w:SV} {vc vn vs:NV} {r:D4} {lo:Int} {X:Ms} {k:Nat},SP B T s w->Cx B vc vn cs ns->MK B m r vc vn lo vs X->X.ok (k+16*s.sz)->
 ∃m',bm Try.prog S0 f [.ptr r 0,.agg (s.l w)] m (.tup []) m'/\∃vs',MK B m' r vc vn lo vs' (s.lw cs ns X)/\Ev r vs vs' m m'
section
variable {cs:List (List Nat×Int)} {ns:List (List Nat)}
theorem sV {B m:NH} {r:D4} {vc vn vs:NV} {lo:Int} {X:Ms} (h:MK B m r vc vn lo vs X) {k:Nat} (hk:X.ok (k+2)):∃m',bm Try.prog S0 143 [.ptr r 0] m (.tup [ii X.lb,ii (X.lb+1)]) m'/\∃vs',MK B m' r vc vn lo vs' (cX 2 X)/\Ev r vs vs' m m':=by
 refine WF.ex1 fun K hK=> ?_
 refine WF.of_wpG (fun _=>rfl) tc (L:= [(.e,.ptr r 0)]) rfl ?_
 unfold Fc
 have hg:=h.g
 have ho:=h.o
 have hl:=hk.l
 have hl0:=hk.l0
 have e1:X.lb+2 - 2=X.lb:=by omega
 have e2:X.lb+2 - 1=X.lb+1:=by omega
 simp (config:={maxSteps:=1000000}) (disch:=first|assumption|omega|exact ab (by omega)|exact aa (by assumption)|(simp only[ap]<;>omega)) only[go_sem,seval,hg,e1,e2]
 generalize hM3:hp _ 0 m=M3
 have hC3:Chg [r] m M3:=by rw[←hM3];exact ao rfl
 refine hK _ ⟨vs,⟨?_,hC3.old ho,h.nB,h.s.chg hC3 fun i hi q=>h.n (by simp at q;exact q▸hi),h.n, ?_⟩,⟨hC3.weak (by simp),fun j hj=>Or.inl hj⟩⟩
 ·rw[←hM3];exact (aO ho).trans az
 ·refine h.c.trans hC3 fun i hi q=> ?_
  simp only[List.mem_cons,List.not_mem_nil,or_false] at hi;subst hi;exact absurd q h.nB
theorem ng {B m:NH} {r:D4} {vc vn vs:NV} {lo:Int} {X:Ms} (h:MK B m r vc vn lo vs X) {k:Nat} (hk:X.ok (k+1)):∃m',bm Try.prog S0 147 [.ptr r 0] m (ii X.lb) m'/\∃vs',MK B m' r vc vn lo vs' (cX 1 X)/\Ev r vs vs' m m':=by
 refine WF.ex1 fun K hK=> ?_
 refine WF.of_wpG (fun _=>rfl) tg (L:= [(.e,.ptr r 0)]) rfl ?_
 unfold Et
 have hg:=h.g
 have ho:=h.o
 have hl:=hk.l
 have hl0:=hk.l0
 have e1:X.lb+1 - 1=X.lb:=by omega
 simp (config:={maxSteps:=1000000}) (disch:=first|assumption|omega|exact ab (by omega)|exact aa (by assumption)|(simp only[ap]<;>omega)) only[go_sem,seval,hg,e1]
 generalize hM3:hp _ 0 m=M3
 have hC3:Chg [r] m M3:=by rw[←hM3];exact ao rfl
 refine hK _ ⟨vs,⟨?_,hC3.old ho,h.nB,h.s.chg hC3 fun i hi q=>h.n (by simp at q;exact q▸hi),h.n, ?_⟩,⟨hC3.weak (by simp),fun j hj=>Or.inl hj⟩⟩
 ·rw[←hM3];exact (aO ho).trans az
 ·refine h.c.trans hC3 fun i hi q=> ?_
  simp only[List.mem_cons,List.not_mem_nil,or_false] at hi;subst hi;exact absurd q h.nB
theorem E7 {s:Stm} (h123:s.k=1∨s.k=2∨s.k=3):MY 103 cs ns s:=by
 intro B m T w vc vn vs r lo X k hS hx h hk
 refine WF.ex1 fun K hK=> ?_
 refine WF.of_wpG (fun _=>rfl) sK (L:= [(.a .e,.agg (s.l w)),(.e,.ptr r 0)]) rfl ?_
 unfold CK
 generalize hM1:hp [(.n 0,.cells true (s.l w))] 1 m=M1
 have hC1:Chg [] m M1:=by rw[←hM1];exact ao rfl
 have p1:Kp M1 r vs (na m 0) (s.l w):=⟨by rw[←hM1];exact av,by rw[←hM1];exact ab (by omega),(h.new 0).1,(h.new 0).2⟩
 have k1:=h.grow hC1
 have hsl:(s.l w).length=21:=rfl
 have hg1:=p1.g
 have hsz:s.sz=1+s.i.sz+s.x.sz+s.y.sz+bA s.b+bA s.e:=by cases s;rfl
 have hlw:s.lw cs ns X=(if s.k=1 then bv ⟨3,eV ns s.nm,(a7 cs ns s X).1,0,0,0,eE cs s,0,0⟩ (a7 cs ns s X).2
  else if s.k=2 then bv ⟨4,0,(a7 cs ns s X).1,(s.x.lw ns (a7 cs ns s X).2).1,0,0,eE cs s,0,0⟩ (s.x.lw ns (a7 cs ns s X).2).2
  else bv ⟨5,eV ns s.nm,(a7 cs ns s X).1,(s.x.lw ns (a7 cs ns s X).2).1,(s.y.lw ns (s.x.lw ns (a7 cs ns s X).2).2).1,0,eE cs s,0,0⟩ (s.y.lw ns (s.x.lw ns (a7 cs ns s X).2).2).2):=by
  obtain ⟨k,a,nm,ce,i,x,y,b,e⟩:=s
  simp only[Stm.k] at h123
  rw[Stm.lw,if_neg (by omega)]
  simp only[Stm.k,Stm.nm,Stm.x,Stm.y]
  by_cases h1:k=1
  ·rw[if_pos h1];exact (if_pos h1).symm
  ·rw[if_neg h1]
   by_cases h2:k=2
   ·rw[if_pos h2];exact ((if_neg h1).trans (if_pos h2)).symm
   ·rw[if_neg h2,if_pos (by omega)];exact ((if_neg h1).trans (if_neg h2)).symm
 rw[hlw] at hK
 have hS':RE B T s.i (s.i.l w.vi):=hS.i
 obtain ⟨m2,r2,v2,k2,e2⟩:=EV (w:=w) (s:=s) hS' hx.c hx.cl hx.n hx.nl k1 (k:=k+1+s.x.sz+s.y.sz) (hk.weak (by omega)) hx.z
 have ok2:=fB (cs:=cs) (ns:=ns) (s:=s) (X:=X) (k:=k+1+s.x.sz+s.y.sz) (hk.weak (by omega))
 have p2:=p1.next e2
 have hg2:=p2.g
 generalize a7 cs ns s X=q at r2 k2 ok2 hK
 generalize eE cs s=ce at r2 hK
 obtain ⟨pa,X2⟩:=q
 dsimp only at r2 k2 ok2 hK
 generalize hM3:hp [(.n 0,.cells true [ii 0,ii 0,ii pa,ii 0,ii 0,ii 0,ii ce,iu 0,ib 0]),(.n 0,.cells true [ii 0,ii 0,ii 0,ii 0,ii 0,ii 0,ii 0,iu 0,ib 0])] 1 m2=M3
 have hC3:Chg [] m2 M3:=by rw[←hM3];exact ao rfl
 have q3:Kp M3 r v2 (na m2 0) [ii 0,ii 0,ii pa,ii 0,ii 0,ii 0,ii ce,iu 0,ib 0]:=⟨by rw[←hM3];exact av,by rw[←hM3];exact ab (by omega),(k2.new 0).1,(k2.new 0).2⟩
 have k3:=k2.grow hC3
 have p3:=p2.grow hC3
 have hg3:=p3.g
 have e3:Ev r vs v2 m M3:=(Ev.pre hC1 e2).trans (Ev.grow hC3)
 have hq3:=q3.g
 have hqo:=q3.o
 have hoB:∀{i},ay B i->ay m2 i:=fun ho=>k2.c.old ho
 have hom:∀{i},ay m i->ay m2 i:=fun ho=>e2.c.old (hC1.old ho)
 rcases h123 with h1|h1|h1
 ·rw[if_pos h1] at hK
  have r4:=nd k3 hx.n hx.nl s.nm
  simp (config:={maxSteps:=1000000}) (disch:=first|assumption|omega|exact ab (by omega)|exact aa (by assumption)|(simp only[ap]<;>omega)) only[go_sem,seval,hM1,hg1,hsl,r2.wf,hg2,hM3,hg3,r4.wf,hq3]
  generalize hM4:hp _ 0 M3=M4
  have hC4:Chg [na m2 0] M3 M4:=by rw[←hM4];exact (iV _ _ _).weak (by simp[aR])
  have k4:=k3.off hC4 fun i hi=>by
   simp only[List.mem_cons,List.not_mem_nil,or_false] at hi;subst hi;exact ⟨q3.nr,q3.ns,fun ho=>aF (hoB ho)⟩
  obtain ⟨m5,r5,v5,k5,e5⟩:=eu k4 ⟨3,eV ns s.nm,pa,0,0,0,ce,0,0⟩ (by have:=ok2.s;omega)
  simp (config:={maxSteps:=1000000}) (disch:=first|assumption|omega|exact ab (by omega)|exact aa (by assumption)|(simp only[ap]<;>omega)) only[go_sem,seval,r5.wf']
  refine hK _ ⟨v5,k5,(e3.off hC4 fun i hi ho=> ?_).trans e5⟩
  simp only[List.mem_cons,List.not_mem_nil,or_false] at hi;subst hi;exact aF (hom ho)
 ·rw[if_neg (by omega),if_pos h1] at hK
  obtain ⟨m4,r4,v4,k4,e4⟩:=fJ s.x hS.x hx.n hx.nl k3 (k:=k+1+s.y.sz) (ok2.weak (by omega))
  have ok4:=cr s.x (ns:=ns) (X:=X2) (k:=k+1+s.y.sz) (ok2.weak (by omega))
  have q4:=q3.next e4
  have hq4:=q4.g
  have hqo4:=q4.o
  simp (config:={maxSteps:=1000000}) (disch:=first|assumption|omega|exact ab (by omega)|exact aa (by assumption)|(simp only[ap]<;>omega)) only[go_sem,seval,hM1,hg1,hsl,r2.wf,hg2,hM3,hg3,r4.wf,hq4]
  generalize hM4:hp _ 0 m4=M4
  have hC4:Chg [na m2 0] m4 M4:=by rw[←hM4];exact (iV _ _ _).weak (by simp[aR])
  have k5:=k4.off hC4 fun i hi=>by
   simp only[List.mem_cons,List.not_mem_nil,or_false] at hi;subst hi;exact ⟨q4.nr,q4.ns,fun ho=>aF (hoB ho)⟩
  obtain ⟨m6,r6,v6,k6,e6⟩:=eu k5 ⟨4,0,pa,(s.x.lw ns X2).1,0,0,ce,0,0⟩ (by have:=ok4.s;omega)
  simp (config:={maxSteps:=1000000}) (disch:=first|assumption|omega|exact ab (by omega)|exact aa (by assumption)|(simp only[ap]<;>omega)) only[go_sem,seval,r6.wf']
  refine hK _ ⟨v6,k6,((e3.trans e4).off hC4 fun i hi ho=> ?_).trans e6⟩
  simp only[List.mem_cons,List.not_mem_nil,or_false] at hi;subst hi;exact aF (hom ho)
 ·rw[if_neg (by omega),if_neg (by omega)] at hK
  have r3:=nd k3 hx.n hx.nl s.nm
  obtain ⟨m4,r4,v4,k4,e4⟩:=fJ s.x hS.x hx.n hx.nl k3 (k:=k+1+s.y.sz) (ok2.weak (by omega))
  have ok4:=cr s.x (ns:=ns) (X:=X2) (k:=k+1+s.y.sz) (ok2.weak (by omega))
  have q4:=q3.next e4
  have p4:=p3.next e4
  have hq4:=q4.g
  have hg4:=p4.g
  have hqo4:=q4.o
  have hsx:=mO hS.x
  have hpo4:=p4.o
  have hne:na m 0≠na m2 0:=p2.o.ne 0
  simp (config:={maxSteps:=1000000}) (disch:=first|assumption|omega|exact ab (by omega)|exact aa (by assumption)|(simp only[ap]<;>omega)) only[go_sem,seval,hM1,hg1,hsl,r2.wf,hg2,hM3,hg3,r3.wf',r4.wf,hq4,hg4,hsx]
  generalize hM4:hp _ 0 m4=M4
  have hC4:Chg [na m2 0] m4 M4:=by rw[←hM4];exact (iV _ _ _).weak (by simp[aR])
  have k5:=k4.off hC4 fun i hi=>by
   simp only[List.mem_cons,List.not_mem_nil,or_false] at hi;subst hi;exact ⟨q4.nr,q4.ns,fun ho=>aF (hoB ho)⟩
  have q5:Kp M4 r v4 (na m2 0) [ii 5,ii (eV ns s.nm),ii pa,ii (s.x.lw ns X2).1,ii 0,ii 0,ii ce,iu 0,ib 0]:=⟨by rw[←hM4];exact (aO q4.o).trans az,hC4.old q4.o,q4.nr,q4.ns⟩
  obtain ⟨m6,r6,v6,k6,e6⟩:=fJ s.y hS.y hx.n hx.nl k5 (k:=k+1) ok4
  have ok6:=cr s.y (ns:=ns) (X:=(s.x.lw ns X2).2) (k:=k+1) ok4
  have q6:=q5.next e6
  have hq6:=q6.g
  have hqo6:=q6.o
  simp (config:={maxSteps:=1000000}) (disch:=first|assumption|omega|exact ab (by omega)|exact aa (by assumption)|(simp only[ap]<;>omega)) only[go_sem,seval,r6.wf,hq6]
  generalize hM7:hp _ 0 m6=M7
  have hC7:Chg [na m2 0] m6 M7:=by rw[←hM7];exact (iV _ _ _).weak (by simp[aR])
  have k7:=k6.off hC7 fun i hi=>by
   simp only[List.mem_cons,List.not_mem_nil,or_false] at hi;subst hi;exact ⟨q6.nr,q6.ns,fun ho=>aF (hoB ho)⟩
  obtain ⟨m8,r8,v8,k8,e8⟩:=eu k7 ⟨5,eV ns s.nm,pa,(s.x.lw ns X2).1,(s.y.lw ns (s.x.lw ns X2).2).1,0,ce,0,0⟩ (by have:=ok6.s;omega)
  simp (config:={maxSteps:=1000000}) (disch:=first|assumption|omega|exact ab (by omega)|exact aa (by assumption)|(simp only[ap]<;>omega)) only[go_sem,seval,r8.wf']
  have hno:∀i∈ [na m2 0],¬ay m i:=fun i hi ho=>by
   simp only[List.mem_cons,List.not_mem_nil,or_false] at hi;subst hi;exact aF (hom ho)
  exact hK _ ⟨v8,k8,((((e3.trans e4).off hC4 hno).trans e6).off hC7 hno).trans e8⟩
end
end FR
open Go Nm Go.Proofs
namespace FR
set_option linter.unusedSimpArgs false
set_option linter.unusedVariables false
section
variable {cs:List (List Nat×Int)} {ns:List (List Nat)}
theorem qN (s:Stm):s.sz=1+s.i.sz+s.x.sz+s.y.sz+bA s.b+bA s.e:=by cases s;rfl
theorem O2 {s:Stm} (h:s.k=6) (X:Ms):s.lw cs ns X=bv (aJ 9 0 (X.lb+1)) (jQ cs ns s.e (bv (aJ 9 0 X.lb) (bv (aJ 10 0 (X.lb+1)) (jQ cs ns s.b (bv (aJ 11 (s.x.lw ns (cX 2 X)).1 X.lb) (s.x.lw ns (cX 2 X)).2))))):=by
 obtain ⟨k,a,nm,ce,i,x,y,b,e⟩:=s
 obtain rfl:k=6:=h
 rw[Stm.lw];rfl
theorem OM {s:Stm} (h:s.k=7) (X:Ms):s.lw cs ns X=bv (aJ 9 0 (X.lb+1)) (bv (aJ 10 0 X.lb) (jQ cs ns s.b (bv (aJ 11 (s.x.lw ns (bv (aJ 9 0 X.lb) (cX 2 X))).1 (X.lb+1)) (s.x.lw ns (bv (aJ 9 0 X.lb) (cX 2 X))).2))):=by
 obtain ⟨k,a,nm,ce,i,x,y,b,e⟩:=s
 obtain rfl:k=7:=h
 rw[Stm.lw];rfl
theorem O4 {s:Stm} (h:s.k=0) (X:Ms):s.lw cs ns X=bv ⟨1,eV ns s.nm,(s.x.lw ns X).1,0,0,0,0,0,0⟩ (s.x.lw ns X).2:=by
 obtain ⟨k,a,nm,ce,i,x,y,b,e⟩:=s
 obtain rfl:k=0:=h
 rw[Stm.lw];rfl
theorem OX {s:Stm} (h:s.k=4) (X:Ms):s.lw cs ns X=bv (aJ 13 0 0) X:=by
 obtain ⟨k,a,nm,ce,i,x,y,b,e⟩:=s
 obtain rfl:k=4:=h
 rw[Stm.lw];rfl
theorem OZ {s:Stm} (h:s.k=5) (X:Ms):s.lw cs ns X=bv (aJ 8 (s.x.lw ns X).1 0) (s.x.lw ns X).2:=by
 obtain ⟨k,a,nm,ce,i,x,y,b,e⟩:=s
 obtain rfl:k=5:=h
 rw[Stm.lw];rfl
theorem O6 {s:Stm} (h:s.k<0∨7<s.k) (X:Ms):s.lw cs ns X=X:=by
 obtain ⟨k,a,nm,ce,i,x,y,b,e⟩:=s
 simp only[Stm.k] at h
 rw[Stm.lw,if_neg (by omega),if_neg (by omega),if_neg (by omega),if_neg (by omega),if_neg (by omega),if_neg (by omega),if_neg (by omega),if_neg (by omega)]
theorem D6 {s:Stm} (h6:s.k=6) (hb:ur 57 cs ns s.b) (he:ur 57 cs ns s.e):MY 104 cs ns s:=by
 intro B m T w vc vn vs r lo X k hS hx h hk
 refine WF.ex1 fun K hK=> ?_
 refine WF.of_wpG (fun _=>rfl) sQ (L:= [(.a .e,.agg (s.l w)),(.e,.ptr r 0)]) rfl ?_
 unfold Cb
 generalize hM1:hp [(.n 0,.cells true (s.l w))] 1 m=M1
 have hC1:Chg [] m M1:=by rw[←hM1];exact ao rfl
 have p1:Kp M1 r vs (na m 0) (s.l w):=⟨by rw[←hM1];exact av,by rw[←hM1];exact ab (by omega),(h.new 0).1,(h.new 0).2⟩
 have k1:=h.grow hC1
 have hsl:(s.l w).length=21:=rfl
 rw[qN] at hk
 rw[O2 h6] at hK
 obtain ⟨m2,r2,v2,k2,e2⟩:=sV k1 (k:=k+14+s.x.sz+16*bA s.b+16*bA s.e) (hk.weak (by omega))
 have ok2:=jX (X:=X) (k:=k+14+s.x.sz+16*bA s.b+16*bA s.e) (hk.weak (by omega))
 have p2:=p1.next e2
 have g2:=p2.g
 obtain ⟨m3,r3,v3,k3,e3⟩:=fJ s.x hS.x hx.n hx.nl k2 (k:=k+14+16*bA s.b+16*bA s.e) (ok2.weak (by omega))
 have ok3:=cr s.x (ns:=ns) (X:=cX 2 X) (k:=k+14+16*bA s.b+16*bA s.e) (ok2.weak (by omega))
 have p3:=p2.next e3
 generalize s.x.lw ns (cX 2 X)=q at r3 k3 ok3 hK
 obtain ⟨xv,X3⟩:=q
 dsimp only at r3 k3 ok3 hK
 obtain ⟨m4,r4,v4,k4,e4⟩:=eu k3 (aJ 11 xv X.lb) (by have:=ok3.s;omega)
 have ok4:=bL (k:=k+13+16*bA s.b+16*bA s.e) (ok3.weak (by omega)) (aJ 11 xv X.lb)
 have p4:=p3.next e4
 have g4:=p4.g
 obtain ⟨CB,hSB⟩:=hS.b
 obtain ⟨CE,hSE⟩:=hS.e
 obtain ⟨m5,r5,v5,k5,e5⟩:=hb hSB hx k4 (k:=k+13+16*bA s.e) (ok4.weak (by omega))
 have ok5:=gO (cs:=cs) (ns:=ns) (l:=s.b) (k:=k+13+16*bA s.e) (ok4.weak (by omega))
 have p5:=p4.next e5
 generalize jQ cs ns s.b (bv (aJ 11 xv X.lb) X3)=X5 at k5 ok5 hK
 obtain ⟨m6,r6,v6,k6,e6⟩:=eu k5 (aJ 10 0 (X.lb+1)) (by have:=ok5.s;omega)
 have ok6:=bL (k:=k+12+16*bA s.e) (ok5.weak (by omega)) (aJ 10 0 (X.lb+1))
 have p6:=p5.next e6
 obtain ⟨m7,r7,v7,k7,e7⟩:=eu k6 (aJ 9 0 X.lb) (by have:=ok6.s;omega)
 have ok7:=bL (k:=k+11+16*bA s.e) (ok6.weak (by omega)) (aJ 9 0 X.lb)
 have p7:=p6.next e7
 have g7:=p7.g
 obtain ⟨m8,r8,v8,k8,e8⟩:=he hSE hx k7 (k:=k+11) (ok7.weak (by omega))
 have ok8:=gO (cs:=cs) (ns:=ns) (l:=s.e) (k:=k+11) (ok7.weak (by omega))
 generalize jQ cs ns s.e (bv (aJ 9 0 X.lb) (bv (aJ 10 0 (X.lb+1)) X5))=X8 at k8 ok8 hK
 obtain ⟨m9,r9,v9,k9,e9⟩:=eu k8 (aJ 9 0 (X.lb+1)) (by have:=ok8.s;omega)
 unfold aJ at r4 r6 r7 r9
 simp (config:={maxSteps:=1000000}) (disch:=first|assumption|omega|exact ab (by omega)|exact aa (by assumption)|(simp only[ap]<;>omega)) only[go_sem,seval,hM1,r2.wf',g2,hsl,r3.wf',r4.wf',g4,r5.wf',r6.wf',r7.wf',g7,r8.wf',r9.wf']
 exact hK _ ⟨v9,k9,Ev.pre hC1 (e2.trans (e3.trans (e4.trans (e5.trans (e6.trans (e7.trans (e8.trans e9)))))))⟩
theorem H9 {s:Stm} (h7:s.k=7) (hb:ur 57 cs ns s.b):MY 105 cs ns s:=by
 intro B m T w vc vn vs r lo X k hS hx h hk
 refine WF.ex1 fun K hK=> ?_
 refine WF.of_wpG (fun _=>rfl) uc (L:= [(.a .e,.agg (s.l w)),(.e,.ptr r 0)]) rfl ?_
 unfold EP
 generalize hM1:hp [(.n 0,.cells true (s.l w))] 1 m=M1
 have hC1:Chg [] m M1:=by rw[←hM1];exact ao rfl
 have p1:Kp M1 r vs (na m 0) (s.l w):=⟨by rw[←hM1];exact av,by rw[←hM1];exact ab (by omega),(h.new 0).1,(h.new 0).2⟩
 have k1:=h.grow hC1
 have hsl:(s.l w).length=21:=rfl
 rw[qN] at hk
 rw[OM h7] at hK
 obtain ⟨m2,r2,v2,k2,e2⟩:=sV k1 (k:=k+14+s.x.sz+16*bA s.b) (hk.weak (by omega))
 have ok2:=jX (X:=X) (k:=k+14+s.x.sz+16*bA s.b) (hk.weak (by omega))
 have p2:=p1.next e2
 obtain ⟨m3,r3,v3,k3,e3⟩:=eu k2 (aJ 9 0 X.lb) (by have:=ok2.s;omega)
 have ok3:=bL (k:=k+13+s.x.sz+16*bA s.b) (ok2.weak (by omega)) (aJ 9 0 X.lb)
 have p3:=p2.next e3
 have g3:=p3.g
 obtain ⟨m4,r4,v4,k4,e4⟩:=fJ s.x hS.x hx.n hx.nl k3 (k:=k+13+16*bA s.b) (ok3.weak (by omega))
 have ok4:=cr s.x (ns:=ns) (k:=k+13+16*bA s.b) (ok3.weak (by omega))
 have p4:=p3.next e4
 generalize s.x.lw ns (bv (aJ 9 0 X.lb) (cX 2 X))=q at r4 k4 ok4 hK
 obtain ⟨xv,X4⟩:=q
 dsimp only at r4 k4 ok4 hK
 obtain ⟨m5,r5,v5,k5,e5⟩:=eu k4 (aJ 11 xv (X.lb+1)) (by have:=ok4.s;omega)
 have ok5:=bL (k:=k+12+16*bA s.b) (ok4.weak (by omega)) (aJ 11 xv (X.lb+1))
 have p5:=p4.next e5
 have g5:=p5.g
 obtain ⟨CB,hSB⟩:=hS.b
 obtain ⟨m6,r6,v6,k6,e6⟩:=hb hSB hx k5 (k:=k+12) (ok5.weak (by omega))
 have ok6:=gO (cs:=cs) (ns:=ns) (l:=s.b) (k:=k+12) (ok5.weak (by omega))
 generalize jQ cs ns s.b (bv (aJ 11 xv (X.lb+1)) X4)=X6 at k6 ok6 hK
 obtain ⟨m7,r7,v7,k7,e7⟩:=eu k6 (aJ 10 0 X.lb) (by have:=ok6.s;omega)
 have ok7:=bL (k:=k+11) (ok6.weak (by omega)) (aJ 10 0 X.lb)
 obtain ⟨m8,r8,v8,k8,e8⟩:=eu k7 (aJ 9 0 (X.lb+1)) (by have:=ok7.s;omega)
 unfold aJ at r3 r5 r7 r8
 simp (config:={maxSteps:=1000000}) (disch:=first|assumption|omega|exact ab (by omega)|exact aa (by assumption)|(simp only[ap]<;>omega)) only[go_sem,seval,hM1,r2.wf',hsl,r3.wf',g3,r4.wf',r5.wf',g5,r6.wf',r7.wf',r8.wf']
 exact hK _ ⟨v8,k8,Ev.pre hC1 (e2.trans (e3.trans (e4.trans (e5.trans (e6.trans (e7.trans e8))))))⟩
theorem lI {l:List Stm} (ih:∀x∈l,ur 57 cs ns x.b/\ur 57 cs ns x.e):ur 57 cs ns l:=by
 intro B m T v vc vn vs C r lo X k hSS hx h hk
 refine WF.ex1 fun K hK=> ?_
 refine WF.of_wpG (fun _=>rfl) yF (L:= [(.a .e,v),(.e,.ptr r 0)]) rfl ?_
 unfold Jt
 have hlen:=(hSS.stays (io h.c T)).sl.len
 rw[hSS.len] at hlen
 have hll:=lg l
 have hls:=hk.s
 simp (config:={maxSteps:=1000000}) (disch:=first|assumption|omega|exact ab (by omega)|exact aa (by assumption)|(simp only[ap]<;>omega)) only[go_sem,seval,hlen,ag]
 refine W.loop (fun j d=>∃t M i vs' X',d=⟨t, [],none,M⟩/\NT.get D4.e t=some (.ptr r 0)/\NT.get D4.e.a.b t=some v/\NT.get D4.e.a.c t=some (ii l.length)/\NT.get D4.e.a.f t=some (ii (i:Nat))/\i+j=l.length/\MK B M r vc vn lo vs' X'/\Ev r vs vs' m M/\X'.ok (k+16*bA (l.drop i))/\jQ cs ns (l.drop i) X'=jQ cs ns l X) ?_ l.length _ ⟨_,m,0,vs,X,rfl,by simp only[go_sem,seval],by simp only[go_sem,seval],by simp only[go_sem,seval],by simp only[go_sem,seval]<;>rfl,by omega,h,Ev.grow (Chg.refl m),hk,rfl⟩
 rintro j d ⟨t,M,i,vs1,X1,rfl,g1,g2,g3,g4,hij,k1,e1,ok1,hL⟩
 apply aA
 unfold zR
 change wp _ _ _ _ ⟨an [] t, [],none,M⟩ _
 rw[←ag M]
 by_cases hi:i<l.length
 ·obtain ⟨w,hCi,hRi,hSi⟩:=z9 hSS i hi
  obtain ⟨id,off,wr,c,a1,a2,a3,a4,a5⟩:=rk hSS i hi hCi
  have a2':=(k1.c.get a3 (by simp)).trans a2
  rw[List.drop_eq_getElem_cons hi,bA] at ok1
  rw[List.drop_eq_getElem_cons hi,jQ] at hL
  have ihi:=ih _ (List.getElem_mem hi)
  generalize l[i]=s at hRi hSi a5 ok1 hL ihi
  have hsz:=qN s
  have hsl:(s.l w).length=21:=rfl
  generalize hM2:hp [(.n 0,.cells true (s.l w)),(.n 0,.cells true [ii 0,ii 0,.str [],.str [],ii 0,iu 0,ib 0,.str [],.nils,ii 0,iu 0,ib 0,.str [],.nils,ii 0,iu 0,ib 0,.str [],.nils,.nils,.nils])] 1 M=M2
  have hC2:Chg [] M M2:=by rw[←hM2];exact ao rfl
  have p2:Kp M2 r vs1 (na M 0) (s.l w):=⟨by rw[←hM2];exact av,by rw[←hM2];exact ab (by omega),(k1.new 0).1,(k1.new 0).2⟩
  have k2:=k1.grow hC2
  have gg:=p2.g
  have oks:=w7 (cs:=cs) (ns:=ns) s (X:=X1) (k:=k+16*bA (l.drop (i+1))) (ok1.weak (by omega))
  have fin:∀{t':Tm} {M':NH} {vs':NV},MK B M' r vc vn lo vs' (s.lw cs ns X1)->Ev r vs1 vs' M2 M'->NT.get D4.e t'=some (.ptr r 0)->NT.get D4.e.a.b t'=some v->NT.get D4.e.a.c t'=some (ii l.length)->NT.get D4.e.a.f t'=some (ii (i+1:Nat))->∃j'<j,∃t M i vs' X',(⟨t', [],none,M'⟩:Dyn)=⟨t, [],none,M⟩/\NT.get D4.e t=some (.ptr r 0)/\NT.get D4.e.a.b t=some v/\NT.get D4.e.a.c t=some (ii l.length)/\NT.get D4.e.a.f t=some (ii (i:Nat))/\i+j'=l.length/\MK B M r vc vn lo vs' X'/\Ev r vs vs' m M/\X'.ok (k+16*bA (l.drop i))/\jQ cs ns (l.drop i) X'=jQ cs ns l X:=
   fun hk' he' q1 q2 q3 q4=>⟨j - 1,by omega,_,_,i+1,_,_,rfl,q1,q2,q3,q4,by omega,hk',e1.trans (Ev.pre hC2 he'),oks,hL⟩
  by_cases h0:s.k=0
  ·rw[O4 h0] at fin
   obtain ⟨m3,r3,v3,k3,e3⟩:=fJ s.x hSi.x hx.n hx.nl k2 (k:=0) (ok1.weak (by omega))
   have r4:=nd k3 hx.n hx.nl s.nm
   have p3:=p2.next e3
   have g5:=p3.g
   obtain ⟨m5,r5,v5,k5,e5⟩:=eu k3 ⟨1,eV ns s.nm,(s.x.lw ns X1).1,0,0,0,0,0,0⟩ (by have:=(cr s.x (ns:=ns) (X:=X1) (k:=0) (ok1.weak (by omega))).s;omega)
   simp (config:={maxSteps:=1000000}) (disch:=first|assumption|omega|exact ab (by omega)|exact aa (by assumption)|(simp only[ap]<;>omega)) only[go_sem,seval,g1,g2,g3,g4,hlen,a1,a2',a5,hM2,gg,hsl,r3.wf',g5,r4.wf',r5.wf',mO hSi.x]
   exact fin k5 (e3.trans e5) (by simp only[go_sem,seval,g1]) (by simp only[go_sem,seval,g2]) (by simp only[go_sem,seval,g3]) (by simp only[go_sem,seval]<;>rfl)
  by_cases h123:s.k=1∨s.k=2∨s.k=3
  ·obtain ⟨m3,r3,v3,k3,e3⟩:=E7 h123 hSi hx k2 (k:=0) (ok1.weak (by omega))
   rcases h123 with h1|h1|h1
   ·simp (config:={maxSteps:=1000000}) (disch:=first|assumption|omega|exact ab (by omega)|exact aa (by assumption)|(simp only[ap]<;>omega)) only[go_sem,seval,g1,g2,g3,g4,hlen,a1,a2',a5,hM2,gg,hsl,r3.wf']
    exact fin k3 e3 (by simp only[go_sem,seval,g1]) (by simp only[go_sem,seval,g2]) (by simp only[go_sem,seval,g3]) (by simp only[go_sem,seval]<;>rfl)
   ·simp (config:={maxSteps:=1000000}) (disch:=first|assumption|omega|exact ab (by omega)|exact aa (by assumption)|(simp only[ap]<;>omega)) only[go_sem,seval,g1,g2,g3,g4,hlen,a1,a2',a5,hM2,gg,hsl,r3.wf']
    exact fin k3 e3 (by simp only[go_sem,seval,g1]) (by simp only[go_sem,seval,g2]) (by simp only[go_sem,seval,g3]) (by simp only[go_sem,seval]<;>rfl)
   ·simp (config:={maxSteps:=1000000}) (disch:=first|assumption|omega|exact ab (by omega)|exact aa (by assumption)|(simp only[ap]<;>omega)) only[go_sem,seval,g1,g2,g3,g4,hlen,a1,a2',a5,hM2,gg,hsl,r3.wf']
    exact fin k3 e3 (by simp only[go_sem,seval,g1]) (by simp only[go_sem,seval,g2]) (by simp only[go_sem,seval,g3]) (by simp only[go_sem,seval]<;>rfl)
  by_cases h4:s.k=4
  ·rw[OX h4] at fin
   obtain ⟨m3,r3,v3,k3,e3⟩:=eu k2 (aJ 13 0 0) (by have:=ok1.s;omega)
   unfold aJ at r3
   simp (config:={maxSteps:=1000000}) (disch:=first|assumption|omega|exact ab (by omega)|exact aa (by assumption)|(simp only[ap]<;>omega)) only[go_sem,seval,g1,g2,g3,g4,hlen,a1,a2',a5,hM2,gg,hsl,r3.wf']
   exact fin k3 e3 (by simp only[go_sem,seval,g1]) (by simp only[go_sem,seval,g2]) (by simp only[go_sem,seval,g3]) (by simp only[go_sem,seval]<;>rfl)
  by_cases h5:s.k=5
  ·rw[OZ h5] at fin
   obtain ⟨m3,r3,v3,k3,e3⟩:=fJ s.x hSi.x hx.n hx.nl k2 (k:=0) (ok1.weak (by omega))
   obtain ⟨m5,r5,v5,k5,e5⟩:=eu k3 (aJ 8 (s.x.lw ns X1).1 0) (by have:=(cr s.x (ns:=ns) (X:=X1) (k:=0) (ok1.weak (by omega))).s;omega)
   unfold aJ at r5
   simp (config:={maxSteps:=1000000}) (disch:=first|assumption|omega|exact ab (by omega)|exact aa (by assumption)|(simp only[ap]<;>omega)) only[go_sem,seval,g1,g2,g3,g4,hlen,a1,a2',a5,hM2,gg,hsl,r3.wf',r5.wf']
   exact fin k5 (e3.trans e5) (by simp only[go_sem,seval,g1]) (by simp only[go_sem,seval,g2]) (by simp only[go_sem,seval,g3]) (by simp only[go_sem,seval]<;>rfl)
  by_cases h6:s.k=6
  ·obtain ⟨m3,r3,v3,k3,e3⟩:=D6 h6 ihi.1 ihi.2 hSi hx k2 (k:=0) (ok1.weak (by omega))
   simp (config:={maxSteps:=1000000}) (disch:=first|assumption|omega|exact ab (by omega)|exact aa (by assumption)|(simp only[ap]<;>omega)) only[go_sem,seval,g1,g2,g3,g4,hlen,a1,a2',a5,hM2,gg,hsl,r3.wf']
   exact fin k3 e3 (by simp only[go_sem,seval,g1]) (by simp only[go_sem,seval,g2]) (by simp only[go_sem,seval,g3]) (by simp only[go_sem,seval]<;>rfl)
  by_cases h7:s.k=7
  ·obtain ⟨m3,r3,v3,k3,e3⟩:=H9 h7 ihi.1 hSi hx k2 (k:=0) (ok1.weak (by omega))
   simp (config:={maxSteps:=1000000}) (disch:=first|assumption|omega|exact ab (by omega)|exact aa (by assumption)|(simp only[ap]<;>omega)) only[go_sem,seval,g1,g2,g3,g4,hlen,a1,a2',a5,hM2,gg,hsl,r3.wf']
   exact fin k3 e3 (by simp only[go_sem,seval,g1]) (by simp only[go_sem,seval,g2]) (by simp only[go_sem,seval,g3]) (by simp only[go_sem,seval]<;>rfl)
  ·rw[O6 (by omega)] at fin
   simp (config:={maxSteps:=1000000}) (disch:=first|assumption|omega|exact ab (by omega)|exact aa (by assumption)|(simp only[ap]<;>omega)) only[go_sem,seval,g1,g2,g3,g4,hlen,a1,a2',a5,hM2,gg,hsl]
   exact fin k2 (Ev.grow (Chg.refl M2)) (by simp only[go_sem,seval,g1]) (by simp only[go_sem,seval,g2]) (by simp only[go_sem,seval,g3]) (by simp only[go_sem,seval]<;>rfl)
 ·simp (config:={maxSteps:=1000000}) (disch:=first|assumption|omega|exact ab (by omega)|exact aa (by assumption)|(simp only[ap]<;>omega)) only[go_sem,seval,g1,g2,g3,g4,hlen]
  rw[List.drop_of_length_le (by omega),jQ] at hL
  rw[hL] at k1
  rw[ag]
  exact hK _ ⟨vs1,k1,e1⟩
theorem FC:∀l:List Stm,ur 57 cs ns l:=by
 have key:∀x:Stm,ur 57 cs ns x.b/\ur 57 cs ns x.e:=by
  apply Stm.ind
  intro k a nm ce i x y b e hb he
  exact ⟨lI hb,lI he⟩
 exact fun l=>lI fun x _=>key x
end
end FR
open Go Nm Go.Proofs
namespace FR
set_option linter.unusedSimpArgs false
set_option linter.unusedVariables false
section
variable {cs:List (List Nat×Int)} {ns:List (List Nat)}
theorem Hz (X:Ms):cX 1 (cX 1 X)=cX 2 X:=by unfold cX;simp only[Int.add_assoc];rfl
theorem O7 {s:Stm} (h:s.k=1) (X:Ms):s.lw cs ns X=bv ⟨3,eV ns s.nm,(a7 cs ns s X).1,0,0,0,eE cs s,0,0⟩ (a7 cs ns s X).2:=by
 obtain ⟨k,a,nm,ce,i,x,y,b,e⟩:=s
 obtain rfl:k=1:=h
 rw[Stm.lw];rfl
theorem Pb {s:Stm} (h:s.k=2) (X:Ms):s.lw cs ns X=bv ⟨4,0,(a7 cs ns s X).1,(s.x.lw ns (a7 cs ns s X).2).1,0,0,eE cs s,0,0⟩ (s.x.lw ns (a7 cs ns s X).2).2:=by
 obtain ⟨k,a,nm,ce,i,x,y,b,e⟩:=s
 obtain rfl:k=2:=h
 rw[Stm.lw];rfl
theorem Pa {s:Stm} (h:s.k=3) (X:Ms):s.lw cs ns X=bv ⟨5,eV ns s.nm,(a7 cs ns s X).1,(s.x.lw ns (a7 cs ns s X).2).1,(s.y.lw ns (s.x.lw ns (a7 cs ns s X).2).2).1,0,eE cs s,0,0⟩ (s.y.lw ns (s.x.lw ns (a7 cs ns s X).2).2).2:=by
 obtain ⟨k,a,nm,ce,i,x,y,b,e⟩:=s
 obtain rfl:k=3:=h
 rw[Stm.lw];rfl
theorem Ge {s:Stm} (hb:ur 59 cs ns s.b) (he:ur 59 cs ns s.e):MY 106 cs ns s:=by
 intro B m T w vc vn vs r lo X k hS hx h hk
 refine WF.ex1 fun K hK=> ?_
 refine WF.of_wpG (fun _=>rfl) tZ (L:= [(.a .e,.agg (s.l w)),(.e,.ptr r 0)]) rfl ?_
 unfold CF
 generalize hM1:hp [(.n 0,.cells true (s.l w))] 1 m=M1
 have hC1:Chg [] m M1:=by rw[←hM1];exact ao rfl
 have p1:Kp M1 r vs (na m 0) (s.l w):=⟨by rw[←hM1];exact av,by rw[←hM1];exact ab (by omega),(h.new 0).1,(h.new 0).2⟩
 have k1:=h.grow hC1
 have g1:=p1.g
 have hsl:(s.l w).length=21:=rfl
 rw[qN] at hk
 by_cases h0:s.k=0
 ·rw[O4 h0] at hK
  obtain ⟨m3,r3,v3,k3,e3⟩:=fU s.x hS.x hx.n hx.nl k1 (k:=1) (hk.weak (by omega))
  have ok3:=cr s.x (ns:=ns) (X:=X) (k:=1) (hk.weak (by omega))
  have r4:=mQ k3 hx.n hx.nl s.nm
  have p3:=p1.next e3
  have g3:=p3.g
  obtain ⟨m5,r5,v5,k5,e5⟩:=eA k3 ⟨1,eV ns s.nm,(s.x.lw ns X).1,0,0,0,0,0,0⟩ (by have:=ok3.s;omega)
  simp (config:={maxSteps:=1000000}) (disch:=first|assumption|omega|exact ab (by omega)|exact aa (by assumption)|(simp only[ap]<;>omega)) only[go_sem,seval,hM1,g1,hsl,r3.wf',g3,r4.wf',r5.wf']
  exact hK _ ⟨v5,k5,Ev.pre hC1 (e3.trans e5)⟩
 by_cases h1:s.k=1
 ·rw[O7 h1] at hK
  obtain ⟨m2,r2,v2,k2,e2⟩:=n8 (w:=w) (s:=s) hS.i hx.c hx.cl hx.n hx.nl k1 (k:=1) (hk.weak (by omega)) hx.z
  have ok2:=fB (cs:=cs) (ns:=ns) (s:=s) (X:=X) (k:=1) (hk.weak (by omega))
  have p2:=p1.next e2
  have g2:=p2.g
  have r4:=mQ k2 hx.n hx.nl s.nm
  obtain ⟨m5,r5,v5,k5,e5⟩:=eA k2 ⟨3,eV ns s.nm,(a7 cs ns s X).1,0,0,0,eE cs s,0,0⟩ (by have:=ok2.s;omega)
  simp (config:={maxSteps:=1000000}) (disch:=first|assumption|omega|exact ab (by omega)|exact aa (by assumption)|(simp only[ap]<;>omega)) only[go_sem,seval,hM1,g1,hsl,r2.wf',g2,r4.wf',r5.wf']
  exact hK _ ⟨v5,k5,Ev.pre hC1 (e2.trans e5)⟩
 by_cases h2:s.k=2
 ·rw[Pb h2] at hK
  obtain ⟨m2,r2,v2,k2,e2⟩:=n8 (w:=w) (s:=s) hS.i hx.c hx.cl hx.n hx.nl k1 (k:=1+s.x.sz) (hk.weak (by omega)) hx.z
  have ok2:=fB (cs:=cs) (ns:=ns) (s:=s) (X:=X) (k:=1+s.x.sz) (hk.weak (by omega))
  have p2:=p1.next e2
  have g2:=p2.g
  obtain ⟨m3,r3,v3,k3,e3⟩:=fU s.x hS.x hx.n hx.nl k2 (k:=1) ok2
  have ok3:=cr s.x (ns:=ns) (k:=1) ok2
  obtain ⟨m5,r5,v5,k5,e5⟩:=eA k3 ⟨4,0,(a7 cs ns s X).1,(s.x.lw ns (a7 cs ns s X).2).1,0,0,eE cs s,0,0⟩ (by have:=ok3.s;omega)
  simp (config:={maxSteps:=1000000}) (disch:=first|assumption|omega|exact ab (by omega)|exact aa (by assumption)|(simp only[ap]<;>omega)) only[go_sem,seval,hM1,g1,hsl,r2.wf',g2,r3.wf',r5.wf']
  exact hK _ ⟨v5,k5,Ev.pre hC1 (e2.trans (e3.trans e5))⟩
 by_cases h3:s.k=3
 ·rw[Pa h3] at hK
  obtain ⟨m2,r2,v2,k2,e2⟩:=n8 (w:=w) (s:=s) hS.i hx.c hx.cl hx.n hx.nl k1 (k:=1+s.y.sz+s.x.sz) (hk.weak (by omega)) hx.z
  have ok2:=fB (cs:=cs) (ns:=ns) (s:=s) (X:=X) (k:=1+s.y.sz+s.x.sz) (hk.weak (by omega))
  have p2:=p1.next e2
  have g2:=p2.g
  obtain ⟨m3,r3,v3,k3,e3⟩:=fU s.x hS.x hx.n hx.nl k2 (k:=1+s.y.sz) ok2
  have ok3:=cr s.x (ns:=ns) (k:=1+s.y.sz) ok2
  have p3:=p2.next e3
  have g3:=p3.g
  obtain ⟨m4,r4,v4,k4,e4⟩:=fU s.y hS.y hx.n hx.nl k3 (k:=1) ok3
  have ok4:=cr s.y (ns:=ns) (k:=1) ok3
  have p4:=p3.next e4
  have g4:=p4.g
  have r6:=mQ k4 hx.n hx.nl s.nm
  obtain ⟨m5,r5,v5,k5,e5⟩:=eA k4 ⟨5,eV ns s.nm,(a7 cs ns s X).1,(s.x.lw ns (a7 cs ns s X).2).1,(s.y.lw ns (s.x.lw ns (a7 cs ns s X).2).2).1,0,eE cs s,0,0⟩ (by have:=ok4.s;omega)
  simp (config:={maxSteps:=1000000}) (disch:=first|assumption|omega|exact ab (by omega)|exact aa (by assumption)|(simp only[ap]<;>omega)) only[go_sem,seval,hM1,g1,hsl,r2.wf',g2,r3.wf',g3,r4.wf',g4,r6.wf',r5.wf']
  exact hK _ ⟨v5,k5,Ev.pre hC1 (e2.trans (e3.trans (e4.trans e5)))⟩
 by_cases h4:s.k=4
 ·rw[OX h4] at hK
  obtain ⟨m3,r3,v3,k3,e3⟩:=eA k1 (aJ 13 0 0) (by have:=hk.s;omega)
  unfold aJ at r3
  simp (config:={maxSteps:=1000000}) (disch:=first|assumption|omega|exact ab (by omega)|exact aa (by assumption)|(simp only[ap]<;>omega)) only[go_sem,seval,hM1,g1,hsl,r3.wf']
  exact hK _ ⟨v3,k3,Ev.pre hC1 e3⟩
 by_cases h5:s.k=5
 ·rw[OZ h5] at hK
  obtain ⟨m3,r3,v3,k3,e3⟩:=fU s.x hS.x hx.n hx.nl k1 (k:=1) (hk.weak (by omega))
  have ok3:=cr s.x (ns:=ns) (X:=X) (k:=1) (hk.weak (by omega))
  obtain ⟨m5,r5,v5,k5,e5⟩:=eA k3 (aJ 8 (s.x.lw ns X).1 0) (by have:=ok3.s;omega)
  unfold aJ at r5
  simp (config:={maxSteps:=1000000}) (disch:=first|assumption|omega|exact ab (by omega)|exact aa (by assumption)|(simp only[ap]<;>omega)) only[go_sem,seval,hM1,g1,hsl,r3.wf',r5.wf']
  exact hK _ ⟨v5,k5,Ev.pre hC1 (e3.trans e5)⟩
 by_cases h6:s.k=6
 ·rw[O2 h6] at hK
  obtain ⟨ma,ra,va,ka,ea⟩:=ng k1 (k:=0) (hk.weak (by omega))
  obtain ⟨m2,r2,v2,k2,e2⟩:=ng ka (k:=0) (by have:=(jX (k:=0) (hk.weak (by omega)));exact ⟨by have:=hk.s;simp only[cX];omega,hk.v0,by have:=hk.v;simp only[cX];omega,by have:=hk.l0;simp only[cX];omega,by have:=hk.l;simp only[cX];omega⟩)
  rw[Hz] at k2
  have ok2:=jX (X:=X) (k:=k+14+s.x.sz+16*bA s.b+16*bA s.e) (hk.weak (by omega))
  have p2:=(p1.next ea).next e2
  have g2:=p2.g
  obtain ⟨m3,r3,v3,k3,e3⟩:=fU s.x hS.x hx.n hx.nl k2 (k:=k+14+16*bA s.b+16*bA s.e) (ok2.weak (by omega))
  have ok3:=cr s.x (ns:=ns) (X:=cX 2 X) (k:=k+14+16*bA s.b+16*bA s.e) (ok2.weak (by omega))
  have p3:=p2.next e3
  generalize s.x.lw ns (cX 2 X)=q at r3 k3 ok3 hK
  obtain ⟨xv,X3⟩:=q
  dsimp only at r3 k3 ok3 hK
  obtain ⟨m4,r4,v4,k4,e4⟩:=eA k3 (aJ 11 xv X.lb) (by have:=ok3.s;omega)
  have ok4:=bL (k:=k+13+16*bA s.b+16*bA s.e) (ok3.weak (by omega)) (aJ 11 xv X.lb)
  have p4:=p3.next e4
  have g4:=p4.g
  obtain ⟨CB,hSB⟩:=hS.b
  obtain ⟨CE,hSE⟩:=hS.e
  obtain ⟨m5,r5,v5,k5,e5⟩:=hb hSB hx k4 (k:=k+13+16*bA s.e) (ok4.weak (by omega))
  have ok5:=gO (cs:=cs) (ns:=ns) (l:=s.b) (k:=k+13+16*bA s.e) (ok4.weak (by omega))
  have p5:=p4.next e5
  generalize jQ cs ns s.b (bv (aJ 11 xv X.lb) X3)=X5 at k5 ok5 hK
  obtain ⟨m6,r6,v6,k6,e6⟩:=eA k5 (aJ 10 0 (X.lb+1)) (by have:=ok5.s;omega)
  have ok6:=bL (k:=k+12+16*bA s.e) (ok5.weak (by omega)) (aJ 10 0 (X.lb+1))
  have p6:=p5.next e6
  obtain ⟨m7,r7,v7,k7,e7⟩:=eA k6 (aJ 9 0 X.lb) (by have:=ok6.s;omega)
  have ok7:=bL (k:=k+11+16*bA s.e) (ok6.weak (by omega)) (aJ 9 0 X.lb)
  have p7:=p6.next e7
  have g7:=p7.g
  obtain ⟨m8,r8,v8,k8,e8⟩:=he hSE hx k7 (k:=k+11) (ok7.weak (by omega))
  have ok8:=gO (cs:=cs) (ns:=ns) (l:=s.e) (k:=k+11) (ok7.weak (by omega))
  generalize jQ cs ns s.e (bv (aJ 9 0 X.lb) (bv (aJ 10 0 (X.lb+1)) X5))=X8 at k8 ok8 hK
  obtain ⟨m9,r9,v9,k9,e9⟩:=eA k8 (aJ 9 0 (X.lb+1)) (by have:=ok8.s;omega)
  unfold aJ at r4 r6 r7 r9
  unfold cX at r2
  simp (config:={maxSteps:=1000000}) (disch:=first|assumption|omega|exact ab (by omega)|exact aa (by assumption)|(simp only[ap]<;>omega)) only[go_sem,seval,hM1,g1,ra.wf',r2.wf',g2,hsl,r3.wf',r4.wf',g4,r5.wf',r6.wf',r7.wf',g7,r8.wf',r9.wf']
  exact hK _ ⟨v9,k9,Ev.pre hC1 (ea.trans (e2.trans (e3.trans (e4.trans (e5.trans (e6.trans (e7.trans (e8.trans e9))))))))⟩
 by_cases h7:s.k=7
 ·rw[OM h7] at hK
  obtain ⟨ma,ra,va,ka,ea⟩:=ng k1 (k:=0) (hk.weak (by omega))
  obtain ⟨m2,r2,v2,k2,e2⟩:=ng ka (k:=0) ⟨by have:=hk.s;simp only[cX];omega,hk.v0,by have:=hk.v;simp only[cX];omega,by have:=hk.l0;simp only[cX];omega,by have:=hk.l;simp only[cX];omega⟩
  rw[Hz] at k2
  have ok2:=jX (X:=X) (k:=k+14+s.x.sz+16*bA s.b) (hk.weak (by omega))
  have p2:=(p1.next ea).next e2
  obtain ⟨m3,r3,v3,k3,e3⟩:=eA k2 (aJ 9 0 X.lb) (by have:=ok2.s;omega)
  have ok3:=bL (k:=k+13+s.x.sz+16*bA s.b) (ok2.weak (by omega)) (aJ 9 0 X.lb)
  have p3:=p2.next e3
  have g3:=p3.g
  obtain ⟨m4,r4,v4,k4,e4⟩:=fU s.x hS.x hx.n hx.nl k3 (k:=k+13+16*bA s.b) (ok3.weak (by omega))
  have ok4:=cr s.x (ns:=ns) (k:=k+13+16*bA s.b) (ok3.weak (by omega))
  have p4:=p3.next e4
  generalize s.x.lw ns (bv (aJ 9 0 X.lb) (cX 2 X))=q at r4 k4 ok4 hK
  obtain ⟨xv,X4⟩:=q
  dsimp only at r4 k4 ok4 hK
  obtain ⟨m5,r5,v5,k5,e5⟩:=eA k4 (aJ 11 xv (X.lb+1)) (by have:=ok4.s;omega)
  have ok5:=bL (k:=k+12+16*bA s.b) (ok4.weak (by omega)) (aJ 11 xv (X.lb+1))
  have p5:=p4.next e5
  have g5:=p5.g
  obtain ⟨CB,hSB⟩:=hS.b
  obtain ⟨m6,r6,v6,k6,e6⟩:=hb hSB hx k5 (k:=k+12) (ok5.weak (by omega))
  have ok6:=gO (cs:=cs) (ns:=ns) (l:=s.b) (k:=k+12) (ok5.weak (by omega))
  generalize jQ cs ns s.b (bv (aJ 11 xv (X.lb+1)) X4)=X6 at k6 ok6 hK
  obtain ⟨m7,r7,v7,k7,e7⟩:=eA k6 (aJ 10 0 X.lb) (by have:=ok6.s;omega)
  have ok7:=bL (k:=k+11) (ok6.weak (by omega)) (aJ 10 0 X.lb)
  obtain ⟨m8,r8,v8,k8,e8⟩:=eA k7 (aJ 9 0 (X.lb+1)) (by have:=ok7.s;omega)
  unfold aJ at r3 r5 r7 r8
  unfold cX at r2
  simp (config:={maxSteps:=1000000}) (disch:=first|assumption|omega|exact ab (by omega)|exact aa (by assumption)|(simp only[ap]<;>omega)) only[go_sem,seval,hM1,g1,ra.wf',r2.wf',hsl,r3.wf',g3,r4.wf',r5.wf',g5,r6.wf',r7.wf',r8.wf']
  exact hK _ ⟨v8,k8,Ev.pre hC1 (ea.trans (e2.trans (e3.trans (e4.trans (e5.trans (e6.trans (e7.trans e8)))))))⟩
 ·rw[O6 (by omega)] at hK
  simp (config:={maxSteps:=1000000}) (disch:=first|assumption|omega|exact ab (by omega)|exact aa (by assumption)|(simp only[ap]<;>omega)) only[go_sem,seval,hM1,g1,hsl]
  exact hK _ ⟨vs,k1,Ev.grow hC1⟩
theorem km {l:List Stm} (ih:∀x∈l,ur 59 cs ns x.b/\ur 59 cs ns x.e):ur 59 cs ns l:=by
 intro B m T v vc vn vs C r lo X k hSS hx h hk
 refine WF.ex1 fun K hK=> ?_
 refine WF.of_wpG (fun _=>rfl) yP (L:= [(.a .e,v),(.e,.ptr r 0)]) rfl ?_
 unfold I6
 have hlen:=(hSS.stays (io h.c T)).sl.len
 rw[hSS.len] at hlen
 have hll:=lg l
 have hls:=hk.s
 simp (disch:=first|assumption|omega) only[go_sem,seval,ag]
 refine W.loop (fun j d=>∃t M i vs' X',d=⟨t, [],none,M⟩/\NT.get D4.e t=some (.ptr r 0)/\NT.get D4.e.a t=some v/\NT.get D4.e.f t=some (ii (i:Nat))/\i+j=l.length/\MK B M r vc vn lo vs' X'/\Ev r vs vs' m M/\X'.ok (k+16*bA (l.drop i))/\jQ cs ns (l.drop i) X'=jQ cs ns l X) ?_ l.length _ ⟨_,m,0,vs,X,rfl,by simp only[go_sem,seval],by simp only[go_sem,seval],by simp only[go_sem,seval]<;>rfl,by omega,h,Ev.grow (Chg.refl m),hk,rfl⟩
 rintro j d ⟨t,M,i,vs1,X1,rfl,g1,g2,g4,hij,k1,e1,ok1,hL⟩
 apply aA
 unfold yp
 change wp _ _ _ _ ⟨an [] t, [],none,M⟩ _
 by_cases hi:i<l.length
 ·obtain ⟨w,hCi,hRi,hSi⟩:=z9 hSS i hi
  obtain ⟨id,off,wr,c,a1,a2,a3,a4,a5⟩:=rk hSS i hi hCi
  have a2':=(k1.c.get a3 (by simp)).trans a2
  rw[List.drop_eq_getElem_cons hi,bA] at ok1
  rw[List.drop_eq_getElem_cons hi,jQ] at hL
  have ihi:=ih _ (List.getElem_mem hi)
  generalize l[i]=s at hRi hSi a5 ok1 hL ihi
  have hsl:(s.l w).length=21:=rfl
  have oks:=w7 (cs:=cs) (ns:=ns) s (X:=X1) (k:=k+16*bA (l.drop (i+1))) (ok1.weak (by omega))
  obtain ⟨m3,r3,v3,k3,e3⟩:=Ge ihi.1 ihi.2 hSi hx k1 (k:=0) (ok1.weak (by omega))
  simp (disch:=first|assumption|omega) only[go_sem,seval,g1,g2,g4,hlen,a1,a2',a5,hsl,r3.wf']
  exact ⟨j - 1,by omega,_,m3,i+1,v3,_,by rfl,by simp only[go_sem,seval,g1],by simp only[go_sem,seval,g2],by simp only[go_sem,seval]<;>rfl,by omega,k3,e1.trans e3,oks,hL⟩
 ·simp (disch:=first|assumption|omega) only[go_sem,seval,g1,g2,g4,hlen]
  rw[List.drop_of_length_le (by omega),jQ] at hL
  rw[hL] at k1
  exact hK _ ⟨vs1,k1,e1⟩
theorem Gj:∀l:List Stm,ur 59 cs ns l:=by
 have key:∀x:Stm,ur 59 cs ns x.b/\ur 59 cs ns x.e:=by
  apply Stm.ind
  intro k a nm ce i x y b e hb he
  exact ⟨km hb,km he⟩
 exact fun l=>km fun x _=>key x
end
end FR
open Go Nm Go.Proofs
namespace FR
set_option linter.unusedSimpArgs false
set_option linter.unusedVariables false
structure Wk (ck:D4) (B m0:NH) (vc u:NV) (L:List (List Nat)) (e a:Int) (N:NH):Prop where
 g:N.get ck=some (.cells true [vc,u,ii e,ii a])
 o:ay N ck
 w:bz B N u 1 (bw L)
 n:ck∉ids u
 c:Chg [] m0 N
 b:∀i,ay B i->ay N i
def e6 (Z:List (List Nat)) (e:Int) (mine:List (List Nat)):Int:=if e=0/\∃n∈mine,n∈Z then 6 else e
section
variable {ck:D4} {B m0:NH} {vc:NV} {cs:List (List Nat×Int)}
theorem Wk.grow {u:NV} {L:List (List Nat)} {e a:Int} {N N':NH} (h:Wk ck B m0 vc u L e a N) (hC:Chg [] N N'):Wk ck B m0 vc u L e a N':=
 ⟨(hC.get h.o (by simp)).trans h.g,hC.old h.o,h.w.chg hC fun _ _=>by simp,h.n,h.c.trans hC (by simp),fun i hi=>hC.old (h.b i hi)⟩
theorem Wk.set {u:NV} {L:List (List Nat)} {e a e' a':Int} {N N':NH} (h:Wk ck B m0 vc u L e a N) (hk:¬ay m0 ck) (hN:hp [(.o ck,.cells true [vc,u,ii e',ii a'])] 0 N=N'):Wk ck B m0 vc u L e' a' N'/\Chg [ck] N N':=by
 have hC:Chg [ck] N N':=by rw[←hN];exact ao rfl
 refine ⟨⟨?_,hC.old h.o,h.w.chg hC fun i hi=>by simp;rintro rfl;exact h.n hi,h.n,h.c.trans hC fun i hi ho=> ?_,fun i hi=>hC.old (h.b i hi)⟩,hC⟩
 ·rw[←hN];exact (aO h.o).trans az
 ·simp only[List.mem_cons,List.not_mem_nil,or_false] at hi;subst hi;exact absurd ho hk
theorem B5 {Z:List (List Nat)} {s:List Nat}:bW Z s<0↔s∉Z:=by
 have:=gu (l:=Z) (x:=s)
 rw[←this];omega
theorem MO (hcs:Sl m0 vc 2 (lm cs)) (hcl:cs.length<=1000000) (hk:¬ay m0 ck) {u vm v s2:NV} {i0:Int} {L mine:List (List Nat)} {e a:Int} {N:NH} (hW:Wk ck B m0 vc u L e a N) (hm:Sl N vm 1 (bw mine)) (hd:ck∉ids vm) (hl:mine.length<=100000000) {t:Tm}
 (g1:NT.get D4.e t=some (.ptr ck 0)) (g2:NT.get D4.e.a.b t=some vm) (g3:NT.get D4.e.a.c t=some (ii 0)) (g4:NT.get D4.e.a t=some v) (g5:NT.get D4.e.f t=some (ii i0)) (g6:NT.get D4.e.a.a t=some s2) {Q:Out->Dyn->Prop}
 (hQ:∀t' N',Wk ck B m0 vc u L (e6 (cs.map (·.1)) e mine) a N'->Chg [ck] N N'->NT.get D4.e t'=some (.ptr ck 0)->NT.get D4.e.a.b t'=some vm->NT.get D4.e.a t'=some v->NT.get D4.e.f t'=some (ii i0)->NT.get D4.e.a.a t'=some s2->Q (.exit 2) ⟨an [] t', [],none,N'⟩):
 W Try.prog S0 none rM.loop ⟨t, [],none,N⟩ Q:=by
 refine W.loop (fun k d=>∃t M i,d=⟨t, [],none,M⟩/\NT.get D4.e t=some (.ptr ck 0)/\NT.get D4.e.a.b t=some vm/\NT.get D4.e.a.c t=some (ii (i:Nat))/\NT.get D4.e.a t=some v/\NT.get D4.e.f t=some (ii i0)/\NT.get D4.e.a.a t=some s2/\i+k=mine.length/\Wk ck B m0 vc u L (e6 (cs.map (·.1)) e (mine.take i)) a M/\Chg [ck] N M) ?_ mine.length _ ⟨t,N,0,rfl,g1,g2,g3,g4,g5,g6,by omega,by simpa [e6] using hW,(Chg.refl N).weak (by simp)⟩
 clear g1 g2 g3 g4 g5 g6
 rintro k d ⟨t,M,i,rfl,g1,g2,g3,g4,g5,g6,hik,hWM,hC⟩
 apply aA
 unfold rM
 change wp _ _ _ _ ⟨an [] t, [],none,M⟩ _
 have hmM:Sl M vm 1 (bw mine):=hm.chg hC fun i hi=>by simp;rintro rfl;exact hd hi
 have hlen:=hmM.len
 rw[List.length_map] at hlen
 have hg:=hWM.g
 have ho:=hWM.o
 by_cases hi:i<mine.length
 ·by_cases he:e6 (cs.map (·.1)) e (mine.take i)=0
  ·obtain ⟨id,off,wr,c,a1,a2,a3,a4,a5⟩:=hmM.at i (by simpa using hi)
   rw[List.getElem_map] at a5
   have c0:c[off]? =some (.str mine[i]):=bg a5 0 (by omega)
   have hf:=rL (hcs.chg hWM.c fun _ _=>by simp) hcl mine[i]
   have hvs:br 4 vc vc=true:=hcs.same
   have htk:∀p:List Nat->Prop,(∃n∈mine.take (i+1),p n)↔(∃n∈mine.take i,p n)∨p mine[i]:=by
    intro p
    rw[List.take_add_one,List.getElem?_eq_getElem hi]
    simp only[List.mem_append,Option.toList_some,List.mem_singleton]
    constructor
    ·rintro ⟨n,h|rfl,hp⟩
     ·exact Or.inl ⟨n,h,hp⟩
     ·exact Or.inr hp
    ·rintro (⟨n,h,hp⟩|hp)
     ·exact ⟨n,Or.inl h,hp⟩
     ·exact ⟨_,Or.inr rfl,hp⟩
   have he0:e=0:=by unfold e6 at he;split at he<;>omega
   have hno:¬∃n∈mine.take i,n∈cs.map (·.1):=fun h=>by rw[e6,if_pos ⟨he0,h⟩] at he;omega
   rw[he] at hg hWM
   by_cases hin:mine[i]∈cs.map (·.1)
   ·have h6:e6 (cs.map (·.1)) e (mine.take (i+1))=6:=by rw[e6,if_pos ⟨he0,(htk _).2 (Or.inr hin)⟩]
    have hfp:0<=bW (cs.map (·.1)) mine[i]:=gu.2 hin
    generalize bW (cs.map (·.1)) mine[i]=z at hf hfp
    simp (config:={maxSteps:=1000000}) (disch:=first|assumption|omega|exact ab (by omega)|exact aa (by assumption)|(simp only[ap]<;>omega)) only[go_sem,seval,g1,g2,g3,g4,g5,g6,hlen,hg,a1,a2,c0,hf.wf,hvs]
    generalize hM2:hp _ 0 M=M2
    obtain ⟨hW2,hC2⟩:=hWM.set hk hM2
    rw[←h6] at hW2
    exact ⟨k - 1,by omega,_,M2,i+1,by rfl,by simp only[go_sem,seval,g1],by simp only[go_sem,seval,g2],by simp only[go_sem,seval]<;>rfl,by simp only[go_sem,seval,g4],by simp only[go_sem,seval,g5],by simp only[go_sem,seval,g6],by omega,hW2,hC.trans hC2 fun _ h _=>h⟩
   ·have h6:e6 (cs.map (·.1)) e (mine.take (i+1))=0:=by
     rw[e6,if_neg]
     ·exact he0
     ·rintro ⟨_,h⟩
      exact ((htk _).1 h).elim hno hin
    have hfp:bW (cs.map (·.1)) mine[i]<0:=B5.2 hin
    generalize bW (cs.map (·.1)) mine[i]=z at hf hfp
    simp (config:={maxSteps:=1000000}) (disch:=first|assumption|omega|exact ab (by omega)|exact aa (by assumption)|(simp only[ap]<;>omega)) only[go_sem,seval,g1,g2,g3,g4,g5,g6,hlen,hg,a1,a2,c0,hf.wf',hvs]
    exact ⟨k - 1,by omega,_,M,i+1,by rfl,by simp only[go_sem,seval,g1],by simp only[go_sem,seval,g2],by simp only[go_sem,seval]<;>rfl,by simp only[go_sem,seval,g4],by simp only[go_sem,seval,g5],by simp only[go_sem,seval,g6],by omega,by rw[h6];exact hWM,hC⟩
  ·have h6:e6 (cs.map (·.1)) e (mine.take i)=e6 (cs.map (·.1)) e mine:=by
    unfold e6 at he ⊢
    by_cases h0:e=0
    ·rw[if_pos,if_pos]
     ·split at he
      ·rename_i q;obtain ⟨_,n,h1,h2⟩:=q;exact ⟨h0,n,List.mem_of_mem_take h1,h2⟩
      ·exact absurd h0 he
     ·split at he
      ·assumption
      ·exact absurd h0 he
    ·rw[if_neg fun h=>h0 h.1,if_neg fun h=>h0 h.1]
   simp (config:={maxSteps:=1000000}) (disch:=first|assumption|omega|exact ab (by omega)|exact aa (by assumption)|(simp only[ap]<;>omega)) only[go_sem,seval,g1,g2,g3,hlen,hg,he]
   rw[h6] at hWM
   exact hQ _ _ hWM hC (by simp only[go_sem,seval,g1]) (by simp only[go_sem,seval,g2]) (by simp only[go_sem,seval,g4]) (by simp only[go_sem,seval,g5]) (by simp only[go_sem,seval,g6])
 ·simp (config:={maxSteps:=1000000}) (disch:=first|assumption|omega|exact ab (by omega)|exact aa (by assumption)|(simp only[ap]<;>omega)) only[go_sem,seval,g1,g2,g3,hlen,hg]
  rw[List.take_of_length_le (by omega)] at hWM
  exact hQ _ _ hWM hC (by simp only[go_sem,seval,g1]) (by simp only[go_sem,seval,g2]) (by simp only[go_sem,seval,g4]) (by simp only[go_sem,seval,g5]) (by simp only[go_sem,seval,g6])
theorem Ly (h0:∀i,ay m0 i->ay B i) (hk:¬ay m0 ck) (hkB:¬ay B ck) (hvs:br 4 vc vc=true) {u vm v s2:NV} {i0:Int} {L mine:List (List Nat)} {e a:Int} {N A:NH} (hW:Wk ck B m0 vc u L e a N) (hm:bz A N vm 1 (bw mine)) (hd:ck∉ids vm) (hdu:∀i∈ids vm,i∉ids u) (hl:L.length+mine.length<=100000000) {t:Tm}
 (g1:NT.get D4.e t=some (.ptr ck 0)) (g2:NT.get D4.e.a.b t=some vm) (g3:NT.get D4.e.a.f t=some (ii 0)) (g4:NT.get D4.e.a t=some v) (g5:NT.get D4.e.f t=some (ii i0)) (g6:NT.get D4.e.a.a t=some s2) {Q:Out->Dyn->Prop}
 (hQ:∀t' N' u',Wk ck B m0 vc u' (mine.foldl aP L) e a N'->Chg (ck::ids u) N N'->bD N u u'->NT.get D4.e t'=some (.ptr ck 0)->NT.get D4.e.a t'=some v->NT.get D4.e.f t'=some (ii i0)->NT.get D4.e.a.a t'=some s2->Q (.exit 4) ⟨an [] t', [],none,N'⟩):
 W Try.prog S0 none sB.loop ⟨t, [],none,N⟩ Q:=by
 refine W.loop (fun k d=>∃t M i u',d=⟨t, [],none,M⟩/\NT.get D4.e t=some (.ptr ck 0)/\NT.get D4.e.a.b t=some vm/\NT.get D4.e.a.f t=some (ii (i:Nat))/\NT.get D4.e.a t=some v/\NT.get D4.e.f t=some (ii i0)/\NT.get D4.e.a.a t=some s2/\i+k=mine.length/\Wk ck B m0 vc u' ((mine.take i).foldl aP L) e a M/\Chg (ck::ids u) N M/\bD N u u') ?_ mine.length _ ⟨t,N,0,u,rfl,g1,g2,g3,g4,g5,g6,by omega,hW,(Chg.refl N).weak (by simp),bD.refl N u⟩
 clear g1 g2 g3 g4 g5 g6
 rintro k d ⟨t,M,i,u',rfl,g1,g2,g3,g4,g5,g6,hik,hWM,hC,hF⟩
 apply aA
 unfold sB
 change wp _ _ _ _ ⟨an [] t, [],none,M⟩ _
 have hmM:bz A M vm 1 (bw mine):=hm.chg hC fun i hi=>by
  rw[List.mem_cons,not_or]
  exact ⟨fun q=>hd (q▸hi),hdu i hi⟩
 have hlen:=hmM.sl.len
 rw[List.length_map] at hlen
 have hg:=hWM.g
 have ho:=hWM.o
 by_cases hi:i<mine.length
 ·obtain ⟨id,off,c,a1,hids,-,a2,a3,a4,a5,-⟩:=hmM.at i (by simpa using hi)
  rw[List.getElem_map] at a5
  have c0:c[off]? =some (.str mine[i]):=bg a5 0 (by omega)
  have hus:br 4 u' u'=true:=hWM.w.sl.same
  have hfl:=b9 (mine.take i) L
  have htl:(mine.take i).length<=mine.length:=by rw[List.length_take];omega
  have htk:(mine.take (i+1)).foldl aP L=aP ((mine.take i).foldl aP L) mine[i]:=by
   rw[List.take_add_one,List.getElem?_eq_getElem hi,Option.toList_some,List.foldl_append];rfl
  simp (config:={maxSteps:=1000000}) (disch:=first|assumption|omega|exact ab (by omega)|exact aa (by assumption)|(simp only[ap]<;>omega)) only[go_sem,seval,g1,g2,g3,g4,g5,g6,hlen,hg,a1,a2,c0,hus]
  refine WF.useH (EL hWM.w hWM.b mine[i] (by omega)) ?_
  rintro v2 M2 ⟨hv2,hC2,hF2⟩
  have g2':=(hC2.get ho hWM.n).trans hg
  have o2':=hC2.old ho
  have hid:id∉ids u':=fun h=>by
   have hmi:id∈ids vm:=by rw[hids];exact List.mem_singleton_self _
   rcases hF id h with q|q
   ·exact hdu id hmi q
   ·exact q (hm.sl.old id hmi)
  have a22:=(hC2.get a3 hid).trans a2
  simp (config:={maxSteps:=1000000}) (disch:=first|assumption|omega|exact ab (by omega)|exact aa (by assumption)|(simp only[ap]<;>omega)) only[go_sem,seval,g1,g2,g3,g4,g5,g6,hlen,hg,a1,a22,c0,hus,g2',o2',hv2.sl.one]
  generalize hM3:hp _ 0 M2=M3
  have hC3:Chg [ck] M2 M3:=by rw[←hM3];exact ao rfl
  have hn2:ck∉ids v2:=fun h=>(hF2 ck h).elim hWM.n fun q=>q ho
  have hCM:Chg (ck::ids u') M M3:=(hC2.weak (T:=ck::ids u') (by intro i h _;simp[h])).trans hC3 fun i h _=>by simp at h;simp[h]
  refine ⟨k - 1,by omega,_,M3,i+1,v2,by rfl,by simp only[go_sem,seval,g1],by simp only[go_sem,seval,g2],by simp only[go_sem,seval]<;>rfl,by simp only[go_sem,seval,g4],by simp only[go_sem,seval,g5],by simp only[go_sem,seval,g6],by omega, ?_,hC.trans hCM fun i h hi=> ?_,hF.trans hF2 fun i h=>hC.old h⟩
  ·rw[htk]
   refine ⟨?_,hC3.old o2',hv2.chg hC3 fun i hi=>by simp;rintro rfl;exact hn2 hi,hn2, ?_,fun i hi=>hC3.old (hC2.old (hWM.b i hi))⟩
   ·rw[←hM3];exact (aO o2').trans az
   ·refine hWM.c.trans hCM fun i hi hoi=> ?_
    rcases List.mem_cons.1 hi with e|hi
    ·exact absurd (e▸hoi) hk
    ·exact absurd (h0 i hoi) (hWM.w.new i hi)
  ·rcases List.mem_cons.1 h with rfl|h
   ·simp
   ·exact (hF i h).elim (fun q=>by simp[q]) fun q=>absurd hi q
 ·simp (config:={maxSteps:=1000000}) (disch:=first|assumption|omega|exact ab (by omega)|exact aa (by assumption)|(simp only[ap]<;>omega)) only[go_sem,seval,g1,g2,g3,hlen,hg]
  rw[List.take_of_length_le (by omega)] at hWM
  exact hQ _ _ _ hWM hC hF (by simp only[go_sem,seval,g1]) (by simp only[go_sem,seval,g4]) (by simp only[go_sem,seval,g5]) (by simp only[go_sem,seval,g6])
end
end FR
open Go Nm Go.Proofs
namespace FR
set_option linter.unusedSimpArgs false
set_option linter.unusedVariables false
theorem yN {m:NH} {oc mo:D4} {Z:List (List Nat)} (hc:m.get oc=some (.cells true [.map mo])) (hm:m.get mo=some (.map (fZ Z))) (s:List Nat):bm Try.prog S0 93 [.str s,.ptr oc 0] m (.bool (decide (s∈Z))) m:=by
 have h:∃r m',bm Try.prog S0 93 [.str s,.ptr oc 0] m r m'/\r= .bool (decide (s∈Z))/\m'=m:=by
  refine WF.ex fun K hK=> ?_
  refine WF.of_wpG (fun _=>rfl) ye (L:= [(.a .e,.ptr oc 0),(.e,.str s)]) rfl ?_
  unfold J0
  simp (disch:=first|assumption|omega) only[go_sem,seval,hc,hm,ag]
  exact hK _ _ ⟨rfl,rfl⟩
 obtain ⟨r,m',h1,rfl,rfl⟩:=h
 exact h1
theorem Mu {m:NH} {v:NV} {l:List (List Nat)} {oc mo:D4} {Z:List (List Nat)} (hv:Sl m v 1 (bw l)) (hc:m.get oc=some (.cells true [.map mo])) (hm:m.get mo=some (.map (fZ Z))) (hsz:l.length<=1099511627776):
 ∃r m',bm Try.prog S0 137 [v,.fn 93 [.ptr oc 0]] m r m'/\(∃z:Int,r=ii z/\(0<=z↔∃n∈l,n∈Z))/\m'=m:=by
 refine WF.ex fun K hK=> ?_
 refine WF.of_wpG (fun _=>rfl) tR (L:= [(.a .e,.fn 93 [.ptr oc 0]),(.e,v)]) rfl ?_
 unfold Cm
 have hlen:=hv.len
 rw[List.length_map] at hlen
 simp (disch:=first|assumption|omega) only[go_sem,seval,hlen,ag]
 refine W.loop (fun k d=>∃t i,d=⟨t, [],none,m⟩/\NT.get D4.e t=some v/\NT.get D4.e.a t=some (.fn 93 [.ptr oc 0])/\NT.get D4.e.a.c t=some (ii l.length)/\NT.get D4.e.a.f t=some (ii (i:Nat))/\i+k=l.length/\∀j (hj:j<i) (hl:j<l.length),l[j]∉Z) ?_ l.length _ ⟨_,0,rfl,by simp only[go_sem,seval],by simp only[go_sem,seval],by simp only[go_sem,seval],by simp only[go_sem,seval]<;>rfl,by omega,by simp⟩
 rintro k d ⟨t,i,rfl,g1,g2,g3,g4,hik,hn⟩
 apply aA
 unfold tV
 change wp _ _ _ _ ⟨an [] t, [],none,m⟩ _
 by_cases hi:i<l.length
 ·obtain ⟨id,off,wr,c,a1,a2,a3,a4,a5⟩:=hv.at i (by simpa using hi)
  rw[List.getElem_map] at a5
  have c0:c[off]? =some (.str l[i]):=bg a5 0 (by omega)
  by_cases hin:l[i]∈Z
  ·have hp:=yN hc hm l[i]
   rw[decide_eq_true hin] at hp
   simp (disch:=first|assumption|omega) only[go_sem,seval,g1,g2,g3,g4,a1,a2,c0,hp.wf']
   exact hK _ _ ⟨⟨i,rfl,fun _=>⟨l[i],List.getElem_mem hi,hin⟩,fun _=>by omega⟩,rfl⟩
  ·have hp:=yN hc hm l[i]
   rw[decide_eq_false hin] at hp
   simp (disch:=first|assumption|omega) only[go_sem,seval,g1,g2,g3,g4,a1,a2,c0,hp.wf']
   refine ⟨k - 1,by omega,_,i+1,by rfl,by simp only[go_sem,seval,g1],by simp only[go_sem,seval,g2],by simp only[go_sem,seval,g3],by simp only[go_sem,seval]<;>rfl,by omega,fun j hj hl=> ?_⟩
   rcases Nat.lt_or_ge j i with q|q
   ·exact hn j q hl
   ·obtain rfl:j=i:=by omega
    exact hin
 ·simp (disch:=first|assumption|omega) only[go_sem,seval,g1,g2,g3,g4]
  refine hK _ _ ⟨⟨-1,rfl,fun h=>by omega,fun ⟨n,h1,h2⟩=> ?_⟩,rfl⟩
  obtain ⟨j,hj,rfl⟩:=List.getElem_of_mem h1
  exact absurd h2 (hn j (by omega) hj)
theorem yz {m:NH} {v:NV} {l:List (List Nat)} {oc mo:D4} {Z:List (List Nat)} (hv:Sl m v 1 (bw l)) (hc:m.get oc=some (.cells true [.map mo])) (hm:m.get mo=some (.map (fZ Z))) (hsz:l.length<=1099511627776):
 bm Try.prog S0 92 [v,.fn 93 [.ptr oc 0]] m (.bool (decide (∃n∈l,n∈Z))) m:=by
 have h:∃r m',bm Try.prog S0 92 [v,.fn 93 [.ptr oc 0]] m r m'/\r= .bool (decide (∃n∈l,n∈Z))/\m'=m:=by
  refine WF.ex fun K hK=> ?_
  refine WF.of_wpG (fun _=>rfl) yL (L:= [(.a .e,.fn 93 [.ptr oc 0]),(.e,v)]) rfl ?_
  unfold Jx
  obtain ⟨r,m',hr,⟨z,rfl,hz⟩,rfl⟩:=Mu hv hc hm hsz
  simp (disch:=first|assumption|omega) only[go_sem,seval,ag,hr.wf']
  refine hK _ _ ⟨?_,rfl⟩
  simp only[hz]
 obtain ⟨r,m',h1,rfl,rfl⟩:=h
 exact h1
end FR
open Go Nm Go.Proofs
namespace FR
set_option linter.unusedSimpArgs false
set_option linter.unusedVariables false
abbrev Mn:=(List (List Nat)×Nat)×Option (Int×Int)
def lp (Z:List (List Nat)) (st:Mn) (x:Stm):Mn×Bool:=
 if (x.k=1∨x.k=2∨x.k=3)/\x.ce∉Z then ((st.1,some (x.a,4)),false)
 else if ∃n∈x.own,n∈Z then ((st.1,some (x.a,6)),false)
 else if 12<(x.own.foldl aP st.1.1).length then (((x.own.foldl aP st.1.1,st.1.2+x.own.length),some (x.a,3)),false)
 else (((x.own.foldl aP st.1.1,st.1.2+x.own.length),none),true)
def O1 (st:Mn) (x:Stm):Prop:=st.2=none/\x.sz<=100000000/\st.1.2+x.own.length<=100000000
def vS:Option (Int×Int)->Int|some (a,_)=>a|none=>0
def mW:Option (Int×Int)->Int|some (_,e)=>e|none=>0
def Lu:Option (Int×Int)->Nat|some _=>2|none=>0
def NX:Option (Int×Int)->Jump|some _=> .ret|none=> .none
def OO (q o b er:D4) (t:Tm) (M1:NH) (st:Mn) (F:List D4) (N:NH):Prop:=∃u,F=q::o::b::er::ids u/\Chg [q,o,b,er] M1 N/\N.get q=some (.loop (Lu st.2) (NX st.2) t [D4.e.b.c] eR eQ)/\N.get o=some (.cells true [u])/\N.get b=some (.cells true [ii (vS st.2)])/\N.get er=some (.cells true [ii (mW st.2)])/\bz M1 N u 1 (bw st.1.1)/\st.1.1.length<=st.1.2
structure BdO (q o b er oc mo:D4) (M1:NH):Prop where
 qo:q≠o
 qb:q≠b
 qe:q≠er
 ob:o≠b
 oe:o≠er
 be:b≠er
 oq:ay M1 q
 oo:ay M1 o
 ol:ay M1 b
 om:ay M1 er
 og:ay M1 oc
 od:ay M1 mo
 cc:oc∉ [q,o,b,er]
 cd:mo∉ [q,o,b,er]
theorem tz {q o b er oc mo:D4} {t:Tm} {M1 M M':NH} {u:NV} {L:List (List Nat)} {n:Nat} {r:Option (Int×Int)} (hO:BdO q o b er oc mo M1) (hC:Chg [q,o,b,er] M1 M) (hC':Chg [q,o,b,er] M M') (hq:M'.get q=some (.loop (Lu r) (NX r) t [D4.e.b.c] eR eQ)) (ho:M'.get o=some (.cells true [u])) (hb:M'.get b=some (.cells true [ii (vS r)])) (he:M'.get er=some (.cells true [ii (mW r)])) (hu:bz M1 M u 1 (bw L)) (hl:L.length<=n):
 OO q o b er t M1 ((L,n),r) (q::o::b::er::ids u) M':=by
 refine ⟨u,rfl,hC.trans hC' fun _ h _=>h,hq,ho,hb,he,hu.chg hC' fun i hi=> ?_,hl⟩
 have hn:=hu.new i hi
 simp only[List.mem_cons,List.not_mem_nil,or_false,not_or]
 exact ⟨fun e=>hn (e▸hO.oq),fun e=>hn (e▸hO.oo),fun e=>hn (e▸hO.ol),fun e=>hn (e▸hO.om)⟩
theorem FA {m0 M1:NH} {T:D4->Prop} {q o b er oc mo:D4} {t:Tm} {Z:List (List Nat)} (hO:BdO q o b er oc mo M1) (h1:NT.get D4.e.c t=some (.ptr oc 0)) (h2:NT.get D4.e.f t=some (.ptr b 0)) (h3:NT.get D4.e.a.a t=some (.ptr er 0)) (h4:NT.get D4.e.a.b t=some (.ptr o 0)) (hc:M1.get oc=some (.cells true [.map mo])) (hm:M1.get mo=some (.map (fZ Z)))
 (h0:∀S,Chg [q,o,b,er] M1 S->Chg [] m0 S):Ylds q m0 T O1 (lp Z) (OO q o b er t M1):=by
 refine ⟨?_, ?_, ?_, ?_⟩
 ·rintro s F N ⟨u,rfl,hC,-⟩;exact h0 _ hC
 ·rintro s F N ⟨u,rfl,hC,hq,ho,hb,he,hu,hl⟩ i hi
  simp only[List.mem_cons] at hi
  rcases hi with rfl|rfl|rfl|rfl|hi
  ·exact hC.old hO.oq
  ·exact hC.old hO.oo
  ·exact hC.old hO.ol
  ·exact hC.old hO.om
  ·exact hu.sl.old i hi
 ·rintro s F N N' ⟨u,rfl,hC,hq,ho,hb,he,hu,hl⟩ hC'
  exact ⟨u,rfl,hC.trans hC' (by simp),(hC'.get (hC.old hO.oq) (by simp)).trans hq,(hC'.get (hC.old hO.oo) (by simp)).trans ho,(hC'.get (hC.old hO.ol) (by simp)).trans hb,(hC'.get (hC.old hO.om) (by simp)).trans he,hu.chg hC' fun _ _=>by simp,hl⟩
 ·rintro ⟨⟨L,n⟩,r⟩ F N x c ⟨u,rfl,hC,hq,ho,hb,he,hu,hl⟩ hR ⟨hA0,hA1,hA2⟩
  cases hA0
  have hq:N.get q=some (.loop 0 .none t [D4.e.b.c] eR eQ):=hq
  have hb:N.get b=some (.cells true [ii 0]):=hb
  have he:N.get er=some (.cells true [ii 0]):=he
  obtain ⟨w,rfl,hP⟩:=hR.inv'
  refine WY.ex1 fun K hK=> ?_
  refine WY.of_wp hq rfl eR.eq_1 eQ.eq_1 ?_
  change wp _ _ _ _ ⟨an [(D4.e.b.c,.agg (x.l w))] t, [],none,hp [] 0 N⟩ _
  have hl21:(x.l w).length=21:=rfl
  have hl21':(x.l w).take 21=x.l w:=rfl
  have oq:=hC.old hO.oq
  have oo:=hC.old hO.oo
  have ob:=hC.old hO.ol
  have oe:=hC.old hO.om
  have qo:=hO.qo
  have qo':=hO.qo.symm
  have qb:=hO.qb
  have qb':=hO.qb.symm
  have qe:=hO.qe
  have qe':=hO.qe.symm
  have obn:=hO.ob
  have obn':=hO.ob.symm
  have oen:=hO.oe
  have oen':=hO.oe.symm
  have ben:=hO.be
  have ben':=hO.be.symm
  have hcN:=(hC.get hO.og hO.cc).trans hc
  have hmN:=(hC.get hO.od hO.cd).trans hm
  have occ:=hC.old hO.og
  have omo:=hC.old hO.od
  simp (config:={maxSteps:=1000000}) (disch:=first|assumption|omega|exact ab (by omega)|exact aa (by assumption)|(simp only[ap]<;>omega)) only[go_sem,seval,h1,h2,h3,h4,hq,ho,hl21,hl21']
  generalize hM2:hp _ 1 N=M2
  have hC2:Chg [q] N M2:=by rw[←hM2];exact ao rfl
  have hcq:oc≠q:=fun e=>hO.cc (by simp[e])
  have hmq:mo≠q:=fun e=>hO.cd (by simp[e])
  have q2:M2.get q=some (.loop 1 .none t [D4.e.b.c] eR eQ):=by rw[←hM2];exact (aO oq).trans az
  have o2:M2.get o=some (.cells true [u]):=(hC2.get oo (by simpa using qo')).trans ho
  have e2:=(hC2.get oe (by simpa using qe')).trans he
  have b2:=(hC2.get ob (by simpa using qb')).trans hb
  have c2:=(hC2.get occ (by simpa using hcq)).trans hcN
  have d2:=(hC2.get omo (by simpa using hmq)).trans hmN
  have x2:M2.get (na N 0)=some (.cells true (x.l w)):=by rw[←hM2];exact av
  have ox2:ay M2 (na N 0):=by rw[←hM2];exact ab (by omega)
  have hC02:Chg [] m0 M2:=h0 _ (hC.trans (hC2.weak (T:= [q,o,b,er]) (by simp)) fun _ h _=>h)
  refine WF.use (yu hR hC02 hA1) ?_
  rintro v3 M3 ⟨hv3,hC3⟩
  have hC23:=hC2.trans hC3 (by simp)
  have q3:=(hC3.get (hC2.old oq) (by simp)).trans q2
  have o3:=(hC3.get (hC2.old oo) (by simp)).trans o2
  have x3:=(hC3.get ox2 (by simp)).trans x2
  have hqu:q∉ids u:=fun h=>hu.new _ h hO.oq
  have hou:o∉ids u:=fun h=>hu.new _ h hO.oo
  have hbu:b∉ids u:=fun h=>hu.new _ h hO.ol
  have heu:er∉ids u:=fun h=>hu.new _ h hO.om
  have hu3:bz M1 M3 u 1 (bw L):=hu.chg hC23 fun i hi=>by simp;rintro rfl;exact hqu hi
  have hus:br 4 u u=true:=hu.sl.same
  have ox3:=hC3.old ox2
  simp (config:={maxSteps:=1000000}) (disch:=first|assumption|omega|exact ab (by omega)|exact aa (by assumption)|(simp only[ap]<;>omega)) only[go_sem,seval,h1,h2,h3,h4,q3,o3,x3,hl21,hl21',hus]
  refine WF.use1 (uC M3 [1,2,3] rfl rfl (by decide)) ?_
  intro M4 hC4
  have t3:(x.l w)[3]? =some (.str x.ce):=rfl
  have t1:(x.l w)[1]? =some (ii x.a):=rfl
  have oq3:=hC3.old (hC2.old oq)
  have q4:=(hC4.get oq3 (by simp)).trans q3
  have oq4:=hC4.old oq3
  have oo3:=hC3.old (hC2.old oo)
  have o4:=(hC4.get oo3 (by simp)).trans o3
  have oo4:=hC4.old oo3
  have hC24:=hC3.trans hC4 (by simp)
  have b4:=(hC24.get (hC2.old ob) (by simp)).trans b2
  have ob4:=hC24.old (hC2.old ob)
  have e4:=(hC24.get (hC2.old oe) (by simp)).trans e2
  have oe4:=hC24.old (hC2.old oe)
  have c4:=(hC24.get (hC2.old occ) (by simp)).trans c2
  have d4:=(hC24.get (hC2.old omo) (by simp)).trans d2
  have x4:=(hC4.get ox3 (by simp)).trans x3
  have ox4:=hC4.old ox3
  have hx1:na N 0≠b:=fun e=>ob.ne 0 e.symm
  have hx2:na N 0≠er:=fun e=>oe.ne 0 e.symm
  have hx3:na N 0≠q:=fun e=>oq.ne 0 e.symm
  have hx4:na N 0≠o:=fun e=>oo.ne 0 e.symm
  have hL:L.length<=n:=hl
  have hA2':n+x.own.length<=100000000:=hA2
  have hu4:bz M1 M4 u 1 (bw L):=hu3.chg hC4 fun _ _=>by simp
  have hv4:=hv3.chg hC4 fun _ _=>by simp
  have hN4:Chg [q] N M4:=hC23.trans hC4 (by simp)
  have hM14:Chg [q,o,b,er] M1 M4:=hC.trans (hN4.weak (T:= [q,o,b,er]) (by simp)) fun _ h _=>h
  have hxu:na N 0∉ids u:=fun h=>(hu.sl.old _ h).ne 0 rfl
  have stop:∀e:Int,lp Z ((L,n),none) x=(((L,n),some (x.a,e)),false)->K (.bool false) (hp [(.o q,.loop 2 .ret t [D4.e.b.c] eR eQ),(.o er,.cells true [ii e]),(.o b,.cells true [ii x.a])] 0 M4):=by
   intro e hf
   rw[hf] at hK
   generalize hM5:hp _ 0 M4=M5
   have hC5:Chg [q,er,b] M4 M5:=by rw[←hM5];exact ao rfl
   have hC5':Chg [q,o,b,er] M4 M5:=hC5.weak (by simp)
   refine hK M5 ⟨_,tz hO hM14 hC5' ?_ ?_ ?_ ?_ hu4 hl, ?_,fun i hi=>Or.inl hi⟩
   ·rw[←hM5];exact (aO oq4).trans az
   ·exact (hC5.get oo4 (by simp[qo',oen,obn])).trans o4
   ·rw[←hM5];exact (aO ob4).trans ((bh qb').trans ((bh ben).trans az))
   ·rw[←hM5];exact (aO oe4).trans ((bh qe').trans az)
   ·exact (hN4.weak (T:=q::o::b::er::ids u) (by simp)).trans hC5' (fun i h _=>by simp at h ⊢;rcases h with h|h|h|h<;>simp[h])
  by_cases hk:x.k=1∨x.k=2∨x.k=3
  ·rw[decide_eq_true (by simpa using hk:x.k∈ [1,2,3])]
   by_cases hz:x.ce∈Z
   ·have hz':decide (x.ce∈Z)=true:=decide_eq_true hz
    have hnz:¬((x.k=1∨x.k=2∨x.k=3)/\x.ce∉Z):=fun h=>h.2 hz
    by_cases hn:∃n∈x.own,n∈Z
    ·have cof:=yz hv4.sl c4 d4 (by omega)
     rw[decide_eq_true hn] at cof
     simp (config:={maxSteps:=1000000}) (disch:=first|assumption|omega|exact ab (by omega)|exact aa (by assumption)|(simp only[ap]<;>omega)) only[go_sem,seval,h1,h2,h3,h4,q4,o4,x4,c4,d4,b4,e4,hl21,hl21',hus,t3,t1,hz']
     refine WF.use1H ⟨M4,cof,rfl⟩ ?_
     rintro _ rfl
     simp (config:={maxSteps:=1000000}) (disch:=first|assumption|omega|exact ab (by omega)|exact aa (by assumption)|(simp only[ap]<;>omega)) only[go_sem,seval,h1,h2,h3,h4,q4,o4,x4,c4,d4,b4,e4,hl21,hl21',hus,t3,t1]
     exact stop 6 (by unfold lp;rw[if_neg hnz,if_pos hn])
    ·have cof:=yz hv4.sl c4 d4 (by omega)
     rw[decide_eq_false hn] at cof
     simp (config:={maxSteps:=1000000}) (disch:=first|assumption|omega|exact ab (by omega)|exact aa (by assumption)|(simp only[ap]<;>omega)) only[go_sem,seval,h1,h2,h3,h4,q4,o4,x4,c4,d4,b4,e4,hl21,hl21',hus,t3,t1,hz',cof.wf']
     refine WF.use (wg hu4 hv4.sl (fun i hi hiu=>hv4.new i hi (hC2.old (hu.sl.old i hiu))) (fun i hi=>hC4.old (hC3.old (hC2.old (hC.old hi)))) (by show L.length+x.own.length<=_;omega)) ?_
     rintro v5 M5 ⟨hv5,hC5,hF5⟩
     have hq5:=(hC5.get oq4 hqu).trans q4
     have hoq5:=hC5.old oq4
     have ho5:=(hC5.get oo4 hou).trans o4
     have hoo5:=hC5.old oo4
     have hb5:=(hC5.get ob4 hbu).trans b4
     have hob5:=hC5.old ob4
     have he5:=(hC5.get oe4 heu).trans e4
     have hoe5:=hC5.old oe4
     have hx5:=(hC5.get ox4 hxu).trans x4
     have hox5:=hC5.old ox4
     have hlen5:=hv5.sl.len
     rw[List.length_map] at hlen5
     have hfl:=b9 x.own L
     rw[←ag M5]
     have hM15:Chg [q,o,b,er] M1 M5:=hM14.trans hC5 fun i hi ho=>absurd ho (hu.new i hi)
     have hN5:Chg (q::o::b::er::ids u) N M5:=(hN4.weak (T:=q::o::b::er::ids u) (by simp)).trans hC5 fun i h _=>by simp[h]
     have hF:∀i∈q::o::b::er::ids v5,i∈q::o::b::er::ids u∨¬ay N i:=by
      intro i hi
      simp only[List.mem_cons] at hi ⊢
      rcases hi with rfl|rfl|rfl|rfl|hi
      ·simp
      ·simp
      ·simp
      ·simp
      ·rcases hF5 i hi with h|h
       ·exact Or.inl (Or.inr (Or.inr (Or.inr (Or.inr h))))
       ·exact Or.inr fun ho=>h (hN4.old ho)
     by_cases h12:12<(x.own.foldl aP L).length
     ·have hf:lp Z ((L,n),none) x=(((x.own.foldl aP L,n+x.own.length),some (x.a,3)),false):=by unfold lp;rw[if_neg hnz,if_neg hn,if_pos h12]
      rw[hf] at hK
      simp (config:={maxSteps:=1000000}) (disch:=first|assumption|omega|exact ab (by omega)|exact aa (by assumption)|(simp only[ap]<;>omega)) only[go_sem,seval,h1,h2,h3,h4,hq5,ho5,hx5,hb5,he5,hl21,hl21',t1,hv5.sl.one,hlen5,h12]
      generalize hM6:hp _ 0 M5=M6
      have hC6:Chg [q,er,b,o] M5 M6:=by rw[←hM6];exact ao rfl
      have hC6':Chg [q,o,b,er] M5 M6:=hC6.weak (by simp)
      refine hK M6 ⟨_,tz hO hM15 hC6' ?_ ?_ ?_ ?_ hv5 (by show _<=n+_;have:L.length<=n:=hl;omega),hN5.trans hC6' (fun i h _=>by simp at h ⊢;rcases h with h|h|h|h<;>simp[h]),hF⟩
      ·rw[←hM6];exact (aO hoq5).trans az
      ·rw[←hM6];exact (aO hoo5).trans ((bh qo').trans ((bh oen).trans ((bh obn).trans az)))
      ·rw[←hM6];exact (aO hob5).trans ((bh qb').trans ((bh ben).trans az))
      ·rw[←hM6];exact (aO hoe5).trans ((bh qe').trans az)
     ·have hf:lp Z ((L,n),none) x=(((x.own.foldl aP L,n+x.own.length),none),true):=by unfold lp;rw[if_neg hnz,if_neg hn,if_neg h12]
      rw[hf] at hK
      simp (config:={maxSteps:=1000000}) (disch:=first|assumption|omega|exact ab (by omega)|exact aa (by assumption)|(simp only[ap]<;>omega)) only[go_sem,seval,h1,h2,h3,h4,hq5,ho5,hx5,hb5,he5,hl21,hl21',t1,hv5.sl.one,hlen5,h12]
      generalize hM6:hp _ 0 M5=M6
      have hC6:Chg [q,o] M5 M6:=by rw[←hM6];exact ao rfl
      have hC6':Chg [q,o,b,er] M5 M6:=hC6.weak (by simp)
      refine hK M6 ⟨_,tz hO hM15 hC6' ?_ ?_ ?_ ?_ hv5 (by show _<=n+_;have:L.length<=n:=hl;omega),hN5.trans hC6' (fun i h _=>by simp at h ⊢;rcases h with h|h|h|h<;>simp[h]),hF⟩
      ·rw[←hM6];exact (aO hoq5).trans az
      ·rw[←hM6];exact (aO hoo5).trans ((bh qo').trans az)
      ·exact (hC6.get hob5 (by simp[qb',obn'])).trans hb5
      ·exact (hC6.get hoe5 (by simp[qe',oen'])).trans he5
   ·have hz':decide (x.ce∈Z)=false:=decide_eq_false hz
    rw[←ag M4]
    simp (config:={maxSteps:=1000000}) (disch:=first|assumption|omega|exact ab (by omega)|exact aa (by assumption)|(simp only[ap]<;>omega)) only[go_sem,seval,h1,h2,h3,h4,q4,o4,x4,c4,d4,b4,e4,hl21,hl21',hus,t3,t1,hz']
    exact stop 4 (by unfold lp;rw[if_pos ⟨hk,hz⟩])
  ·rw[decide_eq_false (by simpa using hk:x.k∉ [1,2,3])]
   have hnz:¬((x.k=1∨x.k=2∨x.k=3)/\x.ce∉Z):=fun h=>hk h.1
   by_cases hn:∃n∈x.own,n∈Z
   ·have cof:=yz hv4.sl c4 d4 (by omega)
    rw[decide_eq_true hn] at cof
    simp (config:={maxSteps:=1000000}) (disch:=first|assumption|omega|exact ab (by omega)|exact aa (by assumption)|(simp only[ap]<;>omega)) only[go_sem,seval,h1,h2,h3,h4,q4,o4,x4,c4,d4,b4,e4,hl21,hl21',hus,t3,t1]
    refine WF.use1H ⟨M4,cof,rfl⟩ ?_
    rintro _ rfl
    simp (config:={maxSteps:=1000000}) (disch:=first|assumption|omega|exact ab (by omega)|exact aa (by assumption)|(simp only[ap]<;>omega)) only[go_sem,seval,h1,h2,h3,h4,q4,o4,x4,c4,d4,b4,e4,hl21,hl21',hus,t3,t1]
    exact stop 6 (by unfold lp;rw[if_neg hnz,if_pos hn])
   ·have cof:=yz hv4.sl c4 d4 (by omega)
    rw[decide_eq_false hn] at cof
    simp (config:={maxSteps:=1000000}) (disch:=first|assumption|omega|exact ab (by omega)|exact aa (by assumption)|(simp only[ap]<;>omega)) only[go_sem,seval,h1,h2,h3,h4,q4,o4,x4,c4,d4,b4,e4,hl21,hl21',hus,t3,t1,cof.wf']
    refine WF.use (wg hu4 hv4.sl (fun i hi hiu=>hv4.new i hi (hC2.old (hu.sl.old i hiu))) (fun i hi=>hC4.old (hC3.old (hC2.old (hC.old hi)))) (by show L.length+x.own.length<=_;omega)) ?_
    rintro v5 M5 ⟨hv5,hC5,hF5⟩
    have hq5:=(hC5.get oq4 hqu).trans q4
    have hoq5:=hC5.old oq4
    have ho5:=(hC5.get oo4 hou).trans o4
    have hoo5:=hC5.old oo4
    have hb5:=(hC5.get ob4 hbu).trans b4
    have hob5:=hC5.old ob4
    have he5:=(hC5.get oe4 heu).trans e4
    have hoe5:=hC5.old oe4
    have hx5:=(hC5.get ox4 hxu).trans x4
    have hox5:=hC5.old ox4
    have hlen5:=hv5.sl.len
    rw[List.length_map] at hlen5
    have hfl:=b9 x.own L
    rw[←ag M5]
    have hM15:Chg [q,o,b,er] M1 M5:=hM14.trans hC5 fun i hi ho=>absurd ho (hu.new i hi)
    have hN5:Chg (q::o::b::er::ids u) N M5:=(hN4.weak (T:=q::o::b::er::ids u) (by simp)).trans hC5 fun i h _=>by simp[h]
    have hF:∀i∈q::o::b::er::ids v5,i∈q::o::b::er::ids u∨¬ay N i:=by
     intro i hi
     simp only[List.mem_cons] at hi ⊢
     rcases hi with rfl|rfl|rfl|rfl|hi
     ·simp
     ·simp
     ·simp
     ·simp
     ·rcases hF5 i hi with h|h
      ·exact Or.inl (Or.inr (Or.inr (Or.inr (Or.inr h))))
      ·exact Or.inr fun ho=>h (hN4.old ho)
    by_cases h12:12<(x.own.foldl aP L).length
    ·have hf:lp Z ((L,n),none) x=(((x.own.foldl aP L,n+x.own.length),some (x.a,3)),false):=by unfold lp;rw[if_neg hnz,if_neg hn,if_pos h12]
     rw[hf] at hK
     simp (config:={maxSteps:=1000000}) (disch:=first|assumption|omega|exact ab (by omega)|exact aa (by assumption)|(simp only[ap]<;>omega)) only[go_sem,seval,h1,h2,h3,h4,hq5,ho5,hx5,hb5,he5,hl21,hl21',t1,hv5.sl.one,hlen5,h12]
     generalize hM6:hp _ 0 M5=M6
     have hC6:Chg [q,er,b,o] M5 M6:=by rw[←hM6];exact ao rfl
     have hC6':Chg [q,o,b,er] M5 M6:=hC6.weak (by simp)
     refine hK M6 ⟨_,tz hO hM15 hC6' ?_ ?_ ?_ ?_ hv5 (by show _<=n+_;have:L.length<=n:=hl;omega),hN5.trans hC6' (fun i h _=>by simp at h ⊢;rcases h with h|h|h|h<;>simp[h]),hF⟩
     ·rw[←hM6];exact (aO hoq5).trans az
     ·rw[←hM6];exact (aO hoo5).trans ((bh qo').trans ((bh oen).trans ((bh obn).trans az)))
     ·rw[←hM6];exact (aO hob5).trans ((bh qb').trans ((bh ben).trans az))
     ·rw[←hM6];exact (aO hoe5).trans ((bh qe').trans az)
    ·have hf:lp Z ((L,n),none) x=(((x.own.foldl aP L,n+x.own.length),none),true):=by unfold lp;rw[if_neg hnz,if_neg hn,if_neg h12]
     rw[hf] at hK
     simp (config:={maxSteps:=1000000}) (disch:=first|assumption|omega|exact ab (by omega)|exact aa (by assumption)|(simp only[ap]<;>omega)) only[go_sem,seval,h1,h2,h3,h4,hq5,ho5,hx5,hb5,he5,hl21,hl21',t1,hv5.sl.one,hlen5,h12]
     generalize hM6:hp _ 0 M5=M6
     have hC6:Chg [q,o] M5 M6:=by rw[←hM6];exact ao rfl
     have hC6':Chg [q,o,b,er] M5 M6:=hC6.weak (by simp)
     refine hK M6 ⟨_,tz hO hM15 hC6' ?_ ?_ ?_ ?_ hv5 (by show _<=n+_;have:L.length<=n:=hl;omega),hN5.trans hC6' (fun i h _=>by simp at h ⊢;rcases h with h|h|h|h<;>simp[h]),hF⟩
     ·rw[←hM6];exact (aO hoq5).trans az
     ·rw[←hM6];exact (aO hoo5).trans ((bh qo').trans az)
     ·exact (hC6.get hob5 (by simp[qb',obn'])).trans hb5
     ·exact (hC6.get hoe5 (by simp[qe',oen'])).trans he5
end FR
open Go Nm Go.Proofs
namespace FR
set_option linter.unusedSimpArgs false
set_option linter.unusedVariables false
theorem Nz {P:Program} {S:Nat->List NV->Option NV} {r:Option D4} {A B C:NC} {n:Nat} {d:Dyn} {Q:Out->Dyn->Prop} (Φ:Dyn->Prop) (h1:∀R:Dyn->Prop,(∀d',Φ d'->R d')->wp P S r A d (cW R Q)) (h2:∀d',Φ d'->wp P S r B d' (hJ n (cW (Dy P S r C Q) Q))):wp P S r (.seq A (.seq (.block n B) C)) d Q:=h1 _ h2
abbrev qI:=(List (List Nat)×Nat)×Option (Int×Int)
def kQ (Z L:List (List Nat)) (x:Stm):Int:=if e6 Z (if (x.k=1∨x.k=2∨x.k=3)/\x.ce∉Z then 4 else 0) x.own=0/\12<L.length then 3 else e6 Z (if (x.k=1∨x.k=2∨x.k=3)/\x.ce∉Z then 4 else 0) x.own
def Hi (a e:Int):Option (Int×Int):=if e=0 then none else some (a,e)
def nX (Z:List (List Nat)) (st:qI) (x:Stm):qI×Bool:=
 (((x.own.foldl aP st.1.1,st.1.2+x.own.length),Hi x.a (kQ Z (x.own.foldl aP st.1.1) x)),decide (kQ Z (x.own.foldl aP st.1.1) x=0))
def iq (Z:List (List Nat)) (l:List Stm) (st:qI):qI:=if st.2=none then (a6 (nX Z) (bk l) st).1 else st
theorem tu {a e:Int}:Hi a e=none↔e=0:=by unfold Hi;split<;>simp_all
theorem ql {Z:List (List Nat)} (l:List Stm):∀st:qI,st.2=none->((a6 (nX Z) l st).2=true↔(a6 (nX Z) l st).1.2=none):=by
 induction l with
 |nil=>intro st h;simp[a6,h]
 |cons x l ih=>
  intro st h
  rw[a6]
  by_cases he:kQ Z (x.own.foldl aP st.1.1) x=0
  ·have h2:(nX Z st x).2=true:=decide_eq_true he
   rw[if_pos h2]
   exact ih _ (tu.2 he)
  ·have h2:(nX Z st x).2=false:=decide_eq_false he
   rw[h2,if_neg (by simp),h2]
   simp only[Bool.false_eq_true,false_iff]
   exact fun q=>he (tu.1 q)
theorem G0 {Z:List (List Nat)} (a b:List Stm) (st:qI) (f:List Stm->qI->qI) (hf:∀l st,f l st=if st.2=none then (a6 (nX Z) l st).1 else st):f (a++b) st=f b (f a st):=by
 by_cases h:st.2=none
 ·rw[hf (a++b),if_pos h,dS,hf a,if_pos h]
  by_cases h2:(a6 (nX Z) a st).1.2=none
  ·rw[if_pos ((ql a st h).2 h2),hf b,if_pos h2]
  ·rw[if_neg fun q=>h2 ((ql a st h).1 q),hf b,if_neg h2]
 ·rw[hf (a++b),if_neg h,hf a,if_neg h,hf b,if_neg h]
def dU (Z:List (List Nat)) (l:List Stm) (st:qI):qI:=if st.2=none then (a6 (nX Z) l st).1 else st
theorem kT {Z:List (List Nat)} {l:List Stm} {st:qI}:iq Z l st=dU Z (bk l) st:=rfl
theorem ld {Z:List (List Nat)} (a b:List Stm) (st:qI):dU Z (a++b) st=dU Z b (dU Z a st):=G0 a b st (dU Z) fun _ _=>rfl
theorem BL {Z:List (List Nat)} (x:Stm) (l:List Stm) (st:qI):iq Z (x::l) st=iq Z l (dU Z x.all st):=by rw[kT,bk,ld];rfl
theorem qz {Z:List (List Nat)} {l:List Stm} {st:qI} (h:st.2≠none):dU Z l st=st:=if_neg h
theorem Dc {Z:List (List Nat)} {x:Stm} {st:qI} (h:st.2=none):dU Z x.all st=iq Z (if x.k=6 then x.e else []) (iq Z (if x.k=6∨x.k=7 then x.b else []) (nX Z st x).1):=by
 have e1:dU Z [x] st=(nX Z st x).1:=by
  unfold dU;rw[if_pos h,a6]
  split<;>rfl
 rw[nK,show x::((if x.k=6∨x.k=7 then bk x.b else [])++(if x.k=6 then bk x.e else []))= [x]++((if x.k=6∨x.k=7 then bk x.b else [])++(if x.k=6 then bk x.e else [])) from rfl,ld,ld,e1,kT,kT]
 have e2:∀(p:Prop) [Decidable p] (l:List Stm),bk (if p then l else [])=if p then bk l else []:=by intro p _ l;split<;>rfl
 rw[e2,e2]
theorem D7 {Z:List (List Nat)} (l:List Stm):∀st:qI,(dU Z l st).1.2<=st.1.2+(l.flatMap Stm.own).length/\((dU Z l st).2≠none->st.2=none->mW (dU Z l st).2≠0)/\(st.1.1.length<=st.1.2->(dU Z l st).1.1.length<=(dU Z l st).1.2):=by
 induction l with
 |nil=>
  intro st
  have e:dU Z [] st=st:=by unfold dU;split<;>rfl
  rw[e]
  exact ⟨by simp,fun q r=>absurd r q,fun q=>q⟩
 |cons x l ih=>
  intro st
  by_cases h:st.2=none
  ·have e:dU Z (x::l) st=dU Z l (nX Z st x).1:=by
    have:=ld (Z:=Z) [x] l st
    rw[List.singleton_append] at this
    rw[this]
    congr 1
    unfold dU;rw[if_pos h,a6]
    split<;>rfl
   obtain ⟨h1,h2,h3⟩:=ih (nX Z st x).1
   rw[e,List.flatMap_cons,List.length_append]
   have hn:(nX Z st x).1.1.2=st.1.2+x.own.length:=rfl
   have hl:(nX Z st x).1.1.1=x.own.foldl aP st.1.1:=rfl
   have hfl:=b9 x.own st.1.1
   refine ⟨by omega,fun q _=> ?_,fun q=>h3 (by rw[hn,hl];omega)⟩
   by_cases h4:(nX Z st x).1.2=none
   ·exact h2 q h4
   ·rw[qz h4]
    have:(nX Z st x).1.2=Hi x.a (kQ Z (x.own.foldl aP st.1.1) x):=rfl
    rw[this] at h4 ⊢
    unfold Hi at h4 ⊢
    split
    ·rename_i q;rw[if_pos q] at h4;exact absurd rfl h4
    ·assumption
  ·rw[qz h]
   exact ⟨by omega,fun _ q=>absurd q h,fun q=>q⟩
end FR
