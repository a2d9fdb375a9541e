/- Contracts of functions that the law LowerFresh reaches, part 0. -/
import Derived.Test.YtcpilcplobihkaaLfc
open Go Nm Go.Proofs
namespace FR
set_option linter.unusedSimpArgs false
set_option linter.unusedVariables false
abbrev u8 (c:Nat):NV:= .int .u8 (.lit (c:Int))
abbrev u64 (n:Nat):NV:= .int .u64 (.lit (n:Int))
inductive Ex where
 |mk (k:Int) (n o:Nat) (s:List Nat) (ks:List Ex)
inductive Stm where
 |mk (k a:Int) (nm ce:List Nat) (i x y:Ex) (b e:List Stm)
theorem Ex.ind {P:Ex->Prop} (h:∀k n o s ks,(∀x∈ks,P x)->P (.mk k n o s ks)):∀x,P x
 | .mk k n o s ks=>h k n o s ks fun x _=>Ex.ind h x
theorem Stm.ind {P:Stm->Prop} (h:∀k a nm ce i x y b e,(∀s∈b,P s)->(∀s∈e,P s)->P (.mk k a nm ce i x y b e)):∀s,P s
 | .mk k a nm ce i x y b e=>h k a nm ce i x y b e (fun s _=>Stm.ind h s) (fun s _=>Stm.ind h s)
inductive RE (m:NH) (T:D4->Prop):Ex->List NV->Prop
 |mk {k:Int} {n o:Nat} {s:List Nat} {ks:List Ex} {v:NV} {C:List (List NV)} (hv:Sl m v 5 C) (hT:∀i∈ids v,T i) (hl:C.length=ks.length) (h:∀(i:Nat) (x:Ex) (c:List NV),ks[i]? =some x->C[i]? =some c->RE m T x c):
  RE m T (.mk k n o s ks) [ii k,u64 n,u8 o,.str s,v]
inductive RS (m:NH) (T:D4->Prop):Stm->List NV->Prop
 |mk {k a:Int} {nm ce:List Nat} {i x y:Ex} {b e:List Stm} {ci cx cy:List NV} {vb ve:NV} {B E:List (List NV)} (hi:RE m T i ci) (hx:RE m T x cx) (hy:RE m T y cy)
  (hb:Sl m vb 21 B) (hbT:∀i∈ids vb,T i) (hbl:B.length=b.length) (hbR:∀(j:Nat) (s:Stm) (c:List NV),b[j]? =some s->B[j]? =some c->RS m T s c)
  (he:Sl m ve 21 E) (heT:∀i∈ids ve,T i) (hel:E.length=e.length) (heR:∀(j:Nat) (s:Stm) (c:List NV),e[j]? =some s->E[j]? =some c->RS m T s c):
  RS m T (.mk k a nm ce i x y b e) ([ii k,ii a,.str nm,.str ce]++ci++cx++cy++ [vb,ve])
def bi (T:D4->Prop) (m m':NH):Prop:=∀i,T i->aC m i->m'.get i=m.get i/\aC m' i
theorem qW {m m':NH} (h:Chg [] m m') (T:D4->Prop):bi T m m':=fun _ _ ho=>⟨h.get ho (by simp),h.old ho⟩
theorem bi.of {S:List D4} {m m':NH} {T:D4->Prop} (h:Chg S m m') (hT:∀i,T i->i∉S):bi T m m':=fun i hi ho=>⟨h.get ho (hT i hi),h.old ho⟩
theorem fa {m M:NH} {l:List (AK×NO)} {k:Nat} (h:Chg [] m M) (e:aU l= []):Chg [] m (hp l k M):=h.trans (an e) (by simp)
theorem fq {m m':NH} {T:D4->Prop} {v:NV} {e:Nat} {C:List (List NV)} (h:Sl m v e C) (hT:∀i∈ids v,T i) (hs:bi T m m'):Sl m' v e C:=by
 obtain ⟨h0,⟨rfl,rfl⟩|⟨id,off,kc,w,c,rfl,h1,h2,h3,h4⟩⟩:=h
 ·exact ⟨h0,Or.inl ⟨rfl,rfl⟩⟩
 ·obtain ⟨g1,g2⟩:=hs id (hT id (List.mem_cons_self ..)) h2
  exact ⟨h0,Or.inr ⟨id,off,kc,w,c,rfl,g1.trans h1,g2,h3,h4⟩⟩
theorem RE.stays {m m':NH} {T:D4->Prop} (hs:bi T m m') {x:Ex} {c:List NV} (h:RE m T x c):RE m' T x c:=by
 induction h with
 |mk hv hT hl h ih=>exact .mk (fq hv hT hs) hT hl ih
theorem RE.weak {m:NH} {T T':D4->Prop} (hT':∀i,T i->T' i) {x:Ex} {c:List NV} (h:RE m T x c):RE m T' x c:=by
 induction h with
 |mk hv hT hl h ih=>exact .mk hv (fun i hi=>hT' i (hT i hi)) hl ih
theorem RS.stays {m m':NH} {T:D4->Prop} (hs:bi T m m') {x:Stm} {c:List NV} (h:RS m T x c):RS m' T x c:=by
 induction h with
 |mk hi hx hy hb hbT hbl hbR he heT hel heR ih1 ih2=>exact .mk (hi.stays hs) (hx.stays hs) (hy.stays hs) (fq hb hbT hs) hbT hbl ih1 (fq he heT hs) heT hel ih2
theorem RS.weak {m:NH} {T T':D4->Prop} (hT':∀i,T i->T' i) {x:Stm} {c:List NV} (h:RS m T x c):RS m T' x c:=by
 induction h with
 |mk hi hx hy hb hbT hbl hbR he heT hel heR ih1 ih2=>exact .mk (hi.weak hT') (hx.weak hT') (hy.weak hT') hb (fun i q=>hT' i (hbT i q)) hbl ih1 he (fun i q=>hT' i (heT i q)) hel ih2
structure SE (m:NH) (T:D4->Prop) (v:NV) (l:List Ex) (C:List (List NV)):Prop where
 sl:Sl m v 5 C
 hT:∀i∈ids v,T i
 len:C.length=l.length
 R:∀(i:Nat) (x:Ex) (c:List NV),l[i]? =some x->C[i]? =some c->RE m T x c
structure SS (m:NH) (T:D4->Prop) (v:NV) (l:List Stm) (C:List (List NV)):Prop where
 sl:Sl m v 21 C
 hT:∀i∈ids v,T i
 len:C.length=l.length
 R:∀(i:Nat) (x:Stm) (c:List NV),l[i]? =some x->C[i]? =some c->RS m T x c
theorem RE.inv {m:NH} {T:D4->Prop} {k:Int} {n o:Nat} {s:List Nat} {ks:List Ex} {c:List NV} (h:RE m T (.mk k n o s ks) c):∃v C,c= [ii k,u64 n,u8 o,.str s,v]/\SE m T v ks C:=by
 cases h with
 |mk hv hT hl h=>exact ⟨_,_,rfl,hv,hT,hl,h⟩
theorem RE.of {m:NH} {T:D4->Prop} {k:Int} {n o:Nat} {s:List Nat} {ks:List Ex} {v:NV} {C:List (List NV)} (h:SE m T v ks C):RE m T (.mk k n o s ks) [ii k,u64 n,u8 o,.str s,v]:= .mk h.sl h.hT h.len h.R
theorem RE.len {m:NH} {T:D4->Prop} {x:Ex} {c:List NV} (h:RE m T x c):c.length=5:=by cases h;rfl
theorem RS.len {m:NH} {T:D4->Prop} {x:Stm} {c:List NV} (h:RS m T x c):c.length=21:=by
 cases h with
 |mk hi hx hy=>simp[hi.len,hx.len,hy.len]
def Ex.k:Ex->Int| .mk k _ _ _ _=>k
def Ex.n:Ex->Nat| .mk _ n _ _ _=>n
def Ex.o:Ex->Nat| .mk _ _ o _ _=>o
def Ex.s:Ex->List Nat| .mk _ _ _ s _=>s
def Ex.ks:Ex->List Ex| .mk _ _ _ _ ks=>ks
abbrev Ex.l (x:Ex) (v:NV):List NV:= [ii x.k,u64 x.n,u8 x.o,.str x.s,v]
theorem RE.inv' {m:NH} {T:D4->Prop} {x:Ex} {c:List NV} (h:RE m T x c):∃v C,c=x.l v/\SE m T v x.ks C:=by
 cases x;exact h.inv
theorem RS.inv {m:NH} {T:D4->Prop} {k a:Int} {nm ce:List Nat} {i x y:Ex} {b e:List Stm} {c:List NV} (h:RS m T (.mk k a nm ce i x y b e) c):
 ∃vi vx vy vb ve B E,c= [ii k,ii a,.str nm,.str ce,ii i.k,u64 i.n,u8 i.o,.str i.s,vi,ii x.k,u64 x.n,u8 x.o,.str x.s,vx,ii y.k,u64 y.n,u8 y.o,.str y.s,vy,vb,ve]/\
  RE m T i (i.l vi)/\RE m T x (x.l vx)/\RE m T y (y.l vy)/\SS m T vb b B/\SS m T ve e E:=by
 cases h with
 |mk hi hx hy hb hbT hbl hbR he heT hel heR=>
  obtain ⟨vi,Ci,rfl,-⟩:=hi.inv'
  obtain ⟨vx,Cx,rfl,-⟩:=hx.inv'
  obtain ⟨vy,Cy,rfl,-⟩:=hy.inv'
  exact ⟨vi,vx,vy,_,_,_,_,rfl,hi,hx,hy,⟨hb,hbT,hbl,hbR⟩,⟨he,heT,hel,heR⟩⟩
theorem SE.stays {m m':NH} {T:D4->Prop} (hs:bi T m m') {v:NV} {l:List Ex} {C:List (List NV)} (h:SE m T v l C):SE m' T v l C:=⟨fq h.sl h.hT hs,h.hT,h.len,fun i x c a b=>(h.R i x c a b).stays hs⟩
theorem SS.stays {m m':NH} {T:D4->Prop} (hs:bi T m m') {v:NV} {l:List Stm} {C:List (List NV)} (h:SS m T v l C):SS m' T v l C:=⟨fq h.sl h.hT hs,h.hT,h.len,fun i x c a b=>(h.R i x c a b).stays hs⟩
theorem SE.at {m:NH} {T:D4->Prop} {v:NV} {l:List Ex} {C:List (List NV)} (h:SE m T v l C) (i:Nat) (hi:i<l.length):∃c,C[i]? =some c/\RE m T l[i] c:=by
 have hc:i<C.length:=by rw[h.len];exact hi
 exact ⟨C[i],List.getElem?_eq_getElem hc,h.R i _ _ (List.getElem?_eq_getElem hi) (List.getElem?_eq_getElem hc)⟩
theorem SS.at {m:NH} {T:D4->Prop} {v:NV} {l:List Stm} {C:List (List NV)} (h:SS m T v l C) (i:Nat) (hi:i<l.length):∃c,C[i]? =some c/\RS m T l[i] c:=by
 have hc:i<C.length:=by rw[h.len];exact hi
 exact ⟨C[i],List.getElem?_eq_getElem hc,h.R i _ _ (List.getElem?_eq_getElem hi) (List.getElem?_eq_getElem hc)⟩
def zE:Ex:= .mk 0 0 0 [] []
theorem Av (m:NH) (T:D4->Prop) (k:Int) (n o:Nat) (s:List Nat):RE m T (.mk k n o s []) [ii k,u64 n,u8 o,.str s,.nils]:= .mk (C:= []) Sl.nil (by simp[ids]) rfl (by simp)
structure SV where
 (vi vx vy vb ve:NV)
def Stm.k:Stm->Int| .mk k _ _ _ _ _ _ _ _=>k
def Stm.a:Stm->Int| .mk _ a _ _ _ _ _ _ _=>a
def Stm.nm:Stm->List Nat| .mk _ _ s _ _ _ _ _ _=>s
def Stm.ce:Stm->List Nat| .mk _ _ _ s _ _ _ _ _=>s
def Stm.i:Stm->Ex| .mk _ _ _ _ x _ _ _ _=>x
def Stm.x:Stm->Ex| .mk _ _ _ _ _ x _ _ _=>x
def Stm.y:Stm->Ex| .mk _ _ _ _ _ _ x _ _=>x
def Stm.b:Stm->List Stm| .mk _ _ _ _ _ _ _ b _=>b
def Stm.e:Stm->List Stm| .mk _ _ _ _ _ _ _ _ e=>e
abbrev Stm.l (s:Stm) (w:SV):List NV:= [ii s.k,ii s.a,.str s.nm,.str s.ce,ii s.i.k,u64 s.i.n,u8 s.i.o,.str s.i.s,w.vi,ii s.x.k,u64 s.x.n,u8 s.x.o,.str s.x.s,w.vx,ii s.y.k,u64 s.y.n,u8 s.y.o,.str s.y.s,w.vy,w.vb,w.ve]
structure SP (m:NH) (T:D4->Prop) (s:Stm) (w:SV):Prop where
 i:RE m T s.i (s.i.l w.vi)
 x:RE m T s.x (s.x.l w.vx)
 y:RE m T s.y (s.y.l w.vy)
 b:∃B,SS m T w.vb s.b B
 e:∃E,SS m T w.ve s.e E
theorem RS.inv' {m:NH} {T:D4->Prop} {s:Stm} {c:List NV} (h:RS m T s c):∃w,c=s.l w/\SP m T s w:=by
 cases s
 obtain ⟨vi,vx,vy,vb,ve,B,E,rfl,h1,h2,h3,h4,h5⟩:=h.inv
 exact ⟨⟨vi,vx,vy,vb,ve⟩,rfl,h1,h2,h3,⟨B,h4⟩,⟨E,h5⟩⟩
end FR
open Go Nm Go.Proofs
namespace FR
set_option linter.unusedSimpArgs false
set_option linter.unusedVariables false
mutual
def Ex.names:Ex->List (List Nat)
 | .mk k _ _ s ks=>if k=1 then [s] else if k=2 then cg ks else []
def cg:List Ex->List (List Nat)
 | []=> []
 |x::xs=>x.names++cg xs
end
mutual
def Stm.all:Stm->List Stm
 | .mk k a nm ce i x y b e=> .mk k a nm ce i x y b e::((if k=6∨k=7 then bB b else [])++(if k=6 then bB e else []))
def bB:List Stm->List Stm
 | []=> []
 |s::l=>s.all++bB l
end
def Stm.own:Stm->List (List Nat)
 | .mk k _ nm _ i x y _ _=>(if k=0∨k=1∨k=3 then [nm] else [])++((if k=1∨k=2∨k=3 then i.names else [])++((if k=0∨k=2∨k=3∨k=5∨k=6∨k=7 then x.names else [])++(if k=3 then y.names else [])))
def locals (l:List Stm):List (List Nat):=((bB l).flatMap Stm.own).foldl cH []
mutual
def Ex.sz:Ex->Nat
 | .mk _ _ _ _ ks=>1+jr ks
def jr:List Ex->Nat
 | []=>0
 |x::xs=>x.sz+jr xs
end
mutual
def Stm.sz:Stm->Nat
 | .mk _ _ _ _ i x y b e=>1+i.sz+x.sz+y.sz+cn b+cn e
def cn:List Stm->Nat
 | []=>0
 |s::l=>s.sz+cn l
end
theorem H1 (x:Ex):1<=x.sz:=by cases x;rw[Ex.sz];omega
theorem xG (ks:List Ex):ks.length<=jr ks:=by
 induction ks with
 |nil=>simp
 |cons x ks ih=>have:=H1 x;rw[jr,List.length_cons];omega
theorem F0 (x:Stm):1<=x.sz:=by cases x;rw[Stm.sz];omega
theorem zh (ks:List Stm):ks.length<=cn ks:=by
 induction ks with
 |nil=>simp
 |cons x ks ih=>have:=F0 x;rw[cn,List.length_cons];omega
theorem fi:∀x:Ex,x.names.length<=x.sz:=by
 apply Ex.ind
 intro k n o s ks ih
 rw[Ex.names,Ex.sz]
 have:∀ks:List Ex,(∀x∈ks,x.names.length<=x.sz)->(cg ks).length<=jr ks:=by
  intro ks
  induction ks with
  |nil=>intro _;simp[cg]
  |cons x xs ih=>
   intro h
   have h1:=h x (List.mem_cons_self ..)
   have h2:=ih fun y hy=>h y (List.mem_cons_of_mem _ hy)
   rw[cg,jr,List.length_append];omega
 have:=this ks ih
 split
 ·simp
 ·split
  ·omega
  ·simp
theorem pJ (a b:List Ex):cg (a++b)=cg a++cg b:=by
 induction a with
 |nil=>rfl
 |cons x a ih=>rw[List.cons_append,cg,cg,ih,List.append_assoc]
theorem lW (a b:List Stm):bB (a++b)=bB a++bB b:=by
 induction a with
 |nil=>rfl
 |cons x a ih=>rw[List.cons_append,bB,bB,ih,List.append_assoc]
end FR
open Go Nm Go.Proofs
namespace FR
set_option linter.unusedSimpArgs false
set_option linter.unusedVariables false
noncomputable def S0:Nat->List NV->Option NV:=JG 19 [] (.bool true)<|Ma
abbrev AS (l:List Int):List (List NV):=l.map fun z=> [ii z]
abbrev cD (l:List (List Nat)):List (List NV):=l.map fun s=> [.str s]
def eD {α:Type} [DecidableEq α] (l:List α) (x:α):Int:=match l.findIdx? (fun a=>decide (x=a)) with|some i=>(i:Int)|none=>-1
theorem lK {α:Type} [DecidableEq α] {l:List α} {x:α} {i:Nat} (hi:i<l.length) (h:x=l[i]) (hn:∀j (hj:j<i),x≠l[j]'(by omega)):eD l x=i:=by
 unfold eD
 rw[List.findIdx?_eq_some_iff_getElem.mpr ⟨hi,by simp[h],fun j hj=>by simpa using hn j hj⟩]
theorem jf {α:Type} [DecidableEq α] {l:List α} {x:α} (hn:∀j (hj:j<l.length),x≠l[j]):eD l x=-1:=by
 unfold eD
 rw[List.findIdx?_eq_none_iff.mpr]
 intro y hy
 obtain ⟨j,hj,rfl⟩:=List.getElem_of_mem hy
 simpa using hn j hj
theorem sg {α:Type} [DecidableEq α] {l:List α} {x:α}:0<=eD l x↔x∈l:=by
 constructor
 ·intro h
  rcases Decidable.em (x∈l) with q|q
  ·exact q
  ·rw[jf fun j hj e=>q (by rw[e];exact List.getElem_mem hj)] at h;omega
 ·intro h
  unfold eD
  cases hf:l.findIdx? (fun a=>decide (x=a)) with
  |some i=>dsimp only;omega
  |none=>have:=List.findIdx?_eq_none_iff.mp hf x h;simp at this
theorem Ew {α:Type} [DecidableEq α] {l:List α} {x:α}:eD l x<l.length/\-1<=eD l x:=by
 unfold eD
 cases hf:l.findIdx? (fun a=>decide (x=a)) with
 |some i=>obtain ⟨h,-⟩:=List.findIdx?_eq_some_iff_getElem.mp hf;dsimp only;omega
 |none=>dsimp only;omega
theorem Ah {m:NH} {v:NV} {l:List Int} (hv:Sl m v 1 (AS l)) (hsz:l.length<=1099511627776) (x:Int):bI Try.prog S0 115 [v,ii x] m (ii (eD l x)) m:=by
 have h:∃r m',bI Try.prog S0 115 [v,ii x] m r m'/\r=ii (eD l x)/\m'=m:=by
  refine WF.ex fun K hK=> ?_
  refine WF.of_wpG (fun _=>rfl) sT (L:= [(.a .e,ii x),(.e,v)]) rfl ?_
  unfold DV
  have hlen:=hv.len
  rw[List.length_map] at hlen
  simp (disch:=first|assumption|omega) only[go_sem,seval,hlen]
  refine W.loop (fun k d=>∃t i,d=⟨t, [],none,hp [] 0 m⟩/\NT.get D4.e t=some v/\NT.get D4.e.a t=some (ii x)/\NT.get D4.e.a.c t=some (ii l.length)/\NT.get D4.e.a.f t=some (ii (i:Nat))/\i+k=l.length/\∀j (hj:j<i) (hl:j<l.length),x≠l[j]) ?_ l.length _ ⟨_,0,rfl,by simp only[go_sem,seval],by simp only[go_sem,seval],by simp only[go_sem,seval],by simp only[go_sem,seval]<;>rfl,by omega,by simp⟩
  rintro k d ⟨t,i,rfl,g1,g2,g3,g4,hik,hn⟩
  apply aK
  unfold ud
  change wp _ _ _ _ ⟨ak [] t, [],none,hp [] 0 m⟩ _
  by_cases hi:i<l.length
  ·obtain ⟨id,off,w,c,a1,a2,a3,a4,a5⟩:=hv.at i (by simpa using hi)
   rw[List.getElem_map] at a5
   have c0:=bz a5 0 (by omega)
   rw[Nat.add_zero] at c0
   by_cases he:x=l[i]
   ·have he':decide (x=l[i])=true:=decide_eq_true he
    simp (disch:=first|assumption|omega) only[go_sem,seval,g1,g2,g3,g4,a1,a2,c0,he']
    exact hK _ _ ⟨by rw[lK hi he fun j hj=>hn j hj (by omega)],ai m⟩
   ·have he':decide (x=l[i])=false:=decide_eq_false he
    simp (disch:=first|assumption|omega) only[go_sem,seval,g1,g2,g3,g4,a1,a2,c0,he']
    refine ⟨k - 1,by omega,_,i+1,by rfl, ?_, ?_, ?_, ?_,by omega, ?_⟩
    ·simp (disch:=first|assumption|omega) only[go_sem,seval,g1]
    ·simp (disch:=first|assumption|omega) only[go_sem,seval,g2]
    ·simp (disch:=first|assumption|omega) only[go_sem,seval,g3]
    ·simp (disch:=first|assumption|omega) only[go_sem,seval]<;>rfl
    ·intro j hj hl
     rcases Nat.lt_or_ge j i with h|h
     ·exact hn j h hl
     ·have:j=i:=by omega
      subst this;exact he
  ·simp (disch:=first|assumption|omega) only[go_sem,seval,g1,g2,g3,g4]
   exact hK _ _ ⟨by rw[jf fun j hj=>hn j (by omega) hj],ai m⟩
 obtain ⟨r,m',h1,rfl,rfl⟩:=h
 exact h1
theorem p8 {m:NH} {v:NV} {l:List (List Nat)} (hv:Sl m v 1 (cD l)) (hsz:l.length<=1099511627776) (x:List Nat):bI Try.prog S0 66 [v,(.str x)] m (ii (eD l x)) m:=by
 have h:∃r m',bI Try.prog S0 66 [v,(.str x)] m r m'/\r=ii (eD l x)/\m'=m:=by
  refine WF.ex fun K hK=> ?_
  refine WF.of_wpG (fun _=>rfl) zf (L:= [(.a .e,(.str x)),(.e,v)]) rfl ?_
  unfold IO
  have hlen:=hv.len
  rw[List.length_map] at hlen
  simp (disch:=first|assumption|omega) only[go_sem,seval,hlen]
  refine W.loop (fun k d=>∃t i,d=⟨t, [],none,hp [] 0 m⟩/\NT.get D4.e t=some v/\NT.get D4.e.a t=some ((.str x))/\NT.get D4.e.a.c t=some (ii l.length)/\NT.get D4.e.a.f t=some (ii (i:Nat))/\i+k=l.length/\∀j (hj:j<i) (hl:j<l.length),x≠l[j]) ?_ l.length _ ⟨_,0,rfl,by simp only[go_sem,seval],by simp only[go_sem,seval],by simp only[go_sem,seval],by simp only[go_sem,seval]<;>rfl,by omega,by simp⟩
  rintro k d ⟨t,i,rfl,g1,g2,g3,g4,hik,hn⟩
  apply aK
  unfold xB
  change wp _ _ _ _ ⟨ak [] t, [],none,hp [] 0 m⟩ _
  by_cases hi:i<l.length
  ·obtain ⟨id,off,w,c,a1,a2,a3,a4,a5⟩:=hv.at i (by simpa using hi)
   rw[List.getElem_map] at a5
   have c0:=bz a5 0 (by omega)
   rw[Nat.add_zero] at c0
   by_cases he:x=l[i]
   ·have he':decide (x=l[i])=true:=decide_eq_true he
    simp (disch:=first|assumption|omega) only[go_sem,seval,g1,g2,g3,g4,a1,a2,c0,he']
    exact hK _ _ ⟨by rw[lK hi he fun j hj=>hn j hj (by omega)],ai m⟩
   ·have he':decide (x=l[i])=false:=decide_eq_false he
    simp (disch:=first|assumption|omega) only[go_sem,seval,g1,g2,g3,g4,a1,a2,c0,he']
    refine ⟨k - 1,by omega,_,i+1,by rfl, ?_, ?_, ?_, ?_,by omega, ?_⟩
    ·simp (disch:=first|assumption|omega) only[go_sem,seval,g1]
    ·simp (disch:=first|assumption|omega) only[go_sem,seval,g2]
    ·simp (disch:=first|assumption|omega) only[go_sem,seval,g3]
    ·simp (disch:=first|assumption|omega) only[go_sem,seval]<;>rfl
    ·intro j hj hl
     rcases Nat.lt_or_ge j i with h|h
     ·exact hn j h hl
     ·have:j=i:=by omega
      subst this;exact he
  ·simp (disch:=first|assumption|omega) only[go_sem,seval,g1,g2,g3,g4]
   exact hK _ _ ⟨by rw[jf fun j hj=>hn j (by omega) hj],ai m⟩
 obtain ⟨r,m',h1,rfl,rfl⟩:=h
 exact h1
theorem rh {m:NH} {v:NV} {l:List Int} (hv:Sl m v 1 (AS l)) (hsz:l.length<=1099511627776) (x:Int):bI Try.prog S0 136 [v,ii x] m (.bool (decide (x∈l))) m:=by
 have h:∃r m',bI Try.prog S0 136 [v,ii x] m r m'/\r= .bool (decide (x∈l))/\m'=m:=by
  refine WF.ex fun K hK=> ?_
  refine WF.of_wpG (fun _=>rfl) tK (L:= [(.a .e,ii x),(.e,v)]) rfl ?_
  unfold Dt
  simp (disch:=first|assumption|omega) only[go_sem,seval,ai,(Ah hv hsz x).wf']
  exact hK _ _ ⟨by simp only[sg],rfl⟩
 obtain ⟨r,m',h1,rfl,rfl⟩:=h
 exact h1
theorem qY {m:NH} {v:NV} {l:List (List Nat)} (hv:Sl m v 1 (cD l)) (hsz:l.length<=1099511627776) (x:List Nat):bI Try.prog S0 99 [v,(.str x)] m (.bool (decide (x∈l))) m:=by
 have h:∃r m',bI Try.prog S0 99 [v,(.str x)] m r m'/\r= .bool (decide (x∈l))/\m'=m:=by
  refine WF.ex fun K hK=> ?_
  refine WF.of_wpG (fun _=>rfl) xz (L:= [(.a .e,(.str x)),(.e,v)]) rfl ?_
  unfold GI
  simp (disch:=first|assumption|omega) only[go_sem,seval,ai,(p8 hv hsz x).wf']
  exact hK _ _ ⟨by simp only[sg],rfl⟩
 obtain ⟨r,m',h1,rfl,rfl⟩:=h
 exact h1
theorem Km (m:NH) {v:NV} {l:List Int} (hv:Sl m v 1 (AS l)) (hsz:l.length<=1099511627776) {k:Int} {c:List NV} (hc:c.length=20):∃m',bI Try.prog S0 91 [.agg (ii k::c),v] m (.bool (decide (k∈l))) m'/\Chg [] m m':=by
 have h:∃r m',bI Try.prog S0 91 [.agg (ii k::c),v] m r m'/\r= .bool (decide (k∈l))/\Chg [] m m':=by
  refine WF.ex fun K hK=> ?_
  refine WF.of_wpG (fun _=>rfl) zg (L:= [(.a .e,v),(.e,.agg (ii k::c))]) rfl ?_
  unfold Hw
  have hC:Chg [] m (hp [(.n 0,.cells true (ii k::c))] 1 m):=an rfl
  simp (disch:=first|assumption|omega) only[go_sem,seval,(rh (hv.chg hC fun _ _=>by simp) hsz k).wf']
  exact hK _ _ ⟨rfl,hC⟩
 obtain ⟨r,m',h1,rfl,h2⟩:=h
 exact ⟨m',h1,h2⟩
end FR
open Go Nm Go.Proofs
namespace FR
set_option linter.unusedSimpArgs false
set_option linter.unusedVariables false
def gn (m:NH) (v v':NV):Prop:=∀i∈ids v',i∈ids v∨¬aC m i
theorem gn.refl (m:NH) (v:NV):gn m v v:=fun _ h=>Or.inl h
theorem gn.trans {m m':NH} {v v' v'':NV} (h:gn m v v') (h':gn m' v' v'') (ho:∀i,aC m i->aC m' i):gn m v v'':=fun i hi=>by
 rcases h' i hi with q|q
 ·exact h i q
 ·exact Or.inr fun o=>q (ho i o)
theorem gn.chg {m m' m'':NH} {v v':NV} (h:gn m v v') (hC:Chg (ids v) m m') (hC':Chg (ids v') m' m''):Chg (ids v) m m'':=hC.trans hC' fun i hi ho=>(h i hi).elim _root_.id fun q=>absurd ho q
theorem FH (l:List (List Nat)) (s:List Nat):(cH l s).length<=l.length+1:=by unfold cH;split<;>simp
theorem iV (more:List (List Nat)):∀l:List (List Nat),(more.foldl cH l).length<=l.length+more.length:=by
 induction more with
 |nil=>intro l;simp
 |cons s more ih=>intro l;have:=ih (cH l s);have:=FH l s;simp only[List.foldl_cons,List.length_cons];omega
theorem tP (l:List (List Nat)) (s:List Nat):cD (l++ [s])=cD l++ [[.str s]]:=by simp
theorem AR {B m:NH} {v w:NV} {l more:List (List Nat)} (hv:bL B m v 1 (cD l)) (hw:Sl m w 1 (cD more)) (hd:∀i∈ids w,i∉ids v) (hB:∀id,aC B id->aC m id) (hsz:l.length+more.length<=1000000000) {t:Tm}
 (g1:NT.get D4.e t=some v) (g2:NT.get D4.e.a.c t=some w) (g3:NT.get D4.e.a.f t=some (ii more.length)) (g4:NT.get D4.e.b.a t=some (ii 0)) {Q:Out->Dyn->Prop}
 (hQ:∀t' M v',NT.get D4.e t'=some v'->bL B M v' 1 (cD (more.foldl cH l))->Chg (ids v) m M->gn m v v'->Q (.exit 0) ⟨ak [] t', [],none,M⟩):
 W Try.prog S0 none qP.loop ⟨t, [],none,m⟩ Q:=by
 refine W.loop (fun k d=>∃t M i v',d=⟨t, [],none,M⟩/\NT.get D4.e t=some v'/\NT.get D4.e.a.c t=some w/\NT.get D4.e.a.f t=some (ii more.length)/\NT.get D4.e.b.a t=some (ii (i:Nat))/\i+k=more.length/\bL B M v' 1 (cD ((more.take i).foldl cH l))/\Chg (ids v) m M/\gn m v v') ?_ more.length _ ⟨t,m,0,v,rfl,g1,g2,g3,g4,by omega,hv,(Chg.refl m).weak (by simp),gn.refl m v⟩
 rintro k d ⟨t,M,i,v',rfl,g1,g2,g3,g4,hik,hv,hC,hF⟩
 apply aK
 unfold qP
 change wp _ _ _ _ ⟨ak [] t, [],none,M⟩ _
 by_cases hi:i<more.length
 ·have hwM:=hw.chg hC hd
  obtain ⟨id,off,wr,c,a1,a2,a3,a4,a5⟩:=hwM.at i (by simpa using hi)
  rw[List.getElem_map] at a5
  have c0:=bz a5 0 (by omega)
  rw[Nat.add_zero] at c0
  have hle:=iV (more.take i) l
  rw[List.length_take] at hle
  have hct:=qY hv.sl (by omega) more[i]
  have htk:(more.take (i+1)).foldl cH l=cH ((more.take i).foldl cH l) more[i]:=by
   rw[List.take_add_one,List.getElem?_eq_getElem hi,Option.toList_some,List.foldl_append];rfl
  by_cases hin:more[i]∈(more.take i).foldl cH l
  ·rw[decide_eq_true hin] at hct
   simp (config:={maxSteps:=1000000}) (disch:=first|assumption|omega|exact ab (by omega)|exact aa (by assumption)|(simp only[ao]<;>omega)) only[go_sem,seval,g1,g2,g3,g4,a1,a2,c0,hct.wf']
   refine ⟨k - 1,by omega,_,M,i+1,v',by rfl, ?_, ?_, ?_, ?_,by omega, ?_,hC,hF⟩
   ·simp (config:={maxSteps:=1000000}) (disch:=first|assumption|omega|exact ab (by omega)|exact aa (by assumption)|(simp only[ao]<;>omega)) only[go_sem,seval,g1]
   ·simp (config:={maxSteps:=1000000}) (disch:=first|assumption|omega|exact ab (by omega)|exact aa (by assumption)|(simp only[ao]<;>omega)) only[go_sem,seval,g2]
   ·simp (config:={maxSteps:=1000000}) (disch:=first|assumption|omega|exact ab (by omega)|exact aa (by assumption)|(simp only[ao]<;>omega)) only[go_sem,seval,g3]
   ·simp (config:={maxSteps:=1000000}) (disch:=first|assumption|omega|exact ab (by omega)|exact aa (by assumption)|(simp only[ao]<;>omega)) only[go_sem,seval]<;>rfl
   ·rw[htk,show cH _ _=_ from if_pos hin];exact hv
  ·rw[decide_eq_false hin] at hct
   rw[←ai M] at hct ⊢
   simp (config:={maxSteps:=1000000}) (disch:=first|assumption|omega|exact ab (by omega)|exact aa (by assumption)|(simp only[ao]<;>omega)) only[go_sem,seval,g1,g2,g3,g4,a1,a2,c0,hct.wf']
   have hC1:Chg [] M (hp [(.n 0,.cells true [.str more[i]])] 1 M):=an rfl
   refine gy (hv.chg hC1 fun _ _=>by simp) ax (ab (by omega)) rfl (fun i hi=>hC1.old (hC.old (hB i hi))) (by simp;omega) (by simp;omega) ?_
   intro v2 M2 hv2 hC2 hF2
   simp (config:={maxSteps:=1000000}) (disch:=first|assumption|omega|exact ab (by omega)|exact aa (by assumption)|(simp only[ao]<;>omega)) only[go_sem,seval,g1,g2,g3,g4]
   have hF1:gn M v' v2:=fun i hi=>(hF2 i hi).imp _root_.id fun q o=>q (hC1.old o)
   have hC3:Chg (ids v') M M2:=(hC1.weak (by simp)).trans hC2 fun _ h _=>h
   refine ⟨k - 1,by omega,_,M2,i+1,v2,by rfl, ?_, ?_, ?_, ?_,by omega, ?_,hF.chg hC hC3,hF.trans hF1 fun i hi=>hC.old hi⟩
   ·simp (config:={maxSteps:=1000000}) (disch:=first|assumption|omega|exact ab (by omega)|exact aa (by assumption)|(simp only[ao]<;>omega)) only[go_sem,seval]
   ·simp (config:={maxSteps:=1000000}) (disch:=first|assumption|omega|exact ab (by omega)|exact aa (by assumption)|(simp only[ao]<;>omega)) only[go_sem,seval,g2]
   ·simp (config:={maxSteps:=1000000}) (disch:=first|assumption|omega|exact ab (by omega)|exact aa (by assumption)|(simp only[ao]<;>omega)) only[go_sem,seval,g3]
   ·simp (config:={maxSteps:=1000000}) (disch:=first|assumption|omega|exact ab (by omega)|exact aa (by assumption)|(simp only[ao]<;>omega)) only[go_sem,seval]<;>rfl
   ·rw[htk,show cH _ _=_ from if_neg hin,tP];exact hv2
 ·simp (config:={maxSteps:=1000000}) (disch:=first|assumption|omega|exact ab (by omega)|exact aa (by assumption)|(simp only[ao]<;>omega)) only[go_sem,seval,g1,g2,g3,g4]
  have e:(more.take i)=more:=List.take_of_length_le (by omega)
  rw[e] at hv
  refine hQ _ _ v' ?_ hv hC hF
  simp (config:={maxSteps:=1000000}) (disch:=first|assumption|omega|exact ab (by omega)|exact aa (by assumption)|(simp only[ao]<;>omega)) only[go_sem,seval,th,g1]
theorem xj {B m:NH} {v w:NV} {l more:List (List Nat)} (hv:bL B m v 1 (cD l)) (hw:Sl m w 1 (cD more)) (hd:∀i∈ids w,i∉ids v) (hB:∀id,aC B id->aC m id) (hsz:l.length+more.length<=1000000000):
 ∃v' m',bI Try.prog S0 54 [v,w] m v' m'/\bL B m' v' 1 (cD (more.foldl cH l))/\Chg (ids v) m m'/\gn m v v':=by
 refine WF.ex fun K hK=> ?_
 refine WF.of_wpG (fun _=>rfl) yj (L:= [(.a .e,w),(.e,v)]) rfl ?_
 unfold H0
 have hlen:=hw.len
 rw[List.length_map] at hlen
 simp (disch:=first|assumption|omega) only[go_sem,seval,hlen,ai]
 refine AR hv hw hd hB hsz (by simp only[go_sem,seval]) (by simp only[go_sem,seval]) (by simp only[go_sem,seval]) (by simp only[go_sem,seval]) ?_
 intro t' M v' g1 h1 h2 h3
 simp (disch:=first|assumption|omega) only[go_sem,seval,g1]
 exact hK _ _ ⟨h1,h2,h3⟩
end FR
open Go Nm Go.Proofs
namespace FR
set_option linter.unusedSimpArgs false
set_option linter.unusedVariables false
def MW (x:Ex):Prop:=∀{m0:NH} {T:D4->Prop} {c:List NV} {B m:NH} {v:NV} {l:List (List Nat)},RE m0 T x c->Chg [] m0 m->bL B m v 1 (cD l)->(∀i,aC m0 i->aC B i)->(∀i,aC B i->aC m i)->l.length+x.sz<=1000000000->
 ∃v' m',bI Try.prog S0 100 [v,.agg c] m v' m'/\bL B m' v' 1 (cD (l++x.names))/\Chg (ids v) m m'/\gn m v v'
theorem nD {m0 B m m':NH} {v:NV} {e:Nat} {C:List (List NV)} (hv:bL B m v e C) (h0:∀i,aC m0 i->aC B i) (hC0:Chg [] m0 m) (hC:Chg (ids v) m m'):Chg [] m0 m':=
 hC0.trans hC fun i hi ho=>absurd (h0 i ho) (hv.new i hi)
theorem mq {ks:List Ex} {i:Nat} (hi:i<ks.length):cg (ks.take (i+1))=cg (ks.take i)++ks[i].names:=by
 rw[List.take_add_one,List.getElem?_eq_getElem hi,Option.toList_some,pJ,cg,cg,List.append_nil]
theorem Br (ks:List Ex) (i:Nat) (hi:i<ks.length):(cg (ks.take i)).length+ks[i].sz<=jr ks:=by
 induction ks generalizing i with
 |nil=>simp at hi
 |cons x ks ih=>
  cases i with
  |zero=>simp[cg,jr]
  |succ i=>
   have h1:=fi x
   have:=ih i (by simpa using hi)
   simp only[List.take_succ_cons,cg,jr,List.length_append,List.getElem_cons_succ];omega
theorem tl {m0:NH} {T:D4->Prop} {ks:List Ex} {vk:NV} {C:List (List NV)} (hS:SE m0 T vk ks C) (ih:∀x∈ks,MW x) {B m:NH} {v:NV} {l:List (List Nat)} (hC0:Chg [] m0 m) (hv:bL B m v 1 (cD l)) (h0:∀i,aC m0 i->aC B i) (hB:∀i,aC B i->aC m i)
 (hsz:l.length+jr ks<=1000000000) {t:Tm} (g1:NT.get D4.e t=some v) (g2:NT.get D4.e.f.c t=some vk) (g3:NT.get D4.e.f.f t=some (ii ks.length)) (g4:NT.get D4.e.a.a.a t=some (ii 0)) {Q:Out->Dyn->Prop}
 (hQ:∀t' M v',NT.get D4.e t'=some v'->bL B M v' 1 (cD (l++cg ks))->Chg (ids v) m M->gn m v v'->Q (.exit 1) ⟨ak [] t', [],none,M⟩):
 W Try.prog S0 none nn.loop ⟨t, [],none,m⟩ Q:=by
 refine W.loop (fun k d=>∃t M i v',d=⟨t, [],none,M⟩/\NT.get D4.e t=some v'/\NT.get D4.e.f.c t=some vk/\NT.get D4.e.f.f t=some (ii ks.length)/\NT.get D4.e.a.a.a t=some (ii (i:Nat))/\i+k=ks.length/\bL B M v' 1 (cD (l++cg (ks.take i)))/\Chg (ids v) m M/\gn m v v') ?_ ks.length _ ⟨t,m,0,v,rfl,g1,g2,g3,g4,by omega,by simpa [cg] using hv,(Chg.refl m).weak (by simp),gn.refl m v⟩
 rintro k d ⟨t,M,i,v',rfl,g1,g2,g3,g4,hik,hv',hC,hF⟩
 apply aK
 unfold nn
 change wp _ _ _ _ ⟨ak [] t, [],none,M⟩ _
 have hCM:=nD hv h0 hC0 hC
 by_cases hi:i<ks.length
 ·have hSM:=(hS.stays (qW hCM T))
  obtain ⟨cx,hcx,hRx⟩:=hS.at i hi
  obtain ⟨id,off,wr,c,a1,a2,a3,a4,a5⟩:=hSM.sl.at i (by rw[hS.len];exact hi)
  have ecx:C[i]'(by rw[hS.len];exact hi)=cx:=by
   have:=List.getElem?_eq_getElem (l:=C) (i:=i) (by rw[hS.len];exact hi)
   rw[this] at hcx;injection hcx
  rw[ecx] at a5
  obtain ⟨vx,Cx,rfl,-⟩:=hRx.inv'
  have hszi:=Br ks i hi
  rw[←ai M]
  have hl5:(ks[i].l vx).length=5:=rfl
  have hls:=xG ks
  have hl5':(ks[i].l vx).take 5=ks[i].l vx:=rfl
  simp (config:={maxSteps:=1000000}) (disch:=first|assumption|omega|exact ab (by omega)|exact aa (by assumption)|(simp only[ao]<;>omega)) only[go_sem,seval,g1,g2,g3,g4,a1,a2,a5,hl5,hl5']
  generalize hM1:hp _ 1 M=M1
  have hC1:Chg [] M M1:=by rw[←hM1];exact an rfl
  refine WF.use (ih ks[i] (List.getElem_mem hi) hRx (hCM.trans hC1 (by simp)) (hv'.chg hC1 fun _ _=>by simp) h0 (fun i hi=>hC1.old (hC.old (hB i hi))) (by rw[List.length_append];omega)) ?_
  rintro v2 M2 ⟨hv2,hC2,hF2⟩
  simp (config:={maxSteps:=1000000}) (disch:=first|assumption|omega|exact ab (by omega)|exact aa (by assumption)|(simp only[ao]<;>omega)) only[go_sem,seval,g1,g2,g3,g4]
  have hC3:Chg (ids v') M M2:=(hC1.weak (by simp)).trans hC2 fun _ h _=>h
  refine ⟨k - 1,by omega,_,M2,i+1,v2,by rfl, ?_, ?_, ?_, ?_,by omega, ?_,hF.chg hC hC3,hF.trans (fun i hi=>(hF2 i hi).imp _root_.id fun q o=>q (hC1.old o)) fun i hi=>hC.old hi⟩
  ·simp (config:={maxSteps:=1000000}) (disch:=first|assumption|omega|exact ab (by omega)|exact aa (by assumption)|(simp only[ao]<;>omega)) only[go_sem,seval]
  ·simp (config:={maxSteps:=1000000}) (disch:=first|assumption|omega|exact ab (by omega)|exact aa (by assumption)|(simp only[ao]<;>omega)) only[go_sem,seval,g2]
  ·simp (config:={maxSteps:=1000000}) (disch:=first|assumption|omega|exact ab (by omega)|exact aa (by assumption)|(simp only[ao]<;>omega)) only[go_sem,seval,g3]
  ·simp (config:={maxSteps:=1000000}) (disch:=first|assumption|omega|exact ab (by omega)|exact aa (by assumption)|(simp only[ao]<;>omega)) only[go_sem,seval]<;>rfl
  ·rw[mq hi,←List.append_assoc];exact hv2
 ·simp (config:={maxSteps:=1000000}) (disch:=first|assumption|omega|exact ab (by omega)|exact aa (by assumption)|(simp only[ao]<;>omega)) only[go_sem,seval,g1,g2,g3,g4]
  have e:(ks.take i)=ks:=List.take_of_length_le (by omega)
  rw[e] at hv'
  refine hQ _ _ v' ?_ hv' hC hF
  simp (config:={maxSteps:=1000000}) (disch:=first|assumption|omega|exact ab (by omega)|exact aa (by assumption)|(simp only[ao]<;>omega)) only[go_sem,seval,th,g1]
theorem BM:∀x,MW x:=by
 apply Ex.ind
 intro kd n o s ks ih m0 T c B m v l hR hC0 hv h0 hB hsz
 obtain ⟨vk,C,rfl,hS⟩:=hR.inv
 rw[Ex.sz] at hsz
 refine WF.ex fun K hK=> ?_
 refine WF.of_wpG (fun _=>rfl) tH (L:= [(.a .e,.agg [ii kd,u64 n,u8 o,.str s,vk]),(.e,v)]) rfl ?_
 unfold CG
 have hC1:Chg [] m (hp [(.n 0,.cells true [ii kd,u64 n,u8 o,.str s,vk])] 1 m):=an rfl
 have hlen:=(hS.stays (qW (hC0.trans hC1 (by simp)) T)).sl.len
 rw[hS.len] at hlen
 by_cases h1:kd=1
 ·subst h1
  simp (config:={maxSteps:=1000000}) (disch:=first|assumption|omega|exact ab (by omega)|exact aa (by assumption)|(simp only[ao]<;>omega)) only[go_sem,seval]
  have hC2:Chg [] m (hp [(.n 1,.cells true [.str s]),(.n 0,.cells true [ii 1,u64 n,u8 o,.str s,vk])] 2 m):=an rfl
  refine gy (hv.chg hC2 fun _ _=>by simp) ax (ab (by omega)) rfl (fun i hi=>hC2.old (hB i hi)) (by simp;omega) (by simp;omega) ?_
  intro v2 M2 hv2 hC3 hF2
  simp (config:={maxSteps:=1000000}) (disch:=first|assumption|omega|exact ab (by omega)|exact aa (by assumption)|(simp only[ao]<;>omega)) only[go_sem,seval]
  refine hK _ _ ⟨?_,(hC2.weak (by simp)).trans hC3 fun _ h _=>h,fun i hi=>(hF2 i hi).imp _root_.id fun q o=>q (hC2.old o)⟩
  rw[Ex.names,if_pos rfl,tP];exact hv2
 ·by_cases h2:kd=2
  ·subst h2
   simp (config:={maxSteps:=1000000}) (disch:=first|assumption|omega|exact ab (by omega)|exact aa (by assumption)|(simp only[ao]<;>omega)) only[go_sem,seval,hlen]
   refine tl hS ih (hC0.trans hC1 (by simp)) (hv.chg hC1 fun _ _=>by simp) h0 (fun i hi=>hC1.old (hB i hi)) (by omega) (by simp only[go_sem,seval]) (by simp only[go_sem,seval]) (by simp only[go_sem,seval]) (by simp only[go_sem,seval]) ?_
   intro t' M v' g1 q1 q2 q3
   simp (config:={maxSteps:=1000000}) (disch:=first|assumption|omega|exact ab (by omega)|exact aa (by assumption)|(simp only[ao]<;>omega)) only[go_sem,seval,g1]
   refine hK _ _ ⟨?_,(hC1.weak (by simp)).trans q2 fun _ h _=>h,fun i hi=>(q3 i hi).imp _root_.id fun q o=>q (hC1.old o)⟩
   rw[Ex.names,if_neg (by omega),if_pos rfl];exact q1
  ·simp (config:={maxSteps:=1000000}) (disch:=first|assumption|omega|exact ab (by omega)|exact aa (by assumption)|(simp only[ao]<;>omega)) only[go_sem,seval]
   refine hK _ _ ⟨?_,hC1.weak (by simp),gn.refl m v⟩
   rw[Ex.names,if_neg h1,if_neg h2,List.append_nil];exact hv.chg hC1 fun _ _=>by simp
end FR
open Go Nm Go.Proofs
namespace FR
set_option linter.unusedSimpArgs false
set_option linter.unusedVariables false
theorem Ir (s:Stm):s.own=(if s.k=0∨s.k=1∨s.k=3 then [s.nm] else [])++((if s.k=1∨s.k=2∨s.k=3 then s.i.names else [])++((if s.k=0∨s.k=2∨s.k=3∨s.k=5∨s.k=6∨s.k=7 then s.x.names else [])++(if s.k=3 then s.y.names else []))):=by cases s;rfl
theorem Gy (s:Stm):s.sz=1+s.i.sz+s.x.sz+s.y.sz+cn s.b+cn s.e:=by cases s;rfl
theorem Ab (l:List Int):(AS l).flatten=l.map ii:=by
 induction l with
 |nil=>rfl
 |cons a l ih=>show [ii a]++(AS l).flatten=_;rw[ih];rfl
theorem tn (M:NH) {k:Int} (l:List Int) {n:Nat} {c:List NV} (hc:c.length=20) (hn:n=l.length) (hl:l.length<=10):∃m',bI Try.prog S0 91 [.agg (ii k::c),.slc M.next 0 n 1 n] (M.add (.cells true (l.map ii))) (.bool (decide (k∈l))) m'/\Chg [] M m':=by
 subst hn
 have h:Sl (M.add (.cells true (l.map ii))) (.slc M.next 0 l.length 1 l.length) 1 (AS l):=
  (bL.of (B:=M) (by simp) (fun q=>Nat.lt_irrefl _ q) (NH.get_add_same M _) (io M _) (Ab l).symm (by simp) (by simp)).sl
 obtain ⟨m',h1,h2⟩:=Km _ h (by omega) (k:=k) hc
 exact ⟨m',h1,(Chg.add M _).trans h2 (by simp)⟩
theorem xK {m0 m:NH} {T:D4->Prop} {s:Stm} {c:List NV} (hR:RS m0 T s c) (hC0:Chg [] m0 m) (hsz:s.sz<=100000000):
 ∃v m',bI Try.prog S0 55 [.agg c] m v m'/\bL m m' v 1 (cD s.own)/\Chg [] m m':=by
 obtain ⟨w,rfl,hP⟩:=hR.inv'
 refine WF.ex fun K hK=> ?_
 refine WF.of_wpG (fun _=>rfl) ym (L:= [(.e,.agg (s.l w))]) rfl ?_
 unfold IG
 rw[Gy] at hsz
 have hni:=fi s.i
 have hnx:=fi s.x
 have hny:=fi s.y
 generalize hm1:hp [(.n 0,.cells true (s.l w))] 1 m=m1
 have hC1:Chg [] m m1:=by rw[←hm1];exact an rfl
 have hC01:Chg [] m0 m1:=hC0.trans hC1 (by simp)
 have hg0:m1.get (na m 0)=some (.cells true (s.l w)):=by rw[←hm1];exact ax
 have ho0:aC m1 (na m 0):=by rw[←hm1];exact ab (by omega)
 let Φ:List (List Nat)->Dyn->Prop:=fun l d=>∃t M v,d=⟨t, [],none,M⟩/\NT.get D4.e.a t=some (.ptr (na m 0) 0)/\NT.get D4.e.c t=some v/\bL m1 M v 1 (cD l)/\Chg [] m1 M
 have hl21:(s.l w).length=21:=rfl
 have hl21':(s.l w).take 21=s.l w:=rfl
 have hins:∀{M M':NH} {v:NV} {l:List (List Nat)} {x:Ex} {c:List NV},Chg [] m1 M->Chg [] M M'->bL m1 M v 1 (cD l)->RE m0 T x c->l.length+x.sz<=1000000000->∃v' M'',bI Try.prog S0 100 [v,.agg c] M' v' M''/\bL m1 M'' v' 1 (cD (l++x.names))/\Chg [] m1 M'':=by
  intro M M' v l x c h1 h2 h3 h4 h5
  have hC':=h1.trans h2 (by simp)
  obtain ⟨v',M'',q1,q2,q3,-⟩:=BM x h4 (hC01.trans hC' (by simp)) (h3.chg h2 fun _ _=>by simp) (fun i hi=>hC01.old hi) (fun i hi=>hC'.old hi) h5
  exact ⟨v',M'',q1,q2,nD h3 (fun i hi=>hi) h1 ((h2.weak (by simp)).trans q3 fun _ h _=>h)⟩
 refine s7 (fun d=>d=⟨ak [(.a .e,.ptr (na m 0) 0),(.b .e,.nils),(.e,.agg (s.l w))] .leaf, [],none,m1⟩) (fun R hR=> ?_) ?_
 ·simp (config:={maxSteps:=1000000}) (disch:=first|assumption|omega|exact ab (by omega)|exact aa (by assumption)|(simp only[ao]<;>omega)) only[go_sem,seval,hm1]
  exact hR _ rfl
 rintro d rfl
 refine s7 (Φ []) (fun R hR=> ?_) ?_
 ·simp (config:={maxSteps:=1000000}) (disch:=first|assumption|omega|exact ab (by omega)|exact aa (by assumption)|(simp only[ao]<;>omega)) only[go_sem,seval]
  exact hR _ ⟨_,_,.nils,rfl,by simp only[go_sem,seval],by simp only[go_sem,seval],bL.nil,Chg.refl m1⟩
 rintro d ⟨t,M,v,rfl,g1,g2,hv,hC⟩
 change wp _ _ _ _ ⟨ak [] t, [],none,M⟩ _
 refine s7 (Φ (if s.k=0∨s.k=1∨s.k=3 then [s.nm] else [])) (fun R hR=> ?_) ?_
 ·have hgM:=(hC.get ho0 (by simp)).trans hg0
  simp (config:={maxSteps:=1000000}) (disch:=first|assumption|omega|exact ab (by omega)|exact aa (by assumption)|(simp only[ao]<;>omega)) only[go_sem,seval,g1,g2,hgM,hl21,hl21']
  refine WF.use1H (tn M [0,1,3] rfl rfl (by decide)) ?_
  intro M' hC'
  have hgM':=(hC'.get (hC.old ho0) (by simp)).trans hgM
  have hoM':=hC'.old (hC.old ho0)
  by_cases hk:s.k∈ [0,1,3]
  ·rw[decide_eq_true hk]
   simp (config:={maxSteps:=1000000}) (disch:=first|assumption|omega|exact ab (by omega)|exact aa (by assumption)|(simp only[ao]<;>omega)) only[go_sem,seval,g1,g2,hgM',hoM']
   have hC2:Chg [] M' (hp [(.n 0,.cells true [.str s.nm])] 1 M'):=an rfl
   have hC3:=hC'.trans hC2 (by simp)
   refine gy (C:= []) (B:=m1) (hv.chg hC3 fun _ _=>by simp) ax (ab (by omega)) rfl (fun i hi=>hC3.old (hC.old hi)) (by simp) (by simp) ?_
   intro v2 M2 hv2 hC4 hF
   simp (config:={maxSteps:=1000000}) (disch:=first|assumption|omega|exact ab (by omega)|exact aa (by assumption)|(simp only[ao]<;>omega)) only[go_sem,seval,g1,g2]
   refine hR _ ⟨_,_,v2,rfl,by simp only[go_sem,seval,g1],by simp only[go_sem,seval], ?_, ?_⟩
   ·rw[if_pos (by simpa using hk)];exact hv2
   ·exact nD hv (fun i hi=>hi) hC ((hC3.weak (by simp)).trans hC4 fun _ h _=>h)
  ·rw[decide_eq_false hk]
   simp (config:={maxSteps:=1000000}) (disch:=first|assumption|omega|exact ab (by omega)|exact aa (by assumption)|(simp only[ao]<;>omega)) only[go_sem,seval,g1,g2,ai]
   refine hR _ ⟨_,_,v,rfl,by simp only[go_sem,seval,g1],by simp only[go_sem,seval,g2], ?_,hC.trans hC' (by simp)⟩
   rw[if_neg (by simpa using hk)];exact hv.chg hC' fun _ _=>by simp
 clear g1 g2 hv hC
 rintro d ⟨t,M,v,rfl,g1,g2,hv,hC⟩
 change wp _ _ _ _ ⟨ak [] t, [],none,M⟩ _
 generalize hL1:(if s.k=0∨s.k=1∨s.k=3 then [s.nm] else [])=L1 at hv
 have hn1:L1.length<=1:=by rw[←hL1];split<;>simp
 refine s7 (Φ (L1++if s.k=1∨s.k=2∨s.k=3 then s.i.names else [])) (fun R hR=> ?_) ?_
 ·have hgM:=(hC.get ho0 (by simp)).trans hg0
  simp (config:={maxSteps:=1000000}) (disch:=first|assumption|omega|exact ab (by omega)|exact aa (by assumption)|(simp only[ao]<;>omega)) only[go_sem,seval,g1,g2,hgM,hl21,hl21']
  refine WF.use1H (tn M [1,2,3] rfl rfl (by decide)) ?_
  intro M' hC'
  have hgM':=(hC'.get (hC.old ho0) (by simp)).trans hgM
  have hoM':=hC'.old (hC.old ho0)
  by_cases hk:s.k∈ [1,2,3]
  ·rw[decide_eq_true hk]
   simp (config:={maxSteps:=1000000}) (disch:=first|assumption|omega|exact ab (by omega)|exact aa (by assumption)|(simp only[ao]<;>omega)) only[go_sem,seval,g1,g2,hgM',hoM',ai]
   refine WF.use (hins hC hC' hv hP.i (by omega)) ?_
   rintro v2 M2 ⟨hv2,hC2⟩
   simp (config:={maxSteps:=1000000}) (disch:=first|assumption|omega|exact ab (by omega)|exact aa (by assumption)|(simp only[ao]<;>omega)) only[go_sem,seval,g1,g2]
   refine hR _ ⟨_,_,v2,rfl,by simp only[go_sem,seval,g1],by simp only[go_sem,seval], ?_,hC2⟩
   rw[if_pos (by simpa using hk)];exact hv2
  ·rw[decide_eq_false hk]
   simp (config:={maxSteps:=1000000}) (disch:=first|assumption|omega|exact ab (by omega)|exact aa (by assumption)|(simp only[ao]<;>omega)) only[go_sem,seval,g1,g2,ai]
   refine hR _ ⟨_,_,v,rfl,by simp only[go_sem,seval,g1],by simp only[go_sem,seval,g2], ?_,hC.trans hC' (by simp)⟩
   rw[if_neg (by simpa using hk),List.append_nil];exact hv.chg hC' fun _ _=>by simp
 clear g1 g2 hv hC
 rintro d ⟨t,M,v,rfl,g1,g2,hv,hC⟩
 change wp _ _ _ _ ⟨ak [] t, [],none,M⟩ _
 generalize hL2:(L1++if s.k=1∨s.k=2∨s.k=3 then s.i.names else [])=L2 at hv
 have hn2:L2.length<=1+s.i.sz:=by rw[←hL2,List.length_append];split<;>first|omega|(rw[List.length_nil];omega)
 refine s7 (Φ (L2++if s.k=0∨s.k=2∨s.k=3∨s.k=5∨s.k=6∨s.k=7 then s.x.names else [])) (fun R hR=> ?_) ?_
 ·have hgM:=(hC.get ho0 (by simp)).trans hg0
  simp (config:={maxSteps:=1000000}) (disch:=first|assumption|omega|exact ab (by omega)|exact aa (by assumption)|(simp only[ao]<;>omega)) only[go_sem,seval,g1,g2,hgM,hl21,hl21']
  refine WF.use1H (tn M [0,2,3,5,6,7] rfl rfl (by decide)) ?_
  intro M' hC'
  have hgM':=(hC'.get (hC.old ho0) (by simp)).trans hgM
  have hoM':=hC'.old (hC.old ho0)
  by_cases hk:s.k∈ [0,2,3,5,6,7]
  ·rw[decide_eq_true hk]
   simp (config:={maxSteps:=1000000}) (disch:=first|assumption|omega|exact ab (by omega)|exact aa (by assumption)|(simp only[ao]<;>omega)) only[go_sem,seval,g1,g2,hgM',hoM',ai]
   refine WF.use (hins hC hC' hv hP.x (by omega)) ?_
   rintro v2 M2 ⟨hv2,hC2⟩
   simp (config:={maxSteps:=1000000}) (disch:=first|assumption|omega|exact ab (by omega)|exact aa (by assumption)|(simp only[ao]<;>omega)) only[go_sem,seval,g1,g2]
   refine hR _ ⟨_,_,v2,rfl,by simp only[go_sem,seval,g1],by simp only[go_sem,seval], ?_,hC2⟩
   rw[if_pos (by simpa using hk)];exact hv2
  ·rw[decide_eq_false hk]
   simp (config:={maxSteps:=1000000}) (disch:=first|assumption|omega|exact ab (by omega)|exact aa (by assumption)|(simp only[ao]<;>omega)) only[go_sem,seval,g1,g2,ai]
   refine hR _ ⟨_,_,v,rfl,by simp only[go_sem,seval,g1],by simp only[go_sem,seval,g2], ?_,hC.trans hC' (by simp)⟩
   rw[if_neg (by simpa using hk),List.append_nil];exact hv.chg hC' fun _ _=>by simp
 clear g1 g2 hv hC
 rintro d ⟨t,M,v,rfl,g1,g2,hv,hC⟩
 change wp _ _ _ _ ⟨ak [] t, [],none,M⟩ _
 generalize hL3:(L2++if s.k=0∨s.k=2∨s.k=3∨s.k=5∨s.k=6∨s.k=7 then s.x.names else [])=L3 at hv
 have hn3:L3.length<=1+s.i.sz+s.x.sz:=by rw[←hL3,List.length_append];split<;>first|omega|(rw[List.length_nil];omega)
 have hown:s.own=L3++if s.k=3 then s.y.names else []:=by rw[Ir,←hL3,←hL2,←hL1];simp only[List.append_assoc]
 have hgM:=(hC.get ho0 (by simp)).trans hg0
 have fin:∀{v M},bL m1 M v 1 (cD s.own)->Chg [] m1 M->bL m M v 1 (cD s.own)/\Chg [] m M:=fun h1 h2=>⟨h1.back fun i hi=>hC1.old hi,hC1.trans h2 (by simp)⟩
 by_cases hk:s.k=3
 ·rw[if_pos hk] at hown
  have hd:decide (s.k=3)=true:=decide_eq_true hk
  simp (config:={maxSteps:=1000000}) (disch:=first|assumption|omega|exact ab (by omega)|exact aa (by assumption)|(simp only[ao]<;>omega)) only[go_sem,seval,g1,g2,hgM,hl21,hl21',hd]
  refine WF.use (hins hC (Chg.refl M) hv hP.y (by omega)) ?_
  rintro v2 M2 ⟨hv2,hC2⟩
  simp (config:={maxSteps:=1000000}) (disch:=first|assumption|omega|exact ab (by omega)|exact aa (by assumption)|(simp only[ao]<;>omega)) only[go_sem,seval,g1,g2]
  rw[←hown] at hv2
  exact hK _ _ (fin hv2 hC2)
 ·rw[if_neg hk,List.append_nil] at hown
  have hd:decide (s.k=3)=false:=decide_eq_false hk
  simp (config:={maxSteps:=1000000}) (disch:=first|assumption|omega|exact ab (by omega)|exact aa (by assumption)|(simp only[ao]<;>omega)) only[go_sem,seval,g1,g2,hgM,hl21,hl21',hd]
  rw[←hown] at hv
  exact hK _ _ (fin hv hC)
end FR
open Go Nm Go.Proofs
namespace FR
set_option linter.unusedSimpArgs false
set_option linter.unusedVariables false
def bx {σ:Type} (f:σ->Stm->σ×Bool):List Stm->σ->σ×Bool
 | [],s=>(s,true)
 |x::l,s=>if (f s x).2 then bx f l (f s x).1 else f s x
theorem eN {σ:Type} (f:σ->Stm->σ×Bool) (a b:List Stm):∀s,bx f (a++b) s=if (bx f a s).2 then bx f b (bx f a s).1 else bx f a s:=by
 induction a with
 |nil=>intro s;simp[bx]
 |cons x a ih=>
  intro s
  simp only[List.cons_append,bx]
  split
  ·exact ih _
  ·rename_i h;simp[h]
def Al {σ:Type} (A:σ->Stm->Prop) (f:σ->Stm->σ×Bool):List Stm->σ->Prop
 | [],_=>True
 |x::l,s=>A s x/\((f s x).2=true->Al A f l (f s x).1)
theorem ll {σ:Type} {A:σ->Stm->Prop} {f:σ->Stm->σ×Bool} (a b:List Stm):∀s,Al A f (a++b) s↔Al A f a s/\((bx f a s).2=true->Al A f b (bx f a s).1):=by
 induction a with
 |nil=>intro s;simp[Al,bx]
 |cons x a ih=>
  intro s
  simp only[List.cons_append,Al,bx,ih]
  constructor
  ·rintro ⟨h1,h2⟩
   refine ⟨⟨h1,fun h=>(h2 h).1⟩,fun h=> ?_⟩
   cases hb:(f s x).2 with
   |true=>rw[hb] at h;simp only[if_true] at h ⊢;exact (h2 hb).2 h
   |false=>rw[hb] at h;simp[hb] at h
  ·rintro ⟨⟨h1,h2⟩,h3⟩
   refine ⟨h1,fun h=>⟨h2 h,fun h4=> ?_⟩⟩
   rw[h] at h3;simp only[if_true] at h3;exact h3 h4
structure Ylds {σ:Type} (q:D4) (m0:NH) (T:D4->Prop) (A:σ->Stm->Prop) (f:σ->Stm->σ×Bool) (Φ:σ->List D4->NH->Prop):Prop where
 base:∀{s F N},Φ s F N->Chg [] m0 N
 old:∀{s F N},Φ s F N->∀i∈F,aC N i
 grow:∀{s F N N'},Φ s F N->Chg [] N N'->Φ s F N'
 y:∀{s F N x c},Φ s F N->RS m0 T x c->A s x->∃N',uQ Try.prog S0 q [.agg c] N (.bool (f s x).2) N'/\∃F',Φ (f s x).1 F' N'/\Chg F N N'/\∀i∈F',i∈F∨¬aC N i
section
variable {σ:Type} {q:D4} {m0:NH} {T:D4->Prop} {A:σ->Stm->Prop} {f:σ->Stm->σ×Bool} {Φ:σ->List D4->NH->Prop}
def mj (q:D4) (m0:NH) (T:D4->Prop) (A:σ->Stm->Prop) (f:σ->Stm->σ×Bool) (Φ:σ->List D4->NH->Prop) (l:List Stm):Prop:=
 ∀{v C N s F},SS m0 T v l C->Φ s F N->Al A f (bB l) s->cn l<=1000000000->
  ∃N',bI Try.prog S0 98 [v,.yld q] N (.bool (bx f (bB l) s).2) N'/\∃F',Φ (bx f (bB l) s).1 F' N'/\Chg F N N'/\∀i∈F',i∈F∨¬aC N i
theorem HX (x:Stm):x.all=x::((if x.k=6∨x.k=7 then bB x.b else [])++(if x.k=6 then bB x.e else [])):=by cases x;rfl
theorem zD {l:List Stm} {i:Nat} (hi:i<l.length):bB (l.take (i+1))=bB (l.take i)++l[i].all:=by
 rw[List.take_add_one,List.getElem?_eq_getElem hi,Option.toList_some,lW,bB,bB,List.append_nil]
theorem FS {l:List Stm} {x:Stm} (hx:x∈l):x.sz<=cn l:=by
 induction l with
 |nil=>simp at hx
 |cons a l ih=>
  rw[cn]
  rcases List.mem_cons.mp hx with rfl|hx
  ·omega
  ·have:=ih hx;omega
theorem wW (hy:Ylds q m0 T A f Φ) {x:Stm} {w:SV} (hR:RS m0 T x (x.l w)) (hP:SP m0 T x w) (hb:mj q m0 T A f Φ x.b) (he:mj q m0 T A f Φ x.e) {s:σ} (hA:Al A f x.all s) (hsz:x.sz<=1000000000)
 {v:NV} {N:NH} {F:List D4} (hΦ:Φ s F N) {i n:Nat} {id:D4} {off:Nat} {wr:Bool} {C:List NV} (hi:i<n) (hn:n<=1000000000) (a1:my 21 v (ii i)= .val (.ptr id off)) (a2:N.get id=some (.cells wr C)) (a3:aC N id) (a4:off+21<=C.length) (a5:(C.drop off).take 21=x.l w) {t:Tm}
 (g1:NT.get D4.e.a t=some (.yld q)) (g2:NT.get D4.e.a.c t=some v) (g3:NT.get D4.e.a.f t=some (ii n)) (g4:NT.get D4.e.b.a t=some (ii i)) {Q:Out->Dyn->Prop}
 (hN:(bx f x.all s).2=true->∀t' N' F',Φ (bx f x.all s).1 F' N'->Chg F N N'->(∀i∈F',i∈F∨¬aC N i)->NT.get D4.e.a t'=some (.yld q)->NT.get D4.e.a.c t'=some v->NT.get D4.e.a.f t'=some (ii n)->NT.get D4.e.b.a t'=some (ii (i+1:Nat))->Q .norm ⟨t', [],none,N'⟩)
 (hF:(bx f x.all s).2=false->∀t' N' F',Φ (bx f x.all s).1 F' N'->Chg F N N'->(∀i∈F',i∈F∨¬aC N i)->NT.get D4.e.f t'=some (.bool false)->Q .ret ⟨ak [] t', [],none,N'⟩):
 wp Try.prog S0 none mJ ⟨ak [] t, [],none,N⟩ Q:=by
 unfold mJ
 have hl21:(x.l w).length=21:=rfl
 have hl21':(x.l w).take 21=x.l w:=rfl
 rw[←ai N]
 simp (config:={maxSteps:=1000000}) (disch:=first|assumption|omega|exact ab (by omega)|exact aa (by assumption)|(simp only[ao]<;>omega)) only[go_sem,seval,g1,g2,g3,g4,a1,a2,a5,hl21,hl21']
 generalize hM1:hp _ 1 N=M1
 have hC1:Chg [] N M1:=by rw[←hM1];exact an rfl
 have hg0:M1.get (na N 0)=some (.cells true (x.l w)):=by rw[←hM1];exact ax
 have ho0:aC M1 (na N 0):=by rw[←hM1];exact ab (by omega)
 have hal:=HX x
 rw[hal] at hA
 refine WY.use1 (hy.y (hy.grow hΦ hC1) hR hA.1) ?_
 rintro M2 ⟨F2,hΦ2,hC2,hF2⟩
 have hn0:na N 0∉F:=fun h=>(hy.old hΦ _ h).ne 0 rfl
 have hg2:=(hC2.get ho0 hn0).trans hg0
 have ho2:=hC2.old ho0
 have hC02:Chg F N M2:=(hC1.weak (by simp)).trans hC2 fun _ h _=>h
 have hN2:∀i∈F2,i∈F∨¬aC N i:=fun i hi=>(hF2 i hi).imp _root_.id fun q o=>q (hC1.old o)
 cases hb1:(f s x).2 with
 |false=>
  have hfo:bx f x.all s=f s x:=by rw[hal,bx,hb1];rfl
  simp (config:={maxSteps:=1000000}) (disch:=first|assumption|omega|exact ab (by omega)|exact aa (by assumption)|(simp only[ao]<;>omega)) only[go_sem,seval,g1,g2,g3,g4,hg2,ho2]
  rw[hfo] at hF
  exact hF hb1 _ M2 F2 hΦ2 hC02 hN2 (by simp only[go_sem,seval])
 |true=>
  have hfo:bx f x.all s=bx f ((if x.k=6∨x.k=7 then bB x.b else [])++(if x.k=6 then bB x.e else [])) (f s x).1:=by rw[hal,bx,hb1];rfl
  rw[hfo] at hN hF
  simp (config:={maxSteps:=1000000}) (disch:=first|assumption|omega|exact ab (by omega)|exact aa (by assumption)|(simp only[ao]<;>omega)) only[go_sem,seval,g1,g2,g3,g4,hg2,ho2,hl21,hl21']
  refine WF.use1 (tn M2 [6,7] rfl rfl (by decide)) ?_
  intro M3 hC3
  have hΦ3:=hy.grow hΦ2 hC3
  have hg3:=(hC3.get ho2 (by simp)).trans hg2
  have ho3:=hC3.old ho2
  have hC03:Chg F N M3:=hC02.trans hC3 (by simp)
  have hrb:=Gy x
  by_cases hk:x.k=6∨x.k=7
  ·rw[decide_eq_true (by simpa using hk:x.k∈ [6,7])]
   rw[if_pos hk] at hN hF hal
   obtain ⟨B,hB⟩:=hP.b
   obtain ⟨E,hE⟩:=hP.e
   have hA2:=hA.2 hb1
   rw[if_pos hk,ll] at hA2
   have hAb:=hA2.1
   simp (config:={maxSteps:=1000000}) (disch:=first|assumption|omega|exact ab (by omega)|exact aa (by assumption)|(simp only[ao]<;>omega)) only[go_sem,seval,g1,g2,g3,g4,hg3,ho3]
   refine WF.use1 (hb hB hΦ3 hAb (by omega)) ?_
   rintro M4 ⟨F4,hΦ4,hC4,hF4⟩
   have hn3:na N 0∉F2:=fun h=>(hN2 _ h).elim hn0 fun q=>by
    rcases hF2 _ h with h|h
    ·exact hn0 h
    ·exact h ho0
   have hg4:=(hC4.get ho3 hn3).trans hg3
   have ho4:=hC4.old ho3
   have hC04:Chg F N M4:=hC03.trans hC4 fun i hi ho=>(hN2 i hi).elim _root_.id fun q=>absurd ho q
   have hN4:∀i∈F4,i∈F∨¬aC N i:=fun i hi=>(hF4 i hi).elim (hN2 i) fun q=>Or.inr fun o=>q (hC03.old o)
   rw[eN] at hN hF
   cases hb2:(bx f (bB x.b) (f s x).1).2 with
   |false=>
    rw[hb2] at hF
    simp (config:={maxSteps:=1000000}) (disch:=first|assumption|omega|exact ab (by omega)|exact aa (by assumption)|(simp only[ao]<;>omega)) only[go_sem,seval,g1,g2,g3,g4,hg4,ho4]
    refine hF hb2 _ M4 F4 hΦ4 hC04 hN4 (by simp only[go_sem,seval])
   |true=>
    rw[hb2,if_pos rfl] at hN hF
    by_cases h6:x.k=6
    ·rw[if_pos h6] at hN hF hal
     have hAe:=hA2.2 hb2
     rw[if_pos h6] at hAe
     have hd:decide (x.k=6)=true:=decide_eq_true h6
     simp (config:={maxSteps:=1000000}) (disch:=first|assumption|omega|exact ab (by omega)|exact aa (by assumption)|(simp only[ao]<;>omega)) only[go_sem,seval,g1,g2,g3,g4,hg4,ho4,hd]
     refine WF.use1 (he hE hΦ4 hAe (by omega)) ?_
     rintro M5 ⟨F5,hΦ5,hC5,hF5⟩
     have hC05:Chg F N M5:=hC04.trans hC5 fun i hi ho=>(hN4 i hi).elim _root_.id fun q=>absurd ho q
     have hN5:∀i∈F5,i∈F∨¬aC N i:=fun i hi=>(hF5 i hi).elim (hN4 i) fun q=>Or.inr fun o=>q (hC04.old o)
     cases hb3:(bx f (bB x.e) (bx f (bB x.b) (f s x).1).1).2 with
     |false=>
      simp (config:={maxSteps:=1000000}) (disch:=first|assumption|omega|exact ab (by omega)|exact aa (by assumption)|(simp only[ao]<;>omega)) only[go_sem,seval,g1,g2,g3,g4]
      refine hF hb3 _ M5 F5 hΦ5 hC05 hN5 (by simp only[go_sem,seval])
     |true=>
      simp (config:={maxSteps:=1000000}) (disch:=first|assumption|omega|exact ab (by omega)|exact aa (by assumption)|(simp only[ao]<;>omega)) only[go_sem,seval,g1,g2,g3,g4]
      refine hN hb3 _ M5 F5 hΦ5 hC05 hN5 (by simp only[go_sem,seval,g1]) (by simp only[go_sem,seval,g2]) (by simp only[go_sem,seval,g3]) (by simp only[go_sem,seval]<;>rfl)
    ·rw[if_neg h6] at hN hF
     have hd:decide (x.k=6)=false:=decide_eq_false h6
     simp (config:={maxSteps:=1000000}) (disch:=first|assumption|omega|exact ab (by omega)|exact aa (by assumption)|(simp only[ao]<;>omega)) only[go_sem,seval,g1,g2,g3,g4,hg4,ho4,hd]
     refine hN rfl _ M4 F4 hΦ4 hC04 hN4 (by simp only[go_sem,seval,g1]) (by simp only[go_sem,seval,g2]) (by simp only[go_sem,seval,g3]) (by simp only[go_sem,seval]<;>rfl)
  ·rw[decide_eq_false (by simpa using hk:x.k∉ [6,7])]
   have h6:x.k≠6:=fun e=>hk (Or.inl e)
   rw[if_neg hk,if_neg h6] at hN hF
   have hd:decide (x.k=6)=false:=decide_eq_false h6
   simp (config:={maxSteps:=1000000}) (disch:=first|assumption|omega|exact ab (by omega)|exact aa (by assumption)|(simp only[ao]<;>omega)) only[go_sem,seval,g1,g2,g3,g4,hg3,ho3,hd]
   refine hN rfl _ M3 F2 hΦ3 hC03 hN2 (by simp only[go_sem,seval,g1]) (by simp only[go_sem,seval,g2]) (by simp only[go_sem,seval,g3]) (by simp only[go_sem,seval]<;>rfl)
end
end FR
open Go Nm Go.Proofs
namespace FR
set_option linter.unusedSimpArgs false
set_option linter.unusedVariables false
section
variable {σ:Type} {q:D4} {m0:NH} {T:D4->Prop} {A:σ->Stm->Prop} {f:σ->Stm->σ×Bool} {Φ:σ->List D4->NH->Prop}
theorem nu (l:List Stm) (i:Nat) (hi:i<l.length):bB l=bB (l.take i)++(l[i].all++bB (l.drop (i+1))):=by
 conv=>lhs;rw[←List.take_append_drop i l,List.drop_eq_getElem_cons hi]
 rw[lW,bB]
theorem lO (hy:Ylds q m0 T A f Φ) {l:List Stm} (ih:∀x∈l,mj q m0 T A f Φ x.b/\mj q m0 T A f Φ x.e):mj q m0 T A f Φ l:=by
 intro v C N s F hS hΦ hA hsz
 refine WF.ex1 fun K hK=> ?_
 refine WF.of_wpG (fun _=>rfl) yR (L:= [(.a .e,.yld q),(.e,v)]) rfl ?_
 unfold IK
 have hlen:=(hS.stays (qW (hy.base hΦ) T)).sl.len
 rw[hS.len] at hlen
 have hll:=zh l
 simp (disch:=first|assumption|omega) only[go_sem,seval,hlen,ai]
 refine W.loop (fun k d=>∃t M i F',d=⟨t, [],none,M⟩/\NT.get D4.e.a t=some (.yld q)/\NT.get D4.e.a.c t=some v/\NT.get D4.e.a.f t=some (ii l.length)/\NT.get D4.e.b.a t=some (ii (i:Nat))/\i+k=l.length/\(bx f (bB (l.take i)) s).2=true/\Φ (bx f (bB (l.take i)) s).1 F' M/\Chg F N M/\(∀i∈F',i∈F∨¬aC N i)) ?_ l.length _ ⟨_,N,0,F,rfl,by simp only[go_sem,seval],by simp only[go_sem,seval],by simp only[go_sem,seval],by simp only[go_sem,seval]<;>rfl,by omega,rfl,hΦ,(Chg.refl N).weak (by simp),fun _ h=>Or.inl h⟩
 rintro k d ⟨t,M,i,F',rfl,g1,g2,g3,g4,hik,hb,hΦ',hC,hF⟩
 apply aK
 change wp _ _ _ _ ⟨ak [] t, [],none,M⟩ _
 by_cases hi:i<l.length
 ·have hCM:=hy.base hΦ'
  have hSM:=hS.stays (qW hCM T)
  obtain ⟨cx,hcx,hRx⟩:=hS.at i hi
  obtain ⟨id,off,wr,c,a1,a2,a3,a4,a5⟩:=hSM.sl.at i (by rw[hS.len];exact hi)
  have ecx:C[i]'(by rw[hS.len];exact hi)=cx:=by
   have:=List.getElem?_eq_getElem (l:=C) (i:=i) (by rw[hS.len];exact hi)
   rw[this] at hcx;injection hcx
  rw[ecx] at a5
  obtain ⟨w,rfl,hP⟩:=hRx.inv'
  have hsx:=FS (List.getElem_mem hi)
  obtain ⟨h1,h2⟩:=ih _ (List.getElem_mem hi)
  have hst:bx f (bB (l.take (i+1))) s=bx f l[i].all (bx f (bB (l.take i)) s).1:=by rw[zD hi,eN,hb,if_pos rfl]
  rw[nu l i hi,ll,ll] at hA
  have hAi:=(hA.2 hb).1
  refine wW hy hRx hP h1 h2 hAi (by omega) hΦ' (n:=l.length) hi (by omega) a1 a2 a3 a4 a5 g1 g2 g3 g4 ?_ ?_
  ·intro hb2 t' N' F2 hΦ2 hC2 hF2 g1 g2 g3 g4
   refine ⟨k - 1,by omega,t',N',i+1,F2,rfl,g1,g2,g3,g4,by omega, ?_, ?_,hC.trans hC2 fun j hj ho=>(hF j hj).elim _root_.id fun q=>absurd ho q,fun j hj=>(hF2 j hj).elim (hF j) fun q=>Or.inr fun o=>q (hC.old o)⟩
   ·rw[hst];exact hb2
   ·rw[hst];exact hΦ2
  ·intro hb2 t' N' F2 hΦ2 hC2 hF2 g1
   have hfin:bx f (bB l) s=bx f l[i].all (bx f (bB (l.take i)) s).1:=by
    rw[nu l i hi,eN,hb,if_pos rfl,eN,hb2];rfl
   simp (disch:=first|assumption|omega) only[go_sem,seval,g1]
   rw[hfin] at hK
   rw[←hb2]
   exact hK _ ⟨F2,hΦ2,hC.trans hC2 fun j hj ho=>(hF j hj).elim _root_.id fun q=>absurd ho q,fun j hj=>(hF2 j hj).elim (hF j) fun q=>Or.inr fun o=>q (hC.old o)⟩
 ·have e:(l.take i)=l:=List.take_of_length_le (by omega)
  rw[e] at hb hΦ'
  rw[hb] at hK
  unfold mJ
  simp (disch:=first|assumption|omega) only[go_sem,seval,g1,g2,g3,g4]
  exact hK _ ⟨F',hΦ',hC,hF⟩
theorem Dh (hy:Ylds q m0 T A f Φ):∀l:List Stm,mj q m0 T A f Φ l:=by
 have key:∀x:Stm,mj q m0 T A f Φ x.b/\mj q m0 T A f Φ x.e:=by
  apply Stm.ind
  intro k a nm ce i x y b e hb he
  exact ⟨lO hy hb,lO hy he⟩
 exact fun l=>lO hy fun x _=>key x
theorem C6 (hy:Ylds q m0 T A f Φ) {l:List Stm} {v:NV} {C:List (List NV)} {N:NH} {s:σ} {F:List D4} {id:D4} (hg:N.get id=some (.cells true [v])) (hS:SS m0 T v l C) (hΦ:Φ s F N) (hA:Al A f (bB l) s) (hsz:cn l<=1000000000):
 ∃N',bI Try.prog S0 97 [.yld q,.ptr id 0] N (.tup []) N'/\∃F',Φ (bx f (bB l) s).1 F' N'/\Chg F N N'/\∀i∈F',i∈F∨¬aC N i:=by
 refine WF.ex1 fun K hK=> ?_
 refine WF.of_wpG (fun _=>rfl) yO (L:= [(.a .e,.ptr id 0),(.e,.yld q)]) rfl ?_
 unfold GV
 simp (disch:=first|assumption|omega) only[go_sem,seval,hg,ai]
 refine WF.use1 (Dh hy l hS hΦ hA hsz) ?_
 intro N' h
 simp (disch:=first|assumption|omega) only[go_sem,seval]
 exact hK _ h
end
theorem Gp (m:NH) {v:NV} (hv:cellsOf v=some [v]):bI Try.prog S0 53 [v] m (.fn 97 [.ptr (na m 0) 0]) (hp [(.n 0,.cells true [v])] 1 m):=by
 have h:∃r m',bI Try.prog S0 53 [v] m r m'/\r= .fn 97 [.ptr (na m 0) 0]/\m'=(hp [(.n 0,.cells true [v])] 1 m):=by
  refine WF.ex fun K hK=> ?_
  refine WF.of_wpG (fun _=>rfl) xT (L:= [(.e,v)]) rfl ?_
  unfold IC
  simp (disch:=first|assumption|omega) only[go_sem,seval,hv]
  exact hK _ _ ⟨rfl,rfl⟩
 obtain ⟨r,m',h1,rfl,rfl⟩:=h
 exact h1
end FR
open Go Nm Go.Proofs
namespace FR
set_option linter.unusedSimpArgs false
set_option linter.unusedVariables false
def Nk (q o:D4) (t:Tm) (M1:NH) (st:List (List Nat)×Nat) (F:List D4) (N:NH):Prop:=∃u,F=q::o::ids u/\Chg [q,o] M1 N/\N.get q=some (.loop 0 .none t [D4.e.a.c] i7 jm)/\N.get o=some (.cells true [u])/\bL M1 N u 1 (cD st.1)/\st.1.length<=st.2
def MX (st:List (List Nat)×Nat) (x:Stm):Prop:=x.sz<=100000000/\st.2+x.own.length<=100000000
def Gj (st:List (List Nat)×Nat) (x:Stm):(List (List Nat)×Nat)×Bool:=((x.own.foldl cH st.1,st.2+x.own.length),true)
theorem FN {m0 M1:NH} {T:D4->Prop} {q o:D4} {t:Tm} (h1:NT.get D4.e.c t=some (.ptr o 0)) (h0:∀S,Chg [q,o] M1 S->Chg [] m0 S) (hoq:o≠q) (hqo:aC M1 q) (hoo:aC M1 o):Ylds q m0 T MX Gj (Nk q o t M1):=by
 refine ⟨?_, ?_, ?_, ?_⟩
 ·rintro s F N ⟨u,rfl,hC,hq,ho,hu,hl⟩;exact h0 _ hC
 ·rintro s F N ⟨u,rfl,hC,hq,ho,hu,hl⟩ i hi
  rcases List.mem_cons.mp hi with rfl|hi
  ·exact hC.old hqo
  ·rcases List.mem_cons.mp hi with rfl|hi
   ·exact hC.old hoo
   ·exact hu.sl.old i hi
 ·rintro s F N N' ⟨u,rfl,hC,hq,ho,hu,hl⟩ hC'
  exact ⟨u,rfl,hC.trans hC' (by simp),(hC'.get (hC.old hqo) (by simp)).trans hq,(hC'.get (hC.old hoo) (by simp)).trans ho,hu.chg hC' fun _ _=>by simp,hl⟩
 ·rintro s F N x c ⟨u,rfl,hC,hq,ho,hu,hl⟩ hR ⟨hA1,hA2⟩
  obtain ⟨w,rfl,hP⟩:=hR.inv'
  refine WY.ex1 fun K hK=> ?_
  refine WY.of_wp hq rfl i7.eq_1 jm.eq_1 ?_
  change wp _ _ _ _ ⟨ak [(D4.e.a.c,.agg (x.l w))] t, [],none,hp [] 0 N⟩ _
  have hl21:(x.l w).length=21:=rfl
  have hl21':(x.l w).take 21=x.l w:=rfl
  have oq:=hC.old hqo
  have oo:=hC.old hoo
  have hqo':q≠o:=fun e=>hoq e.symm
  simp (config:={maxSteps:=1000000}) (disch:=first|assumption|omega|exact ab (by omega)|exact aa (by assumption)|(simp only[ao]<;>omega)) only[go_sem,seval,h1,hq,ho,hl21,hl21']
  generalize hM2:hp _ 1 N=M2
  have hC2:Chg [q] N M2:=by rw[←hM2];exact an rfl
  have q2:M2.get q=some (.loop 1 .none t [D4.e.a.c] i7 jm):=by rw[←hM2];exact (aQ oq).trans ay
  have o2:M2.get o=some (.cells true [u]):=(hC2.get oo (by simpa using hoq)).trans ho
  have b2:M2.get (na N 0)=some (.cells true (x.l w)):=by rw[←hM2];exact ax
  have ob2:aC M2 (na N 0):=by rw[←hM2];exact ab (by omega)
  have hC02:Chg [] m0 M2:=h0 _ (hC.trans (hC2.weak (T:= [q,o]) (by simp)) fun _ h _=>h)
  refine WF.use (xK hR hC02 hA1) ?_
  rintro v3 M3 ⟨hv3,hC3⟩
  have q3:=(hC3.get (hC2.old oq) (by simp)).trans q2
  have o3:=(hC3.get (hC2.old oo) (by simp)).trans o2
  have b3:=(hC3.get ob2 (by simp)).trans b2
  have hqu:q∉ids u:=fun h=>hu.new _ h hqo
  have hou:o∉ids u:=fun h=>hu.new _ h hoo
  have hu3:bL M1 M3 u 1 (cD s.1):=(hu.chg hC2 fun i hi=>by simp;rintro rfl;exact hqu hi).chg hC3 fun _ _=>by simp
  have hus:bP 4 u u=true:=hu.sl.same
  simp (config:={maxSteps:=1000000}) (disch:=first|assumption|omega|exact ab (by omega)|exact aa (by assumption)|(simp only[ao]<;>omega)) only[go_sem,seval,h1,q3,o3,b3,hl21,hl21',hus]
  refine WF.use (xj hu3 hv3.sl (fun i hi hiu=>hv3.new i hi (hC2.old (hu.sl.old i hiu))) (fun i hi=>hC3.old (hC2.old (hC.old hi))) (by omega)) ?_
  rintro v4 M4 ⟨hv4,hC4,hF4⟩
  have q4:=(hC4.get (hC3.old (hC2.old oq)) hqu).trans q3
  have o4:=(hC4.get (hC3.old (hC2.old oo)) hou).trans o3
  have oq4:=hC4.old (hC3.old (hC2.old oq))
  have oo4:=hC4.old (hC3.old (hC2.old oo))
  rw[←ai M4]
  simp (config:={maxSteps:=1000000}) (disch:=first|assumption|omega|exact ab (by omega)|exact aa (by assumption)|(simp only[ao]<;>omega)) only[go_sem,seval,h1,q4,o4,b3,hl21,hl21',hus,hv4.sl.one]
  generalize hM5:hp _ 0 M4=M5
  have hC5:Chg [q,o] M4 M5:=by rw[←hM5];exact an rfl
  have hqv:q∉ids v4:=fun h=>hv4.new _ h hqo
  have hov:o∉ids v4:=fun h=>hv4.new _ h hoo
  have hCN:Chg (q::o::ids u) N M5:=(((hC2.weak (T:=q::o::ids u) (by simp)).trans hC3 (by simp)).trans hC4 (fun _ h _=>by simp[h])).trans hC5 (fun i h _=>by simp at h ⊢;rcases h with h|h<;>simp[h])
  refine hK _ ⟨_,⟨v4,rfl, ?_, ?_, ?_, ?_, ?_⟩,hCN, ?_⟩
  ·refine hC.trans hCN fun i hi ho=> ?_
   simp only[List.mem_cons] at hi
   rcases hi with rfl|rfl|hi
   ·simp
   ·simp
   ·exact absurd ho (hu.new i hi)
  ·rw[←hM5];exact (aQ oq4).trans ay
  ·rw[←hM5];exact (aQ oo4).trans ((bc hoq).trans ay)
  ·refine hv4.chg hC5 fun i hi=> ?_
   simp only[List.mem_cons,List.not_mem_nil,or_false,not_or]
   exact ⟨fun e=>hqv (e▸hi),fun e=>hov (e▸hi)⟩
  ·have:=iV x.own s.1
   show _<=s.2+x.own.length
   simp only[Gj]
   omega
  ·intro i hi
   simp only[List.mem_cons] at hi ⊢
   rcases hi with rfl|rfl|hi
   ·simp
   ·simp
   ·rcases hF4 i hi with h|h
    ·exact Or.inl (Or.inr (Or.inr h))
    ·exact Or.inr fun ho=>h (hC3.old (hC2.old ho))
theorem Fy (l:List Stm):∀st,bx Gj l st=(((l.flatMap Stm.own).foldl cH st.1,st.2+(l.flatMap Stm.own).length),true):=by
 induction l with
 |nil=>intro st;rfl
 |cons x l ih=>
  intro st
  show (if true then bx Gj l (Gj st x).1 else _)=_
  rw[if_pos rfl,ih]
  simp only[Gj,List.flatMap_cons,List.foldl_append,List.length_append]
  rw[Nat.add_assoc]
theorem Jp (l:List Stm):∀st:List (List Nat)×Nat,(∀x∈l,x.sz<=100000000)->st.2+(l.flatMap Stm.own).length<=100000000->Al MX Gj l st:=by
 induction l with
 |nil=>intro st _ _;trivial
 |cons x l ih=>
  intro st h1 h2
  rw[List.flatMap_cons,List.length_append] at h2
  exact ⟨⟨h1 x (List.mem_cons_self ..),by omega⟩,fun _=>ih _ (fun y hy=>h1 y (List.mem_cons_of_mem _ hy)) (by simp only[Gj];omega)⟩
theorem H8:∀x:Stm,(∀y∈x.all,y.sz<=x.sz)/\(x.all.flatMap Stm.own).length<=2*x.sz:=by
 apply Stm.ind
 intro k a nm ce i x y b e hb he
 have key:∀l:List Stm,(∀s∈l,(∀y∈s.all,y.sz<=s.sz)/\(s.all.flatMap Stm.own).length<=2*s.sz)->(∀y∈bB l,y.sz<=cn l)/\((bB l).flatMap Stm.own).length<=2*cn l:=by
  intro l
  induction l with
  |nil=>intro _;exact ⟨by simp[bB],by simp[bB]⟩
  |cons s l ih=>
   intro h
   obtain ⟨h1,h2⟩:=h s (List.mem_cons_self ..)
   obtain ⟨h3,h4⟩:=ih fun y hy=>h y (List.mem_cons_of_mem _ hy)
   rw[bB,cn,List.flatMap_append,List.length_append]
   refine ⟨fun y hy=> ?_,by omega⟩
   rcases List.mem_append.mp hy with hy|hy
   ·have:=h1 y hy;omega
   ·have:=h3 y hy;omega
 obtain ⟨b1,b2⟩:=key b hb
 obtain ⟨e1,e2⟩:=key e he
 have hi:=fi i
 have hx:=fi x
 have hy:=fi y
 have ho:(Stm.mk k a nm ce i x y b e).own.length<=1+i.sz+x.sz+y.sz:=by
  rw[Stm.own]
  simp only[List.length_append]
  have:∀(p:Prop) [Decidable p] (l:List (List Nat)),(if p then l else []).length<=l.length:=by intro p _ l;split<;>simp
  have a1:=this (k=0∨k=1∨k=3) [nm]
  have a2:=this (k=1∨k=2∨k=3) i.names
  have a3:=this (k=0∨k=2∨k=3∨k=5∨k=6∨k=7) x.names
  have a4:=this (k=3) y.names
  simp only[List.length_singleton] at a1
  omega
 rw[Stm.all,Stm.sz]
 constructor
 ·intro z hz
  rcases List.mem_cons.mp hz with rfl|hz
  ·rw[Stm.sz];omega
  ·rcases List.mem_append.mp hz with hz|hz
   ·split at hz
    ·have:=b1 z hz;omega
    ·simp at hz
   ·split at hz
    ·have:=e1 z hz;omega
    ·simp at hz
 ·rw[List.flatMap_cons,List.flatMap_append,List.length_append,List.length_append]
  have c1:((if k=6∨k=7 then bB b else []).flatMap Stm.own).length<=2*cn b:=by split<;>first|exact b2|simp
  have c2:((if k=6 then bB e else []).flatMap Stm.own).length<=2*cn e:=by split<;>first|exact e2|simp
  omega
theorem rj (l:List Stm):(∀y∈bB l,y.sz<=cn l)/\((bB l).flatMap Stm.own).length<=2*cn l:=by
 induction l with
 |nil=>exact ⟨by simp[bB],by simp[bB]⟩
 |cons s l ih=>
  obtain ⟨h1,h2⟩:=H8 s
  obtain ⟨h3,h4⟩:=ih
  rw[bB,cn,List.flatMap_append,List.length_append]
  refine ⟨fun y hy=> ?_,by omega⟩
  rcases List.mem_append.mp hy with hy|hy
  ·have:=h1 y hy;omega
  ·have:=h3 y hy;omega
theorem Cg {m0 m:NH} {T:D4->Prop} {v:NV} {l:List Stm} {C:List (List NV)} (hS:SS m0 T v l C) (hC0:Chg [] m0 m) (hsz:cn l<=10000000):
 ∃r m',bI Try.prog S0 17 [v] m r m'/\bL m m' r 1 (cD (locals l))/\Chg [] m m':=by
 refine WF.ex fun K hK=> ?_
 refine WF.of_wpM (fun _=>rfl) yi (L:= [(.e,v)]) rfl ?_
 unfold I1
 simp (disch:=first|assumption|omega) only[go_sem,seval,(Gp _ hS.sl.one).wf']
 generalize hM0:hp [(.n 0,.cells true [.nils])] 1 m=M0
 have hC1:Chg [] m M0:=by rw[←hM0];exact an rfl
 have go0:M0.get (na m 0)=some (.cells true [.nils]):=by rw[←hM0];exact ax
 have oo0:aC M0 (na m 0):=by rw[←hM0];exact ab (by omega)
 generalize hM:hp [(.n 0,.cells true [v])] 1 M0=M
 have hC2:Chg [] M0 M:=by rw[←hM];exact an rfl
 have gz:M.get (na M0 0)=some (.cells true [v]):=by rw[←hM];exact ax
 have oz:aC M (na M0 0):=by rw[←hM];exact ab (by omega)
 have go:=(hC2.get oo0 (by simp)).trans go0
 have oo:=hC2.old oo0
 have hCm:Chg [] m M:=hC1.trans hC2 (by simp)
 generalize ht:ak [(D4.e.a.b,NV.fn 97 [NV.ptr (na M0 0) 0]),(D4.e.a.a,v),(D4.e.c,NV.ptr (na m 0) 0),(D4.e.b,NV.nils),(D4.e,v)] NT.leaf=t
 have g1:NT.get D4.e.c t=some (.ptr (na m 0) 0):=by rw[←ht];simp (disch:=first|assumption|omega) only[go_sem,seval]
 have g2:NT.get D4.e.a.b t=some (.fn 97 [.ptr (na M0 0) 0]):=by rw[←ht];simp (disch:=first|assumption|omega) only[go_sem,seval]
 clear ht
 generalize hM1:hp [(.n 1,.loop 0 .none t [D4.e.a.c] i7 jm),(.n 0,.defd true)] 2 M=M1
 have hG:Chg [] M M1:=by rw[←hM1];exact an rfl
 have oq:aC M1 (na M 1):=by rw[←hM1];exact ab (by omega)
 have om:aC M1 (na M 0):=by rw[←hM1];exact ab (by omega)
 have gq:M1.get (na M 1)=some (.loop 0 .none t [D4.e.a.c] i7 jm):=by rw[←hM1];exact ax
 have gm:M1.get (na M 0)=some (.defd true):=by rw[←hM1];exact ax
 have hoq:na m 0≠na M 1:=oo.ne 1
 have hCm1:Chg [] m M1:=hCm.trans hG (by simp)
 have h0:∀S,Chg [na M 1,na m 0] M1 S->Chg [] m0 S:=fun S h=>(hC0.trans hCm1 (by simp)).trans h fun i hi ho=>by
  simp only[List.mem_cons,List.not_mem_nil,or_false] at hi
  rcases hi with rfl|rfl
  ·exact absurd (hCm.old (hC0.old ho)) aI
  ·exact absurd (hC0.old ho) aI
 have hY:=FN (T:=T) g1 h0 hoq oq (hG.old oo)
 obtain ⟨hA1,hA2⟩:=rj l
 obtain ⟨m',hr,F',⟨u,rfl,hC3,hq3,ho3,hu3,-⟩,hC4,-⟩:=C6 hY (s:=([],0)) (F:= [na M 1,na m 0]) (id:=na M0 0) ((hG.get oz (by simp)).trans gz) hS ⟨.nils,rfl,(Chg.refl M1).weak (by simp),gq,(hG.get oo (by simp)).trans go,bL.nil,by simp⟩ (Jp _ _ (fun x hx=>by have:=hA1 x hx;omega) (by show 0+_<=_;omega)) (by omega)
 rw[Fy] at hu3
 refine W.rangeN g2 (hM1▸hr) hq3 ?_ (hC3.old oq)
 have gm3:m'.get (na M 0)=some (.defd true):=(hC3.get om (by
  simp only[List.mem_cons,List.not_mem_nil,or_false,not_or]
  exact ⟨fun e=>by have:=jF e;omega,fun e=>oo.ne 0 e.symm⟩)).trans gm
 have om3:=hC3.old om
 have oo3:=hC3.old (hG.old oo)
 have hne:na M 0≠na M 1:=fun e=>by have:=jF e;omega
 change ip _ _ _ ⟨ak [] t,_,_,_⟩
 simp (disch:=first|assumption|omega) only[go_sem,seval,g1,gm3,om3,ho3,oo3,hoq,hne]
 generalize hMe:hp _ 0 m'=Me
 have hCe:Chg [na M 1,na M 0] m' Me:=by rw[←hMe];exact (an rfl:Chg [na M 0,na M 1] m' _).weak (by intro i hi _;simp at hi ⊢;exact hi.symm)
 refine hK _ _ ⟨?_, ?_⟩
 ·refine (hu3.chg hCe fun i hi=> ?_).back fun i hi=>hCm1.old hi
  simp only[List.mem_cons,List.not_mem_nil,or_false,not_or]
  exact ⟨fun e=>hu3.new i hi (e▸oq),fun e=>hu3.new i hi (e▸om)⟩
 ·refine ((hCm1.weak (T:= [na M 1,na m 0,na M 0]) (by simp)).trans hC3 fun i h _=>by simp at h ⊢;rcases h with h|h<;>simp[h]).trans hCe (fun i h _=>by simp at h ⊢;rcases h with h|h<;>simp[h]) |>.weak fun i hi ho=> ?_
  simp only[List.mem_cons,List.not_mem_nil,or_false] at hi
  rcases hi with rfl|rfl|rfl
  ·exact absurd (hCm.old ho) aI
  ·exact absurd ho aI
  ·exact absurd (hCm.old ho) aI
end FR
open Go Nm Go.Proofs
namespace FR
set_option linter.unusedSimpArgs false
set_option linter.unusedVariables false
end FR
open Go Nm Go.Proofs
namespace FR
set_option linter.unusedSimpArgs false
set_option linter.unusedVariables false
end FR
open Go Nm Go.Proofs
namespace FR
set_option linter.unusedSimpArgs false
set_option linter.unusedVariables false
theorem J9 {m:NH} {T:D4->Prop} {v:NV} {l:List Stm} {C:List (List NV)} (h:SS m T v l C) (i:Nat) (hi:i<l.length):∃w,C[i]? =some (l[i].l w)/\RS m T l[i] (l[i].l w)/\SP m T l[i] w:=by
 obtain ⟨c,h1,h2⟩:=h.at i hi
 obtain ⟨w,rfl,h3⟩:=h2.inv'
 exact ⟨w,h1,h2,h3⟩
theorem Hj {m:NH} {T:D4->Prop} {v:NV} {l:List Stm} {C:List (List NV)} (h:SS m T v l C) (i:Nat) (hi:i<l.length) {cs:List NV} (hc:C[i]? =some cs):∃id off w c,my 21 v (.int .i64 (.lit (i:Int)))= .val (.ptr id off)/\m.get id=some (.cells w c)/\aC m id/\off+21<=c.length/\(c.drop off).take 21=cs:=by
 have hl:i<C.length:=by rw[h.len];exact hi
 obtain ⟨id,off,w,c,a1,a2,a3,a4,a5⟩:=h.sl.at i hl
 rw[List.getElem?_eq_getElem hl] at hc
 injection hc with hc
 exact ⟨id,off,w,c,a1,a2,a3,a4,a5.trans hc⟩
end FR
open Go Nm Go.Proofs
namespace FR
set_option linter.unusedSimpArgs false
set_option linter.unusedVariables false
abbrev iu (z:Int):NV:= .int .u64 (.lit z)
def LF (z:Int):Prop:=0<=z/\z<18446744073709551616
end FR
open Go Nm Go.Proofs
namespace FR
set_option linter.unusedSimpArgs false
set_option linter.unusedVariables false
abbrev L4 (l:List Int):List (List NV):=l.map fun z=> [iu z]
structure Env (m0:NH) (vn vv:NV) (ns:List (List Nat)) (vs:List Int):Prop where
 n:Sl m0 vn 1 (cD ns)
 v:Sl m0 vv 1 (L4 vs)
 i:∀z∈vs,LF z
 ln:ns.length<=1000000
 lv:vs.length<=1000000
theorem Env.grow {m0 m:NH} {vn vv:NV} {ns:List (List Nat)} {vs:List Int} (h:Env m0 vn vv ns vs) (hC:Chg [] m0 m):Env m vn vv ns vs:=⟨h.n.chg hC fun _ _=>by simp,h.v.chg hC fun _ _=>by simp,h.i,h.ln,h.lv⟩
theorem bi.grow {T:D4->Prop} {a b c:NH} (h:bi T a b) (hC:Chg [] b c):bi T a c:=fun i hi ho=>by
 obtain ⟨h1,h2⟩:=h i hi ho
 exact ⟨(hC.get h2 (by simp)).trans h1,hC.old h2⟩
theorem ET {m0 M:NH} {T:D4->Prop} {ks:List Ex} {vk:NV} {C:List (List NV)} (hS:SE m0 T vk ks C) (hst:bi T m0 M) (i:Nat) (hi:i<ks.length):∃u id off w c,RE m0 T ks[i] (ks[i].l u)/\my 5 vk (.int .i64 (.lit (i:Int)))= .val (.ptr id off)/\M.get id=some (.cells w c)/\aC M id/\off+5<=c.length/\(c.drop off).take 5=ks[i].l u:=by
 obtain ⟨cx,hcx,hRx⟩:=hS.at i hi
 have hc:i<C.length:=by rw[hS.len];exact hi
 obtain ⟨id,off,wr,c,a1,a2,a3,a4,a5⟩:=(hS.stays hst).sl.at i hc
 obtain ⟨u,Cx,rfl,-⟩:=hRx.inv'
 rw[List.getElem?_eq_getElem hc] at hcx
 injection hcx with hcx
 exact ⟨u,id,off,wr,c,hRx,a1,a2,a3,a4,a5.trans hcx⟩
theorem qE {m:NH} {T:D4->Prop} {x:Ex} {u:NV} (h:RE m T x (x.l u)):bP 4 (.agg (x.l u)) (.agg (x.l u))=true:=by
 cases x
 obtain ⟨v,C,e,hS⟩:=h.inv
 refine nL ?_
 intro w hw
 rw[e] at hw
 simp only[List.mem_cons,List.not_mem_nil,or_false] at hw
 rcases hw with rfl|rfl|rfl|rfl|rfl
 ·trivial
 ·trivial
 ·trivial
 ·trivial
 ·exact hS.sl.flat
end FR
open Go Nm Go.Proofs
namespace FR
set_option linter.unusedSimpArgs false
set_option linter.unusedVariables false
end FR
open Go Nm Go.Proofs
namespace FR
set_option linter.unusedSimpArgs false
set_option linter.unusedVariables false
abbrev qg (l:List (List Nat×Int)):List (List NV):=l.map fun c=> [.str c.1,ii c.2]
structure Ths (m:NH) (T:D4->Prop) (v:NV) (l:List (List Nat×List Stm)) (C:List (List NV)):Prop where
 sl:Sl m v 2 C
 hT:∀i∈ids v,T i
 len:C.length=l.length
 R:∀(i:Nat) (x:List Nat×List Stm) (c:List NV),l[i]? =some x->C[i]? =some c->∃vb B,c= [.str x.1,vb]/\SS m T vb x.2 B
theorem Ths.stays {m m':NH} {T:D4->Prop} (hs:bi T m m') {v:NV} {l:List (List Nat×List Stm)} {C:List (List NV)} (h:Ths m T v l C):Ths m' T v l C:=
 ⟨fq h.sl h.hT hs,h.hT,h.len,fun i x c a b=>by obtain ⟨vb,B,e,h⟩:=h.R i x c a b;exact ⟨vb,B,e,h.stays hs⟩⟩
theorem Ths.at {m:NH} {T:D4->Prop} {v:NV} {l:List (List Nat×List Stm)} {C:List (List NV)} (h:Ths m T v l C) (i:Nat) (hi:i<l.length):∃vb B id off w c,SS m T vb l[i].2 B/\my 2 v (.int .i64 (.lit (i:Int)))= .val (.ptr id off)/\m.get id=some (.cells w c)/\aC m id/\off+2<=c.length/\(c.drop off).take 2= [.str l[i].1,vb]:=by
 have hc:i<C.length:=by rw[h.len];exact hi
 obtain ⟨vb,B,e,hS⟩:=h.R i _ _ (List.getElem?_eq_getElem hi) (List.getElem?_eq_getElem hc)
 obtain ⟨id,off,w,c,a1,a2,a3,a4,a5⟩:=h.sl.at i hc
 exact ⟨vb,B,id,off,w,c,hS,a1,a2,a3,a4,a5.trans e⟩
structure Prg where
 cs:List (List Nat×Int)
 ts:List (List Nat×List Stm)
 r:List Stm
structure RP (m:NH) (T:D4->Prop) (p:Prg) (vc vt vr:NV):Prop where
 c:Sl m vc 2 (qg p.cs)
 cT:∀i∈ids vc,T i
 t:∃C,Ths m T vt p.ts C
 r:∃C,SS m T vr p.r C
theorem RP.stays {m m':NH} {T:D4->Prop} (hs:bi T m m') {p:Prg} {vc vt vr:NV} (h:RP m T p vc vt vr):RP m' T p vc vt vr:=
 ⟨fq h.c h.cT hs,h.cT,let ⟨C,q⟩:=h.t;⟨C,q.stays hs⟩,let ⟨C,q⟩:=h.r;⟨C,q.stays hs⟩⟩
end FR
open Go Nm Go.Proofs
namespace FR
set_option linter.unusedSimpArgs false
set_option linter.unusedVariables false
def I5 (s:Int):Bool:=decide (1<=s/\s<=64/\s.toNat&&& (s.toNat - 1)=0)
def fS:List (List Nat)->Int->List (List Nat×Int)->Int
 |_,_, []=>0
 |seen,w,c::l=>if c.1∈seen then 5 else if I5 c.2=false then 7 else if 64 - w<c.2 then 3 else fS (cH seen c.1) (w+c.2) l
def jC:List (List Nat)->List (List Nat)->Int
 |_, []=>0
 |seen,n::l=>if n∈seen then 5 else jC (cH seen n) l
theorem A9 {l:List (List Nat)} {s x:List Nat}:x∈cH l s↔x∈l∨x=s:=by
 unfold cH
 split
 ·rename_i h;constructor
  ·exact Or.inl
  ·rintro (q|rfl)
   ·exact q
   ·exact h
 ·simp
theorem zq {x:List Nat}:∀(more l:List (List Nat)),x∈more.foldl cH l↔x∈l∨x∈more:=by
 intro more
 induction more with
 |nil=>intro l;simp
 |cons a more ih=>intro l;rw[List.foldl_cons,ih,A9,List.mem_cons,or_assoc]
theorem Ft {a b:Nat} (ha:a<1000) (hb:b<1000):dH .num .and (ii a) (ii b)=some (ii ((a&&& b:Nat):Int)):=
 (jU rfl).trans (bits_nat (k:= .i64) (Or.inl rfl) (by show a<9223372036854775808;omega) (by show b<9223372036854775808;omega) rfl)
theorem xM {s:Int} (h1:1<=s) (h2:s<=64):dH .num .and (ii s) (ii (s - 1))=some (ii (s.toNat&&& (s.toNat - 1):Nat)):=by
 obtain ⟨n,rfl⟩:=Int.eq_ofNat_of_zero_le (by omega:0<=s)
 rw[show ((n:Int) - 1)=((n - 1:Nat):Int) by omega]
 exact Ft (by omega) (by omega)
theorem Fe {m:NH} {v:NV} {l:List (List Nat×Int)} (hv:Sl m v 2 (qg l)) (hsz:l.length<=1000000):∃m',bI Try.prog S0 89 [v] m (ii (fS [] 0 l)) m'/\Chg [] m m':=by
 refine WF.ex1 fun K hK=> ?_
 refine WF.of_wpG (fun _=>rfl) xO (L:= [(.e,v)]) rfl ?_
 unfold HA
 have hlen:=hv.len
 rw[List.length_map] at hlen
 simp (config:={maxSteps:=1000000}) (disch:=first|assumption|omega|exact ab (by omega)|exact aa (by assumption)|(simp only[ao]<;>omega)) only[go_sem,seval,hlen]
 generalize hM0:hp _ 1 m=M0
 have hC0:Chg [] m M0:=by rw[←hM0];exact an rfl
 have hg0:M0.get (na m 0)=some (.map (fR [])):=by rw[←hM0];exact ax
 have ho0:aC M0 (na m 0):=by rw[←hM0];exact ab (by omega)
 refine W.loop (fun k d=>∃t M i seen w,d=⟨t, [],none,M⟩/\NT.get D4.e.c t=some (ii w)/\NT.get D4.e.f t=some (.map (na m 0))/\NT.get D4.e.a.f t=some v/\NT.get D4.e.b.a t=some (ii l.length)/\NT.get D4.e.b.b t=some (ii (i:Nat))/\i+k=l.length/\0<=w/\w<=64/\fS seen w (l.drop i)=fS [] 0 l/\M.get (na m 0)=some (.map (fR seen))/\aC M (na m 0)/\Chg [] m M) ?_ l.length _ ⟨_,M0,0, [],0,rfl,by simp only[go_sem,seval],by simp only[go_sem,seval],by simp only[go_sem,seval],by simp only[go_sem,seval],by simp only[go_sem,seval]<;>rfl,by omega,by omega,by omega,rfl,hg0,ho0,hC0⟩
 rintro k d ⟨t,M,i,seen,w,rfl,g1,g2,g3,g4,g5,hik,hw0,hw,hE,hg,ho,hC⟩
 apply aK
 unfold xu
 change wp _ _ _ _ ⟨ak [] t, [],none,M⟩ _
 rw[←ai M]
 by_cases hi:i<l.length
 ·obtain ⟨id,off,wr,c,a1,a2,a3,a4,a5⟩:=hv.at i (by simpa using hi)
  rw[List.getElem_map] at a5
  have a2':=(hC.get a3 (by simp)).trans a2
  have a3':=hC.old a3
  rw[List.drop_eq_getElem_cons hi] at hE
  generalize hc:l[i]=cc at hE a5
  obtain ⟨n,s⟩:=cc
  rw[fS] at hE
  dsimp only at hE a5
  by_cases hin:n∈seen
  ·rw[if_pos hin] at hE
   have hd:decide (n∈seen)=true:=decide_eq_true hin
   simp (config:={maxSteps:=1000000}) (disch:=first|assumption|omega|exact ab (by omega)|exact aa (by assumption)|(simp only[ao]<;>omega)) only[go_sem,seval,g1,g2,g3,g4,g5,hlen,a1,a2',a5,hg,hd]
   rw[←hE] at hK
   exact hK _ (fa hC rfl)
  ·rw[if_neg hin] at hE
   have hd:decide (n∈seen)=false:=decide_eq_false hin
   by_cases hpw:I5 s=true
   ·rw[if_neg (by simp[hpw])] at hE
    have hp':=of_decide_eq_true hpw
    obtain ⟨p1,p2,p3⟩:=hp'
    have hpa:=xM p1 p2
    rw[p3] at hpa
    by_cases hlw:64 - w<s
    ·rw[if_pos hlw] at hE
     simp (config:={maxSteps:=1000000}) (disch:=first|assumption|omega|exact ab (by omega)|exact aa (by assumption)|(simp only[ao]<;>omega)) only[go_sem,seval,g1,g2,g3,g4,g5,hlen,a1,a2',a5,hg,hd,hpa]
     rw[←hE] at hK
     exact hK _ (fa hC rfl)
    ·rw[if_neg hlw] at hE
     simp (config:={maxSteps:=1000000}) (disch:=first|assumption|omega|exact ab (by omega)|exact aa (by assumption)|(simp only[ao]<;>omega)) only[go_sem,seval,g1,g2,g3,g4,g5,hlen,a1,a2',a5,hg,hd,hpa]
     generalize hM1:hp _ 1 M=M1
     have hC1:Chg [na m 0] M M1:=by rw[←hM1];exact an rfl
     refine ⟨k - 1,by omega,_,M1,i+1,_,w+s,by rfl,by simp only[go_sem,seval],by simp only[go_sem,seval,g2],by simp only[go_sem,seval,g3],by simp only[go_sem,seval,g4],by simp only[go_sem,seval]<;>rfl,by omega,by omega,by omega,hE, ?_,hC1.old ho,hC.trans hC1 fun i hi ho=> ?_⟩
     ·rw[←hM1];exact (aQ ho).trans ay
     ·simp only[List.mem_cons,List.not_mem_nil,or_false] at hi;subst hi;exact absurd ho aI
   ·have hpw:I5 s=false:=by simpa using hpw
    rw[if_pos hpw] at hE
    have hp':=of_decide_eq_false hpw
    by_cases h1:s<1
    ·simp (config:={maxSteps:=1000000}) (disch:=first|assumption|omega|exact ab (by omega)|exact aa (by assumption)|(simp only[ao]<;>omega)) only[go_sem,seval,g1,g2,g3,g4,g5,hlen,a1,a2',a5,hg,hd]
     rw[←hE] at hK
     exact hK _ (fa hC rfl)
    ·by_cases h2:64<s
     ·simp (config:={maxSteps:=1000000}) (disch:=first|assumption|omega|exact ab (by omega)|exact aa (by assumption)|(simp only[ao]<;>omega)) only[go_sem,seval,g1,g2,g3,g4,g5,hlen,a1,a2',a5,hg,hd]
      rw[←hE] at hK
      exact hK _ (fa hC rfl)
     ·have hpa:=xM (by omega:1<=s) (by omega)
      have hne:s.toNat&&& (s.toNat - 1)≠0:=fun h=>hp' ⟨by omega,by omega,h⟩
      generalize s.toNat&&& (s.toNat - 1)=r at hpa hne
      simp (config:={maxSteps:=1000000}) (disch:=first|assumption|omega|exact ab (by omega)|exact aa (by assumption)|(simp only[ao]<;>omega)) only[go_sem,seval,g1,g2,g3,g4,g5,hlen,a1,a2',a5,hg,hd,hpa]
      rw[←hE] at hK
      exact hK _ (fa hC rfl)
 ·simp (config:={maxSteps:=1000000}) (disch:=first|assumption|omega|exact ab (by omega)|exact aa (by assumption)|(simp only[ao]<;>omega)) only[go_sem,seval,g1,g2,g3,g4,g5,hlen]
  rw[List.drop_of_length_le (by omega),fS] at hE
  rw[←hE] at hK
  rw[ai]
  exact hK _ hC
theorem z0 {m:NH} {T:D4->Prop} {v:NV} {l:List (List Nat×List Stm)} {C:List (List NV)} (hT:Ths m T v l C) (hsz:l.length<=1000000):∃m',bI Try.prog S0 90 [v] m (ii (jC [] (l.map (·.1)))) m'/\Chg [] m m':=by
 refine WF.ex1 fun K hK=> ?_
 refine WF.of_wpG (fun _=>rfl) xY (L:= [(.e,v)]) rfl ?_
 unfold Hc
 have hlen:=hT.sl.len
 rw[hT.len] at hlen
 simp (config:={maxSteps:=1000000}) (disch:=first|assumption|omega|exact ab (by omega)|exact aa (by assumption)|(simp only[ao]<;>omega)) only[go_sem,seval,hlen]
 generalize hM0:hp _ 1 m=M0
 have hC0:Chg [] m M0:=by rw[←hM0];exact an rfl
 have hg0:M0.get (na m 0)=some (.map (fR [])):=by rw[←hM0];exact ax
 have ho0:aC M0 (na m 0):=by rw[←hM0];exact ab (by omega)
 refine W.loop (fun k d=>∃t M i seen,d=⟨t, [],none,M⟩/\NT.get D4.e.c t=some (.map (na m 0))/\NT.get D4.e.a.c t=some v/\NT.get D4.e.a.f t=some (ii l.length)/\NT.get D4.e.b.a t=some (ii (i:Nat))/\i+k=l.length/\jC seen ((l.map (·.1)).drop i)=jC [] (l.map (·.1))/\M.get (na m 0)=some (.map (fR seen))/\aC M (na m 0)/\Chg [] m M) ?_ l.length _ ⟨_,M0,0, [],rfl,by simp only[go_sem,seval],by simp only[go_sem,seval],by simp only[go_sem,seval],by simp only[go_sem,seval]<;>rfl,by omega,rfl,hg0,ho0,hC0⟩
 rintro k d ⟨t,M,i,seen,rfl,g1,g2,g3,g4,hik,hE,hg,ho,hC⟩
 apply aK
 unfold yA
 change wp _ _ _ _ ⟨ak [] t, [],none,M⟩ _
 rw[←ai M]
 by_cases hi:i<l.length
 ·obtain ⟨vb,B,id,off,wr,c,-,a1,a2,a3,a4,a5⟩:=hT.at i hi
  have a2':=(hC.get a3 (by simp)).trans a2
  have a3':=hC.old a3
  rw[List.drop_eq_getElem_cons (by simpa using hi),List.getElem_map,jC] at hE
  generalize l[i].1=n at hE a5
  by_cases hin:n∈seen
  ·rw[if_pos hin] at hE
   have hd:decide (n∈seen)=true:=decide_eq_true hin
   simp (config:={maxSteps:=1000000}) (disch:=first|assumption|omega|exact ab (by omega)|exact aa (by assumption)|(simp only[ao]<;>omega)) only[go_sem,seval,g1,g2,g3,g4,hlen,a1,a2',a5,hg,hd]
   rw[←hE] at hK
   exact hK _ (fa hC rfl)
  ·rw[if_neg hin] at hE
   have hd:decide (n∈seen)=false:=decide_eq_false hin
   simp (config:={maxSteps:=1000000}) (disch:=first|assumption|omega|exact ab (by omega)|exact aa (by assumption)|(simp only[ao]<;>omega)) only[go_sem,seval,g1,g2,g3,g4,hlen,a1,a2',a5,hg,hd]
   generalize hM1:hp _ 1 M=M1
   have hC1:Chg [na m 0] M M1:=by rw[←hM1];exact an rfl
   refine ⟨k - 1,by omega,_,M1,i+1,_,by rfl,by simp only[go_sem,seval,g1],by simp only[go_sem,seval,g2],by simp only[go_sem,seval,g3],by simp only[go_sem,seval]<;>rfl,by omega,hE, ?_,hC1.old ho,hC.trans hC1 fun i hi ho=> ?_⟩
   ·rw[←hM1];exact (aQ ho).trans ay
   ·simp only[List.mem_cons,List.not_mem_nil,or_false] at hi;subst hi;exact absurd ho aI
 ·simp (config:={maxSteps:=1000000}) (disch:=first|assumption|omega|exact ab (by omega)|exact aa (by assumption)|(simp only[ao]<;>omega)) only[go_sem,seval,g1,g2,g3,g4,hlen]
  rw[List.drop_of_length_le (by simp;omega),jC] at hE
  rw[←hE] at hK
  rw[ai]
  exact hK _ hC
def ur (p:Prg):Int:=if 16<p.cs.length∨p.ts.length=0∨4<p.ts.length then 3 else if fS [] 0 p.cs≠0 then fS [] 0 p.cs else jC [] (p.ts.map (·.1))
theorem Hu {m:NH} {T:D4->Prop} {p:Prg} {vc vt vr:NV} (h:RP m T p vc vt vr) (hs:p.cs.length<=1000000/\p.ts.length<=1000000):∃m',bI Try.prog S0 48 [.agg [vc,vt,vr]] m (ii (ur p)) m'/\Chg [] m m':=by
 refine WF.ex1 fun K hK=> ?_
 refine WF.of_wpG (fun _=>rfl) zi (L:= [(.e,.agg [vc,vt,vr])]) rfl ?_
 unfold I4
 obtain ⟨C,hT⟩:=h.t
 have l1:=h.c.len
 have l2:=hT.sl.len
 rw[List.length_map] at l1
 rw[hT.len] at l2
 unfold ur at hK
 by_cases h1:16<p.cs.length
 ·rw[if_pos (Or.inl h1)] at hK
  simp (disch:=first|assumption|omega) only[go_sem,seval,l1,l2]
  exact hK _ (an rfl)
 ·by_cases h2:p.ts.length=0
  ·rw[if_pos (Or.inr (Or.inl h2))] at hK
   simp (disch:=first|assumption|omega) only[go_sem,seval,l1,l2]
   exact hK _ (an rfl)
  ·by_cases h3:4<p.ts.length
   ·rw[if_pos (Or.inr (Or.inr h3))] at hK
    simp (disch:=first|assumption|omega) only[go_sem,seval,l1,l2]
    exact hK _ (an rfl)
   ·rw[if_neg (by omega)] at hK
    have hC1:Chg [] m (hp [(.n 0,.cells true [vc,vt,vr])] 1 m):=an rfl
    obtain ⟨m2,hr,hC2⟩:=Fe (h.c.chg hC1 fun _ _=>by simp) hs.1
    have g2:m2.get (na m 0)=some (.cells true [vc,vt,vr]):=(hC2.get (ab (by omega)) (by simp)).trans ax
    have o2:aC m2 (na m 0):=hC2.old (ab (by omega))
    have hC:=hC1.trans hC2 (by simp)
    simp (disch:=first|assumption|omega) only[go_sem,seval,l1,l2,hr.wf',g2,o2]
    by_cases h4:fS [] 0 p.cs=0
    ·rw[if_neg (by simpa using h4)] at hK
     rw[h4]
     obtain ⟨m3,hr3,hC3⟩:=z0 (hT.stays (qW hC T)) hs.2
     simp (disch:=first|assumption|omega) only[go_sem,seval,g2,o2,hr3.wf']
     exact hK _ (hC.trans hC3 (by simp))
    ·rw[if_pos h4] at hK
     have hd:decide (fS [] 0 p.cs≠0)=true:=decide_eq_true h4
     simp (disch:=first|assumption|omega) only[go_sem,seval,g2,o2,hd]
     exact hK _ hC
end FR
open Go Nm Go.Proofs
namespace FR
set_option linter.unusedSimpArgs false
set_option linter.unusedVariables false
end FR
open Go Nm Go.Proofs
namespace FR
set_option linter.unusedSimpArgs false
set_option linter.unusedVariables false
structure Sp where
 (k d a b c t ce n o:Int)
abbrev ib (z:Int):NV:= .int .u8 (.lit z)
abbrev Sp.l (s:Sp):List NV:= [ii s.k,ii s.d,ii s.a,ii s.b,ii s.c,ii s.t,ii s.ce,iu s.n,ib s.o]
structure Ms where
 st:List Sp
 (v lb:Int)
def bf (s:Sp) (X:Ms):Ms:=⟨X.st++ [s],X.v,X.lb⟩
def bp (n:Int) (X:Ms):Ms:=bf ⟨0,X.v,0,0,0,0,0,n,0⟩ ⟨X.st,X.v+1,X.lb⟩
def mD (o a b:Int) (X:Ms):Ms:=bf ⟨2,X.v,a,b,0,0,0,0,o⟩ ⟨X.st,X.v+1,X.lb⟩
structure Ms.ok (X:Ms) (k:Nat):Prop where
 s:X.st.length+k<=1000000000
 v0:0<=X.v
 v:X.v+k<=1000000000
 l0:0<=X.lb
 l:X.lb+k<=1000000000
theorem Ms.ok.weak {X:Ms} {k j:Nat} (h:X.ok k) (hj:j<=k):X.ok j:=⟨by have:=h.s;omega,h.v0,by have:=h.v;omega,h.l0,by have:=h.l;omega⟩
theorem cu {X:Ms} {k:Nat} (h:X.ok (k+1)) (s:Sp):(bf s X).ok k:=⟨by have:=h.s;simp[bf];omega,h.v0,by have:=h.v;simp only[bf];omega,h.l0,by have:=h.l;simp only[bf];omega⟩
theorem fv {X:Ms} {k:Nat} (h:X.ok (k+1)) (n:Int):(bp n X).ok k:=⟨by have:=h.s;simp[bp,bf];omega,by have:=h.v0;simp only[bp,bf];omega,by have:=h.v;simp only[bp,bf];omega,h.l0,by have:=h.l;simp only[bp,bf];omega⟩
theorem qh {X:Ms} {k:Nat} (h:X.ok (k+1)) (o a b:Int):(mD o a b X).ok k:=⟨by have:=h.s;simp[mD,bf];omega,by have:=h.v0;simp only[mD,bf];omega,by have:=h.v;simp only[mD,bf];omega,h.l0,by have:=h.l;simp only[mD,bf];omega⟩
structure MK (B m:NH) (r:D4) (vc vn:NV) (lo:Int) (vs:NV) (X:Ms):Prop where
 g:m.get r=some (.cells true [vc,vn,ii X.v,ii lo,vs,ii X.lb])
 o:aC m r
 nB:¬aC B r
 s:bL B m vs 9 (X.st.map Sp.l)
 n:r∉ids vs
 c:Chg [] B m
structure Ev (r:D4) (vs vs':NV) (m m':NH):Prop where
 c:Chg (r::ids vs) m m'
 f:∀j∈ids vs',j∈ids vs∨¬aC m j
section
variable {B m m' m'' M:NH} {r i:D4} {vc vn vs vs' vs'':NV} {lo:Int} {X X':Ms}
theorem Ev.trans (h:Ev r vs vs' m m') (h':Ev r vs' vs'' m' m''):Ev r vs vs'' m m'':=
 ⟨h.c.trans h'.c fun i hi ho=>by
  rcases List.mem_cons.mp hi with rfl|hi
  ·exact List.mem_cons_self ..
  ·exact (h.f i hi).elim (fun q=>List.mem_cons_of_mem _ q) fun q=>absurd ho q,
 fun j hj=>(h'.f j hj).elim (h.f j) fun q=>Or.inr fun ho=>q (h.c.old ho)⟩
theorem Ev.pre (hC:Chg [] m m') (h:Ev r vs vs' m' m''):Ev r vs vs' m m'':=
 ⟨(hC.weak (T:=r::ids vs) (by simp)).trans h.c fun i hi _=>hi,fun j hj=>(h.f j hj).imp id fun q ho=>q (hC.old ho)⟩
theorem Ev.grow (hC:Chg [] m m'):Ev r vs vs m m':=⟨hC.weak (by simp),fun j hj=>Or.inl hj⟩
theorem Ev.get (h:Ev r vs vs' m m') (ho:aC m i) (hr:i≠r) (hi:i∉ids vs):m'.get i=m.get i:=h.c.get ho (by simp[hr,hi])
theorem Ev.nin (h:Ev r vs vs' m m') (ho:aC m i) (hi:i∉ids vs):i∉ids vs':=fun q=>(h.f i q).elim hi fun q=>q ho
theorem MK.grow (h:MK B m r vc vn lo vs X) (hC:Chg [] m m'):MK B m' r vc vn lo vs X:=
 ⟨(hC.get h.o (by simp)).trans h.g,hC.old h.o,h.nB,h.s.chg hC fun _ _=>by simp,h.n,h.c.trans hC (by simp)⟩
theorem MK.new (h:MK B m r vc vn lo vs X) (k:Nat):na m k≠r/\na m k∉ids vs:=⟨fun e=>h.o.ne k e.symm,fun q=>aI (h.s.sl.old _ q)⟩
theorem MK.chg (h:MK B m r vc vn lo vs X) (hE:Ev r vs vs' m m'):Chg [] B m':=h.c.trans hE.c fun i hi ho=>by
 rcases List.mem_cons.mp hi with rfl|hi
 ·exact absurd ho h.nB
 ·exact absurd ho (h.s.new i hi)
end
section
variable {B m:NH} {r:D4} {vc vn vs:NV} {lo:Int} {X:Ms}
theorem eh (h:MK B m r vc vn lo vs X) (s:Sp) (hl:X.st.length<=10000000000):∃m',bI Try.prog S0 58 [.ptr r 0,.agg s.l] m (.tup []) m'/\∃vs',MK B m' r vc vn lo vs' (bf s X)/\Ev r vs vs' m m':=by
 refine WF.ex1 fun K hK=> ?_
 refine WF.of_wpG (fun _=>rfl) xw (L:= [(.a .e,.agg s.l),(.e,.ptr r 0)]) rfl ?_
 unfold G4
 have hg:=h.g
 have ho:=h.o
 have hs1:=h.s.sl.same (n:=3)
 simp (config:={maxSteps:=1000000}) (disch:=first|assumption|omega|exact ab (by omega)|exact aa (by assumption)|(simp only[ao]<;>omega)) only[go_sem,seval,hg]
 generalize hM:hp _ 2 m=M
 have hC:Chg [] m M:=by rw[←hM];exact an rfl
 have gx:M.get (na m 1)=some (.cells true s.l):=by rw[←hM];exact ax
 have g0:M.get (na m 0)=some (.cells true s.l):=by rw[←hM];exact ax
 have o0:aC M (na m 0):=by rw[←hM];exact ab (by omega)
 have ox:aC M (na m 1):=by rw[←hM];exact ab (by omega)
 have h1:=h.grow hC
 refine gv h1.s gx ox rfl (fun i hi=>h1.c.old hi) (by simp;omega) (by simp;omega) ?_
 intro vs2 M2 hs2 hC2 hF2
 have hg2:=(hC2.get h1.o h1.n).trans h1.g
 have ho2:=hC2.old h1.o
 have hs2o:=hs2.sl.one
 have gx2:=(hC2.get o0 (h.new 0).2).trans g0
 simp (config:={maxSteps:=1000000}) (disch:=first|assumption|omega|exact ab (by omega)|exact aa (by assumption)|(simp only[ao]<;>omega)) only[go_sem,seval,hg2,hs1,gx2,hC2.old o0,hs2o]
 refine hK _ ⟨vs2, ?_, ?_⟩
 ·generalize hM3:hp _ 0 M2=M3
  have hC3:Chg [r] M2 M3:=by rw[←hM3];exact an rfl
  have hn:r∉ids vs2:=fun q=>(hF2 r q).elim h.n fun q=>q h1.o
  refine ⟨by rw[←hM3];exact (aQ ho2).trans ay,hC3.old ho2,h.nB, ?_,hn, ?_⟩
  ·have:=hs2.chg hC3 fun i hi q=>hn (by simp at q;exact q▸hi)
   simpa [bf] using this
  ·refine (h1.c.trans hC2 fun i hi q=>absurd q (h1.s.new i hi)).trans hC3 fun i hi q=> ?_
   simp only[List.mem_cons,List.not_mem_nil,or_false] at hi;subst hi;exact absurd q h.nB
 ·refine ⟨?_,fun j hj=>(hF2 j hj).imp id fun q ho=>q (hC.old ho)⟩
  refine ((hC.weak (T:=r::ids vs) (by simp)).trans hC2 fun i hi _=>List.mem_cons_of_mem _ hi).trans (an rfl) fun i hi _=> ?_
  simp only[aU,List.mem_cons,List.not_mem_nil,or_false] at hi;subst hi;exact List.mem_cons_self ..
theorem Gm (h:MK B m r vc vn lo vs X) {k:Nat} (hk:X.ok (k+1)):∃m',bI Try.prog S0 164 [.ptr r 0] m (ii X.v) m'/\∃vs',MK B m' r vc vn lo vs' ⟨X.st,X.v+1,X.lb⟩/\Ev r vs vs' m m':=by
 refine WF.ex1 fun K hK=> ?_
 refine WF.of_wpG (fun _=>rfl) tO (L:= [(.e,.ptr r 0)]) rfl ?_
 unfold BZ
 have hg:=h.g
 have ho:=h.o
 have hl:=hk.v
 have hl0:=hk.v0
 have e1:X.v+1 - 1=X.v:=by omega
 simp (config:={maxSteps:=1000000}) (disch:=first|assumption|omega|exact ab (by omega)|exact aa (by assumption)|(simp only[ao]<;>omega)) only[go_sem,seval,hg,e1]
 generalize hM3:hp _ 0 m=M3
 have hC3:Chg [r] m M3:=by rw[←hM3];exact an rfl
 refine hK _ ⟨vs,⟨?_,hC3.old ho,h.nB,h.s.chg hC3 fun i hi q=>h.n (by simp at q;exact q▸hi),h.n, ?_⟩,⟨hC3.weak (by simp),fun j hj=>Or.inl hj⟩⟩
 ·rw[←hM3];exact (aQ ho).trans ay
 ·refine h.c.trans hC3 fun i hi q=> ?_
  simp only[List.mem_cons,List.not_mem_nil,or_false] at hi;subst hi;exact absurd q h.nB
theorem mN (h:MK B m r vc vn lo vs X) (n:Int) {k:Nat} (hk:X.ok (k+1)):∃m',bI Try.prog S0 140 [.ptr r 0,iu n] m (ii X.v) m'/\∃vs',MK B m' r vc vn lo vs' (bp n X)/\Ev r vs vs' m m':=by
 refine WF.ex1 fun K hK=> ?_
 refine WF.of_wpG (fun _=>rfl) uA (L:= [(.a .e,iu n),(.e,.ptr r 0)]) rfl ?_
 unfold De
 obtain ⟨m1,h1,v1,k1,e1⟩:=Gm h hk
 have hk1:=hk.s
 obtain ⟨m2,h2,v2,k2,e2⟩:=eh k1 ⟨0,X.v,0,0,0,0,0,n,0⟩ (by dsimp only;omega)
 simp (config:={maxSteps:=1000000}) (disch:=first|assumption|omega|exact ab (by omega)|exact aa (by assumption)|(simp only[ao]<;>omega)) only[go_sem,seval,ai,h1.wf',h2.wf']
 exact hK _ ⟨v2,k2,e1.trans e2⟩
theorem yV (h:MK B m r vc vn lo vs X) (o a b:Int) {k:Nat} (hk:X.ok (k+1)):∃m',bI Try.prog S0 141 [.ptr r 0,ib o,ii a,ii b] m (ii X.v) m'/\∃vs',MK B m' r vc vn lo vs' (mD o a b X)/\Ev r vs vs' m m':=by
 refine WF.ex1 fun K hK=> ?_
 refine WF.of_wpG (fun _=>rfl) uC (L:= [(.c .e,ii b),(.b .e,ii a),(.a .e,ib o),(.e,.ptr r 0)]) rfl ?_
 unfold Bh
 obtain ⟨m1,h1,v1,k1,e1⟩:=Gm h hk
 have hk1:=hk.s
 obtain ⟨m2,h2,v2,k2,e2⟩:=eh k1 ⟨2,X.v,a,b,0,0,0,0,o⟩ (by dsimp only;omega)
 simp (config:={maxSteps:=1000000}) (disch:=first|assumption|omega|exact ab (by omega)|exact aa (by assumption)|(simp only[ao]<;>omega)) only[go_sem,seval,ai,h1.wf',h2.wf']
 exact hK _ ⟨v2,k2,e1.trans e2⟩
end
section
variable {B m:NH} {r:D4} {vc vn vs:NV} {lo:Int} {X:Ms}
end
end FR
open Go Nm Go.Proofs
namespace FR
set_option linter.unusedSimpArgs false
set_option linter.unusedVariables false
def qk (z:Int):Int:=max 1 (min z 64)
theorem yt (z:Int):1<=qk z/\qk z<=64:=by unfold qk;omega
def dZ:List (List Nat×Int)->Int
 | []=>0
 |c::l=>qk c.2+dZ l
theorem xV (l:List (List Nat×Int)):0<=dZ l/\dZ l<=64*l.length:=by
 induction l with
 |nil=>simp[dZ]
 |cons c l ih=>have:=yt c.2;rw[dZ,List.length_cons];omega
theorem uV (l:List (List Nat×Int)):∀(i:Nat) (hi:i<l.length),dZ (l.take (i+1))=dZ (l.take i)+qk l[i].2:=by
 induction l with
 |nil=>intro i hi;simp at hi
 |cons c l ih=>
  intro i hi
  cases i with
  |zero=>simp[dZ]
  |succ i=>
   have:=ih i (by simpa using hi)
   rw[List.take_succ_cons,dZ,this,List.take_succ_cons,dZ,List.getElem_cons_succ];omega
def Lh (l:List (List Nat×Int)) (i:Int):Int:=if 0<=i/\i<l.length then 4096+8*dZ (l.take i.toNat) else 4096
theorem Fi {m:NH} {v:NV} {l:List (List Nat×Int)} (hv:Sl m v 2 (qg l)) (hsz:l.length<=1000000):∃m',bI Try.prog S0 72 [v] m (ii (dZ l)) m'/\Chg [] m m':=by
 refine WF.ex1 fun K hK=> ?_
 refine WF.of_wpG (fun _=>rfl) y9 (L:= [(.e,v)]) rfl ?_
 unfold IW
 have hlen:=hv.len
 rw[List.length_map] at hlen
 simp (config:={maxSteps:=1000000}) (disch:=first|assumption|omega|exact ab (by omega)|exact aa (by assumption)|(simp only[ao]<;>omega)) only[go_sem,seval,hlen,ai]
 refine W.loop (fun k d=>∃t M i,d=⟨t, [],none,M⟩/\NT.get D4.e.c t=some (ii (dZ (l.take i)))/\NT.get D4.e.a.b t=some v/\NT.get D4.e.a.c t=some (ii l.length)/\NT.get D4.e.a.f t=some (ii (i:Nat))/\i+k=l.length/\Chg [] m M) ?_ l.length _ ⟨_,m,0,rfl,by simp only[go_sem,seval]<;>rfl,by simp only[go_sem,seval],by simp only[go_sem,seval],by simp only[go_sem,seval]<;>rfl,by omega,Chg.refl m⟩
 rintro k d ⟨t,M,i,rfl,g1,g2,g3,g4,hik,hC⟩
 apply aK
 unfold y8
 change wp _ _ _ _ ⟨ak [] t, [],none,M⟩ _
 rw[←ai M]
 by_cases hi:i<l.length
 ·obtain ⟨id,off,wr,c,a1,a2,a3,a4,a5⟩:=hv.at i (by simpa using hi)
  rw[List.getElem_map] at a5
  have a2':=(hC.get a3 (by simp)).trans a2
  have a3':=hC.old a3
  have hw:=uV l i hi
  have hb:=xV (l.take i)
  rw[List.length_take] at hb
  have hc:=yt l[i].2
  unfold qk at hw hc
  simp (config:={maxSteps:=1000000}) (disch:=first|assumption|omega|exact ab (by omega)|exact aa (by assumption)|(simp only[ao]<;>omega)) only[go_sem,seval,g1,g2,g3,g4,hlen,a1,a2',a5]
  exact ⟨k - 1,by omega,_,_,i+1,by rfl,by simp only[go_sem,seval,hw],by simp only[go_sem,seval,g2],by simp only[go_sem,seval,g3],by simp only[go_sem,seval]<;>rfl,by omega,fa hC rfl⟩
 ·rw[List.take_of_length_le (by omega)] at g1
  simp (config:={maxSteps:=1000000}) (disch:=first|assumption|omega|exact ab (by omega)|exact aa (by assumption)|(simp only[ao]<;>omega)) only[go_sem,seval,g1,g2,g3,g4,hlen,ai]
  exact hK _ hC
theorem GK {m:NH} {oc:D4} {s nm:List Nat} {z:Int} (hc:m.get oc=some (.cells true [.str s])) (ho:aC m oc):∃m',bI Try.prog S0 175 [.agg [.str nm,ii z],.ptr oc 0] m (.bool (decide (nm=s))) m'/\Chg [] m m':=by
 refine WF.ex1 fun K hK=> ?_
 refine WF.of_wpG (fun _=>rfl) sY (L:= [(.a .e,.ptr oc 0),(.e,.agg [.str nm,ii z])]) rfl ?_
 unfold Cm
 simp (disch:=first|assumption|omega) only[go_sem,seval,hc]
 exact hK _ (an rfl)
theorem GR {m:NH} {v:NV} {l:List (List Nat×Int)} {oc:D4} {s:List Nat} (hv:Sl m v 2 (qg l)) (hsz:l.length<=1000000) (hc:m.get oc=some (.cells true [.str s])) (ho:aC m oc):
 ∃m',bI Try.prog S0 174 [v,.fn 175 [.ptr oc 0]] m (ii (eD (l.map (·.1)) s)) m'/\Chg [] m m':=by
 refine WF.ex1 fun K hK=> ?_
 refine WF.of_wpG (fun _=>rfl) sQ (L:= [(.a .e,.fn 175 [.ptr oc 0]),(.e,v)]) rfl ?_
 unfold Dd
 have hlen:=hv.len
 rw[List.length_map] at hlen
 simp (disch:=first|assumption|omega) only[go_sem,seval,hlen,ai]
 refine W.loop (fun k d=>∃t M i,d=⟨t, [],none,M⟩/\NT.get D4.e t=some v/\NT.get D4.e.a t=some (.fn 175 [.ptr oc 0])/\NT.get D4.e.a.c t=some (ii l.length)/\NT.get D4.e.a.f t=some (ii (i:Nat))/\i+k=l.length/\Chg [] m M/\∀j (hj:j<i) (hl:j<l.length),s≠l[j].1) ?_ l.length _ ⟨_,m,0,rfl,by simp only[go_sem,seval],by simp only[go_sem,seval],by simp only[go_sem,seval],by simp only[go_sem,seval]<;>rfl,by omega,Chg.refl m,by simp⟩
 rintro k d ⟨t,M,i,rfl,g1,g2,g3,g4,hik,hC,hn⟩
 apply aK
 unfold tS
 change wp _ _ _ _ ⟨ak [] t, [],none,M⟩ _
 by_cases hi:i<l.length
 ·obtain ⟨id,off,wr,c,a1,a2,a3,a4,a5⟩:=hv.at i (by simpa using hi)
  rw[List.getElem_map] at a5
  have a2':=(hC.get a3 (by simp)).trans a2
  obtain ⟨M2,hr,hC2⟩:=GK (nm:=l[i].1) (z:=l[i].2) ((hC.get ho (by simp)).trans hc) (hC.old ho)
  by_cases he:l[i].1=s
  ·rw[decide_eq_true he] at hr
   simp (disch:=first|assumption|omega) only[go_sem,seval,g1,g2,g3,g4,a1,a2',a5,hr.wf']
   have hf:eD (l.map (·.1)) s=i:=lK (by simpa using hi) (by simp[he]) fun j hj=>by rw[List.getElem_map];exact hn j hj (by omega)
   rw[hf] at hK
   exact hK _ (hC.trans hC2 (by simp))
  ·rw[decide_eq_false he] at hr
   simp (disch:=first|assumption|omega) only[go_sem,seval,g1,g2,g3,g4,a1,a2',a5,hr.wf']
   refine ⟨k - 1,by omega,_,M2,i+1,by rfl,by simp only[go_sem,seval,g1],by simp only[go_sem,seval,g2],by simp only[go_sem,seval,g3],by simp only[go_sem,seval]<;>rfl,by omega,hC.trans hC2 (by simp),fun j hj hl=> ?_⟩
   rcases Nat.lt_or_ge j i with q|q
   ·exact hn j q hl
   ·obtain rfl:j=i:=by omega
    exact fun q=>he q.symm
 ·simp (disch:=first|assumption|omega) only[go_sem,seval,g1,g2,g3,g4]
  have hf:eD (l.map (·.1)) s=-1:=jf fun j hj=>by rw[List.getElem_map];exact hn j (by simp at hj;omega) (by simpa using hj)
  rw[hf] at hK
  exact hK _ hC
theorem HJ {m:NH} {v:NV} {l:List (List Nat×Int)} (hv:Sl m v 2 (qg l)) (hsz:l.length<=1000000) (s:List Nat):∃m',bI Try.prog S0 165 [v,.str s] m (ii (eD (l.map (·.1)) s)) m'/\Chg [] m m':=by
 refine WF.ex1 fun K hK=> ?_
 refine WF.of_wpG (fun _=>rfl) sK (L:= [(.a .e,.str s),(.e,v)]) rfl ?_
 unfold Bs
 have hC:Chg [] m (hp [(.n 0,.cells true [.str s])] 1 m):=an rfl
 have hg:(hp [(.n 0,.cells true [.str s])] 1 m).get (na m 0)=some (.cells true [.str s]):=ax
 have ho:aC (hp [(.n 0,.cells true [.str s])] 1 m) (na m 0):=ab (by omega)
 obtain ⟨m2,hr,hC2⟩:=GR (hv.chg hC fun _ _=>by simp) hsz hg ho
 simp (disch:=first|assumption|omega) only[go_sem,seval,hr.wf']
 exact hK _ (hC.trans hC2 (by simp))
theorem LK {m:NH} {v:NV} {l:List (List Nat×Int)} (hv:Sl m v 2 (qg l)) (hsz:l.length<=1000000) (i:Int):∃m',bI Try.prog S0 166 [v,ii i] m (ii (Lh l i)) m'/\Chg [] m m':=by
 refine WF.ex1 fun K hK=> ?_
 refine WF.of_wpG (fun _=>rfl) si (L:= [(.a .e,ii i),(.e,v)]) rfl ?_
 unfold DF
 have hlen:=hv.len
 rw[List.length_map] at hlen
 unfold Lh at hK
 by_cases h0:i<0
 ·rw[if_neg (by omega)] at hK
  simp (disch:=first|assumption|omega) only[go_sem,seval,ai]
  exact hK _ (Chg.refl m)
 ·by_cases h1:i<l.length
  ·rw[if_pos (by omega)] at hK
   simp (disch:=first|assumption|omega) only[go_sem,seval,ai,hlen]
   obtain ⟨n,rfl⟩:=Int.eq_ofNat_of_zero_le (by omega:0<=i)
   refine xW hv (a:=0) (b:=n) (by omega) (by simp;omega) (fun K=>by (simp (disch:=first|assumption|omega) only[go_sem,seval])) (fun d K hd=>by (simp (disch:=first|assumption|omega) only[go_sem,seval])) ?_
   intro v2 hv2 hi2
   have hw:((qg l).drop 0).take (n - 0)=qg (l.take n):=by simp[List.map_take]
   rw[hw] at hv2
   obtain ⟨m2,hr,hC2⟩:=Fi hv2 (by simp;omega)
   have hb:=xV (l.take n)
   rw[List.length_take] at hb
   simp (disch:=first|assumption|omega) only[go_sem,seval,hr.wf',JD]
   exact hK _ hC2
  ·rw[if_neg (by omega)] at hK
   simp (disch:=first|assumption|omega) only[go_sem,seval,ai,hlen]
   exact hK _ (Chg.refl m)
end FR
open Go Nm Go.Proofs
namespace FR
set_option linter.unusedSimpArgs false
set_option linter.unusedVariables false
def hU (ns:List (List Nat)) (s:List Nat):Int:=max 0 (eD ns s)
mutual
def Ex.lw (ns:List (List Nat)):Ex->Ms->Int×Ms
 | .mk k n o s ks,X=>if k=0 then (X.v,bp n X) else if k=1 then (hU ns s,X) else if k=2 then Lw ns o ks X else (0,X)
def Lw (ns:List (List Nat)) (o:Nat):List Ex->Ms->Int×Ms
 | [],X=>(0,X)
 | [_],X=>(0,X)
 |a::b::_,X=>((b.lw ns (a.lw ns X).2).2.v,mD o (a.lw ns X).1 (b.lw ns (a.lw ns X).2).1 (b.lw ns (a.lw ns X).2).2)
end
theorem dR {ns:List (List Nat)}:∀(x:Ex) {X:Ms} {k:Nat},X.ok (k+x.sz)->(x.lw ns X).2.ok k:=by
 apply Ex.ind (P:=fun x=>∀{X:Ms} {k:Nat},X.ok (k+x.sz)->(x.lw ns X).2.ok k)
 intro c n o s ks ih X k h
 rw[Ex.sz] at h
 rw[Ex.lw]
 split
 ·exact fv (h.weak (by omega)) _
 ·split
  ·exact h.weak (by omega)
  ·split
   ·match ks,ih,h with
    | [],_,h=>exact h.weak (by omega)
    | [_],_,h=>exact h.weak (by omega)
    |a::b::l,ih,h=>
     rw[jr,jr] at h
     rw[Lw]
     refine qh ?_ _ _ _
     refine ih b (by simp) ?_
     refine ih a (by simp) (h.weak ?_)
     omega
   ·exact h.weak (by omega)
def Nn (f:Nat) (ns:List (List Nat)) (x:Ex):Prop:=∀{B m:NH} {T:D4->Prop} {c:List NV} {r:D4} {vc vn vs:NV} {lo:Int} {X:Ms} {k:Nat},RE B T x c->Sl B vn 1 (cD ns)->ns.length<=1000000->MK B m r vc vn lo vs X->X.ok (k+x.sz)->
 ∃m',bI Try.prog S0 f [.ptr r 0,.agg c] m (ii (x.lw ns X).1) m'/\∃vs',MK B m' r vc vn lo vs' (x.lw ns X).2/\Ev r vs vs' m m'
theorem K0 {B:NH} {T:D4->Prop} {ks:List Ex} {vk:NV} {C:List (List NV)} (hS:SE B T vk ks C) (i:Nat) (hi:i<ks.length):∃u id off w c,RE B T ks[i] (ks[i].l u)/\my 5 vk (.int .i64 (.lit (i:Int)))= .val (.ptr id off)/\B.get id=some (.cells w c)/\aC B id/\off+5<=c.length/\(c.drop off).take 5=ks[i].l u:=
 ET hS (qW (Chg.refl B) T) i hi
section
variable {B m:NH} {r:D4} {vc vn vs:NV} {lo:Int} {X:Ms} {ns:List (List Nat)}
theorem mB (h:MK B m r vc vn lo vs X) (hn:Sl B vn 1 (cD ns)) (hsz:ns.length<=1000000) (s:List Nat):bI Try.prog S0 102 [.ptr r 0,.str s] m (ii (hU ns s)) m:=by
 have h:∃m',bI Try.prog S0 102 [.ptr r 0,.str s] m (ii (hU ns s)) m'/\m'=m:=by
  refine WF.ex1 fun K hK=> ?_
  refine WF.of_wpG (fun _=>rfl) uh (L:= [(.a .e,.str s),(.e,.ptr r 0)]) rfl ?_
  unfold Bp
  have hg:=h.g
  have hi:=p8 (hn.chg h.c fun _ _=>by simp) (by omega) s
  simp (disch:=first|assumption|omega) only[go_sem,seval,ai,hg,hi.wf']
  exact hK _ rfl
 obtain ⟨m',h1,rfl⟩:=h
 exact h1
end
theorem fM {ns:List (List Nat)}:∀x:Ex,Nn 101 ns x:=by
 apply Ex.ind
 intro cd n o s ks ih B m T c r vc vn vs lo X k hR hn hsz h hk
 obtain ⟨vk,C,rfl,hS⟩:=hR.inv
 refine WF.ex1 fun K hK=> ?_
 refine WF.of_wpG (fun _=>rfl) ug (L:= [(.a .e,.agg [ii cd,u64 n,u8 o,.str s,vk]),(.e,.ptr r 0)]) rfl ?_
 unfold B7
 generalize hM1:hp [(.n 0,.cells true [ii cd,u64 n,u8 o,.str s,vk])] 1 m=M1
 have hC1:Chg [] m M1:=by rw[←hM1];exact an rfl
 have hg1:M1.get (na m 0)=some (.cells true [ii cd,u64 n,u8 o,.str s,vk]):=by rw[←hM1];exact ax
 have ho1:aC M1 (na m 0):=by rw[←hM1];exact ab (by omega)
 have k1:=h.grow hC1
 obtain ⟨nr1,ns1⟩:=h.new 0
 rw[Ex.lw] at hK
 have hlen:=hS.sl.len
 rw[hS.len] at hlen
 rw[Ex.sz] at hk
 by_cases h0:cd=0
 ·rw[if_pos h0] at hK
  subst h0
  obtain ⟨m2,h2,v2,k2,e2⟩:=mN k1 n (hk.weak (by omega:0+1<=_))
  simp (disch:=first|assumption|omega) only[go_sem,seval,hM1,hg1,h2.wf']
  exact hK _ ⟨v2,k2,Ev.pre hC1 e2⟩
 rw[if_neg h0] at hK
 by_cases h1:cd=1
 ·rw[if_pos h1] at hK
  subst h1
  have h2:=mB k1 hn hsz s
  simp (disch:=first|assumption|omega) only[go_sem,seval,hM1,hg1,h2.wf']
  exact hK _ ⟨vs,k1,Ev.grow hC1⟩
 rw[if_neg h1] at hK
 by_cases h2:cd=2
 ·rw[if_pos h2] at hK
  subst h2
  match ks,ih,hS,hlen,hk,hK with
  | [],_,_,hlen,_,hK=>
   simp (disch:=first|assumption|omega) only[go_sem,seval,hM1,hg1,hlen]
   exact hK _ ⟨vs,k1,Ev.grow hC1⟩
  | [_],_,_,hlen,_,hK=>
   simp (disch:=first|assumption|omega) only[go_sem,seval,hM1,hg1,hlen]
   exact hK _ ⟨vs,k1,Ev.grow hC1⟩
  |a::b::l,ih,hS,hlen,hk,hK=>
   rw[jr,jr] at hk
   rw[Lw] at hK
   have hlr:(((a::b::l).length:Nat):Int)=l.length+2:=by simp;omega
   rw[hlr] at hlen
   obtain ⟨ua,ida,offa,wa,ca,hRa,a1,a2,a3,a4,a5⟩:=K0 hS 0 (by simp)
   obtain ⟨ub,idb,offb,wb,cb,hRb,b1,b2,b3,b4,b5⟩:=K0 hS 1 (by simp)
   have a1':my 5 vk (.int .i64 (.lit 0))= .val (.ptr ida offa):=a1
   have b1':my 5 vk (.int .i64 (.lit 1))= .val (.ptr idb offb):=b1
   dsimp only[List.getElem_cons_zero,List.getElem_cons_succ] at hRa hRb a5 b5
   obtain ⟨m2,r2,v2,k2,e2⟩:=ih a (by simp) hRa hn hsz k1 (k:=k+1+b.sz) (hk.weak (by omega))
   have ok2:=dR a (ns:=ns) (X:=X) (k:=k+1+b.sz) (hk.weak (by omega))
   have hg2:=(e2.get ho1 nr1 ns1).trans hg1
   have ho2:=e2.c.old ho1
   have ns2:=e2.nin ho1 ns1
   obtain ⟨m3,r3,v3,k3,e3⟩:=ih b (by simp) hRb hn hsz k2 (k:=k+1) (ok2.weak (by omega))
   have ok3:=dR b (ns:=ns) (X:=(a.lw ns X).2) (k:=k+1) (ok2.weak (by omega))
   have hg3:=(e3.get ho2 nr1 ns2).trans hg2
   have a2':=(k1.c.get a3 (by simp)).trans a2
   have b2':=(k2.c.get b3 (by simp)).trans b2
   have b2'':=(k3.c.get b3 (by simp)).trans b2
   obtain ⟨m4,r4,v4,k4,e4⟩:=yV k3 (o:Int) (a.lw ns X).1 (b.lw ns (a.lw ns X).2).1 (k:=k) ok3
   have hvk:=hS.sl.same (n:=3)
   have sb:=qE hRb
   have e0:(0:Int)<=l.length+2:=by omega
   simp (disch:=first|assumption|omega) only[go_sem,seval,hM1,hg1,hlen,a1',a2',a5,r2.wf',hg2,b1',b2',b5,r3.wf',hg3,b2'',hvk,sb,r4.wf']
   exact hK _ ⟨v4,k4,(Ev.pre hC1 e2).trans (e3.trans e4)⟩
 ·rw[if_neg h2] at hK
  simp (disch:=first|assumption|omega) only[go_sem,seval,hM1,hg1]
  exact hK _ ⟨vs,k1,Ev.grow hC1⟩
end FR
open Go Nm Go.Proofs
namespace FR
set_option linter.unusedSimpArgs false
set_option linter.unusedVariables false
def uH (cs:List (List Nat×Int)) (z:Int):Int:=if 0<=z then ((cs[z.toNat]?).map (·.2)).getD 1 else 1
def oy (i mk ba:Int) (X:Ms):Int×Ms:=
 let X2:=bp mk X
 let X3:=mD 38 i X.v X2
 let X4:=bp 8 X3
 let X5:=mD 42 X2.v X3.v X4
 let X6:=bp ba X5
 (X6.v,mD 43 X4.v X5.v X6)
def bo (cs:List (List Nat×Int)) (ns:List (List Nat)) (s:Stm) (X:Ms):Int×Ms:=
 oy (s.i.lw ns X).1 ((uH cs (eD (cs.map (·.1)) s.ce) - 1) % 18446744073709551616) (Lh cs (eD (cs.map (·.1)) s.ce) % 18446744073709551616) (s.i.lw ns X).2
def j8 (cs:List (List Nat×Int)) (s:Stm):Int:=max 0 (eD (cs.map (·.1)) s.ce)
theorem Ga {i sz a:Int} {X:Ms} {k:Nat} (h:X.ok (k+6)):(oy i sz a X).2.ok k:=
 qh (fv (qh (fv (qh (fv h _) _ _ _) _) _ _ _) _) _ _ _
theorem km {cs:List (List Nat×Int)} {ns:List (List Nat)} {s:Stm} {X:Ms} {k:Nat} (h:X.ok (k+6+s.i.sz)):(bo cs ns s X).2.ok k:=Ga (dR _ h)
theorem Ca (z:Int):E8 .u64 (.int .i64 (.lit z))= .val (iu (z % 18446744073709551616)):=Dz
theorem AZ {B m:NH} {T:D4->Prop} {s:Stm} {w:SV} {r:D4} {vc vn vs:NV} {lo:Int} {X:Ms} {k:Nat} {cs:List (List Nat×Int)} {ns:List (List Nat)} (hR:RE B T s.i (s.i.l w.vi)) (hc:Sl B vc 2 (qg cs)) (hcz:cs.length<=1000000) (hn:Sl B vn 1 (cD ns)) (hsz:ns.length<=1000000) (h:MK B m r vc vn lo vs X) (hk:X.ok (k+6+s.i.sz)) (hzb:∀(n:Nat) (z:Int) {h:n<cs.length},cs[n].2=z->-9223372036854775808<=z - 1/\z - 1<9223372036854775808):
 ∃m',bI Try.prog S0 142 [.ptr r 0,.agg (s.l w)] m (.tup [ii (bo cs ns s X).1,ii (j8 cs s)]) m'/\∃vs',MK B m' r vc vn lo vs' (bo cs ns s X).2/\Ev r vs vs' m m':=by
 refine WF.ex1 fun K hK=> ?_
 refine WF.of_wpG (fun _=>rfl) tZ (L:= [(.a .e,.agg (s.l w)),(.e,.ptr r 0)]) rfl ?_
 unfold By
 generalize hM1:hp [(.n 0,.cells true (s.l w))] 1 m=M1
 have hC1:Chg [] m M1:=by rw[←hM1];exact an rfl
 have hg1:M1.get (na m 0)=some (.cells true (s.l w)):=by rw[←hM1];exact ax
 have ho1:aC M1 (na m 0):=by rw[←hM1];exact ab (by omega)
 have k1:=h.grow hC1
 obtain ⟨nr1,ns1⟩:=h.new 0
 obtain ⟨M2,hf,hC2⟩:∃M2,bI Try.prog S0 165 [vc,.str s.ce] M1 (ii (eD (cs.map (·.1)) s.ce)) M2/\Chg [] M1 M2:=HJ (hc.chg k1.c fun _ _=>by simp) hcz s.ce
 have hg2:=(hC2.get ho1 (by simp)).trans hg1
 have ho2:=hC2.old ho1
 have k2:=k1.grow hC2
 have g1:=k1.g
 have g2:=k2.g
 have hcs:=hc.same (n:=3)
 have hsl:(s.l w).length=21:=rfl
 have lt:=Ew (l:=cs.map (·.1)) (x:=s.ce)
 rw[List.length_map] at lt
 unfold bo j8 at hK
 generalize eD (cs.map (·.1)) s.ce=ce at hf lt hK
 generalize hsize:uH cs ce=sz at hK
 generalize hmk:(sz - 1) % 18446744073709551616=mk at hK
 generalize hba:Lh cs ce % 18446744073709551616=ba at hK
 obtain ⟨m3,r3,v3,k3,e3⟩:=fM s.i hR hn hsz k2 (k:=k+6) hk
 have ok3:=dR s.i (ns:=ns) (X:=X) (k:=k+6) hk
 have hg3:=(e3.get ho2 nr1 ns1).trans hg2
 generalize hlw:s.i.lw ns X=q at r3 k3 ok3 hK
 obtain ⟨iv,X3⟩:=q
 dsimp only at r3 k3 ok3 hK
 obtain ⟨m4,r4,v4,k4,e4⟩:=mN k3 mk (k:=k+5) ok3
 have ok4:=fv ok3 mk
 obtain ⟨m5,r5,v5,k5,e5⟩:=yV k4 38 iv X3.v (k:=k+4) ok4
 have ok5:=qh ok4 38 iv X3.v
 obtain ⟨m6,r6,v6,k6,e6⟩:=mN k5 8 (k:=k+3) ok5
 have ok6:=fv ok5 8
 obtain ⟨m7,r7,v7,k7,e7⟩:=yV k6 42 (bp mk X3).v (mD 38 iv X3.v (bp mk X3)).v (k:=k+2) ok6
 have ok7:=qh ok6 42 (bp mk X3).v (mD 38 iv X3.v (bp mk X3)).v
 have g7:=k7.g
 obtain ⟨m8,r8,hC8⟩:=LK (hc.chg k7.c fun _ _=>by simp) hcz ce
 have k8:=k7.grow hC8
 have g8:=k8.g
 obtain ⟨m9,r9,v9,k9,e9⟩:=mN k8 ba (k:=k+1) ok7
 have ok9:=fv ok7 ba
 obtain ⟨m0,r0,v0,k0,e0⟩:=yV k9 43 (bp 8 (mD 38 iv X3.v (bp mk X3))).v (mD 42 (bp mk X3).v (mD 38 iv X3.v (bp mk X3)).v (bp 8 (mD 38 iv X3.v (bp mk X3)))).v (k:=k) ok9
 have hE:Ev r vs v0 m m0:=Ev.pre (hC1.trans hC2 (by simp)) (e3.trans (e4.trans (e5.trans (e6.trans (e7.trans (Ev.pre hC8 (e9.trans e0)))))))
 by_cases hce:ce<0
 ·have hs1:sz=1:=by rw[←hsize];unfold uH;rw[if_neg (by omega)]
  subst hs1
  obtain rfl:mk=0:=by rw[←hmk];rfl
  have hm:max 0 ce=0:=by omega
  rw[hm] at hK
  simp (disch:=first|assumption|omega) only[go_sem,seval,hM1,hg1,g1,hf.wf',hg2,g2,hcs,hsl,r3.wf',r4.wf',r5.wf',r6.wf',r7.wf',g7,r8.wf',r9.wf',r0.wf',Ca,hm,hmk,hba]
  exact hK _ ⟨v0,k0,hE⟩
 ·obtain ⟨n,rfl⟩:=Int.eq_ofNat_of_zero_le (by omega:0<=ce)
  have hnl:n<cs.length:=by omega
  obtain ⟨id,off,wr,c,a1,a2,a3,a4,a5⟩:=hc.at n (by simpa using hnl)
  rw[List.getElem_map] at a5
  have c1:c[off+1]? =some (ii cs[n].2):=bz a5 1 (by omega)
  have hs1:cs[n].2=sz:=by rw[←hsize];unfold uH;rw[if_pos (by omega),Int.toNat_natCast,List.getElem?_eq_getElem hnl];rfl
  rw[hs1] at c1
  have a2':=(k2.c.get a3 (by simp)).trans a2
  have hm:max 0 (n:Int)=n:=by omega
  rw[hm] at hK
  obtain ⟨hz1,hz2⟩:-9223372036854775808<=sz - 1/\sz - 1<9223372036854775808:=hzb _ _ hs1
  simp (disch:=first|assumption|omega) only[go_sem,seval,hM1,hg1,g1,hf.wf',hg2,g2,hcs,hsl,a1,a2',c1,hg3,r3.wf',r4.wf',r5.wf',r6.wf',r7.wf',g7,r8.wf',r9.wf',r0.wf',Ca,hm,hmk,hba]
  exact hK _ ⟨v0,k0,hE⟩
end FR
open Go Nm Go.Proofs
namespace FR
set_option linter.unusedSimpArgs false
set_option linter.unusedVariables false
def du (n:Int) (X:Ms):Ms:=⟨X.st,X.v,X.lb+n⟩
def aA (k a t:Int):Sp:=⟨k,0,a,0,0,t,0,0,0⟩
mutual
def Stm.lw (cs:List (List Nat×Int)) (ns:List (List Nat)):Stm->Ms->Ms
 | .mk k a nm ce i x y b e,X=>
  if k=0 then bf ⟨1,hU ns nm,(x.lw ns X).1,0,0,0,0,0,0⟩ (x.lw ns X).2
  else if k=1 then bf ⟨3,hU ns nm,(bo cs ns (.mk k a nm ce i x y b e) X).1,0,0,0,j8 cs (.mk k a nm ce i x y b e),0,0⟩ (bo cs ns (.mk k a nm ce i x y b e) X).2
  else if k=2 then bf ⟨4,0,(bo cs ns (.mk k a nm ce i x y b e) X).1,(x.lw ns (bo cs ns (.mk k a nm ce i x y b e) X).2).1,0,0,j8 cs (.mk k a nm ce i x y b e),0,0⟩ (x.lw ns (bo cs ns (.mk k a nm ce i x y b e) X).2).2
  else if k=3 then bf ⟨5,hU ns nm,(bo cs ns (.mk k a nm ce i x y b e) X).1,(x.lw ns (bo cs ns (.mk k a nm ce i x y b e) X).2).1,(y.lw ns (x.lw ns (bo cs ns (.mk k a nm ce i x y b e) X).2).2).1,0,j8 cs (.mk k a nm ce i x y b e),0,0⟩ (y.lw ns (x.lw ns (bo cs ns (.mk k a nm ce i x y b e) X).2).2).2
  else if k=4 then bf (aA 13 0 0) X
  else if k=5 then bf (aA 8 (x.lw ns X).1 0) (x.lw ns X).2
  else if k=6 then bf (aA 9 0 (X.lb+1)) (jY cs ns e (bf (aA 9 0 X.lb) (bf (aA 10 0 (X.lb+1)) (jY cs ns b (bf (aA 11 (x.lw ns (du 2 X)).1 X.lb) (x.lw ns (du 2 X)).2)))))
  else if k=7 then bf (aA 9 0 (X.lb+1)) (bf (aA 10 0 X.lb) (jY cs ns b (bf (aA 11 (x.lw ns (bf (aA 9 0 X.lb) (du 2 X))).1 (X.lb+1)) (x.lw ns (bf (aA 9 0 X.lb) (du 2 X))).2)))
  else X
def jY (cs:List (List Nat×Int)) (ns:List (List Nat)):List Stm->Ms->Ms
 | [],X=>X
 |s::l,X=>jY cs ns l (s.lw cs ns X)
end
theorem qH {X:Ms} {k:Nat} (h:X.ok (k+2)):(du 2 X).ok k:=⟨by have:=h.s;simp only[du];omega,h.v0,by have:=h.v;simp only[du];omega,by have:=h.l0;simp only[du];omega,by have:=h.l;simp only[du];omega⟩
section
variable {cs:List (List Nat×Int)} {ns:List (List Nat)}
theorem lL {l:List Stm} (h:∀s∈l,∀{X:Ms} {k:Nat},X.ok (k+16*s.sz)->(s.lw cs ns X).ok k):∀{X:Ms} {k:Nat},X.ok (k+16*cn l)->(jY cs ns l X).ok k:=by
 induction l with
 |nil=>intro X k q;rw[jY];exact q.weak (by omega)
 |cons s l ih=>
  intro X k q
  rw[cn] at q
  rw[jY]
  exact ih (fun y hy=>h y (List.mem_cons_of_mem _ hy)) (h s (List.mem_cons_self ..) (q.weak (by omega)))
theorem B0:∀(s:Stm) {X:Ms} {k:Nat},X.ok (k+16*s.sz)->(s.lw cs ns X).ok k:=by
 apply Stm.ind (P:=fun s=>∀{X:Ms} {k:Nat},X.ok (k+16*s.sz)->(s.lw cs ns X).ok k)
 intro k a nm ce i x y b e hb he X q h
 rw[Stm.sz] at h
 rw[Stm.lw]
 have hB:∀{X:Ms} {k:Nat},X.ok (k+16*cn b)->(jY cs ns b X).ok k:=lL hb
 have hE:∀{X:Ms} {k:Nat},X.ok (k+16*cn e)->(jY cs ns e X).ok k:=lL he
 split
 ·exact cu (dR x (h.weak (by omega))) _
 split
 ·exact cu (km (h.weak (by simp only[Stm.i];omega))) _
 split
 ·exact cu (dR x (km (h.weak (by simp only[Stm.i];omega)))) _
 split
 ·exact cu (dR y (dR x (km (h.weak (by simp only[Stm.i];omega))))) _
 split
 ·exact cu (h.weak (by omega)) _
 split
 ·exact cu (dR x (h.weak (by omega))) _
 split
 ·exact cu (hE (cu (cu (hB (cu (dR x (qH (h.weak (by omega)))) _)) _) _)) _
 split
 ·exact cu (cu (hB (cu (dR x (cu (qH (h.weak (by omega))) _)) _)) _) _
 ·exact h.weak (by omega)
theorem oY {l:List Stm} {X:Ms} {k:Nat} (h:X.ok (k+16*cn l)):(jY cs ns l X).ok k:=lL (fun s _=>B0 s) h
end
structure Cx (B:NH) (vc vn:NV) (cs:List (List Nat×Int)) (ns:List (List Nat)):Prop where
 c:Sl B vc 2 (qg cs)
 cl:cs.length<=1000000
 z:∀(n:Nat) (z:Int) {h:n<cs.length},cs[n].2=z->-9223372036854775808<=z - 1/\z - 1<9223372036854775808
 n:Sl B vn 1 (cD ns)
 nl:ns.length<=1000000
structure Kp (m:NH) (r:D4) (vs:NV) (t:D4) (c:List NV):Prop where
 g:m.get t=some (.cells true c)
 o:aC m t
 nr:t≠r
 ns:t∉ids vs
theorem Kp.next {m m':NH} {r t:D4} {vs vs':NV} {c:List NV} (h:Kp m r vs t c) (e:Ev r vs vs' m m'):Kp m' r vs' t c:=⟨(e.get h.o h.nr h.ns).trans h.g,e.c.old h.o,h.nr,e.nin h.o h.ns⟩
theorem Kp.grow {m m':NH} {r t:D4} {vs:NV} {c:List NV} (h:Kp m r vs t c) (e:Chg [] m m'):Kp m' r vs t c:=⟨(e.get h.o (by simp)).trans h.g,e.old h.o,h.nr,h.ns⟩
theorem MK.off {B m m':NH} {r:D4} {vc vn vs:NV} {lo:Int} {X:Ms} {S:List D4} (h:MK B m r vc vn lo vs X) (hC:Chg S m m') (hS:∀i∈S,i≠r/\i∉ids vs/\¬aC B i):MK B m' r vc vn lo vs X:=
 ⟨(hC.get h.o fun q=>(hS _ q).1 rfl).trans h.g,hC.old h.o,h.nB,h.s.chg hC fun i hi q=>(hS i q).2.1 hi,h.n,h.c.trans hC fun i hi ho=>absurd ho (hS i hi).2.2⟩
theorem Ev.off {m m' m'':NH} {r:D4} {vs vs':NV} {S:List D4} (h:Ev r vs vs' m m') (hC:Chg S m' m'') (hS:∀i∈S,¬aC m i):Ev r vs vs' m m'':=⟨h.c.trans hC fun i hi ho=>absurd ho (hS i hi),h.f⟩
def EI (f:Nat) (cs:List (List Nat×Int)) (ns:List (List Nat)) (l:List Stm):Prop:=∀{B m:NH} {T:D4->Prop} {v vc vn vs:NV} {C:List (List NV)} {r:D4} {lo:Int} {X:Ms} {k:Nat},SS B T v l C->Cx B vc vn cs ns->MK B m r vc vn lo vs X->X.ok (k+16*cn l)->
 ∃m',bI Try.prog S0 f [.ptr r 0,v] m (.tup []) m'/\∃vs',MK B m' r vc vn lo vs' (jY cs ns l X)/\Ev r vs vs' m m'
def LT (f:Nat) (cs:List (List Nat×Int)) (ns:List (List Nat)) (s:Stm):Prop:=∀{B m:NH} {T:D4->Prop} {w:SV} {vc vn vs:NV} {r:D4} {lo:Int} {X:Ms} {k:Nat},SP B T s w->Cx B vc vn cs ns->MK B m r vc vn lo vs X->X.ok (k+16*s.sz)->
 ∃m',bI Try.prog S0 f [.ptr r 0,.agg (s.l w)] m (.tup []) m'/\∃vs',MK B m' r vc vn lo vs' (s.lw cs ns X)/\Ev r vs vs' m m'
section
variable {cs:List (List Nat×Int)} {ns:List (List Nat)}
theorem t9 {B m:NH} {r:D4} {vc vn vs:NV} {lo:Int} {X:Ms} (h:MK B m r vc vn lo vs X) {k:Nat} (hk:X.ok (k+2)):∃m',bI Try.prog S0 143 [.ptr r 0] m (.tup [ii X.lb,ii (X.lb+1)]) m'/\∃vs',MK B m' r vc vn lo vs' (du 2 X)/\Ev r vs vs' m m':=by
 refine WF.ex1 fun K hK=> ?_
 refine WF.of_wpG (fun _=>rfl) sj (L:= [(.e,.ptr r 0)]) rfl ?_
 unfold DB
 have hg:=h.g
 have ho:=h.o
 have hl:=hk.l
 have hl0:=hk.l0
 have e1:X.lb+2 - 2=X.lb:=by omega
 have e2:X.lb+2 - 1=X.lb+1:=by omega
 simp (config:={maxSteps:=1000000}) (disch:=first|assumption|omega|exact ab (by omega)|exact aa (by assumption)|(simp only[ao]<;>omega)) only[go_sem,seval,hg,e1,e2]
 generalize hM3:hp _ 0 m=M3
 have hC3:Chg [r] m M3:=by rw[←hM3];exact an rfl
 refine hK _ ⟨vs,⟨?_,hC3.old ho,h.nB,h.s.chg hC3 fun i hi q=>h.n (by simp at q;exact q▸hi),h.n, ?_⟩,⟨hC3.weak (by simp),fun j hj=>Or.inl hj⟩⟩
 ·rw[←hM3];exact (aQ ho).trans ay
 ·refine h.c.trans hC3 fun i hi q=> ?_
  simp only[List.mem_cons,List.not_mem_nil,or_false] at hi;subst hi;exact absurd q h.nB
theorem D6 {s:Stm} (h123:s.k=1∨s.k=2∨s.k=3):LT 103 cs ns s:=by
 intro B m T w vc vn vs r lo X k hS hx h hk
 refine WF.ex1 fun K hK=> ?_
 refine WF.of_wpG (fun _=>rfl) uD (L:= [(.a .e,.agg (s.l w)),(.e,.ptr r 0)]) rfl ?_
 unfold Cc
 generalize hM1:hp [(.n 0,.cells true (s.l w))] 1 m=M1
 have hC1:Chg [] m M1:=by rw[←hM1];exact an rfl
 have p1:Kp M1 r vs (na m 0) (s.l w):=⟨by rw[←hM1];exact ax,by rw[←hM1];exact ab (by omega),(h.new 0).1,(h.new 0).2⟩
 have k1:=h.grow hC1
 have hsl:(s.l w).length=21:=rfl
 have hg1:=p1.g
 have hsz:s.sz=1+s.i.sz+s.x.sz+s.y.sz+cn s.b+cn s.e:=by cases s;rfl
 have hlw:s.lw cs ns X=(if s.k=1 then bf ⟨3,hU ns s.nm,(bo cs ns s X).1,0,0,0,j8 cs s,0,0⟩ (bo cs ns s X).2
  else if s.k=2 then bf ⟨4,0,(bo cs ns s X).1,(s.x.lw ns (bo cs ns s X).2).1,0,0,j8 cs s,0,0⟩ (s.x.lw ns (bo cs ns s X).2).2
  else bf ⟨5,hU ns s.nm,(bo cs ns s X).1,(s.x.lw ns (bo cs ns s X).2).1,(s.y.lw ns (s.x.lw ns (bo cs ns s X).2).2).1,0,j8 cs s,0,0⟩ (s.y.lw ns (s.x.lw ns (bo cs ns s X).2).2).2):=by
  obtain ⟨k,a,nm,ce,i,x,y,b,e⟩:=s
  simp only[Stm.k] at h123
  rw[Stm.lw,if_neg (by omega)]
  simp only[Stm.k,Stm.nm,Stm.x,Stm.y]
  by_cases h1:k=1
  ·rw[if_pos h1];exact (if_pos h1).symm
  ·rw[if_neg h1]
   by_cases h2:k=2
   ·rw[if_pos h2];exact ((if_neg h1).trans (if_pos h2)).symm
   ·rw[if_neg h2,if_pos (by omega)];exact ((if_neg h1).trans (if_neg h2)).symm
 rw[hlw] at hK
 have hS':RE B T s.i (s.i.l w.vi):=hS.i
 obtain ⟨m2,r2,v2,k2,e2⟩:=AZ (w:=w) (s:=s) hS' hx.c hx.cl hx.n hx.nl k1 (k:=k+1+s.x.sz+s.y.sz) (hk.weak (by omega)) hx.z
 have ok2:=km (cs:=cs) (ns:=ns) (s:=s) (X:=X) (k:=k+1+s.x.sz+s.y.sz) (hk.weak (by omega))
 have p2:=p1.next e2
 have hg2:=p2.g
 generalize bo cs ns s X=q at r2 k2 ok2 hK
 generalize j8 cs s=ce at r2 hK
 obtain ⟨pa,X2⟩:=q
 dsimp only at r2 k2 ok2 hK
 generalize hM3:hp [(.n 0,.cells true [ii 0,ii 0,ii pa,ii 0,ii 0,ii 0,ii ce,iu 0,ib 0]),(.n 0,.cells true [ii 0,ii 0,ii 0,ii 0,ii 0,ii 0,ii 0,iu 0,ib 0])] 1 m2=M3
 have hC3:Chg [] m2 M3:=by rw[←hM3];exact an rfl
 have q3:Kp M3 r v2 (na m2 0) [ii 0,ii 0,ii pa,ii 0,ii 0,ii 0,ii ce,iu 0,ib 0]:=⟨by rw[←hM3];exact ax,by rw[←hM3];exact ab (by omega),(k2.new 0).1,(k2.new 0).2⟩
 have k3:=k2.grow hC3
 have p3:=p2.grow hC3
 have hg3:=p3.g
 have e3:Ev r vs v2 m M3:=(Ev.pre hC1 e2).trans (Ev.grow hC3)
 have hq3:=q3.g
 have hqo:=q3.o
 have hoB:∀{i},aC B i->aC m2 i:=fun ho=>k2.c.old ho
 have hom:∀{i},aC m i->aC m2 i:=fun ho=>e2.c.old (hC1.old ho)
 rcases h123 with h1|h1|h1
 ·rw[if_pos h1] at hK
  have r4:=mB k3 hx.n hx.nl s.nm
  simp (config:={maxSteps:=1000000}) (disch:=first|assumption|omega|exact ab (by omega)|exact aa (by assumption)|(simp only[ao]<;>omega)) only[go_sem,seval,hM1,hg1,hsl,r2.wf,hg2,hM3,hg3,r4.wf,hq3]
  generalize hM4:hp _ 0 M3=M4
  have hC4:Chg [na m2 0] M3 M4:=by rw[←hM4];exact (jA _ _ _).weak (by simp[aU])
  have k4:=k3.off hC4 fun i hi=>by
   simp only[List.mem_cons,List.not_mem_nil,or_false] at hi;subst hi;exact ⟨q3.nr,q3.ns,fun ho=>aI (hoB ho)⟩
  obtain ⟨m5,r5,v5,k5,e5⟩:=eh k4 ⟨3,hU ns s.nm,pa,0,0,0,ce,0,0⟩ (by have:=ok2.s;omega)
  simp (config:={maxSteps:=1000000}) (disch:=first|assumption|omega|exact ab (by omega)|exact aa (by assumption)|(simp only[ao]<;>omega)) only[go_sem,seval,r5.wf']
  refine hK _ ⟨v5,k5,(e3.off hC4 fun i hi ho=> ?_).trans e5⟩
  simp only[List.mem_cons,List.not_mem_nil,or_false] at hi;subst hi;exact aI (hom ho)
 ·rw[if_neg (by omega),if_pos h1] at hK
  obtain ⟨m4,r4,v4,k4,e4⟩:=fM s.x hS.x hx.n hx.nl k3 (k:=k+1+s.y.sz) (ok2.weak (by omega))
  have ok4:=dR s.x (ns:=ns) (X:=X2) (k:=k+1+s.y.sz) (ok2.weak (by omega))
  have q4:=q3.next e4
  have hq4:=q4.g
  have hqo4:=q4.o
  simp (config:={maxSteps:=1000000}) (disch:=first|assumption|omega|exact ab (by omega)|exact aa (by assumption)|(simp only[ao]<;>omega)) only[go_sem,seval,hM1,hg1,hsl,r2.wf,hg2,hM3,hg3,r4.wf,hq4]
  generalize hM4:hp _ 0 m4=M4
  have hC4:Chg [na m2 0] m4 M4:=by rw[←hM4];exact (jA _ _ _).weak (by simp[aU])
  have k5:=k4.off hC4 fun i hi=>by
   simp only[List.mem_cons,List.not_mem_nil,or_false] at hi;subst hi;exact ⟨q4.nr,q4.ns,fun ho=>aI (hoB ho)⟩
  obtain ⟨m6,r6,v6,k6,e6⟩:=eh k5 ⟨4,0,pa,(s.x.lw ns X2).1,0,0,ce,0,0⟩ (by have:=ok4.s;omega)
  simp (config:={maxSteps:=1000000}) (disch:=first|assumption|omega|exact ab (by omega)|exact aa (by assumption)|(simp only[ao]<;>omega)) only[go_sem,seval,r6.wf']
  refine hK _ ⟨v6,k6,((e3.trans e4).off hC4 fun i hi ho=> ?_).trans e6⟩
  simp only[List.mem_cons,List.not_mem_nil,or_false] at hi;subst hi;exact aI (hom ho)
 ·rw[if_neg (by omega),if_neg (by omega)] at hK
  have r3:=mB k3 hx.n hx.nl s.nm
  obtain ⟨m4,r4,v4,k4,e4⟩:=fM s.x hS.x hx.n hx.nl k3 (k:=k+1+s.y.sz) (ok2.weak (by omega))
  have ok4:=dR s.x (ns:=ns) (X:=X2) (k:=k+1+s.y.sz) (ok2.weak (by omega))
  have q4:=q3.next e4
  have p4:=p3.next e4
  have hq4:=q4.g
  have hg4:=p4.g
  have hqo4:=q4.o
  have hsx:=qE hS.x
  have hpo4:=p4.o
  have hne:na m 0≠na m2 0:=p2.o.ne 0
  simp (config:={maxSteps:=1000000}) (disch:=first|assumption|omega|exact ab (by omega)|exact aa (by assumption)|(simp only[ao]<;>omega)) only[go_sem,seval,hM1,hg1,hsl,r2.wf,hg2,hM3,hg3,r3.wf',r4.wf,hq4,hg4,hsx]
  generalize hM4:hp _ 0 m4=M4
  have hC4:Chg [na m2 0] m4 M4:=by rw[←hM4];exact (jA _ _ _).weak (by simp[aU])
  have k5:=k4.off hC4 fun i hi=>by
   simp only[List.mem_cons,List.not_mem_nil,or_false] at hi;subst hi;exact ⟨q4.nr,q4.ns,fun ho=>aI (hoB ho)⟩
  have q5:Kp M4 r v4 (na m2 0) [ii 5,ii (hU ns s.nm),ii pa,ii (s.x.lw ns X2).1,ii 0,ii 0,ii ce,iu 0,ib 0]:=⟨by rw[←hM4];exact (aQ q4.o).trans ay,hC4.old q4.o,q4.nr,q4.ns⟩
  obtain ⟨m6,r6,v6,k6,e6⟩:=fM s.y hS.y hx.n hx.nl k5 (k:=k+1) ok4
  have ok6:=dR s.y (ns:=ns) (X:=(s.x.lw ns X2).2) (k:=k+1) ok4
  have q6:=q5.next e6
  have hq6:=q6.g
  have hqo6:=q6.o
  simp (config:={maxSteps:=1000000}) (disch:=first|assumption|omega|exact ab (by omega)|exact aa (by assumption)|(simp only[ao]<;>omega)) only[go_sem,seval,r6.wf,hq6]
  generalize hM7:hp _ 0 m6=M7
  have hC7:Chg [na m2 0] m6 M7:=by rw[←hM7];exact (jA _ _ _).weak (by simp[aU])
  have k7:=k6.off hC7 fun i hi=>by
   simp only[List.mem_cons,List.not_mem_nil,or_false] at hi;subst hi;exact ⟨q6.nr,q6.ns,fun ho=>aI (hoB ho)⟩
  obtain ⟨m8,r8,v8,k8,e8⟩:=eh k7 ⟨5,hU ns s.nm,pa,(s.x.lw ns X2).1,(s.y.lw ns (s.x.lw ns X2).2).1,0,ce,0,0⟩ (by have:=ok6.s;omega)
  simp (config:={maxSteps:=1000000}) (disch:=first|assumption|omega|exact ab (by omega)|exact aa (by assumption)|(simp only[ao]<;>omega)) only[go_sem,seval,r8.wf']
  have hno:∀i∈ [na m2 0],¬aC m i:=fun i hi ho=>by
   simp only[List.mem_cons,List.not_mem_nil,or_false] at hi;subst hi;exact aI (hom ho)
  exact hK _ ⟨v8,k8,((((e3.trans e4).off hC4 hno).trans e6).off hC7 hno).trans e8⟩
end
end FR
open Go Nm Go.Proofs
namespace FR
set_option linter.unusedSimpArgs false
set_option linter.unusedVariables false
section
variable {cs:List (List Nat×Int)} {ns:List (List Nat)}
theorem wq (s:Stm):s.sz=1+s.i.sz+s.x.sz+s.y.sz+cn s.b+cn s.e:=by cases s;rfl
theorem Nr {s:Stm} (h:s.k=6) (X:Ms):s.lw cs ns X=bf (aA 9 0 (X.lb+1)) (jY cs ns s.e (bf (aA 9 0 X.lb) (bf (aA 10 0 (X.lb+1)) (jY cs ns s.b (bf (aA 11 (s.x.lw ns (du 2 X)).1 X.lb) (s.x.lw ns (du 2 X)).2))))):=by
 obtain ⟨k,a,nm,ce,i,x,y,b,e⟩:=s
 obtain rfl:k=6:=h
 rw[Stm.lw];rfl
theorem Nj {s:Stm} (h:s.k=7) (X:Ms):s.lw cs ns X=bf (aA 9 0 (X.lb+1)) (bf (aA 10 0 X.lb) (jY cs ns s.b (bf (aA 11 (s.x.lw ns (bf (aA 9 0 X.lb) (du 2 X))).1 (X.lb+1)) (s.x.lw ns (bf (aA 9 0 X.lb) (du 2 X))).2))):=by
 obtain ⟨k,a,nm,ce,i,x,y,b,e⟩:=s
 obtain rfl:k=7:=h
 rw[Stm.lw];rfl
theorem Nl {s:Stm} (h:s.k=0) (X:Ms):s.lw cs ns X=bf ⟨1,hU ns s.nm,(s.x.lw ns X).1,0,0,0,0,0,0⟩ (s.x.lw ns X).2:=by
 obtain ⟨k,a,nm,ce,i,x,y,b,e⟩:=s
 obtain rfl:k=0:=h
 rw[Stm.lw];rfl
theorem Nq {s:Stm} (h:s.k=4) (X:Ms):s.lw cs ns X=bf (aA 13 0 0) X:=by
 obtain ⟨k,a,nm,ce,i,x,y,b,e⟩:=s
 obtain rfl:k=4:=h
 rw[Stm.lw];rfl
theorem Ni {s:Stm} (h:s.k=5) (X:Ms):s.lw cs ns X=bf (aA 8 (s.x.lw ns X).1 0) (s.x.lw ns X).2:=by
 obtain ⟨k,a,nm,ce,i,x,y,b,e⟩:=s
 obtain rfl:k=5:=h
 rw[Stm.lw];rfl
theorem Nh {s:Stm} (h:s.k<0∨7<s.k) (X:Ms):s.lw cs ns X=X:=by
 obtain ⟨k,a,nm,ce,i,x,y,b,e⟩:=s
 simp only[Stm.k] at h
 rw[Stm.lw,if_neg (by omega),if_neg (by omega),if_neg (by omega),if_neg (by omega),if_neg (by omega),if_neg (by omega),if_neg (by omega),if_neg (by omega)]
theorem Cw {s:Stm} (h6:s.k=6) (hb:EI 57 cs ns s.b) (he:EI 57 cs ns s.e):LT 104 cs ns s:=by
 intro B m T w vc vn vs r lo X k hS hx h hk
 refine WF.ex1 fun K hK=> ?_
 refine WF.of_wpG (fun _=>rfl) ut (L:= [(.a .e,.agg (s.l w)),(.e,.ptr r 0)]) rfl ?_
 unfold BU
 generalize hM1:hp [(.n 0,.cells true (s.l w))] 1 m=M1
 have hC1:Chg [] m M1:=by rw[←hM1];exact an rfl
 have p1:Kp M1 r vs (na m 0) (s.l w):=⟨by rw[←hM1];exact ax,by rw[←hM1];exact ab (by omega),(h.new 0).1,(h.new 0).2⟩
 have k1:=h.grow hC1
 have hsl:(s.l w).length=21:=rfl
 rw[wq] at hk
 rw[Nr h6] at hK
 obtain ⟨m2,r2,v2,k2,e2⟩:=t9 k1 (k:=k+14+s.x.sz+16*cn s.b+16*cn s.e) (hk.weak (by omega))
 have ok2:=qH (X:=X) (k:=k+14+s.x.sz+16*cn s.b+16*cn s.e) (hk.weak (by omega))
 have p2:=p1.next e2
 have g2:=p2.g
 obtain ⟨m3,r3,v3,k3,e3⟩:=fM s.x hS.x hx.n hx.nl k2 (k:=k+14+16*cn s.b+16*cn s.e) (ok2.weak (by omega))
 have ok3:=dR s.x (ns:=ns) (X:=du 2 X) (k:=k+14+16*cn s.b+16*cn s.e) (ok2.weak (by omega))
 have p3:=p2.next e3
 generalize s.x.lw ns (du 2 X)=q at r3 k3 ok3 hK
 obtain ⟨xv,X3⟩:=q
 dsimp only at r3 k3 ok3 hK
 obtain ⟨m4,r4,v4,k4,e4⟩:=eh k3 (aA 11 xv X.lb) (by have:=ok3.s;omega)
 have ok4:=cu (k:=k+13+16*cn s.b+16*cn s.e) (ok3.weak (by omega)) (aA 11 xv X.lb)
 have p4:=p3.next e4
 have g4:=p4.g
 obtain ⟨CB,hSB⟩:=hS.b
 obtain ⟨CE,hSE⟩:=hS.e
 obtain ⟨m5,r5,v5,k5,e5⟩:=hb hSB hx k4 (k:=k+13+16*cn s.e) (ok4.weak (by omega))
 have ok5:=oY (cs:=cs) (ns:=ns) (l:=s.b) (k:=k+13+16*cn s.e) (ok4.weak (by omega))
 have p5:=p4.next e5
 generalize jY cs ns s.b (bf (aA 11 xv X.lb) X3)=X5 at k5 ok5 hK
 obtain ⟨m6,r6,v6,k6,e6⟩:=eh k5 (aA 10 0 (X.lb+1)) (by have:=ok5.s;omega)
 have ok6:=cu (k:=k+12+16*cn s.e) (ok5.weak (by omega)) (aA 10 0 (X.lb+1))
 have p6:=p5.next e6
 obtain ⟨m7,r7,v7,k7,e7⟩:=eh k6 (aA 9 0 X.lb) (by have:=ok6.s;omega)
 have ok7:=cu (k:=k+11+16*cn s.e) (ok6.weak (by omega)) (aA 9 0 X.lb)
 have p7:=p6.next e7
 have g7:=p7.g
 obtain ⟨m8,r8,v8,k8,e8⟩:=he hSE hx k7 (k:=k+11) (ok7.weak (by omega))
 have ok8:=oY (cs:=cs) (ns:=ns) (l:=s.e) (k:=k+11) (ok7.weak (by omega))
 generalize jY cs ns s.e (bf (aA 9 0 X.lb) (bf (aA 10 0 (X.lb+1)) X5))=X8 at k8 ok8 hK
 obtain ⟨m9,r9,v9,k9,e9⟩:=eh k8 (aA 9 0 (X.lb+1)) (by have:=ok8.s;omega)
 unfold aA at r4 r6 r7 r9
 simp (config:={maxSteps:=1000000}) (disch:=first|assumption|omega|exact ab (by omega)|exact aa (by assumption)|(simp only[ao]<;>omega)) only[go_sem,seval,hM1,r2.wf',g2,hsl,r3.wf',r4.wf',g4,r5.wf',r6.wf',r7.wf',g7,r8.wf',r9.wf']
 exact hK _ ⟨v9,k9,Ev.pre hC1 (e2.trans (e3.trans (e4.trans (e5.trans (e6.trans (e7.trans (e8.trans e9)))))))⟩
theorem H9 {s:Stm} (h7:s.k=7) (hb:EI 57 cs ns s.b):LT 105 cs ns s:=by
 intro B m T w vc vn vs r lo X k hS hx h hk
 refine WF.ex1 fun K hK=> ?_
 refine WF.of_wpG (fun _=>rfl) uI (L:= [(.a .e,.agg (s.l w)),(.e,.ptr r 0)]) rfl ?_
 unfold CF
 generalize hM1:hp [(.n 0,.cells true (s.l w))] 1 m=M1
 have hC1:Chg [] m M1:=by rw[←hM1];exact an rfl
 have p1:Kp M1 r vs (na m 0) (s.l w):=⟨by rw[←hM1];exact ax,by rw[←hM1];exact ab (by omega),(h.new 0).1,(h.new 0).2⟩
 have k1:=h.grow hC1
 have hsl:(s.l w).length=21:=rfl
 rw[wq] at hk
 rw[Nj h7] at hK
 obtain ⟨m2,r2,v2,k2,e2⟩:=t9 k1 (k:=k+14+s.x.sz+16*cn s.b) (hk.weak (by omega))
 have ok2:=qH (X:=X) (k:=k+14+s.x.sz+16*cn s.b) (hk.weak (by omega))
 have p2:=p1.next e2
 obtain ⟨m3,r3,v3,k3,e3⟩:=eh k2 (aA 9 0 X.lb) (by have:=ok2.s;omega)
 have ok3:=cu (k:=k+13+s.x.sz+16*cn s.b) (ok2.weak (by omega)) (aA 9 0 X.lb)
 have p3:=p2.next e3
 have g3:=p3.g
 obtain ⟨m4,r4,v4,k4,e4⟩:=fM s.x hS.x hx.n hx.nl k3 (k:=k+13+16*cn s.b) (ok3.weak (by omega))
 have ok4:=dR s.x (ns:=ns) (k:=k+13+16*cn s.b) (ok3.weak (by omega))
 have p4:=p3.next e4
 generalize s.x.lw ns (bf (aA 9 0 X.lb) (du 2 X))=q at r4 k4 ok4 hK
 obtain ⟨xv,X4⟩:=q
 dsimp only at r4 k4 ok4 hK
 obtain ⟨m5,r5,v5,k5,e5⟩:=eh k4 (aA 11 xv (X.lb+1)) (by have:=ok4.s;omega)
 have ok5:=cu (k:=k+12+16*cn s.b) (ok4.weak (by omega)) (aA 11 xv (X.lb+1))
 have p5:=p4.next e5
 have g5:=p5.g
 obtain ⟨CB,hSB⟩:=hS.b
 obtain ⟨m6,r6,v6,k6,e6⟩:=hb hSB hx k5 (k:=k+12) (ok5.weak (by omega))
 have ok6:=oY (cs:=cs) (ns:=ns) (l:=s.b) (k:=k+12) (ok5.weak (by omega))
 generalize jY cs ns s.b (bf (aA 11 xv (X.lb+1)) X4)=X6 at k6 ok6 hK
 obtain ⟨m7,r7,v7,k7,e7⟩:=eh k6 (aA 10 0 X.lb) (by have:=ok6.s;omega)
 have ok7:=cu (k:=k+11) (ok6.weak (by omega)) (aA 10 0 X.lb)
 obtain ⟨m8,r8,v8,k8,e8⟩:=eh k7 (aA 9 0 (X.lb+1)) (by have:=ok7.s;omega)
 unfold aA at r3 r5 r7 r8
 simp (config:={maxSteps:=1000000}) (disch:=first|assumption|omega|exact ab (by omega)|exact aa (by assumption)|(simp only[ao]<;>omega)) only[go_sem,seval,hM1,r2.wf',hsl,r3.wf',g3,r4.wf',r5.wf',g5,r6.wf',r7.wf',r8.wf']
 exact hK _ ⟨v8,k8,Ev.pre hC1 (e2.trans (e3.trans (e4.trans (e5.trans (e6.trans (e7.trans e8))))))⟩
theorem lx {l:List Stm} (ih:∀x∈l,EI 57 cs ns x.b/\EI 57 cs ns x.e):EI 57 cs ns l:=by
 intro B m T v vc vn vs C r lo X k hSS hx h hk
 refine WF.ex1 fun K hK=> ?_
 refine WF.of_wpG (fun _=>rfl) yg (L:= [(.a .e,v),(.e,.ptr r 0)]) rfl ?_
 unfold HS
 have hlen:=(hSS.stays (qW h.c T)).sl.len
 rw[hSS.len] at hlen
 have hll:=zh l
 have hls:=hk.s
 simp (config:={maxSteps:=1000000}) (disch:=first|assumption|omega|exact ab (by omega)|exact aa (by assumption)|(simp only[ao]<;>omega)) only[go_sem,seval,hlen,ai]
 refine W.loop (fun j d=>∃t M i vs' X',d=⟨t, [],none,M⟩/\NT.get D4.e t=some (.ptr r 0)/\NT.get D4.e.a.b t=some v/\NT.get D4.e.a.c t=some (ii l.length)/\NT.get D4.e.a.f t=some (ii (i:Nat))/\i+j=l.length/\MK B M r vc vn lo vs' X'/\Ev r vs vs' m M/\X'.ok (k+16*cn (l.drop i))/\jY cs ns (l.drop i) X'=jY cs ns l X) ?_ l.length _ ⟨_,m,0,vs,X,rfl,by simp only[go_sem,seval],by simp only[go_sem,seval],by simp only[go_sem,seval],by simp only[go_sem,seval]<;>rfl,by omega,h,Ev.grow (Chg.refl m),hk,rfl⟩
 rintro j d ⟨t,M,i,vs1,X1,rfl,g1,g2,g3,g4,hij,k1,e1,ok1,hL⟩
 apply aK
 unfold xP
 change wp _ _ _ _ ⟨ak [] t, [],none,M⟩ _
 rw[←ai M]
 by_cases hi:i<l.length
 ·obtain ⟨w,hCi,hRi,hSi⟩:=J9 hSS i hi
  obtain ⟨id,off,wr,c,a1,a2,a3,a4,a5⟩:=Hj hSS i hi hCi
  have a2':=(k1.c.get a3 (by simp)).trans a2
  rw[List.drop_eq_getElem_cons hi,cn] at ok1
  rw[List.drop_eq_getElem_cons hi,jY] at hL
  have ihi:=ih _ (List.getElem_mem hi)
  generalize l[i]=s at hRi hSi a5 ok1 hL ihi
  have hsz:=wq s
  have hsl:(s.l w).length=21:=rfl
  generalize hM2:hp [(.n 0,.cells true (s.l w)),(.n 0,.cells true [ii 0,ii 0,.str [],.str [],ii 0,iu 0,ib 0,.str [],.nils,ii 0,iu 0,ib 0,.str [],.nils,ii 0,iu 0,ib 0,.str [],.nils,.nils,.nils])] 1 M=M2
  have hC2:Chg [] M M2:=by rw[←hM2];exact an rfl
  have p2:Kp M2 r vs1 (na M 0) (s.l w):=⟨by rw[←hM2];exact ax,by rw[←hM2];exact ab (by omega),(k1.new 0).1,(k1.new 0).2⟩
  have k2:=k1.grow hC2
  have gg:=p2.g
  have oks:=B0 (cs:=cs) (ns:=ns) s (X:=X1) (k:=k+16*cn (l.drop (i+1))) (ok1.weak (by omega))
  have fin:∀{t':Tm} {M':NH} {vs':NV},MK B M' r vc vn lo vs' (s.lw cs ns X1)->Ev r vs1 vs' M2 M'->NT.get D4.e t'=some (.ptr r 0)->NT.get D4.e.a.b t'=some v->NT.get D4.e.a.c t'=some (ii l.length)->NT.get D4.e.a.f t'=some (ii (i+1:Nat))->∃j'<j,∃t M i vs' X',(⟨t', [],none,M'⟩:Dyn)=⟨t, [],none,M⟩/\NT.get D4.e t=some (.ptr r 0)/\NT.get D4.e.a.b t=some v/\NT.get D4.e.a.c t=some (ii l.length)/\NT.get D4.e.a.f t=some (ii (i:Nat))/\i+j'=l.length/\MK B M r vc vn lo vs' X'/\Ev r vs vs' m M/\X'.ok (k+16*cn (l.drop i))/\jY cs ns (l.drop i) X'=jY cs ns l X:=
   fun hk' he' q1 q2 q3 q4=>⟨j - 1,by omega,_,_,i+1,_,_,rfl,q1,q2,q3,q4,by omega,hk',e1.trans (Ev.pre hC2 he'),oks,hL⟩
  by_cases h0:s.k=0
  ·rw[Nl h0] at fin
   obtain ⟨m3,r3,v3,k3,e3⟩:=fM s.x hSi.x hx.n hx.nl k2 (k:=0) (ok1.weak (by omega))
   have r4:=mB k3 hx.n hx.nl s.nm
   have p3:=p2.next e3
   have g5:=p3.g
   obtain ⟨m5,r5,v5,k5,e5⟩:=eh k3 ⟨1,hU ns s.nm,(s.x.lw ns X1).1,0,0,0,0,0,0⟩ (by have:=(dR s.x (ns:=ns) (X:=X1) (k:=0) (ok1.weak (by omega))).s;omega)
   simp (config:={maxSteps:=1000000}) (disch:=first|assumption|omega|exact ab (by omega)|exact aa (by assumption)|(simp only[ao]<;>omega)) only[go_sem,seval,g1,g2,g3,g4,hlen,a1,a2',a5,hM2,gg,hsl,r3.wf',g5,r4.wf',r5.wf',qE hSi.x]
   exact fin k5 (e3.trans e5) (by simp only[go_sem,seval,g1]) (by simp only[go_sem,seval,g2]) (by simp only[go_sem,seval,g3]) (by simp only[go_sem,seval]<;>rfl)
  by_cases h123:s.k=1∨s.k=2∨s.k=3
  ·obtain ⟨m3,r3,v3,k3,e3⟩:=D6 h123 hSi hx k2 (k:=0) (ok1.weak (by omega))
   rcases h123 with h1|h1|h1
   ·simp (config:={maxSteps:=1000000}) (disch:=first|assumption|omega|exact ab (by omega)|exact aa (by assumption)|(simp only[ao]<;>omega)) only[go_sem,seval,g1,g2,g3,g4,hlen,a1,a2',a5,hM2,gg,hsl,r3.wf']
    exact fin k3 e3 (by simp only[go_sem,seval,g1]) (by simp only[go_sem,seval,g2]) (by simp only[go_sem,seval,g3]) (by simp only[go_sem,seval]<;>rfl)
   ·simp (config:={maxSteps:=1000000}) (disch:=first|assumption|omega|exact ab (by omega)|exact aa (by assumption)|(simp only[ao]<;>omega)) only[go_sem,seval,g1,g2,g3,g4,hlen,a1,a2',a5,hM2,gg,hsl,r3.wf']
    exact fin k3 e3 (by simp only[go_sem,seval,g1]) (by simp only[go_sem,seval,g2]) (by simp only[go_sem,seval,g3]) (by simp only[go_sem,seval]<;>rfl)
   ·simp (config:={maxSteps:=1000000}) (disch:=first|assumption|omega|exact ab (by omega)|exact aa (by assumption)|(simp only[ao]<;>omega)) only[go_sem,seval,g1,g2,g3,g4,hlen,a1,a2',a5,hM2,gg,hsl,r3.wf']
    exact fin k3 e3 (by simp only[go_sem,seval,g1]) (by simp only[go_sem,seval,g2]) (by simp only[go_sem,seval,g3]) (by simp only[go_sem,seval]<;>rfl)
  by_cases h4:s.k=4
  ·rw[Nq h4] at fin
   obtain ⟨m3,r3,v3,k3,e3⟩:=eh k2 (aA 13 0 0) (by have:=ok1.s;omega)
   unfold aA at r3
   simp (config:={maxSteps:=1000000}) (disch:=first|assumption|omega|exact ab (by omega)|exact aa (by assumption)|(simp only[ao]<;>omega)) only[go_sem,seval,g1,g2,g3,g4,hlen,a1,a2',a5,hM2,gg,hsl,r3.wf']
   exact fin k3 e3 (by simp only[go_sem,seval,g1]) (by simp only[go_sem,seval,g2]) (by simp only[go_sem,seval,g3]) (by simp only[go_sem,seval]<;>rfl)
  by_cases h5:s.k=5
  ·rw[Ni h5] at fin
   obtain ⟨m3,r3,v3,k3,e3⟩:=fM s.x hSi.x hx.n hx.nl k2 (k:=0) (ok1.weak (by omega))
   obtain ⟨m5,r5,v5,k5,e5⟩:=eh k3 (aA 8 (s.x.lw ns X1).1 0) (by have:=(dR s.x (ns:=ns) (X:=X1) (k:=0) (ok1.weak (by omega))).s;omega)
   unfold aA at r5
   simp (config:={maxSteps:=1000000}) (disch:=first|assumption|omega|exact ab (by omega)|exact aa (by assumption)|(simp only[ao]<;>omega)) only[go_sem,seval,g1,g2,g3,g4,hlen,a1,a2',a5,hM2,gg,hsl,r3.wf',r5.wf']
   exact fin k5 (e3.trans e5) (by simp only[go_sem,seval,g1]) (by simp only[go_sem,seval,g2]) (by simp only[go_sem,seval,g3]) (by simp only[go_sem,seval]<;>rfl)
  by_cases h6:s.k=6
  ·obtain ⟨m3,r3,v3,k3,e3⟩:=Cw h6 ihi.1 ihi.2 hSi hx k2 (k:=0) (ok1.weak (by omega))
   simp (config:={maxSteps:=1000000}) (disch:=first|assumption|omega|exact ab (by omega)|exact aa (by assumption)|(simp only[ao]<;>omega)) only[go_sem,seval,g1,g2,g3,g4,hlen,a1,a2',a5,hM2,gg,hsl,r3.wf']
   exact fin k3 e3 (by simp only[go_sem,seval,g1]) (by simp only[go_sem,seval,g2]) (by simp only[go_sem,seval,g3]) (by simp only[go_sem,seval]<;>rfl)
  by_cases h7:s.k=7
  ·obtain ⟨m3,r3,v3,k3,e3⟩:=H9 h7 ihi.1 hSi hx k2 (k:=0) (ok1.weak (by omega))
   simp (config:={maxSteps:=1000000}) (disch:=first|assumption|omega|exact ab (by omega)|exact aa (by assumption)|(simp only[ao]<;>omega)) only[go_sem,seval,g1,g2,g3,g4,hlen,a1,a2',a5,hM2,gg,hsl,r3.wf']
   exact fin k3 e3 (by simp only[go_sem,seval,g1]) (by simp only[go_sem,seval,g2]) (by simp only[go_sem,seval,g3]) (by simp only[go_sem,seval]<;>rfl)
  ·rw[Nh (by omega)] at fin
   simp (config:={maxSteps:=1000000}) (disch:=first|assumption|omega|exact ab (by omega)|exact aa (by assumption)|(simp only[ao]<;>omega)) only[go_sem,seval,g1,g2,g3,g4,hlen,a1,a2',a5,hM2,gg,hsl]
   exact fin k2 (Ev.grow (Chg.refl M2)) (by simp only[go_sem,seval,g1]) (by simp only[go_sem,seval,g2]) (by simp only[go_sem,seval,g3]) (by simp only[go_sem,seval]<;>rfl)
 ·simp (config:={maxSteps:=1000000}) (disch:=first|assumption|omega|exact ab (by omega)|exact aa (by assumption)|(simp only[ao]<;>omega)) only[go_sem,seval,g1,g2,g3,g4,hlen]
  rw[List.drop_of_length_le (by omega),jY] at hL
  rw[hL] at k1
  rw[ai]
  exact hK _ ⟨vs1,k1,e1⟩
theorem Fa:∀l:List Stm,EI 57 cs ns l:=by
 have key:∀x:Stm,EI 57 cs ns x.b/\EI 57 cs ns x.e:=by
  apply Stm.ind
  intro k a nm ce i x y b e hb he
  exact ⟨lx hb,lx he⟩
 exact fun l=>lx fun x _=>key x
end
end FR
open Go Nm Go.Proofs
namespace FR
set_option linter.unusedSimpArgs false
set_option linter.unusedVariables false
section
variable {cs:List (List Nat×Int)} {ns:List (List Nat)}
end
end FR
open Go Nm Go.Proofs
namespace FR
set_option linter.unusedSimpArgs false
set_option linter.unusedVariables false
structure Wk (ck:D4) (B m0:NH) (vc u:NV) (L:List (List Nat)) (e a:Int) (N:NH):Prop where
 g:N.get ck=some (.cells true [vc,u,ii e,ii a])
 o:aC N ck
 w:bL B N u 1 (cD L)
 n:ck∉ids u
 c:Chg [] m0 N
 b:∀i,aC B i->aC N i
section
variable {ck:D4} {B m0:NH} {vc:NV} {cs:List (List Nat×Int)}
theorem Wk.grow {u:NV} {L:List (List Nat)} {e a:Int} {N N':NH} (h:Wk ck B m0 vc u L e a N) (hC:Chg [] N N'):Wk ck B m0 vc u L e a N':=
 ⟨(hC.get h.o (by simp)).trans h.g,hC.old h.o,h.w.chg hC fun _ _=>by simp,h.n,h.c.trans hC (by simp),fun i hi=>hC.old (h.b i hi)⟩
theorem Wk.set {u:NV} {L:List (List Nat)} {e a e' a':Int} {N N':NH} (h:Wk ck B m0 vc u L e a N) (hk:¬aC m0 ck) (hN:hp [(.o ck,.cells true [vc,u,ii e',ii a'])] 0 N=N'):Wk ck B m0 vc u L e' a' N'/\Chg [ck] N N':=by
 have hC:Chg [ck] N N':=by rw[←hN];exact an rfl
 refine ⟨⟨?_,hC.old h.o,h.w.chg hC fun i hi=>by simp;rintro rfl;exact h.n hi,h.n,h.c.trans hC fun i hi ho=> ?_,fun i hi=>hC.old (h.b i hi)⟩,hC⟩
 ·rw[←hN];exact (aQ h.o).trans ay
 ·simp only[List.mem_cons,List.not_mem_nil,or_false] at hi;subst hi;exact absurd ho hk
end
end FR
open Go Nm Go.Proofs
namespace FR
set_option linter.unusedSimpArgs false
set_option linter.unusedVariables false
theorem yh {m:NH} {oc mo:D4} {Z:List (List Nat)} (hc:m.get oc=some (.cells true [.map mo])) (hm:m.get mo=some (.map (fR Z))) (s:List Nat):bI Try.prog S0 93 [.str s,.ptr oc 0] m (.bool (decide (s∈Z))) m:=by
 have h:∃r m',bI Try.prog S0 93 [.str s,.ptr oc 0] m r m'/\r= .bool (decide (s∈Z))/\m'=m:=by
  refine WF.ex fun K hK=> ?_
  refine WF.of_wpG (fun _=>rfl) yT (L:= [(.a .e,.ptr oc 0),(.e,.str s)]) rfl ?_
  unfold Hq
  simp (disch:=first|assumption|omega) only[go_sem,seval,hc,hm,ai]
  exact hK _ _ ⟨rfl,rfl⟩
 obtain ⟨r,m',h1,rfl,rfl⟩:=h
 exact h1
theorem JI {m:NH} {v:NV} {l:List (List Nat)} {oc mo:D4} {Z:List (List Nat)} (hv:Sl m v 1 (cD l)) (hc:m.get oc=some (.cells true [.map mo])) (hm:m.get mo=some (.map (fR Z))) (hsz:l.length<=1099511627776):
 ∃r m',bI Try.prog S0 137 [v,.fn 93 [.ptr oc 0]] m r m'/\(∃z:Int,r=ii z/\(0<=z↔∃n∈l,n∈Z))/\m'=m:=by
 refine WF.ex fun K hK=> ?_
 refine WF.of_wpG (fun _=>rfl) uE (L:= [(.a .e,.fn 93 [.ptr oc 0]),(.e,v)]) rfl ?_
 unfold Bu
 have hlen:=hv.len
 rw[List.length_map] at hlen
 simp (disch:=first|assumption|omega) only[go_sem,seval,hlen,ai]
 refine W.loop (fun k d=>∃t i,d=⟨t, [],none,m⟩/\NT.get D4.e t=some v/\NT.get D4.e.a t=some (.fn 93 [.ptr oc 0])/\NT.get D4.e.a.c t=some (ii l.length)/\NT.get D4.e.a.f t=some (ii (i:Nat))/\i+k=l.length/\∀j (hj:j<i) (hl:j<l.length),l[j]∉Z) ?_ l.length _ ⟨_,0,rfl,by simp only[go_sem,seval],by simp only[go_sem,seval],by simp only[go_sem,seval],by simp only[go_sem,seval]<;>rfl,by omega,by simp⟩
 rintro k d ⟨t,i,rfl,g1,g2,g3,g4,hik,hn⟩
 apply aK
 unfold sM
 change wp _ _ _ _ ⟨ak [] t, [],none,m⟩ _
 by_cases hi:i<l.length
 ·obtain ⟨id,off,wr,c,a1,a2,a3,a4,a5⟩:=hv.at i (by simpa using hi)
  rw[List.getElem_map] at a5
  have c0:c[off]? =some (.str l[i]):=bz a5 0 (by omega)
  by_cases hin:l[i]∈Z
  ·have hp:=yh hc hm l[i]
   rw[decide_eq_true hin] at hp
   simp (disch:=first|assumption|omega) only[go_sem,seval,g1,g2,g3,g4,a1,a2,c0,hp.wf']
   exact hK _ _ ⟨⟨i,rfl,fun _=>⟨l[i],List.getElem_mem hi,hin⟩,fun _=>by omega⟩,rfl⟩
  ·have hp:=yh hc hm l[i]
   rw[decide_eq_false hin] at hp
   simp (disch:=first|assumption|omega) only[go_sem,seval,g1,g2,g3,g4,a1,a2,c0,hp.wf']
   refine ⟨k - 1,by omega,_,i+1,by rfl,by simp only[go_sem,seval,g1],by simp only[go_sem,seval,g2],by simp only[go_sem,seval,g3],by simp only[go_sem,seval]<;>rfl,by omega,fun j hj hl=> ?_⟩
   rcases Nat.lt_or_ge j i with q|q
   ·exact hn j q hl
   ·obtain rfl:j=i:=by omega
    exact hin
 ·simp (disch:=first|assumption|omega) only[go_sem,seval,g1,g2,g3,g4]
  refine hK _ _ ⟨⟨-1,rfl,fun h=>by omega,fun ⟨n,h1,h2⟩=> ?_⟩,rfl⟩
  obtain ⟨j,hj,rfl⟩:=List.getElem_of_mem h1
  exact absurd h2 (hn j (by omega) hj)
theorem yn {m:NH} {v:NV} {l:List (List Nat)} {oc mo:D4} {Z:List (List Nat)} (hv:Sl m v 1 (cD l)) (hc:m.get oc=some (.cells true [.map mo])) (hm:m.get mo=some (.map (fR Z))) (hsz:l.length<=1099511627776):
 bI Try.prog S0 92 [v,.fn 93 [.ptr oc 0]] m (.bool (decide (∃n∈l,n∈Z))) m:=by
 have h:∃r m',bI Try.prog S0 92 [v,.fn 93 [.ptr oc 0]] m r m'/\r= .bool (decide (∃n∈l,n∈Z))/\m'=m:=by
  refine WF.ex fun K hK=> ?_
  refine WF.of_wpG (fun _=>rfl) yL (L:= [(.a .e,.fn 93 [.ptr oc 0]),(.e,v)]) rfl ?_
  unfold I0
  obtain ⟨r,m',hr,⟨z,rfl,hz⟩,rfl⟩:=JI hv hc hm hsz
  simp (disch:=first|assumption|omega) only[go_sem,seval,ai,hr.wf']
  refine hK _ _ ⟨?_,rfl⟩
  simp only[hz]
 obtain ⟨r,m',h1,rfl,rfl⟩:=h
 exact h1
end FR
open Go Nm Go.Proofs
namespace FR
set_option linter.unusedSimpArgs false
set_option linter.unusedVariables false
abbrev KY:=(List (List Nat)×Nat)×Option (Int×Int)
def ul (Z:List (List Nat)) (st:KY) (x:Stm):KY×Bool:=
 if (x.k=1∨x.k=2∨x.k=3)/\x.ce∉Z then ((st.1,some (x.a,4)),false)
 else if ∃n∈x.own,n∈Z then ((st.1,some (x.a,6)),false)
 else if 12<(x.own.foldl cH st.1.1).length then (((x.own.foldl cH st.1.1,st.1.2+x.own.length),some (x.a,3)),false)
 else (((x.own.foldl cH st.1.1,st.1.2+x.own.length),none),true)
def Nc (st:KY) (x:Stm):Prop:=st.2=none/\x.sz<=100000000/\st.1.2+x.own.length<=100000000
def Jc:Option (Int×Int)->Int|some (a,_)=>a|none=>0
def GA:Option (Int×Int)->Int|some (_,e)=>e|none=>0
def Kw:Option (Int×Int)->Nat|some _=>2|none=>0
def LB:Option (Int×Int)->Jump|some _=> .ret|none=> .none
def Nd (q o b er:D4) (t:Tm) (M1:NH) (st:KY) (F:List D4) (N:NH):Prop:=∃u,F=q::o::b::er::ids u/\Chg [q,o,b,er] M1 N/\N.get q=some (.loop (Kw st.2) (LB st.2) t [D4.e.b.c] eR eL)/\N.get o=some (.cells true [u])/\N.get b=some (.cells true [ii (Jc st.2)])/\N.get er=some (.cells true [ii (GA st.2)])/\bL M1 N u 1 (cD st.1.1)/\st.1.1.length<=st.1.2
structure BdO (q o b er oc mo:D4) (M1:NH):Prop where
 qo:q≠o
 qb:q≠b
 qe:q≠er
 ob:o≠b
 oe:o≠er
 be:b≠er
 oq:aC M1 q
 oo:aC M1 o
 ol:aC M1 b
 om:aC M1 er
 og:aC M1 oc
 od:aC M1 mo
 cc:oc∉ [q,o,b,er]
 cd:mo∉ [q,o,b,er]
theorem uk {q o b er oc mo:D4} {t:Tm} {M1 M M':NH} {u:NV} {L:List (List Nat)} {n:Nat} {r:Option (Int×Int)} (hO:BdO q o b er oc mo M1) (hC:Chg [q,o,b,er] M1 M) (hC':Chg [q,o,b,er] M M') (hq:M'.get q=some (.loop (Kw r) (LB r) t [D4.e.b.c] eR eL)) (ho:M'.get o=some (.cells true [u])) (hb:M'.get b=some (.cells true [ii (Jc r)])) (he:M'.get er=some (.cells true [ii (GA r)])) (hu:bL M1 M u 1 (cD L)) (hl:L.length<=n):
 Nd q o b er t M1 ((L,n),r) (q::o::b::er::ids u) M':=by
 refine ⟨u,rfl,hC.trans hC' fun _ h _=>h,hq,ho,hb,he,hu.chg hC' fun i hi=> ?_,hl⟩
 have hn:=hu.new i hi
 simp only[List.mem_cons,List.not_mem_nil,or_false,not_or]
 exact ⟨fun e=>hn (e▸hO.oq),fun e=>hn (e▸hO.oo),fun e=>hn (e▸hO.ol),fun e=>hn (e▸hO.om)⟩
theorem EN {m0 M1:NH} {T:D4->Prop} {q o b er oc mo:D4} {t:Tm} {Z:List (List Nat)} (hO:BdO q o b er oc mo M1) (h1:NT.get D4.e.c t=some (.ptr oc 0)) (h2:NT.get D4.e.f t=some (.ptr b 0)) (h3:NT.get D4.e.a.a t=some (.ptr er 0)) (h4:NT.get D4.e.a.b t=some (.ptr o 0)) (hc:M1.get oc=some (.cells true [.map mo])) (hm:M1.get mo=some (.map (fR Z)))
 (h0:∀S,Chg [q,o,b,er] M1 S->Chg [] m0 S):Ylds q m0 T Nc (ul Z) (Nd q o b er t M1):=by
 refine ⟨?_, ?_, ?_, ?_⟩
 ·rintro s F N ⟨u,rfl,hC,-⟩;exact h0 _ hC
 ·rintro s F N ⟨u,rfl,hC,hq,ho,hb,he,hu,hl⟩ i hi
  simp only[List.mem_cons] at hi
  rcases hi with rfl|rfl|rfl|rfl|hi
  ·exact hC.old hO.oq
  ·exact hC.old hO.oo
  ·exact hC.old hO.ol
  ·exact hC.old hO.om
  ·exact hu.sl.old i hi
 ·rintro s F N N' ⟨u,rfl,hC,hq,ho,hb,he,hu,hl⟩ hC'
  exact ⟨u,rfl,hC.trans hC' (by simp),(hC'.get (hC.old hO.oq) (by simp)).trans hq,(hC'.get (hC.old hO.oo) (by simp)).trans ho,(hC'.get (hC.old hO.ol) (by simp)).trans hb,(hC'.get (hC.old hO.om) (by simp)).trans he,hu.chg hC' fun _ _=>by simp,hl⟩
 ·rintro ⟨⟨L,n⟩,r⟩ F N x c ⟨u,rfl,hC,hq,ho,hb,he,hu,hl⟩ hR ⟨hA0,hA1,hA2⟩
  cases hA0
  have hq:N.get q=some (.loop 0 .none t [D4.e.b.c] eR eL):=hq
  have hb:N.get b=some (.cells true [ii 0]):=hb
  have he:N.get er=some (.cells true [ii 0]):=he
  obtain ⟨w,rfl,hP⟩:=hR.inv'
  refine WY.ex1 fun K hK=> ?_
  refine WY.of_wp hq rfl eR.eq_1 eL.eq_1 ?_
  change wp _ _ _ _ ⟨ak [(D4.e.b.c,.agg (x.l w))] t, [],none,hp [] 0 N⟩ _
  have hl21:(x.l w).length=21:=rfl
  have hl21':(x.l w).take 21=x.l w:=rfl
  have oq:=hC.old hO.oq
  have oo:=hC.old hO.oo
  have ob:=hC.old hO.ol
  have oe:=hC.old hO.om
  have qo:=hO.qo
  have qo':=hO.qo.symm
  have qb:=hO.qb
  have qb':=hO.qb.symm
  have qe:=hO.qe
  have qe':=hO.qe.symm
  have obn:=hO.ob
  have obn':=hO.ob.symm
  have oen:=hO.oe
  have oen':=hO.oe.symm
  have ben:=hO.be
  have ben':=hO.be.symm
  have hcN:=(hC.get hO.og hO.cc).trans hc
  have hmN:=(hC.get hO.od hO.cd).trans hm
  have occ:=hC.old hO.og
  have omo:=hC.old hO.od
  simp (config:={maxSteps:=1000000}) (disch:=first|assumption|omega|exact ab (by omega)|exact aa (by assumption)|(simp only[ao]<;>omega)) only[go_sem,seval,h1,h2,h3,h4,hq,ho,hl21,hl21']
  generalize hM2:hp _ 1 N=M2
  have hC2:Chg [q] N M2:=by rw[←hM2];exact an rfl
  have hcq:oc≠q:=fun e=>hO.cc (by simp[e])
  have hmq:mo≠q:=fun e=>hO.cd (by simp[e])
  have q2:M2.get q=some (.loop 1 .none t [D4.e.b.c] eR eL):=by rw[←hM2];exact (aQ oq).trans ay
  have o2:M2.get o=some (.cells true [u]):=(hC2.get oo (by simpa using qo')).trans ho
  have e2:=(hC2.get oe (by simpa using qe')).trans he
  have b2:=(hC2.get ob (by simpa using qb')).trans hb
  have c2:=(hC2.get occ (by simpa using hcq)).trans hcN
  have d2:=(hC2.get omo (by simpa using hmq)).trans hmN
  have x2:M2.get (na N 0)=some (.cells true (x.l w)):=by rw[←hM2];exact ax
  have ox2:aC M2 (na N 0):=by rw[←hM2];exact ab (by omega)
  have hC02:Chg [] m0 M2:=h0 _ (hC.trans (hC2.weak (T:= [q,o,b,er]) (by simp)) fun _ h _=>h)
  refine WF.use (xK hR hC02 hA1) ?_
  rintro v3 M3 ⟨hv3,hC3⟩
  have hC23:=hC2.trans hC3 (by simp)
  have q3:=(hC3.get (hC2.old oq) (by simp)).trans q2
  have o3:=(hC3.get (hC2.old oo) (by simp)).trans o2
  have x3:=(hC3.get ox2 (by simp)).trans x2
  have hqu:q∉ids u:=fun h=>hu.new _ h hO.oq
  have hou:o∉ids u:=fun h=>hu.new _ h hO.oo
  have hbu:b∉ids u:=fun h=>hu.new _ h hO.ol
  have heu:er∉ids u:=fun h=>hu.new _ h hO.om
  have hu3:bL M1 M3 u 1 (cD L):=hu.chg hC23 fun i hi=>by simp;rintro rfl;exact hqu hi
  have hus:bP 4 u u=true:=hu.sl.same
  have ox3:=hC3.old ox2
  simp (config:={maxSteps:=1000000}) (disch:=first|assumption|omega|exact ab (by omega)|exact aa (by assumption)|(simp only[ao]<;>omega)) only[go_sem,seval,h1,h2,h3,h4,q3,o3,x3,hl21,hl21',hus]
  refine WF.use1 (tn M3 [1,2,3] rfl rfl (by decide)) ?_
  intro M4 hC4
  have t3:(x.l w)[3]? =some (.str x.ce):=rfl
  have t1:(x.l w)[1]? =some (ii x.a):=rfl
  have oq3:=hC3.old (hC2.old oq)
  have q4:=(hC4.get oq3 (by simp)).trans q3
  have oq4:=hC4.old oq3
  have oo3:=hC3.old (hC2.old oo)
  have o4:=(hC4.get oo3 (by simp)).trans o3
  have oo4:=hC4.old oo3
  have hC24:=hC3.trans hC4 (by simp)
  have b4:=(hC24.get (hC2.old ob) (by simp)).trans b2
  have ob4:=hC24.old (hC2.old ob)
  have e4:=(hC24.get (hC2.old oe) (by simp)).trans e2
  have oe4:=hC24.old (hC2.old oe)
  have c4:=(hC24.get (hC2.old occ) (by simp)).trans c2
  have d4:=(hC24.get (hC2.old omo) (by simp)).trans d2
  have x4:=(hC4.get ox3 (by simp)).trans x3
  have ox4:=hC4.old ox3
  have hx1:na N 0≠b:=fun e=>ob.ne 0 e.symm
  have hx2:na N 0≠er:=fun e=>oe.ne 0 e.symm
  have hx3:na N 0≠q:=fun e=>oq.ne 0 e.symm
  have hx4:na N 0≠o:=fun e=>oo.ne 0 e.symm
  have hL:L.length<=n:=hl
  have hA2':n+x.own.length<=100000000:=hA2
  have hu4:bL M1 M4 u 1 (cD L):=hu3.chg hC4 fun _ _=>by simp
  have hv4:=hv3.chg hC4 fun _ _=>by simp
  have hN4:Chg [q] N M4:=hC23.trans hC4 (by simp)
  have hM14:Chg [q,o,b,er] M1 M4:=hC.trans (hN4.weak (T:= [q,o,b,er]) (by simp)) fun _ h _=>h
  have hxu:na N 0∉ids u:=fun h=>(hu.sl.old _ h).ne 0 rfl
  have stop:∀e:Int,ul Z ((L,n),none) x=(((L,n),some (x.a,e)),false)->K (.bool false) (hp [(.o q,.loop 2 .ret t [D4.e.b.c] eR eL),(.o er,.cells true [ii e]),(.o b,.cells true [ii x.a])] 0 M4):=by
   intro e hf
   rw[hf] at hK
   generalize hM5:hp _ 0 M4=M5
   have hC5:Chg [q,er,b] M4 M5:=by rw[←hM5];exact an rfl
   have hC5':Chg [q,o,b,er] M4 M5:=hC5.weak (by simp)
   refine hK M5 ⟨_,uk hO hM14 hC5' ?_ ?_ ?_ ?_ hu4 hl, ?_,fun i hi=>Or.inl hi⟩
   ·rw[←hM5];exact (aQ oq4).trans ay
   ·exact (hC5.get oo4 (by simp[qo',oen,obn])).trans o4
   ·rw[←hM5];exact (aQ ob4).trans ((bc qb').trans ((bc ben).trans ay))
   ·rw[←hM5];exact (aQ oe4).trans ((bc qe').trans ay)
   ·exact (hN4.weak (T:=q::o::b::er::ids u) (by simp)).trans hC5' (fun i h _=>by simp at h ⊢;rcases h with h|h|h|h<;>simp[h])
  by_cases hk:x.k=1∨x.k=2∨x.k=3
  ·rw[decide_eq_true (by simpa using hk:x.k∈ [1,2,3])]
   by_cases hz:x.ce∈Z
   ·have hz':decide (x.ce∈Z)=true:=decide_eq_true hz
    have hnz:¬((x.k=1∨x.k=2∨x.k=3)/\x.ce∉Z):=fun h=>h.2 hz
    by_cases hn:∃n∈x.own,n∈Z
    ·have cof:=yn hv4.sl c4 d4 (by omega)
     rw[decide_eq_true hn] at cof
     simp (config:={maxSteps:=1000000}) (disch:=first|assumption|omega|exact ab (by omega)|exact aa (by assumption)|(simp only[ao]<;>omega)) only[go_sem,seval,h1,h2,h3,h4,q4,o4,x4,c4,d4,b4,e4,hl21,hl21',hus,t3,t1,hz']
     refine WF.use1H ⟨M4,cof,rfl⟩ ?_
     rintro _ rfl
     simp (config:={maxSteps:=1000000}) (disch:=first|assumption|omega|exact ab (by omega)|exact aa (by assumption)|(simp only[ao]<;>omega)) only[go_sem,seval,h1,h2,h3,h4,q4,o4,x4,c4,d4,b4,e4,hl21,hl21',hus,t3,t1]
     exact stop 6 (by unfold ul;rw[if_neg hnz,if_pos hn])
    ·have cof:=yn hv4.sl c4 d4 (by omega)
     rw[decide_eq_false hn] at cof
     simp (config:={maxSteps:=1000000}) (disch:=first|assumption|omega|exact ab (by omega)|exact aa (by assumption)|(simp only[ao]<;>omega)) only[go_sem,seval,h1,h2,h3,h4,q4,o4,x4,c4,d4,b4,e4,hl21,hl21',hus,t3,t1,hz',cof.wf']
     refine WF.use (xj hu4 hv4.sl (fun i hi hiu=>hv4.new i hi (hC2.old (hu.sl.old i hiu))) (fun i hi=>hC4.old (hC3.old (hC2.old (hC.old hi)))) (by show L.length+x.own.length<=_;omega)) ?_
     rintro v5 M5 ⟨hv5,hC5,hF5⟩
     have hq5:=(hC5.get oq4 hqu).trans q4
     have hoq5:=hC5.old oq4
     have ho5:=(hC5.get oo4 hou).trans o4
     have hoo5:=hC5.old oo4
     have hb5:=(hC5.get ob4 hbu).trans b4
     have hob5:=hC5.old ob4
     have he5:=(hC5.get oe4 heu).trans e4
     have hoe5:=hC5.old oe4
     have hx5:=(hC5.get ox4 hxu).trans x4
     have hox5:=hC5.old ox4
     have hlen5:=hv5.sl.len
     rw[List.length_map] at hlen5
     have hfl:=iV x.own L
     rw[←ai M5]
     have hM15:Chg [q,o,b,er] M1 M5:=hM14.trans hC5 fun i hi ho=>absurd ho (hu.new i hi)
     have hN5:Chg (q::o::b::er::ids u) N M5:=(hN4.weak (T:=q::o::b::er::ids u) (by simp)).trans hC5 fun i h _=>by simp[h]
     have hF:∀i∈q::o::b::er::ids v5,i∈q::o::b::er::ids u∨¬aC N i:=by
      intro i hi
      simp only[List.mem_cons] at hi ⊢
      rcases hi with rfl|rfl|rfl|rfl|hi
      ·simp
      ·simp
      ·simp
      ·simp
      ·rcases hF5 i hi with h|h
       ·exact Or.inl (Or.inr (Or.inr (Or.inr (Or.inr h))))
       ·exact Or.inr fun ho=>h (hN4.old ho)
     by_cases h12:12<(x.own.foldl cH L).length
     ·have hf:ul Z ((L,n),none) x=(((x.own.foldl cH L,n+x.own.length),some (x.a,3)),false):=by unfold ul;rw[if_neg hnz,if_neg hn,if_pos h12]
      rw[hf] at hK
      simp (config:={maxSteps:=1000000}) (disch:=first|assumption|omega|exact ab (by omega)|exact aa (by assumption)|(simp only[ao]<;>omega)) only[go_sem,seval,h1,h2,h3,h4,hq5,ho5,hx5,hb5,he5,hl21,hl21',t1,hv5.sl.one,hlen5,h12]
      generalize hM6:hp _ 0 M5=M6
      have hC6:Chg [q,er,b,o] M5 M6:=by rw[←hM6];exact an rfl
      have hC6':Chg [q,o,b,er] M5 M6:=hC6.weak (by simp)
      refine hK M6 ⟨_,uk hO hM15 hC6' ?_ ?_ ?_ ?_ hv5 (by show _<=n+_;have:L.length<=n:=hl;omega),hN5.trans hC6' (fun i h _=>by simp at h ⊢;rcases h with h|h|h|h<;>simp[h]),hF⟩
      ·rw[←hM6];exact (aQ hoq5).trans ay
      ·rw[←hM6];exact (aQ hoo5).trans ((bc qo').trans ((bc oen).trans ((bc obn).trans ay)))
      ·rw[←hM6];exact (aQ hob5).trans ((bc qb').trans ((bc ben).trans ay))
      ·rw[←hM6];exact (aQ hoe5).trans ((bc qe').trans ay)
     ·have hf:ul Z ((L,n),none) x=(((x.own.foldl cH L,n+x.own.length),none),true):=by unfold ul;rw[if_neg hnz,if_neg hn,if_neg h12]
      rw[hf] at hK
      simp (config:={maxSteps:=1000000}) (disch:=first|assumption|omega|exact ab (by omega)|exact aa (by assumption)|(simp only[ao]<;>omega)) only[go_sem,seval,h1,h2,h3,h4,hq5,ho5,hx5,hb5,he5,hl21,hl21',t1,hv5.sl.one,hlen5,h12]
      generalize hM6:hp _ 0 M5=M6
      have hC6:Chg [q,o] M5 M6:=by rw[←hM6];exact an rfl
      have hC6':Chg [q,o,b,er] M5 M6:=hC6.weak (by simp)
      refine hK M6 ⟨_,uk hO hM15 hC6' ?_ ?_ ?_ ?_ hv5 (by show _<=n+_;have:L.length<=n:=hl;omega),hN5.trans hC6' (fun i h _=>by simp at h ⊢;rcases h with h|h|h|h<;>simp[h]),hF⟩
      ·rw[←hM6];exact (aQ hoq5).trans ay
      ·rw[←hM6];exact (aQ hoo5).trans ((bc qo').trans ay)
      ·exact (hC6.get hob5 (by simp[qb',obn'])).trans hb5
      ·exact (hC6.get hoe5 (by simp[qe',oen'])).trans he5
   ·have hz':decide (x.ce∈Z)=false:=decide_eq_false hz
    rw[←ai M4]
    simp (config:={maxSteps:=1000000}) (disch:=first|assumption|omega|exact ab (by omega)|exact aa (by assumption)|(simp only[ao]<;>omega)) only[go_sem,seval,h1,h2,h3,h4,q4,o4,x4,c4,d4,b4,e4,hl21,hl21',hus,t3,t1,hz']
    exact stop 4 (by unfold ul;rw[if_pos ⟨hk,hz⟩])
  ·rw[decide_eq_false (by simpa using hk:x.k∉ [1,2,3])]
   have hnz:¬((x.k=1∨x.k=2∨x.k=3)/\x.ce∉Z):=fun h=>hk h.1
   by_cases hn:∃n∈x.own,n∈Z
   ·have cof:=yn hv4.sl c4 d4 (by omega)
    rw[decide_eq_true hn] at cof
    simp (config:={maxSteps:=1000000}) (disch:=first|assumption|omega|exact ab (by omega)|exact aa (by assumption)|(simp only[ao]<;>omega)) only[go_sem,seval,h1,h2,h3,h4,q4,o4,x4,c4,d4,b4,e4,hl21,hl21',hus,t3,t1]
    refine WF.use1H ⟨M4,cof,rfl⟩ ?_
    rintro _ rfl
    simp (config:={maxSteps:=1000000}) (disch:=first|assumption|omega|exact ab (by omega)|exact aa (by assumption)|(simp only[ao]<;>omega)) only[go_sem,seval,h1,h2,h3,h4,q4,o4,x4,c4,d4,b4,e4,hl21,hl21',hus,t3,t1]
    exact stop 6 (by unfold ul;rw[if_neg hnz,if_pos hn])
   ·have cof:=yn hv4.sl c4 d4 (by omega)
    rw[decide_eq_false hn] at cof
    simp (config:={maxSteps:=1000000}) (disch:=first|assumption|omega|exact ab (by omega)|exact aa (by assumption)|(simp only[ao]<;>omega)) only[go_sem,seval,h1,h2,h3,h4,q4,o4,x4,c4,d4,b4,e4,hl21,hl21',hus,t3,t1,cof.wf']
    refine WF.use (xj hu4 hv4.sl (fun i hi hiu=>hv4.new i hi (hC2.old (hu.sl.old i hiu))) (fun i hi=>hC4.old (hC3.old (hC2.old (hC.old hi)))) (by show L.length+x.own.length<=_;omega)) ?_
    rintro v5 M5 ⟨hv5,hC5,hF5⟩
    have hq5:=(hC5.get oq4 hqu).trans q4
    have hoq5:=hC5.old oq4
    have ho5:=(hC5.get oo4 hou).trans o4
    have hoo5:=hC5.old oo4
    have hb5:=(hC5.get ob4 hbu).trans b4
    have hob5:=hC5.old ob4
    have he5:=(hC5.get oe4 heu).trans e4
    have hoe5:=hC5.old oe4
    have hx5:=(hC5.get ox4 hxu).trans x4
    have hox5:=hC5.old ox4
    have hlen5:=hv5.sl.len
    rw[List.length_map] at hlen5
    have hfl:=iV x.own L
    rw[←ai M5]
    have hM15:Chg [q,o,b,er] M1 M5:=hM14.trans hC5 fun i hi ho=>absurd ho (hu.new i hi)
    have hN5:Chg (q::o::b::er::ids u) N M5:=(hN4.weak (T:=q::o::b::er::ids u) (by simp)).trans hC5 fun i h _=>by simp[h]
    have hF:∀i∈q::o::b::er::ids v5,i∈q::o::b::er::ids u∨¬aC N i:=by
     intro i hi
     simp only[List.mem_cons] at hi ⊢
     rcases hi with rfl|rfl|rfl|rfl|hi
     ·simp
     ·simp
     ·simp
     ·simp
     ·rcases hF5 i hi with h|h
      ·exact Or.inl (Or.inr (Or.inr (Or.inr (Or.inr h))))
      ·exact Or.inr fun ho=>h (hN4.old ho)
    by_cases h12:12<(x.own.foldl cH L).length
    ·have hf:ul Z ((L,n),none) x=(((x.own.foldl cH L,n+x.own.length),some (x.a,3)),false):=by unfold ul;rw[if_neg hnz,if_neg hn,if_pos h12]
     rw[hf] at hK
     simp (config:={maxSteps:=1000000}) (disch:=first|assumption|omega|exact ab (by omega)|exact aa (by assumption)|(simp only[ao]<;>omega)) only[go_sem,seval,h1,h2,h3,h4,hq5,ho5,hx5,hb5,he5,hl21,hl21',t1,hv5.sl.one,hlen5,h12]
     generalize hM6:hp _ 0 M5=M6
     have hC6:Chg [q,er,b,o] M5 M6:=by rw[←hM6];exact an rfl
     have hC6':Chg [q,o,b,er] M5 M6:=hC6.weak (by simp)
     refine hK M6 ⟨_,uk hO hM15 hC6' ?_ ?_ ?_ ?_ hv5 (by show _<=n+_;have:L.length<=n:=hl;omega),hN5.trans hC6' (fun i h _=>by simp at h ⊢;rcases h with h|h|h|h<;>simp[h]),hF⟩
     ·rw[←hM6];exact (aQ hoq5).trans ay
     ·rw[←hM6];exact (aQ hoo5).trans ((bc qo').trans ((bc oen).trans ((bc obn).trans ay)))
     ·rw[←hM6];exact (aQ hob5).trans ((bc qb').trans ((bc ben).trans ay))
     ·rw[←hM6];exact (aQ hoe5).trans ((bc qe').trans ay)
    ·have hf:ul Z ((L,n),none) x=(((x.own.foldl cH L,n+x.own.length),none),true):=by unfold ul;rw[if_neg hnz,if_neg hn,if_neg h12]
     rw[hf] at hK
     simp (config:={maxSteps:=1000000}) (disch:=first|assumption|omega|exact ab (by omega)|exact aa (by assumption)|(simp only[ao]<;>omega)) only[go_sem,seval,h1,h2,h3,h4,hq5,ho5,hx5,hb5,he5,hl21,hl21',t1,hv5.sl.one,hlen5,h12]
     generalize hM6:hp _ 0 M5=M6
     have hC6:Chg [q,o] M5 M6:=by rw[←hM6];exact an rfl
     have hC6':Chg [q,o,b,er] M5 M6:=hC6.weak (by simp)
     refine hK M6 ⟨_,uk hO hM15 hC6' ?_ ?_ ?_ ?_ hv5 (by show _<=n+_;have:L.length<=n:=hl;omega),hN5.trans hC6' (fun i h _=>by simp at h ⊢;rcases h with h|h|h|h<;>simp[h]),hF⟩
     ·rw[←hM6];exact (aQ hoq5).trans ay
     ·rw[←hM6];exact (aQ hoo5).trans ((bc qo').trans ay)
     ·exact (hC6.get hob5 (by simp[qb',obn'])).trans hb5
     ·exact (hC6.get hoe5 (by simp[qe',oen'])).trans he5
end FR
open Go Nm Go.Proofs
namespace FR
set_option linter.unusedSimpArgs false
set_option linter.unusedVariables false
end FR
open Go Nm Go.Proofs
namespace FR
set_option linter.unusedSimpArgs false
set_option linter.unusedVariables false
section
variable {ck:D4} {B m0:NH} {vc:NV} {cs:List (List Nat×Int)} {T:D4->Prop}
end
end FR
open Go Nm Go.Proofs
namespace FR
set_option linter.unusedSimpArgs false
set_option linter.unusedVariables false
section
variable {ck:D4} {B m0:NH} {vc:NV} {cs:List (List Nat×Int)} {T:D4->Prop}
end
end FR
open Go Nm Go.Proofs
namespace FR
set_option linter.unusedSimpArgs false
set_option linter.unusedVariables false
theorem Lj {Z:List (List Nat)} (l:List Stm):∀st:KY,st.2=none->(∀x∈l,x.sz<=100000000)->st.1.2+(l.flatMap Stm.own).length<=100000000->Al Nc (ul Z) l st:=by
 induction l with
 |nil=>intro st _ _ _;trivial
 |cons x l ih=>
  intro st h0 h1 h2
  rw[List.flatMap_cons,List.length_append] at h2
  refine ⟨⟨h0,h1 x (List.mem_cons_self ..),by omega⟩,fun h=> ?_⟩
  have e:(ul Z st x).1=((x.own.foldl cH st.1.1,st.1.2+x.own.length),none):=by
   unfold ul at h ⊢
   split at h
   ·cases h
   ·split at h
    ·cases h
    ·split at h
     ·cases h
     ·rename_i a b c;rw[if_neg a,if_neg b,if_neg c]
  rw[e]
  exact ih _ rfl (fun y hy=>h1 y (List.mem_cons_of_mem _ hy)) (by show st.1.2+_+_<=_;omega)
def jN (Z:List (List Nat)) (l:List Stm):Option (Int×Int):=(bx (ul Z) (bB l) (([],0),none)).1.2
theorem Gl {m0 m:NH} {T:D4->Prop} {v:NV} {l:List Stm} {C:List (List NV)} {mo:D4} {Z:List (List Nat)} (hS:SS m0 T v l C) (hC0:Chg [] m0 m) (hm:m.get mo=some (.map (fR Z))) (hmo:aC m mo) (hsz:cn l<=10000000):
 ∃m',bI Try.prog S0 49 [v,.map mo] m (.tup [ii (Jc (jN Z l)),ii (GA (jN Z l))]) m'/\Chg [] m m':=by
 refine WF.ex1 fun K hK=> ?_
 refine WF.of_wpM (fun _=>rfl) x0 (L:= [(.a .e,.map mo),(.e,v)]) rfl ?_
 unfold HQ
 simp (config:={maxSteps:=1000000}) (disch:=first|assumption|omega|exact ab (by omega)|exact aa (by assumption)|(simp only[ao]<;>omega)) only[go_sem,seval,(Gp _ hS.sl.one).wf']
 generalize hM0:hp _ 4 m=M0
 have hC1:Chg [] m M0:=by rw[←hM0];exact an rfl
 have gc0:M0.get (na m 0)=some (.cells true [.map mo]):=by rw[←hM0];exact ax
 have gb0:M0.get (na m 1)=some (.cells true [ii 0]):=by rw[←hM0];exact ax
 have ge0:M0.get (na m 2)=some (.cells true [ii 0]):=by rw[←hM0];exact ax
 have go0:M0.get (na m 3)=some (.cells true [.nils]):=by rw[←hM0];exact ax
 have oc0:aC M0 (na m 0):=by rw[←hM0];exact ab (by omega)
 have ob0:aC M0 (na m 1):=by rw[←hM0];exact ab (by omega)
 have oe0:aC M0 (na m 2):=by rw[←hM0];exact ab (by omega)
 have oo0:aC M0 (na m 3):=by rw[←hM0];exact ab (by omega)
 have gm0:=(hC1.get hmo (by simp)).trans hm
 have om0:=hC1.old hmo
 generalize hM:hp [(.n 0,.cells true [v])] 1 M0=M
 have hC2:Chg [] M0 M:=by rw[←hM];exact an rfl
 have gz:M.get (na M0 0)=some (.cells true [v]):=by rw[←hM];exact ax
 have oz:aC M (na M0 0):=by rw[←hM];exact ab (by omega)
 have hCm:Chg [] m M:=hC1.trans hC2 (by simp)
 generalize ht:ak [(D4.e.b.b,NV.fn 97 [NV.ptr (na M0 0) 0]),(D4.e.b.a,v),(D4.e.a.b,NV.ptr (na m 3) 0),(D4.e.a.a,NV.ptr (na m 2) 0),(D4.e.f,NV.ptr (na m 1) 0),(D4.e.c,NV.ptr (na m 0) 0),(D4.e.a,NV.map mo),(D4.e,v)] NT.leaf=t
 have g1:NT.get D4.e.c t=some (.ptr (na m 0) 0):=by rw[←ht];simp (config:={maxSteps:=1000000}) (disch:=first|assumption|omega|exact ab (by omega)|exact aa (by assumption)|(simp only[ao]<;>omega)) only[go_sem,seval]
 have g2:NT.get D4.e.b.b t=some (.fn 97 [.ptr (na M0 0) 0]):=by rw[←ht];simp (config:={maxSteps:=1000000}) (disch:=first|assumption|omega|exact ab (by omega)|exact aa (by assumption)|(simp only[ao]<;>omega)) only[go_sem,seval]
 have g3:NT.get D4.e.f t=some (.ptr (na m 1) 0):=by rw[←ht];simp (config:={maxSteps:=1000000}) (disch:=first|assumption|omega|exact ab (by omega)|exact aa (by assumption)|(simp only[ao]<;>omega)) only[go_sem,seval]
 have g4:NT.get D4.e.a.a t=some (.ptr (na m 2) 0):=by rw[←ht];simp (config:={maxSteps:=1000000}) (disch:=first|assumption|omega|exact ab (by omega)|exact aa (by assumption)|(simp only[ao]<;>omega)) only[go_sem,seval]
 have g5:NT.get D4.e.a.b t=some (.ptr (na m 3) 0):=by rw[←ht];simp (config:={maxSteps:=1000000}) (disch:=first|assumption|omega|exact ab (by omega)|exact aa (by assumption)|(simp only[ao]<;>omega)) only[go_sem,seval]
 clear ht
 generalize hM1:hp [(.n 1,.loop 0 .none t [D4.e.b.c] eR eL),(.n 0,.defd true)] 2 M=M1
 have hG:Chg [] M M1:=by rw[←hM1];exact an rfl
 have oq:aC M1 (na M 1):=by rw[←hM1];exact ab (by omega)
 have om:aC M1 (na M 0):=by rw[←hM1];exact ab (by omega)
 have gq:M1.get (na M 1)=some (.loop 0 .none t [D4.e.b.c] eR eL):=by rw[←hM1];exact ax
 have gm:M1.get (na M 0)=some (.defd true):=by rw[←hM1];exact ax
 have hG2:Chg [] M0 M1:=hC2.trans hG (by simp)
 have hCm1:Chg [] m M1:=hCm.trans hG (by simp)
 have n01:∀{i:D4} {k:Nat},aC M0 i->i≠na M k:=fun h=>(hC2.old h).ne _
 have nm:∀{j k:Nat},j≠k->na m j≠na m k:=fun h e=>h (jF e)
 have hO:BdO (na M 1) (na m 3) (na m 1) (na m 2) (na m 0) mo M1:=by
  refine ⟨(n01 oo0).symm,(n01 ob0).symm,(n01 oe0).symm,nm (by omega),nm (by omega),nm (by omega),oq,hG2.old oo0,hG2.old ob0,hG2.old oe0,hG2.old oc0,hG2.old om0, ?_, ?_⟩
  ·simp only[List.mem_cons,List.not_mem_nil,or_false,not_or]
   exact ⟨n01 oc0,nm (by omega),nm (by omega),nm (by omega)⟩
  ·simp only[List.mem_cons,List.not_mem_nil,or_false,not_or]
   exact ⟨n01 om0,hmo.ne 3,hmo.ne 1,hmo.ne 2⟩
 have h0:∀S,Chg [na M 1,na m 3,na m 1,na m 2] M1 S->Chg [] m0 S:=fun S h=>(hC0.trans hCm1 (by simp)).trans h fun i hi ho=>by
  simp only[List.mem_cons,List.not_mem_nil,or_false] at hi
  rcases hi with rfl|rfl|rfl|rfl
  ·exact absurd (hCm.old (hC0.old ho)) aI
  ·exact absurd (hC0.old ho) aI
  ·exact absurd (hC0.old ho) aI
  ·exact absurd (hC0.old ho) aI
 have hY:=EN (T:=T) hO g1 g3 g4 g5 ((hG2.get oc0 (by simp)).trans gc0) ((hG2.get om0 (by simp)).trans gm0) h0
 obtain ⟨hA1,hA2⟩:=rj l
 obtain ⟨m',hr,F',⟨u,rfl,hC3,hq3,ho3,hb3,he3,hu3,-⟩,hC4,-⟩:=C6 hY (s:=(([],0),none)) (F:= [na M 1,na m 3,na m 1,na m 2]) (id:=na M0 0) ((hG.get oz (by simp)).trans gz) hS ⟨.nils,rfl,(Chg.refl M1).weak (by simp),gq,(hG2.get oo0 (by simp)).trans go0,(hG2.get ob0 (by simp)).trans gb0,(hG2.get oe0 (by simp)).trans ge0,bL.nil,by simp⟩ (Lj _ _ rfl (fun x hx=>by have:=hA1 x hx;omega) (by show 0+_<=_;omega)) (by omega)
 change m'.get _=some (.loop (Kw (jN Z l)) (LB (jN Z l)) _ _ _ _) at hq3
 change m'.get _=some (.cells true [ii (Jc (jN Z l))]) at hb3
 change m'.get _=some (.cells true [ii (GA (jN Z l))]) at he3
 have hst:Kw (jN Z l)≠1:=by cases jN Z l<;>simp[Kw]
 refine W.rangeJ g2 (hM1▸hr) hq3 hst ?_ (hC3.old oq)
 have gm3:m'.get (na M 0)=some (.defd true):=(hC3.get om (by
  simp only[List.mem_cons,List.not_mem_nil,or_false,not_or]
  exact ⟨fun e=>by have:=jF e;omega,fun e=>n01 oo0 e.symm,fun e=>n01 ob0 e.symm,fun e=>n01 oe0 e.symm⟩)).trans gm
 have om3:=hC3.old om
 have ob3:=hC3.old (hG2.old ob0)
 have oe3:=hC3.old (hG2.old oe0)
 have hne:na M 0≠na M 1:=fun e=>by have:=jF e;omega
 have n1:na m 1≠na M 1:=n01 ob0
 have n1':na m 1≠na M 0:=n01 ob0
 have n2:na m 2≠na M 1:=n01 oe0
 have n2':na m 2≠na M 0:=n01 oe0
 have n3:na m 1≠na m 2:=nm (by omega)
 have n3':na m 2≠na m 1:=nm (by omega)
 have fin:∀{S:List D4} {Me:NH},Chg S m' Me->(∀i∈S,i∈ [na M 1,na M 0,na m 1,na m 2])->Chg [] m Me:=by
  intro S Me hCe hS
  refine ((hCm1.weak (T:= [na M 1,na m 3,na m 1,na m 2,na M 0]) (by simp)).trans hC3 fun i h _=>by simp at h ⊢;rcases h with h|h|h|h<;>simp[h]).trans hCe (fun i h _=>by have:=hS i h;simp at this ⊢;rcases this with h|h|h|h<;>simp[h]) |>.weak fun i hi ho=> ?_
  simp only[List.mem_cons,List.not_mem_nil,or_false] at hi
  rcases hi with rfl|rfl|rfl|rfl|rfl
  ·exact absurd (hCm.old ho) aI
  ·exact absurd ho aI
  ·exact absurd ho aI
  ·exact absurd ho aI
  ·exact absurd (hCm.old ho) aI
 have n1s:=n1'.symm
 have n2s:=n2'.symm
 have n1t:=n1.symm
 have n2t:=n2.symm
 have hne':=hne.symm
 cases hb:jN Z l with
 |none=>
  rw[hb] at hb3 he3 hK
  change ip _ _ (Bw .none) ⟨ak [] t,_,_,_⟩
  simp (config:={maxSteps:=1000000}) (disch:=first|assumption|omega|exact ab (by omega)|exact aa (by assumption)|(simp only[ao]<;>omega)) only[go_sem,seval,Bw,g1,g3,g4,gm3,om3,hb3,he3]
  refine wT ?_
  rw[wz]
  simp (config:={maxSteps:=1000000}) (disch:=first|assumption|omega|exact ab (by omega)|exact aa (by assumption)|(simp only[ao]<;>omega)) only[go_sem,seval,g1,g3,g4,gm3,om3,hb3,he3,ob3,oe3]
  refine hK _ ?_
  generalize hMe:hp _ 0 m'=Me
  have hCe:Chg [na M 0,na m 2,na m 1,na M 1] m' Me:=by rw[←hMe];exact an rfl
  exact fin hCe (by simp)
 |some z=>
  obtain ⟨za,ze⟩:=z
  rw[hb] at hb3 he3 hK
  change ip _ _ (Bw .ret) ⟨ak [] t,_,_,_⟩
  simp (config:={maxSteps:=1000000}) (disch:=first|assumption|omega|exact ab (by omega)|exact aa (by assumption)|(simp only[ao]<;>omega)) only[go_sem,seval,Bw,g1,g3,g4,gm3,om3,hb3,he3]
  refine wT ?_
  rw[wz]
  simp (config:={maxSteps:=1000000}) (disch:=first|assumption|omega|exact ab (by omega)|exact aa (by assumption)|(simp only[ao]<;>omega)) only[go_sem,seval,g1,g3,g4,gm3,om3,hb3,he3,ob3,oe3]
  refine hK _ ?_
  generalize hMe:hp _ 0 m'=Me
  have hCe:Chg [na M 0,na M 1] m' Me:=by rw[←hMe];exact an rfl
  exact fin hCe (by simp)
end FR
open Go Nm Go.Proofs
namespace FR
set_option linter.unusedSimpArgs false
set_option linter.unusedVariables false
def p9 (Z:List (List Nat)) (r:List Stm):List (List Stm)->Int×Int
 | []=>(Jc (jN Z r),GA (jN Z r))
 |b::l=>if GA (jN Z b)≠0 then (Jc (jN Z b),GA (jN Z b)) else p9 Z r l
def Kc (p:Prg):List (List Nat):=(p.cs.map (·.1)).foldl cH []
def mn (p:Prg):Int×Int:=if ur p≠0 then (0,ur p) else p9 (Kc p) p.r (p.ts.map (·.2))
theorem KU {m:NH} {T:D4->Prop} {p:Prg} {vc vt vr:NV} (h:RP m T p vc vt vr) (hs:p.cs.length<=1000000/\p.ts.length<=1000000) (hz:∀t∈p.ts,cn t.2<=10000000) (hr:cn p.r<=10000000):
 ∃m',bI Try.prog S0 13 [.agg [vc,vt,vr]] m (.tup [ii (mn p).1,ii (mn p).2]) m'/\Chg [] m m':=by
 refine WF.ex1 fun K hK=> ?_
 refine WF.of_wpG (fun _=>rfl) yY (L:= [(.e,.agg [vc,vt,vr])]) rfl ?_
 unfold I3
 obtain ⟨hcs,hts⟩:=hs
 obtain ⟨Ct,hT⟩:=h.t
 obtain ⟨Cr,hR⟩:=h.r
 have hlc:=h.c.len
 rw[List.length_map] at hlc
 have hlt:=hT.sl.len
 rw[hT.len] at hlt
 generalize hM0:hp [(.n 0,.cells true [vc,vt,vr])] 1 m=M0
 have hC0:Chg [] m M0:=by rw[←hM0];exact an rfl
 have g0:M0.get (na m 0)=some (.cells true [vc,vt,vr]):=by rw[←hM0];exact ax
 have o0:aC M0 (na m 0):=by rw[←hM0];exact ab (by omega)
 obtain ⟨M1,hr1,hC1⟩:=Hu (h.stays (qW hC0 T)) ⟨hcs,hts⟩
 have g1:=(hC1.get o0 (by simp)).trans g0
 have o1:=hC1.old o0
 have hC01:Chg [] m M1:=hC0.trans hC1 (by simp)
 unfold mn at hK
 by_cases h0:ur p=0
 ·rw[h0] at hr1
  rw[if_neg (by simp[h0])] at hK
  simp (config:={maxSteps:=1000000}) (disch:=first|assumption|omega|exact ab (by omega)|exact aa (by assumption)|(simp only[ao]<;>omega)) only[go_sem,seval,hM0,g0,hr1.wf,g1,hlc]
  generalize hM2:hp _ 1 M1=M2
  have hC2:Chg [] M1 M2:=by rw[←hM2];exact an rfl
  have gm2:M2.get (na M1 0)=some (.map (fR [])):=by rw[←hM2];exact ax
  have om2:aC M2 (na M1 0):=by rw[←hM2];exact ab (by omega)
  have hC02:=hC01.trans hC2 (by simp)
  have g2:=(hC2.get o1 (by simp)).trans g1
  have o2:=hC2.old o1
  have hnm:na m 0≠na M1 0:=o1.ne 0
  refine W.loop (fun k d=>∃t M i,d=⟨t, [],none,M⟩/\NT.get D4.e.a t=some (.ptr (na m 0) 0)/\NT.get D4.e.a.a t=some (.map (na M1 0))/\NT.get D4.e.f.c t=some vc/\NT.get D4.e.f.f t=some (ii p.cs.length)/\NT.get D4.e.a.a.a t=some (ii (i:Nat))/\i+k=p.cs.length/\M.get (na M1 0)=some (.map (fR (((p.cs.map (·.1)).take i).foldl cH [])))/\Chg [na M1 0] M2 M) ?_ p.cs.length _ ⟨_,M2,0,rfl,by simp only[go_sem,seval],by simp only[go_sem,seval],by simp only[go_sem,seval],by simp only[go_sem,seval],by simp only[go_sem,seval]<;>rfl,by omega,gm2,(Chg.refl M2).weak (by simp)⟩
  rintro k d ⟨t,M,i,rfl,a1,a2,a3,a4,a5,hik,gm,hC⟩
  apply aK
  unfold yE
  change wp _ _ _ _ ⟨ak [] t, [],none,M⟩ _
  have omM:=hC.old om2
  have gM:=(hC.get o2 (by simpa using hnm)).trans g2
  have oM:=hC.old o2
  have hC0M:Chg [] m M:=hC02.trans hC fun i hi ho=>by
   simp only[List.mem_cons,List.not_mem_nil,or_false] at hi;subst hi;exact absurd (hC01.old ho) aI
  rw[←ai M]
  by_cases hi:i<p.cs.length
  ·obtain ⟨id,off,wr,c,b1,b2,b3,b4,b5⟩:=h.c.at i (by simpa using hi)
   rw[List.getElem_map] at b5
   have b2':=(hC0M.get b3 (by simp)).trans b2
   have b3':=hC0M.old b3
   have htk:(p.cs.map (·.1)).take (i+1)=(p.cs.map (·.1)).take i++ [p.cs[i].1]:=by
    rw[List.take_add_one,List.getElem?_map,List.getElem?_eq_getElem hi];rfl
   simp (config:={maxSteps:=1000000}) (disch:=first|assumption|omega|exact ab (by omega)|exact aa (by assumption)|(simp only[ao]<;>omega)) only[go_sem,seval,a1,a2,a3,a4,a5,b1,b2',b5,gm]
   generalize hM3:hp _ 1 M=M3
   have hC3:Chg [na M1 0] M M3:=by rw[←hM3];exact an rfl
   refine ⟨k - 1,by omega,_,M3,i+1,by rfl,by simp only[go_sem,seval,a1],by simp only[go_sem,seval,a2],by simp only[go_sem,seval,a3],by simp only[go_sem,seval,a4],by simp only[go_sem,seval]<;>rfl,by omega, ?_,hC.trans hC3 fun _ h _=>h⟩
   rw[htk,List.foldl_append,←hM3]
   exact (aQ omM).trans ay
  ·rw[List.take_of_length_le (by simp;omega)] at gm
   simp (config:={maxSteps:=1000000}) (disch:=first|assumption|omega|exact ab (by omega)|exact aa (by assumption)|(simp only[ao]<;>omega)) only[go_sem,seval,a1,a2,a3,a4,a5,gM,hlt,ai]
   generalize hZ:Kc p=Z at hK
   rw[show (p.cs.map (·.1)).foldl cH []=Z from hZ] at gm
   refine W.loop (fun k d=>∃t N i,d=⟨t, [],none,N⟩/\NT.get D4.e.a t=some (.ptr (na m 0) 0)/\NT.get D4.e.a.a t=some (.map (na M1 0))/\NT.get D4.e.a.c.b t=some vt/\NT.get D4.e.a.c.c t=some (ii p.ts.length)/\NT.get D4.e.a.c.f t=some (ii (i:Nat))/\i+k=p.ts.length/\p9 Z p.r ((p.ts.map (·.2)).drop i)=p9 Z p.r (p.ts.map (·.2))/\Chg [] M N) ?_ p.ts.length _ ⟨_,M,0,rfl,by simp only[go_sem,seval,a1],by simp only[go_sem,seval,a2],by simp only[go_sem,seval],by simp only[go_sem,seval],by simp only[go_sem,seval]<;>rfl,by omega,rfl,Chg.refl M⟩
   clear a1 a2 a3 a4 a5 hik
   rintro k d ⟨t,N,i,rfl,a1,a2,a3,a4,a5,hik,hE,hC⟩
   apply aK
   unfold yr
   change wp _ _ _ _ ⟨ak [] t, [],none,N⟩ _
   have gN:=(hC.get oM (by simp)).trans gM
   have hC0N:=hC0M.trans hC (by simp)
   have gmN:=(hC.get omM (by simp)).trans gm
   have omN:=hC.old omM
   rw[←ai N]
   by_cases hi:i<p.ts.length
   ·obtain ⟨vb,B,id,off,wr,c,hSb,b1,b2,b3,b4,b5⟩:=hT.at i hi
    have b2':=(hC0N.get b3 (by simp)).trans b2
    have b3':=hC0N.old b3
    have hzi:=hz _ (List.getElem_mem hi)
    rw[List.drop_eq_getElem_cons (by simpa using hi),List.getElem_map,p9] at hE
    simp (config:={maxSteps:=1000000}) (disch:=first|assumption|omega|exact ab (by omega)|exact aa (by assumption)|(simp only[ao]<;>omega)) only[go_sem,seval,a1,a2,a3,a4,a5,b1,b2',b5]
    generalize hN1:hp _ 1 N=N1
    have hC1':Chg [] N N1:=by rw[←hN1];exact an rfl
    obtain ⟨N2,hr2,hC2'⟩:=Gl hSb (hC0N.trans hC1' (by simp)) ((hC1'.get omN (by simp)).trans gmN) (hC1'.old omN) hzi
    have hCN2:=hC1'.trans hC2' (by simp)
    by_cases he:GA (jN Z p.ts[i].2)=0
    ·rw[if_neg (by simp[he])] at hE
     rw[he] at hr2
     simp (config:={maxSteps:=1000000}) (disch:=first|assumption|omega|exact ab (by omega)|exact aa (by assumption)|(simp only[ao]<;>omega)) only[go_sem,seval,hr2.wf',a1,a2,a3,a4,a5]
     exact ⟨k - 1,by omega,_,N2,i+1,by rfl,by simp only[go_sem,seval,a1],by simp only[go_sem,seval,a2],by simp only[go_sem,seval,a3],by simp only[go_sem,seval,a4],by simp only[go_sem,seval]<;>rfl,by omega,hE,hC.trans hCN2 (by simp)⟩
    ·rw[if_pos he] at hE
     rw[←hE] at hK
     simp (config:={maxSteps:=1000000}) (disch:=first|assumption|omega|exact ab (by omega)|exact aa (by assumption)|(simp only[ao]<;>omega)) only[go_sem,seval,hr2.wf',a1,a2,a3,a4,a5,he]
     exact hK _ (hC0N.trans hCN2 (by simp))
   ·rw[List.drop_of_length_le (by simp;omega),p9] at hE
    rw[←hE] at hK
    obtain ⟨N2,hr2,hC2'⟩:=Gl hR hC0N gmN omN hr
    simp (config:={maxSteps:=1000000}) (disch:=first|assumption|omega|exact ab (by omega)|exact aa (by assumption)|(simp only[ao]<;>omega)) only[go_sem,seval,a1,a2,a3,a4,a5,gN,ai,hr2.wf']
    exact hK _ (hC0N.trans hC2' (by simp))
 ·rw[if_pos h0] at hK
  simp (config:={maxSteps:=1000000}) (disch:=first|assumption|omega|exact ab (by omega)|exact aa (by assumption)|(simp only[ao]<;>omega)) only[go_sem,seval,hM0,g0,hr1.wf',h0]
  exact hK _ hC01
end FR
open Go Nm Go.Proofs
namespace FR
set_option linter.unusedSimpArgs false
set_option linter.unusedVariables false
end FR
open Go Nm Go.Proofs
namespace FR
set_option linter.unusedSimpArgs false
set_option linter.unusedVariables false
end FR
