/- Contracts of functions that the law AssignEnough reaches, part 0. -/
import Derived.Test.YtcpilcplobihkaaAec
set_option linter.unusedSimpArgs false
set_option linter.unusedVariables false
open Go Nm Go.Proofs
namespace FR
theorem one {a b:D4} (h:a∈ [b]):a=b:=by simpa using h
section
variable {l:List (AK×NO)} {k j:Nat} {m M:NH} {id:D4} {o:NO} {S:List D4}
theorem xD (h:hp l k m=M) (hs:iC l=S):Chg S m M:=by rw[←h];exact sG hs
theorem qV (h:hp l k m=M) (hj:j<k):bk M (na m j):=by rw[←h];exact aj hj
theorem qf (h:hp l k m=M):M.get (na m j)=ig j l (m.get (na m j)):=by rw[←h];exact lh
end
abbrev u8 (c:Nat):NV:= .int .u8 (.lit (c:Int))
abbrev u64 (n:Nat):NV:= .int .u64 (.lit (n:Int))
inductive Ex where
 |mk (k:Int) (n o:Nat) (s:List Nat) (ks:List Ex)
inductive Stm where
 |mk (k a:Int) (nm ce:List Nat) (i x y:Ex) (b e:List Stm)
inductive RE (m:NH) (T:D4->Prop):Ex->List NV->Prop
 |mk {k:Int} {n o:Nat} {s:List Nat} {ks:List Ex} {v:NV} {C:List (List NV)} (hv:Sl m v 5 C) (hT:∀i∈ids v,T i) (hl:C.length=ks.length) (h:∀(i:Nat) (x:Ex) (c:List NV),ks[i]? =some x->C[i]? =some c->RE m T x c):
  RE m T (.mk k n o s ks) [ii k,u64 n,u8 o,.str s,v]
inductive RS (m:NH) (T:D4->Prop):Stm->List NV->Prop
 |mk {k a:Int} {nm ce:List Nat} {i x y:Ex} {b e:List Stm} {ci cx cy:List NV} {vb ve:NV} {B E:List (List NV)} (hi:RE m T i ci) (hx:RE m T x cx) (hy:RE m T y cy)
  (hb:Sl m vb 21 B) (hbT:∀i∈ids vb,T i) (hbl:B.length=b.length) (hbR:∀(j:Nat) (s:Stm) (c:List NV),b[j]? =some s->B[j]? =some c->RS m T s c)
  (he:Sl m ve 21 E) (heT:∀i∈ids ve,T i) (hel:E.length=e.length) (heR:∀(j:Nat) (s:Stm) (c:List NV),e[j]? =some s->E[j]? =some c->RS m T s c):
  RS m T (.mk k a nm ce i x y b e) ([ii k,ii a,.str nm,.str ce]++ci++cx++cy++ [vb,ve])
def wu (T:D4->Prop) (m m':NH):Prop:=∀i,T i->bk m i->m'.get i=m.get i/\bk m' i
theorem wu.of {S:List D4} {m m':NH} {T:D4->Prop} (h:Chg S m m') (hT:∀i,T i->i∉S):wu T m m':=fun i hi ho=>⟨h.get ho (hT i hi),h.old ho⟩
theorem RE.weak {m:NH} {T T':D4->Prop} (hT':∀i,T i->T' i) {x:Ex} {c:List NV} (h:RE m T x c):RE m T' x c:=by
 induction h with
 |mk hv hT hl h ih=>exact .mk hv (fun i hi=>hT' i (hT i hi)) hl ih
theorem RS.weak {m:NH} {T T':D4->Prop} (hT':∀i,T i->T' i) {x:Stm} {c:List NV} (h:RS m T x c):RS m T' x c:=by
 induction h with
 |mk hi hx hy hb hbT hbl hbR he heT hel heR ih1 ih2=>exact .mk (hi.weak hT') (hx.weak hT') (hy.weak hT') hb (fun i q=>hT' i (hbT i q)) hbl ih1 he (fun i q=>hT' i (heT i q)) hel ih2
structure SE (m:NH) (T:D4->Prop) (v:NV) (l:List Ex) (C:List (List NV)):Prop where
 sl:Sl m v 5 C
 hT:∀i∈ids v,T i
 len:C.length=l.length
 R:∀(i:Nat) (x:Ex) (c:List NV),l[i]? =some x->C[i]? =some c->RE m T x c
structure SS (m:NH) (T:D4->Prop) (v:NV) (l:List Stm) (C:List (List NV)):Prop where
 sl:Sl m v 21 C
 hT:∀i∈ids v,T i
 len:C.length=l.length
 R:∀(i:Nat) (x:Stm) (c:List NV),l[i]? =some x->C[i]? =some c->RS m T x c
theorem RE.inv {m:NH} {T:D4->Prop} {k:Int} {n o:Nat} {s:List Nat} {ks:List Ex} {c:List NV} (h:RE m T (.mk k n o s ks) c):∃v C,c= [ii k,u64 n,u8 o,.str s,v]/\SE m T v ks C:=by
 cases h with
 |mk hv hT hl h=>exact ⟨_,_,rfl,hv,hT,hl,h⟩
theorem RE.of {m:NH} {T:D4->Prop} {k:Int} {n o:Nat} {s:List Nat} {ks:List Ex} {v:NV} {C:List (List NV)} (h:SE m T v ks C):RE m T (.mk k n o s ks) [ii k,u64 n,u8 o,.str s,v]:= .mk h.sl h.hT h.len h.R
theorem RE.len {m:NH} {T:D4->Prop} {x:Ex} {c:List NV} (h:RE m T x c):c.length=5:=by cases h;rfl
theorem RS.len {m:NH} {T:D4->Prop} {x:Stm} {c:List NV} (h:RS m T x c):c.length=21:=by
 cases h with
 |mk hi hx hy=>simp[hi.len,hx.len,hy.len]
def Ex.k:Ex->Int| .mk k _ _ _ _=>k
def Ex.n:Ex->Nat| .mk _ n _ _ _=>n
def Ex.o:Ex->Nat| .mk _ _ o _ _=>o
def Ex.s:Ex->List Nat| .mk _ _ _ s _=>s
def Ex.ks:Ex->List Ex| .mk _ _ _ _ ks=>ks
abbrev Ex.l (x:Ex) (v:NV):List NV:= [ii x.k,u64 x.n,u8 x.o,.str x.s,v]
theorem RE.inv' {m:NH} {T:D4->Prop} {x:Ex} {c:List NV} (h:RE m T x c):∃v C,c=x.l v/\SE m T v x.ks C:=by
 cases x;exact h.inv
theorem RS.inv {m:NH} {T:D4->Prop} {k a:Int} {nm ce:List Nat} {i x y:Ex} {b e:List Stm} {c:List NV} (h:RS m T (.mk k a nm ce i x y b e) c):
 ∃vi vx vy vb ve B E,c= [ii k,ii a,.str nm,.str ce,ii i.k,u64 i.n,u8 i.o,.str i.s,vi,ii x.k,u64 x.n,u8 x.o,.str x.s,vx,ii y.k,u64 y.n,u8 y.o,.str y.s,vy,vb,ve]/\
  RE m T i (i.l vi)/\RE m T x (x.l vx)/\RE m T y (y.l vy)/\SS m T vb b B/\SS m T ve e E:=by
 cases h with
 |mk hi hx hy hb hbT hbl hbR he heT hel heR=>
  obtain ⟨vi,Ci,rfl,-⟩:=hi.inv'
  obtain ⟨vx,Cx,rfl,-⟩:=hx.inv'
  obtain ⟨vy,Cy,rfl,-⟩:=hy.inv'
  exact ⟨vi,vx,vy,_,_,_,_,rfl,hi,hx,hy,⟨hb,hbT,hbl,hbR⟩,⟨he,heT,hel,heR⟩⟩
theorem SE.at {m:NH} {T:D4->Prop} {v:NV} {l:List Ex} {C:List (List NV)} (h:SE m T v l C) (i:Nat) (hi:i<l.length):∃c,C[i]? =some c/\RE m T l[i] c:=by
 have hc:i<C.length:=by rw[h.len];exact hi
 exact ⟨C[i],List.getElem?_eq_getElem hc,h.R i _ _ (List.getElem?_eq_getElem hi) (List.getElem?_eq_getElem hc)⟩
theorem SS.at {m:NH} {T:D4->Prop} {v:NV} {l:List Stm} {C:List (List NV)} (h:SS m T v l C) (i:Nat) (hi:i<l.length):∃c,C[i]? =some c/\RS m T l[i] c:=by
 have hc:i<C.length:=by rw[h.len];exact hi
 exact ⟨C[i],List.getElem?_eq_getElem hc,h.R i _ _ (List.getElem?_eq_getElem hi) (List.getElem?_eq_getElem hc)⟩
structure SV where
 (vi vx vy vb ve:NV)
def Stm.k:Stm->Int| .mk k _ _ _ _ _ _ _ _=>k
def Stm.a:Stm->Int| .mk _ a _ _ _ _ _ _ _=>a
def Stm.nm:Stm->List Nat| .mk _ _ s _ _ _ _ _ _=>s
def Stm.ce:Stm->List Nat| .mk _ _ _ s _ _ _ _ _=>s
def Stm.i:Stm->Ex| .mk _ _ _ _ x _ _ _ _=>x
def Stm.x:Stm->Ex| .mk _ _ _ _ _ x _ _ _=>x
def Stm.y:Stm->Ex| .mk _ _ _ _ _ _ x _ _=>x
def Stm.b:Stm->List Stm| .mk _ _ _ _ _ _ _ b _=>b
def Stm.e:Stm->List Stm| .mk _ _ _ _ _ _ _ _ e=>e
abbrev Stm.l (s:Stm) (w:SV):List NV:= [ii s.k,ii s.a,.str s.nm,.str s.ce,ii s.i.k,u64 s.i.n,u8 s.i.o,.str s.i.s,w.vi,ii s.x.k,u64 s.x.n,u8 s.x.o,.str s.x.s,w.vx,ii s.y.k,u64 s.y.n,u8 s.y.o,.str s.y.s,w.vy,w.vb,w.ve]
noncomputable def S0:Nat->List NV->Option NV:=zF 29 [] (.bool true)<|Ah
end FR
namespace FR
section
variable {k:Int->Int}
def cI (k:Int->Int) (d:Array Int) (a b:Nat):Prop:=∀i j (hi:i<d.size) (hj:j<d.size),a<=i->i<j->j<b->k d[i]<=k d[j]
theorem cI.sub {d:Array Int} {a b a' b':Nat} (h:cI k d a b) (h1:a<=a') (h2:b'<=b):cI k d a' b':=fun i j hi hj q1 q2 q3=>h i j hi hj (by omega) q2 (by omega)
theorem cI.one {d:Array Int} {a b:Nat} (h:b<=a+1):cI k d a b:=fun i j hi hj q1 q2 q3=>by omega
structure Sam (d d':Array Int) (a b:Nat):Prop where
 n:d'.size=d.size
 p:d'.Perm d
 o:∀i (hi:i<d.size) (hi':i<d'.size),i<a∨b<=i->d'[i]=d[i]
theorem Sam.refl (d:Array Int) (a b:Nat):Sam d d a b:=⟨rfl,Array.Perm.refl d,fun _ _ _ _=>rfl⟩
theorem Sam.trans {d d' d'':Array Int} {a b:Nat} (h:Sam d d' a b) (h':Sam d' d'' a b):Sam d d'' a b:=
 ⟨h'.n.trans h.n,h'.p.trans h.p,fun i hi hi' q=>(h'.o i (by rw[h.n];exact hi) hi' q).trans (h.o i hi (by rw[h.n];exact hi) q)⟩
theorem Sam.wide {d d':Array Int} {a b a' b':Nat} (h:Sam d d' a b) (h1:a'<=a) (h2:b<=b'):Sam d d' a' b':=⟨h.n,h.p,fun i hi hi' q=>h.o i hi hi' (by omega)⟩
theorem Sam.swap {d:Array Int} {i j a b:Nat} (hi:i<d.size) (hj:j<d.size) (h1:a<=i/\i<b) (h2:a<=j/\j<b):Sam d (d.swap i j hi hj) a b:=
 ⟨by simp,Array.swap_perm hi hj,fun x hx hx' q=>by rw[Array.getElem_swap];rw[Bk (by omega),Bk (by omega)]⟩
theorem Sam.srt {d d':Array Int} {a b x y:Nat} (h:Sam d d' a b) (hs:cI k d x y) (hq:y<=a∨b<=x):cI k d' x y:=fun i j hi hj q1 q2 q3=>by
 have e1:=h.o i (by rw[←h.n];exact hi) hi (by omega)
 have e2:=h.o j (by rw[←h.n];exact hj) hj (by omega)
 rw[e1,e2]
 exact hs i j _ _ q1 q2 q3
end
end FR
namespace FR
section
variable {k:Int->Int}
def yR (k:Int->Int) (d:Array Int) (a j i:Nat):Prop:=∀x y (hx:x<d.size) (hy:y<d.size),a<=x->x<y->y<=i->y≠j->k d[x]<=k d[y]
theorem qh {d:Array Int} {a i:Nat} (h:cI k d a i):yR k d a i i:=fun x y hx hy q1 q2 q3 q4=>h x y hx hy q1 q2 (by omega)
theorem rQ {d:Array Int} {a j i:Nat} (h:yR k d a j i) (hj:j<d.size) (ha:a<j) (hi:j<=i) (hlt:k d[j]<k d[j - 1]):yR k (d.swap j (j - 1) hj (by omega)) a (j - 1) i:=by
 intro x y hx hy q1 q2 q3 q4
 simp only[Array.size_swap] at hx hy
 rw[Array.getElem_swap,Array.getElem_swap]
 by_cases y1:y=j
 ·subst y1
  rw[Bl rfl]
  by_cases x1:x=y - 1
  ·rw[Bk (by omega),Bl x1];omega
  ·rw[Bk (by omega),Bk x1]
   exact h x (y - 1) _ _ q1 (by omega) (by omega) (by omega)
 ·rw[Bk y1,Bk q4]
  by_cases x1:x=j
  ·subst x1
   rw[Bl rfl]
   exact h (x - 1) y _ _ (by omega) (by omega) q3 y1
  ·rw[Bk x1]
   by_cases x2:x=j - 1
   ·rw[Bl x2]
    exact h j y _ _ (by omega) (by omega) q3 y1
   ·rw[Bk x2]
    exact h x y _ _ q1 q2 q3 y1
theorem pW {d:Array Int} {a j i:Nat} (h:yR k d a j i) (hj:j<d.size) (he:j=a∨(a<j/\k d[j - 1]<=k d[j])):cI k d a (i+1):=by
 intro x y hx hy q1 q2 q3
 by_cases y1:y=j
 ·rcases he with e|⟨e1,e2⟩
  ·omega
  ·subst y1
   by_cases x1:x=y - 1
   ·subst x1;exact e2
   ·have:=h x (y - 1) hx (by omega) q1 (by omega) (by omega) (by omega)
    omega
 ·exact h x y hx hy q1 q2 (by omega) y1
structure Up (k:Int->Int) (d0 d:Array Int) (a c b:Nat):Prop where
 s:Sam d0 d a b
 l:∀x (hx:x<d.size) (hx':x+1<d0.size),a<=x->x<c->d[x]=d0[x+1]
 m:∀(hc:c<d.size) (ha:a<d0.size),d[c]=d0[a]
 r:∀x (hx:x<d.size) (hx':x<d0.size),c<x->d[x]=d0[x]
theorem rD {d:Array Int} {a b:Nat}:Up k d d a a b:=⟨Sam.refl d a b,fun _ _ _ _ _=>by omega,fun _ _=>rfl,fun _ _ _ _=>rfl⟩
theorem uK {d0 d:Array Int} {a c b:Nat} (h:Up k d0 d a c b) (ha:a<=c) (hc:c+1<d.size) (hb:c+1<b):Up k d0 (d.swap c (c+1) (by omega) hc) a (c+1) b:=by
 have hn:=h.s.n
 refine ⟨h.s.trans (Sam.swap _ _ (by omega) (by omega)),fun x hx hx' q1 q2=> ?_,fun hc' ha'=> ?_,fun x hx hx' q=> ?_⟩
 ·simp only[Array.size_swap] at hx
  rw[Array.getElem_swap]
  by_cases e:x=c
  ·rw[Bl e];subst e;exact h.r (x+1) _ _ (by omega)
  ·rw[Bk e,Bk (by omega)];exact h.l x hx hx' q1 (by omega)
 ·rw[Array.getElem_swap,Bk (by omega),Bl rfl];exact h.m _ ha'
 ·simp only[Array.size_swap] at hx
  rw[Array.getElem_swap,Bk (by omega),Bk (by omega)];exact h.r x hx hx' (by omega)
theorem xI {d0 d:Array Int} {a i b:Nat} (hb:b<=d0.size) (h:Up k d0 d a (i - 1) b) (hs:cI k d0 (a+1) b) (h1:a+1<=i/\i<=b) (hl:i=a+1∨∃(q:i - 1<d0.size) (q':a<d0.size),k d0[i - 1]<k d0[a]) (hr:i=b∨∃(q:i<d0.size) (q':a<d0.size),k d0[a]<=k d0[i]):cI k d a b:=by
 have hn:=h.s.n
 intro x y hx hy q1 q2 q3
 have hA:∀z (hz:z<d.size),a<=z->z<i - 1->k d[z]<=k (d0[a]'(by omega)):=fun z hz z1 z2=>by
  rw[h.l z hz (by omega) z1 z2]
  rcases hl with e|⟨q,q',e⟩
  ·omega
  ·by_cases w:z+1=i - 1
   ·have:d0[z+1]'(by omega)=d0[i - 1]:=by congr 1
    rw[this];omega
   ·have:=hs (z+1) (i - 1) (by omega) q (by omega) (by omega) (by omega)
    omega
 have hR:∀z (hz:z<d.size),i - 1<z->z<b->k (d0[a]'(by omega))<=k d[z]:=fun z hz z1 z2=>by
  rw[h.r z hz (by omega) z1]
  rcases hr with e|⟨q,q',e⟩
  ·omega
  ·by_cases w:z=i
   ·subst w;exact e
   ·have:=hs i z q (by omega) (by omega) (by omega) z2
    omega
 by_cases x1:x<i - 1
 ·by_cases y1:y<i - 1
  ·rw[h.l x hx (by omega) q1 x1,h.l y hy (by omega) (by omega) y1]
   exact hs _ _ _ _ (by omega) (by omega) (by omega)
  ·by_cases y2:y=i - 1
   ·subst y2;rw[h.m hy (by omega)];exact hA x hx q1 x1
   ·have e1:=hA x hx q1 x1
    have e2:=hR y hy (by omega) q3
    omega
 ·by_cases x2:x=i - 1
  ·subst x2;rw[h.m hx (by omega)];exact hR y hy (by omega) q3
  ·rw[h.r x hx (by omega) (by omega),h.r y hy (by omega) (by omega)]
   exact hs _ _ _ _ (by omega) q2 q3
structure Dn (k:Int->Int) (d0 d:Array Int) (a c b:Nat):Prop where
 s:Sam d0 d a b
 l:∀x (hx:x<d.size) (hx':x<d0.size),x<c->d[x]=d0[x]
 m:∀(hc:c<d.size) (hb:b - 1<d0.size),d[c]=d0[b - 1]
 r:∀x (hx:x<d.size) (hx':x - 1<d0.size),c<x->x<b->d[x]=d0[x - 1]
theorem sS {d:Array Int} {a b:Nat}:Dn k d d a (b - 1) b:=⟨Sam.refl d a b,fun _ _ _ _=>rfl,fun _ _=>rfl,fun _ _ _ _ _=>by omega⟩
theorem uI {d0 d:Array Int} {a c b:Nat} (h:Dn k d0 d a c b) (ha:a<c) (hc:c<d.size) (hb:c<b):Dn k d0 (d.swap c (c - 1) hc (by omega)) a (c - 1) b:=by
 have hn:=h.s.n
 refine ⟨h.s.trans (Sam.swap _ _ (by omega) (by omega)),fun x hx hx' q=> ?_,fun hc' hb'=> ?_,fun x hx hx' q1 q2=> ?_⟩
 ·simp only[Array.size_swap] at hx
  rw[Array.getElem_swap,Bk (by omega),Bk (by omega)];exact h.l x hx hx' (by omega)
 ·rw[Array.getElem_swap,Bk (by omega),Bl rfl];exact h.m _ hb'
 ·simp only[Array.size_swap] at hx
  rw[Array.getElem_swap]
  by_cases e:x=c
  ·rw[Bl e];subst e;exact h.l (x - 1) _ _ (by omega)
  ·rw[Bk e,Bk (by omega)];exact h.r x hx hx' (by omega) q2
def yq (k:Int->Int) (d:Array Int) (z:Nat) (P:Int->Prop):Prop:=∃q:z<d.size,P (k d[z])
theorem xh {d0 d:Array Int} {a i b:Nat} {v:Int} (hb:b<=d0.size) (h:Dn k d0 d a i b) (hs:cI k d0 a (b - 1)) (h1:a<=i/\i<=b - 1/\a<b) (hv:∀q:b - 1<d0.size,k d0[b - 1]=v) (hl:i=a∨yq k d0 (i - 1) (·<=v)) (hr:i=b - 1∨yq k d0 i (v<·)):cI k d a b:=by
 have hn:=h.s.n
 intro x y hx hy q1 q2 q3
 have hbq:b - 1<d0.size:=by omega
 have hM:∀(hc:i<d.size),k d[i]=v:=fun hc=>by rw[h.m hc hbq];exact hv hbq
 clear hv
 have hA:∀z (hz:z<d.size),a<=z->z<i->k d[z]<=v:=fun z hz z1 z2=>by
  rw[h.l z hz (by omega) z2]
  rcases hl with e|⟨q,e⟩
  ·omega
  ·by_cases w:z=i - 1
   ·subst w;exact e
   ·exact Int.le_trans (hs z (i - 1) (by omega) q z1 (by omega) (by omega)) e
 have hR:∀z (hz:z<d.size),i<z->z<b->v<=k d[z]:=fun z hz z1 z2=>by
  rw[h.r z hz (by omega) z1 z2]
  rcases hr with e|⟨q,e⟩
  ·omega
  ·by_cases w:z - 1=i
   ·have e2:d0[z - 1]'(by omega)=d0[i]:=by congr 1
    rw[e2];exact Int.le_of_lt e
   ·exact Int.le_trans (Int.le_of_lt e) (hs i (z - 1) q (by omega) (by omega) (by omega) (by omega))
 by_cases x1:x<i
 ·by_cases y1:y<i
  ·rw[h.l x hx (by omega) x1,h.l y hy (by omega) y1]
   exact hs _ _ _ _ (by omega) (by omega) (by omega)
  ·by_cases y2:y=i
   ·subst y2;rw[hM hy];exact hA x hx q1 x1
   ·exact Int.le_trans (hA x hx q1 x1) (hR y hy (by omega) q3)
 ·by_cases x2:x=i
  ·subst x2;rw[hM hx];exact hR y hy (by omega) q3
  ·rw[h.r x hx (by omega) (by omega) (by omega),h.r y hy (by omega) (by omega) q3]
   exact hs _ _ _ _ (by omega) (by omega) (by omega)
end
end FR
namespace FR
def gt (d:Array Int) (x:Nat):Int:=if h:x<d.size then d[x] else 0
theorem b9 {d:Array Int} {x:Nat} (h:x<d.size):gt d x=d[x]:=by unfold gt;rw[dif_pos h]
theorem dd (d:Array Int) {x y:Nat} (h:x=y):gt d x=gt d y:=by rw[h]
theorem Sam.g {d d':Array Int} {a b:Nat} (h:Sam d d' a b) {x:Nat} (q:x<a∨b<=x):gt d' x=gt d x:=by
 unfold gt
 have:=h.n
 by_cases hx:x<d.size
 ·rw[dif_pos hx,dif_pos (by omega)];exact h.o x hx (by omega) q
 ·rw[dif_neg hx,dif_neg (by omega)]
theorem lL {d:Array Int} {i j x:Nat} (hi:i<d.size) (hj:j<d.size):gt (d.swap i j hi hj) x=if x=i then gt d j else if x=j then gt d i else gt d x:=by
 by_cases hx:x<d.size
 ·rw[b9 (by simpa using hx),Array.getElem_swap]
  split
  ·rw[b9 hj]
  split
  ·rw[b9 hi]
  ·rw[b9 hx]
 ·unfold gt
  rw[dif_neg (by simpa using hx),Bk (by omega),Bk (by omega),dif_neg hx]
structure Swr (d d1:Array Int) (x y n t:Nat):Prop where
 s:Sam d d1 x (y+n)
 l:∀u,u<t->gt d1 (x+u)=gt d (y+u)
 r:∀u,u<t->gt d1 (y+u)=gt d (x+u)
 o:∀z,(z<x∨x+t<=z)->(z<y∨y+t<=z)->gt d1 z=gt d z
theorem qm (d:Array Int) (x y n:Nat):Swr d d x y n 0:=⟨Sam.refl _ _ _,fun u h=>by omega,fun u h=>by omega,fun _ _ _=>rfl⟩
theorem tT {d d1:Array Int} {x y n t:Nat} (h:Swr d d1 x y n t) (hxy:x+n<=y) (ht:t<n) (hy:y+n<=d.size):Swr d (d1.swap (x+t) (y+t) (by have:=h.s.n;omega) (by have:=h.s.n;omega)) x y n (t+1):=by
 have hn:=h.s.n
 refine ⟨h.s.trans (Sam.swap _ _ (by omega) (by omega)),fun u hu=> ?_,fun u hu=> ?_,fun z q1 q2=> ?_⟩
 ·rw[lL]
  by_cases e:u=t
  ·subst e;rw[Bl rfl];exact h.o _ (by omega) (by omega)
  ·rw[Bk (by omega),Bk (by omega)];exact h.l u (by omega)
 ·rw[lL]
  by_cases e:u=t
  ·subst e;rw[Bk (by omega),Bl rfl];exact h.o _ (by omega) (by omega)
  ·rw[Bk (by omega),Bk (by omega)];exact h.r u (by omega)
 ·rw[lL,Bk (by omega),Bk (by omega)]
  exact h.o z (by omega) (by omega)
structure Rot (d d':Array Int) (a m b:Nat):Prop where
 s:Sam d d' a b
 l:∀x,a<=x->x<a+(b - m)->gt d' x=gt d (x+(m - a))
 r:∀x,a+(b - m)<=x->x<b->gt d' x=gt d (x - (b - m))
theorem ui {d d1 d':Array Int} {m i j:Nat} (hi:i<=m) (hij:j<i) (h:Swr d d1 (m - i) m j j) (hR:Rot d1 d' (m - i+j) m (m+j)):Rot d d' (m - i) m (m+j):=by
 refine ⟨h.s.trans (hR.s.wide (by omega) (by omega)),fun x q1 q2=> ?_,fun x q1 q2=> ?_⟩
 ·rw[hR.s.g (by omega)]
  have:=h.l (x - (m - i)) (by omega)
  rw[dd d1 (show x=m - i+(x - (m - i)) by omega),this]
  exact dd d (by omega)
 ·by_cases q:x<m - i+j+(m+j - m)
  ·rw[hR.l x (by omega) q]
   have:=h.r (x+(i - j) - m) (by omega)
   rw[dd d1 (show x+(m - (m - i+j))=m+(x+(i - j) - m) by omega),this]
   exact dd d (by omega)
  ·rw[hR.r x (by omega) q2,h.o _ (by omega) (by omega)]
theorem sJ {d d1 d':Array Int} {m i j:Nat} (hi:i<=m) (hij:i<j) (h:Swr d d1 (m - i) (m+j - i) i i) (hR:Rot d1 d' (m - i) m (m+j - i)):Rot d d' (m - i) m (m+j):=by
 have e:m+j - i+i=m+j:=by omega
 have hs:=h.s
 rw[e] at hs
 refine ⟨hs.trans (hR.s.wide (by omega) (by omega)),fun x q1 q2=> ?_,fun x q1 q2=> ?_⟩
 ·by_cases q:x<m - i+(m+j - i - m)
  ·rw[hR.l x q1 q,h.o _ (by omega) (by omega)]
  ·rw[hR.r x (by omega) (by omega)]
   have:=h.l (x - (m+j - i - m) - (m - i)) (by omega)
   rw[dd d1 (show x - (m+j - i - m)=m - i+(x - (m+j - i - m) - (m - i)) by omega),this]
   exact dd d (by omega)
 ·rw[hR.s.g (by omega)]
  have:=h.r (x - (m+j - i)) (by omega)
  rw[dd d1 (show x=m+j - i+(x - (m+j - i)) by omega),this]
  exact dd d (by omega)
theorem tr {d d1:Array Int} {m i:Nat} (hi:i<=m) (h:Swr d d1 (m - i) m i i):Rot d d1 (m - i) m (m+i):=by
 refine ⟨h.s,fun x q1 q2=> ?_,fun x q1 q2=> ?_⟩
 ·have:=h.l (x - (m - i)) (by omega)
  rw[dd d1 (show x=m - i+(x - (m - i)) by omega),this]
  exact dd d (by omega)
 ·have:=h.r (x - m) (by omega)
  rw[dd d1 (show x=m+(x - m) by omega),this]
  exact dd d (by omega)
section
variable {k:Int->Int}
theorem cI.g {d:Array Int} {a b:Nat} (h:cI k d a b) (hb:b<=d.size) {i j:Nat} (q1:a<=i) (q2:i<=j) (q3:j<b):k (gt d i)<=k (gt d j):=by
 by_cases e:i=j
 ·subst e;exact Int.le_refl _
 ·rw[b9 (by omega),b9 (by omega)];exact h i j _ _ q1 (by omega) q3
theorem jm {d:Array Int} {a b:Nat} (h:∀i j,a<=i->i<j->j<b->k (gt d i)<=k (gt d j)):cI k d a b:=fun i j hi hj q1 q2 q3=>by
 have:=h i j q1 q2 q3
 rwa [b9 hi,b9 hj] at this
theorem vq {d:Array Int} {a m b:Nat} (hm:m<=b) (hb:b<=d.size) (h1:cI k d a m) (h2:cI k d m b) (h:∀i j,a<=i->i<m->m<=j->j<b->k (gt d i)<=k (gt d j)):cI k d a b:=by
 refine jm fun i j q1 q2 q3=> ?_
 by_cases w:j<m
 ·exact h1.g (by omega) q1 (by omega) w
 ·by_cases w2:i<m
  ·exact h i j q1 w2 (by omega) q3
  ·exact h2.g hb (by omega) (by omega) q3
theorem pE {d d':Array Int} {a b:Nat} (h:Sam d d' a b) (hb:b<=d.size) {P:Int->Prop} (hP:∀x,a<=x->x<b->P (gt d x)):∀x,a<=x->x<b->P (gt d' x):=by
 have hn:=h.n
 intro x q1 q2
 have hsp:∀l:List Int,l=l.take a++(((l.drop a).take (b - a))++l.drop b):=fun l=>by
  conv=>lhs;rw[←List.take_append_drop a l]
  congr 1
  conv=>lhs;rw[←List.take_append_drop (b - a) (l.drop a)]
  rw[List.drop_drop,show a+(b - a)=b by omega]
 have e1:d'.toList.take a=d.toList.take a:=by
  apply List.ext_getElem
  ·simp;omega
  ·intro z h1 h2
   simp only[List.length_take,Array.length_toList] at h1
   rw[List.getElem_take,List.getElem_take]
   exact h.o z (by omega) (by omega) (by omega)
 have e2:d'.toList.drop b=d.toList.drop b:=by
  apply List.ext_getElem
  ·simp;omega
  ·intro z h1 h2
   simp only[List.length_drop,Array.length_toList] at h1
   rw[List.getElem_drop,List.getElem_drop]
   exact h.o (b+z) (by omega) (by omega) (by omega)
 have hp:d'.toList.Perm d.toList:=by simpa [Array.perm_iff_toList_perm] using h.p
 rw[hsp d'.toList,hsp d.toList,e1,e2] at hp
 have hp:=(List.perm_append_right_iff _).1 ((List.perm_append_left_iff _).1 hp)
 have hx:x<d'.size:=by omega
 have hmem:gt d' x∈(d'.toList.drop a).take (b - a):=by
  rw[b9 hx]
  refine List.mem_iff_getElem.2 ⟨x - a,by simp;omega, ?_⟩
  rw[List.getElem_take,List.getElem_drop]
  simp only[Array.getElem_toList]
  congr 1;omega
 obtain ⟨y,hy,e⟩:=List.mem_iff_getElem.1 (hp.mem_iff.1 hmem)
 simp only[List.length_take,List.length_drop,Array.length_toList] at hy
 rw[List.getElem_take,List.getElem_drop,Array.getElem_toList] at e
 have:=hP (a+y) (by omega) (by omega)
 rw[b9 (by omega),e] at this
 exact this
end
end FR
namespace FR
section
variable {k:Int->Int}
theorem nk {d:Array Int} {a m b:Nat} (h1:a<=m/\m<=b) (h:a=m∨m=b):Rot d d a m b:=by
 refine ⟨Sam.refl _ _ _,fun x q1 q2=>dd d ?_,fun x q1 q2=>dd d ?_⟩<;>omega
structure Cut (k:Int->Int) (d:Array Int) (a m b mid start en:Nat):Prop where
 am:a<m/\m<b
 hm:mid=(a+b) / 2
 he:start+en=mid+m
 rng:(mid<m->mid+m<=start+b/\start<=mid)/\(m<=mid->a<=start/\start<=m)
 hl:(mid<m/\start+b=mid+m)∨(m<=mid/\start=a)∨k (gt d (start - 1))<=k (gt d en)
 hr:(mid<m/\start=mid)∨(m<=mid/\start=m)∨k (gt d (en - 1))<=k (gt d start)
theorem Cut.b {d:Array Int} {a m b mid start en:Nat} (h:Cut k d a m b mid start en):a<=start/\start<=mid/\start<=m/\m<=en/\mid<=en/\en<=b/\mid<b:=by
 have h1:=h.am;have h2:=h.hm;have h3:=h.he;have h4:=h.rng
 omega
structure Four (k:Int->Int) (d1:Array Int) (a start mid en b:Nat):Prop where
 s1:cI k d1 a start
 s2:cI k d1 start mid
 s3:cI k d1 mid en
 s4:cI k d1 en b
 le:∀i j,a<=i->i<mid->mid<=j->j<b->k (gt d1 i)<=k (gt d1 j)
theorem rC {d d1:Array Int} {a m b mid start en:Nat} (hb:b<=d.size) (hA:cI k d a m) (hB:cI k d m b) (h:Cut k d a m b mid start en) (hR:Rot d d1 start m en):Four k d1 a start mid en b:=by
 obtain ⟨b1,b2,b3,b4,b5,b6,b7⟩:=h.b
 have he:=h.he
 have ham:=h.am
 have f1:∀x,x<start->gt d1 x=gt d x:=fun x q=>hR.s.g (Or.inl q)
 have f2:∀x,start<=x->x<mid->gt d1 x=gt d (x+(m - start)):=fun x q1 q2=>hR.l x q1 (by omega)
 have f3:∀x,mid<=x->x<en->gt d1 x=gt d (x - (en - m)):=fun x q1 q2=>hR.r x (by omega) q2
 have f4:∀x,en<=x->gt d1 x=gt d x:=fun x q=>hR.s.g (Or.inr q)
 have gA:∀{i j:Nat},a<=i->i<=j->j<m->k (gt d i)<=k (gt d j):=fun q1 q2 q3=>hA.g (by omega) q1 q2 q3
 have gB:∀{i j:Nat},m<=i->i<=j->j<b->k (gt d i)<=k (gt d j):=fun q1 q2 q3=>hB.g hb q1 q2 q3
 refine ⟨jm fun i j q1 q2 q3=> ?_,jm fun i j q1 q2 q3=> ?_,jm fun i j q1 q2 q3=> ?_,jm fun i j q1 q2 q3=> ?_,fun i j q1 q2 q3 q4=> ?_⟩
 ·rw[f1 i (by omega),f1 j (by omega)];exact gA q1 (by omega) (by omega)
 ·rw[f2 i q1 (by omega),f2 j (by omega) q3];exact gB (by omega) (by omega) (by omega)
 ·rw[f3 i q1 (by omega),f3 j (by omega) q3];exact gA (by omega) (by omega) (by omega)
 ·rw[f4 i q1,f4 j (by omega)];exact gB (by omega) (by omega) q3
 ·by_cases i1:i<start
  ·rw[f1 i i1]
   by_cases j1:j<en
   ·rw[f3 j q3 j1];exact gA q1 (by omega) (by omega)
   ·rw[f4 j (by omega)]
    rcases h.hl with w|w|w
    ·omega
    ·omega
    ·exact Int.le_trans (gA q1 (show i<=start - 1 by omega) (by omega)) (Int.le_trans w (gB (by omega) (by omega) q4))
  ·rw[f2 i (by omega) q2]
   by_cases j1:j<en
   ·rw[f3 j q3 j1]
    rcases h.hr with w|w|w
    ·omega
    ·omega
    ·exact Int.le_trans (gB (by omega) (show i+(m - start)<=en - 1 by omega) (by omega)) (Int.le_trans w (gA (by omega) (by omega) (by omega)))
   ·rw[f4 j (by omega)];exact gB (by omega) (by omega) q4
theorem sB {d1 d2 d3:Array Int} {a start mid en b:Nat} (hb:b<=d1.size) (hmb:a<=mid/\mid<=b) (h:Four k d1 a start mid en b) (h2:Sam d1 d2 a mid) (s2:cI k d2 a mid) (h3:Sam d2 d3 mid b) (s3:cI k d3 mid b):cI k d3 a b:=by
 have n2:=h2.n
 have n3:=h3.n
 refine vq hmb.2 (by omega) (h3.srt s2 (Or.inl (Nat.le_refl _))) s3 fun i j q1 q2 q3 q4=> ?_
 rw[h3.g (Or.inl q2)]
 have key:∀i,a<=i->i<mid->∀j,mid<=j->j<b->k (gt d2 i)<=k (gt d2 j):=fun i p1 p2=>pE (P:=fun y=>∀j,mid<=j->j<b->k y<=k (gt d2 j)) h2 (by omega) (fun x p3 p4 j p5 p6=>by rw[h2.g (Or.inr p5)];exact h.le x j p3 p4 p5 p6) i p1 p2
 exact pE (P:=fun y=>k (gt d2 i)<=k y) h3 (by omega) (fun x p3 p4=>key i q1 q2 x p3 p4) j q3 q4
theorem ge {d:Array Int} {a s m:Nat} (h1:cI k d a s) (h2:cI k d s m) (h:¬(a<s/\s<m)) (hb:a<=s/\s<=m):cI k d a m:=by
 by_cases e:s=a
 ·subst e;exact h2
 ·have:s=m:=by omega
  subst this;exact h1
end
structure Dat (B m:NH) (v:NV) (d:Array Int):Prop where
 o:cr B m v 1 (d.toList.map fun z=> [ii z])
 c:Chg [] B m
 n:d.size<=100000
theorem ew {f:Int->NV} {B m:NH} {v:NV} {l:List Int} (h:cr B m v 1 (l.map fun z=> [f z])) {n:Nat} (hn:n<l.length):∃id off c,gO 1 v (ii (n:Nat))= .val (.ptr id off)/\ids v= [id]/\¬bk B id/\m.get id=some (.cells true c)/\bk m id/\off+1<=c.length/\c[off]? =some (f l[n])/\
 ∀(y:Int) (M:NH),M=m.put id (.cells true (c.set off (f y)))->cr B M v 1 ((l.set n y).map fun z=> [f z])/\Chg [id] m M:=by
 obtain ⟨id,off,c,a1,a2,a3,a4,a5,a6,a7,a8⟩:=h.at n (by simpa using hn)
 rw[List.getElem_map] at a7 a8
 refine ⟨id,off,c,a1,a2,a3,a4,a5,a6,cq a7 0 (by omega),fun y M hM=> ?_⟩
 have hM:M=hp [(.o id,.cells true (c.set off (f y)))] 0 m:=by rw[hM,←eo a5,aD]
 have hC:Chg [id] m M:=by rw[hM];exact (eH _ _ _).weak (by simp[iC])
 have ho:=a8 [(0,f y)] M (by simp) (by rw[hM];exact (dN a5).trans cC) (hC.old a5)
 have ho:cr B M v 1 ((l.map fun z=> [f z]).set n [f y]):=ho
 rw[←List.map_set (f:=fun z=> [f z])] at ho
 exact ⟨ho,hC⟩
section
variable {B m m':NH} {v fv:NV} {d:Array Int}
theorem Dat.swap (h:Dat B m v d) {i j:Nat} (hi:i<d.size) (hj:j<d.size):∃id off off' c,gO 1 v (ii (i:Nat))= .val (.ptr id off)/\gO 1 v (ii (j:Nat))= .val (.ptr id off')/\m.get id=some (.cells true c)/\c[off]? =some (ii d[i])/\c[off']? =some (ii d[j])/\(off+1<=c.length/\off'+1<=c.length)/\
 ∀M1,M1=m.put id (.cells true (c.set off (ii d[j])))->M1.get id=some (.cells true (c.set off (ii d[j])))/\∀M2,M2=M1.put id (.cells true ((c.set off (ii d[j])).set off' (ii d[i])))->Dat B M2 v (d.swap i j hi hj)/\Chg (ids v) m M2:=by
 obtain ⟨id,off,c,a1,a2,a3,a4,a5,a6,a7,a8⟩:=ew (f:=fun z=>ii z) h.o (n:=i) (by simpa using hi)
 obtain ⟨id',off',c',b1,b2,b3,b4,b5,b6,b7,-⟩:=ew (f:=fun z=>ii z) h.o (n:=j) (by simpa using hj)
 have e:id'=id:=by rw[a2] at b2;injection b2 with b2;exact b2.symm
 subst e
 rw[a4] at b4;cases b4
 refine ⟨id',off,off',c,a1,b1,a4,a7,b7,⟨a6,b6⟩,fun M1 hM1=> ?_⟩
 obtain ⟨o1,C1⟩:=a8 d[j] M1 hM1
 have g1:M1.get id'=some (.cells true (c.set off (ii d[j]))):=by
  rw[hM1,show m.put id' (.cells true (c.set off (ii d[j])))=hp [(.o id',.cells true (c.set off (ii d[j])))] 0 m by rw[←eo a5,aD]]
  exact (dN a5).trans cC
 refine ⟨g1,fun M2 hM2=> ?_⟩
 obtain ⟨id2,off2,c2,d1,d2,d3,d4,d5,d6,d7,d8⟩:=ew (f:=fun z=>ii z) o1 (n:=j) (by simpa using hj)
 rw[b1] at d1;cases d1
 rw[g1] at d4;cases d4
 obtain ⟨o2,C2⟩:=d8 d[i] M2 hM2
 have hid:∀x∈ [id'],x∈ids v:=fun x hx=>by have hx:=one hx;subst hx;rw[a2];simp
 refine ⟨⟨?_,(h.c.trans C1 fun x hx hb=>Bj hb (h.o.new x (hid x hx))).trans C2 fun x hx hb=>Bj hb (h.o.new x (hid x hx)),by simpa using h.n⟩,(C1.weak fun x hx _=>hid x hx).trans C2 fun x hx _=>hid x hx⟩
 have e:(d.swap i j hi hj).toList=(d.toList.set i d[j]).set j d[i]:=by simp[Array.toList_swap]
 rw[e]
 exact o2
theorem kY (h:Dat B m v d) {x y n:Nat} (hxy:x+n<=y) (hy:y+n<=d.size):
 ∃m',bX Try.prog S0 178 [v,ii (x:Nat),ii (y:Nat),ii (n:Nat),fv] m (.tup []) m'/\∃d',Dat B m' v d'/\Swr d d' x y n n/\Chg (ids v) m m':=by
 refine WF.ex1 fun K' hK'=> ?_
 refine WF.of_wpG (fun _=>rfl) nj (L:= [(.f .e,fv),(.c .e,ii (n:Nat)),(.b .e,ii (y:Nat)),(.a .e,ii (x:Nat)),(.e,v)]) rfl ?_
 unfold r7
 have hn0:=h.n
 simp (config:={maxSteps:=1000000}) (disch:=first|assumption|omega|(apply aj;omega)|(apply af;assumption)|(simp only[bf]<;>omega)) only[go_sem,seval,aD]
 refine W.loop (fun f q=>∃T M t d1,q=⟨T, [],none,M⟩/\NT.get D4.e T=some v/\NT.get D4.e.a T=some (ii (x:Nat))/\NT.get D4.e.b T=some (ii (y:Nat))/\NT.get D4.e.c T=some (ii (n:Nat))/\NT.get D4.e.b.b T=some (ii (t:Nat))/\t+f=n/\Dat B M v d1/\Swr d d1 x y n t/\Chg (ids v) m M) ?_ n _ ⟨_,m,0,d,rfl,by simp only[go_sem,seval],by simp only[go_sem,seval],by simp only[go_sem,seval],by simp only[go_sem,seval],by simp only[go_sem,seval]<;>rfl,by omega,h,qm d x y n,(Chg.refl m).weak (by simp)⟩
 rintro f q ⟨T,M,t,d1,rfl,t1,t2,t3,t4,t5,htf,hD,hS,hC⟩
 apply aI
 unfold nH
 change wp _ _ _ _ ⟨aq [] T, [],none,M⟩ _
 have hsz:=hS.s.n
 by_cases ht:t<n
 ·obtain ⟨id,off,off',c,a1,b1,g1,c1,c2,⟨l1,l2⟩,hsw⟩:=hD.swap (i:=x+t) (j:=y+t) (by omega) (by omega)
  have ex:((x+t:Nat):Int)=(x:Int)+t:=by omega
  have ey:((y+t:Nat):Int)=(y:Int)+t:=by omega
  rw[ex] at a1
  rw[ey] at b1
  have hvs:=hD.o.sl.same (n:=3)
  simp (config:={maxSteps:=1000000}) (disch:=first|assumption|omega|(apply aj;omega)|(apply af;assumption)|(simp only[bf]<;>omega)) only[go_sem,seval,t1,t2,t3,t4,t5,a1,b1,g1,c1,c2,hvs]
  generalize hM1:M.put id _=M1
  obtain ⟨g2,hsw2⟩:=hsw M1 hM1.symm
  have l3:off'+1<=(c.set off (ii d1[y+t])).length:=by rw[List.length_set];exact l2
  simp (config:={maxSteps:=1000000}) (disch:=first|assumption|omega|(apply aj;omega)|(apply af;assumption)|(simp only[bf]<;>omega)) only[go_sem,seval,g2,t5]
  generalize hM2:M1.put id _=M2
  obtain ⟨hD2,hC2⟩:=hsw2 M2 hM2.symm
  exact ⟨f - 1,by omega,_,M2,t+1,_,by rfl,by simp only[go_sem,seval,t1],by simp only[go_sem,seval,t2],by simp only[go_sem,seval,t3],by simp only[go_sem,seval,t4],by simp only[go_sem,seval]<;>rfl,by omega,hD2,tT hS hxy ht hy,hC.trans hC2 fun i hi _=>hi⟩
 ·simp (config:={maxSteps:=1000000}) (disch:=first|assumption|omega|(apply aj;omega)|(apply af;assumption)|(simp only[bf]<;>omega)) only[go_sem,seval,t1,t2,t3,t4,t5]
  have e:t=n:=by omega
  subst e
  exact hK' _ ⟨d1,hD,hS,hC⟩
end
section
variable {B m m':NH} {v fv:NV} {d:Array Int}
theorem tH (h:Dat B m v d) {a p b:Nat} (hap:a<p) (hpb:p<b) (hb:b<=d.size) (hfv:aR 4 fv fv=true):
 ∃m',bX Try.prog S0 177 [v,ii (a:Nat),ii (p:Nat),ii (b:Nat),fv] m (.tup []) m'/\∃d',Dat B m' v d'/\Rot d d' a p b/\Chg (ids v) m m':=by
 refine WF.ex1 fun K' hK'=> ?_
 refine WF.of_wpG (fun _=>rfl) mF (L:= [(.f .e,fv),(.c .e,ii (b:Nat)),(.b .e,ii (p:Nat)),(.a .e,ii (a:Nat)),(.e,v)]) rfl ?_
 unfold rZ
 have hn0:=h.n
 simp (config:={maxSteps:=1000000}) (disch:=first|assumption|omega|(apply aj;omega)|(apply af;assumption)|(simp only[bf]<;>omega)) only[go_sem,seval,aD]
 refine W.loop (fun f q=>∃T M i j d1,q=⟨T, [],none,M⟩/\NT.get D4.e T=some v/\NT.get D4.e.b T=some (ii (p:Nat))/\NT.get D4.e.f T=some fv/\NT.get D4.e.b.b T=some (ii (i:Nat))/\NT.get D4.e.b.c T=some (ii (j:Nat))/\i+j<=f/\1<=i/\1<=j/\a+i<=p/\p+j<=b/\Dat B M v d1/\d1.size=d.size/\Chg (ids v) m M/\∀d',Rot d1 d' (p - i) p (p+j)->Rot d d' a p b) ?_ (b - a) _ ⟨_,m,p - a,b - p,d,rfl,by simp only[go_sem,seval],by simp only[go_sem,seval],by simp only[go_sem,seval],by simp only[go_sem,seval];rw[show ((p - a:Nat):Int)=(p:Int) - a by omega],by simp only[go_sem,seval];rw[show ((b - p:Nat):Int)=(b:Int) - p by omega],by omega,by omega,by omega,by omega,by omega,h,rfl,(Chg.refl m).weak (by simp),fun d' q=>by rw[show p - (p - a)=a by omega,show p+(b - p)=b by omega] at q;exact q⟩
 rintro f q ⟨T,M,i,j,d1,rfl,t1,t2,t3,t4,t5,hf,hi,hj,hai,hbj,hD,hz,hC,hR⟩
 apply aI
 unfold ma
 change wp _ _ _ _ ⟨aq [] T, [],none,M⟩ _
 by_cases hij:i=j
 ·subst hij
  obtain ⟨m2,r2,d2,hD2,hS2,hC2⟩:=kY (fv:=fv) hD (x:=p - i) (y:=p) (n:=i) (by omega) (by omega)
  rw[show ((p - i:Nat):Int)=(p:Int) - i by omega] at r2
  simp (config:={maxSteps:=1000000}) (disch:=first|assumption|omega|(apply aj;omega)|(apply af;assumption)|(simp only[bf]<;>omega)) only[go_sem,seval,t1,t2,t3,t4,t5,r2.wf']
  exact hK' _ ⟨d2,hD2,hR d2 (tr (by omega) hS2),hC.trans hC2 fun i hi _=>hi⟩
 ·have hne:(i:Int)≠(j:Int):=by omega
  by_cases hlt:j<i
  ·obtain ⟨m2,r2,d2,hD2,hS2,hC2⟩:=kY (fv:=fv) hD (x:=p - i) (y:=p) (n:=j) (by omega) (by omega)
   rw[show ((p - i:Nat):Int)=(p:Int) - i by omega] at r2
   simp (config:={maxSteps:=1000000}) (disch:=first|assumption|omega|(apply aj;omega)|(apply af;assumption)|(simp only[bf]<;>omega)) only[go_sem,seval,t1,t2,t3,t4,t5,r2.wf']
   exact ⟨f - j,by omega,_,m2,i - j,j,d2,by rfl,by simp only[go_sem,seval,t1],by simp only[go_sem,seval,t2],by simp only[go_sem,seval,t3],by simp only[go_sem,seval];rw[show ((i - j:Nat):Int)=(i:Int) - j by omega],by simp only[go_sem,seval,t5],by omega,by omega,hj,by omega,hbj,hD2,by rw[hS2.s.n,hz],hC.trans hC2 fun i hi _=>hi,fun d' q=>hR d' (ui (by omega) hlt hS2 (by rw[show p - (i - j)=p - i+j by omega] at q;exact q))⟩
  ·obtain ⟨m2,r2,d2,hD2,hS2,hC2⟩:=kY (fv:=fv) hD (x:=p - i) (y:=p+j - i) (n:=i) (by omega) (by omega)
   rw[show ((p - i:Nat):Int)=(p:Int) - i by omega,show ((p+j - i:Nat):Int)=(p:Int)+j - i by omega] at r2
   simp (config:={maxSteps:=1000000}) (disch:=first|assumption|omega|(apply aj;omega)|(apply af;assumption)|(simp only[bf]<;>omega)) only[go_sem,seval,t1,t2,t3,t4,t5,r2.wf']
   exact ⟨f - i,by omega,_,m2,i,j - i,d2,by rfl,by simp only[go_sem,seval,t1],by simp only[go_sem,seval,t2],by simp only[go_sem,seval,t3],by simp only[go_sem,seval,t4],by simp only[go_sem,seval];rw[show ((j - i:Nat):Int)=(j:Int) - i by omega],by omega,hi,by omega,hai,by omega,hD2,by rw[hS2.s.n,hz],hC.trans hC2 fun i hi _=>hi,fun d' q=>hR d' (sJ (by omega) (by omega) hS2 (by rw[show p+(j - i)=p+j - i by omega] at q;exact q))⟩
def iu (B:NH) (g:Nat) (cap:NV) (key:Int->Int) (V:Int->Prop):Prop:=∀m,Chg [] B m->∀x y,V x->V y->bX Try.prog S0 g [ii x,ii y,cap] m (ii (if key x<key y then -1 else if key y<key x then 1 else 0)) m
def jq (V:Int->Prop) (d:Array Int):Prop:=∀i (h:i<d.size),V d[i]
theorem jq.sam {V:Int->Prop} {d d':Array Int} {a b:Nat} (h:jq V d) (hs:Sam d d' a b):jq V d':=fun i hi=>by
 have hm:d'[i]∈d':=Array.getElem_mem hi
 obtain ⟨j,hj,e⟩:=Array.mem_iff_getElem.1 (hs.p.mem_iff.1 hm)
 rw[←e];exact h j hj
theorem Dat.at (h:Dat B m v d) {i:Nat} (hi:i<d.size):∃id off c,gO 1 v (ii (i:Nat))= .val (.ptr id off)/\m.get id=some (.cells true c)/\c[off]? =some (ii d[i]):=by
 obtain ⟨id,off,c,a1,a2,a3,a4,a5,a6,a7,-⟩:=ew (f:=fun z=>ii z) h.o (n:=i) (by simpa using hi)
 exact ⟨id,off,c,a1,a4,a7⟩
section
variable {g:Nat} {cap:NV} {key:Int->Int} {V:Int->Prop}
theorem tW (hc:iu B g cap key V) (hcap:aR 4 (.fn g [cap]) (.fn g [cap])=true) (h:Dat B m v d) (hV:jq V d) {a b:Nat} (hab:a<=b) (hb:b<=d.size):
 ∃m',bX Try.prog S0 170 [v,ii (a:Nat),ii (b:Nat),.fn g [cap]] m (.tup []) m'/\∃d',Dat B m' v d'/\Sam d d' a b/\cI key d' a b/\Chg (ids v) m m':=by
 refine WF.ex1 fun K' hK'=> ?_
 refine WF.of_wpG (fun _=>rfl) mA (L:= [(.c .e,.fn g [cap]),(.b .e,ii (b:Nat)),(.a .e,ii (a:Nat)),(.e,v)]) rfl ?_
 unfold tB
 have hn0:=h.n
 simp (config:={maxSteps:=1000000}) (disch:=first|assumption|omega|(apply aj;omega)|(apply af;assumption)|(simp only[bf]<;>omega)) only[go_sem,seval,aD]
 refine W.loop (fun f q=>∃T M i d1,q=⟨T, [],none,M⟩/\NT.get D4.e T=some v/\NT.get D4.e.a T=some (ii (a:Nat))/\NT.get D4.e.b T=some (ii (b:Nat))/\NT.get D4.e.c T=some (.fn g [cap])/\NT.get D4.e.a.f T=some (ii (i:Nat))/\a<i/\i+f=b+1/\Dat B M v d1/\Sam d d1 a b/\cI key d1 a i/\Chg (ids v) m M) ?_ (b - a) _ ⟨_,m,a+1,d,rfl,by simp only[go_sem,seval],by simp only[go_sem,seval],by simp only[go_sem,seval],by simp only[go_sem,seval],by simp only[go_sem,seval]<;>rfl,by omega,by omega,h,Sam.refl d a b,cI.one (by omega),(Chg.refl m).weak (by simp)⟩
 rintro f q ⟨T,M,i,d1,rfl,t1,t2,t3,t4,t5,hai,hif,hD,hS,hO,hC⟩
 apply aI
 unfold mu
 change wp _ _ _ _ ⟨aq [] T, [],none,M⟩ _
 have hsz:=hS.n
 by_cases hi:i<b
 ·simp (config:={maxSteps:=1000000}) (disch:=first|assumption|omega|(apply aj;omega)|(apply af;assumption)|(simp only[bf]<;>omega)) only[go_sem,seval,t1,t2,t3,t4,t5]
  refine W.loop (fun f2 q=>∃T M j d2,q=⟨T, [],none,M⟩/\NT.get D4.e T=some v/\NT.get D4.e.a T=some (ii (a:Nat))/\NT.get D4.e.b T=some (ii (b:Nat))/\NT.get D4.e.c T=some (.fn g [cap])/\NT.get D4.e.a.f T=some (ii (i:Nat))/\NT.get D4.e.b.a T=some (ii (j:Nat))/\a<=j/\j<=i/\j=a+f2/\Dat B M v d2/\Sam d d2 a b/\yR key d2 a j i/\Chg (ids v) m M) ?_ (i - a) _ ⟨_,M,i,d1,rfl,by simp only[go_sem,seval,t1],by simp only[go_sem,seval,t2],by simp only[go_sem,seval,t3],by simp only[go_sem,seval,t4],by simp only[go_sem,seval,t5],by simp only[go_sem,seval],by omega,by omega,by omega,hD,hS,qh hO,hC⟩
  clear hD hS hO hC
  rintro f2 q ⟨T2,M2,j,d2,rfl,u1,u2,u3,u4,u5,u6,haj,hji,hjf,hD,hS,hO,hC⟩
  apply aI
  unfold mS
  change wp _ _ _ _ ⟨aq [] T2, [],none,M2⟩ _
  have hsz2:=hS.n
  by_cases hja:a<j
  ·obtain ⟨id,off,off',c,a1,b1,g1,c1,c2,⟨l1,l2⟩,hsw⟩:=hD.swap (i:=j) (j:=j - 1) (by omega) (by omega)
   have ey:((j - 1:Nat):Int)=(j:Int) - 1:=by omega
   rw[ey] at b1
   have hvs:=hD.o.sl.same (n:=3)
   have hVd:=hV.sam hS
   have rc:=hc M2 hD.c d2[j] d2[j - 1] (hVd _ _) (hVd _ _)
   by_cases hk:key d2[j]<key d2[j - 1]
   ·rw[Bl hk] at rc
    simp (config:={maxSteps:=1000000}) (disch:=first|assumption|omega|(apply aj;omega)|(apply af;assumption)|(simp only[bf]<;>omega)) only[go_sem,seval,u1,u2,u3,u4,u5,u6,a1,b1,g1,c1,c2,hvs,hcap,rc.wf']
    generalize hM1:M2.put id _=M1'
    obtain ⟨g2,hsw2⟩:=hsw M1' hM1.symm
    have l3:off'+1<=(c.set off (ii d2[j - 1])).length:=by rw[List.length_set];exact l2
    simp (config:={maxSteps:=1000000}) (disch:=first|assumption|omega|(apply aj;omega)|(apply af;assumption)|(simp only[bf]<;>omega)) only[go_sem,seval,g2,u6]
    generalize hM2:M1'.put id _=M2'
    obtain ⟨hD2,hC2⟩:=hsw2 M2' hM2.symm
    exact ⟨f2 - 1,by omega,_,M2',j - 1,_,by rfl,by simp only[go_sem,seval,u1],by simp only[go_sem,seval,u2],by simp only[go_sem,seval,u3],by simp only[go_sem,seval,u4],by simp only[go_sem,seval,u5],by simp only[go_sem,seval];rw[show ((j - 1:Nat):Int)=(j:Int) - 1 by omega],by omega,by omega,by omega,hD2,hS.trans (Sam.swap _ _ (by omega) (by omega)),rQ hO (by omega) hja hji hk,hC.trans hC2 fun i hi _=>hi⟩
   ·rw[Bk hk] at rc
    obtain ⟨w,hw,hw0⟩:∃w:Int,w=(if key d2[j - 1]<key d2[j] then 1 else 0)/\0<=w:=⟨_,rfl,by split<;>omega⟩
    rw[←hw] at rc
    simp (config:={maxSteps:=1000000}) (disch:=first|assumption|omega|(apply aj;omega)|(apply af;assumption)|(simp only[bf]<;>omega)) only[go_sem,seval,u1,u2,u3,u4,u5,u6,a1,b1,g1,c1,c2,hvs,hcap,rc.wf']
    exact ⟨f - 1,by omega,_,M2,i+1,d2,by rfl,by simp only[go_sem,seval,u1],by simp only[go_sem,seval,u2],by simp only[go_sem,seval,u3],by simp only[go_sem,seval,u4],by simp only[go_sem,seval]<;>rfl,by omega,by omega,hD,hS,pW hO (by omega) (Or.inr ⟨hja,by omega⟩),hC⟩
  ·simp (config:={maxSteps:=1000000}) (disch:=first|assumption|omega|(apply aj;omega)|(apply af;assumption)|(simp only[bf]<;>omega)) only[go_sem,seval,u1,u2,u3,u4,u5,u6]
   exact ⟨f - 1,by omega,_,M2,i+1,d2,by rfl,by simp only[go_sem,seval,u1],by simp only[go_sem,seval,u2],by simp only[go_sem,seval,u3],by simp only[go_sem,seval,u4],by simp only[go_sem,seval]<;>rfl,by omega,by omega,hD,hS,pW hO (by omega) (Or.inl (by omega)),hC⟩
 ·simp (config:={maxSteps:=1000000}) (disch:=first|assumption|omega|(apply aj;omega)|(apply af;assumption)|(simp only[bf]<;>omega)) only[go_sem,seval,t1,t2,t3,t4,t5]
  exact hK' _ ⟨d1,hD,hS,hO.sub (Nat.le_refl _) (by omega),hC⟩
end
end
theorem gv {i j:Nat} (h:i+j<=1000000):vT .u64 (.int .i64 (.lit ((i:Int)+j)))= .val (.int .u64 (.lit ((i:Int)+j)))/\dU .num .shr (.int .u64 (.lit ((i:Int)+j))) (.int .u64 (.lit 1))=some (.int .u64 (.lit (((i+j) / 2:Nat):Int)))/\vT .i64 (.int .u64 (.lit (((i+j) / 2:Nat):Int)))= .val (.int .i64 (.lit (((i+j) / 2:Nat):Int))):=by
 refine ⟨?_, ?_, ?_⟩
 ·rw[sO,show ((i:Int)+j) % 18446744073709551616=(i:Int)+j by omega]
 ·rw[show ((i:Int)+j)=((i+j:Nat):Int) by omega]
  exact tK (a:=i+j) (n:=1) (by omega)
 ·show NR.val (.int .i64 (.lit (bq .i64 _)))=_
  rw[Nm.wrap_small (by omega) (by omega)]
section
variable {B m m':NH} {v:NV} {d:Array Int} {g:Nat} {cap:NV} {key:Int->Int} {V:Int->Prop}
def sg (B m m':NH) (v:NV) (d:Array Int) (key:Int->Int) (a b:Nat):Prop:=∃d',Dat B m' v d'/\Sam d d' a b/\cI key d' a b/\Chg (ids v) m m'
theorem w9 (hc:iu B g cap key V) (hcap:aR 4 (.fn g [cap]) (.fn g [cap])=true) (h:Dat B m v d) (hV:jq V d) {a b:Nat} (hab:a+1<b) (hb:b<=d.size) (hs:cI key d (a+1) b):
 ∃m',bX Try.prog S0 171 [v,ii (a:Nat),ii ((a:Int)+1),ii (b:Nat),.fn g [cap]] m (.tup []) m'/\sg B m m' v d key a b:=by
 refine WF.ex1 fun K' hK'=> ?_
 refine WF.of_wpG (fun _=>rfl) gy (L:= [(.f .e,.fn g [cap]),(.c .e,ii (b:Nat)),(.b .e,ii ((a:Int)+1)),(.a .e,ii (a:Nat)),(.e,v)]) rfl ?_
 unfold mD
 have hn0:=h.n
 have ea:(a:Int)+1 - a=1:=by omega
 simp (config:={maxSteps:=1000000}) (disch:=first|assumption|omega|(apply aj;omega)|(apply af;assumption)|(simp only[bf]<;>omega)) only[go_sem,seval,aD,ea]
 refine W.loop (fun f q=>∃T i j,q=⟨T, [],none,m⟩/\NT.get D4.e T=some v/\NT.get D4.e.a T=some (ii (a:Nat))/\NT.get D4.e.f T=some (.fn g [cap])/\NT.get D4.e.b.b T=some (ii (i:Nat))/\NT.get D4.e.b.c T=some (ii (j:Nat))/\a+1<=i/\i<=j/\j<=b/\j=i+f/\(i=a+1∨yq key d (i - 1) (·<key (gt d a)))/\(j=b∨yq key d j (key (gt d a)<=·))) ?_ (b - (a+1)) _ ⟨_,a+1,b,rfl,by simp only[go_sem,seval],by simp only[go_sem,seval],by simp only[go_sem,seval],by simp only[go_sem,seval]<;>rfl,by simp only[go_sem,seval],by omega,by omega,by omega,by omega,Or.inl rfl,Or.inl rfl⟩
 rintro f q ⟨T,i,j,rfl,t1,t2,t3,t4,t5,hi,hij,hj,hf,hL,hR⟩
 apply aI
 unfold mE
 change wp _ _ _ _ ⟨aq [] T, [],none,m⟩ _
 by_cases hlt:i<j
 ·obtain ⟨e1,e2,e3⟩:=gv (i:=i) (j:=j) (by omega)
  have hh:i<=(i+j) / 2/\(i+j) / 2<j:=by omega
  generalize (i+j) / 2=q at *
  obtain ⟨id,off,c,a1,g1,c1⟩:=h.at (i:=q) (by omega)
  obtain ⟨id',off',c',b1,g2,c2⟩:=h.at (i:=a) (by omega)
  have hvs:=h.o.sl.same (n:=3)
  have rc:=hc m h.c d[q] d[a] (hV _ _) (hV _ _)
  have ga:gt d a=d[a]:=b9 (by omega)
  by_cases hk:key d[q]<key d[a]
  ·rw[Bl hk] at rc
   simp (config:={maxSteps:=1000000}) (disch:=first|assumption|omega|(apply aj;omega)|(apply af;assumption)|(simp only[bf]<;>omega)) only[go_sem,seval,t1,t2,t3,t4,t5,e1,e2,e3,a1,b1,g1,g2,c1,c2,hvs,hcap,rc.wf']
   exact ⟨j - (q+1),by omega,_,q+1,j,by rfl,by simp only[go_sem,seval,t1],by simp only[go_sem,seval,t2],by simp only[go_sem,seval,t3],by simp only[go_sem,seval]<;>rfl,by simp only[go_sem,seval,t5],by omega,by omega,hj,by omega,Or.inr ⟨by omega,by rw[ga];exact hk⟩,hR⟩
  ·rw[Bk hk] at rc
   obtain ⟨w,hw,hw0⟩:∃w:Int,w=(if key d[a]<key d[q] then 1 else 0)/\0<=w:=⟨_,rfl,by split<;>omega⟩
   rw[←hw] at rc
   simp (config:={maxSteps:=1000000}) (disch:=first|assumption|omega|(apply aj;omega)|(apply af;assumption)|(simp only[bf]<;>omega)) only[go_sem,seval,t1,t2,t3,t4,t5,e1,e2,e3,a1,b1,g1,g2,c1,c2,hvs,hcap,rc.wf']
   exact ⟨q - i,by omega,_,i,q,by rfl,by simp only[go_sem,seval,t1],by simp only[go_sem,seval,t2],by simp only[go_sem,seval,t3],by simp only[go_sem,seval,t4],by simp only[go_sem,seval],hi,by omega,by omega,by omega,hL,Or.inr ⟨by omega,by rw[ga];omega⟩⟩
 ·have hji:j=i:=by omega
  subst hji
  simp (config:={maxSteps:=1000000}) (disch:=first|assumption|omega|(apply aj;omega)|(apply af;assumption)|(simp only[bf]<;>omega)) only[go_sem,seval,t1,t2,t3,t4,t5]
  refine W.loop (fun f q=>∃T M k d1,q=⟨T, [],none,M⟩/\NT.get D4.e T=some v/\NT.get D4.e.b.b T=some (ii (j:Nat))/\NT.get D4.e.c.a T=some (ii (k:Nat))/\a<=k/\k+f=j - 1/\Dat B M v d1/\Up key d d1 a k b/\Chg (ids v) m M) ?_ (j - 1 - a) _ ⟨_,m,a,d,rfl,by simp only[go_sem,seval,t1],by simp only[go_sem,seval,t4],by simp only[go_sem,seval],by omega,by omega,h,rD,(Chg.refl m).weak (by simp)⟩
  rintro f2 q ⟨T2,M2,k,d1,rfl,u1,u2,u3,hak,hkf,hD,hU,hC⟩
  apply aI
  unfold nC
  change wp _ _ _ _ ⟨aq [] T2, [],none,M2⟩ _
  have hsz2:=hU.s.n
  by_cases hk:k<j - 1
  ·obtain ⟨id,off,off',c,a1,b1,g1,c1,c2,⟨l1,l2⟩,hsw⟩:=hD.swap (i:=k) (j:=k+1) (by omega) (by omega)
   have ey:((k+1:Nat):Int)=(k:Int)+1:=by omega
   rw[ey] at b1
   have hvs:=hD.o.sl.same (n:=3)
   simp (config:={maxSteps:=1000000}) (disch:=first|assumption|omega|(apply aj;omega)|(apply af;assumption)|(simp only[bf]<;>omega)) only[go_sem,seval,u1,u2,u3,a1,b1,g1,c1,c2,hvs]
   generalize hM1:M2.put id _=M1'
   obtain ⟨g2,hsw2⟩:=hsw M1' hM1.symm
   have l3:off'+1<=(c.set off (ii d1[k+1])).length:=by rw[List.length_set];exact l2
   simp (config:={maxSteps:=1000000}) (disch:=first|assumption|omega|(apply aj;omega)|(apply af;assumption)|(simp only[bf]<;>omega)) only[go_sem,seval,g2,u3]
   generalize hM2:M1'.put id _=M2'
   obtain ⟨hD2,hC2⟩:=hsw2 M2' hM2.symm
   exact ⟨f2 - 1,by omega,_,M2',k+1,_,by rfl,by simp only[go_sem,seval,u1],by simp only[go_sem,seval,u2],by simp only[go_sem,seval]<;>rfl,by omega,by omega,hD2,uK hU hak (by omega) (by omega),hC.trans hC2 fun i hi _=>hi⟩
  ·have e:k=j - 1:=by omega
   subst e
   simp (config:={maxSteps:=1000000}) (disch:=first|assumption|omega|(apply aj;omega)|(apply af;assumption)|(simp only[bf]<;>omega)) only[go_sem,seval,u1,u2,u3]
   refine hK' _ ⟨d1,hD,hU.s,xI hb hU hs ⟨by omega,by omega⟩ (hL.imp id fun ⟨q1,q2⟩=>⟨q1,by omega, ?_⟩) (hR.imp id fun ⟨q1,q2⟩=>⟨q1,by omega, ?_⟩),hC⟩
   ·rw[b9 (by omega)] at q2;exact q2
   ·rw[b9 (by omega)] at q2;exact q2
theorem xS (hc:iu B g cap key V) (hcap:aR 4 (.fn g [cap]) (.fn g [cap])=true) (h:Dat B m v d) (hV:jq V d) {a p:Nat} (hap:a+1<p) (hb:p+1<=d.size) (hs:cI key d a p):
 ∃m',bX Try.prog S0 171 [v,ii (a:Nat),ii (p:Nat),ii ((p:Int)+1),.fn g [cap]] m (.tup []) m'/\sg B m m' v d key a (p+1):=by
 refine WF.ex1 fun K' hK'=> ?_
 refine WF.of_wpG (fun _=>rfl) gy (L:= [(.f .e,.fn g [cap]),(.c .e,ii ((p:Int)+1)),(.b .e,ii (p:Nat)),(.a .e,ii (a:Nat)),(.e,v)]) rfl ?_
 unfold mD
 have hn0:=h.n
 have ea:(p:Int)+1 - p=1:=by omega
 have eb:¬(p:Int) - a=1:=by omega
 simp (config:={maxSteps:=1000000}) (disch:=first|assumption|omega|(apply aj;omega)|(apply af;assumption)|(simp only[bf]<;>omega)) only[go_sem,seval,aD,ea,eb]
 refine W.loop (fun f q=>∃T i j,q=⟨T, [],none,m⟩/\NT.get D4.e T=some v/\NT.get D4.e.b T=some (ii (p:Nat))/\NT.get D4.e.f T=some (.fn g [cap])/\NT.get D4.e.c.b T=some (ii (i:Nat))/\NT.get D4.e.c.c T=some (ii (j:Nat))/\a<=i/\i<=j/\j<=p/\j=i+f/\(i=a∨yq key d (i - 1) (·<=key (gt d p)))/\(j=p∨yq key d j (key (gt d p)<·))) ?_ (p - a) _ ⟨_,a,p,rfl,by simp only[go_sem,seval],by simp only[go_sem,seval],by simp only[go_sem,seval],by simp only[go_sem,seval]<;>rfl,by simp only[go_sem,seval],by omega,by omega,by omega,by omega,Or.inl rfl,Or.inl rfl⟩
 rintro f q ⟨T,i,j,rfl,t1,t2,t3,t4,t5,hi,hij,hj,hf,hL,hR⟩
 apply aI
 unfold lX
 change wp _ _ _ _ ⟨aq [] T, [],none,m⟩ _
 by_cases hlt:i<j
 ·obtain ⟨e1,e2,e3⟩:=gv (i:=i) (j:=j) (by omega)
  have hh:i<=(i+j) / 2/\(i+j) / 2<j:=by omega
  generalize (i+j) / 2=q at *
  obtain ⟨id,off,c,a1,g1,c1⟩:=h.at (i:=p) (by omega)
  obtain ⟨id',off',c',b1,g2,c2⟩:=h.at (i:=q) (by omega)
  have hvs:=h.o.sl.same (n:=3)
  have rc:=hc m h.c d[p] d[q] (hV _ _) (hV _ _)
  have ga:gt d p=d[p]:=b9 (by omega)
  by_cases hk:key d[p]<key d[q]
  ·rw[Bl hk] at rc
   simp (config:={maxSteps:=1000000}) (disch:=first|assumption|omega|(apply aj;omega)|(apply af;assumption)|(simp only[bf]<;>omega)) only[go_sem,seval,t1,t2,t3,t4,t5,e1,e2,e3,a1,b1,g1,g2,c1,c2,hvs,hcap,rc.wf']
   exact ⟨q - i,by omega,_,i,q,by rfl,by simp only[go_sem,seval,t1],by simp only[go_sem,seval,t2],by simp only[go_sem,seval,t3],by simp only[go_sem,seval,t4],by simp only[go_sem,seval],hi,by omega,by omega,by omega,hL,Or.inr ⟨by omega,by rw[ga];exact hk⟩⟩
  ·rw[Bk hk] at rc
   obtain ⟨w,hw,hw0⟩:∃w:Int,w=(if key d[q]<key d[p] then 1 else 0)/\0<=w:=⟨_,rfl,by split<;>omega⟩
   rw[←hw] at rc
   simp (config:={maxSteps:=1000000}) (disch:=first|assumption|omega|(apply aj;omega)|(apply af;assumption)|(simp only[bf]<;>omega)) only[go_sem,seval,t1,t2,t3,t4,t5,e1,e2,e3,a1,b1,g1,g2,c1,c2,hvs,hcap,rc.wf']
   exact ⟨j - (q+1),by omega,_,q+1,j,by rfl,by simp only[go_sem,seval,t1],by simp only[go_sem,seval,t2],by simp only[go_sem,seval,t3],by simp only[go_sem,seval]<;>rfl,by simp only[go_sem,seval,t5],by omega,by omega,hj,by omega,Or.inr ⟨by omega,by rw[ga];show key d[q]<=_;omega⟩,hR⟩
 ·have hji:j=i:=by omega
  subst hji
  simp (config:={maxSteps:=1000000}) (disch:=first|assumption|omega|(apply aj;omega)|(apply af;assumption)|(simp only[bf]<;>omega)) only[go_sem,seval,t1,t2,t3,t4,t5]
  refine W.loop (fun f q=>∃T M k d1,q=⟨T, [],none,M⟩/\NT.get D4.e T=some v/\NT.get D4.e.c.b T=some (ii (j:Nat))/\NT.get D4.e.f.a T=some (ii (k:Nat))/\k<=p/\k=j+f/\Dat B M v d1/\Dn key d d1 a k (p+1)/\Chg (ids v) m M) ?_ (p - j) _ ⟨_,m,p,d,rfl,by simp only[go_sem,seval,t1],by simp only[go_sem,seval,t4],by simp only[go_sem,seval],by omega,by omega,h,sS (b:=p+1),(Chg.refl m).weak (by simp)⟩
  rintro f2 q ⟨T2,M2,k,d1,rfl,u1,u2,u3,hak,hkf,hD,hU,hC⟩
  apply aI
  unfold mK
  change wp _ _ _ _ ⟨aq [] T2, [],none,M2⟩ _
  have hsz2:=hU.s.n
  by_cases hk:j<k
  ·obtain ⟨id,off,off',c,a1,b1,g1,c1,c2,⟨l1,l2⟩,hsw⟩:=hD.swap (i:=k) (j:=k - 1) (by omega) (by omega)
   have ey:((k - 1:Nat):Int)=(k:Int) - 1:=by omega
   rw[ey] at b1
   have hvs:=hD.o.sl.same (n:=3)
   simp (config:={maxSteps:=1000000}) (disch:=first|assumption|omega|(apply aj;omega)|(apply af;assumption)|(simp only[bf]<;>omega)) only[go_sem,seval,u1,u2,u3,a1,b1,g1,c1,c2,hvs]
   generalize hM1:M2.put id _=M1'
   obtain ⟨g2,hsw2⟩:=hsw M1' hM1.symm
   have l3:off'+1<=(c.set off (ii d1[k - 1])).length:=by rw[List.length_set];exact l2
   simp (config:={maxSteps:=1000000}) (disch:=first|assumption|omega|(apply aj;omega)|(apply af;assumption)|(simp only[bf]<;>omega)) only[go_sem,seval,g2,u3]
   generalize hM2:M1'.put id _=M2'
   obtain ⟨hD2,hC2⟩:=hsw2 M2' hM2.symm
   exact ⟨f2 - 1,by omega,_,M2',k - 1,_,by rfl,by simp only[go_sem,seval,u1],by simp only[go_sem,seval,u2],by simp only[go_sem,seval];rw[show ((k - 1:Nat):Int)=(k:Int) - 1 by omega],by omega,by omega,hD2,uI hU (by omega) (by omega) (by omega),hC.trans hC2 fun i hi _=>hi⟩
  ·have e:k=j:=by omega
   subst e
   simp (config:={maxSteps:=1000000}) (disch:=first|assumption|omega|(apply aj;omega)|(apply af;assumption)|(simp only[bf]<;>omega)) only[go_sem,seval,u1,u2,u3]
   exact hK' _ ⟨d1,hD,hU.s,xh (v:=key (gt d p)) (by omega) hU hs ⟨by omega,by omega,by omega⟩ (fun q=>by rw[b9 (by omega)];rfl) hL hR,hC⟩
end
section
variable {B m m':NH} {v:NV} {d:Array Int} {g:Nat} {cap:NV} {key:Int->Int} {V:Int->Prop}
theorem rL (hc:iu B g cap key V) (hcap:aR 4 (.fn g [cap]) (.fn g [cap])=true) (h:Dat B m v d) (hV:jq V d) {a p b mid lo r0:Nat} (hm:mid=(a+b) / 2) (hap:a<p) (hpb:p<b) (hb:b<=d.size) (hlr:(mid<p/\lo+b=mid+p/\r0=mid)∨(p<=mid/\lo=a/\r0=p)) {T:Tm}
 (t0:NT.get D4.e T=some v) (t1:NT.get D4.e.f T=some (.fn g [cap])) (t2:NT.get D4.e.a.a.b T=some (ii ((mid:Int)+p - 1))) (t3:NT.get D4.e.f.f T=some (ii (lo:Nat))) (t4:NT.get D4.e.a.a.a T=some (ii (r0:Nat))) (t5:NT.get D4.e.a T=some (ii (a:Nat))) (t6:NT.get D4.e.b T=some (ii (p:Nat))) (t7:NT.get D4.e.c T=some (ii (b:Nat))) (t8:NT.get D4.e.f.b T=some (ii (mid:Nat))) (t9:NT.get D4.e.f.c T=some (ii ((mid:Int)+p))) {Q:Out->Dyn->Prop}
 (hQ:∀T start en,NT.get D4.e T=some v->NT.get D4.e.f T=some (.fn g [cap])->NT.get D4.e.f.f T=some (ii (start:Nat))->NT.get D4.e.a T=some (ii (a:Nat))->NT.get D4.e.b T=some (ii (p:Nat))->NT.get D4.e.c T=some (ii (b:Nat))->NT.get D4.e.f.b T=some (ii (mid:Nat))->NT.get D4.e.f.c T=some (ii ((mid:Int)+p))->Cut key d a p b mid start en->Q (.exit 8) ⟨aq [] T, [],none,m⟩):
 W Try.prog S0 none (iY.loop) ⟨T, [],none,m⟩ Q:=by
 have hn0:=h.n
 refine W.loop (fun f q=>∃T s r,q=⟨T, [],none,m⟩/\NT.get D4.e T=some v/\NT.get D4.e.f T=some (.fn g [cap])/\NT.get D4.e.a.a.b T=some (ii ((mid:Int)+p - 1))/\NT.get D4.e.f.f T=some (ii (s:Nat))/\NT.get D4.e.a.a.a T=some (ii (r:Nat))/\NT.get D4.e.a T=some (ii (a:Nat))/\NT.get D4.e.b T=some (ii (p:Nat))/\NT.get D4.e.c T=some (ii (b:Nat))/\NT.get D4.e.f.b T=some (ii (mid:Nat))/\NT.get D4.e.f.c T=some (ii ((mid:Int)+p))/\lo<=s/\s<=r/\r<=r0/\r=s+f/\(s=lo∨key (gt d (s - 1))<=key (gt d (mid+p - s)))/\(r=r0∨key (gt d (mid+p - 1 - r))<=key (gt d r))) ?_ (r0 - lo) _ ⟨T,lo,r0,rfl,t0,t1,t2,t3,t4,t5,t6,t7,t8,t9,by omega,by omega,by omega,by omega,Or.inl rfl,Or.inl rfl⟩
 clear t0 t1 t2 t3 t4 t5 t6 t7 t8 t9
 rintro f q ⟨T,s,r,rfl,t0,t1,t2,t3,t4,t5,t6,t7,t8,t9,hs,hsr,hr,hf,hL,hR⟩
 apply aI
 unfold iY
 change wp _ _ _ _ ⟨aq [] T, [],none,m⟩ _
 by_cases hlt:s<r
 ·obtain ⟨e1,e2,e3⟩:=gv (i:=s) (j:=r) (by omega)
  have hh:s<=(s+r) / 2/\(s+r) / 2<r:=by omega
  generalize (s+r) / 2=c at *
  have hpc:mid+p - 1 - c<d.size:=by omega
  obtain ⟨id,off,cc,a1,g1,c1⟩:=h.at hpc
  obtain ⟨id',off',cc',b1,g2,c2⟩:=h.at (i:=c) (by omega)
  rw[show ((mid+p - 1 - c:Nat):Int)=(mid:Int)+p - 1 - c by omega] at a1
  have hvs:=h.o.sl.same (n:=3)
  have hcd:c<d.size:=by omega
  have rc:=hc m h.c d[mid+p - 1 - c] d[c] (hV _ _) (hV _ _)
  have ga:gt d (mid+p - 1 - c)=d[mid+p - 1 - c]:=b9 hpc
  have gb:gt d c=d[c]:=b9 hcd
  generalize d[mid+p - 1 - c]=x at *
  generalize d[c]=y at *
  by_cases hk:key x<key y
  ·rw[Bl hk] at rc
   simp (config:={maxSteps:=1000000}) (disch:=first|assumption|omega|(apply aj;omega)|(apply af;assumption)|(simp only[bf]<;>omega)) only[go_sem,seval,t0,t1,t2,t3,t4,t5,t6,t7,t8,t9,e1,e2,e3,a1,b1,g1,g2,c1,c2,hvs,hcap,rc.wf']
   exact ⟨c - s,by omega,_,s,c,by rfl,by simp only[go_sem,seval,t0],by simp only[go_sem,seval,t1],by simp only[go_sem,seval,t2],by simp only[go_sem,seval,t3],by simp only[go_sem,seval],by simp only[go_sem,seval,t5],by simp only[go_sem,seval,t6],by simp only[go_sem,seval,t7],by simp only[go_sem,seval,t8],by simp only[go_sem,seval,t9],hs,by omega,by omega,by omega,hL,Or.inr (by rw[ga,gb];omega)⟩
  ·rw[Bk hk] at rc
   obtain ⟨w,hw,hw0⟩:∃w:Int,w=(if key y<key x then 1 else 0)/\0<=w:=⟨_,rfl,by split<;>omega⟩
   rw[←hw] at rc
   simp (config:={maxSteps:=1000000}) (disch:=first|assumption|omega|(apply aj;omega)|(apply af;assumption)|(simp only[bf]<;>omega)) only[go_sem,seval,t0,t1,t2,t3,t4,t5,t6,t7,t8,t9,e1,e2,e3,a1,b1,g1,g2,c1,c2,hvs,hcap,rc.wf']
   refine ⟨r - (c+1),by omega,_,c+1,r,by rfl,by simp only[go_sem,seval,t0],by simp only[go_sem,seval,t1],by simp only[go_sem,seval,t2],by simp only[go_sem,seval]<;>rfl,by simp only[go_sem,seval,t4],by simp only[go_sem,seval,t5],by simp only[go_sem,seval,t6],by simp only[go_sem,seval,t7],by simp only[go_sem,seval,t8],by simp only[go_sem,seval,t9],by omega,by omega,by omega,by omega,Or.inr ?_,hR⟩
   rw[show mid+p - (c+1)=mid+p - 1 - c by omega,show c+1 - 1=c by omega,ga,gb];omega
 ·have e:r=s:=by omega
  subst e
  simp (config:={maxSteps:=1000000}) (disch:=first|assumption|omega|(apply aj;omega)|(apply af;assumption)|(simp only[bf]<;>omega)) only[go_sem,seval,t0,t1,t2,t3,t4]
  refine hQ _ r (mid+p - r) (by simp only[go_sem,seval,t0]) (by simp only[go_sem,seval,t1]) (by simp only[go_sem,seval,t3]) (by simp only[go_sem,seval,t5]) (by simp only[go_sem,seval,t6]) (by simp only[go_sem,seval,t7]) (by simp only[go_sem,seval,t8]) (by simp only[go_sem,seval,t9]) ⟨⟨hap,hpb⟩,hm,by omega,⟨fun q=>by omega,fun q=>by omega⟩, ?_, ?_⟩
  ·rcases hL with q|q
   ·rcases hlr with w|w
    ·exact Or.inl ⟨w.1,by omega⟩
    ·exact Or.inr (Or.inl ⟨w.1,by omega⟩)
   ·exact Or.inr (Or.inr q)
  ·rcases hR with q|q
   ·rcases hlr with w|w
    ·exact Or.inl ⟨w.1,by omega⟩
    ·exact Or.inr (Or.inl ⟨w.1,by omega⟩)
   ·rw[show mid+p - 1 - r=mid+p - r - 1 by omega] at q
    exact Or.inr (Or.inr q)
set_option maxHeartbeats 2000000 in
theorem v7 (hc:iu B g cap key V) (hcap:aR 4 (.fn g [cap]) (.fn g [cap])=true):∀(n:Nat) {m:NH} {d:Array Int} {a p b:Nat},b - a<=n->Dat B m v d->jq V d->a<p->p<b->b<=d.size->cI key d a p->cI key d p b->
 ∃m',bX Try.prog S0 171 [v,ii (a:Nat),ii (p:Nat),ii (b:Nat),.fn g [cap]] m (.tup []) m'/\sg B m m' v d key a b:=by
 intro n
 induction n with
 |zero=>intro m d a p b hn h hV hap hpb;omega
 |succ n ih=>
 intro m d a p b hn h hV hap hpb hb hA hB
 by_cases h1:p=a+1
 ·subst h1
  have:=w9 hc hcap h hV (a:=a) (b:=b) (by omega) hb hB
  rw[show ((a+1:Nat):Int)=(a:Int)+1 by omega]
  exact this
 by_cases h2:b=p+1
 ·subst h2
  have:=xS hc hcap h hV (a:=a) (p:=p) (by omega) hb hA
  rw[show ((p+1:Nat):Int)=(p:Int)+1 by omega]
  exact this
 refine WF.ex1 fun K' hK'=> ?_
 refine WF.of_wpG (fun _=>rfl) gy (L:= [(.f .e,.fn g [cap]),(.c .e,ii (b:Nat)),(.b .e,ii (p:Nat)),(.a .e,ii (a:Nat)),(.e,v)]) rfl ?_
 unfold mD
 have hn0:=h.n
 have ea:¬(p:Int) - a=1:=by omega
 have eb:¬(b:Int) - p=1:=by omega
 obtain ⟨q1,q2,q3⟩:=gv (i:=a) (j:=b) (by omega)
 obtain ⟨mid,hmid⟩:∃mid,mid=(a+b) / 2:=⟨_,rfl⟩
 rw[←hmid] at q2 q3
 have hmb:a<mid/\mid<b:=by omega
 obtain ⟨z0,hz0⟩:∃z0,bX Try.prog S0 g [ii (gt d a),ii (gt d a),cap] m (ii z0) m:=⟨_,by rw[b9 (show a<d.size by omega)];exact hc m h.c _ _ (hV _ _) (hV _ _)⟩
 have hend:∀T start en,NT.get D4.e T=some v->NT.get D4.e.f T=some (.fn g [cap])->NT.get D4.e.f.f T=some (ii (start:Nat))->NT.get D4.e.a T=some (ii (a:Nat))->NT.get D4.e.b T=some (ii (p:Nat))->NT.get D4.e.c T=some (ii (b:Nat))->NT.get D4.e.f.b T=some (ii (mid:Nat))->NT.get D4.e.f.c T=some (ii ((mid:Int)+p))->Cut key d a p b mid start en->∃M3 d3,Dat B M3 v d3/\Sam d d3 a b/\cI key d3 a b/\Chg (ids v) m M3/\∃M1 M2,((start<p/\p<en/\bX Try.prog S0 177 [v,ii (start:Nat),ii (p:Nat),ii (en:Nat),.fn g [cap]] m (.tup []) M1)∨(¬start<p/\bX Try.prog S0 g [ii (gt d a),ii (gt d a),cap] m (ii z0) m/\M1=m)∨(start<p/\¬p<en/\bX Try.prog S0 g [ii (gt d a),ii (gt d a),cap] m (ii z0) m/\M1=m))/\
  ((a<start/\start<mid/\bX Try.prog S0 171 [v,ii (a:Nat),ii (start:Nat),ii (mid:Nat),.fn g [cap]] M1 (.tup []) M2)∨(¬a<start/\bX Try.prog S0 g [ii (gt d a),ii (gt d a),cap] m (ii z0) m/\M2=M1)∨(a<start/\¬start<mid/\bX Try.prog S0 g [ii (gt d a),ii (gt d a),cap] m (ii z0) m/\M2=M1))/\
  ((mid<en/\en<b/\bX Try.prog S0 171 [v,ii (mid:Nat),ii (en:Nat),ii (b:Nat),.fn g [cap]] M2 (.tup []) M3)∨(¬mid<en/\bX Try.prog S0 g [ii (gt d a),ii (gt d a),cap] m (ii z0) m/\M3=M2)∨(mid<en/\¬en<b/\bX Try.prog S0 g [ii (gt d a),ii (gt d a),cap] m (ii z0) m/\M3=M2)):=by
  intro T start en _ _ _ _ _ _ _ _ hcut
  obtain ⟨b1,b2,b3,b4,b5,b6,b7⟩:=hcut.b
  obtain ⟨M1,d1,hD1,hR1,hC1,hrot⟩:∃M1 d1,Dat B M1 v d1/\Rot d d1 start p en/\Chg (ids v) m M1/\((start<p/\p<en/\bX Try.prog S0 177 [v,ii (start:Nat),ii (p:Nat),ii (en:Nat),.fn g [cap]] m (.tup []) M1)∨(¬start<p/\bX Try.prog S0 g [ii (gt d a),ii (gt d a),cap] m (ii z0) m/\M1=m)∨(start<p/\¬p<en/\bX Try.prog S0 g [ii (gt d a),ii (gt d a),cap] m (ii z0) m/\M1=m)):=by
   by_cases w1:start<p
   ·by_cases w2:p<en
    ·obtain ⟨M1,r1,d1,k1,k2,k3⟩:=tH (fv:= .fn g [cap]) h w1 w2 (by omega) hcap
     exact ⟨M1,d1,k1,k2,k3,Or.inl ⟨w1,w2,r1⟩⟩
    ·exact ⟨m,d,h,nk ⟨by omega,by omega⟩ (by omega),(Chg.refl m).weak (by simp),Or.inr (Or.inr ⟨w1,w2,hz0,rfl⟩)⟩
   ·exact ⟨m,d,h,nk ⟨by omega,by omega⟩ (by omega),(Chg.refl m).weak (by simp),Or.inr (Or.inl ⟨w1,hz0,rfl⟩)⟩
  have hF:=rC hb hA hB hcut hR1
  have n1:=hR1.s.n
  have hS1:=hR1.s.wide (a':=a) (b':=b) (by omega) (by omega)
  obtain ⟨M2,d2,hD2,hS2,hO2,hC2,hr2⟩:∃M2 d2,Dat B M2 v d2/\Sam d1 d2 a mid/\cI key d2 a mid/\Chg (ids v) M1 M2/\((a<start/\start<mid/\bX Try.prog S0 171 [v,ii (a:Nat),ii (start:Nat),ii (mid:Nat),.fn g [cap]] M1 (.tup []) M2)∨(¬a<start/\bX Try.prog S0 g [ii (gt d a),ii (gt d a),cap] m (ii z0) m/\M2=M1)∨(a<start/\¬start<mid/\bX Try.prog S0 g [ii (gt d a),ii (gt d a),cap] m (ii z0) m/\M2=M1)):=by
   by_cases w1:a<start
   ·by_cases w2:start<mid
    ·obtain ⟨M2,r2,d2,k1,k2,k3,k4⟩:=ih (a:=a) (p:=start) (b:=mid) (by omega) hD1 (hV.sam hS1) w1 w2 (by omega) hF.s1 hF.s2
     exact ⟨M2,d2,k1,k2,k3,k4,Or.inl ⟨w1,w2,r2⟩⟩
    ·exact ⟨M1,d1,hD1,Sam.refl _ _ _,ge hF.s1 hF.s2 (by omega) ⟨by omega,by omega⟩,(Chg.refl M1).weak (by simp),Or.inr (Or.inr ⟨w1,w2,hz0,rfl⟩)⟩
   ·exact ⟨M1,d1,hD1,Sam.refl _ _ _,ge hF.s1 hF.s2 (by omega) ⟨by omega,by omega⟩,(Chg.refl M1).weak (by simp),Or.inr (Or.inl ⟨w1,hz0,rfl⟩)⟩
  have n2:=hS2.n
  have hS12:=hS1.trans (hS2.wide (a':=a) (b':=b) (by omega) (by omega))
  have f3:cI key d2 mid en:=hS2.srt hF.s3 (Or.inr (Nat.le_refl _))
  have f4:cI key d2 en b:=hS2.srt hF.s4 (Or.inr (by omega))
  obtain ⟨M3,d3,hD3,hS3,hO3,hC3,hr3⟩:∃M3 d3,Dat B M3 v d3/\Sam d2 d3 mid b/\cI key d3 mid b/\Chg (ids v) M2 M3/\((mid<en/\en<b/\bX Try.prog S0 171 [v,ii (mid:Nat),ii (en:Nat),ii (b:Nat),.fn g [cap]] M2 (.tup []) M3)∨(¬mid<en/\bX Try.prog S0 g [ii (gt d a),ii (gt d a),cap] m (ii z0) m/\M3=M2)∨(mid<en/\¬en<b/\bX Try.prog S0 g [ii (gt d a),ii (gt d a),cap] m (ii z0) m/\M3=M2)):=by
   by_cases w1:mid<en
   ·by_cases w2:en<b
    ·obtain ⟨M3,r3,d3,k1,k2,k3,k4⟩:=ih (a:=mid) (p:=en) (b:=b) (by omega) hD2 (hV.sam hS12) w1 w2 (by omega) f3 f4
     exact ⟨M3,d3,k1,k2,k3,k4,Or.inl ⟨w1,w2,r3⟩⟩
    ·exact ⟨M2,d2,hD2,Sam.refl _ _ _,ge f3 f4 (by omega) ⟨by omega,by omega⟩,(Chg.refl M2).weak (by simp),Or.inr (Or.inr ⟨w1,w2,hz0,rfl⟩)⟩
   ·exact ⟨M2,d2,hD2,Sam.refl _ _ _,ge f3 f4 (by omega) ⟨by omega,by omega⟩,(Chg.refl M2).weak (by simp),Or.inr (Or.inl ⟨w1,hz0,rfl⟩)⟩
  exact ⟨M3,d3,hD3,hS12.trans (hS3.wide (by omega) (by omega)),sB (by omega) ⟨by omega,by omega⟩ hF hS2 hO2 hS3 hO3,(hC1.trans hC2 fun i hi _=>hi).trans hC3 fun i hi _=>hi,M1,M2,hrot,hr2,hr3⟩
 have hvs:=h.o.sl.same (n:=3)
 obtain ⟨lo,r0,hlr⟩:∃lo r0:Nat,(mid<p/\lo+b=mid+p/\r0=mid)∨(p<=mid/\lo=a/\r0=p):=by
  by_cases hm:mid<p
  ·exact ⟨mid+p - b,mid,Or.inl ⟨hm,by omega,rfl⟩⟩
  ·exact ⟨a,p,Or.inr ⟨by omega,rfl,rfl⟩⟩
 have hlr0:=hlr
 rcases hlr with ⟨hm,e1,e2⟩|⟨hm,e1,e2⟩
 all_goals
  simp (config:={maxSteps:=1000000}) (disch:=first|assumption|omega|(apply aj;omega)|(apply af;assumption)|(simp only[bf]<;>omega)) only[go_sem,seval,aD,ea,eb,q1,q2,q3]
  refine rL (lo:=lo) (r0:=r0) hc hcap h hV hmid hap hpb hb hlr0 (by simp only[go_sem,seval]) (by simp only[go_sem,seval]) (by simp only[go_sem,seval]) (by simp only[go_sem,seval];exact congrArg (fun z:Int=>some (ii z)) (by omega)) (by simp only[go_sem,seval];exact congrArg (fun z:Int=>some (ii z)) (by omega)) (by simp only[go_sem,seval]) (by simp only[go_sem,seval]) (by simp only[go_sem,seval]) (by simp only[go_sem,seval]) (by simp only[go_sem,seval]) ?_
  intro T start en t0 t1 t2 t3 t4 t5 t6 t7 hcut
  obtain ⟨M3,d3,k1,k2,k3,k4,M1,M2,hr1,hr2,hr3⟩:=hend T start en t0 t1 t2 t3 t4 t5 t6 t7 hcut
  obtain ⟨b1,b2,b3,b4,b5,b6,b7⟩:=hcut.b
  have hhe:=hcut.he
  have een:(mid:Int)+p - start=(en:Nat):=by omega
  have hfin:=hK' M3 ⟨d3,k1,k2,k3,k4⟩
  clear k1 k2 k3 k4 hend hK'
  rcases hr1 with ⟨v1,v2,r1⟩|⟨v1,r1,rfl⟩|⟨v1,v2,r1,rfl⟩<;>rcases hr2 with ⟨v3,v4,r2⟩|⟨v3,r2,rfl⟩|⟨v3,v4,r2,rfl⟩<;>rcases hr3 with ⟨v5,v6,r3⟩|⟨v5,r3,rfl⟩|⟨v5,v6,r3,rfl⟩
  all_goals first
   |(exfalso;omega)
   |(simp (config:={maxSteps:=1000000}) (disch:=first|assumption|omega|(apply aj;omega)|(apply af;assumption)|(simp only[bf]<;>omega)) only[go_sem,seval,t0,t1,t2,t3,t4,t5,t6,t7,een,hvs,hcap,r1.wf',r2.wf',r3.wf'];exact hfin)
end
section
variable {B m m':NH} {v:NV} {d:Array Int} {g:Nat} {cap:NV} {key:Int->Int} {V:Int->Prop}
def wx (key:Int->Int) (d:Array Int) (s lo:Nat):Prop:=∀x,x % s=0->lo<=x->cI key d x (min (x+s) d.size)
def zn (key:Int->Int) (d:Array Int) (s hi:Nat):Prop:=∀x,x % s=0->x<hi->cI key d x (x+s)
theorem zn.sam {d d':Array Int} {s hi b:Nat} (h:zn key d s hi) (hs:Sam d d' hi b) (hq:∀x,x % s=0->x<hi->x+s<=hi):zn key d' s hi:=fun x q1 q2=>hs.srt (h x q1 q2) (Or.inl (hq x q1 q2))
theorem wx.sam {d d':Array Int} {s lo a:Nat} (h:wx key d s lo) (hs:Sam d d' a lo):wx key d' s lo:=fun x q1 q2=>by rw[hs.n];exact hs.srt (h x q1 q2) (Or.inr q2)
theorem Az {s a:Nat} (hs:s=20∨s=40) (ha:a % (2*s)=0):a % s=0/\(a+s) % s=0/\(a+2*s) % (2*s)=0/\(∀x,x % (2*s)=0->a<=x->x<a+2*s->x=a)/\(∀x,x % (2*s)=0->x<a->x+2*s<=a):=by
 rcases hs with rfl|rfl<;>exact ⟨by omega,by omega,by omega,fun x q1 q2 q3=>by omega,fun x q1 q2=>by omega⟩
set_option maxHeartbeats 2000000 in
theorem x7 (hc:iu B g cap key V) (hcap:aR 4 (.fn g [cap]) (.fn g [cap])=true) (h:Dat B m v d) (hV:jq V d) (hn:d.size<=60):
 ∃m',bX Try.prog S0 148 [v,ii (d.size:Nat),.fn g [cap]] m (.tup []) m'/\sg B m m' v d key 0 d.size:=by
 refine WF.ex1 fun K' hK'=> ?_
 refine WF.of_wpG (fun _=>rfl) mY (L:= [(.b .e,.fn g [cap]),(.a .e,ii (d.size:Nat)),(.e,v)]) rfl ?_
 unfold sI
 obtain ⟨n,hnd⟩:∃n,n=d.size:=⟨_,rfl⟩
 rw[←hnd]
 simp (config:={maxSteps:=1000000}) (disch:=first|assumption|omega|(apply aj;omega)|(apply af;assumption)|(simp only[bf]<;>omega)) only[go_sem,seval,aD]
 refine W.loop (fun f q=>∃T M a d1,q=⟨T, [],none,M⟩/\NT.get D4.e T=some v/\NT.get D4.e.a T=some (ii (n:Nat))/\NT.get D4.e.b T=some (.fn g [cap])/\NT.get D4.e.a.b T=some (ii 20)/\NT.get D4.e.a.c T=some (ii (a:Nat))/\NT.get D4.e.a.f T=some (ii ((a:Int)+20))/\a % 20=0/\a<=n/\a+20*f=80/\Dat B M v d1/\Sam d d1 0 n/\zn key d1 20 a/\Chg (ids v) m M) ?_ 4 _ ⟨_,m,0,d,rfl,by simp only[go_sem,seval],by simp only[go_sem,seval],by simp only[go_sem,seval],by simp only[go_sem,seval],by simp only[go_sem,seval]<;>rfl,by simp only[go_sem,seval]<;>rfl,by omega,by omega,by omega,h,Sam.refl _ _ _,fun x q1 q2=>by omega,(Chg.refl m).weak (by simp)⟩
 rintro f q ⟨T,M,a,d1,rfl,t1,t2,t3,t4,t5,t6,ha,han,hf,hD,hS,hO,hC⟩
 apply aI
 unfold ni
 change wp _ _ _ _ ⟨aq [] T, [],none,M⟩ _
 have hsz:=hS.n
 by_cases hab:a+20<=n
 ·obtain ⟨M2,r2,d2,hD2,hS2,hO2,hC2⟩:=tW hc hcap hD (hV.sam hS) (a:=a) (b:=a+20) (by omega) (by omega)
  rw[show ((a+20:Nat):Int)=(a:Int)+20 by omega] at r2
  simp (config:={maxSteps:=1000000}) (disch:=first|assumption|omega|(apply aj;omega)|(apply af;assumption)|(simp only[bf]<;>omega)) only[go_sem,seval,t1,t2,t3,t4,t5,t6,r2.wf']
  refine ⟨f - 1,by omega,_,M2,a+20,d2,by rfl,by simp only[go_sem,seval,t1],by simp only[go_sem,seval,t2],by simp only[go_sem,seval,t3],by simp only[go_sem,seval,t4],by simp only[go_sem,seval]<;>rfl,by simp only[go_sem,seval]<;>rfl,by omega,by omega,by omega,hD2,hS.trans (hS2.wide (by omega) (by omega)),fun x q1 q2=> ?_,hC.trans hC2 fun i hi _=>hi⟩
  by_cases w:x<a
  ·exact hO.sam hS2 (fun x q1 q2=>by omega) x q1 w
  ·have:x=a:=by omega
   subst this;exact hO2
 ·obtain ⟨M2,r2,d2,hD2,hS2,hO2,hC2⟩:=tW hc hcap hD (hV.sam hS) (a:=a) (b:=n) (by omega) (by omega)
  simp (config:={maxSteps:=1000000}) (disch:=first|assumption|omega|(apply aj;omega)|(apply af;assumption)|(simp only[bf]<;>omega)) only[go_sem,seval,t1,t2,t3,t4,t5,t6,r2.wf']
  have hB0:wx key d2 20 0:=fun x q1 q2=>by
   rw[show min (x+20) d2.size=min (x+20) n by rw[hS2.n,hsz,hnd]]
   by_cases w:x<a
   ·rw[show min (x+20) n=x+20 by omega];exact hO.sam hS2 (fun x q1 q2=>by omega) x q1 w
   ·by_cases w2:x=a
    ·subst w2;rw[show min (x+20) n=n by omega];exact hO2
    ·exact cI.one (by omega)
  have hS02:=hS.trans (hS2.wide (a':=0) (b':=n) (by omega) (by omega))
  have hC02:=hC.trans hC2 fun i hi _=>hi
  refine W.loop (fun f q=>∃T M s d1,q=⟨T, [],none,M⟩/\NT.get D4.e T=some v/\NT.get D4.e.a T=some (ii (n:Nat))/\NT.get D4.e.b T=some (.fn g [cap])/\NT.get D4.e.a.b T=some (ii (s:Nat))/\((s=20/\f=2)∨(s=40/\f=1)∨(s=80/\f=0))/\Dat B M v d1/\Sam d d1 0 n/\wx key d1 s 0/\Chg (ids v) m M) ?_ 2 _ ⟨_,M2,20,d2,rfl,by simp only[go_sem,seval,t1],by simp only[go_sem,seval,t2],by simp only[go_sem,seval,t3],by simp only[go_sem,seval,t4]<;>rfl,Or.inl ⟨rfl,rfl⟩,hD2,hS02,hB0,hC02⟩
  clear hD2 hS2 hO2 hC2 hB0 hS02 hC02 hD hS hO hC t1 t2 t3 t4 t5 t6 r2
  rintro f q ⟨T,M,s,d1,rfl,t1,t2,t3,t4,hs,hD,hS,hB,hC⟩
  apply aI
  unfold mH
  change wp _ _ _ _ ⟨aq [] T, [],none,M⟩ _
  have hsz1:=hS.n
  by_cases hsn:s<n
  ·have hs':s=20∨s=40:=by omega
   have hm1:dU .num .mul (ii 2) (ii (s:Nat))=some (ii ((2*s:Nat):Int)):=by rcases hs' with rfl|rfl<;>rfl
   have hm2:dU .num .mul (ii (s:Nat)) (ii 2)=some (ii ((2*s:Nat):Int)):=by rcases hs' with rfl|rfl<;>rfl
   simp (config:={maxSteps:=1000000}) (disch:=first|assumption|omega|(apply aj;omega)|(apply af;assumption)|(simp only[bf]<;>omega)) only[go_sem,seval,t1,t2,t3,t4,hm1]
   refine W.loop (fun f2 q=>∃T M a b d2,q=⟨T, [],none,M⟩/\NT.get D4.e T=some v/\NT.get D4.e.a T=some (ii (n:Nat))/\NT.get D4.e.b T=some (.fn g [cap])/\NT.get D4.e.a.b T=some (ii (s:Nat))/\NT.get D4.e.a.c T=some (ii (a:Nat))/\NT.get D4.e.a.f T=some (ii (b:Nat))/\b=a+2*s/\a % (2*s)=0/\a<=n/\a+f2=n/\Dat B M v d2/\Sam d d2 0 n/\zn key d2 (2*s) a/\wx key d2 s a/\Chg (ids v) m M) ?_ n _ ⟨_,M,0,2*s,d1,rfl,by simp only[go_sem,seval,t1],by simp only[go_sem,seval,t2],by simp only[go_sem,seval,t3],by simp only[go_sem,seval,t4],by simp only[go_sem,seval]<;>rfl,by simp only[go_sem,seval],by omega,Nat.zero_mod _,by omega,by omega,hD,hS,fun x q1 q2=>by omega,hB,hC⟩
   clear hD hS hB hC t1 t2 t3 t4
   rintro f2 q ⟨T,M,a,b,d2,rfl,t1,t2,t3,t4,t5,t6,hb,ha,han,hf2,hD,hS,hO,hB,hC⟩
   apply aI
   unfold mT
   change wp _ _ _ _ ⟨aq [] T, [],none,M⟩ _
   have hsz2:=hS.n
   have hsp:1<=s:=by omega
   obtain ⟨k1,k2,k3,k4,k5⟩:=Az hs' ha
   by_cases hbn:b<=n
   ·have o1:=hB a k1 (Nat.le_refl _)
    have o2:=hB (a+s) k2 (by omega)
    rw[show min (a+s) d2.size=a+s by omega] at o1
    rw[show min (a+s+s) d2.size=b by omega] at o2
    obtain ⟨M3,r3,d3,hD3,hS3,hO3,hC3⟩:=v7 hc hcap (b - a) (a:=a) (p:=a+s) (b:=b) (Nat.le_refl _) hD (hV.sam hS) (by omega) (by omega) (by omega) o1 o2
    rw[show ((a+s:Nat):Int)=(a:Int)+s by omega] at r3
    simp (config:={maxSteps:=1000000}) (disch:=first|assumption|omega|(apply aj;omega)|(apply af;assumption)|(simp only[bf]<;>omega)) only[go_sem,seval,t1,t2,t3,t4,t5,t6,hm1,r3.wf']
    refine ⟨f2 - 2*s,by omega,_,M3,b,b+2*s,d3,by rfl,by simp only[go_sem,seval,t1],by simp only[go_sem,seval,t2],by simp only[go_sem,seval,t3],by simp only[go_sem,seval,t4],by simp only[go_sem,seval],by simp only[go_sem,seval]<;>rfl,by omega,by rw[hb];exact k3,by omega,by omega,hD3,hS.trans (hS3.wide (by omega) (by omega)),fun x q1 q2=> ?_,fun x q1 q2=> ?_,hC.trans hC3 fun i hi _=>hi⟩
    ·by_cases w:x<a
     ·exact hO.sam hS3 (fun x q1 q2=>k5 x q1 q2) x q1 w
     ·have e:=k4 x q1 (by omega) (by omega)
      subst e;rw[←hb];exact hO3
    ·have:wx key d2 s b:=fun x q1 q2=>hB x q1 (by omega)
     exact this.sam hS3 x q1 q2
   ·by_cases hms:a+s<n
    ·have o1:=hB a k1 (Nat.le_refl _)
     have o2:=hB (a+s) k2 (by omega)
     rw[show min (a+s) d2.size=a+s by omega] at o1
     rw[show min (a+s+s) d2.size=n by omega] at o2
     obtain ⟨M3,r3,d3,hD3,hS3,hO3,hC3⟩:=v7 hc hcap (n - a) (a:=a) (p:=a+s) (b:=n) (Nat.le_refl _) hD (hV.sam hS) (by omega) (by omega) (by omega) o1 o2
     rw[show ((a+s:Nat):Int)=(a:Int)+s by omega] at r3
     simp (config:={maxSteps:=1000000}) (disch:=first|assumption|omega|(apply aj;omega)|(apply af;assumption)|(simp only[bf]<;>omega)) only[go_sem,seval,t1,t2,t3,t4,t5,t6,hm2,r3.wf']
     refine ⟨f - 1,by omega,_,M3,2*s,d3,by rfl,by simp only[go_sem,seval,t1],by simp only[go_sem,seval,t2],by simp only[go_sem,seval,t3],by simp only[go_sem,seval],by omega,hD3,hS.trans (hS3.wide (by omega) (by omega)),fun x q1 q2=> ?_,hC.trans hC3 fun i hi _=>hi⟩
     rw[show min (x+2*s) d3.size=min (x+2*s) n by rw[hS3.n,hsz2,hnd]]
     by_cases w:x<a
     ·rw[show min (x+2*s) n=x+2*s by have:=k5 x q1 w;omega]
      exact hO.sam hS3 (fun x q1 q2=>k5 x q1 q2) x q1 w
     ·by_cases w2:x<a+2*s
      ·have e:=k4 x q1 (by omega) w2
       subst e
       rw[show min (x+2*s) n=n by omega];exact hO3
      ·exact cI.one (by omega)
    ·simp (config:={maxSteps:=1000000}) (disch:=first|assumption|omega|(apply aj;omega)|(apply af;assumption)|(simp only[bf]<;>omega)) only[go_sem,seval,t1,t2,t3,t4,t5,t6,hm2]
     refine ⟨f - 1,by omega,_,M,2*s,d2,by rfl,by simp only[go_sem,seval,t1],by simp only[go_sem,seval,t2],by simp only[go_sem,seval,t3],by simp only[go_sem,seval],by omega,hD,hS,fun x q1 q2=> ?_,hC⟩
     rw[show min (x+2*s) d2.size=min (x+2*s) n by rw[hsz2,hnd]]
     by_cases w:x<a
     ·rw[show min (x+2*s) n=x+2*s by have:=k5 x q1 w;omega]
      exact hO x q1 w
     ·by_cases w2:x<a+2*s
      ·have e:=k4 x q1 (by omega) w2
       subst e
       have o1:=hB x k1 (Nat.le_refl _)
       rw[show min (x+s) d2.size=n by omega] at o1
       rw[show min (x+2*s) n=n by omega];exact o1
      ·exact cI.one (by omega)
  ·simp (config:={maxSteps:=1000000}) (disch:=first|assumption|omega|(apply aj;omega)|(apply af;assumption)|(simp only[bf]<;>omega)) only[go_sem,seval,t1,t2,t3,t4]
   refine hK' _ ⟨d1,hD,by rw[←hnd];exact hS, ?_,hC⟩
   have:=hB 0 (Nat.zero_mod s) (by omega)
   rwa [show min (0+s) d1.size=d.size by omega] at this
end
section
variable {B m m':NH} {v:NV} {d:Array Int} {g:Nat} {cap:NV} {key:Int->Int} {V:Int->Prop}
theorem uU (hc:iu B g cap key V) (hcap:aR 4 (.fn g [cap]) (.fn g [cap])=true) (h:Dat B m v d) (hV:jq V d) (hn:d.size<=60):
 ∃m',bX Try.prog S0 108 [v,.fn g [cap]] m (.tup []) m'/\sg B m m' v d key 0 d.size:=by
 refine WF.ex1 fun K' hK'=> ?_
 refine WF.of_wpG (fun _=>rfl) m6 (L:= [(.a .e,.fn g [cap]),(.e,v)]) rfl ?_
 unfold ua
 have hlen:=h.o.sl.len
 rw[List.length_map,Array.length_toList] at hlen
 obtain ⟨m1,r1,h1⟩:=x7 hc hcap h hV hn
 simp (config:={maxSteps:=1000000}) (disch:=first|assumption|omega|(apply aj;omega)|(apply af;assumption)|(simp only[bf]<;>omega)) only[go_sem,seval,aD,hlen,r1.wf']
 exact hK' _ h1
theorem ws (x:Int) (m:NH):bX Try.prog S0 149 [ii x] m (.bool false) m:=by
 have h:∃w m',bX Try.prog S0 149 [ii x] m w m'/\w= .bool false/\m'=m:=by
  refine WF.ex fun K' hK'=> ?_
  refine WF.of_wpG (fun _=>rfl) lP (L:= [(.e,ii x)]) rfl ?_
  unfold sy
  simp (config:={maxSteps:=1000000}) (disch:=first|assumption|omega|(apply aj;omega)|(apply af;assumption)|(simp only[bf]<;>omega)) only[go_sem,seval,aD]
  exact hK' _ _ ⟨rfl,rfl⟩
 obtain ⟨w,m',h,rfl,rfl⟩:=h
 exact h
theorem z4 (x y:Int) (m:NH):bX Try.prog S0 110 [ii x,ii y] m (ii (if x<y then -1 else if y<x then 1 else 0)) m:=by
 have h:∃w m',bX Try.prog S0 110 [ii x,ii y] m w m'/\w=ii (if x<y then -1 else if y<x then 1 else 0)/\m'=m:=by
  refine WF.ex fun K' hK'=> ?_
  refine WF.of_wpG (fun _=>rfl) m8 (L:= [(.a .e,ii y),(.e,ii x)]) rfl ?_
  unfold uk
  have r1:=ws x m
  have r2:=ws y m
  by_cases h1:x<y
  ·rw[Bl h1] at hK'
   simp (config:={maxSteps:=1000000}) (disch:=first|assumption|omega|(apply aj;omega)|(apply af;assumption)|(simp only[bf]<;>omega)) only[go_sem,seval,aD,r1.wf',r2.wf']
   exact hK' _ _ ⟨rfl,rfl⟩
  ·rw[Bk h1] at hK'
   by_cases h2:y<x
   ·rw[Bl h2] at hK'
    simp (config:={maxSteps:=1000000}) (disch:=first|assumption|omega|(apply aj;omega)|(apply af;assumption)|(simp only[bf]<;>omega)) only[go_sem,seval,aD,r1.wf',r2.wf']
    exact hK' _ _ ⟨rfl,rfl⟩
   ·rw[Bk h2] at hK'
    simp (config:={maxSteps:=1000000}) (disch:=first|assumption|omega|(apply aj;omega)|(apply af;assumption)|(simp only[bf]<;>omega)) only[go_sem,seval,aD,r1.wf',r2.wf']
    exact hK' _ _ ⟨rfl,rfl⟩
 obtain ⟨w,m',h,rfl,rfl⟩:=h
 exact h
def cl (l:List (Int×Int)) (x:Int):Int:=((l[x.toNat]?).map (·.1)).getD 0
def rA (l:List (Int×Int)) (x:Int):Int:=((l[x.toNat]?).map (·.2)).getD 0
abbrev ur (l:List (Int×Int)):List (List NV):=l.map fun p=> [ii p.1,ii p.2]
theorem eJ {m:NH} {vl:NV} {l:List (Int×Int)} (h:Sl m vl 2 (ur l)) {n:Nat} (hn:n<l.length):∃id off w c,gO 2 vl (ii (n:Nat))= .val (.ptr id off)/\m.get id=some (.cells w c)/\bk m id/\c[off+0]? =some (ii (cl l n))/\c[off+1]? =some (ii (rA l n)):=by
 obtain ⟨id,off,w,c,a1,a2,a3,a4,a5⟩:=h.at n (by simpa using hn)
 rw[List.getElem_map] at a5
 refine ⟨id,off,w,c,a1,a2,a3, ?_, ?_⟩
 ·have:=cq a5 0 (by omega)
  rw[this];unfold cl;rw[Int.toNat_natCast,List.getElem?_eq_getElem hn];rfl
 ·have:=cq a5 1 (by omega)
  rw[this];unfold rA;rw[Int.toNat_natCast,List.getElem?_eq_getElem hn];rfl
theorem wZ {s sb:D4} {vl:NV} {cs:List NV} {l:List (Int×Int)} (hB:B.get sb=some (.cells true [.ptr s 0])) (hBo:bk B sb) (hs:B.get s=some (.cells true (vl::cs))) (hso:bk B s) (hl:Sl B vl 2 (ur l)):
 iu B 109 (.ptr sb 0) (cl l) (fun x=>0<=x/\x<l.length):=by
 intro m hC x y hx hy
 obtain ⟨i,rfl⟩:=Bp hx.1
 obtain ⟨j,rfl⟩:=Bp hy.1
 have hlm:=hl.grew hC
 have h:∃w m',bX Try.prog S0 109 [ii (i:Nat),ii (j:Nat),.ptr sb 0] m w m'/\w=ii (if cl l i<cl l j then -1 else if cl l j<cl l i then 1 else 0)/\m'=m:=by
  refine WF.ex fun K' hK'=> ?_
  refine WF.of_wpG (fun _=>rfl) np (L:= [(.b .e,.ptr sb 0),(.a .e,ii (j:Nat)),(.e,ii (i:Nat))]) rfl ?_
  unfold tn
  obtain ⟨id,off,w,c,a1,a2,-,a3,-⟩:=eJ hlm (n:=i) (by omega)
  obtain ⟨id',off',w',c',b1,b2,-,b3,-⟩:=eJ hlm (n:=j) (by omega)
  have g1:=(hC.get hBo (by simp)).trans hB
  have g2:=(hC.get hso (by simp)).trans hs
  have r1:=z4 (cl l i) (cl l j) m
  have hvs:=hl.same (n:=3)
  simp (config:={maxSteps:=1000000}) (disch:=first|assumption|omega|(apply aj;omega)|(apply af;assumption)|(simp only[bf]<;>omega)) only[go_sem,seval,aD,g1,g2,a1,a2,a3,b1,b2,b3,hvs,r1.wf']
  exact hK' _ _ ⟨rfl,rfl⟩
 obtain ⟨w,m',h,rfl,rfl⟩:=h
 exact h
end
theorem m5 {n g:Nat} {l:List NV} (h:∀v∈l,pS v):aR (n+2) (.fn g l) (.fn g l)=true:=by
 show cond (Nat.beq g g) (d9 _ l l) false=true
 rw[Nat.beq_refl g]
 exact pm h
def dp (n:Nat):List Int:=(List.range n).map Int.ofNat
theorem qP (n:Nat):dp (n+1)=dp n++ [(n:Int)]:=by unfold dp;rw[List.range_succ,List.map_append];rfl
theorem da (n:Nat):(dp n).length=n:=by unfold dp;simp
theorem vj {m:NH} {s:D4} {vl:NV} {cs:List NV} {l:List (Int×Int)} (hs:m.get s=some (.cells true (vl::cs))) (hso:bk m s) (hl:Sl m vl 2 (ur l)) (hn:l.length<=60) (hF:∀p∈l,0<=p.1):
 ∃v m',bX Try.prog S0 63 [.ptr s 0] m v m'/\∃d:Array Int,cr m m' v 1 (d.toList.map fun z=> [ii z])/\Chg [] m m'/\d.toList.Perm (dp l.length)/\cI (cl l) d 0 d.size:=by
 refine WF.ex fun K' hK'=> ?_
 refine WF.of_wpG (fun _=>rfl) pD (L:= [(.e,.ptr s 0)]) rfl ?_
 unfold wY
 have hlen:=hl.len
 rw[List.length_map] at hlen
 have hlo:=hl.one
 generalize hM1:hp [(.n 0,.cells true [.ptr s 0])] 1 m=M1
 have hC1:Chg [] m M1:=xD hM1 rfl
 have gb:M1.get (na m 0)=some (.cells true [.ptr s 0]):=qf hM1
 have ob:bk M1 (na m 0):=qV hM1 (by omega)
 have gs:=(hC1.get hso (by simp)).trans hs
 have os:=hC1.old hso
 have hl1:=hl.grew hC1
 have hcmp:=wZ gb ob gs os hl1
 simp (config:={maxSteps:=1000000}) (disch:=first|assumption|omega|(apply aj;omega)|(apply af;assumption)|(simp only[bf]<;>omega)) only[go_sem,seval,hM1,gb,gs,hlen,hlo]
 refine W.loop (fun f q=>∃T M v i,q=⟨T, [],none,M⟩/\NT.get D4.e.a T=some (.ptr (na m 0) 0)/\NT.get D4.e.c T=some v/\NT.get D4.e.b.a T=some vl/\NT.get D4.e.b.b T=some (ii (l.length:Nat))/\NT.get D4.e.b.c T=some (ii (i:Nat))/\i+f=l.length/\Chg [] M1 M/\cr M1 M v 1 ((dp i).map fun z=> [ii z])) ?_ l.length _ ⟨_,M1,.nils,0,rfl,by simp only[go_sem,seval],by simp only[go_sem,seval],by simp only[go_sem,seval],by simp only[go_sem,seval],by simp only[go_sem,seval]<;>rfl,by omega,Chg.refl M1,cr.nil⟩
 rintro f q ⟨T,M,v,i,rfl,t1,t2,t3,t4,t5,hif,hC,hO⟩
 apply aI
 unfold pG
 change wp _ _ _ _ ⟨aq [] T, [],none,M⟩ _
 by_cases hi:i<l.length
 ·obtain ⟨id,off,w,c,a1,a2,a3,a4,a5⟩:=eJ hl1 hi
  obtain ⟨id0,off0,w0,c0,b1,b2,b3,b4,b5⟩:=hl1.at i (by simpa using hi)
  rw[List.getElem_map] at b5
  have b2M:=(hC.get b3 (by simp)).trans b2
  have hp0:=hF _ (List.getElem_mem hi)
  have hne:¬l[i].1=-1:=by omega
  have hvo:=hO.sl.one
  rw[←aD M]
  simp (config:={maxSteps:=1000000}) (disch:=first|assumption|omega|(apply aj;omega)|(apply af;assumption)|(simp only[bf]<;>omega)) only[go_sem,seval,t1,t2,t3,t4,t5,b1,b2M,b5,hne,hvo]
  have hC2:Chg [] M (hp [(.n 1,.cells true [ii (i:Nat)]),(.n 0,.cells true [ii l[i].1,ii l[i].2]),(.n 0,.cells true [ii 0,ii 0])] 2 M):=sG rfl
  have hO2:=hO.chg hC2 fun _ _=>by simp
  refine lY (bytes:=8) (cs:= [ii (i:Nat)]) hO2 lh (aj (by omega)) rfl (fun i hi=>hC2.old (hC.old hi)) (by rw[List.length_map,da];omega) (by rw[List.length_map,da];omega) ?_
  intro v' M3 hO3 hC3 hF3
  simp (config:={maxSteps:=1000000}) (disch:=first|assumption|omega|(apply aj;omega)|(apply af;assumption)|(simp only[bf]<;>omega)) only[go_sem,seval,t1,t2,t3,t4,t5]
  refine ⟨f - 1,by omega,_,M3,v',i+1,by rfl,by simp only[go_sem,seval,t1],by simp only[go_sem,seval],by simp only[go_sem,seval,t3],by simp only[go_sem,seval,t4],by simp only[go_sem,seval]<;>rfl,by omega,(hC.trans hC2 (by simp)).trans hC3 fun i hi ho=>Bj ho (hO.new i hi), ?_⟩
  rw[qP,List.map_append];exact hO3
 ·have e:i=l.length:=by omega
  subst e
  have hD:Dat M1 M v ⟨dp l.length⟩:=⟨hO,hC,by show (dp l.length).length<=_;rw[da];omega⟩
  have hV:jq (fun x=>0<=x/\x<l.length) ⟨dp l.length⟩:=fun j hj=>by
   have hj':j<(dp l.length).length:=hj
   show 0<=(dp l.length)[j]/\(dp l.length)[j]<_
   rw[da] at hj'
   have e:∀h,(dp l.length)[j]'h=(j:Int):=fun h=>by simp[dp]
   rw[e]
   omega
  have hcs:aR 4 (.fn 109 [.ptr (na m 0) 0]) (.fn 109 [.ptr (na m 0) 0])=true:=m5 fun w hw=>by
   simp only[List.mem_cons,List.not_mem_nil,or_false] at hw
   subst hw;trivial
  obtain ⟨m2,r2,d',hD2,hS2,hO2,hC2⟩:=uU hcmp hcs hD hV (by show (dp l.length).length<=_;rw[da];omega)
  simp (config:={maxSteps:=1000000}) (disch:=first|assumption|omega|(apply aj;omega)|(apply af;assumption)|(simp only[bf]<;>omega)) only[go_sem,seval,t1,t2,t3,t4,t5,r2.wf']
  have hs0:(⟨dp l.length⟩:Array Int).size=l.length:=da _
  refine hK' _ _ ⟨d',hD2.o.back fun i hi=>hC1.old hi,hC1.trans (hC.trans hC2 fun i hi ho=>Bj ho (hO.new i hi)) (by simp), ?_,by rw[hS2.n];exact hO2⟩
  have:=hS2.p
  simpa [Array.perm_iff_toList_perm] using this
structure Sc (B m:NH) (s:D4) (vl vo vh vt:NV) (out has:List Int) (tk:List Bool):Prop where
 g:m.get s=some (.cells true [vl,vo,vh,vt,ii 0])
 o:bk m s
 nB:¬bk B s
 oo:cr B m vo 2 (out.map fun r=> [.bool false,ii r])
 oh:cr B m vh 1 (has.map fun z=> [ii z])
 ot:cr B m vt 1 (tk.map fun b=> [.bool b])
 d1:s∉ids vo/\s∉ids vh/\s∉ids vt
 d2:(∀i∈ids vo,i∉ids vh/\i∉ids vt)/\∀i∈ids vh,i∉ids vt
 c:Chg [] B m
def du (l:List (Int×Int)) (fr x:Int):Bool:=decide (rA l x<fr)
def dh (l:List (Int×Int)) (out:List Int) (fr:Int) (tk:List Bool) (x:Int):List Bool:=if du l fr x=true then tk.set ((out[x.toNat]?).getD 0).toNat false else tk
theorem rt {l:List (Int×Int)} {out:List Int} {fr:Int} {tk:List Bool} {x:Int}:(dh l out fr tk x).length=tk.length:=by unfold dh;split<;>simp
section
variable {B m m':NH} {s sb fb:D4} {vl vo vh vt:NV} {out has:List Int} {tk:List Bool} {l:List (Int×Int)} {fr:Int}
theorem Sc.off {S:List D4} (h:Sc B m s vl vo vh vt out has tk) (hC:Chg S m m') (hS:∀i∈S,i≠s/\i∉ids vo/\i∉ids vh/\i∉ids vt) (hB:∀i∈S,¬bk B i):Sc B m' s vl vo vh vt out has tk:=
 ⟨(hC.get h.o fun w=>(hS s w).1 rfl).trans h.g,hC.old h.o,h.nB,h.oo.chg hC fun i hi w=>(hS i w).2.1 hi,h.oh.chg hC fun i hi w=>(hS i w).2.2.1 hi,h.ot.chg hC fun i hi w=>(hS i w).2.2.2 hi,h.d1,h.d2,h.c.trans hC fun i hi ho=>Bj ho (hB i hi)⟩
theorem Sc.grow (h:Sc B m s vl vo vh vt out has tk) (hC:Chg [] m m'):Sc B m' s vl vo vh vt out has tk:=h.off hC (by simp) (by simp)
theorem lT {B m:NH} {v:NV} {l:List Bool} (h:cr B m v 1 (l.map fun b=> [.bool b])) {n:Nat} (hn:n<l.length):∃id off c,gO 1 v (ii (n:Nat))= .val (.ptr id off)/\ids v= [id]/\m.get id=some (.cells true c)/\bk m id/\off+1<=c.length/\c[off]? =some (.bool l[n])/\
 ∀(y:Bool) (M:NH),M=m.put id (.cells true (c.set off (.bool y)))->cr B M v 1 ((l.set n y).map fun b=> [.bool b])/\Chg [id] m M:=by
 obtain ⟨id,off,c,a1,a2,a3,a4,a5,a6,a7,a8⟩:=h.at n (by simpa using hn)
 rw[List.getElem_map] at a7 a8
 refine ⟨id,off,c,a1,a2,a4,a5,a6,cq a7 0 (by omega),fun y M hM=> ?_⟩
 have hM:M=hp [(.o id,.cells true (c.set off (.bool y)))] 0 m:=by rw[hM,←eo a5,aD]
 have hC:Chg [id] m M:=by rw[hM];exact (eH _ _ _).weak (by simp[iC])
 have ho:=a8 [(0,.bool y)] M (by simp) (by rw[hM];exact (dN a5).trans cC) (hC.old a5)
 have ho:cr B M v 1 ((l.map fun b=> [NV.bool b]).set n [.bool y]):=ho
 rw[←List.map_set (f:=fun b=> [NV.bool b])] at ho
 exact ⟨ho,hC⟩
theorem wk (h:Sc B m s vl vo vh vt out has tk) (hl:Sl B vl 2 (ur l)) (ho:out.length=l.length) (hsb:m.get sb=some (.cells true [.ptr s 0])) (hfb:m.get fb=some (.cells true [ii fr])) {x:Int} (hx:0<=x/\x<l.length) (hr:∀(q:x.toNat<out.length),0<=out[x.toNat]/\out[x.toNat]<tk.length):
 ∃m',bX Try.prog S0 151 [ii x,.ptr sb 0,.ptr fb 0] m (.bool (du l fr x)) m'/\Sc B m' s vl vo vh vt out has (dh l out fr tk x)/\Chg (ids vt) m m':=by
 obtain ⟨n,rfl⟩:=Bp hx.1
 refine WF.ex1 fun K' hK'=> ?_
 refine WF.of_wpG (fun _=>rfl) lQ (L:= [(.b .e,.ptr fb 0),(.a .e,.ptr sb 0),(.e,ii (n:Nat))]) rfl ?_
 unfold sa
 have hn:n<l.length:=by omega
 have hno:n<out.length:=by omega
 obtain ⟨id,off,w,c,a1,a2,-,-,a4⟩:=eJ (hl.grew h.c) hn
 have g:=h.g
 have hvs:=hl.same (n:=3)
 have hvo:=h.oo.sl.same (n:=3)
 have hvt:=h.ot.sl.same (n:=3)
 simp only[Int.toNat_natCast] at hr
 have hr:=hr hno
 unfold dh du at hK'
 simp only[Int.toNat_natCast,List.getElem?_eq_getElem hno,Option.getD_some] at hK'
 by_cases hg:rA l n<fr
 ·simp only[Bn hg,if_true] at hK'
  obtain ⟨id2,off2,w2,c2,b1,b2,b3,b4,b5⟩:=h.oo.sl.at n (by simpa using hno)
  rw[List.getElem_map] at b5
  have b6:c2[off2+1]? =some (ii out[n]):=cq b5 1 (by omega)
  obtain ⟨r,hro⟩:=Bp hr.1
  rw[hro] at b6 hK' hr
  obtain ⟨id3,off3,c3,e1,e2,e3,e4,e5,e6,e7⟩:=lT h.ot (n:=r) (by omega)
  simp (config:={maxSteps:=1000000}) (disch:=first|assumption|omega|(apply aj;omega)|(apply af;assumption)|(simp only[bf]<;>omega)) only[go_sem,seval,aD,hsb,hfb,g,a1,a2,a4,hvs,hvo,hvt,b1,b2,b6,e1,e3]
  generalize hM:m.put id3 _=M
  obtain ⟨k1,k2⟩:=e7 false M hM.symm
  have hid:∀i∈ [id3],i∈ids vt:=fun i hi=>by have hi:=one hi;subst hi;rw[e2];simp
  refine hK' _ ⟨⟨(k2.get h.o fun q=>h.d1.2.2 (hid _ q)).trans h.g,k2.old h.o,h.nB,h.oo.chg k2 fun i hi q=>(h.d2.1 i hi).2 (hid i q),h.oh.chg k2 fun i hi q=>h.d2.2 i hi (hid i q), ?_,h.d1,h.d2,h.c.trans k2 fun i hi q=>Bj q (h.ot.new i (hid i hi))⟩,k2.weak fun i hi _=>hid i hi⟩
  simpa using k1
 ·simp only[Bm hg,Bool.false_eq_true,if_false] at hK'
  simp (config:={maxSteps:=1000000}) (disch:=first|assumption|omega|(apply aj;omega)|(apply af;assumption)|(simp only[bf]<;>omega)) only[go_sem,seval,aD,hsb,hfb,g,a1,a2,a4,hvs,hvo,hvt]
  exact hK' _ ⟨h,(Chg.refl m).weak (by simp)⟩
end
noncomputable def yP (z:List NV) (m:NH) (v:NV):NR:=match v with
 | .nils=> .val av
 | .slc id off len _ _=>Nat.rec (.val av) (fun _ _=>ld len z fun l=>storeAt m id off l fun h=> .mem av h) len
 |_=> .fail
theorem zV {z:List NV} {x:NOpd} {t:Tm} {m:NH}:aa (.clearSlc z x) t m=oN (ρ t x) (yP z m):=by
 show wV t x _=_
 rw[bC]
 congr 1
theorem ri {m:NH} {id:D4} {off:Nat} {c cs:List NV} {K:NH->NR} (hg:m.get id=some (.cells true c)) (hl:off+cs.length<=c.length):storeAt m id off cs K=K (m.put id (.cells true (c.take off++cs++c.drop (off+cs.length)))):=by
 unfold storeAt b0
 rw[hg]
 show aE (bM cs off c) (fun c=>m.set id (.cells true c) K)=_
 rw[cu,Bl hl]
 exact NH.set_eq m id _ K
theorem yO {m:NH} {id:D4} {off n k:Nat} {c:List NV} (hg:m.get id=some (.cells true c)) (hl:off+n<=c.length) (hn:0<n):yP [ii 0] m (.slc id off n 1 k)= .mem av (m.put id (.cells true (c.take off++List.replicate n (ii 0)++c.drop (off+n)))):=by
 cases n with
 |zero=>omega
 |succ n=>
  show ld (n+1) [ii 0] (fun l=>storeAt m id off l fun h=> .mem av h)=_
  rw[cJ,oZ,show (List.replicate (n+1) [ii 0]).flatten=List.replicate (n+1) (ii 0) by simp,ri hg (by simpa using hl),List.length_replicate]
section
variable {B m m':NH} {s sb fb:D4} {vl vo vh vt:NV} {out has:List Int} {tk:List Bool} {l:List (Int×Int)} {fr:Int}
structure Srn (B m:NH) (s sb fb:D4) (vl vt vh:NV) (l:List (Int×Int)) (fr:Int) (out:List Int) (N:Nat):Prop where
 hl:Sl B vl 2 (ur l)
 n:N=l.length/\out.length=l.length/\N<=60
 sb:m.get sb=some (.cells true [.ptr s 0])/\bk m sb/\sb∉ids vt/\sb∉ids vh
 fb:m.get fb=some (.cells true [ii fr])/\bk m fb/\fb∉ids vt/\fb∉ids vh
theorem Srn.chg {N:Nat} {S:List D4} (h:Srn B m s sb fb vl vt vh l fr out N) (hC:Chg S m m') (hS:∀i∈S,i∈ids vt∨i∈ids vh):Srn B m' s sb fb vl vt vh l fr out N:=
 ⟨h.hl,h.n,⟨(hC.get h.sb.2.1 fun w=>(hS _ w).elim h.sb.2.2.1 h.sb.2.2.2).trans h.sb.1,hC.old h.sb.2.1,h.sb.2.2⟩,⟨(hC.get h.fb.2.1 fun w=>(hS _ w).elim h.fb.2.2.1 h.fb.2.2.2).trans h.fb.1,hC.old h.fb.2.1,h.fb.2.2⟩⟩
def qn (N:Nat) (out:List Int) (R:Nat) (x:Int):Prop:=0<=x/\x<N/\∀(q:x.toNat<out.length),0<=out[x.toNat]/\out[x.toNat]<R
abbrev mW (sb fb:D4):NV:= .fn 151 [.ptr sb 0,.ptr fb 0]
theorem qM (sb fb:D4):aR 4 (mW sb fb) (mW sb fb)=true:=m5 fun w hw=>by
 simp only[List.mem_cons,List.not_mem_nil,or_false] at hw
 rcases hw with rfl|rfl<;>trivial
theorem z7 {N:Nat} (h:Sc B m s vl vo vh vt out has tk) (hr:Srn B m s sb fb vl vt vh l fr out N) (hv:∀x∈has,qn N out tk.length x) (hh:has.length<=60):
 ∃r m',bX Try.prog S0 172 [vh,mW sb fb] m r m'/\Chg (ids vt) m m'/\((r=ii (-1)/\(∀x∈has,du l fr x=false)/\Sc B m' s vl vo vh vt out has tk)∨∃n,∃hn:n<has.length,r=ii (n:Nat)/\(∀x∈has.take n,du l fr x=false)/\du l fr has[n]=true/\Sc B m' s vl vo vh vt out has (dh l out fr tk has[n])):=by
 refine WF.ex fun K' hK'=> ?_
 refine WF.of_wpG (fun _=>rfl) ml (L:= [(.a .e,mW sb fb),(.e,vh)]) rfl ?_
 unfold up
 have hlen:=h.oh.sl.len
 rw[List.length_map] at hlen
 simp (config:={maxSteps:=1000000}) (disch:=first|assumption|omega|(apply aj;omega)|(apply af;assumption)|(simp only[bf]<;>omega)) only[go_sem,seval,aD,hlen]
 refine W.loop (fun f q=>∃T M i,q=⟨T, [],none,M⟩/\NT.get D4.e T=some vh/\NT.get D4.e.a T=some (mW sb fb)/\NT.get D4.e.a.c T=some (ii (has.length:Nat))/\NT.get D4.e.a.f T=some (ii (i:Nat))/\i+f=has.length/\(∀x∈has.take i,du l fr x=false)/\Sc B M s vl vo vh vt out has tk/\Chg (ids vt) m M) ?_ has.length _ ⟨_,m,0,rfl,by simp only[go_sem,seval],by simp only[go_sem,seval],by simp only[go_sem,seval],by simp only[go_sem,seval]<;>rfl,by omega,by simp,h,(Chg.refl m).weak (by simp)⟩
 rintro f q ⟨T,M,i,rfl,t1,t2,t3,t4,hif,hg,hS,hC⟩
 apply aI
 unfold mQ
 change wp _ _ _ _ ⟨aq [] T, [],none,M⟩ _
 by_cases hi:i<has.length
 ·obtain ⟨id,off,w,c,a1,a2,a3,a4,a5⟩:=hS.oh.sl.at i (by simpa using hi)
  rw[List.getElem_map] at a5
  have c0:c[off]? =some (ii has[i]):=cq a5 0 (by omega)
  have hrM:=hr.chg hC fun i hi=>Or.inl hi
  obtain ⟨v1,v2,v3⟩:=hv _ (List.getElem_mem hi)
  obtain ⟨m2,r2,hS2,hC2⟩:=wk hS hr.hl hr.n.2.1 hrM.sb.1 hrM.fb.1 (x:=has[i]) ⟨v1,by have:=hr.n.1;omega⟩ v3
  cases hgo:du l fr has[i] with
  |true=>
   rw[hgo] at r2
   simp (config:={maxSteps:=1000000}) (disch:=first|assumption|omega|(apply aj;omega)|(apply af;assumption)|(simp only[bf]<;>omega)) only[go_sem,seval,t1,t2,t3,t4,a1,a2,c0,r2.wf']
   exact hK' _ _ ⟨hC.trans hC2 fun i hi _=>hi,Or.inr ⟨i,hi,rfl,hg,hgo,hS2⟩⟩
  |false=>
   rw[hgo] at r2
   have e:dh l out fr tk has[i]=tk:=by unfold dh;rw[hgo];simp
   rw[e] at hS2
   simp (config:={maxSteps:=1000000}) (disch:=first|assumption|omega|(apply aj;omega)|(apply af;assumption)|(simp only[bf]<;>omega)) only[go_sem,seval,t1,t2,t3,t4,a1,a2,c0,r2.wf']
   refine ⟨f - 1,by omega,_,m2,i+1,by rfl,by simp only[go_sem,seval,t1],by simp only[go_sem,seval,t2],by simp only[go_sem,seval,t3],by simp only[go_sem,seval]<;>rfl,by omega,fun x hx=> ?_,hS2,hC.trans hC2 fun i hi _=>hi⟩
   rw[List.take_add_one,List.getElem?_eq_getElem hi,List.mem_append] at hx
   rcases hx with hx|hx
   ·exact hg x hx
   ·simp at hx;subst hx;exact hgo
 ·simp (config:={maxSteps:=1000000}) (disch:=first|assumption|omega|(apply aj;omega)|(apply af;assumption)|(simp only[bf]<;>omega)) only[go_sem,seval,t1,t2,t3,t4]
  rw[List.take_of_length_le (by omega)] at hg
  exact hK' _ _ ⟨hC,Or.inl ⟨rfl,hg,hS⟩⟩
end
section
variable {B m m':NH} {s sb fb:D4} {vl vo vh vt:NV} {out has:List Int} {tk:List Bool} {l:List (Int×Int)} {fr:Int}
def fj (l:List (Int×Int)) (fr:Int) (xs:List Int):List Int:=xs.filter fun x=> !du l fr x
def ia (l:List (Int×Int)) (out:List Int) (fr:Int) (tk:List Bool) (xs:List Int):List Bool:=xs.foldl (dh l out fr) tk
theorem iI (xs:List Int):∀tk,(ia l out fr tk xs).length=tk.length:=by
 induction xs with
 |nil=>intro tk;rfl
 |cons x xs ih=>intro tk;exact (ih _).trans rt
theorem mC {xs:List Int} (h:∀x∈xs,du l fr x=false):fj l fr xs=xs/\∀tk,ia l out fr tk xs=tk:=by
 induction xs with
 |nil=>exact ⟨rfl,fun tk=>rfl⟩
 |cons x xs ih=>
  obtain ⟨h1,h2⟩:=ih fun y hy=>h y (List.mem_cons_of_mem _ hy)
  have hx:=h x (by simp)
  refine ⟨?_,fun tk=> ?_⟩
  ·unfold fj at h1 ⊢;rw[List.filter_cons,hx,h1];rfl
  ·show ia l out fr (dh l out fr tk x) xs=tk
   rw[h2];unfold dh;rw[hx];simp
theorem i9 (xs:List Int) (x:Int):fj l fr (xs++ [x])=if du l fr x=true then fj l fr xs else fj l fr xs++ [x]:=by
 unfold fj
 rw[List.filter_append]
 cases hgx:du l fr x with
 |true=>simp[hgx]
 |false=>simp[hgx]
theorem mg (tk:List Bool) (xs:List Int) (x:Int):ia l out fr tk (xs++ [x])=dh l out fr (ia l out fr tk xs) x:=by unfold ia;rw[List.foldl_append];rfl
theorem Sc.setH (h:Sc B m s vl vo vh vt out has tk) {i:Nat} (hi:i<has.length) (x:Int):∃id off c,gO 1 vh (ii (i:Nat))= .val (.ptr id off)/\m.get id=some (.cells true c)/\off+1<=c.length/\∀M,M=m.put id (.cells true (c.set off (ii x)))->Sc B M s vl vo vh vt out (has.set i x) tk/\Chg (ids vh) m M:=by
 obtain ⟨id,off,c,a1,a2,a3,a4,a5,a6,a7,a8⟩:=ew (f:=fun z=>ii z) h.oh hi
 refine ⟨id,off,c,a1,a4,a6,fun M hM=> ?_⟩
 obtain ⟨k1,k2⟩:=a8 x M hM
 have hid:∀i∈ [id],i∈ids vh:=fun i hi=>by have hi:=one hi;subst hi;rw[a2];simp
 exact ⟨⟨(k2.get h.o fun q=>h.d1.2.1 (hid _ q)).trans h.g,k2.old h.o,h.nB,h.oo.chg k2 fun i hi q=>(h.d2.1 i hi).1 (hid i q),k1,h.ot.chg k2 fun i hi q=>h.d2.2 i (hid i q) hi,h.d1,h.d2,h.c.trans k2 fun i hi q=>Bj q (h.oh.new i (hid i hi))⟩,k2.weak fun i hi _=>hid i hi⟩
theorem take_set (xs:List Int) (i:Nat) (x:Int) (hi:i<xs.length):(xs.set i x).take (i+1)=xs.take i++ [x]:=by
 rw[List.take_add_one,List.getElem?_set_self hi]
 congr 1
 exact List.take_set_of_le (Nat.le_refl _)
theorem qx {c F:List NV} {off k L:Nat} (hle:off+L<=c.length) (hf:(c.drop off).take L=F) (hk:k<=L):(c.take (off+k)++List.replicate (L - k) (ii 0)++c.drop (off+k+(L - k))).length=c.length/\((c.take (off+k)++List.replicate (L - k) (ii 0)++c.drop (off+k+(L - k))).drop off).take L=F.take k++List.replicate (L - k) (ii 0)/\((c.take (off+k)++List.replicate (L - k) (ii 0)++c.drop (off+k+(L - k))).drop off).take k=F.take k:=by
 have hFl:F.length=L:=by rw[←hf,List.length_take,List.length_drop];omega
 have e:c.take (off+k)=c.take off++F.take k:=by rw[List.take_add,←hf,List.take_take,Nat.min_eq_left hk]
 have hA:(c.take off).length=off:=by rw[List.length_take];omega
 have hB:(F.take k).length=k:=by rw[List.length_take];omega
 refine ⟨by simp;omega, ?_, ?_⟩
 ·rw[e,List.append_assoc,List.append_assoc,List.drop_left' hA,←List.append_assoc,List.take_left' (by simp;omega)]
 ·rw[e,List.append_assoc,List.append_assoc,List.drop_left' hA,List.take_left' hB]
theorem s9 (xs:List Int):(xs.map fun z=> [ii z]).flatten=xs.map fun z=>ii z:=by
 induction xs with
 |nil=>rfl
 |cons x xs ih=>simp[ih]
set_option maxHeartbeats 1000000 in
theorem yi {N:Nat} (h:Sc B m s vl vo vh vt out has tk) (hr:Srn B m s sb fb vl vt vh l fr out N) (hv:∀x∈has,qn N out tk.length x) (hh:has.length<=60):
 ∃v' m',bX Try.prog S0 150 [vh,mW sb fb] m v' m'/\∃dl,Sc B m' s vl vo vh vt out dl (ia l out fr tk has)/\cr B m' v' 1 ((fj l fr has).map fun z=> [ii z])/\(∀i∈ids v',i∈ids vh)/\Chg (ids vt++ids vh) m m':=by
 refine WF.ex fun K' hK'=> ?_
 refine WF.of_wpG (fun _=>rfl) nG (L:= [(.a .e,mW sb fb),(.e,vh)]) rfl ?_
 unfold tC
 obtain ⟨r,m1,r1,hC1,hcase⟩:=z7 h hr hv hh
 have hwk:∀i∈ids vt,i∈ids vt++ids vh:=fun i hi=>List.mem_append_left _ hi
 rcases hcase with ⟨rfl,hg,hS⟩|⟨n,hn,rfl,hg,hgo,hS⟩
 ·obtain ⟨e1,e2⟩:=mC (out:=out) hg
  simp (config:={maxSteps:=1000000}) (disch:=first|assumption|omega|(apply aj;omega)|(apply af;assumption)|(simp only[bf]<;>omega)) only[go_sem,seval,aD,r1.wf']
  rw[e1,e2] at hK'
  exact hK' _ _ ⟨has,hS,hS.oh,fun i hi=>hi,hC1.weak fun i hi _=>hwk i hi⟩
 ·simp (config:={maxSteps:=1000000}) (disch:=first|assumption|omega|(apply aj;omega)|(apply af;assumption)|(simp only[bf]<;>omega)) only[go_sem,seval,aD,r1.wf']
  obtain ⟨e1,e2⟩:=mC (out:=out) hg
  have hlen:=h.oh.sl.len
  rw[List.length_map] at hlen
  have et:has.take (n+1)=has.take n++ [has[n]]:=by rw[List.take_add_one,List.getElem?_eq_getElem hn];rfl
  have ef:fj l fr (has.take (n+1))=has.take n:=by rw[et,i9,Bl hgo,e1]
  have er:ia l out fr tk (has.take (n+1))=dh l out fr tk has[n]:=by rw[et,mg,e2]
  refine W.loop (fun f q=>∃T M j dl,q=⟨T, [],none,M⟩/\NT.get D4.e T=some vh/\NT.get D4.e.a T=some (mW sb fb)/\NT.get D4.e.a.a T=some (ii ((fj l fr (has.take j)).length:Nat))/\NT.get D4.e.a.b T=some (ii (j:Nat))/\j<=has.length/\j+f=has.length/\(fj l fr (has.take j)).length<j/\dl.length=has.length/\dl.take (fj l fr (has.take j)).length=fj l fr (has.take j)/\(∀q,j<=q->dl[q]? =has[q]?)/\Sc B M s vl vo vh vt out dl (ia l out fr tk (has.take j))/\Chg (ids vt++ids vh) m M) ?_ (has.length - (n+1)) _ ⟨_,m1,n+1,has,rfl,by simp only[go_sem,seval],by simp only[go_sem,seval],by simp only[go_sem,seval];rw[ef,List.length_take,Nat.min_eq_left (by omega)],by simp only[go_sem,seval]<;>rfl,by omega,by omega,by rw[ef,List.length_take];omega,rfl,by rw[ef,List.length_take,Nat.min_eq_left (by omega)],fun q hq=>rfl,by rw[er];exact hS,hC1.weak fun i hi _=>hwk i hi⟩
  clear hS hC1 r1
  rintro f q ⟨T,M,j,dl,rfl,t1,t2,t3,t4,hj,hjf,hij,hl1,htk,hrest,hS,hC⟩
  apply aI
  unfold mO
  change wp _ _ _ _ ⟨aq [] T, [],none,M⟩ _
  by_cases hjl:j<has.length
  ·have hj1:j<dl.length:=by omega
   have ex:dl[j]=has[j]:=by
    have:=hrest j (Nat.le_refl _)
    rw[List.getElem?_eq_getElem hj1,List.getElem?_eq_getElem hjl] at this
    exact Option.some.inj this
   obtain ⟨id,off,w,c,a1,a2,a3,a4,a5⟩:=hS.oh.sl.at j (by simpa using hj1)
   rw[List.getElem_map] at a5
   have c0:c[off]? =some (ii dl[j]):=cq a5 0 (by omega)
   rw[ex] at c0
   obtain ⟨v1,v2,v3⟩:=hv _ (List.getElem_mem hjl)
   have hrM:=hr.chg hC fun i hi=>List.mem_append.1 hi
   obtain ⟨m2,r2,hS2,hC2⟩:=wk hS hr.hl hr.n.2.1 hrM.sb.1 hrM.fb.1 (x:=has[j]) ⟨v1,by have:=hr.n.1;omega⟩ (by rw[iI];exact v3)
   have et2:has.take (j+1)=has.take j++ [has[j]]:=by rw[List.take_add_one,List.getElem?_eq_getElem hjl];rfl
   rw[←mg,←et2] at hS2
   have hCm2:=hC.trans hC2 fun i hi _=>hwk i hi
   cases hgo2:du l fr has[j] with
   |true=>
    have ef2:fj l fr (has.take (j+1))=fj l fr (has.take j):=by rw[et2,i9,Bl hgo2]
    rw[hgo2] at r2
    simp (config:={maxSteps:=1000000}) (disch:=first|assumption|omega|(apply aj;omega)|(apply af;assumption)|(simp only[bf]<;>omega)) only[go_sem,seval,t1,t2,t3,t4,hlen,a1,a2,c0,r2.wf']
    exact ⟨f - 1,by omega,_,m2,j+1,dl,by rfl,by simp only[go_sem,seval,t1],by simp only[go_sem,seval,t2],by simp only[go_sem,seval,t3];rw[ef2],by simp only[go_sem,seval]<;>rfl,by omega,by omega,by rw[ef2];omega,hl1,by rw[ef2];exact htk,fun q hq=>hrest q (by omega),hS2,hCm2⟩
   |false=>
    have ef2:fj l fr (has.take (j+1))=fj l fr (has.take j)++ [has[j]]:=by rw[et2,i9,Bk (by rw[hgo2];simp)]
    rw[hgo2] at r2
    obtain ⟨id3,off3,c3,b1,b2,b3,b4⟩:=hS2.setH (i:=(fj l fr (has.take j)).length) (by omega) has[j]
    simp (config:={maxSteps:=1000000}) (disch:=first|assumption|omega|(apply aj;omega)|(apply af;assumption)|(simp only[bf]<;>omega)) only[go_sem,seval,t1,t2,t3,t4,hlen,a1,a2,c0,r2.wf',b1,b2]
    generalize hM:m2.put id3 _=M3
    obtain ⟨hS3,hC3⟩:=b4 M3 hM.symm
    refine ⟨f - 1,by omega,_,M3,j+1,_,by rfl,by simp only[go_sem,seval,t1],by simp only[go_sem,seval,t2],by simp only[go_sem,seval];rw[ef2,List.length_append];rfl,by simp only[go_sem,seval]<;>rfl,by omega,by omega,by rw[ef2,List.length_append];simp;omega,by rw[List.length_set];exact hl1, ?_,fun q hq=> ?_,hS3,hCm2.trans hC3 fun i hi _=>List.mem_append_right _ hi⟩
    ·rw[ef2,List.length_append,List.length_singleton,take_set _ _ _ (by omega),htk]
    ·rw[List.getElem?_set_ne (by omega)];exact hrest q (by omega)
  ·have ej:j=has.length:=by omega
   subst ej
   rw[List.take_length] at t3 hij htk hS
   have hlv:=hS.oh.sl.len
   rw[List.length_map,hl1] at hlv
   obtain ⟨h0,⟨e,e'⟩|⟨id,off,kc,c,evh,hb,hg',hod,hle,hke,hf⟩⟩:=hS.oh
   ·have:dl.length=0:=by simpa using congrArg List.length e'
    omega
   ·have eL:(dl.map fun z=> [ii z]).length=has.length:=by simp[hl1]
    rw[eL] at evh hle hf
    generalize hK:(fj l fr has).length=k at *
    have hclr:=yO (k:=kc - k) (n:=has.length - k) (off:=off+k*1) hg' (by omega) (by omega)
    have hks:k<=has.length:=by omega
    subst evh
    simp (config:={maxSteps:=1000000}) (disch:=first|assumption|omega|(apply aj;omega)|(apply af;assumption)|(simp only[bf]<;>omega)) only[go_sem,seval,t1,t2,t3,t4,hlen,zV,hclr]
    generalize hM:M.put id _=M2
    rw[Nat.mul_one] at hle hf
    rw[s9] at hf
    obtain ⟨q1,q2,q3⟩:=qx (k:=k) hle hf hks
    rw[Nat.mul_one] at hM
    generalize hc':c.take (off+k)++List.replicate (has.length - k) (ii 0)++c.drop (off+k+(has.length - k))=c' at hM q1 q2 q3
    have hM':M2=hp [(.o id,.cells true c')] 0 M:=by rw[←hM,←eo hod,aD]
    have hC2:Chg [id] M M2:=by rw[hM'];exact (eH _ _ _).weak (by simp[iC])
    have g2:M2.get id=some (.cells true c'):=by rw[hM'];exact (dN hod).trans cC
    have o2:=hC2.old hod
    have hid:∀i∈ [id],i∈ids (NV.slc id off has.length 1 kc):=fun i hi=>by have hi:=one hi;subst hi;simp[ids]
    have ek:(fj l fr has).length=k:=hK
    have hO2:cr B M2 (.slc id off has.length 1 kc) 1 ((dl.take k++List.replicate (has.length - k) 0).map fun z=> [ii z]):=by
     refine ⟨fun x hx=>by obtain ⟨y,-,rfl⟩:=List.mem_map.1 hx;rfl,Or.inr ⟨id,off,kc,c', ?_,hb,g2,o2, ?_,by rw[q1];exact hke, ?_⟩⟩
     ·simp only[List.length_map,List.length_append,List.length_take,List.length_replicate]
      rw[show min k dl.length+(has.length - k)=has.length by omega]
     ·simp only[List.length_map,List.length_append,List.length_take,List.length_replicate];rw[q1];omega
     ·simp only[List.length_map,List.length_append,List.length_take,List.length_replicate]
      rw[show (min k dl.length+(has.length - k))*1=has.length by omega,q2,s9,List.map_append,List.map_replicate,List.map_take]
    have hV2:cr B M2 (.slc id (off+0) k 1 kc) 1 ((fj l fr has).map fun z=> [ii z]):=by
     refine ⟨by simp,Or.inr ⟨id,off+0,kc,c',by rw[List.length_map,ek],hb,g2,o2,by rw[List.length_map,ek,q1];omega,by rw[q1];exact hke, ?_⟩⟩
     rw[List.length_map,ek,Nat.mul_one,Nat.add_zero,q3,s9,←htk,List.map_take]
    refine hK' _ _ ⟨_,⟨(hC2.get hS.o fun q=>hS.d1.2.1 (hid _ q)).trans hS.g,hC2.old hS.o,hS.nB,hS.oo.chg hC2 fun i hi q=>(hS.d2.1 i hi).1 (hid i q),hO2,hS.ot.chg hC2 fun i hi q=>hS.d2.2 i (hid i q) hi,hS.d1,hS.d2,hS.c.trans hC2 fun i hi q=>Bj q (hS.oh.new i (hid i hi))⟩,hV2,fun i hi=>by simpa [ids] using hi,hC.trans hC2 fun i hi _=>List.mem_append_right _ (hid i hi)⟩
end
def lF (s:D4) (vo vh vt:NV):List D4:=s::(ids vo++(ids vh++ids vt))
section
variable {B m m':NH} {s sb fb:D4} {vl vo vh vt:NV} {out has:List Int} {tk:List Bool} {l:List (Int×Int)} {fr:Int}
theorem Sc.old (h:Sc B m s vl vo vh vt out has tk):∀i∈lF s vo vh vt,bk m i/\¬bk B i:=by
 intro i hi
 unfold lF at hi
 rcases List.mem_cons.1 hi with rfl|hi
 ·exact ⟨h.o,h.nB⟩
 rcases List.mem_append.1 hi with hi|hi
 ·exact ⟨h.oo.sl.old i hi,h.oo.new i hi⟩
 rcases List.mem_append.1 hi with hi|hi
 ·exact ⟨h.oh.sl.old i hi,h.oh.new i hi⟩
 ·exact ⟨h.ot.sl.old i hi,h.ot.new i hi⟩
def yp (F F':List D4) (m m':NH):Prop:=Chg F m m'/\∀j∈F',j∈F∨¬bk m j
theorem xd {N:Nat} (h:Sc B m s vl vo vh vt out has tk) (hl:Sl B vl 2 (ur l)) (hN:N=l.length/\out.length=l.length/\N<=60) (hv:∀x∈has,qn N out tk.length x) (hh:has.length<=60):
 ∃m',bX Try.prog S0 111 [.ptr s 0,ii fr] m (.tup []) m'/\∃vh',Sc B m' s vl vo vh' vt out (fj l fr has) (ia l out fr tk has)/\yp (lF s vo vh vt) (lF s vo vh' vt) m m':=by
 refine WF.ex1 fun K' hK'=> ?_
 refine WF.of_wpG (fun _=>rfl) mV (L:= [(.a .e,ii fr),(.e,.ptr s 0)]) rfl ?_
 unfold sj
 generalize hM1:hp [(.n 1,.cells true [ii fr]),(.n 0,.cells true [.ptr s 0])] 2 m=M1
 have hC1:Chg [] m M1:=xD hM1 rfl
 have g0:M1.get (na m 0)=some (.cells true [.ptr s 0]):=qf hM1
 have g1:M1.get (na m 1)=some (.cells true [ii fr]):=qf hM1
 have o0:bk M1 (na m 0):=qV hM1 (by omega)
 have o1:bk M1 (na m 1):=qV hM1 (by omega)
 have h1:=h.grow hC1
 have nn:∀j,na m j∉lF s vo vh vt:=fun j q=>ss (h.old _ q).1
 have nt:∀j,na m j∉ids vt:=fun j q=>nn j (by simp[lF,q])
 have nh:∀j,na m j∉ids vh:=fun j q=>nn j (by simp[lF,q])
 have hr:Srn B M1 s (na m 0) (na m 1) vl vt vh l fr out N:=⟨hl,hN,⟨g0,o0,nt 0,nh 0⟩,⟨g1,o1,nt 1,nh 1⟩⟩
 obtain ⟨v',m2,r2,dl,hS2,hO2,hsub,hC2⟩:=yi h1 hr hv hh
 have gs:=h1.g
 have gs2:=hS2.g
 have os2:=hS2.o
 have hvs:=h.oh.sl.same (n:=3)
 have hfs:=qM (na m 0) (na m 1)
 have hv1:=hO2.sl.one
 have g02:m2.get (na m 0)=some (.cells true [.ptr s 0]):=(hC2.get o0 fun q=>(List.mem_append.1 q).elim (nt 0) (nh 0)).trans g0
 simp (config:={maxSteps:=1000000}) (disch:=first|assumption|omega|(apply aj;omega)|(apply af;assumption)|(simp only[bf]<;>omega)) only[go_sem,seval,hM1,g0,gs,hvs,hfs,r2.wf',g02,gs2,hv1]
 generalize hM3:m2.put s _=M3
 have hM3:M3=hp [(.o s,.cells true [vl,vo,v',vt,ii 0])] 0 m2:=by rw[←hM3,←eo os2,aD]
 have hC3:Chg [s] m2 M3:=by rw[hM3];exact (eH _ _ _).weak (by simp[iC])
 have ns:∀{v:NV},s∉ids v->∀i∈ids v,i∉ [s]:=fun hb i hi q=>by have q:=one q;subst q;exact hb hi
 have hsv:s∉ids v':=fun q=>h.d1.2.1 (hsub _ q)
 refine hK' _ ⟨v',⟨by rw[hM3];exact (dN os2).trans cC,hC3.old os2,h.nB,hS2.oo.chg hC3 (ns h.d1.1),hO2.chg hC3 (ns hsv) |>.back fun i hi=> ?_,hS2.ot.chg hC3 (ns h.d1.2.2),⟨h.d1.1,hsv,h.d1.2.2⟩,⟨fun i hi=>⟨fun q=>(h.d2.1 i hi).1 (hsub i q),(h.d2.1 i hi).2⟩,fun i hi=>h.d2.2 i (hsub i hi)⟩,hS2.c.trans hC3 fun i hi ho=>by have hi:=one hi;subst hi;exact Bj ho h.nB⟩,⟨((hC1.weak (by simp)).trans hC2 fun i hi _=> ?_).trans hC3 fun i hi _=> ?_,fun j hj=> ?_⟩⟩
 ·exact hi
 ·rcases List.mem_append.1 hi with q|q<;>simp[lF,q]
 ·have hi:=one hi;subst hi;simp[lF]
 ·left
  unfold lF at hj ⊢
  simp only[List.mem_cons,List.mem_append] at hj ⊢
  rcases hj with hj|hj|hj|hj
  ·exact Or.inl hj
  ·exact Or.inr (Or.inl hj)
  ·exact Or.inr (Or.inr (Or.inl (hsub j hj)))
  ·exact Or.inr (Or.inr (Or.inr hj))
theorem zA {m:NH} {v:NV} {tk:List Bool} (h:Sl m v 1 (tk.map fun b=> [.bool b])) (hl:tk.length<=1000) {q:Nat} (hq:q<tk.length) (hf:tk[q]=false):∃r,∃hr:r<tk.length,tk[r]=false/\bX Try.prog S0 112 [v,.bool false] m (ii (r:Nat)) m:=by
 have h:∃w m',bX Try.prog S0 112 [v,.bool false] m w m'/\∃r,∃hr:r<tk.length,tk[r]=false/\w=ii (r:Nat)/\m'=m:=by
  refine WF.ex fun K' hK'=> ?_
  refine WF.of_wpG (fun _=>rfl) nz (L:= [(.a .e,.bool false),(.e,v)]) rfl ?_
  unfold sZ
  have hlen:=h.len
  rw[List.length_map] at hlen
  simp (config:={maxSteps:=1000000}) (disch:=first|assumption|omega|(apply aj;omega)|(apply af;assumption)|(simp only[bf]<;>omega)) only[go_sem,seval,aD,hlen]
  refine W.loop (fun f d=>∃T i,d=⟨T, [],none,m⟩/\NT.get D4.e T=some v/\NT.get D4.e.a T=some (.bool false)/\NT.get D4.e.a.c T=some (ii (tk.length:Nat))/\NT.get D4.e.a.f T=some (ii (i:Nat))/\i+f=tk.length/\∀j (hj:j<i) (hl:j<tk.length),tk[j]=true) ?_ tk.length _ ⟨_,0,rfl,by simp only[go_sem,seval],by simp only[go_sem,seval],by simp only[go_sem,seval],by simp only[go_sem,seval]<;>rfl,by omega,fun j hj=>by omega⟩
  rintro f d ⟨T,i,rfl,t1,t2,t3,t4,hif,hn⟩
  apply aI
  unfold mP
  change wp _ _ _ _ ⟨aq [] T, [],none,m⟩ _
  by_cases hi:i<tk.length
  ·obtain ⟨id,off,w,c,a1,a2,a3,a4,a5⟩:=h.at i (by simpa using hi)
   rw[List.getElem_map] at a5
   have c0:c[off]? =some (.bool tk[i]):=cq a5 0 (by omega)
   cases hb:tk[i] with
   |false=>
    rw[hb] at c0
    simp (config:={maxSteps:=1000000}) (disch:=first|assumption|omega|(apply aj;omega)|(apply af;assumption)|(simp only[bf]<;>omega)) only[go_sem,seval,t1,t2,t3,t4,a1,a2,c0]
    exact hK' _ _ ⟨i,hi,hb,rfl,rfl⟩
   |true=>
    rw[hb] at c0
    simp (config:={maxSteps:=1000000}) (disch:=first|assumption|omega|(apply aj;omega)|(apply af;assumption)|(simp only[bf]<;>omega)) only[go_sem,seval,t1,t2,t3,t4,a1,a2,c0]
    refine ⟨f - 1,by omega,_,i+1,by rfl,by simp only[go_sem,seval,t1],by simp only[go_sem,seval,t2],by simp only[go_sem,seval,t3],by simp only[go_sem,seval]<;>rfl,by omega,fun j hj hl=> ?_⟩
    by_cases e:j=i
    ·subst e;exact hb
    ·exact hn j (by omega) hl
  ·have:=hn q (by omega) hq
   rw[hf] at this;cases this
 obtain ⟨w,m',h,r,hr,h1,rfl,rfl⟩:=h
 exact ⟨r,hr,h1,h⟩
end
section
variable {B m m':NH} {s:D4} {vl vo vh vt:NV} {out has:List Int} {tk:List Bool} {l:List (Int×Int)}
theorem yp.trans {F F' F'':List D4} {m m' m'':NH} (h:yp F F' m m') (h':yp F' F'' m' m''):yp F F'' m m'':=
 ⟨h.1.trans h'.1 fun i hi ho=>(h.2 i hi).elim id fun q=>Bj ho q,fun j hj=>(h'.2 j hj).elim (h.2 j) fun q=>Or.inr fun w=>q (h.1.old w)⟩
set_option maxHeartbeats 1000000 in
theorem vf {N:Nat} (h:Sc B m s vl vo vh vt out has tk) (hl:Sl B vl 2 (ur l)) (hN:N=l.length/\out.length=l.length/\N<=60) (hv:∀x∈has,qn N out tk.length x) (hh:has.length<=60) (ht:tk.length<=16) {n:Nat} (hn:n<N) {q:Nat} (hq:q<(ia l out (cl l n) tk has).length) (hf:(ia l out (cl l n) tk has)[q]=false):
 ∃m',bX Try.prog S0 64 [.ptr s 0,ii (n:Nat)] m (.tup []) m'/\∃vh' r,∃hr:r<(ia l out (cl l n) tk has).length,(ia l out (cl l n) tk has)[r]=false/\Sc B m' s vl vo vh' vt (out.set n (r:Int)) (fj l (cl l n) has++ [(n:Int)]) ((ia l out (cl l n) tk has).set r true)/\yp (lF s vo vh vt) (lF s vo vh' vt) m m':=by
 refine WF.ex1 fun K' hK'=> ?_
 refine WF.of_wpG (fun _=>rfl) pB (L:= [(.a .e,ii (n:Nat)),(.e,.ptr s 0)]) rfl ?_
 unfold x9
 have g:=h.g
 obtain ⟨id,off,w,c,a1,a2,-,a3,-⟩:=eJ (hl.grew h.c) (n:=n) (by omega)
 obtain ⟨m1,r1,vh1,h1,e1⟩:=xd (fr:=cl l n) h hl hN hv hh
 have hfl:(ia l out (cl l n) tk has).length=tk.length:=iI _ _
 have hfll:(fj l (cl l n) has).length<=has.length:=List.length_filter_le _ _
 generalize ia l out (cl l n) tk has=tk1 at *
 generalize fj l (cl l n) has=dl at *
 obtain ⟨r,hr,hr0,r2⟩:=zA h1.ot.sl (by omega) hq hf
 have g1:=h1.g
 obtain ⟨id2,off2,c2,b1,b2,b3,b4,b5,b6,b7⟩:=lT h1.ot hr
 have hno:n<out.length:=by omega
 have hvl:=hl.same (n:=3)
 have ns:∀{v w:NV} {i:D4},ids w= [i]->(∀j∈ids v,j∉ids w)->∀j∈ids v,j∉ [i]:=fun e hd j hj q=>by rw[←e] at q;exact hd j hj q
 simp (config:={maxSteps:=1000000}) (disch:=first|assumption|omega|(apply aj;omega)|(apply af;assumption)|(simp only[bf]<;>omega)) only[go_sem,seval,aD,g,a1,a2,a3,r1.wf',g1,r2.wf',b1,b3,b5]
 generalize hM2:m1.put id2 _=M2
 obtain ⟨k1,k2⟩:=b7 true M2 hM2.symm
 have ht2:∀i∈ [id2],i∈ids vt:=fun i hi=>by have hi:=one hi;subst hi;rw[b2];simp
 have hS2:Sc B M2 s vl vo vh1 vt out dl (tk1.set r true):=⟨(k2.get h1.o fun q=>h1.d1.2.2 (ht2 _ q)).trans h1.g,k2.old h1.o,h1.nB,h1.oo.chg k2 fun i hi q=>(h1.d2.1 i hi).2 (ht2 i q),h1.oh.chg k2 fun i hi q=>h1.d2.2 i hi (ht2 i q),k1,h1.d1,h1.d2,h1.c.trans k2 fun i hi q=>Bj q (h1.ot.new i (ht2 i hi))⟩
 have g2:=hS2.g
 obtain ⟨id3,off3,c3,d1,d2,d3,d4,d5,d6,d7,d8⟩:=hS2.oo.at_all n (by simpa using hno)
 simp (config:={maxSteps:=1000000}) (disch:=first|assumption|omega|(apply aj;omega)|(apply af;assumption)|(simp only[bf]<;>omega)) only[go_sem,seval,g2,d1,d4,d6]
 generalize hM3:M2.put id3 _=M3
 have hM3':M3=hp [(.o id3,.cells true (c3.take off3++ [.bool false,ii (r:Nat)]++c3.drop (off3+2)))] 0 M2:=by rw[←hM3,←eo d5,aD]
 have k3:Chg [id3] M2 M3:=by rw[hM3'];exact (eH _ _ _).weak (by simp[iC])
 have k4:=d8 [.bool false,ii (r:Nat)] M3 rfl (by rw[hM3'];exact (dN d5).trans cC) (k3.old d5)
 have ho3:∀i∈ [id3],i∈ids vo:=fun i hi=>by have hi:=one hi;subst hi;rw[d2];simp
 have hS3:Sc B M3 s vl vo vh1 vt (out.set n (r:Int)) dl (tk1.set r true):=⟨(k3.get hS2.o fun q=>h1.d1.1 (ho3 _ q)).trans hS2.g,k3.old hS2.o,h1.nB,by rw[List.map_set];exact k4,hS2.oh.chg k3 fun i hi q=>(h1.d2.1 i (ho3 i q)).1 hi,hS2.ot.chg k3 fun i hi q=>(h1.d2.1 i (ho3 i q)).2 hi,h1.d1,h1.d2,hS2.c.trans k3 fun i hi q=>Bj q (hS2.oo.new i (ho3 i hi))⟩
 have g3:=hS3.g
 have hvh:=hS3.oh.sl.one
 rw[←aD M3]
 simp (config:={maxSteps:=1000000}) (disch:=first|assumption|omega|(apply aj;omega)|(apply af;assumption)|(simp only[bf]<;>omega)) only[go_sem,seval,g3,hvh]
 have hC4:Chg [] M3 (hp [(.n 0,.cells true [ii (n:Nat)])] 1 M3):=sG rfl
 have hS4:=hS3.grow hC4
 refine lY (bytes:=8) (cs:= [ii (n:Nat)]) hS4.oh lh (aj (by omega)) rfl (fun i hi=>hS4.c.old hi) (by rw[List.length_map];omega) (by rw[List.length_map];omega) ?_
 intro vh' M5 hO5 hC5 hF5
 have g5:=(hC5.get hS4.o hS4.d1.2.1).trans hS4.g
 have o5:=hC5.old hS4.o
 have hv5:=hO5.sl.one
 simp (config:={maxSteps:=1000000}) (disch:=first|assumption|omega|(apply aj;omega)|(apply af;assumption)|(simp only[bf]<;>omega)) only[go_sem,seval,aD,g5,hv5]
 generalize hM6:M5.put s _=M6
 have hM6:M6=hp [(.o s,.cells true [vl,vo,vh',vt,ii 0])] 0 M5:=by rw[←hM6,←eo o5,aD]
 have hC6:Chg [s] M5 M6:=by rw[hM6];exact (eH _ _ _).weak (by simp[iC])
 have n6:∀{v:NV},s∉ids v->∀i∈ids v,i∉ [s]:=fun hb i hi q=>by have q:=one q;subst q;exact hb hi
 have hnew:∀i∈ids vh',i∈ids vh1∨¬bk (hp [(.n 0,.cells true [ii (n:Nat)])] 1 M3) i:=hF5
 have hsv:s∉ids vh':=fun w=>(hnew s w).elim h1.d1.2.1 fun w=>w hS4.o
 have hvB:∀i∈ids vh1,¬bk B i:=hS4.oh.new
 refine hK' _ ⟨vh',r,hr,hr0,⟨by rw[hM6];exact (dN o5).trans cC,hC6.old o5,h1.nB,(hS4.oo.chg hC5 fun i hi=>(h1.d2.1 i hi).1).chg hC6 (n6 h1.d1.1), ?_,(hS4.ot.chg hC5 fun i hi q=>h1.d2.2 i q hi).chg hC6 (n6 h1.d1.2.2),⟨h1.d1.1,hsv,h1.d1.2.2⟩,⟨fun i hi=>⟨fun w=>(hnew i w).elim (h1.d2.1 i hi).1 fun w=>w (hS4.oo.sl.old i hi),(h1.d2.1 i hi).2⟩,fun i hi w=>(hnew i hi).elim (fun q=>h1.d2.2 i q w) fun q=>q (hS4.ot.sl.old i w)⟩,(hS4.c.trans hC5 fun i hi ho=>Bj ho (hvB i hi)).trans hC6 fun i hi ho=>by have hi:=one hi;subst hi;exact Bj ho h1.nB⟩,e1.trans ⟨?_,fun j hj=> ?_⟩⟩
 ·rw[List.map_append];exact hO5.chg hC6 (n6 hsv)
 ·refine ((((k2.weak fun i hi _=> ?_).trans k3 fun i hi _=> ?_).trans hC4 (by simp)).trans hC5 fun i hi _=> ?_).trans hC6 fun i hi _=> ?_
  ·simp[lF,ht2 i hi]
  ·simp[lF,ho3 i hi]
  ·simp[lF,hi]
  ·have hi:=one hi;subst hi;simp[lF]
 ·simp only[lF,List.mem_cons,List.mem_append] at hj ⊢
  rcases hj with hj|hj|hj|hj
  ·exact Or.inl (Or.inl hj)
  ·exact Or.inl (Or.inr (Or.inl hj))
  ·exact (hnew j hj).imp (fun q=>Or.inr (Or.inr (Or.inl q))) fun q w=>q (hC4.old (k3.old (k2.old w)))
  ·exact Or.inl (Or.inr (Or.inr (Or.inr hj)))
end
theorem iS:∀{L M:List Int},L.Nodup->(∀x∈L,x∈M)->L.length<=M.length:=by
 intro L
 induction L with
 |nil=>intro M _ _;simp
 |cons x L ih=>
  intro M hn hs
  have hx:=hs x (by simp)
  rw[List.nodup_cons] at hn
  have:=ih (M:=M.erase x) hn.2 fun y hy=>(List.mem_erase_of_ne (show y≠x from fun e=>hn.1 (by rw[←e];exact hy))).2 (hs y (List.mem_cons_of_mem _ hy))
  rw[List.length_erase_of_mem hx] at this
  have hp:=List.length_pos_of_mem hx
  rw[List.length_cons];omega
section
variable {l:List (Int×Int)} {N R i:Nat} {d out has:List Int} {tk:List Bool} {fr:Int}
def ib (l:List (Int×Int)) (a:Nat) (k:Nat):Bool:=decide (cl l k<=cl l a)&&decide (cl l a<=rA l k)
def jQ (l:List (Int×Int)) (a n:Nat):Nat:=((List.range n).filter (ib l a)).length
theorem mr (r:Nat):∀(xs:List Int) (tk:List Bool),(ia l out fr tk xs)[r]? =some true->tk[r]? =some true/\∀x∈xs,du l fr x=true->((out[x.toNat]?).getD 0).toNat≠r:=by
 intro xs
 induction xs with
 |nil=>intro tk h;exact ⟨h,by simp⟩
 |cons x xs ih=>
  intro tk h
  obtain ⟨h1,h2⟩:=ih (dh l out fr tk x) h
  unfold dh at h1
  by_cases hg:du l fr x=true
  ·rw[Bl hg] at h1
   by_cases e:((out[x.toNat]?).getD 0).toNat=r
   ·rw[e,List.getElem?_set] at h1
    simp at h1
   ·rw[List.getElem?_set_ne e] at h1
    refine ⟨h1,fun y hy hgy=> ?_⟩
    rcases List.mem_cons.1 hy with rfl|hy
    ·exact e
    ·exact h2 y hy hgy
  ·rw[Bk hg] at h1
   refine ⟨h1,fun y hy hgy=> ?_⟩
   rcases List.mem_cons.1 hy with rfl|hy
   ·exact Bj hgy hg
   ·exact h2 y hy hgy
structure Inv (N R:Nat) (d:List Int) (i:Nat) (out has:List Int) (tk:List Bool):Prop where
 ol:out.length=N
 tl:tk.length=R
 sub:∀x∈has,x∈d.take i
 nd:has.Nodup
 vl:∀x∈has,qn N out R x
 cov:∀r:Nat,tk[r]? =some true->∃x∈has,out[x.toNat]? =some (r:Int)
structure Ord (l:List (Int×Int)) (N:Nat) (d:List Int):Prop where
 nd:d.Nodup
 rg:∀x∈d,0<=x/\x<N
 so:∀a b (ha:a<d.length) (hb:b<d.length),a<b->cl l d[a]<=cl l d[b]
theorem lc (hd:Ord l N d) (hi:i<d.length) {x:Int} (hx:x∈d.take i):x≠d[i]/\cl l x<=cl l d[i]:=by
 obtain ⟨j,hj,rfl⟩:=List.mem_iff_getElem.1 hx
 rw[List.length_take] at hj
 rw[List.getElem_take]
 exact ⟨(List.pairwise_iff_getElem.1 hd.nd) j i (by omega) hi (by omega),hd.so j i _ _ (by omega)⟩
theorem ff {x:Int} (h:x∈fj l fr has):x∈has/\du l fr x=false:=by
 unfold fj at h
 rw[List.mem_filter] at h
 exact ⟨h.1,by simpa using h.2⟩
theorem sK (hI:Inv N R d i out has tk) (hd:Ord l N d) (hNl:N=l.length) (hi:i<d.length) {n:Nat} (hn:d[i]=n) (hlv:cl l n<=rA l n) (hc:jQ l n N<=R):∃q,∃hq:q<(ia l out (cl l n) tk has).length,(ia l out (cl l n) tk has)[q]=false:=by
 have hfl:(ia l out (cl l n) tk has).length=R:=(iI _ _).trans hI.tl
 apply Classical.byContradiction
 intro hno
 have hall:∀q,q<R->(ia l out (cl l n) tk has)[q]? =some true:=fun q hq=>by
  rw[List.getElem?_eq_getElem (by omega)]
  cases hb:(ia l out (cl l n) tk has)[q]'(by omega) with
  |true=>rfl
  |false=>exact Bj ⟨q,by omega,hb⟩ hno
 have h1:((List.range R).map Int.ofNat).length<=((fj l (cl l n) has).map fun x=>(out[x.toNat]?).getD 0).length:=by
  refine iS ?_ fun y hy=> ?_
  ·refine List.Pairwise.map _ (fun a b h e=>h (Int.ofNat.inj e)) List.nodup_range
  ·obtain ⟨q,hq,rfl⟩:=List.mem_map.1 hy
   obtain ⟨k1,k2⟩:=mr q _ _ (hall q (by simpa using hq))
   obtain ⟨x,hx,he⟩:=hI.cov q k1
   refine List.mem_map.2 ⟨x, ?_,by rw[he];rfl⟩
   unfold fj
   rw[List.mem_filter]
   refine ⟨hx, ?_⟩
   cases hg:du l (cl l n) x with
   |false=>rfl
   |true=>have:=k2 x hx hg;rw[he] at this;exact Bj (Int.toNat_natCast q) this
 have h2:(fj l (cl l n) has++ [(n:Int)]).length<=(((List.range N).filter (ib l n)).map Int.ofNat).length:=by
  refine iS ?_ fun y hy=> ?_
  ·rw[List.nodup_append]
   refine ⟨hI.nd.filter _,by simp,fun a ha b hb=> ?_⟩
   rw[List.mem_singleton] at hb
   subst hb
   rw[←hn]
   exact (lc hd hi (hI.sub a (ff ha).1)).1
  ·have key:0<=y/\y<N/\cl l y<=cl l n/\cl l n<=rA l y:=by
    rcases List.mem_append.1 hy with hy|hy
    ·obtain ⟨q1,q2⟩:=ff hy
     obtain ⟨v1,v2,-⟩:=hI.vl y q1
     unfold du at q2
     have:=of_decide_eq_false q2
     have h3:=(lc hd hi (hI.sub y q1)).2
     rw[hn] at h3
     exact ⟨v1,v2,h3,by omega⟩
    ·rw[List.mem_singleton] at hy
     subst hy
     have:=hd.rg _ (List.getElem_mem hi)
     rw[hn] at this
     exact ⟨this.1,this.2,Int.le_refl _,hlv⟩
   obtain ⟨q,rfl⟩:=Bp key.1
   refine List.mem_map.2 ⟨q, ?_,rfl⟩
   rw[List.mem_filter,List.mem_range]
   refine ⟨by omega, ?_⟩
   unfold ib
   simp[key.2.2.1,key.2.2.2]
 simp only[List.length_map,List.length_range,List.length_append,List.length_singleton] at h1 h2
 unfold jQ at hc
 omega
theorem jE (hI:Inv N R d i out has tk) (hd:Ord l N d) (hi:i<d.length) {n:Nat} (hn:d[i]=n) {r:Nat} (hr:r<(ia l out (cl l n) tk has).length):Inv N R d (i+1) (out.set n (r:Int)) (fj l (cl l n) has++ [(n:Int)]) ((ia l out (cl l n) tk has).set r true):=by
 have hfl:(ia l out (cl l n) tk has).length=R:=(iI _ _).trans hI.tl
 have hnN:=hd.rg _ (List.getElem_mem hi)
 rw[hn] at hnN
 have hno:n<out.length:=by rw[hI.ol];omega
 have hne:∀x∈fj l (cl l n) has,0<=x/\x.toNat≠n:=fun x hx=>by
  obtain ⟨q1,-⟩:=ff hx
  have h1:=(lc hd hi (hI.sub x q1)).1
  rw[hn] at h1
  have:=(hI.vl x q1).1
  exact ⟨this,by omega⟩
 refine ⟨by rw[List.length_set,hI.ol],by rw[List.length_set,hfl],fun x hx=> ?_, ?_,fun x hx=> ?_,fun q hq=> ?_⟩
 ·rw[List.take_add_one,List.getElem?_eq_getElem hi,List.mem_append]
  rcases List.mem_append.1 hx with hx|hx
  ·exact Or.inl (hI.sub x (ff hx).1)
  ·rw[hn];exact Or.inr hx
 ·rw[List.nodup_append]
  refine ⟨hI.nd.filter _,by simp,fun a ha b hb=> ?_⟩
  rw[List.mem_singleton] at hb
  subst hb
  rw[←hn]
  exact (lc hd hi (hI.sub a (ff ha).1)).1
 ·rcases List.mem_append.1 hx with hx|hx
  ·obtain ⟨v1,v2,v3⟩:=hI.vl x (ff hx).1
   refine ⟨v1,v2,fun q=> ?_⟩
   rw[List.getElem_set_ne (fun e=>(hne x hx).2 e.symm)]
   exact v3 (by simpa using q)
  ·rw[List.mem_singleton] at hx
   subst hx
   refine ⟨hnN.1,hnN.2,fun q=> ?_⟩
   simp only[Int.toNat_natCast,List.getElem_set_self]
   omega
 ·by_cases e:q=r
  ·subst e
   exact ⟨n,by simp,by rw[Int.toNat_natCast,List.getElem?_set_self hno]⟩
  ·rw[List.getElem?_set_ne (fun w=>e w.symm)] at hq
   obtain ⟨k1,k2⟩:=mr q _ _ hq
   obtain ⟨x,hx,he⟩:=hI.cov q k1
   have hg:du l (cl l n) x=false:=by
    cases hg:du l (cl l n) x with
    |false=>rfl
    |true=>have:=k2 x hx hg;rw[he] at this;exact Bj (Int.toNat_natCast q) this
   have hm:x∈fj l (cl l n) has:=by
    unfold fj
    rw[List.mem_filter];exact ⟨hx,by rw[hg];rfl⟩
   exact ⟨x,List.mem_append_left _ hm,by rw[List.getElem?_set_ne fun w=>(hne x hm).2 w.symm];exact he⟩
end
theorem zq {R:Nat} (h:1<=R/\R<=16) (m:NH):bX Try.prog S0 62 [ii (R:Nat)] m (ii (R:Nat)) m:=by
 have h:∃w m',bX Try.prog S0 62 [ii (R:Nat)] m w m'/\w=ii (R:Nat)/\m'=m:=by
  refine WF.ex fun K' hK'=> ?_
  refine WF.of_wpG (fun _=>rfl) pI (L:= [(.e,ii (R:Nat))]) rfl ?_
  unfold yb
  simp (config:={maxSteps:=1000000}) (disch:=first|assumption|omega|(apply aj;omega)|(apply af;assumption)|(simp only[bf]<;>omega)) only[go_sem,seval,aD]
  rw[show max (0:Int) (min (R:Int) 16)=R by omega]
  exact hK' _ _ ⟨rfl,rfl⟩
 obtain ⟨w,m',h,rfl,rfl⟩:=h
 exact h
theorem uv (n:Nat):(dp n).Nodup:=List.Pairwise.map _ (fun a b h e=>h (Int.ofNat.inj e)) List.nodup_range
theorem th {n:Nat} {x:Int} (h:x∈dp n):0<=x/\x<n:=by
 unfold dp at h
 obtain ⟨q,hq,rfl⟩:=List.mem_map.1 h
 rw[List.mem_range] at hq
 exact ⟨Int.natCast_nonneg q,by show (q:Int)<n;omega⟩
set_option maxHeartbeats 1000000 in
theorem tX {m:NH} {vl:NV} {l:List (Int×Int)} (hl:Sl m vl 2 (ur l)) (hN:l.length<=60) (hF:∀p∈l,0<=p.1/\p.1<=p.2) {R:Nat} (hR:1<=R/\R<=16) (hc:∀a,a<l.length->jQ l a l.length<=R):
 ∃v m',bX Try.prog S0 30 [vl,ii (R:Nat)] m v m'/\∃out:List Int,cr m m' v 2 (out.map fun r=> [.bool false,ii r])/\out.length=l.length/\Chg [] m m':=by
 refine WF.ex fun K' hK'=> ?_
 refine WF.of_wpG (fun _=>rfl) pY (L:= [(.a .e,ii (R:Nat)),(.e,vl)]) rfl ?_
 unfold xu
 have hlen:=hl.len
 rw[List.length_map] at hlen
 have hlo:=hl.one
 have hls:=hl.same (n:=3)
 have r0:=zq hR (hp [(.n 0,.cells true (rep l.length [.bool false,ii 0]))] 1 m)
 generalize hM1:hp [(.n 2,.cells true [vl,.slc (na m 0) 0 l.length 2 l.length,.nils,.slc (na m 1) 0 R 1 R,ii 0]),(.n 1,.cells true (rep R [.bool false])),(.n 0,.cells true (rep l.length [.bool false,ii 0]))] 3 m=M1
 have hC1:Chg [] m M1:=xD hM1 rfl
 have gs:M1.get (na m 2)=some (.cells true [vl,.slc (na m 0) 0 l.length 2 l.length,.nils,.slc (na m 1) 0 R 1 R,ii 0]):=qf hM1
 have g1:M1.get (na m 1)=some (.cells true (rep R [.bool false])):=qf hM1
 have g0:M1.get (na m 0)=some (.cells true (rep l.length [.bool false,ii 0])):=qf hM1
 have os:bk M1 (na m 2):=qV hM1 (by omega)
 have o1:bk M1 (na m 1):=qV hM1 (by omega)
 have o0:bk M1 (na m 0):=qV hM1 (by omega)
 have nw:∀j,¬bk m (na m j):=fun j q=>ss q
 have hS1:Sc m M1 (na m 2) vl (.slc (na m 0) 0 l.length 2 l.length) .nils (.slc (na m 1) 0 R 1 R) (List.replicate l.length 0) [] (List.replicate R false):=
  ⟨gs,os,nw 2,cr.of (by simp) (nw 0) g0 o0 (by rw[oZ];simp) (by simp) (by simp),cr.nil,cr.of (by simp) (nw 1) g1 o1 (by rw[oZ];simp) (by simp) (by simp),⟨by simp[ids,pN],by simp[ids],by simp[ids,pN]⟩,⟨fun i hi=>⟨by simp[ids],by simp only[ids,List.mem_cons,List.not_mem_nil,or_false] at hi ⊢;subst hi;rw[pN];omega⟩,by simp[ids]⟩,hC1⟩
 obtain ⟨v,M2,r2,d,hO2,hC2,hp2,hs2⟩:=vj gs os (hl.grew hC1) hN fun p hp=>(hF p hp).1
 have hdl:d.toList.length=l.length:=by rw[hp2.length_eq,da]
 have hlv:=hO2.sl.len
 rw[List.length_map,hdl] at hlv
 have hord:Ord l l.length d.toList:=⟨hp2.nodup_iff.2 (uv _),fun x hx=>th (hp2.mem_iff.1 hx),fun a b ha hb hab=>by
  have:=hs2 a b (by simpa using ha) (by simpa using hb) (by omega) hab (by simpa using hb)
  simpa using this⟩
 have hS2:=hS1.grow hC2
 have hI0:Inv l.length R d.toList 0 (List.replicate l.length 0) [] (List.replicate R false):=⟨by simp,by simp,by simp,by simp,by simp,fun r hr=>by rw[List.getElem?_replicate] at hr;split at hr<;>simp at hr⟩
 have hno0:∀i∈ids v,i∉lF (na m 2) (.slc (na m 0) 0 l.length 2 l.length) .nils (.slc (na m 1) 0 R 1 R):=fun i hi q=>hO2.new i hi (hS1.old i q).1
 simp (config:={maxSteps:=1000000}) (disch:=first|assumption|omega|(apply aj;omega)|(apply af;assumption)|(simp only[bf]<;>omega)) only[go_sem,seval,hlen,hlo,hls,r0.wf',hM1,r2.wf',hlv]
 refine W.loop (fun f q=>∃T M i vh out has tk,q=⟨T, [],none,M⟩/\NT.get D4.e.a.a T=some (.ptr (na m 2) 0)/\NT.get D4.e.f.b T=some v/\NT.get D4.e.f.c T=some (ii (l.length:Nat))/\NT.get D4.e.f.f T=some (ii (i:Nat))/\i+f=l.length/\Sl M v 1 (d.toList.map fun z=> [ii z])/\(∀j∈ids v,j∉lF (na m 2) (.slc (na m 0) 0 l.length 2 l.length) vh (.slc (na m 1) 0 R 1 R))/\Sc m M (na m 2) vl (.slc (na m 0) 0 l.length 2 l.length) vh (.slc (na m 1) 0 R 1 R) out has tk/\Inv l.length R d.toList i out has tk) ?_ l.length _ ⟨_,M2,0,.nils,_,_,_,rfl,by simp only[go_sem,seval],by simp only[go_sem,seval],by simp only[go_sem,seval],by simp only[go_sem,seval]<;>rfl,by omega,hO2.sl,hno0,hS2,hI0⟩
 rintro f q ⟨T,M,i,vh,out,has,tk,rfl,t1,t2,t3,t4,hif,hv,hno,hS,hI⟩
 apply aI
 unfold p9
 change wp _ _ _ _ ⟨aq [] T, [],none,M⟩ _
 by_cases hi:i<l.length
 ·obtain ⟨id,off,w,c,a1,a2,a3,a4,a5⟩:=hv.at i (by simpa using (show i<d.toList.length by omega))
  rw[List.getElem_map] at a5
  have hid:i<d.toList.length:=by omega
  obtain ⟨n1,n2⟩:=hord.rg _ (List.getElem_mem hid)
  obtain ⟨n,hn⟩:=Bp n1
  have c0:c[off]? =some (ii (n:Nat)):=by rw[←hn];exact cq a5 0 (by omega)
  have hnN:n<l.length:=by omega
  have hln:cl l n<=rA l n:=by
   unfold cl rA
   rw[Int.toNat_natCast,List.getElem?_eq_getElem hnN]
   exact (hF _ (List.getElem_mem hnN)).2
  have hh:has.length<=60:=by
   have:=iS hI.nd hI.sub
   rw[List.length_take] at this
   omega
  obtain ⟨q,hq,hf⟩:=sK hI hord rfl hid hn hln (hc n hnN)
  have hvl:∀x∈has,qn l.length out tk.length x:=fun x hx=>by rw[hI.tl];exact hI.vl x hx
  obtain ⟨M3,r3,vh',r,hr,hr0,hS3,hE⟩:=vf hS hl ⟨rfl,hI.ol,hN⟩ hvl hh (by rw[hI.tl];omega) hnN hq hf
  simp (config:={maxSteps:=1000000}) (disch:=first|assumption|omega|(apply aj;omega)|(apply af;assumption)|(simp only[bf]<;>omega)) only[go_sem,seval,t1,t2,t3,t4,a1,a2,c0,r3.wf']
  exact ⟨f - 1,by omega,_,M3,i+1,vh',_,_,_,by rfl,by simp only[go_sem,seval,t1],by simp only[go_sem,seval,t2],by simp only[go_sem,seval,t3],by simp only[go_sem,seval]<;>rfl,by omega,hv.chg hE.1 hno,fun j hj w=>(hE.2 j w).elim (hno j hj) fun u=>u (hv.old j hj),hS3,jE hI hord hid hn hr⟩
 ·have g:=hS.g
  simp (config:={maxSteps:=1000000}) (disch:=first|assumption|omega|(apply aj;omega)|(apply af;assumption)|(simp only[bf]<;>omega)) only[go_sem,seval,t1,t2,t3,t4,g]
  exact hK' _ _ ⟨out,hS.oo,hI.ol,hS.c⟩
theorem rO {m:NH} {l:List NV} (h:Ty Try.prog m 66 l):∃v sp,l= [v]/\Sl m v 2 (ur sp):=by
 obtain ⟨v,C,rfl,hS,hm,hall⟩:=h.inv_slc Try.underlying66
 have key:∀C:List (List NV),(∀c∈C,Ty Try.prog m 68 c)->∃sp:List (Int×Int),C=ur sp:=by
  intro C
  induction C with
  |nil=>intro _;exact ⟨[],rfl⟩
  |cons c C ih=>
   intro h
   have h1:TyL Try.prog m [3,3] c:=(h c (List.mem_cons_self ..)).inv_struct Try.underlying68
   obtain ⟨a1,b1,rfl,h2,h1⟩:=h1.inv
   obtain ⟨a2,b2,rfl,h3,h1⟩:=h1.inv
   obtain rfl:=h1.inv0
   obtain ⟨z1,rfl,_⟩:=h2.inv_int Try.underlying3
   obtain ⟨z2,rfl,_⟩:=h3.inv_int Try.underlying3
   obtain ⟨l,rfl⟩:=ih fun x hx=>h x (List.mem_cons_of_mem _ hx)
   exact ⟨(z1,z2)::l,rfl⟩
 obtain ⟨b,rfl⟩:=key C hall
 have hc:Try.prog.cellsOf 68=2:=by kernel_rfl
 rw[hc] at hS
 exact ⟨v,b,rfl,hS⟩
theorem uf (l:List (Int×Int)) (a n:Nat):jQ l a (n+1)=jQ l a n+(if ib l a n=true then 1 else 0):=by
 unfold jQ
 rw[List.range_succ,List.filter_append,List.length_append]
 cases h:ib l a n with
 |true=>simp[h]
 |false=>simp[h]
set_option maxHeartbeats 1000000 in
theorem assignEnough (m:NH) (l:List NV) (h:TyA Try.prog m [66,3] l):∃m',bX Try.prog S0 7 l m (.bool true) m':=by
 obtain ⟨x,r,rfl,h1,h⟩:=h.inv1 (by intro fs q;rw[Try.underlying66] at q;simp at q)
 obtain ⟨x2,r2,rfl,h2,h⟩:=h.inv1 (by intro fs q;rw[Try.underlying3] at q;simp at q)
 obtain rfl:=h.inv0
 obtain ⟨vl,sp,hx,hl⟩:=rO h1
 have hxv:vl=x:=by simpa using hx.symm
 subst hxv
 obtain ⟨rg,hx2,-⟩:=h2.inv_int Try.underlying3
 have hxv2:x2=ii rg:=by simpa using hx2
 subst hxv2
 have hal:∀m,bX Try.prog S0 29 [] m (.bool true) m:=fun m=>bX.kept rfl m
 have h:∃v' m',bX Try.prog S0 7 [vl,ii rg] m v' m'/\v'= .bool true:=by
  refine WF.ex fun K hK=> ?_
  refine WF.of_wpG (fun _=>rfl) oH (L:= [(.a .e,ii rg),(.e,vl)]) rfl ?_
  unfold AI
  have hlen:=hl.len
  rw[List.length_map] at hlen
  have hvs:=hl.same (n:=3)
  by_cases hn:60<sp.length
  ·simp (config:={maxSteps:=1000000}) (disch:=first|assumption|omega|(apply aj;omega)|(apply af;assumption)|(simp only[bf]<;>omega)) only[go_sem,seval,aD,(hal _).wf',hlen]
   exact hK _ _ rfl
  by_cases hr1:rg<1
  ·simp (config:={maxSteps:=1000000}) (disch:=first|assumption|omega|(apply aj;omega)|(apply af;assumption)|(simp only[bf]<;>omega)) only[go_sem,seval,aD,(hal _).wf',hlen]
   exact hK _ _ rfl
  by_cases hr2:16<rg
  ·simp (config:={maxSteps:=1000000}) (disch:=first|assumption|omega|(apply aj;omega)|(apply af;assumption)|(simp only[bf]<;>omega)) only[go_sem,seval,aD,(hal _).wf',hlen]
   exact hK _ _ rfl
  obtain ⟨R,rfl⟩:=Bp (show 0<=rg by omega)
  simp (config:={maxSteps:=1000000}) (disch:=first|assumption|omega|(apply aj;omega)|(apply af;assumption)|(simp only[bf]<;>omega)) only[go_sem,seval,aD,(hal _).wf',hlen]
  refine W.loop (fun f q=>∃T i,q=⟨T, [],none,m⟩/\NT.get D4.e T=some vl/\NT.get D4.e.a T=some (ii (R:Nat))/\NT.get D4.e.a.b T=some (ii (i:Nat))/\i+f=sp.length/\∀p∈sp.take i,0<=p.1/\p.1<=p.2) ?_ sp.length _ ⟨_,0,rfl,by simp only[go_sem,seval],by simp only[go_sem,seval],by simp only[go_sem,seval]<;>rfl,by omega,by simp⟩
  rintro f q ⟨T,i,rfl,t1,t2,t3,hif,hg⟩
  apply aI
  unfold rN
  change wp _ _ _ _ ⟨aq [] T, [],none,m⟩ _
  by_cases hi:i<sp.length
  ·obtain ⟨id,off,w,c,a1,a2,-,a3,a4⟩:=eJ hl hi
   have ef:cl sp i=sp[i].1:=by unfold cl;rw[Int.toNat_natCast,List.getElem?_eq_getElem hi];rfl
   have et:rA sp i=sp[i].2:=by unfold rA;rw[Int.toNat_natCast,List.getElem?_eq_getElem hi];rfl
   rw[ef] at a3
   rw[et] at a4
   by_cases h1:sp[i].1<0
   ·simp (config:={maxSteps:=1000000}) (disch:=first|assumption|omega|(apply aj;omega)|(apply af;assumption)|(simp only[bf]<;>omega)) only[go_sem,seval,t1,t2,t3,hlen,a1,a2,a3,a4,hvs]
    exact hK _ _ rfl
   by_cases h2:sp[i].2<sp[i].1
   ·simp (config:={maxSteps:=1000000}) (disch:=first|assumption|omega|(apply aj;omega)|(apply af;assumption)|(simp only[bf]<;>omega)) only[go_sem,seval,t1,t2,t3,hlen,a1,a2,a3,a4,hvs]
    exact hK _ _ rfl
   simp (config:={maxSteps:=1000000}) (disch:=first|assumption|omega|(apply aj;omega)|(apply af;assumption)|(simp only[bf]<;>omega)) only[go_sem,seval,t1,t2,t3,hlen,a1,a2,a3,a4,hvs]
   refine ⟨f - 1,by omega,_,i+1,by rfl,by simp only[go_sem,seval,t1],by simp only[go_sem,seval,t2],by simp only[go_sem,seval]<;>rfl,by omega,fun p hp=> ?_⟩
   rw[List.take_add_one,List.getElem?_eq_getElem hi,List.mem_append] at hp
   rcases hp with hp|hp
   ·exact hg p hp
   ·have hp:p=sp[i]:=by simpa using hp
    subst hp;omega
  ·rw[List.take_of_length_le (by omega)] at hg
   simp (config:={maxSteps:=1000000}) (disch:=first|assumption|omega|(apply aj;omega)|(apply af;assumption)|(simp only[bf]<;>omega)) only[go_sem,seval,t1,t2,t3,hlen]
   refine W.loop (fun f q=>∃T i,q=⟨T, [],none,m⟩/\NT.get D4.e T=some vl/\NT.get D4.e.a T=some (ii (R:Nat))/\NT.get D4.e.a.c T=some (ii (i:Nat))/\i+f=sp.length/\∀a,a<i->jQ sp a sp.length<=R) ?_ sp.length _ ⟨_,0,rfl,by simp only[go_sem,seval,t1],by simp only[go_sem,seval,t2],by simp only[go_sem,seval]<;>rfl,by omega,fun a ha=>by omega⟩
   clear t1 t2 t3 hif hi
   rintro f q ⟨T,i,rfl,t1,t2,t3,hif,hcn⟩
   apply aI
   unfold rE
   change wp _ _ _ _ ⟨aq [] T, [],none,m⟩ _
   by_cases hi:i<sp.length
   ·simp (config:={maxSteps:=1000000}) (disch:=first|assumption|omega|(apply aj;omega)|(apply af;assumption)|(simp only[bf]<;>omega)) only[go_sem,seval,t1,t2,t3,hlen]
    refine W.loop (fun f2 q=>∃T k,q=⟨T, [],none,m⟩/\NT.get D4.e T=some vl/\NT.get D4.e.a T=some (ii (R:Nat))/\NT.get D4.e.a.c T=some (ii (i:Nat))/\NT.get D4.e.b.a T=some (ii (k:Nat))/\NT.get D4.e.a.f T=some (ii (jQ sp i k:Nat))/\k+f2=sp.length/\jQ sp i k<=k) ?_ sp.length _ ⟨_,0,rfl,by simp only[go_sem,seval,t1],by simp only[go_sem,seval,t2],by simp only[go_sem,seval,t3],by simp only[go_sem,seval]<;>rfl,by simp only[go_sem,seval]<;>rfl,by omega,by simp[jQ]⟩
    rintro f2 q ⟨T2,k,rfl,u1,u2,u3,u4,u5,hkf,hck⟩
    apply aI
    unfold tZ
    change wp _ _ _ _ ⟨aq [] T2, [],none,m⟩ _
    by_cases hk:k<sp.length
    ·obtain ⟨id,off,w,c,a1,a2,-,a3,-⟩:=eJ hl hi
     obtain ⟨id',off',w',c',b1,b2,-,b3,b4⟩:=eJ hl hk
     have hsc:=uf sp i k
     by_cases h1:cl sp k<=cl sp i
     ·by_cases h2:cl sp i<=rA sp k
      ·rw[Bl (by unfold ib;simp[h1,h2])] at hsc
       simp (config:={maxSteps:=1000000}) (disch:=first|assumption|omega|(apply aj;omega)|(apply af;assumption)|(simp only[bf]<;>omega)) only[go_sem,seval,u1,u2,u3,u4,u5,hlen,a1,a2,a3,b1,b2,b3,b4,hvs]
       exact ⟨f2 - 1,by omega,_,k+1,by rfl,by simp only[go_sem,seval,u1],by simp only[go_sem,seval,u2],by simp only[go_sem,seval,u3],by simp only[go_sem,seval]<;>rfl,by simp only[go_sem,seval];rw[hsc];rfl,by omega,by omega⟩
      ·rw[Bk (by unfold ib;simp[h2])] at hsc
       simp (config:={maxSteps:=1000000}) (disch:=first|assumption|omega|(apply aj;omega)|(apply af;assumption)|(simp only[bf]<;>omega)) only[go_sem,seval,u1,u2,u3,u4,u5,hlen,a1,a2,a3,b1,b2,b3,b4,hvs]
       exact ⟨f2 - 1,by omega,_,k+1,by rfl,by simp only[go_sem,seval,u1],by simp only[go_sem,seval,u2],by simp only[go_sem,seval,u3],by simp only[go_sem,seval]<;>rfl,by simp only[go_sem,seval,u5];rw[hsc,Nat.add_zero],by omega,by omega⟩
     ·rw[Bk (by unfold ib;simp[h1])] at hsc
      simp (config:={maxSteps:=1000000}) (disch:=first|assumption|omega|(apply aj;omega)|(apply af;assumption)|(simp only[bf]<;>omega)) only[go_sem,seval,u1,u2,u3,u4,u5,hlen,a1,a2,a3,b1,b2,b3,b4,hvs]
      exact ⟨f2 - 1,by omega,_,k+1,by rfl,by simp only[go_sem,seval,u1],by simp only[go_sem,seval,u2],by simp only[go_sem,seval,u3],by simp only[go_sem,seval]<;>rfl,by simp only[go_sem,seval,u5];rw[hsc,Nat.add_zero],by omega,by omega⟩
    ·have e:k=sp.length:=by omega
     subst e
     by_cases hgt:R<jQ sp i sp.length
     ·simp (config:={maxSteps:=1000000}) (disch:=first|assumption|omega|(apply aj;omega)|(apply af;assumption)|(simp only[bf]<;>omega)) only[go_sem,seval,u1,u2,u3,u4,u5,hlen]
      exact hK _ _ rfl
     ·simp (config:={maxSteps:=1000000}) (disch:=first|assumption|omega|(apply aj;omega)|(apply af;assumption)|(simp only[bf]<;>omega)) only[go_sem,seval,u1,u2,u3,u4,u5,hlen]
      refine ⟨f - 1,by omega,_,i+1,by rfl,by simp only[go_sem,seval,u1],by simp only[go_sem,seval,u2],by simp only[go_sem,seval]<;>rfl,by omega,fun a ha=> ?_⟩
      by_cases e:a=i
      ·subst e;omega
      ·exact hcn a (by omega)
   ·obtain ⟨v3,m3,r3,out,hO,hol,hC⟩:=tX hl (by omega) hg (R:=R) ⟨by omega,by omega⟩ fun a ha=>hcn a (by omega)
    have hlen3:=hO.sl.len
    rw[List.length_map,hol] at hlen3
    simp (config:={maxSteps:=1000000}) (disch:=first|assumption|omega|(apply aj;omega)|(apply af;assumption)|(simp only[bf]<;>omega)) only[go_sem,seval,t1,t2,t3,hlen,r3.wf',hlen3]
    refine W.loop (fun f q=>∃T i,q=⟨T, [],none,m3⟩/\NT.get D4.e.b.b T=some v3/\NT.get D4.e.b.c T=some (ii (i:Nat))/\i+f=sp.length) ?_ sp.length _ ⟨_,0,rfl,by simp only[go_sem,seval],by simp only[go_sem,seval]<;>rfl,by omega⟩
    rintro f q ⟨T,j,rfl,u1,u2,hjf⟩
    apply aI
    unfold uh
    change wp _ _ _ _ ⟨aq [] T, [],none,m3⟩ _
    by_cases hj:j<sp.length
    ·obtain ⟨id,off,w,c,a1,a2,a3,a4,a5⟩:=hO.sl.at j (by rw[List.length_map];omega)
     rw[List.getElem_map] at a5
     have c0:c[off+0]? =some (.bool false):=cq a5 0 (by omega)
     simp (config:={maxSteps:=1000000}) (disch:=first|assumption|omega|(apply aj;omega)|(apply af;assumption)|(simp only[bf]<;>omega)) only[go_sem,seval,u1,u2,hlen3,a1,a2,c0]
     exact ⟨f - 1,by omega,_,j+1,by rfl,by simp only[go_sem,seval,u1],by simp only[go_sem,seval]<;>rfl,by omega⟩
    ·simp (config:={maxSteps:=1000000}) (disch:=first|assumption|omega|(apply aj;omega)|(apply af;assumption)|(simp only[bf]<;>omega)) only[go_sem,seval,u1,u2,hlen3]
     exact hK _ _ rfl
 obtain ⟨v',m',h,rfl⟩:=h
 exact ⟨m',h⟩
end FR
