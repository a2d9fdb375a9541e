/- Contracts of functions that the law SourcePlays reaches, part 0. -/
import Derived.Test.YtcpilcplobihkaaGreatSpc
set_option linter.unusedSimpArgs false
set_option linter.unusedVariables false
open Go Nm Go.Proofs
namespace FR
theorem one {a b:D4} (h:a∈ [b]):a=b:=by simpa using h
section
variable {l:List (AK×NO)} {k j:Nat} {m M:NH} {id:D4} {o:NO} {S:List D4}
theorem gL (ho:am m id) (h:hp ((.o id,o)::l) k m=M):M.get id=some o:=by rw[←h];exact (aF ho).trans ap
theorem jR (h:hp l k m=M) (hs:∀i,i∈aB l->am m i->i∈S):Chg S m M:=by rw[←h];exact (cE _ _ _).weak hs
theorem ba (h:hp l k m=M) (hs:aB l=S):Chg S m M:=by rw[←h];exact aC hs
theorem bw (h:hp l k m=M) (hj:j<k):am M (na m j):=by rw[←h];exact bv hj
theorem bz (h:hp l k m=M):M.get (na m j)=jG j l (m.get (na m j)):=by rw[←h];exact bo
end
abbrev u8 (c:Nat):NV:= .int .u8 (.lit (c:Int))
abbrev u64 (n:Nat):NV:= .int .u64 (.lit (n:Int))
inductive Ex where
 |mk (k:Int) (n o:Nat) (s:List Nat) (ks:List Ex)
inductive Stm where
 |mk (k a:Int) (nm ce:List Nat) (i x y:Ex) (b e:List Stm)
theorem Ex.ind {P:Ex->Prop} (h:∀k n o s ks,(∀x∈ks,P x)->P (.mk k n o s ks)):∀x,P x
 | .mk k n o s ks=>h k n o s ks fun x _=>Ex.ind h x
theorem Stm.ind {P:Stm->Prop} (h:∀k a nm ce i x y b e,(∀s∈b,P s)->(∀s∈e,P s)->P (.mk k a nm ce i x y b e)):∀s,P s
 | .mk k a nm ce i x y b e=>h k a nm ce i x y b e (fun s _=>Stm.ind h s) (fun s _=>Stm.ind h s)
inductive RE (m:NH) (T:D4->Prop):Ex->List NV->Prop
 |mk {k:Int} {n o:Nat} {s:List Nat} {ks:List Ex} {v:NV} {C:List (List NV)} (hv:Sl m v 5 C) (hT:∀i∈ids v,T i) (hl:C.length=ks.length) (h:∀(i:Nat) (x:Ex) (c:List NV),ks[i]? =some x->C[i]? =some c->RE m T x c):
  RE m T (.mk k n o s ks) [ii k,u64 n,u8 o,.str s,v]
inductive RS (m:NH) (T:D4->Prop):Stm->List NV->Prop
 |mk {k a:Int} {nm ce:List Nat} {i x y:Ex} {b e:List Stm} {ci cx cy:List NV} {vb ve:NV} {B E:List (List NV)} (hi:RE m T i ci) (hx:RE m T x cx) (hy:RE m T y cy)
  (hb:Sl m vb 21 B) (hbT:∀i∈ids vb,T i) (hbl:B.length=b.length) (hbR:∀(j:Nat) (s:Stm) (c:List NV),b[j]? =some s->B[j]? =some c->RS m T s c)
  (he:Sl m ve 21 E) (heT:∀i∈ids ve,T i) (hel:E.length=e.length) (heR:∀(j:Nat) (s:Stm) (c:List NV),e[j]? =some s->E[j]? =some c->RS m T s c):
  RS m T (.mk k a nm ce i x y b e) ([ii k,ii a,.str nm,.str ce]++ci++cx++cy++ [vb,ve])
def aX (T:D4->Prop) (m m':NH):Prop:=∀i,T i->am m i->m'.get i=m.get i/\am m' i
theorem lF {m m':NH} (h:Chg [] m m') (T:D4->Prop):aX T m m':=fun _ _ ho=>⟨h.get ho (by simp),h.old ho⟩
theorem aX.of {S:List D4} {m m':NH} {T:D4->Prop} (h:Chg S m m') (hT:∀i,T i->i∉S):aX T m m':=fun i hi ho=>⟨h.get ho (hT i hi),h.old ho⟩
theorem fN {m M:NH} {l:List (AK×NO)} {k:Nat} (h:Chg [] m M) (e:aB l= []):Chg [] m (hp l k M):=h.trans (aC e) (by simp)
theorem fF {m m':NH} {T:D4->Prop} {v:NV} {e:Nat} {C:List (List NV)} (h:Sl m v e C) (hT:∀i∈ids v,T i) (hs:aX T m m'):Sl m' v e C:=by
 obtain ⟨h0,⟨rfl,rfl⟩|⟨id,off,kc,w,c,rfl,h1,h2,h3,h4⟩⟩:=h
 ·exact ⟨h0,Or.inl ⟨rfl,rfl⟩⟩
 ·obtain ⟨g1,g2⟩:=hs id (hT id (List.mem_cons_self ..)) h2
  exact ⟨h0,Or.inr ⟨id,off,kc,w,c,rfl,g1.trans h1,g2,h3,h4⟩⟩
theorem RE.stays {m m':NH} {T:D4->Prop} (hs:aX T m m') {x:Ex} {c:List NV} (h:RE m T x c):RE m' T x c:=by
 induction h with
 |mk hv hT hl h ih=>exact .mk (fF hv hT hs) hT hl ih
theorem RE.weak {m:NH} {T T':D4->Prop} (hT':∀i,T i->T' i) {x:Ex} {c:List NV} (h:RE m T x c):RE m T' x c:=by
 induction h with
 |mk hv hT hl h ih=>exact .mk hv (fun i hi=>hT' i (hT i hi)) hl ih
theorem RS.stays {m m':NH} {T:D4->Prop} (hs:aX T m m') {x:Stm} {c:List NV} (h:RS m T x c):RS m' T x c:=by
 induction h with
 |mk hi hx hy hb hbT hbl hbR he heT hel heR ih1 ih2=>exact .mk (hi.stays hs) (hx.stays hs) (hy.stays hs) (fF hb hbT hs) hbT hbl ih1 (fF he heT hs) heT hel ih2
theorem RS.weak {m:NH} {T T':D4->Prop} (hT':∀i,T i->T' i) {x:Stm} {c:List NV} (h:RS m T x c):RS m T' x c:=by
 induction h with
 |mk hi hx hy hb hbT hbl hbR he heT hel heR ih1 ih2=>exact .mk (hi.weak hT') (hx.weak hT') (hy.weak hT') hb (fun i q=>hT' i (hbT i q)) hbl ih1 he (fun i q=>hT' i (heT i q)) hel ih2
structure SE (m:NH) (T:D4->Prop) (v:NV) (l:List Ex) (C:List (List NV)):Prop where
 sl:Sl m v 5 C
 hT:∀i∈ids v,T i
 len:C.length=l.length
 R:∀(i:Nat) (x:Ex) (c:List NV),l[i]? =some x->C[i]? =some c->RE m T x c
structure SS (m:NH) (T:D4->Prop) (v:NV) (l:List Stm) (C:List (List NV)):Prop where
 sl:Sl m v 21 C
 hT:∀i∈ids v,T i
 len:C.length=l.length
 R:∀(i:Nat) (x:Stm) (c:List NV),l[i]? =some x->C[i]? =some c->RS m T x c
theorem RE.inv {m:NH} {T:D4->Prop} {k:Int} {n o:Nat} {s:List Nat} {ks:List Ex} {c:List NV} (h:RE m T (.mk k n o s ks) c):∃v C,c= [ii k,u64 n,u8 o,.str s,v]/\SE m T v ks C:=by
 cases h with
 |mk hv hT hl h=>exact ⟨_,_,rfl,hv,hT,hl,h⟩
theorem RE.of {m:NH} {T:D4->Prop} {k:Int} {n o:Nat} {s:List Nat} {ks:List Ex} {v:NV} {C:List (List NV)} (h:SE m T v ks C):RE m T (.mk k n o s ks) [ii k,u64 n,u8 o,.str s,v]:= .mk h.sl h.hT h.len h.R
theorem RE.len {m:NH} {T:D4->Prop} {x:Ex} {c:List NV} (h:RE m T x c):c.length=5:=by cases h;rfl
theorem RS.len {m:NH} {T:D4->Prop} {x:Stm} {c:List NV} (h:RS m T x c):c.length=21:=by
 cases h with
 |mk hi hx hy=>simp[hi.len,hx.len,hy.len]
def Ex.k:Ex->Int| .mk k _ _ _ _=>k
def Ex.n:Ex->Nat| .mk _ n _ _ _=>n
def Ex.o:Ex->Nat| .mk _ _ o _ _=>o
def Ex.s:Ex->List Nat| .mk _ _ _ s _=>s
def Ex.ks:Ex->List Ex| .mk _ _ _ _ ks=>ks
abbrev Ex.l (x:Ex) (v:NV):List NV:= [ii x.k,u64 x.n,u8 x.o,.str x.s,v]
theorem RE.inv' {m:NH} {T:D4->Prop} {x:Ex} {c:List NV} (h:RE m T x c):∃v C,c=x.l v/\SE m T v x.ks C:=by
 cases x;exact h.inv
theorem RS.inv {m:NH} {T:D4->Prop} {k a:Int} {nm ce:List Nat} {i x y:Ex} {b e:List Stm} {c:List NV} (h:RS m T (.mk k a nm ce i x y b e) c):
 ∃vi vx vy vb ve B E,c= [ii k,ii a,.str nm,.str ce,ii i.k,u64 i.n,u8 i.o,.str i.s,vi,ii x.k,u64 x.n,u8 x.o,.str x.s,vx,ii y.k,u64 y.n,u8 y.o,.str y.s,vy,vb,ve]/\
  RE m T i (i.l vi)/\RE m T x (x.l vx)/\RE m T y (y.l vy)/\SS m T vb b B/\SS m T ve e E:=by
 cases h with
 |mk hi hx hy hb hbT hbl hbR he heT hel heR=>
  obtain ⟨vi,Ci,rfl,-⟩:=hi.inv'
  obtain ⟨vx,Cx,rfl,-⟩:=hx.inv'
  obtain ⟨vy,Cy,rfl,-⟩:=hy.inv'
  exact ⟨vi,vx,vy,_,_,_,_,rfl,hi,hx,hy,⟨hb,hbT,hbl,hbR⟩,⟨he,heT,hel,heR⟩⟩
theorem SE.stays {m m':NH} {T:D4->Prop} (hs:aX T m m') {v:NV} {l:List Ex} {C:List (List NV)} (h:SE m T v l C):SE m' T v l C:=⟨fF h.sl h.hT hs,h.hT,h.len,fun i x c a b=>(h.R i x c a b).stays hs⟩
theorem SS.stays {m m':NH} {T:D4->Prop} (hs:aX T m m') {v:NV} {l:List Stm} {C:List (List NV)} (h:SS m T v l C):SS m' T v l C:=⟨fF h.sl h.hT hs,h.hT,h.len,fun i x c a b=>(h.R i x c a b).stays hs⟩
theorem SE.at {m:NH} {T:D4->Prop} {v:NV} {l:List Ex} {C:List (List NV)} (h:SE m T v l C) (i:Nat) (hi:i<l.length):∃c,C[i]? =some c/\RE m T l[i] c:=by
 have hc:i<C.length:=by rw[h.len];exact hi
 exact ⟨C[i],List.getElem?_eq_getElem hc,h.R i _ _ (List.getElem?_eq_getElem hi) (List.getElem?_eq_getElem hc)⟩
theorem SS.at {m:NH} {T:D4->Prop} {v:NV} {l:List Stm} {C:List (List NV)} (h:SS m T v l C) (i:Nat) (hi:i<l.length):∃c,C[i]? =some c/\RS m T l[i] c:=by
 have hc:i<C.length:=by rw[h.len];exact hi
 exact ⟨C[i],List.getElem?_eq_getElem hc,h.R i _ _ (List.getElem?_eq_getElem hi) (List.getElem?_eq_getElem hc)⟩
def zE:Ex:= .mk 0 0 0 [] []
theorem BK (m:NH) (T:D4->Prop) (k:Int) (n o:Nat) (s:List Nat):RE m T (.mk k n o s []) [ii k,u64 n,u8 o,.str s,.nils]:= .mk (C:= []) Sl.nil (by simp[ids]) rfl (by simp)
structure SV where
 (vi vx vy vb ve:NV)
def Stm.k:Stm->Int| .mk k _ _ _ _ _ _ _ _=>k
def Stm.a:Stm->Int| .mk _ a _ _ _ _ _ _ _=>a
def Stm.nm:Stm->List Nat| .mk _ _ s _ _ _ _ _ _=>s
def Stm.ce:Stm->List Nat| .mk _ _ _ s _ _ _ _ _=>s
def Stm.i:Stm->Ex| .mk _ _ _ _ x _ _ _ _=>x
def Stm.x:Stm->Ex| .mk _ _ _ _ _ x _ _ _=>x
def Stm.y:Stm->Ex| .mk _ _ _ _ _ _ x _ _=>x
def Stm.b:Stm->List Stm| .mk _ _ _ _ _ _ _ b _=>b
def Stm.e:Stm->List Stm| .mk _ _ _ _ _ _ _ _ e=>e
abbrev Stm.l (s:Stm) (w:SV):List NV:= [ii s.k,ii s.a,.str s.nm,.str s.ce,ii s.i.k,u64 s.i.n,u8 s.i.o,.str s.i.s,w.vi,ii s.x.k,u64 s.x.n,u8 s.x.o,.str s.x.s,w.vx,ii s.y.k,u64 s.y.n,u8 s.y.o,.str s.y.s,w.vy,w.vb,w.ve]
structure SP (m:NH) (T:D4->Prop) (s:Stm) (w:SV):Prop where
 i:RE m T s.i (s.i.l w.vi)
 x:RE m T s.x (s.x.l w.vx)
 y:RE m T s.y (s.y.l w.vy)
 b:∃B,SS m T w.vb s.b B
 e:∃E,SS m T w.ve s.e E
theorem RS.inv' {m:NH} {T:D4->Prop} {s:Stm} {c:List NV} (h:RS m T s c):∃w,c=s.l w/\SP m T s w:=by
 cases s
 obtain ⟨vi,vx,vy,vb,ve,B,E,rfl,h1,h2,h3,h4,h5⟩:=h.inv
 exact ⟨⟨vi,vx,vy,vb,ve⟩,rfl,h1,h2,h3,⟨B,h4⟩,⟨E,h5⟩⟩
abbrev jH (l:List (List Nat×Int)):List (List NV):=l.map fun c=> [.str c.1,ii c.2]
structure Ths (m:NH) (T:D4->Prop) (v:NV) (l:List (List Nat×List Stm)) (C:List (List NV)):Prop where
 sl:Sl m v 2 C
 hT:∀i∈ids v,T i
 len:C.length=l.length
 R:∀(i:Nat) (x:List Nat×List Stm) (c:List NV),l[i]? =some x->C[i]? =some c->∃vb B,c= [.str x.1,vb]/\SS m T vb x.2 B
theorem Ths.stays {m m':NH} {T:D4->Prop} (hs:aX T m m') {v:NV} {l:List (List Nat×List Stm)} {C:List (List NV)} (h:Ths m T v l C):Ths m' T v l C:=
 ⟨fF h.sl h.hT hs,h.hT,h.len,fun i x c a b=>by obtain ⟨vb,B,e,h⟩:=h.R i x c a b;exact ⟨vb,B,e,h.stays hs⟩⟩
theorem Ths.at {m:NH} {T:D4->Prop} {v:NV} {l:List (List Nat×List Stm)} {C:List (List NV)} (h:Ths m T v l C) (i:Nat) (hi:i<l.length):∃vb B id off w c,SS m T vb l[i].2 B/\fU 2 v (.int .i64 (.lit (i:Int)))= .val (.ptr id off)/\m.get id=some (.cells w c)/\am m id/\off+2<=c.length/\(c.drop off).take 2= [.str l[i].1,vb]:=by
 have hc:i<C.length:=by rw[h.len];exact hi
 obtain ⟨vb,B,e,hS⟩:=h.R i _ _ (List.getElem?_eq_getElem hi) (List.getElem?_eq_getElem hc)
 obtain ⟨id,off,w,c,a1,a2,a3,a4,a5⟩:=h.sl.at i hc
 exact ⟨vb,B,id,off,w,c,hS,a1,a2,a3,a4,a5.trans e⟩
structure Prg where
 cs:List (List Nat×Int)
 ts:List (List Nat×List Stm)
 r:List Stm
structure RP (m:NH) (T:D4->Prop) (p:Prg) (vc vt vr:NV):Prop where
 c:Sl m vc 2 (jH p.cs)
 cT:∀i∈ids vc,T i
 t:∃C,Ths m T vt p.ts C
 r:∃C,SS m T vr p.r C
theorem RP.stays {m m':NH} {T:D4->Prop} (hs:aX T m m') {p:Prg} {vc vt vr:NV} (h:RP m T p vc vt vr):RP m' T p vc vt vr:=
 ⟨fF h.c h.cT hs,h.cT,let ⟨C,q⟩:=h.t;⟨C,q.stays hs⟩,let ⟨C,q⟩:=h.r;⟨C,q.stays hs⟩⟩
mutual
def Ex.names:Ex->List (List Nat)
 | .mk k _ _ s ks=>if k=1 then [s] else if k=2 then bX ks else []
def bX:List Ex->List (List Nat)
 | []=> []
 |x::xs=>x.names++bX xs
end
mutual
def Stm.all:Stm->List Stm
 | .mk k a nm ce i x y b e=> .mk k a nm ce i x y b e::((if k=6∨k=7 then bg b else [])++(if k=6 then bg e else []))
def bg:List Stm->List Stm
 | []=> []
 |s::l=>s.all++bg l
end
def Stm.own:Stm->List (List Nat)
 | .mk k _ nm _ i x y _ _=>(if k=0∨k=1∨k=3 then [nm] else [])++((if k=1∨k=2∨k=3 then i.names else [])++((if k=0∨k=2∨k=3∨k=5∨k=6∨k=7 then x.names else [])++(if k=3 then y.names else [])))
def locals (l:List Stm):List (List Nat):=((bg l).flatMap Stm.own).foldl aL []
mutual
def Ex.sz:Ex->Nat
 | .mk _ _ _ _ ks=>1+jV ks
def jV:List Ex->Nat
 | []=>0
 |x::xs=>x.sz+jV xs
end
mutual
def Stm.sz:Stm->Nat
 | .mk _ _ _ _ i x y b e=>1+i.sz+x.sz+y.sz+cI b+cI e
def cI:List Stm->Nat
 | []=>0
 |s::l=>s.sz+cI l
end
theorem LL (x:Ex):1<=x.sz:=by cases x;rw[Ex.sz];omega
theorem nk (ks:List Ex):ks.length<=jV ks:=by
 induction ks with
 |nil=>simp
 |cons x ks ih=>have:=LL x;rw[jV,List.length_cons];omega
theorem Iw (x:Stm):1<=x.sz:=by cases x;rw[Stm.sz];omega
theorem lc (ks:List Stm):ks.length<=cI ks:=by
 induction ks with
 |nil=>simp
 |cons x ks ih=>have:=Iw x;rw[cI,List.length_cons];omega
theorem cF:∀x:Ex,x.names.length<=x.sz:=by
 apply Ex.ind
 intro k n o s ks ih
 rw[Ex.names,Ex.sz]
 have:∀ks:List Ex,(∀x∈ks,x.names.length<=x.sz)->(bX ks).length<=jV ks:=by
  intro ks
  induction ks with
  |nil=>intro _;simp[bX]
  |cons x xs ih=>
   intro h
   have h1:=h x (List.mem_cons_self ..)
   have h2:=ih fun y hy=>h y (List.mem_cons_of_mem _ hy)
   rw[bX,jV,List.length_append];omega
 have:=this ks ih
 split
 ·simp
 ·split
  ·omega
  ·simp
theorem pO (a b:List Ex):bX (a++b)=bX a++bX b:=by
 induction a with
 |nil=>rfl
 |cons x a ih=>rw[List.cons_append,bX,bX,ih,List.append_assoc]
theorem mC (a b:List Stm):bg (a++b)=bg a++bg b:=by
 induction a with
 |nil=>rfl
 |cons x a ih=>rw[List.cons_append,bg,bg,ih,List.append_assoc]
noncomputable def S0:Nat->List NV->Option NV:=Ng 26 [] (.bool true)<|Qu
abbrev tf (l:List Int):List (List NV):=l.map fun z=> [ii z]
abbrev bE (l:List (List Nat)):List (List NV):=l.map fun s=> [.str s]
def bH {α:Type} [DecidableEq α] (l:List α) (x:α):Int:=match l.findIdx? (fun a=>decide (x=a)) with|some i=>(i:Int)|none=>-1
theorem fi {α:Type} [DecidableEq α] {l:List α} {x:α} {i:Nat} (hi:i<l.length) (h:x=l[i]) (hn:∀j (hj:j<i),x≠l[j]'(by omega)):bH l x=i:=by
 unfold bH
 rw[List.findIdx?_eq_some_iff_getElem.mpr ⟨hi,by simp[h],fun j hj=>by simpa using hn j hj⟩]
theorem dZ {α:Type} [DecidableEq α] {l:List α} {x:α} (hn:∀j (hj:j<l.length),x≠l[j]):bH l x=-1:=by
 unfold bH
 rw[List.findIdx?_eq_none_iff.mpr]
 intro y hy
 obtain ⟨j,hj,rfl⟩:=List.getElem_of_mem hy
 simpa using hn j hj
theorem fK {α:Type} [DecidableEq α] {l:List α} {x:α}:0<=bH l x↔x∈l:=by
 constructor
 ·intro h
  rcases Decidable.em (x∈l) with q|q
  ·exact q
  ·rw[dZ fun j hj e=>q (by rw[e];exact List.getElem_mem hj)] at h;omega
 ·intro h
  unfold bH
  cases hf:l.findIdx? (fun a=>decide (x=a)) with
  |some i=>dsimp only;omega
  |none=>have:=List.findIdx?_eq_none_iff.mp hf x h;simp at this
theorem kK {α:Type} [DecidableEq α] {l:List α} {x:α}:bH l x<l.length/\-1<=bH l x:=by
 unfold bH
 cases hf:l.findIdx? (fun a=>decide (x=a)) with
 |some i=>obtain ⟨h,-⟩:=List.findIdx?_eq_some_iff_getElem.mp hf;dsimp only;omega
 |none=>dsimp only;omega
theorem B3 {m:NH} {v:NV} {l:List Int} (hv:Sl m v 1 (tf l)) (hsz:l.length<=1099511627776) (x:Int):aS Tryz.prog S0 148 [v,ii x] m (ii (bH l x)) m:=by
 have h:∃r m',aS Tryz.prog S0 148 [v,ii x] m r m'/\r=ii (bH l x)/\m'=m:=by
  refine WF.ex fun K hK=> ?_
  refine WF.of_wpG (fun _=>rfl) sU (L:= [(.a .e,ii x),(.e,v)]) rfl ?_
  unfold Du
  have hlen:=hv.len
  rw[List.length_map] at hlen
  simp (disch:=first|assumption|omega) only[go_sem,seval,hlen]
  refine W.loop (fun k d=>∃t i,d=⟨t, [],none,hp [] 0 m⟩/\NT.get D4.e t=some v/\NT.get D4.e.a t=some (ii x)/\NT.get D4.e.a.c t=some (ii l.length)/\NT.get D4.e.a.f t=some (ii (i:Nat))/\i+k=l.length/\∀j (hj:j<i) (hl:j<l.length),x≠l[j]) ?_ l.length _ ⟨_,0,rfl,by simp only[go_sem,seval],by simp only[go_sem,seval],by simp only[go_sem,seval],by simp only[go_sem,seval]<;>rfl,by omega,by simp⟩
  rintro k d ⟨t,i,rfl,g1,g2,g3,g4,hik,hn⟩
  apply ao
  unfold tQ
  change wp _ _ _ _ ⟨ai [] t, [],none,hp [] 0 m⟩ _
  by_cases hi:i<l.length
  ·obtain ⟨id,off,w,c,a1,a2,a3,a4,a5⟩:=hv.at i (by simpa using hi)
   rw[List.getElem_map] at a5
   have c0:=aA a5 0 (by omega)
   rw[Nat.add_zero] at c0
   by_cases he:x=l[i]
   ·have he':decide (x=l[i])=true:=Rl he
    simp (disch:=first|assumption|omega) only[go_sem,seval,g1,g2,g3,g4,a1,a2,c0,he']
    exact hK _ _ ⟨by rw[fi hi he fun j hj=>hn j hj (by omega)],aa m⟩
   ·have he':decide (x=l[i])=false:=Rk he
    simp (disch:=first|assumption|omega) only[go_sem,seval,g1,g2,g3,g4,a1,a2,c0,he']
    refine ⟨k - 1,by omega,_,i+1,by rfl, ?_, ?_, ?_, ?_,by omega, ?_⟩
    ·simp (disch:=first|assumption|omega) only[go_sem,seval,g1]
    ·simp (disch:=first|assumption|omega) only[go_sem,seval,g2]
    ·simp (disch:=first|assumption|omega) only[go_sem,seval,g3]
    ·simp (disch:=first|assumption|omega) only[go_sem,seval]<;>rfl
    ·intro j hj hl
     rcases Nat.lt_or_ge j i with h|h
     ·exact hn j h hl
     ·have:j=i:=by omega
      subst this;exact he
  ·simp (disch:=first|assumption|omega) only[go_sem,seval,g1,g2,g3,g4]
   exact hK _ _ ⟨by rw[dZ fun j hj=>hn j (by omega) hj],aa m⟩
 obtain ⟨r,m',h1,rfl,rfl⟩:=h
 exact h1
theorem lJ {m:NH} {v:NV} {l:List (List Nat)} (hv:Sl m v 1 (bE l)) (hsz:l.length<=1099511627776) (x:List Nat):aS Tryz.prog S0 89 [v,(.str x)] m (ii (bH l x)) m:=by
 have h:∃r m',aS Tryz.prog S0 89 [v,(.str x)] m r m'/\r=ii (bH l x)/\m'=m:=by
  refine WF.ex fun K hK=> ?_
  refine WF.of_wpG (fun _=>rfl) AT (L:= [(.a .e,(.str x)),(.e,v)]) rfl ?_
  unfold K9
  have hlen:=hv.len
  rw[List.length_map] at hlen
  simp (disch:=first|assumption|omega) only[go_sem,seval,hlen]
  refine W.loop (fun k d=>∃t i,d=⟨t, [],none,hp [] 0 m⟩/\NT.get D4.e t=some v/\NT.get D4.e.a t=some ((.str x))/\NT.get D4.e.a.c t=some (ii l.length)/\NT.get D4.e.a.f t=some (ii (i:Nat))/\i+k=l.length/\∀j (hj:j<i) (hl:j<l.length),x≠l[j]) ?_ l.length _ ⟨_,0,rfl,by simp only[go_sem,seval],by simp only[go_sem,seval],by simp only[go_sem,seval],by simp only[go_sem,seval]<;>rfl,by omega,by simp⟩
  rintro k d ⟨t,i,rfl,g1,g2,g3,g4,hik,hn⟩
  apply ao
  unfold z0
  change wp _ _ _ _ ⟨ai [] t, [],none,hp [] 0 m⟩ _
  by_cases hi:i<l.length
  ·obtain ⟨id,off,w,c,a1,a2,a3,a4,a5⟩:=hv.at i (by simpa using hi)
   rw[List.getElem_map] at a5
   have c0:=aA a5 0 (by omega)
   rw[Nat.add_zero] at c0
   by_cases he:x=l[i]
   ·have he':decide (x=l[i])=true:=Rl he
    simp (disch:=first|assumption|omega) only[go_sem,seval,g1,g2,g3,g4,a1,a2,c0,he']
    exact hK _ _ ⟨by rw[fi hi he fun j hj=>hn j hj (by omega)],aa m⟩
   ·have he':decide (x=l[i])=false:=Rk he
    simp (disch:=first|assumption|omega) only[go_sem,seval,g1,g2,g3,g4,a1,a2,c0,he']
    refine ⟨k - 1,by omega,_,i+1,by rfl, ?_, ?_, ?_, ?_,by omega, ?_⟩
    ·simp (disch:=first|assumption|omega) only[go_sem,seval,g1]
    ·simp (disch:=first|assumption|omega) only[go_sem,seval,g2]
    ·simp (disch:=first|assumption|omega) only[go_sem,seval,g3]
    ·simp (disch:=first|assumption|omega) only[go_sem,seval]<;>rfl
    ·intro j hj hl
     rcases Nat.lt_or_ge j i with h|h
     ·exact hn j h hl
     ·have:j=i:=by omega
      subst this;exact he
  ·simp (disch:=first|assumption|omega) only[go_sem,seval,g1,g2,g3,g4]
   exact hK _ _ ⟨by rw[dZ fun j hj=>hn j (by omega) hj],aa m⟩
 obtain ⟨r,m',h1,rfl,rfl⟩:=h
 exact h1
theorem re {m:NH} {v:NV} {l:List Int} (hv:Sl m v 1 (tf l)) (hsz:l.length<=1099511627776) (x:Int):aS Tryz.prog S0 128 [v,ii x] m (.bool (decide (x∈l))) m:=by
 have h:∃r m',aS Tryz.prog S0 128 [v,ii x] m r m'/\r= .bool (decide (x∈l))/\m'=m:=by
  refine WF.ex fun K hK=> ?_
  refine WF.of_wpG (fun _=>rfl) tH (L:= [(.a .e,ii x),(.e,v)]) rfl ?_
  unfold F1
  simp (disch:=first|assumption|omega) only[go_sem,seval,aa,(B3 hv hsz x).wf']
  exact hK _ _ ⟨by simp only[fK],rfl⟩
 obtain ⟨r,m',h1,rfl,rfl⟩:=h
 exact h1
theorem rI {m:NH} {v:NV} {l:List (List Nat)} (hv:Sl m v 1 (bE l)) (hsz:l.length<=1099511627776) (x:List Nat):aS Tryz.prog S0 135 [v,(.str x)] m (.bool (decide (x∈l))) m:=by
 have h:∃r m',aS Tryz.prog S0 135 [v,(.str x)] m r m'/\r= .bool (decide (x∈l))/\m'=m:=by
  refine WF.ex fun K hK=> ?_
  refine WF.of_wpG (fun _=>rfl) tg (L:= [(.a .e,(.str x)),(.e,v)]) rfl ?_
  unfold Et
  simp (disch:=first|assumption|omega) only[go_sem,seval,aa,(lJ hv hsz x).wf']
  exact hK _ _ ⟨by simp only[fK],rfl⟩
 obtain ⟨r,m',h1,rfl,rfl⟩:=h
 exact h1
theorem I5 (m:NH) {v:NV} {l:List Int} (hv:Sl m v 1 (tf l)) (hsz:l.length<=1099511627776) {k:Int} {c:List NV} (hc:c.length=20):∃m',aS Tryz.prog S0 95 [.agg (ii k::c),v] m (.bool (decide (k∈l))) m'/\Chg [] m m':=by
 have h:∃r m',aS Tryz.prog S0 95 [.agg (ii k::c),v] m r m'/\r= .bool (decide (k∈l))/\Chg [] m m':=by
  refine WF.ex fun K hK=> ?_
  refine WF.of_wpG (fun _=>rfl) yS (L:= [(.a .e,v),(.e,.agg (ii k::c))]) rfl ?_
  unfold LJ
  have hC:Chg [] m (hp [(.n 0,.cells true (ii k::c))] 1 m):=aC rfl
  simp (disch:=first|assumption|omega) only[go_sem,seval,(re (hv.chg hC fun _ _=>by simp) hsz k).wf']
  exact hK _ _ ⟨rfl,hC⟩
 obtain ⟨r,m',h1,rfl,h2⟩:=h
 exact ⟨m',h1,h2⟩
def bC (m:NH) (v v':NV):Prop:=∀i∈ids v',i∈ids v∨¬am m i
theorem bC.refl (m:NH) (v:NV):bC m v v:=fun _ h=>Or.inl h
theorem bC.trans {m m':NH} {v v' v'':NV} (h:bC m v v') (h':bC m' v' v'') (ho:∀i,am m i->am m' i):bC m v v'':=fun i hi=>by
 rcases h' i hi with q|q
 ·exact h i q
 ·exact Or.inr fun o=>q (ho i o)
theorem bC.chg {m m' m'':NH} {v v':NV} (h:bC m v v') (hC:Chg (ids v) m m') (hC':Chg (ids v') m' m''):Chg (ids v) m m'':=hC.trans hC' fun i hi ho=>(h i hi).elim _root_.id fun q=>Rh ho q
theorem Hr (l:List (List Nat)) (s:List Nat):(aL l s).length<=l.length+1:=by unfold aL;split<;>simp
theorem cr (more:List (List Nat)):∀l:List (List Nat),(more.foldl aL l).length<=l.length+more.length:=by
 induction more with
 |nil=>intro l;simp
 |cons s more ih=>intro l;have:=ih (aL l s);have:=Hr l s;simp only[List.foldl_cons,List.length_cons];omega
theorem nS (l:List (List Nat)) (s:List Nat):bE (l++ [s])=bE l++ [[.str s]]:=by simp
theorem Bn {B m:NH} {v w:NV} {l more:List (List Nat)} (hv:aU B m v 1 (bE l)) (hw:Sl m w 1 (bE more)) (hd:∀i∈ids w,i∉ids v) (hB:∀id,am B id->am m id) (hsz:l.length+more.length<=1000000000) {t:Tm}
 (g1:NT.get D4.e t=some v) (g2:NT.get D4.e.a.c t=some w) (g3:NT.get D4.e.a.f t=some (ii more.length)) (g4:NT.get D4.e.b.a t=some (ii 0)) {Q:Out->Dyn->Prop}
 (hQ:∀t' M v',NT.get D4.e t'=some v'->aU B M v' 1 (bE (more.foldl aL l))->Chg (ids v) m M->bC m v v'->Q (.exit 0) ⟨ai [] t', [],none,M⟩):
 W Tryz.prog S0 none pz.loop ⟨t, [],none,m⟩ Q:=by
 refine W.loop (fun k d=>∃t M i v',d=⟨t, [],none,M⟩/\NT.get D4.e t=some v'/\NT.get D4.e.a.c t=some w/\NT.get D4.e.a.f t=some (ii more.length)/\NT.get D4.e.b.a t=some (ii (i:Nat))/\i+k=more.length/\aU B M v' 1 (bE ((more.take i).foldl aL l))/\Chg (ids v) m M/\bC m v v') ?_ more.length _ ⟨t,m,0,v,rfl,g1,g2,g3,g4,by omega,hv,(Chg.refl m).weak (by simp),bC.refl m v⟩
 rintro k d ⟨t,M,i,v',rfl,g1,g2,g3,g4,hik,hv,hC,hF⟩
 apply ao
 unfold pz
 change wp _ _ _ _ ⟨ai [] t, [],none,M⟩ _
 by_cases hi:i<more.length
 ·have hwM:=hw.chg hC hd
  obtain ⟨id,off,wr,c,a1,a2,a3,a4,a5⟩:=hwM.at i (by simpa using hi)
  rw[List.getElem_map] at a5
  have c0:=aA a5 0 (by omega)
  rw[Nat.add_zero] at c0
  have hle:=cr (more.take i) l
  rw[List.length_take] at hle
  have hct:=rI hv.sl (by omega) more[i]
  have htk:(more.take (i+1)).foldl aL l=aL ((more.take i).foldl aL l) more[i]:=by
   rw[List.take_add_one,List.getElem?_eq_getElem hi,Option.toList_some,List.foldl_append];rfl
  by_cases hin:more[i]∈(more.take i).foldl aL l
  ·rw[Rl hin] at hct
   simp (disch:=first|assumption|omega) only[go_sem,seval,g1,g2,g3,g4,a1,a2,c0,hct.wf']
   refine ⟨k - 1,by omega,_,M,i+1,v',by rfl, ?_, ?_, ?_, ?_,by omega, ?_,hC,hF⟩
   ·simp (disch:=first|assumption|omega) only[go_sem,seval,g1]
   ·simp (disch:=first|assumption|omega) only[go_sem,seval,g2]
   ·simp (disch:=first|assumption|omega) only[go_sem,seval,g3]
   ·simp (disch:=first|assumption|omega) only[go_sem,seval]<;>rfl
   ·rw[htk,show aL _ _=_ from Rj hin];exact hv
  ·rw[Rk hin] at hct
   rw[←aa M] at hct ⊢
   simp (disch:=first|assumption|omega|(simp only[aI]<;>omega)) only[go_sem,seval,g1,g2,g3,g4,a1,a2,c0,hct.wf']
   have hC1:Chg [] M (hp [(.n 0,.cells true [.str more[i]])] 1 M):=aC rfl
   refine fm (hv.chg hC1 fun _ _=>by simp) bo (bv (by omega)) rfl (fun i hi=>hC1.old (hC.old (hB i hi))) (by simp;omega) (by simp;omega) ?_
   intro v2 M2 hv2 hC2 hF2
   simp (disch:=first|assumption|omega) only[go_sem,seval,g1,g2,g3,g4]
   have hF1:bC M v' v2:=fun i hi=>(hF2 i hi).imp _root_.id fun q o=>q (hC1.old o)
   have hC3:Chg (ids v') M M2:=(hC1.weak (by simp)).trans hC2 fun _ h _=>h
   refine ⟨k - 1,by omega,_,M2,i+1,v2,by rfl, ?_, ?_, ?_, ?_,by omega, ?_,hF.chg hC hC3,hF.trans hF1 fun i hi=>hC.old hi⟩
   ·simp (disch:=first|assumption|omega) only[go_sem,seval]
   ·simp (disch:=first|assumption|omega) only[go_sem,seval,g2]
   ·simp (disch:=first|assumption|omega) only[go_sem,seval,g3]
   ·simp (disch:=first|assumption|omega) only[go_sem,seval]<;>rfl
   ·rw[htk,show aL _ _=_ from Ri hin,nS];exact hv2
 ·simp (disch:=first|assumption|omega) only[go_sem,seval,g1,g2,g3,g4]
  have e:(more.take i)=more:=List.take_of_length_le (by omega)
  rw[e] at hv
  refine hQ _ _ v' ?_ hv hC hF
  simp (disch:=first|assumption|omega) only[go_sem,seval,uC,g1]
theorem wT {B m:NH} {v w:NV} {l more:List (List Nat)} (hv:aU B m v 1 (bE l)) (hw:Sl m w 1 (bE more)) (hd:∀i∈ids w,i∉ids v) (hB:∀id,am B id->am m id) (hsz:l.length+more.length<=1000000000):
 ∃v' m',aS Tryz.prog S0 101 [v,w] m v' m'/\aU B m' v' 1 (bE (more.foldl aL l))/\Chg (ids v) m m'/\bC m v v':=by
 refine WF.ex fun K hK=> ?_
 refine WF.of_wpG (fun _=>rfl) tP (L:= [(.a .e,w),(.e,v)]) rfl ?_
 unfold Fu
 have hlen:=hw.len
 rw[List.length_map] at hlen
 simp (disch:=first|assumption|omega) only[go_sem,seval,hlen,aa]
 refine Bn hv hw hd hB hsz (by simp only[go_sem,seval]) (by simp only[go_sem,seval]) (by simp only[go_sem,seval]) (by simp only[go_sem,seval]) ?_
 intro t' M v' g1 h1 h2 h3
 simp (disch:=first|assumption|omega) only[go_sem,seval,g1]
 exact hK _ _ ⟨h1,h2,h3⟩
def Rd (x:Ex):Prop:=∀{m0:NH} {T:D4->Prop} {c:List NV} {B m:NH} {v:NV} {l:List (List Nat)},RE m0 T x c->Chg [] m0 m->aU B m v 1 (bE l)->(∀i,am m0 i->am B i)->(∀i,am B i->am m i)->l.length+x.sz<=1000000000->
 ∃v' m',aS Tryz.prog S0 136 [v,.agg c] m v' m'/\aU B m' v' 1 (bE (l++x.names))/\Chg (ids v) m m'/\bC m v v'
theorem jd {m0 B m m':NH} {v:NV} {e:Nat} {C:List (List NV)} (hv:aU B m v e C) (h0:∀i,am m0 i->am B i) (hC0:Chg [] m0 m) (hC:Chg (ids v) m m'):Chg [] m0 m':=
 hC0.trans hC fun i hi ho=>Rh (h0 i ho) (hv.new i hi)
theorem iy {ks:List Ex} {i:Nat} (hi:i<ks.length):bX (ks.take (i+1))=bX (ks.take i)++ks[i].names:=by
 rw[List.take_add_one,List.getElem?_eq_getElem hi,Option.toList_some,pO,bX,bX,List.append_nil]
theorem s9 (ks:List Ex) (i:Nat) (hi:i<ks.length):(bX (ks.take i)).length+ks[i].sz<=jV ks:=by
 induction ks generalizing i with
 |nil=>simp at hi
 |cons x ks ih=>
  cases i with
  |zero=>simp[bX,jV]
  |succ i=>
   have h1:=cF x
   have:=ih i (by simpa using hi)
   simp only[List.take_succ_cons,bX,jV,List.length_append,List.getElem_cons_succ];omega
theorem vE {m0:NH} {T:D4->Prop} {ks:List Ex} {vk:NV} {C:List (List NV)} (hS:SE m0 T vk ks C) (ih:∀x∈ks,Rd x) {B m:NH} {v:NV} {l:List (List Nat)} (hC0:Chg [] m0 m) (hv:aU B m v 1 (bE l)) (h0:∀i,am m0 i->am B i) (hB:∀i,am B i->am m i)
 (hsz:l.length+jV ks<=1000000000) {t:Tm} (g1:NT.get D4.e t=some v) (g2:NT.get D4.e.f.c t=some vk) (g3:NT.get D4.e.f.f t=some (ii ks.length)) (g4:NT.get D4.e.a.a.a t=some (ii 0)) {Q:Out->Dyn->Prop}
 (hQ:∀t' M v',NT.get D4.e t'=some v'->aU B M v' 1 (bE (l++bX ks))->Chg (ids v) m M->bC m v v'->Q (.exit 1) ⟨ai [] t', [],none,M⟩):
 W Tryz.prog S0 none pr.loop ⟨t, [],none,m⟩ Q:=by
 refine W.loop (fun k d=>∃t M i v',d=⟨t, [],none,M⟩/\NT.get D4.e t=some v'/\NT.get D4.e.f.c t=some vk/\NT.get D4.e.f.f t=some (ii ks.length)/\NT.get D4.e.a.a.a t=some (ii (i:Nat))/\i+k=ks.length/\aU B M v' 1 (bE (l++bX (ks.take i)))/\Chg (ids v) m M/\bC m v v') ?_ ks.length _ ⟨t,m,0,v,rfl,g1,g2,g3,g4,by omega,by simpa [bX] using hv,(Chg.refl m).weak (by simp),bC.refl m v⟩
 rintro k d ⟨t,M,i,v',rfl,g1,g2,g3,g4,hik,hv',hC,hF⟩
 apply ao
 unfold pr
 change wp _ _ _ _ ⟨ai [] t, [],none,M⟩ _
 have hCM:=jd hv h0 hC0 hC
 by_cases hi:i<ks.length
 ·have hSM:=(hS.stays (lF hCM T))
  obtain ⟨cx,hcx,hRx⟩:=hS.at i hi
  obtain ⟨id,off,wr,c,a1,a2,a3,a4,a5⟩:=hSM.sl.at i (by rw[hS.len];exact hi)
  have ecx:C[i]'(by rw[hS.len];exact hi)=cx:=by
   have:=List.getElem?_eq_getElem (l:=C) (i:=i) (by rw[hS.len];exact hi)
   rw[this] at hcx;injection hcx
  rw[ecx] at a5
  obtain ⟨vx,Cx,rfl,-⟩:=hRx.inv'
  have hszi:=s9 ks i hi
  rw[←aa M]
  have hl5:(ks[i].l vx).length=5:=rfl
  have hls:=nk ks
  have hl5':(ks[i].l vx).take 5=ks[i].l vx:=rfl
  simp (disch:=first|assumption|omega|(simp only[aI]<;>omega)) only[go_sem,seval,g1,g2,g3,g4,a1,a2,a5,hl5,hl5']
  generalize hM1:hp _ 1 M=M1
  have hC1:Chg [] M M1:=ba hM1 rfl
  refine WF.use (ih ks[i] (List.getElem_mem hi) hRx (hCM.trans hC1 (by simp)) (hv'.chg hC1 fun _ _=>by simp) h0 (fun i hi=>hC1.old (hC.old (hB i hi))) (by rw[List.length_append];omega)) ?_
  rintro v2 M2 ⟨hv2,hC2,hF2⟩
  simp (disch:=first|assumption|omega) only[go_sem,seval,g1,g2,g3,g4]
  have hC3:Chg (ids v') M M2:=(hC1.weak (by simp)).trans hC2 fun _ h _=>h
  refine ⟨k - 1,by omega,_,M2,i+1,v2,by rfl, ?_, ?_, ?_, ?_,by omega, ?_,hF.chg hC hC3,hF.trans (fun i hi=>(hF2 i hi).imp _root_.id fun q o=>q (hC1.old o)) fun i hi=>hC.old hi⟩
  ·simp (disch:=first|assumption|omega) only[go_sem,seval]
  ·simp (disch:=first|assumption|omega) only[go_sem,seval,g2]
  ·simp (disch:=first|assumption|omega) only[go_sem,seval,g3]
  ·simp (disch:=first|assumption|omega) only[go_sem,seval]<;>rfl
  ·rw[iy hi,←List.append_assoc];exact hv2
 ·simp (disch:=first|assumption|omega) only[go_sem,seval,g1,g2,g3,g4]
  have e:(ks.take i)=ks:=List.take_of_length_le (by omega)
  rw[e] at hv'
  refine hQ _ _ v' ?_ hv' hC hF
  simp (disch:=first|assumption|omega) only[go_sem,seval,uC,g1]
theorem DU:∀x,Rd x:=by
 apply Ex.ind
 intro kd n o s ks ih m0 T c B m v l hR hC0 hv h0 hB hsz
 obtain ⟨vk,C,rfl,hS⟩:=hR.inv
 rw[Ex.sz] at hsz
 refine WF.ex fun K hK=> ?_
 refine WF.of_wpG (fun _=>rfl) uD (L:= [(.a .e,.agg [ii kd,u64 n,u8 o,.str s,vk]),(.e,v)]) rfl ?_
 unfold D6
 have hC1:Chg [] m (hp [(.n 0,.cells true [ii kd,u64 n,u8 o,.str s,vk])] 1 m):=aC rfl
 have hlen:=(hS.stays (lF (hC0.trans hC1 (by simp)) T)).sl.len
 rw[hS.len] at hlen
 by_cases h1:kd=1
 ·subst h1
  simp (disch:=first|assumption|omega|(simp only[aI]<;>omega)) only[go_sem,seval]
  have hC2:Chg [] m (hp [(.n 1,.cells true [.str s]),(.n 0,.cells true [ii 1,u64 n,u8 o,.str s,vk])] 2 m):=aC rfl
  refine fm (hv.chg hC2 fun _ _=>by simp) bo (bv (by omega)) rfl (fun i hi=>hC2.old (hB i hi)) (by simp;omega) (by simp;omega) ?_
  intro v2 M2 hv2 hC3 hF2
  simp (disch:=first|assumption|omega) only[go_sem,seval]
  refine hK _ _ ⟨?_,(hC2.weak (by simp)).trans hC3 fun _ h _=>h,fun i hi=>(hF2 i hi).imp _root_.id fun q o=>q (hC2.old o)⟩
  rw[Ex.names,Rj rfl,nS];exact hv2
 ·by_cases h2:kd=2
  ·subst h2
   simp (disch:=first|assumption|omega) only[go_sem,seval,hlen]
   refine vE hS ih (hC0.trans hC1 (by simp)) (hv.chg hC1 fun _ _=>by simp) h0 (fun i hi=>hC1.old (hB i hi)) (by omega) (by simp only[go_sem,seval]) (by simp only[go_sem,seval]) (by simp only[go_sem,seval]) (by simp only[go_sem,seval]) ?_
   intro t' M v' g1 q1 q2 q3
   simp (disch:=first|assumption|omega) only[go_sem,seval,g1]
   refine hK _ _ ⟨?_,(hC1.weak (by simp)).trans q2 fun _ h _=>h,fun i hi=>(q3 i hi).imp _root_.id fun q o=>q (hC1.old o)⟩
   rw[Ex.names,Ri (by omega),Rj rfl];exact q1
  ·simp (disch:=first|assumption|omega) only[go_sem,seval]
   refine hK _ _ ⟨?_,hC1.weak (by simp),bC.refl m v⟩
   rw[Ex.names,Ri h1,Ri h2,List.append_nil];exact hv.chg hC1 fun _ _=>by simp
theorem ye (s:Stm):s.own=(if s.k=0∨s.k=1∨s.k=3 then [s.nm] else [])++((if s.k=1∨s.k=2∨s.k=3 then s.i.names else [])++((if s.k=0∨s.k=2∨s.k=3∨s.k=5∨s.k=6∨s.k=7 then s.x.names else [])++(if s.k=3 then s.y.names else []))):=by cases s;rfl
theorem tc (s:Stm):s.sz=1+s.i.sz+s.x.sz+s.y.sz+cI s.b+cI s.e:=by cases s;rfl
theorem Cv (l:List Int):(tf l).flatten=l.map ii:=by
 induction l with
 |nil=>rfl
 |cons a l ih=>show [ii a]++(tf l).flatten=_;rw[ih];rfl
theorem uY (M:NH) {k:Int} (l:List Int) {n:Nat} {c:List NV} (hc:c.length=20) (hn:n=l.length) (hl:l.length<=10):∃m',aS Tryz.prog S0 95 [.agg (ii k::c),.slc M.next 0 n 1 n] (M.add (.cells true (l.map ii))) (.bool (decide (k∈l))) m'/\Chg [] M m':=by
 subst hn
 have h:Sl (M.add (.cells true (l.map ii))) (.slc M.next 0 l.length 1 l.length) 1 (tf l):=
  (aU.of (B:=M) (by simp) (fun q=>Nat.lt_irrefl _ q) (NH.get_add_same M _) (iO M _) (Cv l).symm (by simp) (by simp)).sl
 obtain ⟨m',h1,h2⟩:=I5 _ h (by omega) (k:=k) hc
 exact ⟨m',h1,(Chg.add M _).trans h2 (by simp)⟩
theorem zI {m0 m:NH} {T:D4->Prop} {s:Stm} {c:List NV} (hR:RS m0 T s c) (hC0:Chg [] m0 m) (hsz:s.sz<=100000000):
 ∃v m',aS Tryz.prog S0 102 [.agg c] m v m'/\aU m m' v 1 (bE s.own)/\Chg [] m m':=by
 obtain ⟨w,rfl,hP⟩:=hR.inv'
 refine WF.ex fun K hK=> ?_
 refine WF.of_wpG (fun _=>rfl) tL (L:= [(.e,.agg (s.l w))]) rfl ?_
 unfold EI
 rw[tc] at hsz
 have hni:=cF s.i
 have hnx:=cF s.x
 have hny:=cF s.y
 generalize hm1:hp [(.n 0,.cells true (s.l w))] 1 m=m1
 have hC1:Chg [] m m1:=ba hm1 rfl
 have hC01:Chg [] m0 m1:=hC0.trans hC1 (by simp)
 have hg0:m1.get (na m 0)=some (.cells true (s.l w)):=bz hm1
 have ho0:am m1 (na m 0):=bw hm1 (by omega)
 let Φ:List (List Nat)->Dyn->Prop:=fun l d=>∃t M v,d=⟨t, [],none,M⟩/\NT.get D4.e.a t=some (.ptr (na m 0) 0)/\NT.get D4.e.c t=some v/\aU m1 M v 1 (bE l)/\Chg [] m1 M
 have hl21:(s.l w).length=21:=rfl
 have hl21':(s.l w).take 21=s.l w:=rfl
 have hins:∀{M M':NH} {v:NV} {l:List (List Nat)} {x:Ex} {c:List NV},Chg [] m1 M->Chg [] M M'->aU m1 M v 1 (bE l)->RE m0 T x c->l.length+x.sz<=1000000000->∃v' M'',aS Tryz.prog S0 136 [v,.agg c] M' v' M''/\aU m1 M'' v' 1 (bE (l++x.names))/\Chg [] m1 M'':=by
  intro M M' v l x c h1 h2 h3 h4 h5
  have hC':=h1.trans h2 (by simp)
  obtain ⟨v',M'',q1,q2,q3,-⟩:=DU x h4 (hC01.trans hC' (by simp)) (h3.chg h2 fun _ _=>by simp) (fun i hi=>hC01.old hi) (fun i hi=>hC'.old hi) h5
  exact ⟨v',M'',q1,q2,jd h3 (fun i hi=>hi) h1 ((h2.weak (by simp)).trans q3 fun _ h _=>h)⟩
 refine gv (fun d=>d=⟨ai [(.a .e,.ptr (na m 0) 0),(.b .e,.nils),(.e,.agg (s.l w))] .leaf, [],none,m1⟩) (fun R hR=> ?_) ?_
 ·simp (disch:=first|assumption|omega) only[go_sem,seval,hm1]
  exact hR _ rfl
 rintro d rfl
 refine gv (Φ []) (fun R hR=> ?_) ?_
 ·simp (disch:=first|assumption|omega) only[go_sem,seval]
  exact hR _ ⟨_,_,.nils,rfl,by simp only[go_sem,seval],by simp only[go_sem,seval],aU.nil,Chg.refl m1⟩
 rintro d ⟨t,M,v,rfl,g1,g2,hv,hC⟩
 change wp _ _ _ _ ⟨ai [] t, [],none,M⟩ _
 refine gv (Φ (if s.k=0∨s.k=1∨s.k=3 then [s.nm] else [])) (fun R hR=> ?_) ?_
 ·have hgM:=(hC.get ho0 (by simp)).trans hg0
  simp (disch:=first|assumption|omega|(simp only[aI]<;>omega)) only[go_sem,seval,g1,g2,hgM,hl21,hl21']
  refine WF.use1H (uY M [0,1,3] rfl rfl (by decide)) ?_
  intro M' hC'
  have hgM':=(hC'.get (hC.old ho0) (by simp)).trans hgM
  have hoM':=hC'.old (hC.old ho0)
  by_cases hk:s.k∈ [0,1,3]
  ·rw[Rl hk]
   simp (disch:=first|assumption|omega|(simp only[aI]<;>omega)) only[go_sem,seval,g1,g2,hgM',hoM']
   have hC2:Chg [] M' (hp [(.n 0,.cells true [.str s.nm])] 1 M'):=aC rfl
   have hC3:=hC'.trans hC2 (by simp)
   refine fm (C:= []) (B:=m1) (hv.chg hC3 fun _ _=>by simp) bo (bv (by omega)) rfl (fun i hi=>hC3.old (hC.old hi)) (by simp) (by simp) ?_
   intro v2 M2 hv2 hC4 hF
   simp (disch:=first|assumption|omega) only[go_sem,seval,g1,g2]
   refine hR _ ⟨_,_,v2,rfl,by simp only[go_sem,seval,g1],by simp only[go_sem,seval], ?_, ?_⟩
   ·rw[Rj (by simpa using hk)];exact hv2
   ·exact jd hv (fun i hi=>hi) hC ((hC3.weak (by simp)).trans hC4 fun _ h _=>h)
  ·rw[Rk hk]
   simp (disch:=first|assumption|omega) only[go_sem,seval,g1,g2,aa]
   refine hR _ ⟨_,_,v,rfl,by simp only[go_sem,seval,g1],by simp only[go_sem,seval,g2], ?_,hC.trans hC' (by simp)⟩
   rw[Ri (by simpa using hk)];exact hv.chg hC' fun _ _=>by simp
 clear g1 g2 hv hC
 rintro d ⟨t,M,v,rfl,g1,g2,hv,hC⟩
 change wp _ _ _ _ ⟨ai [] t, [],none,M⟩ _
 generalize hL1:(if s.k=0∨s.k=1∨s.k=3 then [s.nm] else [])=L1 at hv
 have hn1:L1.length<=1:=by rw[←hL1];split<;>simp
 refine gv (Φ (L1++if s.k=1∨s.k=2∨s.k=3 then s.i.names else [])) (fun R hR=> ?_) ?_
 ·have hgM:=(hC.get ho0 (by simp)).trans hg0
  simp (disch:=first|assumption|omega|(simp only[aI]<;>omega)) only[go_sem,seval,g1,g2,hgM,hl21,hl21']
  refine WF.use1H (uY M [1,2,3] rfl rfl (by decide)) ?_
  intro M' hC'
  have hgM':=(hC'.get (hC.old ho0) (by simp)).trans hgM
  have hoM':=hC'.old (hC.old ho0)
  by_cases hk:s.k∈ [1,2,3]
  ·rw[Rl hk]
   simp (disch:=first|assumption|omega) only[go_sem,seval,g1,g2,hgM',hoM',aa]
   refine WF.use (hins hC hC' hv hP.i (by omega)) ?_
   rintro v2 M2 ⟨hv2,hC2⟩
   simp (disch:=first|assumption|omega) only[go_sem,seval,g1,g2]
   refine hR _ ⟨_,_,v2,rfl,by simp only[go_sem,seval,g1],by simp only[go_sem,seval], ?_,hC2⟩
   rw[Rj (by simpa using hk)];exact hv2
  ·rw[Rk hk]
   simp (disch:=first|assumption|omega) only[go_sem,seval,g1,g2,aa]
   refine hR _ ⟨_,_,v,rfl,by simp only[go_sem,seval,g1],by simp only[go_sem,seval,g2], ?_,hC.trans hC' (by simp)⟩
   rw[Ri (by simpa using hk),List.append_nil];exact hv.chg hC' fun _ _=>by simp
 clear g1 g2 hv hC
 rintro d ⟨t,M,v,rfl,g1,g2,hv,hC⟩
 change wp _ _ _ _ ⟨ai [] t, [],none,M⟩ _
 generalize hL2:(L1++if s.k=1∨s.k=2∨s.k=3 then s.i.names else [])=L2 at hv
 have hn2:L2.length<=1+s.i.sz:=by rw[←hL2,List.length_append];split<;>first|omega|(rw[List.length_nil];omega)
 refine gv (Φ (L2++if s.k=0∨s.k=2∨s.k=3∨s.k=5∨s.k=6∨s.k=7 then s.x.names else [])) (fun R hR=> ?_) ?_
 ·have hgM:=(hC.get ho0 (by simp)).trans hg0
  simp (disch:=first|assumption|omega|(simp only[aI]<;>omega)) only[go_sem,seval,g1,g2,hgM,hl21,hl21']
  refine WF.use1H (uY M [0,2,3,5,6,7] rfl rfl (by decide)) ?_
  intro M' hC'
  have hgM':=(hC'.get (hC.old ho0) (by simp)).trans hgM
  have hoM':=hC'.old (hC.old ho0)
  by_cases hk:s.k∈ [0,2,3,5,6,7]
  ·rw[Rl hk]
   simp (disch:=first|assumption|omega) only[go_sem,seval,g1,g2,hgM',hoM',aa]
   refine WF.use (hins hC hC' hv hP.x (by omega)) ?_
   rintro v2 M2 ⟨hv2,hC2⟩
   simp (disch:=first|assumption|omega) only[go_sem,seval,g1,g2]
   refine hR _ ⟨_,_,v2,rfl,by simp only[go_sem,seval,g1],by simp only[go_sem,seval], ?_,hC2⟩
   rw[Rj (by simpa using hk)];exact hv2
  ·rw[Rk hk]
   simp (disch:=first|assumption|omega) only[go_sem,seval,g1,g2,aa]
   refine hR _ ⟨_,_,v,rfl,by simp only[go_sem,seval,g1],by simp only[go_sem,seval,g2], ?_,hC.trans hC' (by simp)⟩
   rw[Ri (by simpa using hk),List.append_nil];exact hv.chg hC' fun _ _=>by simp
 clear g1 g2 hv hC
 rintro d ⟨t,M,v,rfl,g1,g2,hv,hC⟩
 change wp _ _ _ _ ⟨ai [] t, [],none,M⟩ _
 generalize hL3:(L2++if s.k=0∨s.k=2∨s.k=3∨s.k=5∨s.k=6∨s.k=7 then s.x.names else [])=L3 at hv
 have hn3:L3.length<=1+s.i.sz+s.x.sz:=by rw[←hL3,List.length_append];split<;>first|omega|(rw[List.length_nil];omega)
 have hown:s.own=L3++if s.k=3 then s.y.names else []:=by rw[ye,←hL3,←hL2,←hL1];simp only[List.append_assoc]
 have hgM:=(hC.get ho0 (by simp)).trans hg0
 have fin:∀{v M},aU m1 M v 1 (bE s.own)->Chg [] m1 M->aU m M v 1 (bE s.own)/\Chg [] m M:=fun h1 h2=>⟨h1.back fun i hi=>hC1.old hi,hC1.trans h2 (by simp)⟩
 by_cases hk:s.k=3
 ·rw[Rj hk] at hown
  have hd:decide (s.k=3)=true:=Rl hk
  simp (disch:=first|assumption|omega) only[go_sem,seval,g1,g2,hgM,hl21,hl21',hd]
  refine WF.use (hins hC (Chg.refl M) hv hP.y (by omega)) ?_
  rintro v2 M2 ⟨hv2,hC2⟩
  simp (disch:=first|assumption|omega) only[go_sem,seval,g1,g2]
  rw[←hown] at hv2
  exact hK _ _ (fin hv2 hC2)
 ·rw[Ri hk,List.append_nil] at hown
  have hd:decide (s.k=3)=false:=Rk hk
  simp (disch:=first|assumption|omega) only[go_sem,seval,g1,g2,hgM,hl21,hl21',hd]
  rw[←hown] at hv
  exact hK _ _ (fin hv hC)
def aW {σ:Type} (f:σ->Stm->σ×Bool):List Stm->σ->σ×Bool
 | [],s=>(s,true)
 |x::l,s=>if (f s x).2 then aW f l (f s x).1 else f s x
theorem dM {σ:Type} (f:σ->Stm->σ×Bool) (a b:List Stm):∀s,aW f (a++b) s=if (aW f a s).2 then aW f b (aW f a s).1 else aW f a s:=by
 induction a with
 |nil=>intro s;simp[aW]
 |cons x a ih=>
  intro s
  simp only[List.cons_append,aW]
  split
  ·exact ih _
  ·rename_i h;simp[h]
def Al {σ:Type} (A:σ->Stm->Prop) (f:σ->Stm->σ×Bool):List Stm->σ->Prop
 | [],_=>True
 |x::l,s=>A s x/\((f s x).2=true->Al A f l (f s x).1)
theorem lY {σ:Type} {A:σ->Stm->Prop} {f:σ->Stm->σ×Bool} (a b:List Stm):∀s,Al A f (a++b) s↔Al A f a s/\((aW f a s).2=true->Al A f b (aW f a s).1):=by
 induction a with
 |nil=>intro s;simp[Al,aW]
 |cons x a ih=>
  intro s
  simp only[List.cons_append,Al,aW,ih]
  constructor
  ·rintro ⟨h1,h2⟩
   refine ⟨⟨h1,fun h=>(h2 h).1⟩,fun h=> ?_⟩
   cases hb:(f s x).2 with
   |true=>rw[hb] at h;simp only[if_true] at h ⊢;exact (h2 hb).2 h
   |false=>rw[hb] at h;simp[hb] at h
  ·rintro ⟨⟨h1,h2⟩,h3⟩
   refine ⟨h1,fun h=>⟨h2 h,fun h4=> ?_⟩⟩
   rw[h] at h3;simp only[if_true] at h3;exact h3 h4
structure Ylds {σ:Type} (q:D4) (m0:NH) (T:D4->Prop) (A:σ->Stm->Prop) (f:σ->Stm->σ×Bool) (Φ:σ->List D4->NH->Prop):Prop where
 base:∀{s F N},Φ s F N->Chg [] m0 N
 old:∀{s F N},Φ s F N->∀i∈F,am N i
 grow:∀{s F N N'},Φ s F N->Chg [] N N'->Φ s F N'
 y:∀{s F N x c},Φ s F N->RS m0 T x c->A s x->∃N',wt Tryz.prog S0 q [.agg c] N (.bool (f s x).2) N'/\∃F',Φ (f s x).1 F' N'/\Chg F N N'/\∀i∈F',i∈F∨¬am N i
section
variable {σ:Type} {q:D4} {m0:NH} {T:D4->Prop} {A:σ->Stm->Prop} {f:σ->Stm->σ×Bool} {Φ:σ->List D4->NH->Prop}
def mL (q:D4) (m0:NH) (T:D4->Prop) (A:σ->Stm->Prop) (f:σ->Stm->σ×Bool) (Φ:σ->List D4->NH->Prop) (l:List Stm):Prop:=
 ∀{v C N s F},SS m0 T v l C->Φ s F N->Al A f (bg l) s->cI l<=1000000000->
  ∃N',aS Tryz.prog S0 134 [v,.yld q] N (.bool (aW f (bg l) s).2) N'/\∃F',Φ (aW f (bg l) s).1 F' N'/\Chg F N N'/\∀i∈F',i∈F∨¬am N i
theorem nU (x:Stm):x.all=x::((if x.k=6∨x.k=7 then bg x.b else [])++(if x.k=6 then bg x.e else [])):=by cases x;rfl
theorem qj {l:List Stm} {i:Nat} (hi:i<l.length):bg (l.take (i+1))=bg (l.take i)++l[i].all:=by
 rw[List.take_add_one,List.getElem?_eq_getElem hi,Option.toList_some,mC,bg,bg,List.append_nil]
theorem po {l:List Stm} {x y:Stm} (hx:x∈l) (hy:y∈x.all):y∈bg l:=by
 induction l with
 |nil=>simp at hx
 |cons a l ih=>
  rw[bg,List.mem_append]
  rcases List.mem_cons.mp hx with rfl|hx
  ·exact Or.inl hy
  ·exact Or.inr (ih hx)
theorem z8 {l:List Stm} {x:Stm} (hx:x∈l):x.sz<=cI l:=by
 induction l with
 |nil=>simp at hx
 |cons a l ih=>
  rw[cI]
  rcases List.mem_cons.mp hx with rfl|hx
  ·omega
  ·have:=ih hx;omega
theorem xr (hy:Ylds q m0 T A f Φ) {x:Stm} {w:SV} (hR:RS m0 T x (x.l w)) (hP:SP m0 T x w) (hb:mL q m0 T A f Φ x.b) (he:mL q m0 T A f Φ x.e) {s:σ} (hA:Al A f x.all s) (hsz:x.sz<=1000000000)
 {v:NV} {N:NH} {F:List D4} (hΦ:Φ s F N) {i n:Nat} {id:D4} {off:Nat} {wr:Bool} {C:List NV} (hi:i<n) (hn:n<=1000000000) (a1:fU 21 v (ii i)= .val (.ptr id off)) (a2:N.get id=some (.cells wr C)) (a3:am N id) (a4:off+21<=C.length) (a5:(C.drop off).take 21=x.l w) {t:Tm}
 (g1:NT.get D4.e.a t=some (.yld q)) (g2:NT.get D4.e.a.c t=some v) (g3:NT.get D4.e.a.f t=some (ii n)) (g4:NT.get D4.e.b.a t=some (ii i)) {Q:Out->Dyn->Prop}
 (hN:(aW f x.all s).2=true->∀t' N' F',Φ (aW f x.all s).1 F' N'->Chg F N N'->(∀i∈F',i∈F∨¬am N i)->NT.get D4.e.a t'=some (.yld q)->NT.get D4.e.a.c t'=some v->NT.get D4.e.a.f t'=some (ii n)->NT.get D4.e.b.a t'=some (ii (i+1:Nat))->Q .norm ⟨t', [],none,N'⟩)
 (hF:(aW f x.all s).2=false->∀t' N' F',Φ (aW f x.all s).1 F' N'->Chg F N N'->(∀i∈F',i∈F∨¬am N i)->NT.get D4.e.f t'=some (.bool false)->Q .ret ⟨ai [] t', [],none,N'⟩):
 wp Tryz.prog S0 none kH ⟨ai [] t, [],none,N⟩ Q:=by
 unfold kH
 have hl21:(x.l w).length=21:=rfl
 have hl21':(x.l w).take 21=x.l w:=rfl
 rw[←aa N]
 simp (disch:=first|assumption|omega|(simp only[aI]<;>omega)) only[go_sem,seval,g1,g2,g3,g4,a1,a2,a5,hl21,hl21']
 generalize hM1:hp _ 1 N=M1
 have hC1:Chg [] N M1:=ba hM1 rfl
 have hg0:M1.get (na N 0)=some (.cells true (x.l w)):=bz hM1
 have ho0:am M1 (na N 0):=bw hM1 (by omega)
 have hal:=nU x
 rw[hal] at hA
 refine WY.use1 (hy.y (hy.grow hΦ hC1) hR hA.1) ?_
 rintro M2 ⟨F2,hΦ2,hC2,hF2⟩
 have hn0:na N 0∉F:=fun h=>(hy.old hΦ _ h).ne 0 rfl
 have hg2:=(hC2.get ho0 hn0).trans hg0
 have ho2:=hC2.old ho0
 have hC02:Chg F N M2:=(hC1.weak (by simp)).trans hC2 fun _ h _=>h
 have hN2:∀i∈F2,i∈F∨¬am N i:=fun i hi=>(hF2 i hi).imp _root_.id fun q o=>q (hC1.old o)
 cases hb1:(f s x).2 with
 |false=>
  have hfo:aW f x.all s=f s x:=by rw[hal,aW,hb1];rfl
  simp (disch:=first|assumption|omega) only[go_sem,seval,g1,g2,g3,g4,hg2,ho2]
  rw[hfo] at hF
  exact hF hb1 _ M2 F2 hΦ2 hC02 hN2 (by simp only[go_sem,seval])
 |true=>
  have hfo:aW f x.all s=aW f ((if x.k=6∨x.k=7 then bg x.b else [])++(if x.k=6 then bg x.e else [])) (f s x).1:=by rw[hal,aW,hb1];rfl
  rw[hfo] at hN hF
  simp (disch:=first|assumption|omega|(simp only[aI]<;>omega)) only[go_sem,seval,g1,g2,g3,g4,hg2,ho2,hl21,hl21']
  refine WF.use1 (uY M2 [6,7] rfl rfl (by decide)) ?_
  intro M3 hC3
  have hΦ3:=hy.grow hΦ2 hC3
  have hg3:=(hC3.get ho2 (by simp)).trans hg2
  have ho3:=hC3.old ho2
  have hC03:Chg F N M3:=hC02.trans hC3 (by simp)
  have hrb:=tc x
  by_cases hk:x.k=6∨x.k=7
  ·rw[Rl (by simpa using hk:x.k∈ [6,7])]
   rw[Rj hk] at hN hF hal
   obtain ⟨B,hB⟩:=hP.b
   obtain ⟨E,hE⟩:=hP.e
   have hA2:=hA.2 hb1
   rw[Rj hk,lY] at hA2
   have hAb:=hA2.1
   simp (disch:=first|assumption|omega) only[go_sem,seval,g1,g2,g3,g4,hg3,ho3]
   refine WF.use1 (hb hB hΦ3 hAb (by omega)) ?_
   rintro M4 ⟨F4,hΦ4,hC4,hF4⟩
   have hn3:na N 0∉F2:=fun h=>(hN2 _ h).elim hn0 fun q=>by
    rcases hF2 _ h with h|h
    ·exact hn0 h
    ·exact h ho0
   have hg4:=(hC4.get ho3 hn3).trans hg3
   have ho4:=hC4.old ho3
   have hC04:Chg F N M4:=hC03.trans hC4 fun i hi ho=>(hN2 i hi).elim _root_.id fun q=>Rh ho q
   have hN4:∀i∈F4,i∈F∨¬am N i:=fun i hi=>(hF4 i hi).elim (hN2 i) fun q=>Or.inr fun o=>q (hC03.old o)
   rw[dM] at hN hF
   cases hb2:(aW f (bg x.b) (f s x).1).2 with
   |false=>
    rw[hb2] at hF
    simp (disch:=first|assumption|omega) only[go_sem,seval,g1,g2,g3,g4,hg4,ho4]
    refine hF hb2 _ M4 F4 hΦ4 hC04 hN4 (by simp only[go_sem,seval])
   |true=>
    rw[hb2,Rj rfl] at hN hF
    by_cases h6:x.k=6
    ·rw[Rj h6] at hN hF hal
     have hAe:=hA2.2 hb2
     rw[Rj h6] at hAe
     have hd:decide (x.k=6)=true:=Rl h6
     simp (disch:=first|assumption|omega) only[go_sem,seval,g1,g2,g3,g4,hg4,ho4,hd]
     refine WF.use1 (he hE hΦ4 hAe (by omega)) ?_
     rintro M5 ⟨F5,hΦ5,hC5,hF5⟩
     have hC05:Chg F N M5:=hC04.trans hC5 fun i hi ho=>(hN4 i hi).elim _root_.id fun q=>Rh ho q
     have hN5:∀i∈F5,i∈F∨¬am N i:=fun i hi=>(hF5 i hi).elim (hN4 i) fun q=>Or.inr fun o=>q (hC04.old o)
     cases hb3:(aW f (bg x.e) (aW f (bg x.b) (f s x).1).1).2 with
     |false=>
      simp (disch:=first|assumption|omega) only[go_sem,seval,g1,g2,g3,g4]
      refine hF hb3 _ M5 F5 hΦ5 hC05 hN5 (by simp only[go_sem,seval])
     |true=>
      simp (disch:=first|assumption|omega) only[go_sem,seval,g1,g2,g3,g4]
      refine hN hb3 _ M5 F5 hΦ5 hC05 hN5 (by simp only[go_sem,seval,g1]) (by simp only[go_sem,seval,g2]) (by simp only[go_sem,seval,g3]) (by simp only[go_sem,seval]<;>rfl)
    ·rw[Ri h6] at hN hF
     have hd:decide (x.k=6)=false:=Rk h6
     simp (disch:=first|assumption|omega) only[go_sem,seval,g1,g2,g3,g4,hg4,ho4,hd]
     refine hN rfl _ M4 F4 hΦ4 hC04 hN4 (by simp only[go_sem,seval,g1]) (by simp only[go_sem,seval,g2]) (by simp only[go_sem,seval,g3]) (by simp only[go_sem,seval]<;>rfl)
  ·rw[Rk (by simpa using hk:x.k∉ [6,7])]
   have h6:x.k≠6:=fun e=>hk (Or.inl e)
   rw[Ri hk,Ri h6] at hN hF
   have hd:decide (x.k=6)=false:=Rk h6
   simp (disch:=first|assumption|omega) only[go_sem,seval,g1,g2,g3,g4,hg3,ho3,hd]
   refine hN rfl _ M3 F2 hΦ3 hC03 hN2 (by simp only[go_sem,seval,g1]) (by simp only[go_sem,seval,g2]) (by simp only[go_sem,seval,g3]) (by simp only[go_sem,seval]<;>rfl)
end
section
variable {σ:Type} {q:D4} {m0:NH} {T:D4->Prop} {A:σ->Stm->Prop} {f:σ->Stm->σ×Bool} {Φ:σ->List D4->NH->Prop}
theorem oG (l:List Stm) (i:Nat) (hi:i<l.length):bg l=bg (l.take i)++(l[i].all++bg (l.drop (i+1))):=by
 conv=>lhs;rw[←List.take_append_drop i l,List.drop_eq_getElem_cons hi]
 rw[mC,bg]
theorem lL (hy:Ylds q m0 T A f Φ) {l:List Stm} (ih:∀x∈l,mL q m0 T A f Φ x.b/\mL q m0 T A f Φ x.e):mL q m0 T A f Φ l:=by
 intro v C N s F hS hΦ hA hsz
 refine WF.ex1 fun K hK=> ?_
 refine WF.of_wpG (fun _=>rfl) tD (L:= [(.a .e,.yld q),(.e,v)]) rfl ?_
 unfold FN
 have hlen:=(hS.stays (lF (hy.base hΦ) T)).sl.len
 rw[hS.len] at hlen
 have hll:=lc l
 simp (disch:=first|assumption|omega) only[go_sem,seval,hlen,aa]
 refine W.loop (fun k d=>∃t M i F',d=⟨t, [],none,M⟩/\NT.get D4.e.a t=some (.yld q)/\NT.get D4.e.a.c t=some v/\NT.get D4.e.a.f t=some (ii l.length)/\NT.get D4.e.b.a t=some (ii (i:Nat))/\i+k=l.length/\(aW f (bg (l.take i)) s).2=true/\Φ (aW f (bg (l.take i)) s).1 F' M/\Chg F N M/\(∀i∈F',i∈F∨¬am N i)) ?_ l.length _ ⟨_,N,0,F,rfl,by simp only[go_sem,seval],by simp only[go_sem,seval],by simp only[go_sem,seval],by simp only[go_sem,seval]<;>rfl,by omega,rfl,hΦ,(Chg.refl N).weak (by simp),fun _ h=>Or.inl h⟩
 rintro k d ⟨t,M,i,F',rfl,g1,g2,g3,g4,hik,hb,hΦ',hC,hF⟩
 apply ao
 change wp _ _ _ _ ⟨ai [] t, [],none,M⟩ _
 by_cases hi:i<l.length
 ·have hCM:=hy.base hΦ'
  have hSM:=hS.stays (lF hCM T)
  obtain ⟨cx,hcx,hRx⟩:=hS.at i hi
  obtain ⟨id,off,wr,c,a1,a2,a3,a4,a5⟩:=hSM.sl.at i (by rw[hS.len];exact hi)
  have ecx:C[i]'(by rw[hS.len];exact hi)=cx:=by
   have:=List.getElem?_eq_getElem (l:=C) (i:=i) (by rw[hS.len];exact hi)
   rw[this] at hcx;injection hcx
  rw[ecx] at a5
  obtain ⟨w,rfl,hP⟩:=hRx.inv'
  have hsx:=z8 (List.getElem_mem hi)
  obtain ⟨h1,h2⟩:=ih _ (List.getElem_mem hi)
  have hst:aW f (bg (l.take (i+1))) s=aW f l[i].all (aW f (bg (l.take i)) s).1:=by rw[qj hi,dM,hb,Rj rfl]
  rw[oG l i hi,lY,lY] at hA
  have hAi:=(hA.2 hb).1
  refine xr hy hRx hP h1 h2 hAi (by omega) hΦ' (n:=l.length) hi (by omega) a1 a2 a3 a4 a5 g1 g2 g3 g4 ?_ ?_
  ·intro hb2 t' N' F2 hΦ2 hC2 hF2 g1 g2 g3 g4
   refine ⟨k - 1,by omega,t',N',i+1,F2,rfl,g1,g2,g3,g4,by omega, ?_, ?_,hC.trans hC2 fun j hj ho=>(hF j hj).elim _root_.id fun q=>Rh ho q,fun j hj=>(hF2 j hj).elim (hF j) fun q=>Or.inr fun o=>q (hC.old o)⟩
   ·rw[hst];exact hb2
   ·rw[hst];exact hΦ2
  ·intro hb2 t' N' F2 hΦ2 hC2 hF2 g1
   have hfin:aW f (bg l) s=aW f l[i].all (aW f (bg (l.take i)) s).1:=by
    rw[oG l i hi,dM,hb,Rj rfl,dM,hb2];rfl
   simp (disch:=first|assumption|omega) only[go_sem,seval,g1]
   rw[hfin] at hK
   rw[←hb2]
   exact hK _ ⟨F2,hΦ2,hC.trans hC2 fun j hj ho=>(hF j hj).elim _root_.id fun q=>Rh ho q,fun j hj=>(hF2 j hj).elim (hF j) fun q=>Or.inr fun o=>q (hC.old o)⟩
 ·have e:(l.take i)=l:=List.take_of_length_le (by omega)
  rw[e] at hb hΦ'
  rw[hb] at hK
  unfold kH
  simp (disch:=first|assumption|omega) only[go_sem,seval,g1,g2,g3,g4]
  exact hK _ ⟨F',hΦ',hC,hF⟩
theorem FP (hy:Ylds q m0 T A f Φ):∀l:List Stm,mL q m0 T A f Φ l:=by
 have key:∀x:Stm,mL q m0 T A f Φ x.b/\mL q m0 T A f Φ x.e:=by
  apply Stm.ind
  intro k a nm ce i x y b e hb he
  exact ⟨lL hy hb,lL hy he⟩
 exact fun l=>lL hy fun x _=>key x
theorem Dg (hy:Ylds q m0 T A f Φ) {l:List Stm} {v:NV} {C:List (List NV)} {N:NH} {s:σ} {F:List D4} {id:D4} (hg:N.get id=some (.cells true [v])) (hS:SS m0 T v l C) (hΦ:Φ s F N) (hA:Al A f (bg l) s) (hsz:cI l<=1000000000):
 ∃N',aS Tryz.prog S0 133 [.yld q,.ptr id 0] N (.tup []) N'/\∃F',Φ (aW f (bg l) s).1 F' N'/\Chg F N N'/\∀i∈F',i∈F∨¬am N i:=by
 refine WF.ex1 fun K hK=> ?_
 refine WF.of_wpG (fun _=>rfl) sM (L:= [(.a .e,.ptr id 0),(.e,.yld q)]) rfl ?_
 unfold Gf
 simp (disch:=first|assumption|omega) only[go_sem,seval,hg,aa]
 refine WF.use1 (FP hy l hS hΦ hA hsz) ?_
 intro N' h
 simp (disch:=first|assumption|omega) only[go_sem,seval]
 exact hK _ h
end
theorem IE (m:NH) {v:NV} (hv:cellsOf v=some [v]):aS Tryz.prog S0 100 [v] m (.fn 133 [.ptr (na m 0) 0]) (hp [(.n 0,.cells true [v])] 1 m):=by
 have h:∃r m',aS Tryz.prog S0 100 [v] m r m'/\r= .fn 133 [.ptr (na m 0) 0]/\m'=(hp [(.n 0,.cells true [v])] 1 m):=by
  refine WF.ex fun K hK=> ?_
  refine WF.of_wpG (fun _=>rfl) sN (L:= [(.e,v)]) rfl ?_
  unfold Eh
  simp (disch:=first|assumption|omega) only[go_sem,seval,hv]
  exact hK _ _ ⟨rfl,rfl⟩
 obtain ⟨r,m',h1,rfl,rfl⟩:=h
 exact h1
def Rf (q o:D4) (t:Tm) (M1:NH) (st:List (List Nat)×Nat) (F:List D4) (N:NH):Prop:=∃u,F=q::o::ids u/\Chg [q,o] M1 N/\N.get q=some (.loop 0 .none t [D4.e.a.c] jx jq)/\N.get o=some (.cells true [u])/\aU M1 N u 1 (bE st.1)/\st.1.length<=st.2
def Q6 (st:List (List Nat)×Nat) (x:Stm):Prop:=x.sz<=100000000/\st.2+x.own.length<=100000000
def II (st:List (List Nat)×Nat) (x:Stm):(List (List Nat)×Nat)×Bool:=((x.own.foldl aL st.1,st.2+x.own.length),true)
theorem HM {m0 M1:NH} {T:D4->Prop} {q o:D4} {t:Tm} (h1:NT.get D4.e.c t=some (.ptr o 0)) (h0:∀S,Chg [q,o] M1 S->Chg [] m0 S) (hoq:o≠q) (hqo:am M1 q) (hoo:am M1 o):Ylds q m0 T Q6 II (Rf q o t M1):=by
 refine ⟨?_, ?_, ?_, ?_⟩
 ·rintro s F N ⟨u,rfl,hC,hq,ho,hu,hl⟩;exact h0 _ hC
 ·rintro s F N ⟨u,rfl,hC,hq,ho,hu,hl⟩ i hi
  rcases List.mem_cons.mp hi with rfl|hi
  ·exact hC.old hqo
  ·rcases List.mem_cons.mp hi with rfl|hi
   ·exact hC.old hoo
   ·exact hu.sl.old i hi
 ·rintro s F N N' ⟨u,rfl,hC,hq,ho,hu,hl⟩ hC'
  exact ⟨u,rfl,hC.trans hC' (by simp),(hC'.get (hC.old hqo) (by simp)).trans hq,(hC'.get (hC.old hoo) (by simp)).trans ho,hu.chg hC' fun _ _=>by simp,hl⟩
 ·rintro s F N x c ⟨u,rfl,hC,hq,ho,hu,hl⟩ hR ⟨hA1,hA2⟩
  obtain ⟨w,rfl,hP⟩:=hR.inv'
  refine WY.ex1 fun K hK=> ?_
  refine WY.of_wp hq rfl jx.eq_1 jq.eq_1 ?_
  change wp _ _ _ _ ⟨ai [(D4.e.a.c,.agg (x.l w))] t, [],none,hp [] 0 N⟩ _
  have hl21:(x.l w).length=21:=rfl
  have hl21':(x.l w).take 21=x.l w:=rfl
  have oq:=hC.old hqo
  have oo:=hC.old hoo
  have hqo':q≠o:=fun e=>hoq e.symm
  simp (disch:=first|assumption|omega|(simp only[aI]<;>omega)) only[go_sem,seval,h1,hq,ho,hl21,hl21']
  generalize hM2:hp _ 1 N=M2
  have hC2:Chg [q] N M2:=ba hM2 rfl
  have q2:M2.get q=some (.loop 1 .none t [D4.e.a.c] jx jq):=gL oq hM2
  have o2:M2.get o=some (.cells true [u]):=(hC2.get oo (by simpa using hoq)).trans ho
  have b2:M2.get (na N 0)=some (.cells true (x.l w)):=bz hM2
  have ob2:am M2 (na N 0):=bw hM2 (by omega)
  have hC02:Chg [] m0 M2:=h0 _ (hC.trans (hC2.weak (T:= [q,o]) (by simp)) fun _ h _=>h)
  refine WF.use (zI hR hC02 hA1) ?_
  rintro v3 M3 ⟨hv3,hC3⟩
  have q3:=(hC3.get (hC2.old oq) (by simp)).trans q2
  have o3:=(hC3.get (hC2.old oo) (by simp)).trans o2
  have b3:=(hC3.get ob2 (by simp)).trans b2
  have hqu:q∉ids u:=fun h=>hu.new _ h hqo
  have hou:o∉ids u:=fun h=>hu.new _ h hoo
  have hu3:aU M1 M3 u 1 (bE s.1):=(hu.chg hC2 fun i hi=>by simp;rintro rfl;exact hqu hi).chg hC3 fun _ _=>by simp
  have hus:bj 4 u u=true:=hu.sl.same
  simp (disch:=first|assumption|omega) only[go_sem,seval,h1,q3,o3,b3,hl21,hl21',hus]
  refine WF.use (wT hu3 hv3.sl (fun i hi hiu=>hv3.new i hi (hC2.old (hu.sl.old i hiu))) (fun i hi=>hC3.old (hC2.old (hC.old hi))) (by omega)) ?_
  rintro v4 M4 ⟨hv4,hC4,hF4⟩
  have q4:=(hC4.get (hC3.old (hC2.old oq)) hqu).trans q3
  have o4:=(hC4.get (hC3.old (hC2.old oo)) hou).trans o3
  have oq4:=hC4.old (hC3.old (hC2.old oq))
  have oo4:=hC4.old (hC3.old (hC2.old oo))
  rw[←aa M4]
  simp (disch:=first|assumption|omega|(simp only[aI]<;>omega)) only[go_sem,seval,h1,q4,o4,b3,hl21,hl21',hus,hv4.sl.one]
  generalize hM5:hp _ 0 M4=M5
  have hC5:Chg [q,o] M4 M5:=ba hM5 rfl
  have hqv:q∉ids v4:=fun h=>hv4.new _ h hqo
  have hov:o∉ids v4:=fun h=>hv4.new _ h hoo
  have hCN:Chg (q::o::ids u) N M5:=(((hC2.weak (T:=q::o::ids u) (by simp)).trans hC3 (by simp)).trans hC4 (fun _ h _=>by simp[h])).trans hC5 (fun i h _=>by simp at h ⊢;rcases h with h|h<;>simp[h])
  refine hK _ ⟨_,⟨v4,rfl, ?_, ?_, ?_, ?_, ?_⟩,hCN, ?_⟩
  ·refine hC.trans hCN fun i hi ho=> ?_
   simp only[Rp] at hi
   rcases hi with rfl|rfl|hi
   ·simp
   ·simp
   ·exact Rh ho (hu.new i hi)
  ·rw[←hM5];exact (aF oq4).trans ap
  ·rw[←hM5];exact (aF oo4).trans ((bh hoq).trans ap)
  ·refine hv4.chg hC5 fun i hi=> ?_
   simp only[Rp,Rm,or_false,not_or]
   exact ⟨fun e=>hqv (e▸hi),fun e=>hov (e▸hi)⟩
  ·have:=cr x.own s.1
   show _<=s.2+x.own.length
   simp only[II]
   omega
  ·intro i hi
   simp only[Rp] at hi ⊢
   rcases hi with rfl|rfl|hi
   ·simp
   ·simp
   ·rcases hF4 i hi with h|h
    ·exact Or.inl (Or.inr (Or.inr h))
    ·exact Or.inr fun ho=>h (hC3.old (hC2.old ho))
theorem HQ (l:List Stm):∀st,aW II l st=(((l.flatMap Stm.own).foldl aL st.1,st.2+(l.flatMap Stm.own).length),true):=by
 induction l with
 |nil=>intro st;rfl
 |cons x l ih=>
  intro st
  show (if true then aW II l (II st x).1 else _)=_
  rw[Rj rfl,ih]
  simp only[II,List.flatMap_cons,List.foldl_append,List.length_append]
  rw[Nat.add_assoc]
theorem OM (l:List Stm):∀st:List (List Nat)×Nat,(∀x∈l,x.sz<=100000000)->st.2+(l.flatMap Stm.own).length<=100000000->Al Q6 II l st:=by
 induction l with
 |nil=>intro st _ _;trivial
 |cons x l ih=>
  intro st h1 h2
  rw[List.flatMap_cons,List.length_append] at h2
  exact ⟨⟨h1 x (List.mem_cons_self ..),by omega⟩,fun _=>ih _ (fun y hy=>h1 y (List.mem_cons_of_mem _ hy)) (by simp only[II];omega)⟩
theorem Gp:∀x:Stm,(∀y∈x.all,y.sz<=x.sz)/\(x.all.flatMap Stm.own).length<=2*x.sz:=by
 apply Stm.ind
 intro k a nm ce i x y b e hb he
 have key:∀l:List Stm,(∀s∈l,(∀y∈s.all,y.sz<=s.sz)/\(s.all.flatMap Stm.own).length<=2*s.sz)->(∀y∈bg l,y.sz<=cI l)/\((bg l).flatMap Stm.own).length<=2*cI l:=by
  intro l
  induction l with
  |nil=>intro _;exact ⟨by simp[bg],by simp[bg]⟩
  |cons s l ih=>
   intro h
   obtain ⟨h1,h2⟩:=h s (List.mem_cons_self ..)
   obtain ⟨h3,h4⟩:=ih fun y hy=>h y (List.mem_cons_of_mem _ hy)
   rw[bg,cI,List.flatMap_append,List.length_append]
   refine ⟨fun y hy=> ?_,by omega⟩
   rcases List.mem_append.mp hy with hy|hy
   ·have:=h1 y hy;omega
   ·have:=h3 y hy;omega
 obtain ⟨b1,b2⟩:=key b hb
 obtain ⟨e1,e2⟩:=key e he
 have hi:=cF i
 have hx:=cF x
 have hy:=cF y
 have ho:(Stm.mk k a nm ce i x y b e).own.length<=1+i.sz+x.sz+y.sz:=by
  rw[Stm.own]
  simp only[List.length_append]
  have:∀(p:Prop) [Decidable p] (l:List (List Nat)),(if p then l else []).length<=l.length:=by intro p _ l;split<;>simp
  have a1:=this (k=0∨k=1∨k=3) [nm]
  have a2:=this (k=1∨k=2∨k=3) i.names
  have a3:=this (k=0∨k=2∨k=3∨k=5∨k=6∨k=7) x.names
  have a4:=this (k=3) y.names
  simp only[List.length_singleton] at a1
  omega
 rw[Stm.all,Stm.sz]
 constructor
 ·intro z hz
  rcases List.mem_cons.mp hz with rfl|hz
  ·rw[Stm.sz];omega
  ·rcases List.mem_append.mp hz with hz|hz
   ·split at hz
    ·have:=b1 z hz;omega
    ·simp at hz
   ·split at hz
    ·have:=e1 z hz;omega
    ·simp at hz
 ·rw[List.flatMap_cons,List.flatMap_append,List.length_append,List.length_append]
  have c1:((if k=6∨k=7 then bg b else []).flatMap Stm.own).length<=2*cI b:=by split<;>first|exact b2|simp
  have c2:((if k=6 then bg e else []).flatMap Stm.own).length<=2*cI e:=by split<;>first|exact e2|simp
  omega
theorem kY (l:List Stm):(∀y∈bg l,y.sz<=cI l)/\((bg l).flatMap Stm.own).length<=2*cI l:=by
 induction l with
 |nil=>exact ⟨by simp[bg],by simp[bg]⟩
 |cons s l ih=>
  obtain ⟨h1,h2⟩:=Gp s
  obtain ⟨h3,h4⟩:=ih
  rw[bg,cI,List.flatMap_append,List.length_append]
  refine ⟨fun y hy=> ?_,by omega⟩
  rcases List.mem_append.mp hy with hy|hy
  ·have:=h1 y hy;omega
  ·have:=h3 y hy;omega
theorem Fs {m0 m:NH} {T:D4->Prop} {v:NV} {l:List Stm} {C:List (List NV)} (hS:SS m0 T v l C) (hC0:Chg [] m0 m) (hsz:cI l<=10000000):
 ∃r m',aS Tryz.prog S0 62 [v] m r m'/\aU m m' r 1 (bE (locals l))/\Chg [] m m':=by
 refine WF.ex fun K hK=> ?_
 refine WF.of_wpM (fun _=>rfl) zo (L:= [(.e,v)]) rfl ?_
 unfold Mz
 simp (disch:=first|assumption|omega) only[go_sem,seval,(IE _ hS.sl.one).wf']
 generalize hM0:hp [(.n 0,.cells true [.nils])] 1 m=M0
 have hC1:Chg [] m M0:=ba hM0 rfl
 have go0:M0.get (na m 0)=some (.cells true [.nils]):=bz hM0
 have oo0:am M0 (na m 0):=bw hM0 (by omega)
 generalize hM:hp [(.n 0,.cells true [v])] 1 M0=M
 have hC2:Chg [] M0 M:=ba hM rfl
 have gz:M.get (na M0 0)=some (.cells true [v]):=bz hM
 have oz:am M (na M0 0):=bw hM (by omega)
 have go:=(hC2.get oo0 (by simp)).trans go0
 have oo:=hC2.old oo0
 have hCm:Chg [] m M:=hC1.trans hC2 (by simp)
 generalize ht:ai [(D4.e.a.b,NV.fn 133 [NV.ptr (na M0 0) 0]),(D4.e.a.a,v),(D4.e.c,NV.ptr (na m 0) 0),(D4.e.b,NV.nils),(D4.e,v)] NT.leaf=t
 have g1:NT.get D4.e.c t=some (.ptr (na m 0) 0):=by rw[←ht];simp (disch:=first|assumption|omega) only[go_sem,seval]
 have g2:NT.get D4.e.a.b t=some (.fn 133 [.ptr (na M0 0) 0]):=by rw[←ht];simp (disch:=first|assumption|omega) only[go_sem,seval]
 clear ht
 generalize hM1:hp [(.n 1,.loop 0 .none t [D4.e.a.c] jx jq),(.n 0,.defd true)] 2 M=M1
 have hG:Chg [] M M1:=ba hM1 rfl
 have oq:am M1 (na M 1):=bw hM1 (by omega)
 have om:am M1 (na M 0):=bw hM1 (by omega)
 have gq:M1.get (na M 1)=some (.loop 0 .none t [D4.e.a.c] jx jq):=bz hM1
 have gm:M1.get (na M 0)=some (.defd true):=bz hM1
 have hoq:na m 0≠na M 1:=oo.ne 1
 have hCm1:Chg [] m M1:=hCm.trans hG (by simp)
 have h0:∀S,Chg [na M 1,na m 0] M1 S->Chg [] m0 S:=fun S h=>(hC0.trans hCm1 (by simp)).trans h fun i hi ho=>by
  simp only[Rp,Rm,or_false] at hi
  rcases hi with rfl|rfl
  ·exact Rh (hCm.old (hC0.old ho)) az
  ·exact Rh (hC0.old ho) az
 have hY:=HM (T:=T) g1 h0 hoq oq (hG.old oo)
 obtain ⟨hA1,hA2⟩:=kY l
 obtain ⟨m',hr,F',⟨u,rfl,hC3,hq3,ho3,hu3,-⟩,hC4,-⟩:=Dg hY (s:=([],0)) (F:= [na M 1,na m 0]) (id:=na M0 0) ((hG.get oz (by simp)).trans gz) hS ⟨.nils,rfl,(Chg.refl M1).weak (by simp),gq,(hG.get oo (by simp)).trans go,aU.nil,by simp⟩ (OM _ _ (fun x hx=>by have:=hA1 x hx;omega) (by show 0+_<=_;omega)) (by omega)
 rw[HQ] at hu3
 refine W.rangeN g2 (hM1▸hr) hq3 ?_ (hC3.old oq)
 have gm3:m'.get (na M 0)=some (.defd true):=(hC3.get om (by
  simp only[Rp,Rm,or_false,not_or]
  exact ⟨fun e=>by have:=j0 e;omega,fun e=>oo.ne 0 e.symm⟩)).trans gm
 have om3:=hC3.old om
 have oo3:=hC3.old (hG.old oo)
 have hne:na M 0≠na M 1:=fun e=>by have:=j0 e;omega
 change ic _ _ _ ⟨ai [] t,_,_,_⟩
 simp (disch:=first|assumption|omega) only[go_sem,seval,g1,gm3,om3,ho3,oo3,hoq,hne]
 generalize hMe:hp _ 0 m'=Me
 have hCe:Chg [na M 1,na M 0] m' Me:=by rw[←hMe];exact (aC rfl:Chg [na M 0,na M 1] m' _).weak (by intro i hi _;simp at hi ⊢;exact hi.symm)
 refine hK _ _ ⟨?_, ?_⟩
 ·refine (hu3.chg hCe fun i hi=> ?_).back fun i hi=>hCm1.old hi
  simp only[Rp,Rm,or_false,not_or]
  exact ⟨fun e=>hu3.new i hi (e▸oq),fun e=>hu3.new i hi (e▸om)⟩
 ·refine ((hCm1.weak (T:= [na M 1,na m 0,na M 0]) (by simp)).trans hC3 fun i h _=>by simp at h ⊢;rcases h with h|h<;>simp[h]).trans hCe (fun i h _=>by simp at h ⊢;rcases h with h|h<;>simp[h]) |>.weak fun i hi ho=> ?_
  simp only[Rp,Rm,or_false] at hi
  rcases hi with rfl|rfl|rfl
  ·exact Rh (hCm.old ho) az
  ·exact Rh ho az
  ·exact Rh (hCm.old ho) az
theorem Fz {B m:NH} {v:NV} {l:List (List Nat)} (hv:aU B m v 1 (bE l)) (hB:∀id,am B id->am m id) (s:List Nat) (hsz:l.length<=1000000000):
 ∃v' m',aS Tryz.prog S0 119 [v,.str s] m v' m'/\aU B m' v' 1 (bE (aL l s))/\Chg (ids v) m m'/\bC m v v':=by
 refine WF.ex fun K hK=> ?_
 refine WF.of_wpG (fun _=>rfl) vI (L:= [(.a .e,.str s),(.e,v)]) rfl ?_
 unfold EZ
 have hlen:=hv.sl.len
 rw[List.length_map] at hlen
 simp (disch:=first|assumption|omega) only[go_sem,seval]
 refine W.loop (fun k d=>∃t i,d=⟨t, [],none,hp [] 0 m⟩/\NT.get D4.e t=some v/\NT.get D4.e.a t=some (.str s)/\NT.get D4.e.a.a t=some (ii (i:Nat))/\i+k=l.length/\∀j (hj:j<i) (hl:j<l.length),s≠l[j]) ?_ l.length _ ⟨_,0,rfl,by simp only[go_sem,seval],by simp only[go_sem,seval],by simp only[go_sem,seval]<;>rfl,by omega,by simp⟩
 rintro k d ⟨t,i,rfl,g1,g2,g3,hik,hn⟩
 apply ao
 unfold vF
 change wp _ _ _ _ ⟨ai [] t, [],none,hp [] 0 m⟩ _
 by_cases hi:i<l.length
 ·obtain ⟨id,off,w,c,a1,a2,a3,a4,a5⟩:=hv.sl.at i (by simpa using hi)
  rw[List.getElem_map] at a5
  have c0:=aA a5 0 (by omega)
  rw[Nat.add_zero] at c0
  by_cases he:s=l[i]
  ·have he':decide (l[i]=s)=true:=Rl he.symm
   simp (disch:=first|assumption|omega) only[go_sem,seval,g1,g2,g3,hlen,a1,a2,c0,he',aa]
   exact hK _ _ ⟨by rw[show aL l s=l from Rj (by rw[he];exact List.getElem_mem hi)];exact hv,(Chg.refl m).weak (by simp),bC.refl m v⟩
  ·have he':decide (l[i]=s)=false:=Rk fun e=>he e.symm
   simp (disch:=first|assumption|omega) only[go_sem,seval,g1,g2,g3,hlen,a1,a2,c0,he']
   refine ⟨k - 1,by omega,_,i+1,by rfl, ?_, ?_, ?_,by omega, ?_⟩
   ·simp (disch:=first|assumption|omega) only[go_sem,seval,g1]
   ·simp (disch:=first|assumption|omega) only[go_sem,seval,g2]
   ·simp (disch:=first|assumption|omega) only[go_sem,seval]<;>rfl
   ·intro j hj hl
    rcases Nat.lt_or_ge j i with h|h
    ·exact hn j h hl
    ·have:j=i:=by omega
     subst this;exact he
 ·simp (disch:=first|assumption|omega|(simp only[aI]<;>omega)) only[go_sem,seval,g1,g2,g3,hlen]
  have hC1:Chg [] m (hp [(.n 0,.cells true [.str s])] 1 m):=aC rfl
  refine fm (hv.chg hC1 fun _ _=>by simp) bo (bv (by omega)) rfl (fun i hi=>hC1.old (hB i hi)) (by simp;omega) (by simp;omega) ?_
  intro v2 M2 hv2 hC2 hF2
  simp (disch:=first|assumption|omega) only[go_sem,seval]
  refine hK _ _ ⟨?_,(hC1.weak (by simp)).trans hC2 fun _ h _=>h,fun i hi=>(hF2 i hi).imp _root_.id fun q o=>q (hC1.old o)⟩
  rw[show aL l s=l++ [s] from Ri fun h=>by
   obtain ⟨j,hj,e⟩:=List.getElem_of_mem h
   exact hn j (by omega) hj e.symm,nS]
  exact hv2
def Fq (f:Nat) (args:NV->List NV) (m0:NH) (N:List (List Nat)) (sz:Nat):Prop:=∀{B m:NH} {v:NV} {l:List (List Nat)},Chg [] m0 m->aU B m v 1 (bE l)->(∀i,am m0 i->am B i)->(∀i,am B i->am m i)->l.length+sz<=1000000000->
 ∃v' m',aS Tryz.prog S0 f (args v) m v' m'/\aU B m' v' 1 (bE (N.foldl aL l))/\Chg (ids v) m m'/\bC m v v'
def Q7 (x:Ex):Prop:=∀{m0:NH} {T:D4->Prop} {c:List NV},RE m0 T x c->Fq 145 (fun v=> [v,.agg c]) m0 x.names x.sz
theorem nZ {m0:NH} {T:D4->Prop} {kd:Int} {n o:Nat} {s:List Nat} {ks:List Ex} {vk:NV} {C:List (List NV)} (hS:SE m0 T vk ks C) (ih:∀x∈ks,Q7 x) {B m:NH} {v:NV} {l:List (List Nat)} (hC0:Chg [] m0 m) (hv:aU B m v 1 (bE l)) (h0:∀i,am m0 i->am B i) (hB:∀i,am B i->am m i)
 {b:D4} (hb:m.get b=some (.cells true [ii kd,u64 n,u8 o,.str s,vk])) (hob:am m b) (hbv:b∉ids v) (h1:kd≠1)
 (hsz:l.length+jV ks<=1000000000) {t:Tm} (g1:NT.get D4.e t=some v) (g2:NT.get D4.e.c t=some (.ptr b 0)) (g4:NT.get D4.e.a.a t=some (ii 0)) {Q:Out->Dyn->Prop}
 (hQ:∀t' M v',NT.get D4.e t'=some v'->aU B M v' 1 (bE ((Ex.mk kd n o s ks).names.foldl aL l))->Chg (ids v) m M->bC m v v'->Q (.exit 0) ⟨ai [] t', [],none,M⟩):
 W Tryz.prog S0 none nD.loop ⟨t, [],none,m⟩ Q:=by
 refine W.loop (fun k d=>∃t M i v',d=⟨t, [],none,M⟩/\NT.get D4.e t=some v'/\NT.get D4.e.c t=some (.ptr b 0)/\NT.get D4.e.a.a t=some (ii (i:Nat))/\i+k=ks.length/\(i=0∨kd=2)/\aU B M v' 1 (bE ((bX (ks.take i)).foldl aL l))/\Chg (ids v) m M/\bC m v v') ?_ ks.length _ ⟨t,m,0,v,rfl,g1,g2,g4,by omega,Or.inl rfl,by simpa [bX] using hv,(Chg.refl m).weak (by simp),bC.refl m v⟩
 rintro k d ⟨t,M,i,v',rfl,g1,g2,g4,hik,hk2,hv',hC,hF⟩
 apply ao
 unfold nD
 change wp _ _ _ _ ⟨ai [] t, [],none,M⟩ _
 have hCM:=jd hv h0 hC0 hC
 have hSM:=(hS.stays (lF hCM T))
 have hbM:=(hC.get hob hbv).trans hb
 have hlen:=hSM.sl.len
 rw[hS.len] at hlen
 have hls:=nk ks
 rw[←aa M]
 by_cases hi:i<ks.length
 ·by_cases hkd:kd=2
  ·obtain ⟨cx,hcx,hRx⟩:=hS.at i hi
   obtain ⟨id,off,wr,c,a1,a2,a3,a4,a5⟩:=hSM.sl.at i (by rw[hS.len];exact hi)
   have ecx:C[i]'(by rw[hS.len];exact hi)=cx:=by
    have:=List.getElem?_eq_getElem (l:=C) (i:=i) (by rw[hS.len];exact hi)
    rw[this] at hcx;injection hcx
   rw[ecx] at a5
   obtain ⟨vx,Cx,rfl,-⟩:=hRx.inv'
   have hszi:=s9 ks i hi
   have hfl:=cr (bX (ks.take i)) l
   have hd:decide (kd=2)=true:=Rl hkd
   simp (disch:=first|assumption|omega) only[go_sem,seval,g1,g2,g4,hbM,hlen,a1,a2,a5,hd]
   rw[aa]
   refine WF.use (ih ks[i] (List.getElem_mem hi) hRx hCM hv' h0 (fun i hi=>hC.old (hB i hi)) (by omega)) ?_
   rintro v2 M2 ⟨hv2,hC2,hF2⟩
   simp (disch:=first|assumption|omega) only[go_sem,seval,g1,g2,g4]
   refine ⟨k - 1,by omega,_,M2,i+1,v2,by rfl, ?_, ?_, ?_,by omega,Or.inr hkd, ?_,hF.chg hC hC2,hF.trans hF2 fun i hi=>hC.old hi⟩
   ·simp (disch:=first|assumption|omega) only[go_sem,seval]
   ·simp (disch:=first|assumption|omega) only[go_sem,seval,g2]
   ·simp (disch:=first|assumption|omega) only[go_sem,seval]<;>rfl
   ·rw[iy hi,List.foldl_append];exact hv2
  ·have hd:decide (kd=2)=false:=Rk hkd
   have hi0:i=0:=hk2.resolve_right hkd
   subst hi0
   simp (disch:=first|assumption|omega) only[go_sem,seval,g1,g2,g4,hbM,hlen,hd]
   rw[aa]
   refine hQ _ _ v' ?_ ?_ hC hF
   ·simp (disch:=first|assumption|omega) only[go_sem,seval,g1]
   ·rw[Ex.names,Ri h1,Ri hkd];exact hv'
 ·simp (disch:=first|assumption|omega) only[go_sem,seval,g1,g2,g4,hbM,hlen]
  rw[aa]
  have e:(ks.take i)=ks:=List.take_of_length_le (by omega)
  rw[e] at hv'
  refine hQ _ _ v' ?_ ?_ hC hF
  ·simp (disch:=first|assumption|omega) only[go_sem,seval,g1]
  ·rw[Ex.names,Ri h1]
   split
   ·exact hv'
   ·have:ks= []:=List.length_eq_zero_iff.mp (by omega)
    subst this;exact hv'
theorem uk:∀x,Q7 x:=by
 apply Ex.ind
 intro kd n o s ks ih m0 T c hR B m v l hC0 hv h0 hB hsz
 obtain ⟨vk,C,rfl,hS⟩:=hR.inv
 rw[Ex.sz] at hsz
 refine WF.ex fun K hK=> ?_
 refine WF.of_wpG (fun _=>rfl) uv (L:= [(.a .e,.agg [ii kd,u64 n,u8 o,.str s,vk]),(.e,v)]) rfl ?_
 unfold DO
 have hob:am (hp [(.n 0,.cells true [ii kd,u64 n,u8 o,.str s,vk])] 1 m) (na m 0):=bv (by omega)
 have hgb:(hp [(.n 0,.cells true [ii kd,u64 n,u8 o,.str s,vk])] 1 m).get (na m 0)=some (.cells true [ii kd,u64 n,u8 o,.str s,vk]):=bo
 by_cases h1:kd=1
 ·subst h1
  simp (disch:=first|assumption|omega) only[go_sem,seval]
  generalize hM1:hp _ 1 m=M1
  have hC1:Chg [] m M1:=ba hM1 rfl
  refine WF.use (Fz (hv.chg hC1 fun _ _=>by simp) (fun i hi=>hC1.old (hB i hi)) s (by omega)) ?_
  rintro v2 M2 ⟨hv2,hC2,hF2⟩
  simp (disch:=first|assumption|omega) only[go_sem,seval]
  refine hK _ _ ⟨?_,(hC1.weak (by simp)).trans hC2 fun _ h _=>h,fun i hi=>(hF2 i hi).imp _root_.id fun q o=>q (hC1.old o)⟩
  rw[Ex.names,Rj rfl];exact hv2
 ·have hd:decide (kd=1)=false:=Rk h1
  simp (disch:=first|assumption|omega) only[go_sem,seval,hd]
  generalize hM1:hp _ 1 m=M1 at hob hgb
  have hC1:Chg [] m M1:=ba hM1 rfl
  refine nZ hS ih (hC0.trans hC1 (by simp)) (hv.chg hC1 fun _ _=>by simp) h0 (fun i hi=>hC1.old (hB i hi)) hgb hob (fun h=>(hv.sl.old _ h).ne 0 rfl) h1 (by omega) (by simp only[go_sem,seval]) (by simp only[go_sem,seval]) (by simp only[go_sem,seval]) ?_
  intro t' M v' g1 q1 q2 q3
  simp (disch:=first|assumption|omega) only[go_sem,seval,g1]
  exact hK _ _ ⟨q1,(hC1.weak (by simp)).trans q2 fun _ h _=>h,fun i hi=>(q3 i hi).imp _root_.id fun q o=>q (hC1.old o)⟩
theorem GQ (m:NH) (k:Int):aS Tryz.prog S0 144 [ii k] m (.bool (decide (k=0∨k=1∨k=3))) m:=by
 have h:∃r m',aS Tryz.prog S0 144 [ii k] m r m'/\r= .bool (decide (k=0∨k=1∨k=3))/\m'=m:=by
  refine WF.ex fun K hK=> ?_
  refine WF.of_wpG (fun _=>rfl) sR (L:= [(.e,ii k)]) rfl ?_
  unfold E5
  by_cases h0:k=0
  ·subst h0;simp (disch:=first|assumption|omega) only[go_sem,seval,aa];exact hK _ _ ⟨rfl,rfl⟩
  ·by_cases h1:k=1
   ·subst h1;simp (disch:=first|assumption|omega) only[go_sem,seval,aa];exact hK _ _ ⟨rfl,rfl⟩
   ·by_cases h3:k=3
    ·subst h3;simp (disch:=first|assumption|omega) only[go_sem,seval,aa];exact hK _ _ ⟨rfl,rfl⟩
    ·simp (disch:=first|assumption|omega) only[go_sem,seval,aa];exact hK _ _ ⟨by simp[h0,h1,h3],rfl⟩
 obtain ⟨r,m',h1,rfl,rfl⟩:=h
 exact h1
theorem uO (m:NH) (k:Int):aS Tryz.prog S0 117 [ii k] m (.bool (decide (k=1∨k=2∨k=3))) m:=by
 have h:∃r m',aS Tryz.prog S0 117 [ii k] m r m'/\r= .bool (decide (k=1∨k=2∨k=3))/\m'=m:=by
  refine WF.ex fun K hK=> ?_
  refine WF.of_wpG (fun _=>rfl) tV (L:= [(.e,ii k)]) rfl ?_
  unfold Gc
  by_cases h0:k=1
  ·subst h0;simp (disch:=first|assumption|omega) only[go_sem,seval,aa];exact hK _ _ ⟨rfl,rfl⟩
  ·by_cases h1:k=2
   ·subst h1;simp (disch:=first|assumption|omega) only[go_sem,seval,aa];exact hK _ _ ⟨rfl,rfl⟩
   ·by_cases h3:k=3
    ·subst h3;simp (disch:=first|assumption|omega) only[go_sem,seval,aa];exact hK _ _ ⟨rfl,rfl⟩
    ·simp (disch:=first|assumption|omega) only[go_sem,seval,aa];exact hK _ _ ⟨by simp[h0,h1,h3],rfl⟩
 obtain ⟨r,m',h1,rfl,rfl⟩:=h
 exact h1
theorem IR {m0:NH} {T:D4->Prop} {s:Stm} {c:List NV} (hR:RS m0 T s c):Fq 118 (fun v=> [v,.agg c]) m0 s.own s.sz:=by
 obtain ⟨w,rfl,hP⟩:=hR.inv'
 intro B m v0 l hC0 hv0 h0 hB hsz
 refine WF.ex fun K hK=> ?_
 refine WF.of_wpG (fun _=>rfl) sV (L:= [(.a .e,.agg (s.l w)),(.e,v0)]) rfl ?_
 unfold ET
 rw[tc] at hsz
 have hni:=cF s.i
 have hnx:=cF s.x
 have hny:=cF s.y
 generalize hm1:hp [(.n 0,.cells true (s.l w))] 1 m=m1
 have hC1:Chg [] m m1:=ba hm1 rfl
 have hC01:Chg [] m0 m1:=hC0.trans hC1 (by simp)
 have hg0:m1.get (na m 0)=some (.cells true (s.l w)):=bz hm1
 have ho0:am m1 (na m 0):=bw hm1 (by omega)
 have hn0:na m 0∉ids v0:=fun h=>(hv0.sl.old _ h).ne 0 rfl
 let Φ:List (List Nat)->Dyn->Prop:=fun N d=>∃t M v,d=⟨t, [],none,M⟩/\NT.get D4.e.c t=some (.ptr (na m 0) 0)/\NT.get D4.e t=some v/\aU B M v 1 (bE (N.foldl aL l))/\Chg (ids v0) m1 M/\bC m1 v0 v
 have hl21:(s.l w).length=21:=rfl
 have hl21':(s.l w).take 21=s.l w:=rfl
 have hstep:∀{M M':NH} {v v':NV},Chg (ids v0) m1 M->bC m1 v0 v->Chg (ids v) M M'->bC M v v'->Chg (ids v0) m1 M'/\bC m1 v0 v':=fun h1 h2 h3 h4=>⟨h2.chg h1 h3,h2.trans h4 fun i hi=>h1.old hi⟩
 have hins:∀{M:NH} {v:NV} {N:List (List Nat)} {x:Ex} {c:List NV},Chg (ids v0) m1 M->bC m1 v0 v->aU B M v 1 (bE (N.foldl aL l))->RE m0 T x c->l.length+N.length+x.sz<=1000000000->∃v' M',aS Tryz.prog S0 145 [v,.agg c] M v' M'/\aU B M' v' 1 (bE ((N++x.names).foldl aL l))/\Chg (ids v0) m1 M'/\bC m1 v0 v':=by
  intro M v N x c h1 h2 h3 h4 h5
  have hfl:=cr N l
  obtain ⟨v',M',q1,q2,q3,q4⟩:=uk x h4 (hC01.trans h1 fun i hi ho=>Rh (h0 i ho) (hv0.new i hi)) h3 h0 (fun i hi=>h1.old (hC1.old (hB i hi))) (by omega)
  obtain ⟨r1,r2⟩:=hstep h1 h2 q3 q4
  exact ⟨v',M',q1,by rw[List.foldl_append];exact q2,r1,r2⟩
 refine gv (Φ []) (fun R hR=> ?_) ?_
 ·simp (disch:=first|assumption|omega) only[go_sem,seval,hm1]
  exact hR _ ⟨_,_,v0,rfl,by simp only[go_sem,seval],by simp only[go_sem,seval],hv0.chg hC1 fun _ _=>by simp,(Chg.refl m1).weak (by simp),bC.refl m1 v0⟩
 rintro d ⟨t,M,v,rfl,g1,g2,hv,hC,hF⟩
 change wp _ _ _ _ ⟨ai [] t, [],none,M⟩ _
 refine gv (Φ (if s.k=0∨s.k=1∨s.k=3 then [s.nm] else [])) (fun R hR=> ?_) ?_
 ·have hgM:=(hC.get ho0 hn0).trans hg0
  simp (disch:=first|assumption|omega) only[go_sem,seval,g1,g2,hgM,hl21,hl21',(GQ _ _).wf']
  by_cases hk:s.k=0∨s.k=1∨s.k=3
  ·rw[Rl hk]
   simp (disch:=first|assumption|omega) only[go_sem,seval,g1,g2,hgM]
   refine WF.use (Fz hv (fun i hi=>hC.old (hC1.old (hB i hi))) s.nm (by simp;omega)) ?_
   rintro v2 M2 ⟨hv2,hC2,hF2⟩
   simp (disch:=first|assumption|omega) only[go_sem,seval,g1,g2]
   obtain ⟨r1,r2⟩:=hstep hC hF hC2 hF2
   refine hR _ ⟨_,_,v2,rfl,by simp only[go_sem,seval,g1],by simp only[go_sem,seval], ?_,r1,r2⟩
   rw[Rj hk];exact hv2
  ·rw[Rk hk]
   simp (disch:=first|assumption|omega) only[go_sem,seval,g1,g2,aa]
   refine hR _ ⟨_,_,v,rfl,by simp only[go_sem,seval,g1],by simp only[go_sem,seval,g2], ?_,hC,hF⟩
   rw[Ri hk];exact hv
 clear g1 g2 hv hC hF
 rintro d ⟨t,M,v,rfl,g1,g2,hv,hC,hF⟩
 change wp _ _ _ _ ⟨ai [] t, [],none,M⟩ _
 generalize hL1:(if s.k=0∨s.k=1∨s.k=3 then [s.nm] else [])=L1 at hv
 have hn1:L1.length<=1:=by rw[←hL1];split<;>simp
 refine gv (Φ (L1++if s.k=1∨s.k=2∨s.k=3 then s.i.names else [])) (fun R hR=> ?_) ?_
 ·have hgM:=(hC.get ho0 hn0).trans hg0
  simp (disch:=first|assumption|omega) only[go_sem,seval,g1,g2,hgM,hl21,hl21',(uO _ _).wf']
  by_cases hk:s.k=1∨s.k=2∨s.k=3
  ·rw[Rl hk]
   simp (disch:=first|assumption|omega) only[go_sem,seval,g1,g2,hgM]
   refine WF.use (hins hC hF hv hP.i (by omega)) ?_
   rintro v2 M2 ⟨hv2,r1,r2⟩
   simp (disch:=first|assumption|omega) only[go_sem,seval,g1,g2]
   refine hR _ ⟨_,_,v2,rfl,by simp only[go_sem,seval,g1],by simp only[go_sem,seval], ?_,r1,r2⟩
   rw[Rj hk];exact hv2
  ·rw[Rk hk]
   simp (disch:=first|assumption|omega) only[go_sem,seval,g1,g2,aa]
   refine hR _ ⟨_,_,v,rfl,by simp only[go_sem,seval,g1],by simp only[go_sem,seval,g2], ?_,hC,hF⟩
   rw[Ri hk,List.append_nil];exact hv
 clear g1 g2 hv hC hF
 rintro d ⟨t,M,v,rfl,g1,g2,hv,hC,hF⟩
 change wp _ _ _ _ ⟨ai [] t, [],none,M⟩ _
 generalize hL2:(L1++if s.k=1∨s.k=2∨s.k=3 then s.i.names else [])=L2 at hv
 have hn2:L2.length<=1+s.i.sz:=by rw[←hL2,List.length_append];split<;>first|omega|(rw[List.length_nil];omega)
 refine gv (Φ (L2++if s.k=0∨s.k=2∨s.k=3∨s.k=5∨s.k=6∨s.k=7 then s.x.names else [])) (fun R hR=> ?_) ?_
 ·have hgM:=(hC.get ho0 hn0).trans hg0
  by_cases hk:s.k=0∨s.k=2∨s.k=3∨s.k=5∨s.k=6∨s.k=7
  ·rw[Rj hk] at hR
   rcases hk with h|h|h|h|h|h<;>simp (disch:=first|assumption|omega) only[go_sem,seval,g1,g2,hgM,h]<;>(refine WF.use (hins hC hF hv hP.x (by omega)) ?_;rintro v2 M2 ⟨hv2,r1,r2⟩;simp (disch:=first|assumption|omega) only[go_sem,seval,g1,g2];exact hR _ ⟨_,_,v2,rfl,by simp only[go_sem,seval,g1],by simp only[go_sem,seval],hv2,r1,r2⟩)
  ·rw[Ri hk,List.append_nil] at hR
   have d0:decide (s.k=0)=false:=Rk (by omega)
   have d2:decide (s.k=2)=false:=Rk (by omega)
   have d3:decide (s.k=3)=false:=Rk (by omega)
   by_cases h5:5<=s.k
   ·have d7:decide (s.k<=7)=false:=Rk (by omega)
    simp (disch:=first|assumption|omega) only[go_sem,seval,g1,g2,hgM,d0,d2,d3,d7,aa]
    exact hR _ ⟨_,_,v,rfl,by simp only[go_sem,seval,g1],by simp only[go_sem,seval,g2],hv,hC,hF⟩
   ·simp (disch:=first|assumption|omega) only[go_sem,seval,g1,g2,hgM,d0,d2,d3,aa]
    exact hR _ ⟨_,_,v,rfl,by simp only[go_sem,seval,g1],by simp only[go_sem,seval,g2],hv,hC,hF⟩
 clear g1 g2 hv hC hF
 rintro d ⟨t,M,v,rfl,g1,g2,hv,hC,hF⟩
 change wp _ _ _ _ ⟨ai [] t, [],none,M⟩ _
 generalize hL3:(L2++if s.k=0∨s.k=2∨s.k=3∨s.k=5∨s.k=6∨s.k=7 then s.x.names else [])=L3 at hv
 have hn3:L3.length<=1+s.i.sz+s.x.sz:=by rw[←hL3,List.length_append];split<;>first|omega|(rw[List.length_nil];omega)
 have hown:s.own=L3++if s.k=3 then s.y.names else []:=by rw[ye,←hL3,←hL2,←hL1];simp only[List.append_assoc]
 have hgM:=(hC.get ho0 hn0).trans hg0
 have fin:∀{v M},aU B M v 1 (bE (s.own.foldl aL l))->Chg (ids v0) m1 M->bC m1 v0 v->aU B M v 1 (bE (s.own.foldl aL l))/\Chg (ids v0) m M/\bC m v0 v:=fun h1 h2 h3=>⟨h1,(hC1.weak (by simp)).trans h2 fun _ h _=>h,fun i hi=>(h3 i hi).imp _root_.id fun q o=>q (hC1.old o)⟩
 by_cases hk:s.k=3
 ·rw[Rj hk] at hown
  have hd:decide (s.k=3)=true:=Rl hk
  simp (disch:=first|assumption|omega) only[go_sem,seval,g1,g2,hgM,hl21,hl21',hd]
  refine WF.use (hins hC hF hv hP.y (by omega)) ?_
  rintro v2 M2 ⟨hv2,r1,r2⟩
  simp (disch:=first|assumption|omega) only[go_sem,seval,g1,g2]
  rw[←hown] at hv2
  exact hK _ _ (fin hv2 r1 r2)
 ·rw[Ri hk,List.append_nil] at hown
  have hd:decide (s.k=3)=false:=Rk hk
  simp (disch:=first|assumption|omega) only[go_sem,seval,g1,g2,hgM,hl21,hl21',hd]
  rw[←hown] at hv
  exact hK _ _ (fin hv hC hF)
abbrev fD (l:List Stm):List (List Nat):=(bg l).flatMap Stm.own
def MB (m0:NH) (T:D4->Prop) (l:List Stm):Prop:=∀{vb:NV} {C:List (List NV)},SS m0 T vb l C->Fq 120 (fun v=> [v,vb]) m0 (fD l) (2*cI l)
theorem Gu (x:Stm):x.all.flatMap Stm.own=x.own++((if x.k=6∨x.k=7 then fD x.b else [])++(if x.k=6 then fD x.e else [])):=by
 rw[nU,List.flatMap_cons,List.flatMap_append]
 congr 2
 ·split<;>rfl
 ·split<;>rfl
theorem FO (l:List Stm) (i:Nat) (hi:i<l.length):(fD (l.take i)).length+2*l[i].sz<=2*cI l:=by
 induction l generalizing i with
 |nil=>simp at hi
 |cons x l ih=>
  cases i with
  |zero=>simp[fD,bg,cI];omega
  |succ i=>
   obtain ⟨-,h1⟩:=Gp x
   have:=ih i (by simpa using hi)
   simp only[List.take_succ_cons,fD,bg,cI,List.flatMap_append,List.length_append,List.getElem_cons_succ] at this ⊢;omega
theorem FD {m:NH} {T:D4->Prop} {v:NV} {l:List Stm} {C:List (List NV)} (h:SS m T v l C) (i:Nat) (hi:i<l.length):∃w,C[i]? =some (l[i].l w)/\RS m T l[i] (l[i].l w)/\SP m T l[i] w:=by
 obtain ⟨c,h1,h2⟩:=h.at i hi
 obtain ⟨w,rfl,h3⟩:=h2.inv'
 exact ⟨w,h1,h2,h3⟩
theorem Ec {m:NH} {T:D4->Prop} {v:NV} {l:List Stm} {C:List (List NV)} (h:SS m T v l C) (i:Nat) (hi:i<l.length) {cs:List NV} (hc:C[i]? =some cs):∃id off w c,fU 21 v (.int .i64 (.lit (i:Int)))= .val (.ptr id off)/\m.get id=some (.cells w c)/\am m id/\off+21<=c.length/\(c.drop off).take 21=cs:=by
 have hl:i<C.length:=by rw[h.len];exact hi
 obtain ⟨id,off,w,c,a1,a2,a3,a4,a5⟩:=h.sl.at i hl
 rw[List.getElem?_eq_getElem hl] at hc
 injection hc with hc
 exact ⟨id,off,w,c,a1,a2,a3,a4,a5.trans hc⟩
theorem Il (s:Stm):s.own.length<=1+s.i.sz+s.x.sz+s.y.sz:=by
 have hi:=cF s.i
 have hx:=cF s.x
 have hy:=cF s.y
 rw[ye]
 simp only[List.length_append]
 have:∀(p:Prop) [Decidable p] (l:List (List Nat)),(if p then l else []).length<=l.length:=by intro p _ l;split<;>simp
 have a1:=this (s.k=0∨s.k=1∨s.k=3) [s.nm]
 have a2:=this (s.k=1∨s.k=2∨s.k=3) s.i.names
 have a3:=this (s.k=0∨s.k=2∨s.k=3∨s.k=5∨s.k=6∨s.k=7) s.x.names
 have a4:=this (s.k=3) s.y.names
 simp only[List.length_singleton] at a1
 omega
theorem ki {m0:NH} {T:D4->Prop} {l:List Stm} (ih:∀x∈l,MB m0 T x.b/\MB m0 T x.e):MB m0 T l:=by
 intro vb C hS B m v0 N0 hC0 hv0 h0 hB hsz
 refine WF.ex fun K hK=> ?_
 refine WF.of_wpG (fun _=>rfl) te (L:= [(.a .e,vb),(.e,v0)]) rfl ?_
 unfold DM
 have hll:=lc l
 simp (disch:=first|assumption|omega) only[go_sem,seval,aa]
 refine W.loop (fun k d=>∃t M i v,d=⟨t, [],none,M⟩/\NT.get D4.e t=some v/\NT.get D4.e.a t=some vb/\NT.get D4.e.a.a t=some (ii (i:Nat))/\i+k=l.length/\aU B M v 1 (bE ((fD (l.take i)).foldl aL N0))/\Chg (ids v0) m M/\bC m v0 v) ?_ l.length _ ⟨_,m,0,v0,rfl,by simp only[go_sem,seval],by simp only[go_sem,seval],by simp only[go_sem,seval]<;>rfl,by omega,hv0,(Chg.refl m).weak (by simp),bC.refl m v0⟩
 rintro k d ⟨t,M,i,v,rfl,g1,g2,g3,hik,hv,hC,hF⟩
 apply ao
 unfold sO
 change wp _ _ _ _ ⟨ai [] t, [],none,M⟩ _
 have hstep:∀{M M':NH} {v v':NV},Chg (ids v0) m M->bC m v0 v->Chg (ids v) M M'->bC M v v'->Chg (ids v0) m M'/\bC m v0 v':=fun h1 h2 h3 h4=>⟨h2.chg h1 h3,h2.trans h4 fun i hi=>h1.old hi⟩
 have hbase:∀{M:NH},Chg (ids v0) m M->Chg [] m0 M:=fun h=>jd hv0 h0 hC0 h
 have hlenM:∀{M:NH},Chg (ids v0) m M->Cc vb= .val (ii l.length):=fun h=>by
  have:=(hS.stays (lF (hbase h) T)).sl.len
  rw[hS.len] at this;exact this
 have hlen:=hlenM hC
 by_cases hi:i<l.length
 ·obtain ⟨w,hcw,hRx,hP⟩:=FD hS i hi
  have hmem:∀{M:NH},Chg (ids v0) m M->∃id off wr c,fU 21 vb (.int .i64 (.lit (i:Int)))= .val (.ptr id off)/\M.get id=some (.cells wr c)/\am M id/\off+21<=c.length/\(c.drop off).take 21=l[i].l w:=fun h=>Ec (hS.stays (lF (hbase h) T)) i hi hcw
  have hszi:=FO l i hi
  have hfl:=cr (fD (l.take i)) N0
  obtain ⟨h1,h2⟩:=ih _ (List.getElem_mem hi)
  obtain ⟨id,off,wr,c,a1,a2,a3,a4,a5⟩:=hmem hC
  have hrb:=tc l[i]
  have htk:fD (l.take (i+1))=fD (l.take i)++(l[i].own++((if l[i].k=6∨l[i].k=7 then fD l[i].b else [])++(if l[i].k=6 then fD l[i].e else []))):=by
   show (bg _).flatMap _=_
   rw[qj hi,List.flatMap_append,Gu]
  obtain ⟨B1,hB1⟩:=hP.b
  obtain ⟨E1,hE1⟩:=hP.e
  simp (disch:=first|assumption|omega) only[go_sem,seval,g1,g2,g3,hlen,a1,a2,a5]
  refine WF.use (IR hRx (hbase hC) hv h0 (fun i hi=>hC.old (hB i hi)) (by omega)) ?_
  rintro v2 M2 ⟨hv2,hC2,hF2⟩
  obtain ⟨r1,r2⟩:=hstep hC hF hC2 hF2
  obtain ⟨id2,off2,wr2,c2,b1,b2,b3,b4,b5⟩:=hmem r1
  have b1':=a1.symm.trans b1
  injection b1' with b1';injection b1' with e1 e2;subst e1 e2
  have hon:=Il l[i]
  have hfl2:=cr l[i].own ((fD (l.take i)).foldl aL N0)
  have hcells:∀{c:List NV},(c.drop off).take 21=l[i].l w->c[off+0]? =some (ii l[i].k)/\c[off+19]? =some w.vb/\c[off+20]? =some w.ve:=fun h=>⟨aA h 0 (by omega),aA h 19 (by omega),aA h 20 (by omega)⟩
  obtain ⟨k0,k19,k20⟩:=hcells b5
  have hsb:(fD l[i].b).length<=2*cI l[i].b:=(kY l[i].b).2
  have hmem2:∀{M:NH},Chg (ids v0) m M->∃wr c,M.get id=some (.cells wr c)/\c[off+0]? =some (ii l[i].k)/\c[off+19]? =some w.vb/\c[off+20]? =some w.ve:=fun h=>by
   obtain ⟨id2,off2,wr2,c2,b1,b2,b3,b4,b5⟩:=hmem h
   have b1':=a1.symm.trans b1
   injection b1' with b1';injection b1' with e1 e2;subst e1 e2
   exact ⟨wr2,c2,b2,hcells b5⟩
  have fin:∀(t':Tm) (M':NH) (v':NV) (X:List (List Nat)),NT.get D4.e t'=some v'->NT.get D4.e.a t'=some vb->NT.get D4.e.a.a t'=some (ii (i+1:Nat))->aU B M' v' 1 (bE (X.foldl aL (l[i].own.foldl aL ((fD (l.take i)).foldl aL N0))))->X=((if l[i].k=6∨l[i].k=7 then fD l[i].b else [])++(if l[i].k=6 then fD l[i].e else []))->Chg (ids v0) m M'->bC m v0 v'->
   ∃j,j<k/\∃t M i v,(⟨t', [],none,M'⟩:Dyn)=⟨t, [],none,M⟩/\NT.get D4.e t=some v/\NT.get D4.e.a t=some vb/\NT.get D4.e.a.a t=some (ii (i:Nat))/\i+j=l.length/\aU B M v 1 (bE ((fD (l.take i)).foldl aL N0))/\Chg (ids v0) m M/\bC m v0 v:=by
   intro t' M' v' X q1 q2 q3 q4 q5 q6 q7
   refine ⟨k - 1,by omega,t',M',i+1,v',rfl,q1,q2,q3,by omega, ?_,q6,q7⟩
   rw[htk,List.foldl_append,List.foldl_append,←q5];exact q4
  by_cases h6:l[i].k=6
  ·simp (disch:=first|assumption|omega) only[go_sem,seval,g1,g2,g3,hlen,a1,b2,k0,k19,k20,h6]
   refine WF.use (h1 hB1 (hbase r1) hv2 h0 (fun i hi=>r1.old (hB i hi)) (by omega)) ?_
   rintro v3 M3 ⟨hv3,hC3,hF3⟩
   obtain ⟨s1,s2⟩:=hstep r1 r2 hC3 hF3
   obtain ⟨wr3,c3,d2,e0,e19,e20⟩:=hmem2 s1
   have hfl3:=cr (fD l[i].b) (l[i].own.foldl aL ((fD (l.take i)).foldl aL N0))
   simp (disch:=first|assumption|omega) only[go_sem,seval,g1,g2,g3,hlen,a1,d2,e0,e19,e20,h6]
   refine WF.use (h2 hE1 (hbase s1) hv3 h0 (fun i hi=>s1.old (hB i hi)) (by omega)) ?_
   rintro v4 M4 ⟨hv4,hC4,hF4⟩
   obtain ⟨u1,u2⟩:=hstep s1 s2 hC4 hF4
   simp (disch:=first|assumption|omega) only[go_sem,seval,g1,g2,g3]
   refine fin _ _ v4 (fD l[i].b++fD l[i].e) (by simp only[go_sem,seval]) (by simp only[go_sem,seval,g2]) (by simp only[go_sem,seval]<;>rfl) ?_ (by simp[h6]) u1 u2
   rw[List.foldl_append];exact hv4
  ·have d6:decide (l[i].k=6)=false:=Rk h6
   by_cases h7:l[i].k=7
   ·simp (disch:=first|assumption|omega) only[go_sem,seval,g1,g2,g3,hlen,a1,b2,k0,k19,k20,h7]
    refine WF.use (h1 hB1 (hbase r1) hv2 h0 (fun i hi=>r1.old (hB i hi)) (by omega)) ?_
    rintro v3 M3 ⟨hv3,hC3,hF3⟩
    obtain ⟨s1,s2⟩:=hstep r1 r2 hC3 hF3
    obtain ⟨wr3,c3,d2,e0,e19,e20⟩:=hmem2 s1
    simp (disch:=first|assumption|omega) only[go_sem,seval,g1,g2,g3,hlen,a1,d2,e0,e19,e20,h7]
    exact fin _ _ v3 (fD l[i].b) (by simp only[go_sem,seval]) (by simp only[go_sem,seval,g2]) (by simp only[go_sem,seval]<;>rfl) hv3 (by simp[h7]) s1 s2
   ·have d7:decide (l[i].k=7)=false:=Rk h7
    simp (disch:=first|assumption|omega) only[go_sem,seval,g1,g2,g3,hlen,a1,b2,k0,k19,k20,d6,d7]
    exact fin _ _ v2 [] (by simp only[go_sem,seval]) (by simp only[go_sem,seval,g2]) (by simp only[go_sem,seval]<;>rfl) hv2 (by simp[h6,h7]) r1 r2
 ·simp (disch:=first|assumption|omega) only[go_sem,seval,g1,g2,g3,hlen]
  have e:(l.take i)=l:=List.take_of_length_le (by omega)
  rw[e] at hv
  exact hK _ _ ⟨hv,hC,hF⟩
theorem HE {m0:NH} {T:D4->Prop}:∀l:List Stm,MB m0 T l:=by
 have key:∀x:Stm,MB m0 T x.b/\MB m0 T x.e:=by
  apply Stm.ind
  intro k a nm ce i x y b e hb he
  exact ⟨ki hb,ki he⟩
 exact fun l=>ki fun x _=>key x
theorem DT {m0 m:NH} {T:D4->Prop} {v:NV} {l:List Stm} {C:List (List NV)} (hS:SS m0 T v l C) (hC0:Chg [] m0 m) (hsz:cI l<=10000000):
 ∃r m',aS Tryz.prog S0 78 [v] m r m'/\aU m m' r 1 (bE (locals l))/\Chg [] m m':=by
 refine WF.ex fun K hK=> ?_
 refine WF.of_wpG (fun _=>rfl) yJ (L:= [(.e,v)]) rfl ?_
 unfold KE
 simp (disch:=first|assumption|omega) only[go_sem,seval,aa]
 have h0:aU m m .nils 1 (bE []):=aU.nil
 refine WF.use (@HE m0 T l v C hS m m .nils [] hC0 h0 (fun i hi=>hC0.old hi) (fun i hi=>hi) (by simp;omega)) ?_
 rintro v2 M2 ⟨hv2,hC2,hF2⟩
 simp (disch:=first|assumption|omega) only[go_sem,seval]
 exact hK _ _ ⟨hv2,hC2⟩
abbrev iu (z:Int):NV:= .int .u64 (.lit z)
noncomputable def rU (o:Nat) (a b:Int):Int:=if o=43 then (a+b) % 18446744073709551616 else if o=45 then (a - b) % 18446744073709551616 else if o=42 then (a*b) % 18446744073709551616 else if o=38 then ((a.toNat&&& b.toNat:Nat):Int)
 else if o=61 then (if a=b then 1 else 0) else if o=60 then (if bt .i64 a<bt .i64 b then 1 else 0) else 0
def dK (z:Int):Prop:=0<=z/\z<18446744073709551616
theorem Mo {o:Nat} {a b:Int} (ha:dK a) (hb:dK b):dK (rU o a b):=by
 unfold dK at *
 unfold rU
 split
 ·omega
 ·split
  ·omega
  ·split
   ·omega
   ·split
    ·have:=Nat.and_le_left (n:=a.toNat) (m:=b.toNat);omega
    ·split
     ·split<;>omega
     ·split
      ·split<;>omega
      ·omega
def IX (ns:List (List Nat)) (vs:List Int) (s:List Nat):Int:=if 0<=bH ns s then (vs[(bH ns s).toNat]?).getD 0 else 0
noncomputable def GC (o:Nat):List Int->Int
 |a::b::_=>rU o a b
 |_=>0
mutual
noncomputable def Ex.eval (ns:List (List Nat)) (vs:List Int):Ex->Int
 | .mk k n o s ks=>if k=0 then (n:Int) else if k=1 then IX ns vs s else if k=2 then GC o (iS ns vs ks) else 0
noncomputable def iS (ns:List (List Nat)) (vs:List Int):List Ex->List Int
 | []=> []
 |x::xs=>x.eval ns vs::iS ns vs xs
end
inductive Wid:Ex->Prop
 |mk {k:Int} {n o:Nat} {s:List Nat} {ks:List Ex} (hn:n<18446744073709551616) (hl:ks.length<=9223372036854775807) (h:∀x∈ks,Wid x):Wid (.mk k n o s ks)
theorem dC {ns:List (List Nat)} {vs:List Int} (hv:∀v∈vs,dK v):∀x:Ex,Wid x->dK (x.eval ns vs):=by
 have h0:dK 0:=⟨by omega,by omega⟩
 apply Ex.ind
 intro k n o s ks ih hw
 cases hw with
 |mk hn hl hw=>
  rw[Ex.eval]
  split
  ·exact ⟨by omega,by omega⟩
  ·split
   ·unfold IX
    split
    ·cases hq:vs[(bH ns s).toNat]? with
     |none=>exact h0
     |some v=>exact hv v (List.mem_of_getElem? hq)
    ·exact h0
   ·split
    ·match ks,ih,hw with
     | [],_,_=>simpa [iS,GC] using h0
     | [a],_,_=>simpa [iS,GC] using h0
     |a::b::r,ih,hw=>
      simp only[iS,GC]
      exact Mo (ih a (by simp) (hw a (by simp))) (ih b (by simp) (hw b (by simp)))
    ·exact h0
theorem xg (m:NH) (q:Bool):aS Tryz.prog S0 126 [.bool q] m (iu (if q then 1 else 0)) m:=by
 have h:∃r m',aS Tryz.prog S0 126 [.bool q] m r m'/\r=iu (if q then 1 else 0)/\m'=m:=by
  refine WF.ex fun K hK=> ?_
  refine WF.of_wpG (fun _=>rfl) vq (L:= [(.e,.bool q)]) rfl ?_
  unfold D0
  cases q<;>simp (disch:=first|assumption|omega) only[go_sem,seval,aa]<;>exact hK _ _ ⟨rfl,rfl⟩
 obtain ⟨r,m',h1,rfl,rfl⟩:=h
 exact h1
theorem Pc (m:NH) (q:Bool):aS Tryz.prog S0 122 [.bool q] m (iu (if q then 1 else 0)) m:=by
 have h:∃r m',aS Tryz.prog S0 122 [.bool q] m r m'/\r=iu (if q then 1 else 0)/\m'=m:=by
  refine WF.ex fun K hK=> ?_
  refine WF.of_wpG (fun _=>rfl) sY (L:= [(.e,.bool q)]) rfl ?_
  unfold EH
  cases q<;>simp (disch:=first|assumption|omega) only[go_sem,seval,aa]<;>exact hK _ _ ⟨rfl,rfl⟩
 obtain ⟨r,m',h1,rfl,rfl⟩:=h
 exact h1
theorem y9 {k:IntKind} {n:Int}:Hp .i64 (.int k (.lit n))= .val (.int .i64 (.lit (bt .i64 n))):=_root_.id rfl
theorem Am {a b:Int} (ha:dK a) (hb:dK b):c7 .num .and (iu a) (iu b)=some (iu ((a.toNat&&& b.toNat:Nat):Int)):=by
 obtain ⟨x,rfl⟩:=Rr ha.1
 obtain ⟨y,rfl⟩:=Rr hb.1
 exact D9 (by have:=ha.2;omega) (by have:=hb.2;omega)
theorem DS (m:NH) (o:Nat) {a b:Int} (ha:dK a) (hb:dK b):aS Tryz.prog S0 90 [u8 o,iu a,iu b] m (iu (rU o a b)) m:=by
 have h:∃r m',aS Tryz.prog S0 90 [u8 o,iu a,iu b] m r m'/\r=iu (rU o a b)/\m'=m:=by
  refine WF.ex fun K hK=> ?_
  refine WF.of_wpG (fun _=>rfl) z6 (L:= [(.b .e,iu b),(.a .e,iu a),(.e,u8 o)]) rfl ?_
  unfold KW
  have hand:=Am ha hb
  have hf:=xg m
  by_cases h1:o=43
  ·subst h1;simp (disch:=first|assumption|omega) only[go_sem,seval,aa];exact hK _ _ ⟨rfl,rfl⟩
  ·by_cases h2:o=45
   ·subst h2;simp (disch:=first|assumption|omega) only[go_sem,seval,aa];exact hK _ _ ⟨rfl,rfl⟩
   ·by_cases h3:o=42
    ·subst h3;simp (disch:=first|assumption|omega) only[go_sem,seval,aa];exact hK _ _ ⟨rfl,rfl⟩
    ·by_cases h4:o=38
     ·subst h4;simp (disch:=first|assumption|omega) only[go_sem,seval,aa,hand];exact hK _ _ ⟨rfl,rfl⟩
     ·by_cases h5:o=61
      ·subst h5
       by_cases e:a=b
       ·simp (disch:=first|assumption|omega) only[go_sem,seval,aa,(hf _).wf'];exact hK _ _ ⟨by simp[rU,e],rfl⟩
       ·simp (disch:=first|assumption|omega) only[go_sem,seval,aa,(hf _).wf'];exact hK _ _ ⟨by simp[rU,e],rfl⟩
      ·by_cases h6:o=60
       ·subst h6
        by_cases e:bt .i64 a<bt .i64 b
        ·simp (disch:=first|assumption|omega) only[go_sem,seval,aa,y9,(hf _).wf'];exact hK _ _ ⟨by simp[rU,e],rfl⟩
        ·simp (disch:=first|assumption|omega) only[go_sem,seval,aa,y9,(hf _).wf'];exact hK _ _ ⟨by simp[rU,e],rfl⟩
       ·simp (disch:=first|assumption|omega) only[go_sem,seval,aa];exact hK _ _ ⟨by simp[rU,h1,h2,h3,h4,h5,h6],rfl⟩
 obtain ⟨r,m',h1,rfl,rfl⟩:=h
 exact h1
theorem Qy (m:NH) (o:Nat) {a b:Int} (ha:dK a) (hb:dK b):aS Tryz.prog S0 86 [u8 o,iu a,iu b] m (iu (rU o a b)) m:=by
 have h:∃r m',aS Tryz.prog S0 86 [u8 o,iu a,iu b] m r m'/\r=iu (rU o a b)/\m'=m:=by
  refine WF.ex fun K hK=> ?_
  refine WF.of_wpG (fun _=>rfl) yG (L:= [(.b .e,iu b),(.a .e,iu a),(.e,u8 o)]) rfl ?_
  unfold KZ
  have hand:=Am ha hb
  have hf:=Pc m
  by_cases h1:o=43
  ·subst h1;simp (disch:=first|assumption|omega) only[go_sem,seval,aa];exact hK _ _ ⟨rfl,rfl⟩
  ·by_cases h2:o=45
   ·subst h2;simp (disch:=first|assumption|omega) only[go_sem,seval,aa];exact hK _ _ ⟨rfl,rfl⟩
   ·by_cases h3:o=42
    ·subst h3;simp (disch:=first|assumption|omega) only[go_sem,seval,aa];exact hK _ _ ⟨rfl,rfl⟩
    ·by_cases h4:o=38
     ·subst h4;simp (disch:=first|assumption|omega) only[go_sem,seval,aa,hand];exact hK _ _ ⟨rfl,rfl⟩
     ·by_cases h5:o=61
      ·subst h5
       by_cases e:a=b
       ·simp (disch:=first|assumption|omega) only[go_sem,seval,aa,(hf _).wf'];exact hK _ _ ⟨by simp[rU,e],rfl⟩
       ·simp (disch:=first|assumption|omega) only[go_sem,seval,aa,(hf _).wf'];exact hK _ _ ⟨by simp[rU,e],rfl⟩
      ·by_cases h6:o=60
       ·subst h6
        by_cases e:bt .i64 a<bt .i64 b
        ·simp (disch:=first|assumption|omega) only[go_sem,seval,aa,y9,(hf _).wf'];exact hK _ _ ⟨by simp[rU,e],rfl⟩
        ·simp (disch:=first|assumption|omega) only[go_sem,seval,aa,y9,(hf _).wf'];exact hK _ _ ⟨by simp[rU,e],rfl⟩
       ·simp (disch:=first|assumption|omega) only[go_sem,seval,aa];exact hK _ _ ⟨by simp[rU,h1,h2,h3,h4,h5,h6],rfl⟩
 obtain ⟨r,m',h1,rfl,rfl⟩:=h
 exact h1
abbrev mP (l:List Int):List (List NV):=l.map fun z=> [iu z]
structure Env (m0:NH) (vn vv:NV) (ns:List (List Nat)) (vs:List Int):Prop where
 n:Sl m0 vn 1 (bE ns)
 v:Sl m0 vv 1 (mP vs)
 i:∀z∈vs,dK z
 ln:ns.length<=1000000
 lv:vs.length<=1000000
theorem Env.grow {m0 m:NH} {vn vv:NV} {ns:List (List Nat)} {vs:List Int} (h:Env m0 vn vv ns vs) (hC:Chg [] m0 m):Env m vn vv ns vs:=⟨h.n.chg hC fun _ _=>by simp,h.v.chg hC fun _ _=>by simp,h.i,h.ln,h.lv⟩
theorem FJ {ns:List (List Nat)} {vs:List Int} {s:List Nat} {i:Nat} (h:bH ns s=i) (hi:i<vs.length):IX ns vs s=vs[i]:=by
 unfold IX
 rw[h,Rj (by omega),Int.toNat_natCast,List.getElem?_eq_getElem hi];rfl
theorem AR {ns:List (List Nat)} {vs:List Int} {s:List Nat} (h:bH ns s<0∨(vs.length:Int)<=bH ns s):IX ns vs s=0:=by
 unfold IX
 split
 ·rw[List.getElem?_eq_none (by omega)];rfl
 ·rfl
def Rb (f:Nat) (ns:List (List Nat)) (vs:List Int) (x:Ex):Prop:=∀{m0 m:NH} {T:D4->Prop} {c:List NV} {vn vv:NV},RE m0 T x c->aX T m0 m->Wid x->Env m vn vv ns vs->∃m',aS Tryz.prog S0 f [.agg c,vn,vv] m (iu (x.eval ns vs)) m'/\Chg [] m m'
theorem aX.grow {T:D4->Prop} {a b c:NH} (h:aX T a b) (hC:Chg [] b c):aX T a c:=fun i hi ho=>by
 obtain ⟨h1,h2⟩:=h i hi ho
 exact ⟨(hC.get h2 (by simp)).trans h1,hC.old h2⟩
theorem m6 {m0 M:NH} {T:D4->Prop} {ks:List Ex} {vk:NV} {C:List (List NV)} (hS:SE m0 T vk ks C) (hst:aX T m0 M) (i:Nat) (hi:i<ks.length):∃u id off w c,RE m0 T ks[i] (ks[i].l u)/\fU 5 vk (.int .i64 (.lit (i:Int)))= .val (.ptr id off)/\M.get id=some (.cells w c)/\am M id/\off+5<=c.length/\(c.drop off).take 5=ks[i].l u:=by
 obtain ⟨cx,hcx,hRx⟩:=hS.at i hi
 have hc:i<C.length:=by rw[hS.len];exact hi
 obtain ⟨id,off,wr,c,a1,a2,a3,a4,a5⟩:=(hS.stays hst).sl.at i hc
 obtain ⟨u,Cx,rfl,-⟩:=hRx.inv'
 rw[List.getElem?_eq_getElem hc] at hcx
 injection hcx with hcx
 exact ⟨u,id,off,wr,c,hRx,a1,a2,a3,a4,a5.trans hcx⟩
theorem cD {m:NH} {T:D4->Prop} {x:Ex} {u:NV} (h:RE m T x (x.l u)):bj 4 (.agg (x.l u)) (.agg (x.l u))=true:=by
 cases x
 obtain ⟨v,C,e,hS⟩:=h.inv
 refine iQ ?_
 intro w hw
 rw[e] at hw
 simp only[Rp,Rm,or_false] at hw
 rcases hw with rfl|rfl|rfl|rfl|rfl
 ·trivial
 ·trivial
 ·trivial
 ·trivial
 ·exact hS.sl.flat
theorem Jt {ns:List (List Nat)} {vs:List Int}:∀x:Ex,Rb 52 ns vs x:=by
 apply Ex.ind
 intro k n o s ks ih m0 m T c vn vv hR hst hw hen
 obtain ⟨vk,C,rfl,hS⟩:=hR.inv
 refine WF.ex1 fun K hK=> ?_
 refine WF.of_wpG (fun _=>rfl) yw (L:= [(.b .e,vv),(.a .e,vn),(.e,.agg [ii k,u64 n,u8 o,.str s,vk])]) rfl ?_
 unfold LP
 generalize hM1:hp [(.n 0,.cells true [ii k,u64 n,u8 o,.str s,vk])] 1 m=M1
 have hC1:Chg [] m M1:=ba hM1 rfl
 have hg1:M1.get (na m 0)=some (.cells true [ii k,u64 n,u8 o,.str s,vk]):=bz hM1
 have hen1:=hen.grow hC1
 have hst1:=hst.grow hC1
 rw[Ex.eval] at hK
 by_cases h0:k=0
 ·rw[Rj h0] at hK
  simp (disch:=first|assumption|omega) only[go_sem,seval,hM1,hg1]
  exact hK _ hC1
 ·rw[Ri h0] at hK
  by_cases h1:k=1
  ·rw[Rj h1] at hK
   have hix:=lJ hen1.n (by have:=hen.ln;omega) s
   have hlv:=hen1.v.len
   rw[List.length_map] at hlv
   have hlt:=kK (l:=ns) (x:=s)
   have hln:=hen.ln
   by_cases hf:0<=bH ns s
   ·obtain ⟨i,hi⟩:=Rr hf
    rw[hi] at hix
    by_cases hl:i<vs.length
    ·obtain ⟨id,off,w,c,a1,a2,a3,a4,a5⟩:=hen1.v.at i (by simpa using hl)
     rw[List.getElem_map] at a5
     have c0:c[off]? =some (iu vs[i]):=aA a5 0 (by omega)
     rw[FJ hi hl] at hK
     simp (disch:=first|assumption|omega) only[go_sem,seval,hM1,hg1,hix.wf',hlv,a1,a2,c0]
     exact hK _ hC1
    ·rw[AR (Or.inr (by omega))] at hK
     simp (disch:=first|assumption|omega) only[go_sem,seval,hM1,hg1,hix.wf',hlv]
     exact hK _ hC1
   ·rw[AR (Or.inl (by omega))] at hK
    generalize bH ns s=z at hix hf hlt
    simp (disch:=first|assumption|omega) only[go_sem,seval,hM1,hg1,hix.wf',hlv]
    exact hK _ hC1
  ·rw[Ri h1] at hK
   have hlk:=(hS.stays hst1).sl.len
   rw[hS.len] at hlk
   cases hw with
   |mk hn hl hwk=>
    by_cases h2:k=2
    ·rw[Rj h2] at hK
     by_cases h3:2<=ks.length
     ·obtain ⟨ua,ia,oa,wa,ca,hRa,a1,a2,a3,a4,a5⟩:=m6 hS hst1 0 (by omega)
      obtain ⟨ub,ib,ob,wb,cb,hRb,b1,b2,b3,b4,b5⟩:=m6 hS hst1 1 (by omega)
      have e2:ks=ks[0]::ks[1]::ks.drop 2:=by
       rw[←List.drop_eq_getElem_cons (by omega),←List.drop_eq_getElem_cons (by omega),List.drop_zero]
      have e1:GC o (iS ns vs ks)=rU o (ks[0].eval ns vs) (ks[1].eval ns vs):=by
       conv=>lhs;rw[e2]
       simp only[iS,GC]
      rw[e1] at hK
      have ma:ks[0]∈ks:=List.getElem_mem _
      have mb:ks[1]∈ks:=List.getElem_mem _
      have a1':fU 5 vk (ii 0)= .val (.ptr ia oa):=a1
      have b1':fU 5 vk (ii 1)= .val (.ptr ib ob):=b1
      obtain ⟨M2,hr2,hC2⟩:=ih _ ma hRa hst1 (hwk _ ma) hen1
      have hst2:=hst1.grow hC2
      obtain ⟨M3,hr3,hC3⟩:=ih _ mb hRb hst2 (hwk _ mb) (hen1.grow hC2)
      have ho1:am M1 (na m 0):=bw hM1 (by omega)
      have hg2:=(hC2.get ho1 (by simp)).trans hg1
      have hg3:=(hC3.get (hC2.old ho1) (by simp)).trans hg2
      have a22:=(hC2.get a3 (by simp)).trans a2
      have b22:=(hC2.get b3 (by simp)).trans b2
      have a23:=(hC3.get (hC2.old a3) (by simp)).trans a22
      have b23:=(hC3.get (hC2.old b3) (by simp)).trans b22
      have hrk:=DS M3 o (dC (ns:=ns) hen.i _ (hwk _ ma)) (dC (ns:=ns) hen.i _ (hwk _ mb))
      have hvk:bj 4 vk vk=true:=hS.sl.same
      have hsa:=cD hRa
      have hsb:=cD hRb
      simp (disch:=first|assumption|omega) only[go_sem,seval,hM1,hg1,hlk,a1',a2,a5,b1',b2,b5,hr2.wf',hg2,a22,b22,hr3.wf',hg3,a23,b23,hrk.wf',hvk,hsa,hsb]
      exact hK _ ((hC1.trans hC2 (by simp)).trans hC3 (by simp))
     ·have e1:GC o (iS ns vs ks)=0:=by
       match ks,h3 with
       | [],_=>rfl
       | [a],_=>rfl
       |a::b::r,h3=>simp at h3
      rw[e1] at hK
      simp (disch:=first|assumption|omega) only[go_sem,seval,hM1,hg1,hlk]
      exact hK _ hC1
    ·rw[Ri h2] at hK
     simp (disch:=first|assumption|omega) only[go_sem,seval,hM1,hg1]
     exact hK _ hC1
theorem JA {ns:List (List Nat)} {vs:List Int} {vn vv vk:NV} {k:Int} {n o:Nat} {s:List Nat} {M:NH} {b:D4} (hen:Env M vn vv ns vs) (hg:M.get b=some (.cells true [ii k,u64 n,u8 o,.str s,vk])) (ho:am M b) {t:Tm} (g1:NT.get D4.e.a t=some vn) (g2:NT.get D4.e.b t=some vv) (g3:NT.get D4.e.c t=some (.ptr b 0)) (g4:NT.get D4.e.a.c t=some (ii 0)) {Q:Out->Dyn->Prop}
 (hY:∀t' z,IX ns vs s=z->NT.get D4.e.a.b t'=some (iu z)->Q .ret ⟨ai [] t', [],none,M⟩) (hN:∀t',IX ns vs s=0->Q (.exit 1) ⟨ai [] t', [],none,M⟩):
 W Tryz.prog S0 none qV.loop ⟨t, [],none,M⟩ Q:=by
 have hlv:=hen.v.len
 have hln:=hen.n.len
 rw[List.length_map] at hlv hln
 have hbn:=hen.ln
 refine W.loop (fun k d=>∃t i,d=⟨t, [],none,M⟩/\NT.get D4.e.a t=some vn/\NT.get D4.e.b t=some vv/\NT.get D4.e.c t=some (.ptr b 0)/\NT.get D4.e.a.c t=some (ii (i:Nat))/\i+k=ns.length/\∀j (hj:j<i) (hl:j<ns.length),s≠ns[j]) ?_ ns.length _ ⟨t,0,rfl,g1,g2,g3,g4,by omega,by simp⟩
 clear g1 g2 g3 g4
 rintro kk d ⟨t,i,rfl,g1,g2,g3,g4,hik,hn⟩
 apply ao
 unfold qV
 change wp _ _ _ _ ⟨ai [] t, [],none,M⟩ _
 by_cases hi:i<ns.length
 ·by_cases hl:i<vs.length
  ·obtain ⟨id,off,w,c,a1,a2,a3,a4,a5⟩:=hen.n.at i (by simpa using hi)
   rw[List.getElem_map] at a5
   have c0:c[off]? =some (.str ns[i]):=aA a5 0 (by omega)
   obtain ⟨id2,off2,w2,c2,b1,b2,b3,b4,b5⟩:=hen.v.at i (by simpa using hl)
   rw[List.getElem_map] at b5
   have d0:c2[off2]? =some (iu vs[i]):=aA b5 0 (by omega)
   by_cases he:s=ns[i]
   ·have he':decide (ns[i]=s)=true:=Rl he.symm
    simp (disch:=first|assumption|omega) only[go_sem,seval,g1,g2,g3,g4,hln,hlv,a1,a2,c0,hg,he',b1,b2,d0]
    exact hY _ _ (FJ (fi hi he fun j hj=>hn j hj (by omega)) hl) (by simp only[go_sem,seval])
   ·have he':decide (ns[i]=s)=false:=Rk fun e=>he e.symm
    simp (disch:=first|assumption|omega) only[go_sem,seval,g1,g2,g3,g4,hln,hlv,a1,a2,c0,hg,he']
    refine ⟨kk - 1,by omega,_,i+1,by rfl,by simp only[go_sem,seval,g1],by simp only[go_sem,seval,g2],by simp only[go_sem,seval,g3],by simp only[go_sem,seval]<;>rfl,by omega, ?_⟩
    intro j hj hl2
    rcases Nat.lt_or_ge j i with h|h
    ·exact hn j h hl2
    ·have:j=i:=by omega
     subst this;exact he
  ·simp (disch:=first|assumption|omega) only[go_sem,seval,g1,g2,g3,g4,hln,hlv]
   refine hN _ (AR ?_)
   by_cases hf:0<=bH ns s
   ·right
    obtain ⟨j,hj⟩:=Rr hf
    have hlt:=(kK (l:=ns) (x:=s)).1
    rcases Nat.lt_or_ge j i with h|h
    ·exfalso
     have hjl:j<ns.length:=by omega
     unfold bH at hj
     cases hq:ns.findIdx? (fun a=>decide (s=a)) with
     |none=>rw[hq] at hj;dsimp only at hj;omega
     |some q=>
      rw[hq] at hj
      obtain ⟨h1,h2,-⟩:=List.findIdx?_eq_some_iff_getElem.mp hq
      have:q=j:=by dsimp only at hj;omega
      subst this
      exact hn q h hjl (by simpa using h2)
    ·omega
   ·exact Or.inl (by omega)
 ·simp (disch:=first|assumption|omega) only[go_sem,seval,g1,g2,g3,g4,hln,hlv]
  refine hN _ (AR (Or.inl ?_))
  rw[dZ fun j hj=>hn j (by omega) hj];omega
theorem oL {ns:List (List Nat)} {vs:List Int}:∀x:Ex,Rb 80 ns vs x:=by
 apply Ex.ind
 intro k n o s ks ih m0 m T c vn vv hR hst hw hen
 obtain ⟨vk,C,rfl,hS⟩:=hR.inv
 refine WF.ex1 fun K hK=> ?_
 refine WF.of_wpG (fun _=>rfl) yO (L:= [(.b .e,vv),(.a .e,vn),(.e,.agg [ii k,u64 n,u8 o,.str s,vk])]) rfl ?_
 unfold Lk
 generalize hM1:hp [(.n 0,.cells true [ii k,u64 n,u8 o,.str s,vk])] 1 m=M1
 have hC1:Chg [] m M1:=ba hM1 rfl
 have hg1:M1.get (na m 0)=some (.cells true [ii k,u64 n,u8 o,.str s,vk]):=bz hM1
 have hen1:=hen.grow hC1
 have hst1:=hst.grow hC1
 rw[Ex.eval] at hK
 by_cases h0:k=0
 ·rw[Rj h0] at hK
  simp (disch:=first|assumption|omega) only[go_sem,seval,hM1,hg1]
  exact hK _ hC1
 ·rw[Ri h0] at hK
  by_cases h1:k=1
  ·rw[Rj h1] at hK
   have hlv:=hen1.v.len
   have hln:=hen1.n.len
   rw[List.length_map] at hlv hln
   have hbn:=hen.ln
   simp (disch:=first|assumption|omega) only[go_sem,seval,hM1,hg1]
   have ho1:am M1 (na m 0):=bw hM1 (by omega)
   refine JA hen1 hg1 ho1 (by simp only[go_sem,seval]) (by simp only[go_sem,seval]) (by simp only[go_sem,seval]) (by simp only[go_sem,seval]) ?_ ?_
   ·intro t' z hz g1
    rw[hz] at hK
    simp (disch:=first|assumption|omega) only[go_sem,seval,g1]
    exact hK _ hC1
   ·intro t' hz
    rw[hz] at hK
    simp (disch:=first|assumption|omega) only[go_sem,seval]
    exact hK _ hC1
  ·rw[Ri h1] at hK
   have hlk:=(hS.stays hst1).sl.len
   rw[hS.len] at hlk
   cases hw with
   |mk hn hl hwk=>
    by_cases h2:k=2
    ·rw[Rj h2] at hK
     by_cases h3:2<=ks.length
     ·obtain ⟨ua,ia,oa,wa,ca,hRa,a1,a2,a3,a4,a5⟩:=m6 hS hst1 0 (by omega)
      obtain ⟨ub,ib,ob,wb,cb,hRb,b1,b2,b3,b4,b5⟩:=m6 hS hst1 1 (by omega)
      have e2:ks=ks[0]::ks[1]::ks.drop 2:=by
       rw[←List.drop_eq_getElem_cons (by omega),←List.drop_eq_getElem_cons (by omega),List.drop_zero]
      have e1:GC o (iS ns vs ks)=rU o (ks[0].eval ns vs) (ks[1].eval ns vs):=by
       conv=>lhs;rw[e2]
       simp only[iS,GC]
      rw[e1] at hK
      have ma:ks[0]∈ks:=List.getElem_mem _
      have mb:ks[1]∈ks:=List.getElem_mem _
      have a1':fU 5 vk (ii 0)= .val (.ptr ia oa):=a1
      have b1':fU 5 vk (ii 1)= .val (.ptr ib ob):=b1
      obtain ⟨M2,hr2,hC2⟩:=ih _ ma hRa hst1 (hwk _ ma) hen1
      have hst2:=hst1.grow hC2
      obtain ⟨M3,hr3,hC3⟩:=ih _ mb hRb hst2 (hwk _ mb) (hen1.grow hC2)
      have ho1:am M1 (na m 0):=bw hM1 (by omega)
      have hg2:=(hC2.get ho1 (by simp)).trans hg1
      have hg3:=(hC3.get (hC2.old ho1) (by simp)).trans hg2
      have a22:=(hC2.get a3 (by simp)).trans a2
      have b22:=(hC2.get b3 (by simp)).trans b2
      have a23:=(hC3.get (hC2.old a3) (by simp)).trans a22
      have b23:=(hC3.get (hC2.old b3) (by simp)).trans b22
      have hrk:=Qy M3 o (dC (ns:=ns) hen.i _ (hwk _ ma)) (dC (ns:=ns) hen.i _ (hwk _ mb))
      have hvk:bj 4 vk vk=true:=hS.sl.same
      have hsa:=cD hRa
      have hsb:=cD hRb
      simp (disch:=first|assumption|omega) only[go_sem,seval,hM1,hg1,hlk,a1',a2,a5,b1',b2,b5,hr2.wf',hg2,a22,b22,hr3.wf',hg3,a23,b23,hrk.wf',hvk,hsa,hsb]
      exact hK _ ((hC1.trans hC2 (by simp)).trans hC3 (by simp))
     ·have e1:GC o (iS ns vs ks)=0:=by
       match ks,h3 with
       | [],_=>rfl
       | [a],_=>rfl
       |a::b::r,h3=>simp at h3
      rw[e1] at hK
      simp (disch:=first|assumption|omega) only[go_sem,seval,hM1,hg1,hlk]
      exact hK _ hC1
    ·rw[Ri h2] at hK
     simp (disch:=first|assumption|omega) only[go_sem,seval,hM1,hg1]
     exact hK _ hC1
def mU (s:Int):Bool:=decide (1<=s/\s<=64/\s.toNat&&& (s.toNat - 1)=0)
def cK:List (List Nat)->Int->List (List Nat×Int)->Int
 |_,_, []=>0
 |seen,w,c::l=>if c.1∈seen then 5 else if mU c.2=false then 7 else if 64 - w<c.2 then 3 else cK (aL seen c.1) (w+c.2) l
def fq:List (List Nat)->List (List Nat)->Int
 |_, []=>0
 |seen,n::l=>if n∈seen then 5 else fq (aL seen n) l
theorem FC {l:List (List Nat)} {s x:List Nat}:x∈aL l s↔x∈l∨x=s:=by
 unfold aL
 split
 ·rename_i h;constructor
  ·exact Or.inl
  ·rintro (q|rfl)
   ·exact q
   ·exact h
 ·simp
theorem fj {x:List Nat}:∀(more l:List (List Nat)),x∈more.foldl aL l↔x∈l∨x∈more:=by
 intro more
 induction more with
 |nil=>intro l;simp
 |cons a more ih=>intro l;rw[List.foldl_cons,ih,FC,Rp,or_assoc]
theorem GM {a b:Nat} (ha:a<1000) (hb:b<1000):c7 .num .and (ii a) (ii b)=some (ii ((a&&& b:Nat):Int)):=
 (iK rfl).trans (bits_nat (k:= .i64) (Or.inl rfl) (by show a<9223372036854775808;omega) (by show b<9223372036854775808;omega) rfl)
theorem si {s:Int} (h1:1<=s) (h2:s<=64):c7 .num .and (ii s) (ii (s - 1))=some (ii (s.toNat&&& (s.toNat - 1):Nat)):=by
 obtain ⟨n,rfl⟩:=Rr (by omega:0<=s)
 rw[show ((n:Int) - 1)=((n - 1:Nat):Int) by omega]
 exact GM (by omega) (by omega)
theorem Hd {m:NH} {v:NV} {l:List (List Nat×Int)} (hv:Sl m v 2 (jH l)) (hsz:l.length<=1000000):∃m',aS Tryz.prog S0 113 [v] m (ii (cK [] 0 l)) m'/\Chg [] m m':=by
 refine WF.ex1 fun K hK=> ?_
 refine WF.of_wpG (fun _=>rfl) tp (L:= [(.e,v)]) rfl ?_
 unfold DF
 have hlen:=hv.len
 rw[List.length_map] at hlen
 simp (disch:=first|assumption|omega) only[go_sem,seval,hlen]
 generalize hM0:hp _ 1 m=M0
 have hC0:Chg [] m M0:=ba hM0 rfl
 have hg0:M0.get (na m 0)=some (.map (gh [])):=bz hM0
 have ho0:am M0 (na m 0):=bw hM0 (by omega)
 refine W.loop (fun k d=>∃t M i seen w,d=⟨t, [],none,M⟩/\NT.get D4.e.c t=some (ii w)/\NT.get D4.e.f t=some (.map (na m 0))/\NT.get D4.e.a.f t=some v/\NT.get D4.e.b.a t=some (ii l.length)/\NT.get D4.e.b.b t=some (ii (i:Nat))/\i+k=l.length/\0<=w/\w<=64/\cK seen w (l.drop i)=cK [] 0 l/\M.get (na m 0)=some (.map (gh seen))/\am M (na m 0)/\Chg [] m M) ?_ l.length _ ⟨_,M0,0, [],0,rfl,by simp only[go_sem,seval],by simp only[go_sem,seval],by simp only[go_sem,seval],by simp only[go_sem,seval],by simp only[go_sem,seval]<;>rfl,by omega,by omega,by omega,rfl,hg0,ho0,hC0⟩
 rintro k d ⟨t,M,i,seen,w,rfl,g1,g2,g3,g4,g5,hik,hw0,hw,hE,hg,ho,hC⟩
 apply ao
 unfold ur
 change wp _ _ _ _ ⟨ai [] t, [],none,M⟩ _
 rw[←aa M]
 by_cases hi:i<l.length
 ·obtain ⟨id,off,wr,c,a1,a2,a3,a4,a5⟩:=hv.at i (by simpa using hi)
  rw[List.getElem_map] at a5
  have a2':=(hC.get a3 (by simp)).trans a2
  have a3':=hC.old a3
  rw[List.drop_eq_getElem_cons hi] at hE
  generalize hc:l[i]=cc at hE a5
  obtain ⟨n,s⟩:=cc
  rw[cK] at hE
  dsimp only at hE a5
  by_cases hin:n∈seen
  ·rw[Rj hin] at hE
   have hd:decide (n∈seen)=true:=Rl hin
   simp (disch:=first|assumption|omega|(simp only[aI]<;>omega)) only[go_sem,seval,g1,g2,g3,g4,g5,hlen,a1,a2',a5,hg,hd]
   rw[←hE] at hK
   exact hK _ (fN hC rfl)
  ·rw[Ri hin] at hE
   have hd:decide (n∈seen)=false:=Rk hin
   by_cases hpw:mU s=true
   ·rw[Ri (by simp[hpw])] at hE
    have hp':=of_decide_eq_true hpw
    obtain ⟨p1,p2,p3⟩:=hp'
    have hpa:=si p1 p2
    rw[p3] at hpa
    by_cases hlw:64 - w<s
    ·rw[Rj hlw] at hE
     simp (disch:=first|assumption|omega|(simp only[aI]<;>omega)) only[go_sem,seval,g1,g2,g3,g4,g5,hlen,a1,a2',a5,hg,hd,hpa]
     rw[←hE] at hK
     exact hK _ (fN hC rfl)
    ·rw[Ri hlw] at hE
     simp (disch:=first|assumption|omega|(simp only[aI]<;>omega)) only[go_sem,seval,g1,g2,g3,g4,g5,hlen,a1,a2',a5,hg,hd,hpa]
     generalize hM1:hp _ 1 M=M1
     have hC1:Chg [na m 0] M M1:=ba hM1 rfl
     refine ⟨k - 1,by omega,_,M1,i+1,_,w+s,by rfl,by simp only[go_sem,seval],by simp only[go_sem,seval,g2],by simp only[go_sem,seval,g3],by simp only[go_sem,seval,g4],by simp only[go_sem,seval]<;>rfl,by omega,by omega,by omega,hE, ?_,hC1.old ho,hC.trans hC1 fun i hi ho=> ?_⟩
     ·rw[←hM1];exact (aF ho).trans ap
     ·have hi:=one hi;subst hi;exact Rh ho az
   ·have hpw:mU s=false:=by simpa using hpw
    rw[Rj hpw] at hE
    have hp':=of_decide_eq_false hpw
    by_cases h1:s<1
    ·simp (disch:=first|assumption|omega|(simp only[aI]<;>omega)) only[go_sem,seval,g1,g2,g3,g4,g5,hlen,a1,a2',a5,hg,hd]
     rw[←hE] at hK
     exact hK _ (fN hC rfl)
    ·by_cases h2:64<s
     ·simp (disch:=first|assumption|omega|(simp only[aI]<;>omega)) only[go_sem,seval,g1,g2,g3,g4,g5,hlen,a1,a2',a5,hg,hd]
      rw[←hE] at hK
      exact hK _ (fN hC rfl)
     ·have hpa:=si (by omega:1<=s) (by omega)
      have hne:s.toNat&&& (s.toNat - 1)≠0:=fun h=>hp' ⟨by omega,by omega,h⟩
      generalize s.toNat&&& (s.toNat - 1)=r at hpa hne
      simp (disch:=first|assumption|omega|(simp only[aI]<;>omega)) only[go_sem,seval,g1,g2,g3,g4,g5,hlen,a1,a2',a5,hg,hd,hpa]
      rw[←hE] at hK
      exact hK _ (fN hC rfl)
 ·simp (disch:=first|assumption|omega) only[go_sem,seval,g1,g2,g3,g4,g5,hlen]
  rw[List.drop_of_length_le (by omega),cK] at hE
  rw[←hE] at hK
  rw[aa]
  exact hK _ hC
theorem B6 {m:NH} {T:D4->Prop} {v:NV} {l:List (List Nat×List Stm)} {C:List (List NV)} (hT:Ths m T v l C) (hsz:l.length<=1000000):∃m',aS Tryz.prog S0 114 [v] m (ii (fq [] (l.map (·.1)))) m'/\Chg [] m m':=by
 refine WF.ex1 fun K hK=> ?_
 refine WF.of_wpG (fun _=>rfl) vz (L:= [(.e,v)]) rfl ?_
 unfold FK
 have hlen:=hT.sl.len
 rw[hT.len] at hlen
 simp (disch:=first|assumption|omega) only[go_sem,seval,hlen]
 generalize hM0:hp _ 1 m=M0
 have hC0:Chg [] m M0:=ba hM0 rfl
 have hg0:M0.get (na m 0)=some (.map (gh [])):=bz hM0
 have ho0:am M0 (na m 0):=bw hM0 (by omega)
 refine W.loop (fun k d=>∃t M i seen,d=⟨t, [],none,M⟩/\NT.get D4.e.c t=some (.map (na m 0))/\NT.get D4.e.a.c t=some v/\NT.get D4.e.a.f t=some (ii l.length)/\NT.get D4.e.b.a t=some (ii (i:Nat))/\i+k=l.length/\fq seen ((l.map (·.1)).drop i)=fq [] (l.map (·.1))/\M.get (na m 0)=some (.map (gh seen))/\am M (na m 0)/\Chg [] m M) ?_ l.length _ ⟨_,M0,0, [],rfl,by simp only[go_sem,seval],by simp only[go_sem,seval],by simp only[go_sem,seval],by simp only[go_sem,seval]<;>rfl,by omega,rfl,hg0,ho0,hC0⟩
 rintro k d ⟨t,M,i,seen,rfl,g1,g2,g3,g4,hik,hE,hg,ho,hC⟩
 apply ao
 unfold u6
 change wp _ _ _ _ ⟨ai [] t, [],none,M⟩ _
 rw[←aa M]
 by_cases hi:i<l.length
 ·obtain ⟨vb,B,id,off,wr,c,-,a1,a2,a3,a4,a5⟩:=hT.at i hi
  have a2':=(hC.get a3 (by simp)).trans a2
  have a3':=hC.old a3
  rw[List.drop_eq_getElem_cons (by simpa using hi),List.getElem_map,fq] at hE
  generalize l[i].1=n at hE a5
  by_cases hin:n∈seen
  ·rw[Rj hin] at hE
   have hd:decide (n∈seen)=true:=Rl hin
   simp (disch:=first|assumption|omega|(simp only[aI]<;>omega)) only[go_sem,seval,g1,g2,g3,g4,hlen,a1,a2',a5,hg,hd]
   rw[←hE] at hK
   exact hK _ (fN hC rfl)
  ·rw[Ri hin] at hE
   have hd:decide (n∈seen)=false:=Rk hin
   simp (disch:=first|assumption|omega|(simp only[aI]<;>omega)) only[go_sem,seval,g1,g2,g3,g4,hlen,a1,a2',a5,hg,hd]
   generalize hM1:hp _ 1 M=M1
   have hC1:Chg [na m 0] M M1:=ba hM1 rfl
   refine ⟨k - 1,by omega,_,M1,i+1,_,by rfl,by simp only[go_sem,seval,g1],by simp only[go_sem,seval,g2],by simp only[go_sem,seval,g3],by simp only[go_sem,seval]<;>rfl,by omega,hE, ?_,hC1.old ho,hC.trans hC1 fun i hi ho=> ?_⟩
   ·rw[←hM1];exact (aF ho).trans ap
   ·have hi:=one hi;subst hi;exact Rh ho az
 ·simp (disch:=first|assumption|omega) only[go_sem,seval,g1,g2,g3,g4,hlen]
  rw[List.drop_of_length_le (by simp;omega),fq] at hE
  rw[←hE] at hK
  rw[aa]
  exact hK _ hC
def mB (p:Prg):Int:=if 16<p.cs.length∨p.ts.length=0∨4<p.ts.length then 3 else if cK [] 0 p.cs≠0 then cK [] 0 p.cs else fq [] (p.ts.map (·.1))
theorem Kx {m:NH} {T:D4->Prop} {p:Prg} {vc vt vr:NV} (h:RP m T p vc vt vr) (hs:p.cs.length<=1000000/\p.ts.length<=1000000):∃m',aS Tryz.prog S0 72 [.agg [vc,vt,vr]] m (ii (mB p)) m'/\Chg [] m m':=by
 refine WF.ex1 fun K hK=> ?_
 refine WF.of_wpG (fun _=>rfl) AW (L:= [(.e,.agg [vc,vt,vr])]) rfl ?_
 unfold JM
 obtain ⟨C,hT⟩:=h.t
 have l1:=h.c.len
 have l2:=hT.sl.len
 rw[List.length_map] at l1
 rw[hT.len] at l2
 unfold mB at hK
 by_cases h1:16<p.cs.length
 ·rw[Rj (Or.inl h1)] at hK
  simp (disch:=first|assumption|omega) only[go_sem,seval,l1,l2]
  exact hK _ (aC rfl)
 ·by_cases h2:p.ts.length=0
  ·rw[Rj (Or.inr (Or.inl h2))] at hK
   simp (disch:=first|assumption|omega) only[go_sem,seval,l1,l2]
   exact hK _ (aC rfl)
  ·by_cases h3:4<p.ts.length
   ·rw[Rj (Or.inr (Or.inr h3))] at hK
    simp (disch:=first|assumption|omega) only[go_sem,seval,l1,l2]
    exact hK _ (aC rfl)
   ·rw[Ri (by omega)] at hK
    have hC1:Chg [] m (hp [(.n 0,.cells true [vc,vt,vr])] 1 m):=aC rfl
    obtain ⟨m2,hr,hC2⟩:=Hd (h.c.chg hC1 fun _ _=>by simp) hs.1
    have g2:m2.get (na m 0)=some (.cells true [vc,vt,vr]):=(hC2.get (bv (by omega)) (by simp)).trans bo
    have o2:am m2 (na m 0):=hC2.old (bv (by omega))
    have hC:=hC1.trans hC2 (by simp)
    simp (disch:=first|assumption|omega) only[go_sem,seval,l1,l2,hr.wf',g2,o2]
    by_cases h4:cK [] 0 p.cs=0
    ·rw[Ri (by simpa using h4)] at hK
     rw[h4]
     obtain ⟨m3,hr3,hC3⟩:=B6 (hT.stays (lF hC T)) hs.2
     simp (disch:=first|assumption|omega) only[go_sem,seval,g2,o2,hr3.wf']
     exact hK _ (hC.trans hC3 (by simp))
    ·rw[Rj h4] at hK
     have hd:decide (cK [] 0 p.cs≠0)=true:=Rl h4
     simp (disch:=first|assumption|omega) only[go_sem,seval,g2,o2,hd]
     exact hK _ hC
theorem sr {m:NH} {v:NV} {l:List (List Nat×Int)} (hv:Sl m v 2 (jH l)) (hsz:l.length<=1000000) (s:List Nat):aS Tryz.prog S0 74 [v,.str s] m (ii (bH (l.map (·.1)) s)) m:=by
 have h:∃r m',aS Tryz.prog S0 74 [v,.str s] m r m'/\r=ii (bH (l.map (·.1)) s)/\m'=m:=by
  refine WF.ex fun K hK=> ?_
  refine WF.of_wpG (fun _=>rfl) Ax (L:= [(.a .e,.str s),(.e,v)]) rfl ?_
  unfold Kj
  have hlen:=hv.len
  rw[List.length_map] at hlen
  simp (disch:=first|assumption|omega) only[go_sem,seval,aa]
  refine W.loop (fun k d=>∃t i,d=⟨t, [],none,m⟩/\NT.get D4.e t=some v/\NT.get D4.e.a t=some (.str s)/\NT.get D4.e.a.a t=some (ii (i:Nat))/\i+k=l.length/\∀j (hj:j<i) (hl:j<l.length),s≠l[j].1) ?_ l.length _ ⟨_,0,rfl,by simp only[go_sem,seval],by simp only[go_sem,seval],by simp only[go_sem,seval]<;>rfl,by omega,by simp⟩
  rintro k d ⟨t,i,rfl,g1,g2,g3,hik,hn⟩
  apply ao
  unfold AO
  change wp _ _ _ _ ⟨ai [] t, [],none,m⟩ _
  by_cases hi:i<l.length
  ·obtain ⟨id,off,wr,c,a1,a2,a3,a4,a5⟩:=hv.at i (by simpa using hi)
   rw[List.getElem_map] at a5
   have c0:c[off+0]? =some (.str l[i].1):=aA a5 0 (by omega)
   by_cases he:l[i].1=s
   ·simp (disch:=first|assumption|omega) only[go_sem,seval,g1,g2,g3,hlen,a1,a2,c0,he]
    have hf:bH (l.map (·.1)) s=i:=fi (by simpa using hi) (by simp[he]) fun j hj=>by rw[List.getElem_map];exact hn j hj (by omega)
    exact hK _ _ ⟨by rw[hf],rfl⟩
   ·simp (disch:=first|assumption|omega) only[go_sem,seval,g1,g2,g3,hlen,a1,a2,c0,he]
    refine ⟨k - 1,by omega,_,i+1,by rfl,by simp only[go_sem,seval,g1],by simp only[go_sem,seval,g2],by simp only[go_sem,seval]<;>rfl,by omega,fun j hj hl=> ?_⟩
    rcases Nat.lt_or_ge j i with q|q
    ·exact hn j q hl
    ·obtain rfl:j=i:=by omega
     exact fun q=>he q.symm
  ·simp (disch:=first|assumption|omega) only[go_sem,seval,g1,g2,g3,hlen]
   have hf:bH (l.map (·.1)) s=-1:=dZ fun j hj=>by rw[List.getElem_map];exact hn j (by simp at hj;omega) (by simpa using hj)
   exact hK _ _ ⟨by rw[hf],rfl⟩
 obtain ⟨r,m',h1,rfl,rfl⟩:=h
 exact h1
theorem GL (m:NH) (s:Int):aS Tryz.prog S0 75 [ii s] m (.bool (mU s)) m:=by
 have h:∃r m',aS Tryz.prog S0 75 [ii s] m r m'/\r= .bool (mU s)/\m'=m:=by
  refine WF.ex fun K hK=> ?_
  refine WF.of_wpG (fun _=>rfl) yH (L:= [(.e,ii s)]) rfl ?_
  unfold I8
  by_cases h1:1<=s
  ·by_cases h2:s<=64
   ·have hpa:=si h1 h2
    by_cases h3:s.toNat&&& (s.toNat - 1)=0
    ·rw[h3] at hpa
     simp (disch:=first|assumption|omega) only[go_sem,seval,aa,hpa]
     exact hK _ _ ⟨by unfold mU;rw[Rl ⟨h1,h2,h3⟩],rfl⟩
    ·have hne:mU s=false:=Rk fun h=>h3 h.2.2
     generalize s.toNat&&& (s.toNat - 1)=r at hpa h3
     simp (disch:=first|assumption|omega) only[go_sem,seval,aa,hpa]
     exact hK _ _ ⟨by rw[hne],rfl⟩
   ·simp (disch:=first|assumption|omega) only[go_sem,seval,aa]
    exact hK _ _ ⟨by unfold mU;rw[Rk fun h=>h2 h.2.1],rfl⟩
  ·simp (disch:=first|assumption|omega) only[go_sem,seval,aa]
   exact hK _ _ ⟨by unfold mU;rw[Rk fun h=>h1 h.1],rfl⟩
 obtain ⟨r,m',h1,rfl,rfl⟩:=h
 exact h1
structure Sp where
 (k d a b c t ce n o:Int)
abbrev ib (z:Int):NV:= .int .u8 (.lit z)
abbrev Sp.l (s:Sp):List NV:= [ii s.k,ii s.d,ii s.a,ii s.b,ii s.c,ii s.t,ii s.ce,iu s.n,ib s.o]
structure Ms where
 st:List Sp
 (v lb:Int)
structure Ms.ok (X:Ms) (k:Nat):Prop where
 s:X.st.length+k<=1000000000
 v0:0<=X.v
 v:X.v+k<=1000000000
 l0:0<=X.lb
 l:X.lb+k<=1000000000
theorem Ms.ok.weak {X:Ms} {k j:Nat} (h:X.ok k) (hj:j<=k):X.ok j:=⟨by have:=h.s;omega,h.v0,by have:=h.v;omega,h.l0,by have:=h.l;omega⟩
structure MK (B m:NH) (r:D4) (vc vn:NV) (lo:Int) (vs:NV) (X:Ms):Prop where
 g:m.get r=some (.cells true [vc,vn,ii X.v,ii lo,vs,ii X.lb])
 o:am m r
 nB:¬am B r
 s:aU B m vs 9 (X.st.map Sp.l)
 n:r∉ids vs
 c:Chg [] B m
structure Ev (r:D4) (vs vs':NV) (m m':NH):Prop where
 c:Chg (r::ids vs) m m'
 f:∀j∈ids vs',j∈ids vs∨¬am m j
section
variable {B m m' m'' M:NH} {r i:D4} {vc vn vs vs' vs'':NV} {lo:Int} {X X':Ms}
theorem Ev.trans (h:Ev r vs vs' m m') (h':Ev r vs' vs'' m' m''):Ev r vs vs'' m m'':=
 ⟨h.c.trans h'.c fun i hi ho=>by
  rcases List.mem_cons.mp hi with rfl|hi
  ·exact List.mem_cons_self ..
  ·exact (h.f i hi).elim (fun q=>List.mem_cons_of_mem _ q) fun q=>Rh ho q,
 fun j hj=>(h'.f j hj).elim (h.f j) fun q=>Or.inr fun ho=>q (h.c.old ho)⟩
theorem Ev.pre (hC:Chg [] m m') (h:Ev r vs vs' m' m''):Ev r vs vs' m m'':=
 ⟨(hC.weak (T:=r::ids vs) (by simp)).trans h.c fun i hi _=>hi,fun j hj=>(h.f j hj).imp id fun q ho=>q (hC.old ho)⟩
theorem Ev.grow (hC:Chg [] m m'):Ev r vs vs m m':=⟨hC.weak (by simp),fun j hj=>Or.inl hj⟩
theorem Ev.get (h:Ev r vs vs' m m') (ho:am m i) (hr:i≠r) (hi:i∉ids vs):m'.get i=m.get i:=h.c.get ho (by simp[hr,hi])
theorem Ev.nin (h:Ev r vs vs' m m') (ho:am m i) (hi:i∉ids vs):i∉ids vs':=fun q=>(h.f i q).elim hi fun q=>q ho
theorem MK.grow (h:MK B m r vc vn lo vs X) (hC:Chg [] m m'):MK B m' r vc vn lo vs X:=
 ⟨(hC.get h.o (by simp)).trans h.g,hC.old h.o,h.nB,h.s.chg hC fun _ _=>by simp,h.n,h.c.trans hC (by simp)⟩
theorem MK.new (h:MK B m r vc vn lo vs X) (k:Nat):na m k≠r/\na m k∉ids vs:=⟨fun e=>h.o.ne k e.symm,fun q=>az (h.s.sl.old _ q)⟩
theorem MK.chg (h:MK B m r vc vn lo vs X) (hE:Ev r vs vs' m m'):Chg [] B m':=h.c.trans hE.c fun i hi ho=>by
 rcases List.mem_cons.mp hi with rfl|hi
 ·exact Rh ho h.nB
 ·exact Rh ho (h.s.new i hi)
end
section
variable {B m:NH} {r:D4} {vc vn vs:NV} {lo:Int} {X:Ms}
end
section
variable {B m:NH} {r:D4} {vc vn vs:NV} {lo:Int} {X:Ms}
end
def iG (z:Int):Int:=max 1 (min z 64)
theorem ni (z:Int):1<=iG z/\iG z<=64:=by unfold iG;omega
def bn:List (List Nat×Int)->Int
 | []=>0
 |c::l=>iG c.2+bn l
theorem dc (l:List (List Nat×Int)):0<=bn l/\bn l<=64*l.length:=by
 induction l with
 |nil=>simp[bn]
 |cons c l ih=>have:=ni c.2;rw[bn,List.length_cons];omega
theorem gW (l:List (List Nat×Int)):∀(i:Nat) (hi:i<l.length),bn (l.take (i+1))=bn (l.take i)+iG l[i].2:=by
 induction l with
 |nil=>intro i hi;simp at hi
 |cons c l ih=>
  intro i hi
  cases i with
  |zero=>simp[bn]
  |succ i=>
   have:=ih i (by simpa using hi)
   rw[List.take_succ_cons,bn,this,List.take_succ_cons,bn,List.getElem_cons_succ];omega
def Jp (l:List (List Nat×Int)) (i:Int):Int:=if 0<=i/\i<l.length then 4096+8*bn (l.take i.toNat) else 4096
theorem Aj {m:NH} {v:NV} {l:List (List Nat×Int)} (hv:Sl m v 2 (jH l)) (hsz:l.length<=1000000):∃m',aS Tryz.prog S0 56 [v] m (ii (bn l)) m'/\Chg [] m m':=by
 refine WF.ex1 fun K hK=> ?_
 refine WF.of_wpG (fun _=>rfl) Ah (L:= [(.e,v)]) rfl ?_
 unfold LI
 have hlen:=hv.len
 rw[List.length_map] at hlen
 simp (disch:=first|assumption|omega) only[go_sem,seval,hlen,aa]
 refine W.loop (fun k d=>∃t M i,d=⟨t, [],none,M⟩/\NT.get D4.e.c t=some (ii (bn (l.take i)))/\NT.get D4.e.a.b t=some v/\NT.get D4.e.a.c t=some (ii l.length)/\NT.get D4.e.a.f t=some (ii (i:Nat))/\i+k=l.length/\Chg [] m M) ?_ l.length _ ⟨_,m,0,rfl,by simp only[go_sem,seval]<;>rfl,by simp only[go_sem,seval],by simp only[go_sem,seval],by simp only[go_sem,seval]<;>rfl,by omega,Chg.refl m⟩
 rintro k d ⟨t,M,i,rfl,g1,g2,g3,g4,hik,hC⟩
 apply ao
 unfold As
 change wp _ _ _ _ ⟨ai [] t, [],none,M⟩ _
 rw[←aa M]
 by_cases hi:i<l.length
 ·obtain ⟨id,off,wr,c,a1,a2,a3,a4,a5⟩:=hv.at i (by simpa using hi)
  rw[List.getElem_map] at a5
  have a2':=(hC.get a3 (by simp)).trans a2
  have a3':=hC.old a3
  have hw:=gW l i hi
  have hb:=dc (l.take i)
  rw[List.length_take] at hb
  have hc:=ni l[i].2
  unfold iG at hw hc
  simp (disch:=first|assumption|omega|(simp only[aI]<;>omega)) only[go_sem,seval,g1,g2,g3,g4,hlen,a1,a2',a5]
  exact ⟨k - 1,by omega,_,_,i+1,by rfl,by simp only[go_sem,seval,hw],by simp only[go_sem,seval,g2],by simp only[go_sem,seval,g3],by simp only[go_sem,seval]<;>rfl,by omega,fN hC rfl⟩
 ·rw[List.take_of_length_le (by omega)] at g1
  simp (disch:=first|assumption|omega) only[go_sem,seval,g1,g2,g3,g4,hlen,aa]
  exact hK _ hC
theorem KX {m:NH} {oc:D4} {s nm:List Nat} {z:Int} (hc:m.get oc=some (.cells true [.str s])) (ho:am m oc):∃m',aS Tryz.prog S0 155 [.agg [.str nm,ii z],.ptr oc 0] m (.bool (decide (nm=s))) m'/\Chg [] m m':=by
 refine WF.ex1 fun K hK=> ?_
 refine WF.of_wpG (fun _=>rfl) uZ (L:= [(.a .e,.ptr oc 0),(.e,.agg [.str nm,ii z])]) rfl ?_
 unfold Fy
 simp (disch:=first|assumption|omega) only[go_sem,seval,hc]
 exact hK _ (aC rfl)
theorem L5 {m:NH} {v:NV} {l:List (List Nat×Int)} {oc:D4} {s:List Nat} (hv:Sl m v 2 (jH l)) (hsz:l.length<=1000000) (hc:m.get oc=some (.cells true [.str s])) (ho:am m oc):
 ∃m',aS Tryz.prog S0 154 [v,.fn 155 [.ptr oc 0]] m (ii (bH (l.map (·.1)) s)) m'/\Chg [] m m':=by
 refine WF.ex1 fun K hK=> ?_
 refine WF.of_wpG (fun _=>rfl) uK (L:= [(.a .e,.fn 155 [.ptr oc 0]),(.e,v)]) rfl ?_
 unfold Dp
 have hlen:=hv.len
 rw[List.length_map] at hlen
 simp (disch:=first|assumption|omega) only[go_sem,seval,hlen,aa]
 refine W.loop (fun k d=>∃t M i,d=⟨t, [],none,M⟩/\NT.get D4.e t=some v/\NT.get D4.e.a t=some (.fn 155 [.ptr oc 0])/\NT.get D4.e.a.c t=some (ii l.length)/\NT.get D4.e.a.f t=some (ii (i:Nat))/\i+k=l.length/\Chg [] m M/\∀j (hj:j<i) (hl:j<l.length),s≠l[j].1) ?_ l.length _ ⟨_,m,0,rfl,by simp only[go_sem,seval],by simp only[go_sem,seval],by simp only[go_sem,seval],by simp only[go_sem,seval]<;>rfl,by omega,Chg.refl m,by simp⟩
 rintro k d ⟨t,M,i,rfl,g1,g2,g3,g4,hik,hC,hn⟩
 apply ao
 unfold sB
 change wp _ _ _ _ ⟨ai [] t, [],none,M⟩ _
 by_cases hi:i<l.length
 ·obtain ⟨id,off,wr,c,a1,a2,a3,a4,a5⟩:=hv.at i (by simpa using hi)
  rw[List.getElem_map] at a5
  have a2':=(hC.get a3 (by simp)).trans a2
  obtain ⟨M2,hr,hC2⟩:=KX (nm:=l[i].1) (z:=l[i].2) ((hC.get ho (by simp)).trans hc) (hC.old ho)
  by_cases he:l[i].1=s
  ·rw[Rl he] at hr
   simp (disch:=first|assumption|omega) only[go_sem,seval,g1,g2,g3,g4,a1,a2',a5,hr.wf']
   have hf:bH (l.map (·.1)) s=i:=fi (by simpa using hi) (by simp[he]) fun j hj=>by rw[List.getElem_map];exact hn j hj (by omega)
   rw[hf] at hK
   exact hK _ (hC.trans hC2 (by simp))
  ·rw[Rk he] at hr
   simp (disch:=first|assumption|omega) only[go_sem,seval,g1,g2,g3,g4,a1,a2',a5,hr.wf']
   refine ⟨k - 1,by omega,_,M2,i+1,by rfl,by simp only[go_sem,seval,g1],by simp only[go_sem,seval,g2],by simp only[go_sem,seval,g3],by simp only[go_sem,seval]<;>rfl,by omega,hC.trans hC2 (by simp),fun j hj hl=> ?_⟩
   rcases Nat.lt_or_ge j i with q|q
   ·exact hn j q hl
   ·obtain rfl:j=i:=by omega
    exact fun q=>he q.symm
 ·simp (disch:=first|assumption|omega) only[go_sem,seval,g1,g2,g3,g4]
  have hf:bH (l.map (·.1)) s=-1:=dZ fun j hj=>by rw[List.getElem_map];exact hn j (by simp at hj;omega) (by simpa using hj)
  rw[hf] at hK
  exact hK _ hC
theorem KJ {m:NH} {v:NV} {l:List (List Nat×Int)} (hv:Sl m v 2 (jH l)) (hsz:l.length<=1000000) (s:List Nat):∃m',aS Tryz.prog S0 149 [v,.str s] m (ii (bH (l.map (·.1)) s)) m'/\Chg [] m m':=by
 refine WF.ex1 fun K hK=> ?_
 refine WF.of_wpG (fun _=>rfl) tA (L:= [(.a .e,.str s),(.e,v)]) rfl ?_
 unfold Gx
 have hC:Chg [] m (hp [(.n 0,.cells true [.str s])] 1 m):=aC rfl
 have hg:(hp [(.n 0,.cells true [.str s])] 1 m).get (na m 0)=some (.cells true [.str s]):=bo
 have ho:am (hp [(.n 0,.cells true [.str s])] 1 m) (na m 0):=bv (by omega)
 obtain ⟨m2,hr,hC2⟩:=L5 (hv.chg hC fun _ _=>by simp) hsz hg ho
 simp (disch:=first|assumption|omega) only[go_sem,seval,hr.wf']
 exact hK _ (hC.trans hC2 (by simp))
theorem Qa {m:NH} {v:NV} {l:List (List Nat×Int)} (hv:Sl m v 2 (jH l)) (hsz:l.length<=1000000) (i:Int):∃m',aS Tryz.prog S0 150 [v,ii i] m (ii (Jp l i)) m'/\Chg [] m m':=by
 refine WF.ex1 fun K hK=> ?_
 refine WF.of_wpG (fun _=>rfl) tN (L:= [(.a .e,ii i),(.e,v)]) rfl ?_
 unfold Fm
 have hlen:=hv.len
 rw[List.length_map] at hlen
 unfold Jp at hK
 by_cases h0:i<0
 ·rw[Ri (by omega)] at hK
  simp (disch:=first|assumption|omega) only[go_sem,seval,aa]
  exact hK _ (Chg.refl m)
 ·by_cases h1:i<l.length
  ·rw[Rj (by omega)] at hK
   simp (disch:=first|assumption|omega) only[go_sem,seval,aa,hlen]
   obtain ⟨n,rfl⟩:=Rr (by omega:0<=i)
   refine zR hv (a:=0) (b:=n) (by omega) (by simp;omega) (fun K=>by (simp (disch:=first|assumption|omega) only[go_sem,seval])) (fun d K hd=>by (simp (disch:=first|assumption|omega) only[go_sem,seval])) ?_
   intro v2 hv2 hi2
   have hw:((jH l).drop 0).take (n - 0)=jH (l.take n):=by simp[List.map_take]
   rw[hw] at hv2
   obtain ⟨m2,hr,hC2⟩:=Aj hv2 (by simp;omega)
   have hb:=dc (l.take n)
   rw[List.length_take] at hb
   simp (disch:=first|assumption|omega) only[go_sem,seval,hr.wf',IV]
   exact hK _ hC2
  ·rw[Ri (by omega)] at hK
   simp (disch:=first|assumption|omega) only[go_sem,seval,aa,hlen]
   exact hK _ (Chg.refl m)
theorem FA (m:NH) (s:List Nat) (z:Int):∃m',aS Tryz.prog S0 46 [.agg [.str s,ii z]] m (ii (iG z)) m'/\Chg [] m m':=by
 refine WF.ex1 fun K hK=> ?_
 refine WF.of_wpG (fun _=>rfl) AA (L:= [(.e,.agg [.str s,ii z])]) rfl ?_
 unfold JJ
 unfold iG at hK
 by_cases h1:z<1
 ·rw[show max 1 (min z 64)=1 by omega] at hK
  simp (disch:=first|assumption|omega) only[go_sem,seval]
  exact hK _ (aC rfl)
 ·by_cases h2:64<z
  ·rw[show max 1 (min z 64)=64 by omega] at hK
   simp (disch:=first|assumption|omega) only[go_sem,seval]
   exact hK _ (aC rfl)
  ·rw[show max 1 (min z 64)=z by omega] at hK
   simp (disch:=first|assumption|omega) only[go_sem,seval]
   exact hK _ (aC rfl)
theorem Qq {m:NH} {v:NV} {l:List (List Nat×Int)} (hv:Sl m v 2 (jH l)) (hsz:l.length<=1000000) (i:Int):∃m',aS Tryz.prog S0 146 [v,ii i] m (ii (Jp l i)) m'/\Chg [] m m':=by
 refine WF.ex1 fun K hK=> ?_
 refine WF.of_wpG (fun _=>rfl) uJ (L:= [(.a .e,ii i),(.e,v)]) rfl ?_
 unfold Gb
 have hlen:=hv.len
 rw[List.length_map] at hlen
 simp (disch:=first|assumption|omega) only[go_sem,seval,aa]
 refine W.loop (fun k d=>∃t M j,d=⟨t, [],none,M⟩/\NT.get D4.e t=some v/\NT.get D4.e.a t=some (ii i)/\NT.get D4.e.a.a t=some (ii (4096+8*bn (l.take j)))/\NT.get D4.e.a.b t=some (ii (j:Nat))/\j+k=l.length/\(j=0∨(j<=i/\i<l.length))/\Chg [] m M) ?_ l.length _ ⟨_,m,0,rfl,by simp only[go_sem,seval],by simp only[go_sem,seval],by simp only[go_sem,seval]<;>rfl,by simp only[go_sem,seval]<;>rfl,by omega,Or.inl rfl,Chg.refl m⟩
 rintro k d ⟨t,M,j,rfl,g1,g2,g3,g4,hjk,hj,hC⟩
 apply ao
 unfold uI
 change wp _ _ _ _ ⟨ai [] t, [],none,M⟩ _
 by_cases hji:j<i
 ·by_cases hil:i<l.length
  ·have hjl:j<l.length:=by omega
   obtain ⟨id,off,wr,c,a1,a2,a3,a4,a5⟩:=hv.at j (by simpa using hjl)
   rw[List.getElem_map] at a5
   have a2':=(hC.get a3 (by simp)).trans a2
   obtain ⟨M2,hr,hC2⟩:=FA M l[j].1 l[j].2
   have hw:=gW l j hjl
   have hb:=dc (l.take j)
   rw[List.length_take] at hb
   have hc:=ni l[j].2
   simp (disch:=first|assumption|omega) only[go_sem,seval,g1,g2,g3,g4,hlen,a1,a2',a5,hr.wf',IV]
   exact ⟨k - 1,by omega,_,M2,j+1,by rfl,by simp only[go_sem,seval,g1],by simp only[go_sem,seval,g2],by simp only[go_sem,seval,hw,show 4096+8*(bn (l.take j)+iG l[j].2)=4096+8*bn (l.take j)+8*iG l[j].2 by omega],by simp only[go_sem,seval]<;>rfl,by omega,Or.inr ⟨by omega,hil⟩,hC.trans hC2 (by simp)⟩
  ·obtain rfl:j=0:=by omega
   unfold Jp at hK
   rw[Ri (by omega)] at hK
   simp (disch:=first|assumption|omega) only[go_sem,seval,g1,g2,g3,g4,hlen]
   exact hK _ hC
 ·unfold Jp at hK
  by_cases h0:0<=i/\i<l.length
  ·rw[Rj h0,show i.toNat=j by omega] at hK
   simp (disch:=first|assumption|omega) only[go_sem,seval,g1,g2,g3,g4,hlen]
   exact hK _ hC
  ·rw[Ri h0] at hK
   obtain rfl:j=0:=by omega
   simp (disch:=first|assumption|omega) only[go_sem,seval,g1,g2,g3,g4,hlen]
   exact hK _ hC
abbrev lB:=List (List Stm×Nat)
def bM:lB->lB
 | []=> []
 |x::K=>if x.2<x.1.length then x::K else bM K
def iw:lB->lB
 | []=> []
 |x::K=>(x.1,x.2+1)::K
structure Bd where
 K:lB
 v:List Int
 s:Int
def IU (n:Nat):lB->Prop
 | []=>True
 | [x]=>cI x.1<=n
 |x::y::K=>cI x.1<cI y.1/\IU n (y::K)
theorem oU {n:Nat} {x:List Stm×Nat} {K:lB} (h:IU n (x::K)):IU n K:=by
 cases K with
 |nil=>trivial
 |cons y K=>exact h.2
theorem HS {n:Nat}:∀{K:lB} {x:List Stm×Nat},IU n (x::K)->K.length+cI x.1<=n:=by
 intro K
 induction K with
 |nil=>intro x h;rw[IU] at h;simpa using h
 |cons y K ih=>
  intro x h
  have:=ih h.2
  have:=h.1
  rw[List.length_cons];omega
def Gs (cs:List (List Nat×Int)) (t:Stm):Prop:=∀u∈t.all,(u.k=1∨u.k=2∨u.k=3->u.ce∈cs.map (·.1))/\Wid u.i/\Wid u.x/\Wid u.y
structure BdOk (cs:List (List Nat×Int)) (ns:List (List Nat)) (x:Bd):Prop where
 ch:IU 1000000 x.K
 gs:∀y∈x.K,∀t∈y.1,Gs cs t
 pos:∀y∈x.K,y.2<=y.1.length
 iv:∀z∈x.v,dK z
 ln:ns.length<=1000000
 lv:x.v.length=ns.length
theorem sI {K:lB}:∀y∈bM K,y∈K:=by
 induction K with
 |nil=>simp[bM]
 |cons x K ih=>
  intro y hy
  rw[bM] at hy
  split at hy
  ·exact hy
  ·exact List.mem_cons_of_mem _ (ih y hy)
theorem Io {n:Nat} {K:lB} (h:IU n K):IU n (bM K):=by
 induction K with
 |nil=>exact h
 |cons x K ih=>
  rw[bM]
  split
  ·exact h
  ·exact ih (oU h)
theorem BdOk.trim {cs:List (List Nat×Int)} {ns:List (List Nat)} {x:Bd} (h:BdOk cs ns x):BdOk cs ns ⟨bM x.K,x.v,x.s⟩:=⟨Io h.ch,fun y hy=>h.gs y (sI y hy),fun y hy=>h.pos y (sI y hy),h.iv,h.ln,h.lv⟩
structure StkC (B:NH) (K:lB) (C:List (List NV)):Prop where
 n:C.length=K.length
 c:∀(j:Nat) (x:List Stm×Nat) (c:List NV),K[j]? =some x->C[j]? =some c->∃vl E,c= [vl,ii x.2]/\SS B (fun _=>True) vl x.1 E
theorem StkC.app {B:NH} {K:lB} {C:List (List NV)} {x:List Stm×Nat} {c:List NV} (h:StkC B K C) (hx:∃vl E,c= [vl,ii x.2]/\SS B (fun _=>True) vl x.1 E):StkC B (K++ [x]) (C++ [c]):=by
 refine ⟨by simp[h.n],fun j y d h1 h2=> ?_⟩
 by_cases hj:j<K.length
 ·rw[List.getElem?_append_left hj] at h1
  rw[List.getElem?_append_left (by rw[h.n];exact hj)] at h2
  exact h.c j y d h1 h2
 ·rw[List.getElem?_append_right (by omega)] at h1
  rw[List.getElem?_append_right (by rw[h.n];omega),h.n] at h2
  have hl:=(List.getElem?_eq_some_iff.1 h1).1
  simp only[List.length_singleton] at hl
  have e:j - K.length=0:=by omega
  rw[e] at h1 h2
  cases h1;cases h2
  exact hx
theorem StkC.last {B:NH} {K:lB} {C:List (List NV)} {x:List Stm×Nat} (h:StkC B (K++ [x]) C):∃C0 c,C=C0++ [c]/\StkC B K C0/\∃vl E,c= [vl,ii x.2]/\SS B (fun _=>True) vl x.1 E:=by
 have hl:=h.n
 rw[List.length_append,List.length_singleton] at hl
 have hC:C=C.take K.length++ [C[K.length]'(by omega)]:=by
  conv=>lhs;rw[←List.take_append_drop K.length C]
  rw[List.drop_eq_getElem_cons (by omega),List.drop_eq_nil_of_le (by omega)]
 refine ⟨_,_,hC,⟨by rw[List.length_take];omega,fun j y d h1 h2=> ?_⟩, ?_⟩
 ·have hj:=(List.getElem?_eq_some_iff.1 h1).1
  rw[List.getElem?_take_of_lt hj] at h2
  exact h.c j y d (by rw[List.getElem?_append_left hj];exact h1) h2
 ·exact h.c K.length x _ (by simp) (List.getElem?_eq_getElem (by omega))
structure Bod (mk:NV->NV->NV->Int->List NV) (B m:NH) (b:D4) (pl nm vv:NV) (ns:List (List Nat)) (x:Bd):Prop where
 g:m.get b=some (.cells true (mk pl nm vv x.s))
 o:am m b
 nB:¬am B b
 p:∃C,aU B m pl 2 C/\StkC B x.K.reverse C
 v:aU B m vv 1 (mP x.v)
 n:aU B m nm 1 (bE ns)
 d1:b∉ids pl/\b∉ids vv/\b∉ids nm
 d2:∀i∈ids pl,i∉ids vv/\i∉ids nm
 d3:∀i∈ids vv,i∉ids nm
 c:Chg [] B m
def bU (b:D4) (pl nm vv:NV):List D4:=b::(ids pl++(ids vv++ids nm))
structure EvF (F F':List D4) (m m':NH):Prop where
 c:Chg F m m'
 f:∀j∈F',j∈F∨¬am m j
section
variable {mk:NV->NV->NV->Int->List NV} {B m m' m'':NH} {b:D4} {pl nm vv:NV} {ns:List (List Nat)} {x:Bd} {F F' F'':List D4}
theorem EvF.trans (h:EvF F F' m m') (h':EvF F' F'' m' m''):EvF F F'' m m'':=
 ⟨h.c.trans h'.c fun i hi ho=>(h.f i hi).elim id fun q=>Rh ho q,fun j hj=>(h'.f j hj).elim (h.f j) fun q=>Or.inr fun ho=>q (h.c.old ho)⟩
theorem EvF.refl (m:NH):EvF F F m m:=⟨(Chg.refl m).weak (by simp),fun j hj=>Or.inl hj⟩
theorem EvF.grow (hC:Chg [] m m'):EvF F F m m':=⟨hC.weak (by simp),fun j hj=>Or.inl hj⟩
theorem EvF.pre (hC:Chg [] m m') (h:EvF F F' m' m''):EvF F F' m m'':=(EvF.grow hC).trans h
theorem EvF.post (h:EvF F F' m m') (hC:Chg [] m' m''):EvF F F' m m'':=h.trans (EvF.grow hC)
theorem EvF.nin (h:EvF F F' m m') {i:D4} (ho:am m i) (hi:i∉F):i∉F':=fun q=>(h.f i q).elim hi fun q=>q ho
theorem EvF.get (h:EvF F F' m m') {i:D4} (ho:am m i) (hi:i∉F):m'.get i=m.get i:=h.c.get ho hi
theorem Bod.old (h:Bod mk B m b pl nm vv ns x):∀i∈bU b pl nm vv,am m i/\¬am B i:=by
 obtain ⟨C,hp,-⟩:=h.p
 intro i hi
 rcases List.mem_cons.1 hi with rfl|hi
 ·exact ⟨h.o,h.nB⟩
 rcases List.mem_append.1 hi with hi|hi
 ·exact ⟨hp.sl.old i hi,hp.new i hi⟩
 rcases List.mem_append.1 hi with hi|hi
 ·exact ⟨h.v.sl.old i hi,h.v.new i hi⟩
 ·exact ⟨h.n.sl.old i hi,h.n.new i hi⟩
theorem Bod.off {S:List D4} (h:Bod mk B m b pl nm vv ns x) (hC:Chg S m m') (hS:∀i∈bU b pl nm vv,i∉S) (hB:∀i∈S,¬am B i):Bod mk B m' b pl nm vv ns x:=by
 obtain ⟨C,hp,hk⟩:=h.p
 have hb:=hS b (List.mem_cons_self ..)
 refine ⟨(hC.get h.o hb).trans h.g,hC.old h.o,h.nB,⟨C,hp.chg hC fun i hi=>hS i (by simp[bU,hi]),hk⟩,h.v.chg hC fun i hi=>hS i (by simp[bU,hi]),h.n.chg hC fun i hi=>hS i (by simp[bU,hi]),h.d1,h.d2,h.d3,h.c.trans hC fun i hi ho=>Rh ho (hB i hi)⟩
theorem Bod.grow (h:Bod mk B m b pl nm vv ns x) (hC:Chg [] m m'):Bod mk B m' b pl nm vv ns x:=h.off hC (by simp) (by simp)
theorem Bod.env {cs:List (List Nat×Int)} (h:Bod mk B m b pl nm vv ns x) (hk:BdOk cs ns x):Env m nm vv ns x.v:=⟨h.n.sl,h.v.sl,hk.iv,hk.ln,by rw[hk.lv];exact hk.ln⟩
theorem aU.front {B m:NH} {id:D4} {off kc e:Nat} {C D:List (List NV)} {c:List NV} (h0:∀y∈C++D,y.length=e) (hb:¬am B id) (h1:m.get id=some (.cells true c)) (h2:am m id) (h3:off+(C++D).length*e<=c.length) (h3':off+kc*e<=c.length) (h4:(c.drop off).take ((C++D).length*e)=(C++D).flatten):aU B m (.slc id off C.length e kc) e C:=by
 have hl:C.length*e<=(C++D).length*e:=Nat.mul_le_mul_right _ (by simp)
 refine ⟨fun y hy=>h0 y (List.mem_append_left _ hy),Or.inr ⟨id,off,kc,c,rfl,hb,h1,h2,by omega,h3', ?_⟩⟩
 have e1:(c.drop off).take (C.length*e)=((c.drop off).take ((C++D).length*e)).take (C.length*e):=by rw[List.take_take,Nat.min_eq_left hl]
 rw[e1,h4,List.flatten_append,←eC fun y hy=>h0 y (List.mem_append_left _ hy),List.take_left]
end
abbrev pD (pl nm vv:NV) (s:Int):List NV:= [pl,nm,vv,ii s]
abbrev gO (pl nm vv:NV) (s:Int):List NV:= [nm,vv,pl,.bool (decide (s=2)),.bool (decide (s=1))]
def Dj (B:NH) (w:NV) (t:Stm):Prop:=∃id off wr c W,w= .ptr id off/\B.get id=some (.cells wr c)/\am B id/\off+21<=c.length/\(c.drop off).take 21=t.l W/\SP B (fun _=>True) t W
theorem SS.ptr {B:NH} {vl:NV} {l:List Stm} {E:List (List NV)} (h:SS B (fun _=>True) vl l E) (i:Nat) (hi:i<l.length):∃w,fU 21 vl (.int .i64 (.lit (i:Int)))= .val w/\Dj B w l[i]:=by
 obtain ⟨W,hW,-,hS⟩:=FD h i hi
 obtain ⟨id,off,wr,c,a1,a2,a3,a4,a5⟩:=h.sl.at i (by rw[h.len];exact hi)
 rw[List.getElem?_eq_getElem (by rw[h.len];exact hi)] at hW
 injection hW with hW
 exact ⟨_,a1,id,off,wr,c,W,rfl,a2,a3,a4,a5.trans hW,hS⟩
section
variable {B m:NH} {b:D4} {pl nm vv:NV} {ns:List (List Nat)} {x:Bd} {cs:List (List Nat×Int)}
theorem BdOk.bnd (h:BdOk cs ns x) {y:List Stm×Nat} {K:lB} (hK:x.K=y::K):K.length<=1000000/\y.1.length<=1000000/\y.2<=y.1.length:=by
 have h1:=h.ch
 rw[hK] at h1
 have h2:=HS h1
 have h3:=lc y.1
 exact ⟨by omega,by omega,h.pos y (by rw[hK];simp)⟩
theorem Bod.putP {pl' vv':NV} {x':Bd} {m':NH} {mk:NV->NV->NV->Int->List NV} (h:Bod mk B m b pl nm vv ns x) (hg:m'.get b=some (.cells true (mk pl' nm vv' x'.s))) (hC:Chg (bU b pl nm vv) m m') (hp:∃C,aU B m' pl' 2 C/\StkC B x'.K.reverse C) (hv:aU B m' vv' 1 (mP x'.v)) (hn:∀i∈ids nm,m'.get i=m.get i) (hpn:∀i∈ids pl',i∈ids pl∨¬am m i) (hvn:ids vv'=ids vv):Bod mk B m' b pl' nm vv' ns x'/\EvF (bU b pl nm vv) (bU b pl' nm vv') m m':=by
 refine ⟨⟨hg,hC.old h.o,h.nB,hp,hv, ?_,⟨fun q=>(hpn _ q).elim h.d1.1 fun q=>q h.o,by rw[hvn];exact h.d1.2.1,h.d1.2.2⟩,fun i hi=> ?_,by rw[hvn];exact h.d3,h.c.trans hC fun i hi ho=>Rh ho (h.old i hi).2⟩,hC,fun j hj=> ?_⟩
 ·obtain ⟨h0,⟨rfl,e⟩|⟨id,off,kc,c,rfl,hb',h1,h2,h3⟩⟩:=h.n
  ·exact ⟨h0,Or.inl ⟨rfl,e⟩⟩
  ·exact ⟨h0,Or.inr ⟨id,off,kc,c,rfl,hb',(hn id (by simp[ids])).trans h1,hC.old h2,h3⟩⟩
 ·rcases hpn i hi with q|q
  ·rw[hvn];exact h.d2 i q
  ·exact ⟨fun q2=>q (by rw[hvn] at q2;exact h.v.sl.old i q2),fun q2=>q (h.n.sl.old i q2)⟩
 ·simp only[bU,Rp,List.mem_append] at hj ⊢
  rw[hvn] at hj
  rcases hj with hj|hj|hj|hj
  ·exact Or.inl (Or.inl hj)
  ·exact (hpn j hj).imp (fun q=>Or.inr (Or.inl q)) id
  ·exact Or.inl (Or.inr (Or.inr (Or.inl hj)))
  ·exact Or.inl (Or.inr (Or.inr (Or.inr hj)))
theorem Bod.rows {mk:NV->NV->NV->Int->List NV} {K':lB} {m':NH} (h:Bod mk B m b pl nm vv ns x) (hC:Chg (ids pl) m m') (hp:∃C,aU B m' pl 2 C/\StkC B K'.reverse C):Bod mk B m' b pl nm vv ns ⟨K',x.v,x.s⟩/\EvF (bU b pl nm vv) (bU b pl nm vv) m m':=
 h.putP ((hC.get h.o h.d1.1).trans h.g) (hC.weak fun i hi _=>by simp[bU,hi]) hp (h.v.chg hC fun i hi q=>(h.d2 i q).1 hi) (fun i hi=>hC.get (h.n.sl.old i hi) fun q=>(h.d2 i q).2 hi) (fun i hi=>Or.inl hi) rfl
theorem oD (h:Bod pD B m b pl nm vv ns x) (hk:BdOk cs ns x) {y:List Stm×Nat} {K:lB} (hK:x.K=y::K):
 ∃m',aS Tryz.prog S0 97 [.ptr b 0] m (.tup []) m'/\Bod pD B m' b pl nm vv ns ⟨iw x.K,x.v,x.s⟩/\EvF (bU b pl nm vv) (bU b pl nm vv) m m':=by
 obtain ⟨hK1,hK2,hK3⟩:=hk.bnd hK
 refine WF.ex1 fun K' hK'=> ?_
 refine WF.of_wpG (fun _=>rfl) yU (L:= [(.e,.ptr b 0)]) rfl ?_
 unfold J4
 obtain ⟨C,hP,hC⟩:=h.p
 rw[hK,List.reverse_cons] at hC
 obtain ⟨C0,c,rfl,hC0,vl,E,rfl,hS⟩:=hC.last
 have hn:=hC0.n
 rw[List.length_reverse] at hn
 obtain ⟨id,off,cc,a1,a2,a3,a4,a5,a6,a7,a8⟩:=hP.at C0.length (by simp)
 rw[List.getElem_append_right (by omega)] at a7 a8
 simp only[Nat.sub_self,List.getElem_cons_zero] at a7 a8
 have c1:cc[off+1]? =some (ii y.2):=aA a7 1 (by omega)
 have hlen:=hP.sl.len
 have e1:(((C0++ [[vl,ii y.2]]).length:Nat):Int) - 1=(C0.length:Nat):=by simp
 have g:=h.g
 simp (disch:=first|assumption|omega) only[go_sem,seval,g,hlen,e1,a1,a4,c1]
 generalize hM:hp _ 0 m=M
 refine hK' _ ?_
 refine h.rows (by rw[←hM,a2];exact (cE _ _ _).weak (by simp[aB])) ⟨C0++ [[vl,ii (y.2+1:Nat)]], ?_, ?_⟩
 ·have:=a8 [(1,ii (y.2+1:Nat))] M (by simp) (gL a5 hM) (by rw[←hM];exact bJ a5)
  rw[List.set_append_right _ _ (by omega),Nat.sub_self] at this
  exact this
 ·rw[hK,iw,List.reverse_cons]
  exact hC0.app ⟨vl,E,rfl,hS⟩
theorem Bod.vals {mk:NV->NV->NV->Int->List NV} {v':List Int} {m':NH} (h:Bod mk B m b pl nm vv ns x) (hC:Chg (ids vv) m m') (hv:aU B m' vv 1 (mP v')):Bod mk B m' b pl nm vv ns ⟨x.K,v',x.s⟩/\EvF (bU b pl nm vv) (bU b pl nm vv) m m':=by
 obtain ⟨C,hP,hk⟩:=h.p
 exact h.putP (x':=⟨x.K,v',x.s⟩) ((hC.get h.o h.d1.2.1).trans h.g) (hC.weak fun i hi _=>by simp[bU,hi]) ⟨C,hP.chg hC fun i hi=>(h.d2 i hi).1,hk⟩ hv (fun i hi=>hC.get (h.n.sl.old i hi) fun q=>h.d3 i q hi) (fun i hi=>Or.inl hi) rfl
def kx (ns:List (List Nat)) (v:List Int) (s:List Nat) (z:Int):List Int:=if 0<=bH ns s then v.set (bH ns s).toNat z else v
theorem El (ns:List (List Nat)) (v:List Int) (s:List Nat) (z:Int):(kx ns v s z).length=v.length:=by unfold kx;split<;>simp
theorem G6 {v:List Int} {s:List Nat} {z:Int} (hv:∀z∈v,dK z) (hz:dK z):∀y∈kx ns v s z,dK y:=by
 unfold kx
 split
 ·intro y hy
  rcases List.mem_or_eq_of_mem_set hy with hy|rfl
  ·exact hv y hy
  ·exact hz
 ·exact hv
theorem BdOk.set (h:BdOk cs ns x) {s:List Nat} {z:Int} (hz:dK z):BdOk cs ns ⟨x.K,kx ns x.v s z,x.s⟩:=⟨h.ch,h.gs,h.pos,G6 h.iv hz,h.ln,by rw[El];exact h.lv⟩
theorem yj (h:Bod pD B m b pl nm vv ns x) (hk:BdOk cs ns x) (s:List Nat) (z:Int):
 ∃m',aS Tryz.prog S0 129 [.ptr b 0,.str s,iu z] m (.tup []) m'/\Bod pD B m' b pl nm vv ns ⟨x.K,kx ns x.v s z,x.s⟩/\EvF (bU b pl nm vv) (bU b pl nm vv) m m':=by
 have hln:=hk.ln
 refine WF.ex1 fun K' hK'=> ?_
 refine WF.of_wpG (fun _=>rfl) tl (L:= [(.b .e,iu z),(.a .e,.str s),(.e,.ptr b 0)]) rfl ?_
 unfold FI
 have g:=h.g
 have hi:=lJ (m:=hp [] 0 m) (v:=nm) (l:=ns) (by rw[aa];exact h.n.sl) (by omega) s
 obtain ⟨hl1,hl2⟩:=kK (l:=ns) (x:=s)
 by_cases h0:0<=bH ns s
 ·obtain ⟨n,hn⟩:=Rr h0
  obtain ⟨id,off,cc,a1,a2,a3,a4,a5,a6,a7,a8⟩:=h.v.at n (by rw[List.length_map,hk.lv];omega)
  rw[hn] at hi
  have hbi:b≠id:=fun e=>h.d1.2.1 (by rw[a2,e];simp)
  simp (disch:=first|assumption|omega) only[go_sem,seval,g,hi.wf',a1,a4]
  generalize hM:hp _ 0 m=M
  refine hK' _ ?_
  refine h.vals (by rw[←hM,a2];exact (cE _ _ _).weak (by simp[aB])) ?_
  have:=a8 [(0,iu z)] M (by simp) (gL a5 hM) (by rw[←hM];exact bJ a5)
  unfold kx
  rw[Rj h0,hn,Int.toNat_natCast]
  show aU B M vv 1 ((x.v.set n z).map fun z=> [iu z])
  rw[List.map_set]
  rw[List.getElem_map] at this
  exact this
 ·simp (disch:=first|assumption|omega) only[go_sem,seval,g,hi.wf']
  refine hK' _ ?_
  unfold kx
  rw[Ri h0,aa]
  exact ⟨h,EvF.refl m⟩
theorem fZ (h:Bod pD B m b pl nm vv ns x) (hk:BdOk cs ns x) {e:Ex} {c:List NV} (hR:RE B (fun _=>True) e c) (hw:Wid e):
 ∃m',aS Tryz.prog S0 131 [.ptr b 0,.agg c] m (iu (e.eval ns x.v)) m'/\Chg [] m m':=by
 refine WF.ex1 fun K' hK'=> ?_
 refine WF.of_wpG (fun _=>rfl) tR (L:= [(.a .e,.agg c),(.e,.ptr b 0)]) rfl ?_
 unfold Em
 obtain ⟨u,C,rfl,hS⟩:=hR.inv'
 generalize hM:hp [(.n 0,.cells true (e.l u))] 1 m=M
 have hC1:Chg [] m M:=ba hM rfl
 have gc:M.get (na m 0)=some (.cells true (e.l u)):=bz hM
 have oc:am M (na m 0):=bw hM (by omega)
 have g1:=(h.grow hC1).g
 have o1:=(h.grow hC1).o
 obtain ⟨m',r,hC⟩:=Jt e (hR) (lF ((h.grow hC1).c) _) hw ((h.grow hC1).env hk)
 have hs:=cD hR
 have hn1:=h.n.sl.same (n:=3)
 have hv1:=h.v.sl.same (n:=3)
 simp (disch:=first|assumption|omega|(simp only[aI]<;>omega)) only[go_sem,seval,hM,gc,g1,r.wf',hs,hn1,hv1]
 exact hK' _ (hC1.trans hC (by simp))
theorem BdOk.enter {l:List Stm} (h:BdOk cs ns x) {y:List Stm×Nat} {K:lB} (hK:x.K=y::K) (hl:cI l<cI y.1) (hg:∀u∈l,Gs cs u) (q:Nat) (hq:q<=y.1.length):BdOk cs ns ⟨(l,0)::(y.1,q)::K,x.v,x.s⟩:=by
 have hc:=h.ch
 rw[hK] at hc
 refine ⟨⟨hl,by cases K<;>exact hc⟩,fun z hz=> ?_,fun z hz=> ?_,h.iv,h.ln,h.lv⟩
 ·rcases List.mem_cons.1 hz with rfl|hz
  ·exact hg
  ·rcases List.mem_cons.1 hz with rfl|hz
   ·exact h.gs y (by rw[hK];simp)
   ·exact h.gs z (by rw[hK];simp[hz])
 ·rcases List.mem_cons.1 hz with rfl|hz
  ·exact Nat.zero_le _
  ·rcases List.mem_cons.1 hz with rfl|hz
   ·exact hq
   ·exact h.pos z (by rw[hK];simp[hz])
theorem sq (h:Bod pD B m b pl nm vv ns x) (hkl:x.K.length<=1000001) {v:NV} {l:List Stm} {E:List (List NV)} (hS:SS B (fun _=>True) v l E):
 ∃m' pl',aS Tryz.prog S0 132 [.ptr b 0,v] m (.tup []) m'/\Bod pD B m' b pl' nm vv ns ⟨(l,0)::x.K,x.v,x.s⟩/\EvF (bU b pl nm vv) (bU b pl' nm vv) m m':=by
 suffices hh:∃u m',aS Tryz.prog S0 132 [.ptr b 0,v] m u m'/\u= .tup []/\∃pl',Bod pD B m' b pl' nm vv ns ⟨(l,0)::x.K,x.v,x.s⟩/\EvF (bU b pl nm vv) (bU b pl' nm vv) m m' by
  obtain ⟨u,m',r,rfl,pl',q⟩:=hh
  exact ⟨m',pl',r,q⟩
 refine WF.ex fun K' hK'=> ?_
 refine WF.of_wpG (fun _=>rfl) ud (L:= [(.a .e,v),(.e,.ptr b 0)]) rfl ?_
 unfold F6
 obtain ⟨C,hP,hC⟩:=h.p
 have g:=h.g
 have hn:=hC.n
 rw[List.length_reverse] at hn
 have hv1:=hS.sl.one
 simp (disch:=first|assumption|omega|(simp only[aI]<;>omega)) only[go_sem,seval,g,hv1]
 have hC1:Chg [] m (hp [(.n 0,.cells true [v,ii 0])] 1 m):=aC rfl
 refine fm (cs:= [v,ii 0]) (hP.chg hC1 fun _ _=>by simp) bo (bv (by omega)) rfl (fun i hi=>hC1.old (h.c.old hi)) (by omega) (by omega) ?_
 intro pl' M2 hP2 hC2 hF2
 have hb2:=(hC2.get (hC1.old h.o) h.d1.1).trans ((h.grow hC1).g)
 have ob2:=hC2.old (hC1.old h.o)
 rw[←aa M2]
 have hp1:=hP2.sl.one
 simp (disch:=first|assumption|omega|(simp only[aI]<;>omega)) only[go_sem,seval,hb2,hp1]
 generalize hM:hp _ 0 M2=M
 have hC3:Chg [b] M2 M:=jR hM (by simp[aB])
 have hCm2:Chg (ids pl) m M2:=(hC1.weak (by simp)).trans hC2 fun i hi _=>hi
 have hbp:b∉ids pl':=fun q=>(hF2 b q).elim h.d1.1 fun q=>q (hC1.old h.o)
 have hCm:Chg (bU b pl nm vv) m M:=(hCm2.weak fun i hi _=>by simp[bU,hi]).trans hC3 fun i hi _=>by have hi:=one hi;subst hi;simp[bU]
 refine hK' _ _ ⟨rfl,pl', ?_⟩
 refine h.putP (x':=⟨(l,0)::x.K,x.v,x.s⟩) ?_ hCm ⟨_,hP2.chg hC3 fun i hi q=> ?_, ?_⟩ ?_ ?_ ?_ rfl
 ·rw[←hM];exact (aF ob2).trans ap
 ·have q:=one q;subst q;exact hbp hi
 ·rw[List.reverse_cons]
  exact hC.app ⟨v,E,rfl,hS⟩
 ·exact (h.v.chg hCm2 fun i hi q=>(h.d2 i q).1 hi).chg hC3 fun i hi q=>by have q:=one q;subst q;exact h.d1.2.1 hi
 ·intro i hi
  have ho:=h.n.sl.old i hi
  exact (hC3.get (hCm2.old ho) (fun q=>by have q:=one q;subst q;exact h.d1.2.2 hi)).trans (hCm2.get ho fun q=>(h.d2 i q).2 hi)
 ·exact fun i hi=>(hF2 i hi).imp id fun q ho=>q (hC1.old ho)
end
section
variable {B m:NH} {b:D4} {pl nm vv:NV} {ns:List (List Nat)} {x:Bd} {cs:List (List Nat×Int)}
def Pz (B:NH) (w:NV):lB->Prop
 | []=>w= .nilp
 |y::_=>∃h:y.2<y.1.length,Dj B w y.1[y.2]
theorem Bod.cut {mk:NV->NV->NV->Int->List NV} {m':NH} {y:List Stm×Nat} {K:lB} {id:D4} {off kc n:Nat} (h:Bod mk B m b (.slc id off n 2 kc) nm vv ns x) (hK:x.K=y::K) (hg:m'.get b=some (.cells true (mk (.slc id off (n - 1) 2 kc) nm vv x.s))) (hC:Chg [b] m m'):
 Bod mk B m' b (.slc id off (n - 1) 2 kc) nm vv ns ⟨K,x.v,x.s⟩/\EvF (bU b (.slc id off n 2 kc) nm vv) (bU b (.slc id off (n - 1) 2 kc) nm vv) m m':=by
 have hb:∀i,am m i->i≠b->m'.get i=m.get i:=fun i ho hi=>hC.get ho (by simpa using hi)
 refine h.putP (x':=⟨K,x.v,x.s⟩) hg (hC.weak fun i hi _=>by have hi:=one hi;subst hi;simp[bU]) ?_ ?_ ?_ (fun i hi=>Or.inl hi) rfl
 ·obtain ⟨C,⟨h0,⟨e,-⟩|⟨id',off',kc',c,e,hb',h1,h2,h3,h3',h4⟩⟩,hC'⟩:=h.p
  ·cases e
  ·cases e
   rw[hK,List.reverse_cons] at hC'
   obtain ⟨C0,c0,rfl,hC0,-⟩:=hC'.last
   refine ⟨C0, ?_,hC0⟩
   have e1:(C0++ [c0]).length - 1=C0.length:=by simp
   rw[e1]
   have hne:id≠b:=fun e=>h.d1.1 (by rw[e];simp[ids])
   exact aU.front h0 hb' ((hb id h2 hne).trans h1) (hC.old h2) h3 h3' h4
 ·exact h.v.chg hC fun i hi q=>by have q:=one q;subst q;exact h.d1.2.1 hi
 ·exact fun i hi=>hb i (h.n.sl.old i hi) fun e=>h.d1.2.2 (e▸hi)
theorem Lg (h:Bod pD B m b pl nm vv ns x) (hk:BdOk cs ns x):
 ∃w m',aS Tryz.prog S0 94 [.ptr b 0] m w m'/\Pz B w (bM x.K)/\∃pl',Bod pD B m' b pl' nm vv ns ⟨bM x.K,x.v,x.s⟩/\EvF (bU b pl nm vv) (bU b pl' nm vv) m m':=by
 refine WF.ex fun K' hK'=> ?_
 refine WF.of_wpG (fun _=>rfl) yY (L:= [(.e,.ptr b 0)]) rfl ?_
 unfold LT
 obtain ⟨C,hP,hC⟩:=h.p
 have g:=h.g
 have hlen:=hP.sl.len
 rw[hC.n,List.length_reverse] at hlen
 have hb:x.K.length<=1000001:=by
  cases hK:x.K with
  |nil=>simp
  |cons y K=>have:=(hk.bnd hK).1;rw[List.length_cons];omega
 simp (disch:=first|assumption|omega) only[go_sem,seval,aa,g,hlen]
 refine W.loop (fun k d=>∃t M pl' K,d=⟨t, [],none,M⟩/\NT.get D4.e t=some (.ptr b 0)/\NT.get D4.e.c t=some (ii ((K.length:Nat) - 1))/\K.length=k/\bM K=bM x.K/\BdOk cs ns ⟨K,x.v,x.s⟩/\Bod pD B M b pl' nm vv ns ⟨K,x.v,x.s⟩/\EvF (bU b pl nm vv) (bU b pl' nm vv) m M) ?_ x.K.length _ ⟨_,m,pl,x.K,rfl,by simp only[go_sem,seval],by simp only[go_sem,seval],rfl,rfl,hk,h,EvF.refl m⟩
 clear hP hC hlen hb g
 rintro k d ⟨t,M,pl',K,rfl,t1,t2,hKk,hT,hk1,h1,hE⟩
 apply ao
 unfold yB
 change wp _ _ _ _ ⟨ai [] t, [],none,M⟩ _
 have g:=h1.g
 obtain ⟨C,hP,hC⟩:=h1.p
 cases K with
 |nil=>
  simp (disch:=first|assumption|omega) only[go_sem,seval,t1,t2]
  exact hK' _ _ (by rw[←hT];exact ⟨rfl,pl',h1,hE⟩)
 |cons y K=>
  obtain ⟨b1,b2,b3⟩:=hk1.bnd rfl
  simp only[List.reverse_cons] at hC
  obtain ⟨C0,c,rfl,hC0,vl,E,rfl,hS⟩:=hC.last
  have hn:=hC0.n
  rw[List.length_reverse] at hn
  obtain ⟨id,off,cc,a1,a2,a3,a4,a5,a6,a7,a8⟩:=hP.at C0.length (by simp)
  rw[List.getElem_append_right (by omega)] at a7
  simp only[Nat.sub_self,List.getElem_cons_zero] at a7
  have c0:cc[off+0]? =some vl:=aA a7 0 (by omega)
  have c1:cc[off+1]? =some (ii y.2):=aA a7 1 (by omega)
  have hlS:=hS.sl.len
  rw[hS.len] at hlS
  rw[List.length_cons] at t2 hKk
  have e1:(((K.length+1:Nat):Int) - 1)=(C0.length:Nat):=by omega
  rw[e1] at t2
  by_cases hy:y.2<y.1.length
  ·obtain ⟨w,hw,hPS⟩:=hS.ptr y.2 hy
   have hvl:=hS.sl.same (n:=3)
   simp (disch:=first|assumption|omega) only[go_sem,seval,t1,t2,g,a1,a4,c0,c1,hlS,hw,hvl]
   have e:bM (y::K)=y::K:=by rw[bM,Rj hy]
   exact hK' _ _ (by rw[←hT,e];exact ⟨⟨hy,hPS⟩,pl',h1,hE⟩)
  ·have hPl:=hP
   obtain ⟨h0,⟨e,e'⟩|⟨idp,offp,kcp,cp,rfl,hbp,p1,p2,p3,p3',p4⟩⟩:=hPl
   ·simp at e'
   ·rw[←aa M]
    have hl2:(C0++ [[vl,ii y.2]]).length=C0.length+1:=by simp
    rw[hl2] at g a1
    have ob:=h1.o
    simp (disch:=first|assumption|omega|(simp only[aI]<;>omega)) only[go_sem,seval,t1,t2,g,a1,a4,c0,c1,hlS]
    generalize hM2:hp _ 0 M=M2
    rw[hl2] at h1
    obtain ⟨q1,q2⟩:=h1.cut (m':=M2) rfl (gL h1.o hM2) (jR hM2 (by simp[aB]))
    have e:bM (y::K)=bM K:=by rw[bM,Ri hy]
    rw[e] at hT
    rw[hl2] at hE
    exact ⟨K.length,by omega,_,M2,_,K,by rfl,by simp only[go_sem,seval,t1],by simp only[go_sem,seval];rw[show ((K.length:Nat):Int)=C0.length by omega],rfl,hT,⟨oU hk1.ch,fun z hz=>hk1.gs z (List.mem_cons_of_mem _ hz),fun z hz=>hk1.pos z (List.mem_cons_of_mem _ hz),hk1.iv,hk1.ln,hk1.lv⟩,q1,hE.trans q2⟩
end
theorem fo {c L:List NV} {off e:Nat} (h:(c.drop off).take e=L) (j n:Nat) (hj:j+n<=e):(c.drop (off+j)).take n=(L.drop j).take n:=by
 rw[←h,List.drop_take,List.take_take,List.drop_drop,Nat.min_eq_left (by omega)]
noncomputable def dU (ns:List (List Nat)) (t:Stm) (x:Bd):Bd:=
 if t.k=6 then ⟨(if t.x.eval ns x.v≠0 then t.b else t.e,0)::iw x.K,x.v,x.s⟩
 else if t.k=7 then (if t.x.eval ns x.v≠0 then ⟨(t.b,0)::x.K,x.v,x.s⟩ else ⟨iw x.K,x.v,x.s⟩)
 else if t.k=0 then ⟨iw x.K,kx ns x.v t.nm (t.x.eval ns x.v),x.s⟩
 else ⟨iw x.K,x.v,x.s⟩
section
variable {B m:NH} {b:D4} {pl nm vv:NV} {ns:List (List Nat)} {x:Bd} {cs:List (List Nat×Int)}
theorem BdOk.pass (h:BdOk cs ns x) {y:List Stm×Nat} {K:lB} (hK:x.K=y::K) (hy:y.2<y.1.length):BdOk cs ns ⟨iw x.K,x.v,x.s⟩:=by
 have hc:=h.ch
 rw[hK] at hc ⊢
 refine ⟨by rw[iw];cases K<;>exact hc,fun z hz=> ?_,fun z hz=> ?_,h.iv,h.ln,h.lv⟩
 ·rcases List.mem_cons.1 hz with rfl|hz
  ·exact h.gs y (by rw[hK];simp)
  ·exact h.gs z (by rw[hK];simp[hz])
 ·rcases List.mem_cons.1 hz with rfl|hz
  ·exact hy
  ·exact h.pos z (by rw[hK];simp[hz])
theorem yg {l:List Stm} {t:Stm} (h:t∈l):t.sz<=cI l:=by
 induction l with
 |nil=>simp at h
 |cons s l ih=>
  rw[cI]
  rcases List.mem_cons.1 h with rfl|h
  ·omega
  ·have:=ih h;omega
theorem IJ (t:Stm):cI t.b<t.sz/\cI t.e<t.sz:=by cases t;simp only[Stm.b,Stm.e,Stm.sz];omega
theorem Oc {t:Stm} (h:Gs cs t) (hk:t.k=6∨t.k=7):∀u∈t.b,Gs cs u:=by
 intro u hu w hw
 refine h w ?_
 have:=po hu hw
 cases t
 simp only[Stm.k,Stm.b] at hk this
 rw[Stm.all,Rj hk]
 simp[this]
theorem PS {t:Stm} (h:Gs cs t) (hk:t.k=6):∀u∈t.e,Gs cs u:=by
 intro u hu w hw
 refine h w ?_
 have:=po hu hw
 cases t
 simp only[Stm.k,Stm.e] at hk this
 rw[Stm.all,Rj hk]
 simp[this]
theorem jz {t:Stm} (h:Gs cs t):(t.k=1∨t.k=2∨t.k=3->t.ce∈cs.map (·.1))/\Wid t.i/\Wid t.x/\Wid t.y:=h t (by cases t;rw[Stm.all];simp)
theorem BdOk.quiet (h:BdOk cs ns x) {y:List Stm×Nat} {K:lB} (hK:x.K=y::K) (hy:y.2<y.1.length):BdOk cs ns (dU ns y.1[y.2] x):=by
 have ht:y.1[y.2]∈y.1:=List.getElem_mem hy
 have hG:=h.gs y (by rw[hK];simp) _ ht
 have hz:=yg ht
 have hbe:=IJ y.1[y.2]
 generalize y.1[y.2]=t at *
 unfold dU
 split
 ·rename_i k6
  rw[hK,iw]
  split
  ·exact h.enter hK (by omega) (Oc hG (by omega)) _ hy
  ·exact h.enter hK (by omega) (PS hG (by omega)) _ hy
 split
 ·rename_i k7
  split
  ·have:=h.enter hK (by omega) (Oc hG (by omega)) y.2 (by omega)
   rw[hK]
   exact this
  ·exact h.pass hK hy
 split
 ·exact (h.pass hK hy).set (dC h.iv _ (jz hG).2.2.1)
 ·exact h.pass hK hy
theorem GY (h:Bod pD B m b pl nm vv ns x) (hk:BdOk cs ns x) {y:List Stm×Nat} {K:lB} (hK:x.K=y::K) (hy:y.2<y.1.length) {w:NV} (hw:Dj B w y.1[y.2]):
 ∃m',aS Tryz.prog S0 98 [.ptr b 0,w] m (.tup []) m'/\∃pl',Bod pD B m' b pl' nm vv ns (dU ns y.1[y.2] x)/\EvF (bU b pl nm vv) (bU b pl' nm vv) m m':=by
 have hG:=jz (hk.gs y (by rw[hK];simp) _ (List.getElem_mem hy))
 have hkl:x.K.length<=1000001:=by have:=(hk.bnd hK).1;rw[hK,List.length_cons];omega
 generalize y.1[y.2]=t at *
 refine WF.ex1 fun K' hK'=> ?_
 refine WF.of_wpG (fun _=>rfl) zY (L:= [(.a .e,w),(.e,.ptr b 0)]) rfl ?_
 unfold J1
 obtain ⟨id,off,wr,c,W,rfl,p1,p2,p3,p4,hSP⟩:=hw
 have q0:c[off+0]? =some (ii t.k):=aA p4 0 (by omega)
 have q2:c[off+2]? =some (.str t.nm):=aA p4 2 (by omega)
 have q19:c[off+19]? =some W.vb:=aA p4 19 (by omega)
 have q20:c[off+20]? =some W.ve:=aA p4 20 (by omega)
 have q9:(c.drop (off+9)).take 5=t.x.l W.vx:=fo p4 9 5 (by omega)
 have pm:=(h.c.get p2 (by simp)).trans p1
 unfold dU at hK'
 by_cases k6:t.k=6
 ·simp only[Rj k6] at hK'
  obtain ⟨m1,r1,h1,e1⟩:=oD h hk hK
  have hk1:=hk.pass hK hy
  have pm1:=(h1.c.get p2 (by simp)).trans p1
  obtain ⟨m2,r2,hC2⟩:=fZ h1 hk1 hSP.x hG.2.2.1
  have h2:=h1.grow hC2
  have pm2:=(h2.c.get p2 (by simp)).trans p1
  obtain ⟨Eb,hSb⟩:=hSP.b
  obtain ⟨Ee,hSe⟩:=hSP.e
  have hpl:(iw x.K).length<=1000001:=by rw[hK] at hkl ⊢;simpa [iw] using hkl
  by_cases hz:t.x.eval ns x.v≠0
  ·simp only[Rj hz] at hK'
   obtain ⟨m3,pl3,r3,h3,e3⟩:=sq h2 hpl hSb
   rw[aa]
   simp (disch:=first|assumption|omega) only[go_sem,seval,pm,q0,r1.wf',pm1,q9,r2.wf',pm2,q19,r3.wf']
   exact hK' _ ⟨pl3,h3,(e1.post hC2).trans e3⟩
  ·simp only[Ri hz] at hK'
   obtain ⟨m3,pl3,r3,h3,e3⟩:=sq h2 hpl hSe
   rw[aa]
   simp (disch:=first|assumption|omega) only[go_sem,seval,pm,q0,r1.wf',pm1,q9,r2.wf',pm2,q20,r3.wf']
   exact hK' _ ⟨pl3,h3,(e1.post hC2).trans e3⟩
 ·simp only[Ri k6] at hK'
  by_cases k7:t.k=7
  ·simp only[Rj k7] at hK'
   obtain ⟨m2,r2,hC2⟩:=fZ h hk hSP.x hG.2.2.1
   have h2:=h.grow hC2
   have pm2:=(h2.c.get p2 (by simp)).trans p1
   obtain ⟨Eb,hSb⟩:=hSP.b
   by_cases hz:t.x.eval ns x.v≠0
   ·simp only[Rj hz] at hK'
    obtain ⟨m3,pl3,r3,h3,e3⟩:=sq h2 hkl hSb
    rw[aa]
    simp (disch:=first|assumption|omega) only[go_sem,seval,pm,q0,q9,r2.wf',pm2,q19,r3.wf']
    exact hK' _ ⟨pl3,h3,EvF.pre hC2 e3⟩
   ·simp only[Ri hz] at hK'
    obtain ⟨m3,r3,h3,e3⟩:=oD h2 hk hK
    rw[aa]
    simp (disch:=first|assumption|omega) only[go_sem,seval,pm,q0,q9,r2.wf',pm2,r3.wf']
    exact hK' _ ⟨pl,h3,EvF.pre hC2 e3⟩
  ·simp only[Ri k7] at hK'
   by_cases k0:t.k=0
   ·simp only[Rj k0] at hK'
    obtain ⟨m2,r2,hC2⟩:=fZ h hk hSP.x hG.2.2.1
    have h2:=h.grow hC2
    have pm2:=(h2.c.get p2 (by simp)).trans p1
    obtain ⟨m3,r3,h3,e3⟩:=yj h2 hk t.nm (t.x.eval ns x.v)
    obtain ⟨m4,r4,h4,e4⟩:=oD h3 (hk.set (dC hk.iv _ hG.2.2.1)) hK
    rw[aa]
    simp (disch:=first|assumption|omega) only[go_sem,seval,pm,q0,q2,q9,r2.wf',pm2,r3.wf',r4.wf']
    exact hK' _ ⟨pl,h4,(EvF.pre hC2 e3).trans e4⟩
   ·simp only[Ri k0] at hK'
    obtain ⟨m4,r4,h4,e4⟩:=oD h hk hK
    rw[aa]
    simp (disch:=first|assumption|omega) only[go_sem,seval,pm,q0,r4.wf']
    exact hK' _ ⟨pl,h4,e4⟩
def fT (l:List Stm):Bd:=⟨[(l,0)],List.replicate (locals l).length 0,0⟩
theorem lZ (l:List Stm):(locals l).length<=2*cI l:=by
 have h1:=cr ((bg l).flatMap Stm.own) []
 have h2:=(kY l).2
 unfold locals
 simp only[List.length_nil] at h1
 omega
theorem Af (hC0:Chg [] B m) {vl:NV} {l:List Stm} {E:List (List NV)} (hS:SS B (fun _=>True) vl l E) (hz:cI l<=1000000):
 ∃w m',aS Tryz.prog S0 93 [vl] m w m'/\∃b pl nm vv,w= .ptr b 0/\Bod pD B m' b pl nm vv (locals l) (fT l)/\Chg [] m m'/\∀i∈bU b pl nm vv,¬am m i:=by
 refine WF.ex fun K' hK'=> ?_
 refine WF.of_wpG (fun _=>rfl) yQ (L:= [(.e,vl)]) rfl ?_
 unfold Km
 obtain ⟨nm,m1,r1,hn,hC1⟩:=Fs hS hC0 (by omega)
 have hlen:=hn.sl.len
 rw[List.length_map] at hlen
 have hn1:=hn.sl.one
 have hv1:=hS.sl.one
 have hls:=lZ l
 rw[aa]
 simp (disch:=first|assumption|omega|(simp only[aI]<;>omega)) only[go_sem,seval,r1.wf,hlen,hn1,hv1]
 generalize hM:hp _ 3 m1=M
 have hC2:Chg [] m1 M:=ba hM rfl
 have g0:M.get (na m1 0)=some (.cells true [vl,ii 0]):=bz hM
 have g1:M.get (na m1 1)=some (.cells true (rep (locals l).length [iu 0])):=bz hM
 have g2:M.get (na m1 2)=some (.cells true (pD (.slc (na m1 0) 0 1 2 1) nm (.slc (na m1 1) 0 (locals l).length 1 (locals l).length) 0)):=bz hM
 have o0:am M (na m1 0):=bw hM (by omega)
 have o1:am M (na m1 1):=bw hM (by omega)
 have o2:am M (na m1 2):=bw hM (by omega)
 have hCm:=hC1.trans hC2 (by simp)
 have new:∀j,¬am m (na m1 j):=fun j q=>az (hC1.old q)
 have newB:∀j,¬am B (na m1 j):=fun j q=>new j (hC0.old q)
 have nno:∀j,na m1 j∉ids nm:=fun j q=>az (hn.sl.old _ q)
 refine hK' _ _ ⟨na m1 2,.slc (na m1 0) 0 1 2 1,nm,.slc (na m1 1) 0 (locals l).length 1 (locals l).length,rfl,⟨g2,o2,newB 2,⟨[[vl,ii 0]],aU.of (by simp) (newB 0) g0 o0 rfl rfl rfl,⟨rfl,fun j z c h1 h2=> ?_⟩⟩, ?_,(hn.chg hC2 fun _ _=>by simp).back fun i hi=>hC0.old hi, ?_, ?_, ?_,hC0.trans hCm (by simp)⟩,hCm, ?_⟩
 ·cases j with
  |zero=>cases h1;cases h2;exact ⟨vl,E,rfl,hS⟩
  |succ j=>simp[fT] at h1
 ·refine aU.of (by simp) (newB 1) g1 o1 (by rw[qM];simp[fT]) (by simp[fT]) (by simp[fT])
 ·simp only[ids,Rp,Rm,or_false,mF];exact ⟨by omega,by omega,nno 2⟩
 ·intro i hi;simp only[ids,Rp,Rm,or_false] at hi ⊢;subst hi;exact ⟨by rw[mF];omega,nno 0⟩
 ·intro i hi;simp only[ids,Rp,Rm,or_false] at hi;subst hi;exact nno 1
 ·intro i hi
  simp only[bU,ids,Rp,List.mem_append,Rm,or_false] at hi
  rcases hi with rfl|rfl|rfl|hi
  ·exact new 2
  ·exact new 0
  ·exact new 1
  ·exact hn.new i hi
end
structure Mc where
 (cl out:List Int)
 ill:Bool
structure Mac (f:NV->NV->Bool->List NV) (B m:NH) (r:D4) (vcl vo:NV) (z:Mc):Prop where
 g:m.get r=some (.cells true (f vcl vo z.ill))
 o:am m r
 nB:¬am B r
 cl:aU B m vcl 1 (mP z.cl)
 ou:aU B m vo 1 (mP z.out)
 d:r∉ids vcl/\r∉ids vo/\∀i∈ids vcl,i∉ids vo
 c:Chg [] B m
def bD (r:D4) (vcl vo:NV):List D4:=r::(ids vcl++ids vo)
structure McOk (cs:List (List Nat×Int)) (z:Mc):Prop where
 iv:∀y∈z.cl,dK y
 io:∀y∈z.out,dK y
 n:(z.cl.length:Int)=bn cs
structure CsOk (cs:List (List Nat×Int)):Prop where
 len:cs.length<=1000
 sz:∀c∈cs,1<=c.2/\c.2<=64
def jL (cs:List (List Nat×Int)) (z:Int) (t:Stm):Int:=bn (cs.take (bH (cs.map (·.1)) t.ce).toNat)+((z.toNat&&& ((((cs[(bH (cs.map (·.1)) t.ce).toNat]?).map (·.2)).getD 1) - 1).toNat:Nat):Int)
theorem BA (a b:List (List Nat×Int)):bn (a++b)=bn a+bn b:=by
 induction a with
 |nil=>simp[bn]
 |cons c a ih=>rw[List.cons_append,bn,bn,ih];omega
theorem nO (l:List (List Nat×Int)) (i:Nat):bn (l.take i)<=bn l:=by
 conv=>rhs;rw[←List.take_append_drop i l]
 rw[BA]
 have:=dc (l.drop i)
 omega
theorem C9 {cs:List (List Nat×Int)} {t:Stm} (h:t.ce∈cs.map (·.1)):∃i:Nat,bH (cs.map (·.1)) t.ce=i/\i<cs.length:=by
 obtain ⟨h1,h2⟩:=kK (l:=cs.map (·.1)) (x:=t.ce)
 obtain ⟨i,hi⟩:=Rr (fK.2 h)
 rw[List.length_map] at h1
 exact ⟨i,hi,by omega⟩
theorem pg {cs:List (List Nat×Int)} {t:Stm} {i:Nat} (z:Int) (h:bH (cs.map (·.1)) t.ce=i) (hi:i<cs.length):jL cs z t=bn (cs.take i)+((z.toNat&&& (cs[i].2 - 1).toNat:Nat):Int):=by
 unfold jL
 rw[h,Int.toNat_natCast,List.getElem?_eq_getElem hi];rfl
theorem kD {cs:List (List Nat×Int)} (hc:CsOk cs) {t:Stm} (h:t.ce∈cs.map (·.1)) (z:Int):0<=jL cs z t/\jL cs z t<bn cs:=by
 obtain ⟨i,hi,hl⟩:=C9 h
 rw[pg z hi hl]
 have h1:=gW cs i hl
 have h2:=nO cs (i+1)
 have h3:=hc.sz _ (List.getElem_mem hl)
 have h4:=Nat.and_le_right (n:=z.toNat) (m:=(cs[i].2 - 1).toNat)
 have h5:=dc (cs.take i)
 unfold iG at h1
 omega
theorem Nv {W:Int} (h0:0<=W) (h1:W<=1000000):c7 .num .quo (ii (8*W)) (ii 8)=some (ii W):=by
 obtain ⟨n,rfl⟩:=Rr h0
 refine (iK rfl).trans ?_
 show b9 .i64 (bt .i64 (.ofNat (Nat.div (8*n) 8)))=_
 rw[show Nat.div (8*n) 8=n from Nat.mul_div_cancel_left n (by omega),wrap_small (by show -9223372036854775808<=(n:Int);omega) (by show (n:Int)<9223372036854775808;omega),aR]
 rfl
section
variable {f:NV->NV->Bool->List NV} {B m m':NH} {r b:D4} {vcl vo pl nm vv vc vt vr rec vth:NV} {st:Bool} {ns:List (List Nat)} {x:Bd} {z:Mc} {cs:List (List Nat×Int)}
abbrev fP (vc vt vr rec vth:NV) (st:Bool) (vcl vo:NV) (ill:Bool):List NV:= [vc,vt,vr,vcl,vo,rec,vth,.bool st,.bool ill]
abbrev fR (vc vt vr rec vth:NV) (vcl vo:NV) (ill:Bool):List NV:= [vc,vt,vr,vcl,vo,rec,vth,.bool ill]
theorem Mac.old (h:Mac f B m r vcl vo z):∀i∈bD r vcl vo,am m i/\¬am B i:=by
 intro i hi
 rcases List.mem_cons.1 hi with rfl|hi
 ·exact ⟨h.o,h.nB⟩
 rcases List.mem_append.1 hi with hi|hi
 ·exact ⟨h.cl.sl.old i hi,h.cl.new i hi⟩
 ·exact ⟨h.ou.sl.old i hi,h.ou.new i hi⟩
theorem Mac.off {S:List D4} (h:Mac f B m r vcl vo z) (hC:Chg S m m') (hS:∀i∈bD r vcl vo,i∉S) (hB:∀i∈S,¬am B i):Mac f B m' r vcl vo z:=
 ⟨(hC.get h.o (hS r (List.mem_cons_self ..))).trans h.g,hC.old h.o,h.nB,h.cl.chg hC fun i hi=>hS i (by simp[bD,hi]),h.ou.chg hC fun i hi=>hS i (by simp[bD,hi]),h.d,h.c.trans hC fun i hi ho=>Rh ho (hB i hi)⟩
theorem Mac.grow (h:Mac f B m r vcl vo z) (hC:Chg [] m m'):Mac f B m' r vcl vo z:=h.off hC (by simp) (by simp)
theorem DA {cs:List (List Nat×Int)} {i:Nat} (hi:i<cs.length):Jp cs i - 4096=8*bn (cs.take i):=by
 unfold Jp
 rw[Rj ⟨by omega,by omega⟩,Int.toNat_natCast];omega
theorem wK (hM:Mac (fP vc vt vr rec vth st) B m r vcl vo z) (hb:Bod pD B m b pl nm vv ns x) (hk:BdOk cs ns x) (hc:Sl B vc 2 (jH cs)) (hcs:CsOk cs) (hz:McOk cs z) {w:NV} {t:Stm} (hw:Dj B w t) (hce:t.ce∈cs.map (·.1)) (hwi:Wid t.i):
 ∃id off,fU 1 vcl (ii (jL cs (t.i.eval ns x.v) t))= .val (.ptr id off)/\∃m',aS Tryz.prog S0 130 [.ptr r 0,.ptr b 0,w] m (.ptr id off) m'/\Chg [] m m':=by
 obtain ⟨i,hi,hl⟩:=C9 hce
 obtain ⟨w1,w2⟩:=kD hcs hce (t.i.eval ns x.v)
 obtain ⟨n,hn⟩:=Rr w1
 have hzn:=hz.n
 obtain ⟨id,off,wr,cc,a1,a2,a3,a4,a5⟩:=hM.cl.sl.at n (by rw[List.length_map];omega)
 refine ⟨id,off,by rw[hn];exact a1, ?_⟩
 refine WF.ex1 fun K' hK'=> ?_
 refine WF.of_wpG (fun _=>rfl) tS (L:= [(.b .e,w),(.a .e,.ptr b 0),(.e,.ptr r 0)]) rfl ?_
 unfold Gl
 obtain ⟨idt,offt,wrt,c,W,rfl,p1,p2,p3,p4,hSP⟩:=hw
 have hlen:=hcs.len
 have q3:c[offt+3]? =some (.str t.ce):=aA p4 3 (by omega)
 have q4:(c.drop (offt+4)).take 5=t.i.l W.vi:=fo p4 4 5 (by omega)
 obtain ⟨m1,r1,hC1⟩:=KJ (hc.grew hM.c) (by omega) t.ce
 rw[hi] at r1
 have hM1:=hM.grow hC1
 have hb1:=hb.grow hC1
 obtain ⟨m2,r2,hC2⟩:=fZ hb1 hk hSP.i hwi
 have hM2:=hM1.grow hC2
 have hb2:=hb1.grow hC2
 obtain ⟨m3,r3,hC3⟩:=Qa (hc.grew hM2.c) (by omega) (i:Int)
 have hM3:=hM2.grow hC3
 obtain ⟨idc,offc,wc,ccs,e1,e2,e3,e4,e5⟩:=hc.at i (by simpa using hl)
 rw[List.getElem_map] at e5
 have s1:ccs[offc+1]? =some (ii cs[i].2):=aA e5 1 (by omega)
 have hsz:=hcs.sz _ (List.getElem_mem hl)
 have g:=hM.g
 have g1:=hM1.g
 have g2:=hM2.g
 have g3:=hM3.g
 have p0:=(hM.c.get p2 (by simp)).trans p1
 have p11:=(hM1.c.get p2 (by simp)).trans p1
 have p12:=(hM2.c.get p2 (by simp)).trans p1
 have e11:=(hM1.c.get e3 (by simp)).trans e2
 have e12:=(hM2.c.get e3 (by simp)).trans e2
 have hwt:=pg (t.i.eval ns x.v) hi hl
 have hat:=DA hl
 have hev:=dC (ns:=ns) hk.iv t.i hwi
 have h64:(cs[i].2 - 1) % 18446744073709551616=cs[i].2 - 1:=by omega
 have hand:=Am hev (show dK (cs[i].2 - 1) by unfold dK;omega)
 have hW:=dc (cs.take i)
 have hW2:=nO cs i
 have hW3:=dc cs
 have hq:=Nv hW.1 (by omega)
 have hle:=Nat.and_le_right (n:=(t.i.eval ns x.v).toNat) (m:=(cs[i].2 - 1).toNat)
 have e6:bn (cs.take i)+(((t.i.eval ns x.v).toNat&&& (cs[i].2 - 1).toNat:Nat):Int)=(n:Int):=by omega
 have hsI:=cD hSP.i
 have hvc:=hc.same (n:=3)
 have hvl:=hM.cl.sl.same (n:=3)
 rw[aa]
 simp (disch:=first|assumption|omega) only[go_sem,seval,g,g1,g2,g3,p0,p11,p12,q3,q4,r1.wf',r2.wf',r3.wf',e1,e11,e12,s1,h64,hand,hat,hq,e6,hsI,hvc,hvl,a1]
 exact hK' _ ((hC1.trans hC2 (by simp)).trans hC3 (by simp))
end
noncomputable def fV (cs:List (List Nat×Int)) (ns:List (List Nat)) (t:Stm) (x:Bd) (z:Mc):Bd×Mc:=
 if t.k=1 then (⟨x.K,kx ns x.v t.nm ((z.cl[(jL cs (t.i.eval ns x.v) t).toNat]?).getD 0),x.s⟩,z)
 else if t.k=2 then (x,⟨z.cl.set (jL cs (t.i.eval ns x.v) t).toNat (t.x.eval ns x.v),z.out,z.ill⟩)
 else if t.k=3 then (if (z.cl[(jL cs (t.i.eval ns x.v) t).toNat]?).getD 0=t.x.eval ns x.v then (⟨x.K,kx ns x.v t.nm 1,x.s⟩,⟨z.cl.set (jL cs (t.i.eval ns x.v) t).toNat (t.y.eval ns x.v),z.out,z.ill⟩) else (⟨x.K,kx ns x.v t.nm 0,x.s⟩,z))
 else if t.k=5 then (x,⟨z.cl,z.out++ [t.x.eval ns x.v],z.ill⟩)
 else (x,z)
section
variable {F F' G G':List D4} {m m':NH}
theorem EvF.addR (h:EvF F F' m m') (G:List D4):EvF (G++F) (G++F') m m':=
 ⟨h.c.weak fun i hi _=>List.mem_append_right _ hi,fun j hj=>(List.mem_append.1 hj).elim (fun q=>Or.inl (List.mem_append_left _ q)) fun q=>(h.f j q).imp (List.mem_append_right _) id⟩
theorem EvF.addL (h:EvF F F' m m') (G:List D4):EvF (F++G) (F'++G) m m':=
 ⟨h.c.weak fun i hi _=>List.mem_append_left _ hi,fun j hj=>(List.mem_append.1 hj).elim (fun q=>(h.f j q).imp (List.mem_append_left _) id) fun q=>Or.inl (List.mem_append_right _ q)⟩
end
section
variable {f:NV->NV->Bool->List NV} {mk:NV->NV->NV->Int->List NV} {B m m':NH} {r b:D4} {vcl vo pl nm vv vc vt vr rec vth:NV} {st:Bool} {ns:List (List Nat)} {x:Bd} {z:Mc} {cs:List (List Nat×Int)} {F F':List D4}
theorem Mac.ev (h:Mac f B m r vcl vo z) (hE:EvF F F' m m') (hd:∀i∈bD r vcl vo,i∉F) (hB:∀i∈F,¬am B i):Mac f B m' r vcl vo z:=h.off hE.c hd hB
theorem Bod.ev (h:Bod mk B m b pl nm vv ns x) (hE:EvF F F' m m') (hd:∀i∈bU b pl nm vv,i∉F) (hB:∀i∈F,¬am B i):Bod mk B m' b pl nm vv ns x:=h.off hE.c hd hB
theorem Mac.put (h:Mac f B m r vcl vo z) {n:Nat} (hn:n<z.cl.length) (y:Int) {id:D4} {off:Nat} (hix:fU 1 vcl (ii (n:Nat))= .val (.ptr id off)):
 ids vcl= [id]/\(∃c,m.get id=some (.cells true c)/\am m id/\off+1<=c.length/\c[off]? =some (iu z.cl[n])/\∀M,M=m.put id (.cells true (c.set off (iu y)))->Mac f B M r vcl vo ⟨z.cl.set n y,z.out,z.ill⟩/\EvF (bD r vcl vo) (bD r vcl vo) m M):=by
 obtain ⟨id',off',c,a1,a2,a3,a4,a5,a6,a7,a8⟩:=h.cl.at n (by simpa using hn)
 rw[hix] at a1
 cases a1
 rw[List.getElem_map] at a7 a8
 refine ⟨a2,c,a4,a5,a6,aA a7 0 (by omega),fun M hM=> ?_⟩
 have hM:M=hp [(.o id,.cells true (c.set off (iu y)))] 0 m:=by rw[hM,←cg a5,aa]
 have hC:Chg [id] m M:=by rw[hM];exact (cE _ _ _).weak (by simp[aB])
 have hr:r≠id:=fun e=>h.d.1 (by rw[a2,e];simp)
 have ho:=a8 [(0,iu y)] M (by simp) (by rw[hM];exact (aF a5).trans ap) (by rw[hM];exact bJ a5)
 have ho:aU B M vcl 1 ((z.cl.map fun z=> [iu z]).set n [iu y]):=ho
 rw[←List.map_set (f:=fun z=> [iu z])] at ho
 refine ⟨⟨(hC.get h.o (by simpa using hr)).trans h.g,hC.old h.o,h.nB,ho,h.ou.chg hC fun i hi q=> ?_,h.d,h.c.trans hC fun i hi ho=> ?_⟩,hC.weak fun i hi _=> ?_,fun j hj=>Or.inl hj⟩
 ·have q:=one q;subst q;exact h.d.2.2 _ (by rw[a2];simp) hi
 ·have hi:=one hi;subst hi;exact Rh ho (h.cl.new _ (by rw[a2];simp))
 ·have hi:=one hi;subst hi;simp[bD,a2]
theorem Pn (hM:Mac (fP vc vt vr rec vth st) B m r vcl vo z) (hb:Bod pD B m b pl nm vv ns x) (hd:∀i∈bD r vcl vo,i∉bU b pl nm vv) (hk:BdOk cs ns x) (hc:Sl B vc 2 (jH cs)) (hcs:CsOk cs) (hz:McOk cs z) (ho:z.out.length<=1000000) {w:NV} {t:Stm} (hw:Dj B w t) (hG:Gs cs t) (ht:t.k=1∨t.k=2∨t.k=3∨t.k=5):
 ∃m',aS Tryz.prog S0 96 [.ptr r 0,.ptr b 0,w] m (.tup []) m'/\∃vo',Mac (fP vc vt vr rec vth st) B m' r vcl vo' (fV cs ns t x z).2/\Bod pD B m' b pl nm vv ns (fV cs ns t x z).1/\EvF (bD r vcl vo++bU b pl nm vv) (bD r vcl vo'++bU b pl nm vv) m m'/\∀i∈bD r vcl vo',i∉bU b pl nm vv:=by
 refine WF.ex1 fun K' hK'=> ?_
 refine WF.of_wpG (fun _=>rfl) zp (L:= [(.b .e,w),(.a .e,.ptr b 0),(.e,.ptr r 0)]) rfl ?_
 unfold Jx
 obtain ⟨g1,g2,g3,g4⟩:=jz hG
 have hw0:=hw
 obtain ⟨idt,offt,wrt,c,W,rfl,p1,p2,p3,p4,hSP⟩:=hw
 have q0:c[offt+0]? =some (ii t.k):=aA p4 0 (by omega)
 have q2:c[offt+2]? =some (.str t.nm):=aA p4 2 (by omega)
 have q9:(c.drop (offt+9)).take 5=t.x.l W.vx:=fo p4 9 5 (by omega)
 have q14:(c.drop (offt+14)).take 5=t.y.l W.vy:=fo p4 14 5 (by omega)
 have pm:=(hM.c.get p2 (by simp)).trans p1
 have hsX:=cD hSP.x
 have hsY:=cD hSP.y
 have hbB:∀i∈bU b pl nm vv,¬am B i:=fun i hi=>(hb.old i hi).2
 have hMB:∀i∈bD r vcl vo,¬am B i:=fun i hi=>(hM.old i hi).2
 have hd':∀i∈bU b pl nm vv,i∉bD r vcl vo:=fun i hi q=>hd i q hi
 have hex:=dC (ns:=ns) hk.iv t.x g3
 have hey:=dC (ns:=ns) hk.iv t.y g4
 unfold fV at hK'
 rcases ht with h|h|h|h
 ·simp only[Rj h] at hK'
  obtain ⟨id,off,a1,m1,r1,hC1⟩:=wK hM hb hk hc hcs hz hw0 (g1 (by omega)) g2
  obtain ⟨w1,w2⟩:=kD hcs (g1 (by omega)) (t.i.eval ns x.v)
  obtain ⟨n,hn⟩:=Rr w1
  have hzn:=hz.n
  have hnl:n<z.cl.length:=by omega
  rw[hn] at a1 hK'
  simp only[Int.toNat_natCast,List.getElem?_eq_getElem hnl,Option.getD_some] at hK'
  have hM1:=hM.grow hC1
  have hb1:=hb.grow hC1
  obtain ⟨hid,cc,c1,c2,c3,c4,-⟩:=hM1.put hnl 0 a1
  obtain ⟨m2,r2,hb2,e2⟩:=yj hb1 hk t.nm z.cl[n]
  have hM2:=hM1.ev e2 hd hbB
  have p11:=(hM1.c.get p2 (by simp)).trans p1
  have p12:=(hM2.c.get p2 (by simp)).trans p1
  have hi2:m2.get id=some (.cells true cc):=(e2.c.get c2 (hd id (by simp[bD,hid]))).trans c1
  rw[aa]
  simp (disch:=first|assumption|omega) only[go_sem,seval,pm,q0,q2,r1.wf',p11,p12,c1,c4,hi2,r2.wf']
  exact hK' _ ⟨vo,hM2,hb2,(EvF.pre hC1 e2).addR _,hd⟩
 ·have h1:t.k≠1:=by omega
  simp only[Ri h1,Rj h] at hK'
  obtain ⟨id,off,a1,m1,r1,hC1⟩:=wK hM hb hk hc hcs hz hw0 (g1 (by omega)) g2
  obtain ⟨w1,w2⟩:=kD hcs (g1 (by omega)) (t.i.eval ns x.v)
  obtain ⟨n,hn⟩:=Rr w1
  have hzn:=hz.n
  have hnl:n<z.cl.length:=by omega
  rw[hn] at a1 hK'
  simp only[Int.toNat_natCast] at hK'
  have hM1:=hM.grow hC1
  have hb1:=hb.grow hC1
  obtain ⟨m2,r2,hC2⟩:=fZ hb1 hk hSP.x g3
  have hM2:=hM1.grow hC2
  have hb2:=hb1.grow hC2
  have p11:=(hM1.c.get p2 (by simp)).trans p1
  have p12:=(hM2.c.get p2 (by simp)).trans p1
  obtain ⟨hid,cc,c1,c2,c3,c4,hput⟩:=hM2.put hnl (t.x.eval ns x.v) a1
  rw[aa]
  simp (disch:=first|assumption|omega) only[go_sem,seval,pm,q0,q9,hsX,r1.wf',p11,r2.wf',p12,c1,c4]
  generalize hM3:m2.put id _=M3
  obtain ⟨u1,u2⟩:=hput M3 hM3.symm
  exact hK' _ ⟨vo,u1,hb2.ev u2 hd' hMB,(EvF.pre (hC1.trans hC2 (by simp)) u2).addL _,hd⟩
 ·have h1:t.k≠1:=by omega
  have h2:t.k≠2:=by omega
  simp only[Ri h1,Ri h2,Rj h] at hK'
  obtain ⟨id,off,a1,m1,r1,hC1⟩:=wK hM hb hk hc hcs hz hw0 (g1 (by omega)) g2
  obtain ⟨w1,w2⟩:=kD hcs (g1 (by omega)) (t.i.eval ns x.v)
  obtain ⟨n,hn⟩:=Rr w1
  have hzn:=hz.n
  have hnl:n<z.cl.length:=by omega
  rw[hn] at a1 hK'
  simp only[Int.toNat_natCast,List.getElem?_eq_getElem hnl,Option.getD_some] at hK'
  have hM1:=hM.grow hC1
  have hb1:=hb.grow hC1
  obtain ⟨m2,r2,hC2⟩:=fZ hb1 hk hSP.y g4
  have hM2:=hM1.grow hC2
  have hb2:=hb1.grow hC2
  obtain ⟨m3,r3,hC3⟩:=fZ hb2 hk hSP.x g3
  have hM3:=hM2.grow hC3
  have hb3:=hb2.grow hC3
  have p11:=(hM1.c.get p2 (by simp)).trans p1
  have p12:=(hM2.c.get p2 (by simp)).trans p1
  have p13:=(hM3.c.get p2 (by simp)).trans p1
  obtain ⟨hid,cc2,d1,d2,d3,d4,-⟩:=hM2.put hnl 0 a1
  obtain ⟨-,cc,c1,c2,c3,c4,hput⟩:=hM3.put hnl (t.y.eval ns x.v) a1
  have hC13:=(hC1.trans hC2 (by simp)).trans hC3 (by simp)
  by_cases hq:z.cl[n]=t.x.eval ns x.v
  ·simp only[Rj hq] at hK'
   have hde:decide (z.cl[n]=t.x.eval ns x.v)=true:=Rl hq
   rw[aa]
   simp (disch:=first|assumption|omega) only[go_sem,seval,pm,q0,q2,q9,q14,hsX,hsY,r1.wf',p11,r2.wf',p12,d1,d4,r3.wf',p13,c1,c4,hde]
   generalize hM4:m3.put id _=M4
   obtain ⟨u1,u2⟩:=hput M4 hM4.symm
   have hb4:=hb3.ev u2 hd' hMB
   obtain ⟨m5,r5,hb5,e5⟩:=yj hb4 hk t.nm 1
   have hM5:=u1.ev e5 hd hbB
   have p14:=(u1.c.get p2 (by simp)).trans p1
   have p15:=(hM5.c.get p2 (by simp)).trans p1
   have hfl:=xg M4 true
   simp (disch:=first|assumption|omega) only[go_sem,seval,p14,q2,hfl.wf',r5.wf',p15]
   exact hK' _ ⟨vo,hM5,hb5,(EvF.pre hC13 (u2.addL _)).trans (e5.addR _),hd⟩
  ·simp only[Ri hq] at hK'
   obtain ⟨m5,r5,hb5,e5⟩:=yj hb3 hk t.nm 0
   have hM5:=hM3.ev e5 hd hbB
   have p15:=(hM5.c.get p2 (by simp)).trans p1
   have hfl:=xg m3 false
   have hde:decide (z.cl[n]=t.x.eval ns x.v)=false:=Rk hq
   rw[aa]
   simp (disch:=first|assumption|omega) only[go_sem,seval,pm,q0,q2,q9,q14,hsX,hsY,r1.wf',p11,r2.wf',p12,d1,d4,r3.wf',p13,c1,c4,hde,hfl.wf',r5.wf',p15]
   exact hK' _ ⟨vo,hM5,hb5,(EvF.pre hC13 e5).addR _,hd⟩
 ·have h1:t.k≠1:=by omega
  have h2:t.k≠2:=by omega
  have h3:t.k≠3:=by omega
  simp only[Ri h1,Ri h2,Ri h3,Rj h] at hK'
  obtain ⟨m1,r1,hC1⟩:=fZ hb hk hSP.x g3
  have hM1:=hM.grow hC1
  have hb1:=hb.grow hC1
  have g:=hM.g
  have gg1:=hM1.g
  have p11:=(hM1.c.get p2 (by simp)).trans p1
  have hvo:=hM.ou.sl.one
  have hvs:=hM.ou.sl.same (n:=3)
  rw[aa]
  simp (disch:=first|assumption|omega|(simp only[aI]<;>omega)) only[go_sem,seval,pm,q0,q9,hsX,g,r1.wf,gg1,p11,hvo,hvs]
  have hC2:Chg [] m1 (hp [(.n 0,.cells true [iu (t.x.eval ns x.v)])] 1 m1):=aC rfl
  have hM2:=hM1.grow hC2
  refine cZ (cs:= [iu (t.x.eval ns x.v)]) hM2.ou bo (bv (by omega)) rfl (fun i hi=>hM2.c.old hi) (by simp;omega) (by simp;omega) ?_
  intro vo' M3 hO3 hC3 hF3
  have hvoB:∀i∈ids vo,¬am B i:=fun i hi=>hMB i (by simp[bD,hi])
  have hC23:Chg [] B M3:=hM2.c.trans hC3 fun i hi ho=>Rh ho (hvoB i hi)
  have p13:=(hC23.get p2 (by simp)).trans p1
  have g3':=(hC3.get hM2.o hM.d.2.1).trans hM2.g
  have o3:=hC3.old hM2.o
  have hvo':=hO3.sl.one
  simp (disch:=first|assumption|omega|(simp only[aI]<;>omega)) only[go_sem,seval,aa,p13,q9,g3',hvo']
  generalize hM4:M3.put r _=M4
  have hM4:M4=hp [(.o r,.cells true (fP vc vt vr rec vth st vcl vo' z.ill))] 0 M3:=by rw[←hM4,←cg o3,aa]
  have hC4:Chg [r] M3 M4:=by rw[hM4];exact (cE _ _ _).weak (by simp[aB])
  have hrv:r∉ids vo':=fun q=>(hF3 r q).elim hM.d.2.1 fun q=>q hM2.o
  have hvn:∀i∈ids vo',i∈ids vo∨¬am m i:=fun i hi=>(hF3 i hi).imp id fun q ho=>q (hC2.old (hC1.old ho))
  have hEv:EvF (bD r vcl vo) (bD r vcl vo') m M4:=by
   refine ⟨((((hC1.trans hC2 (by simp)).weak (T:=bD r vcl vo) (by simp)).trans hC3 fun i hi _=>by simp[bD,hi]).trans hC4 fun i hi _=>by have hi:=one hi;subst hi;simp[bD]),fun j hj=> ?_⟩
   simp only[bD,Rp,List.mem_append] at hj ⊢
   rcases hj with hj|hj|hj
   ·exact Or.inl (Or.inl hj)
   ·exact Or.inl (Or.inr (Or.inl hj))
   ·exact (hvn j hj).imp (fun q=>Or.inr (Or.inr q)) id
  have hn4:∀{v:NV} {C:List (List NV)},aU B M3 v 1 C->r∉ids v->aU B M4 v 1 C:=fun ho hr=>ho.chg hC4 fun i hi q=>by have q:=one q;subst q;exact hr hi
  refine hK' _ ⟨vo',⟨by rw[hM4];exact (aF o3).trans ap,hC4.old o3,hM.nB,hn4 (hM2.cl.chg hC3 fun i hi=>hM.d.2.2 i hi) hM.d.1, ?_,⟨hM.d.1,hrv,fun i hi q=>(hF3 i q).elim (hM.d.2.2 i hi) fun q=>q (hM2.cl.sl.old i hi)⟩,hC23.trans hC4 fun i hi ho=> ?_⟩,hb.ev hEv hd' hMB,hEv.addL _,fun i hi q=> ?_⟩
  ·have:=hn4 hO3 hrv
   show aU B M4 vo' 1 ((z.out++ [t.x.eval ns x.v]).map fun z=> [iu z])
   rw[List.map_append]
   exact this
  ·have hi:=one hi;subst hi;exact Rh ho hM.nB
  ·simp only[bD,Rp,List.mem_append] at hi
   rcases hi with hi|hi|hi
   ·exact hd i (by simp[bD,hi]) q
   ·exact hd i (by simp[bD,hi]) q
   ·exact (hvn i hi).elim (fun p=>hd i (by simp[bD,p]) q) fun p=>p (hb.old i q).1
end
def IW (y:List Stm×Nat):Stm:=(y.1[y.2]?).getD (.mk 0 0 [] [] zE zE zE [] [])
def iz (t:Stm):Prop:=t.k=1∨t.k=2∨t.k=3∨t.k=5
instance (t:Stm):Decidable (iz t):=by unfold iz;infer_instance
noncomputable def uM (cs:List (List Nat×Int)) (ns:List (List Nat)) (t:Stm) (x:Bd) (z:Mc):Bd×Mc:=(⟨iw (fV cs ns t x z).1.K,(fV cs ns t x z).1.v,(fV cs ns t x z).1.s⟩,(fV cs ns t x z).2)
noncomputable def qX (cs:List (List Nat×Int)) (ns:List (List Nat)):Nat->Bd->Mc->Bool×Bd×Mc
 |0,x,z=>match bM x.K with
  | []=>(false,⟨[],x.v,1⟩,z)
  |y::K=>(false,⟨y::K,x.v,2⟩,⟨z.cl,z.out,true⟩)
 |k+1,x,z=>match bM x.K with
  | []=>(false,⟨[],x.v,1⟩,z)
  |y::K=>if iz (IW y) then (true,uM cs ns (IW y) ⟨y::K,x.v,x.s⟩ z) else qX cs ns k (dU ns (IW y) ⟨y::K,x.v,x.s⟩) z
noncomputable def bZ (cs:List (List Nat×Int)) (ns:List (List Nat)) (x:Bd) (z:Mc):Bool×Bd×Mc:=if x.s=0 then qX cs ns 1000 x z else (false,x,z)
theorem zy {cs:List (List Nat×Int)} {ns:List (List Nat)} {x:Bd} {z:Mc} (h:bM x.K= []) (k:Nat):qX cs ns k x z=(false,⟨[],x.v,1⟩,z):=by
 cases k<;>(rw[qX,h])
theorem up {cs:List (List Nat×Int)} {ns:List (List Nat)} {x:Bd} {z:Mc} {y:List Stm×Nat} {K:lB} (h:bM x.K=y::K) (k:Nat):qX cs ns (k+1) x z=if iz (IW y) then (true,uM cs ns (IW y) ⟨y::K,x.v,x.s⟩ z) else qX cs ns k (dU ns (IW y) ⟨y::K,x.v,x.s⟩) z:=by
 rw[qX,h]
theorem tU {cs:List (List Nat×Int)} {ns:List (List Nat)} {x:Bd} {z:Mc} {y:List Stm×Nat} {K:lB} (h:bM x.K=y::K):qX cs ns 0 x z=(false,⟨y::K,x.v,2⟩,⟨z.cl,z.out,true⟩):=by
 rw[qX,h]
theorem DG {y:List Stm×Nat} (h:y.2<y.1.length):IW y=y.1[y.2]:=by unfold IW;rw[List.getElem?_eq_getElem h];rfl
section
variable {f:NV->NV->Bool->List NV} {mk:NV->NV->NV->Int->List NV} {B m m':NH} {r b:D4} {vcl vo pl nm vv vc vt vr rec vth:NV} {st:Bool} {ns:List (List Nat)} {x:Bd} {z:Mc} {cs:List (List Nat×Int)} {F F':List D4}
theorem vT (t:Stm):(fV cs ns t x z).1.K=x.K/\(fV cs ns t x z).1.s=x.s:=by
 unfold fV
 split
 ·exact ⟨rfl,rfl⟩
 split
 ·exact ⟨rfl,rfl⟩
 split
 ·split<;>exact ⟨rfl,rfl⟩
 split<;>exact ⟨rfl,rfl⟩
theorem Lo {l:List Int} (h:∀z∈l,dK z) (i:Nat):dK ((l[i]?).getD 0):=by
 cases hl:l[i]? with
 |none=>exact ⟨by simp,by simp⟩
 |some a=>exact h a (List.mem_of_getElem? hl)
theorem E6 {l:List Int} (h:∀z∈l,dK z) {y:Int} (hy:dK y) (i:Nat):∀z∈l.set i y,dK z:=fun z hz=>(List.mem_or_eq_of_mem_set hz).elim (h z) fun e=>e▸hy
theorem zK (hk:BdOk cs ns x) (hz:McOk cs z) {t:Stm} (hG:Gs cs t):BdOk cs ns (fV cs ns t x z).1/\McOk cs (fV cs ns t x z).2/\(fV cs ns t x z).2.out.length<=z.out.length+1:=by
 obtain ⟨g1,g2,g3,g4⟩:=jz hG
 have hx:=dC (ns:=ns) hk.iv t.x g3
 have hy:=dC (ns:=ns) hk.iv t.y g4
 unfold fV
 split
 ·exact ⟨hk.set (Lo hz.iv _),hz,by simp⟩
 split
 ·exact ⟨hk,⟨E6 hz.iv hx _,hz.io,by simp[hz.n]⟩,by simp⟩
 split
 ·split
  ·exact ⟨hk.set ⟨by simp,by simp⟩,⟨E6 hz.iv hy _,hz.io,by simp[hz.n]⟩,by simp⟩
  ·exact ⟨hk.set ⟨by simp,by simp⟩,hz,by simp⟩
 split
 ·exact ⟨hk,⟨hz.iv,fun y hy=>(List.mem_append.1 hy).elim (hz.io y) fun q=>by rw[List.mem_singleton] at q;subst q;exact hx,hz.n⟩,by simp⟩
 ·exact ⟨hk,hz,by simp⟩
theorem Bod.state {s':Int} {m':NH} (h:Bod mk B m b pl nm vv ns x) (hg:m'.get b=some (.cells true (mk pl nm vv s'))) (hC:Chg [b] m m'):Bod mk B m' b pl nm vv ns ⟨x.K,x.v,s'⟩/\EvF (bU b pl nm vv) (bU b pl nm vv) m m':=by
 have hn:∀{v:NV},b∉ids v->∀i∈ids v,i∉ [b]:=fun hb i hi q=>by have q:=one q;subst q;exact hb hi
 obtain ⟨C,hP,hk⟩:=h.p
 exact h.putP (x':=⟨x.K,x.v,s'⟩) hg (hC.weak fun i hi _=>by have hi:=one hi;subst hi;simp[bU]) ⟨C,hP.chg hC (hn h.d1.1),hk⟩ (h.v.chg hC (hn h.d1.2.1)) (fun i hi=>hC.get (h.n.sl.old i hi) (hn h.d1.2.2 i hi)) (fun i hi=>Or.inl hi) rfl
theorem Mac.sick {m':NH} (h:Mac f B m r vcl vo z) (hg:m'.get r=some (.cells true (f vcl vo true))) (hC:Chg [r] m m'):Mac f B m' r vcl vo ⟨z.cl,z.out,true⟩/\EvF (bD r vcl vo) (bD r vcl vo) m m':=by
 have hn:∀{v:NV},r∉ids v->∀i∈ids v,i∉ [r]:=fun hb i hi q=>by have q:=one q;subst q;exact hb hi
 exact ⟨⟨hg,hC.old h.o,h.nB,h.cl.chg hC (hn h.d.1),h.ou.chg hC (hn h.d.2.1),h.d,h.c.trans hC fun i hi ho=>by have hi:=one hi;subst hi;exact Rh ho h.nB⟩,hC.weak fun i hi _=>by have hi:=one hi;subst hi;simp[bD],fun j hj=>Or.inl hj⟩
theorem Fp:c7 .ptr .eql .nilp .nilp=some (.bool true):=_root_.id rfl
theorem uS {i:D4} {o:Nat}:c7 .ptr .eql (.ptr i o) .nilp=some (.bool false):=_root_.id rfl
theorem D5:c7 .ptr .neq .nilp .nilp=some (.bool false):=_root_.id rfl
theorem Dx {i:D4} {o:Nat}:c7 .ptr .neq (.ptr i o) .nilp=some (.bool true):=_root_.id rfl
structure ct (f:NV->NV->Bool->List NV) (mk:NV->NV->NV->Int->List NV) (B m0 M:NH) (cs:List (List Nat×Int)) (ns:List (List Nat)) (r b:D4) (F0:List D4) (vcl vo pl nm vv:NV) (x:Bd) (z:Mc) (o:Nat):Prop where
 mc:Mac f B M r vcl vo z
 bd:Bod mk B M b pl nm vv ns x
 dj:∀i∈bD r vcl vo,i∉bU b pl nm vv
 bk:BdOk cs ns x
 zk:McOk cs z
 ol:z.out.length<=o
 ev:EvF F0 (bD r vcl vo++bU b pl nm vv) m0 M
theorem IT (hc:Sl B vc 2 (jH cs)) (hcs:CsOk cs) {o:Nat} (ho:o<=1000000) (h:ct (fP vc vt vr rec vth st) pD B m m cs ns r b (bD r vcl vo++bU b pl nm vv) vcl vo pl nm vv x z o):
 ∃m',aS Tryz.prog S0 58 [.ptr r 0,.ptr b 0] m (ii (if (bZ cs ns x z).1=true then 0 else (bZ cs ns x z).2.1.s)) m'/\∃vo' pl',ct (fP vc vt vr rec vth st) pD B m m' cs ns r b (bD r vcl vo++bU b pl nm vv) vcl vo' pl' nm vv (bZ cs ns x z).2.1 (bZ cs ns x z).2.2 (o+1):=by
 refine WF.ex1 fun K' hK'=> ?_
 refine WF.of_wpG (fun _=>rfl) Aw (L:= [(.a .e,.ptr b 0),(.e,.ptr r 0)]) rfl ?_
 unfold KV
 generalize hR:bZ cs ns x z=R at hK'
 generalize hF0:bD r vcl vo++bU b pl nm vv=F0 at h hK'
 simp (disch:=first|assumption|omega) only[go_sem,seval,aa]
 refine W.loop (fun k d=>∃t M pl vo x z,d=⟨t, [],none,M⟩/\NT.get D4.e t=some (.ptr r 0)/\NT.get D4.e.a t=some (.ptr b 0)/\ct (fP vc vt vr rec vth st) pD B m M cs ns r b F0 vcl vo pl nm vv x z o/\((∃n:Nat,NT.get D4.e.a.a t=some (ii (n:Nat))/\x.s=0/\n+k=1001/\n<=1000/\qX cs ns (1000 - n) x z=R)∨(x.s≠0/\(false,x,z)=R/\∃y,NT.get D4.e.a.a t=some (ii y)/\0<=y/\y<=1001))) ?_ 1001 _ ⟨_,m,pl,vo,x,z,rfl,by simp only[go_sem,seval],by simp only[go_sem,seval],h, ?_⟩
 ·clear h hF0 hR
  rintro k d ⟨t,M,pl,vo,x,z,rfl,t1,t2,h,hh⟩
  apply ao
  unfold zj
  change wp _ _ _ _ ⟨ai [] t, [],none,M⟩ _
  have g:=h.bd.g
  rcases hh with ⟨n,t3,hs,hnk,hn,hR⟩|⟨hs,hR,y,t3,hy0,hy1⟩
  ·obtain ⟨w,m1,r1,hw,pl1,hb1,e1⟩:=Lg h.bd h.bk
   have hdd:∀i∈bD r vcl vo,i∉bU b pl1 nm vv:=fun i hi q=>(e1.f i q).elim (h.dj i hi) fun q=>q (h.mc.old i hi).1
   have hM1:=h.mc.ev e1 h.dj fun i hi=>(h.bd.old i hi).2
   have hk1:=h.bk.trim
   have g1:=hb1.g
   have gM:=hM1.g
   have oB:=hb1.o
   have oM:=hM1.o
   have hrb:r≠b:=fun e=>hdd r (by simp[bD]) (by rw[e];simp[bU])
   cases hT:bM x.K with
   |nil=>
    rw[hT] at hw
    have hw:w= .nilp:=hw
    subst hw
    rw[zy hT] at hR
    rw[hT] at hb1 hk1
    simp (disch:=first|assumption|omega|(simp only[aI]<;>omega)) only[go_sem,seval,t1,t2,t3,g,r1.wf,g1,Fp]
    generalize hM:hp _ 0 m1=M2
    obtain ⟨hb2,e2⟩:=hb1.state (s':=1) (m':=M2) (gL oB hM) (jR hM (by simp[aB]))
    exact ⟨k - 1,by omega,_,M2,pl1,vo,⟨[],x.v,1⟩,z,by rfl,by simp only[go_sem,seval,t1],by simp only[go_sem,seval,t2],⟨hM1.ev e2 hdd fun i hi=>(hb1.old i hi).2,hb2,hdd,⟨hk1.ch,hk1.gs,hk1.pos,hk1.iv,hk1.ln,hk1.lv⟩,h.zk,h.ol,(h.ev.trans (e1.addR _)).trans (e2.addR _)⟩,Or.inr ⟨by simp,hR,(n:Int)+1,by simp only[go_sem,seval],by omega,by omega⟩⟩
   |cons y K=>
    rw[hT] at hw hb1 hk1
    obtain ⟨hy,hw⟩:=hw
    have hGs:=hk1.gs y (by simp) _ (List.getElem_mem hy)
    have hw':=hw
    obtain ⟨idt,offt,wrt,c,W,rfl,p1,p2,p3,p4,hSP⟩:=hw'
    have pm:=(hb1.c.get p2 (by simp)).trans p1
    by_cases h1000:n=1000
    ·subst h1000
     rw[tU hT] at hR
     simp (disch:=first|assumption|omega|(simp only[aI]<;>omega)) only[go_sem,seval,t1,t2,t3,g,r1.wf,g1,uS,gM]
     have oM2:am (hp [(.o b,.cells true [pl1,nm,vv,ii 2])] 0 m1) r:=bJ oM
     rw[←cg oM]
     generalize hM:hp [(.o b,.cells true [pl1,nm,vv,ii 2])] 0 m1=M2
     obtain ⟨hb2,e2⟩:=hb1.state (s':=2) (m':=M2) (gL oB hM) (jR hM (by simp[aB]))
     have hM2:=hM1.ev e2 hdd fun i hi=>(hb1.old i hi).2
     rw[hM] at oM2
     generalize hM3:M2.put r _=M3
     have hM3:M3=hp [(.o r,.cells true (fP vc vt vr rec vth st vcl vo true))] 0 M2:=by rw[←hM3,←cg oM2,aa]
     obtain ⟨hM4,e3⟩:=hM2.sick (m':=M3) (by rw[hM3];exact (aF oM2).trans ap) (by rw[hM3];exact (cE _ _ _).weak (by simp[aB]))
     exact ⟨k - 1,by omega,_,M3,pl1,vo,⟨y::K,x.v,2⟩,⟨z.cl,z.out,true⟩,by rfl,by simp only[go_sem,seval,t1],by simp only[go_sem,seval,t2],⟨hM4,hb2.ev e3 (fun i hi q=>hdd i q hi) fun i hi=>(hM2.old i hi).2,hdd,⟨hk1.ch,hk1.gs,hk1.pos,hk1.iv,hk1.ln,hk1.lv⟩,⟨h.zk.iv,h.zk.io,h.zk.n⟩,h.ol,((h.ev.trans (e1.addR _)).trans (e2.addR _)).trans (e3.addL _)⟩,Or.inr ⟨by simp,hR,1001,by simp only[go_sem,seval],by omega,by omega⟩⟩
    ·have e1000:1000 - n=(999 - n)+1:=by omega
     rw[e1000,up hT,DG hy] at hR
     generalize ht:y.1[y.2]=tt at *
     generalize hMh:hp [(.n 0,.cells true [ii 1,ii 2,ii 3,ii 5])] 1 m1=Mh
     have hCh:Chg [] m1 Mh:=ba hMh rfl
     obtain ⟨mh,rh,hCh2⟩:=I5 Mh (v:= .slc (na m1 0) 0 4 1 4) (l:= [1,2,3,5]) (aU.of (B:=m1) (by simp) az (by rw[←hMh];exact bo) (by rw[←hMh];exact bv (by omega)) (by rfl) (by rfl) (by rfl)).sl (by simp) (k:=tt.k) (c:=(tt.l W).tail) (by rfl)
     change aS _ _ _ [.agg (tt.l W),_] _ _ _ at rh
     have hCm:=hCh.trans hCh2 (by simp)
     have hM2:=hM1.grow hCm
     have hb2:=hb1.grow hCm
     by_cases hA:iz tt
     ·rw[Rj hA] at hR
      have hde:decide (tt.k∈ [1,2,3,5])=true:=Rl (by unfold iz at hA;simpa using hA)
      obtain ⟨m3,r3,vo3,hM3,hb3,e3,hd3⟩:=Pn hM2 hb2 hdd hk1 hc hcs h.zk (by have:=h.ol;omega) hw hGs hA
      obtain ⟨q1,q2,q3⟩:=zK hk1 h.zk hGs
      obtain ⟨a1,a2⟩:=vT (cs:=cs) (ns:=ns) (x:=⟨y::K,x.v,x.s⟩) (z:=z) tt
      obtain ⟨m4,r4,hb4,e4⟩:=oD hb3 q1 a1
      simp (disch:=first|assumption|omega|(simp only[aI]<;>omega)) only[go_sem,seval,t1,t2,t3,g,r1.wf,g1,uS,pm,p4,hMh,rh.wf',hde,r3.wf',r4.wf']
      subst hR
      exact hK' _ ⟨vo3,pl1,hM3.ev e4 hd3 fun i hi=>(hb3.old i hi).2,hb4,hd3,q1.pass a1 hy,q2,by have:=h.ol;exact Nat.le_trans q3 (by omega),((h.ev.trans (EvF.post (e1.addR _) hCm)).trans e3).trans (e4.addR _)⟩
     ·rw[Ri hA] at hR
      have hde:decide (tt.k∈ [1,2,3,5])=false:=Rk (by unfold iz at hA;simpa using hA)
      obtain ⟨m3,r3,pl3,hb3,e3⟩:=GY hb2 hk1 (y:=y) (K:=K) rfl hy (by rw[ht];exact hw)
      rw[ht] at hb3
      have hk3:=hk1.quiet (y:=y) (K:=K) rfl hy
      rw[ht] at hk3
      have hM3:=hM2.ev e3 hdd fun i hi=>(hb2.old i hi).2
      have hdj3:∀i∈bD r vcl vo,i∉bU b pl3 nm vv:=fun i hi q=>(e3.f i q).elim (hdd i hi) fun q=>q (hM2.old i hi).1
      have hqs:(dU ns tt ⟨y::K,x.v,x.s⟩).s=0:=by
       rw[←hs]
       unfold dU
       split
       ·rfl
       split
       ·split<;>rfl
       split<;>rfl
      simp (disch:=first|assumption|omega|(simp only[aI]<;>omega)) only[go_sem,seval,t1,t2,t3,g,r1.wf,g1,uS,pm,p4,hMh,rh.wf',hde,r3.wf']
      exact ⟨k - 1,by omega,_,m3,pl3,vo,_,z,by rfl,by simp only[go_sem,seval,t1],by simp only[go_sem,seval,t2],⟨hM3,hb3,hdj3,hk3,h.zk,h.ol,(h.ev.trans (EvF.post (e1.addR _) hCm)).trans (e3.addR _)⟩,Or.inl ⟨n+1,by simp only[go_sem,seval]<;>rfl,hqs,by omega,by omega,by rw[show 1000 - (n+1)=999 - n by omega];exact hR⟩⟩
  ·simp (disch:=first|assumption|omega) only[go_sem,seval,t1,t2,t3,g]
   subst hR
   exact hK' _ ⟨vo,pl,h.mc,h.bd,h.dj,h.bk,h.zk,Nat.le_succ_of_le h.ol,h.ev⟩
 ·by_cases hs:x.s=0
  ·refine Or.inl ⟨0,by simp only[go_sem,seval]<;>rfl,hs,by omega,by omega, ?_⟩
   rw[←hR,bZ,Rj hs]
  ·refine Or.inr ⟨hs, ?_,0,by simp only[go_sem,seval],by omega,by omega⟩
   rw[←hR,bZ,Ri hs]
end
theorem zg {m:NH} {oc mo:D4} {Z:List (List Nat)} (hc:m.get oc=some (.cells true [.map mo])) (hm:m.get mo=some (.map (gh Z))) (s:List Nat):aS Tryz.prog S0 116 [.str s,.ptr oc 0] m (.bool (decide (s∈Z))) m:=by
 have h:∃r m',aS Tryz.prog S0 116 [.str s,.ptr oc 0] m r m'/\r= .bool (decide (s∈Z))/\m'=m:=by
  refine WF.ex fun K hK=> ?_
  refine WF.of_wpG (fun _=>rfl) tz (L:= [(.a .e,.ptr oc 0),(.e,.str s)]) rfl ?_
  unfold Db
  simp (disch:=first|assumption|omega) only[go_sem,seval,hc,hm,aa]
  exact hK _ _ ⟨rfl,rfl⟩
 obtain ⟨r,m',h1,rfl,rfl⟩:=h
 exact h1
theorem Nf {m:NH} {v:NV} {l:List (List Nat)} {oc mo:D4} {Z:List (List Nat)} (hv:Sl m v 1 (bE l)) (hc:m.get oc=some (.cells true [.map mo])) (hm:m.get mo=some (.map (gh Z))) (hsz:l.length<=1099511627776):
 ∃r m',aS Tryz.prog S0 143 [v,.fn 116 [.ptr oc 0]] m r m'/\(∃z:Int,r=ii z/\(0<=z↔∃n∈l,n∈Z))/\m'=m:=by
 refine WF.ex fun K hK=> ?_
 refine WF.of_wpG (fun _=>rfl) uG (L:= [(.a .e,.fn 116 [.ptr oc 0]),(.e,v)]) rfl ?_
 unfold FV
 have hlen:=hv.len
 rw[List.length_map] at hlen
 simp (disch:=first|assumption|omega) only[go_sem,seval,hlen,aa]
 refine W.loop (fun k d=>∃t i,d=⟨t, [],none,m⟩/\NT.get D4.e t=some v/\NT.get D4.e.a t=some (.fn 116 [.ptr oc 0])/\NT.get D4.e.a.c t=some (ii l.length)/\NT.get D4.e.a.f t=some (ii (i:Nat))/\i+k=l.length/\∀j (hj:j<i) (hl:j<l.length),l[j]∉Z) ?_ l.length _ ⟨_,0,rfl,by simp only[go_sem,seval],by simp only[go_sem,seval],by simp only[go_sem,seval],by simp only[go_sem,seval]<;>rfl,by omega,by simp⟩
 rintro k d ⟨t,i,rfl,g1,g2,g3,g4,hik,hn⟩
 apply ao
 unfold ue
 change wp _ _ _ _ ⟨ai [] t, [],none,m⟩ _
 by_cases hi:i<l.length
 ·obtain ⟨id,off,wr,c,a1,a2,a3,a4,a5⟩:=hv.at i (by simpa using hi)
  rw[List.getElem_map] at a5
  have c0:c[off]? =some (.str l[i]):=aA a5 0 (by omega)
  by_cases hin:l[i]∈Z
  ·have hp:=zg hc hm l[i]
   rw[Rl hin] at hp
   simp (disch:=first|assumption|omega) only[go_sem,seval,g1,g2,g3,g4,a1,a2,c0,hp.wf']
   exact hK _ _ ⟨⟨i,rfl,fun _=>⟨l[i],List.getElem_mem hi,hin⟩,fun _=>by omega⟩,rfl⟩
  ·have hp:=zg hc hm l[i]
   rw[Rk hin] at hp
   simp (disch:=first|assumption|omega) only[go_sem,seval,g1,g2,g3,g4,a1,a2,c0,hp.wf']
   refine ⟨k - 1,by omega,_,i+1,by rfl,by simp only[go_sem,seval,g1],by simp only[go_sem,seval,g2],by simp only[go_sem,seval,g3],by simp only[go_sem,seval]<;>rfl,by omega,fun j hj hl=> ?_⟩
   rcases Nat.lt_or_ge j i with q|q
   ·exact hn j q hl
   ·obtain rfl:j=i:=by omega
    exact hin
 ·simp (disch:=first|assumption|omega) only[go_sem,seval,g1,g2,g3,g4]
  refine hK _ _ ⟨⟨-1,rfl,fun h=>by omega,fun ⟨n,h1,h2⟩=> ?_⟩,rfl⟩
  obtain ⟨j,hj,rfl⟩:=List.getElem_of_mem h1
  exact Rh h2 (hn j (by omega) hj)
theorem zc {m:NH} {v:NV} {l:List (List Nat)} {oc mo:D4} {Z:List (List Nat)} (hv:Sl m v 1 (bE l)) (hc:m.get oc=some (.cells true [.map mo])) (hm:m.get mo=some (.map (gh Z))) (hsz:l.length<=1099511627776):
 aS Tryz.prog S0 115 [v,.fn 116 [.ptr oc 0]] m (.bool (decide (∃n∈l,n∈Z))) m:=by
 have h:∃r m',aS Tryz.prog S0 115 [v,.fn 116 [.ptr oc 0]] m r m'/\r= .bool (decide (∃n∈l,n∈Z))/\m'=m:=by
  refine WF.ex fun K hK=> ?_
  refine WF.of_wpG (fun _=>rfl) s8 (L:= [(.a .e,.fn 116 [.ptr oc 0]),(.e,v)]) rfl ?_
  unfold Dt
  obtain ⟨r,m',hr,⟨z,rfl,hz⟩,rfl⟩:=Nf hv hc hm hsz
  simp (disch:=first|assumption|omega) only[go_sem,seval,aa,hr.wf']
  refine hK _ _ ⟨?_,rfl⟩
  simp only[hz]
 obtain ⟨r,m',h1,rfl,rfl⟩:=h
 exact h1
abbrev MI:=(List (List Nat)×Nat)×Option (Int×Int)
def j6 (Z:List (List Nat)) (st:MI) (x:Stm):MI×Bool:=
 if (x.k=1∨x.k=2∨x.k=3)/\x.ce∉Z then ((st.1,some (x.a,4)),false)
 else if ∃n∈x.own,n∈Z then ((st.1,some (x.a,6)),false)
 else if 12<(x.own.foldl aL st.1.1).length then (((x.own.foldl aL st.1.1,st.1.2+x.own.length),some (x.a,3)),false)
 else (((x.own.foldl aL st.1.1,st.1.2+x.own.length),none),true)
def Rc (st:MI) (x:Stm):Prop:=st.2=none/\x.sz<=100000000/\st.1.2+x.own.length<=100000000
def xE:Option (Int×Int)->Int|some (a,_)=>a|none=>0
def jO:Option (Int×Int)->Int|some (_,e)=>e|none=>0
def O2:Option (Int×Int)->Nat|some _=>2|none=>0
def PO:Option (Int×Int)->Jump|some _=> .ret|none=> .none
def Q3 (q o b er:D4) (t:Tm) (M1:NH) (st:MI) (F:List D4) (N:NH):Prop:=∃u,F=q::o::b::er::ids u/\Chg [q,o,b,er] M1 N/\N.get q=some (.loop (O2 st.2) (PO st.2) t [D4.e.b.c] eU eX)/\N.get o=some (.cells true [u])/\N.get b=some (.cells true [ii (xE st.2)])/\N.get er=some (.cells true [ii (jO st.2)])/\aU M1 N u 1 (bE st.1.1)/\st.1.1.length<=st.1.2
structure BdO (q o b er oc mo:D4) (M1:NH):Prop where
 qo:q≠o
 qb:q≠b
 qe:q≠er
 ob:o≠b
 oe:o≠er
 be:b≠er
 oq:am M1 q
 oo:am M1 o
 ol:am M1 b
 om:am M1 er
 og:am M1 oc
 od:am M1 mo
 cc:oc∉ [q,o,b,er]
 cd:mo∉ [q,o,b,er]
theorem uF {q o b er oc mo:D4} {t:Tm} {M1 M M':NH} {u:NV} {L:List (List Nat)} {n:Nat} {r:Option (Int×Int)} (hO:BdO q o b er oc mo M1) (hC:Chg [q,o,b,er] M1 M) (hC':Chg [q,o,b,er] M M') (hq:M'.get q=some (.loop (O2 r) (PO r) t [D4.e.b.c] eU eX)) (ho:M'.get o=some (.cells true [u])) (hb:M'.get b=some (.cells true [ii (xE r)])) (he:M'.get er=some (.cells true [ii (jO r)])) (hu:aU M1 M u 1 (bE L)) (hl:L.length<=n):
 Q3 q o b er t M1 ((L,n),r) (q::o::b::er::ids u) M':=by
 refine ⟨u,rfl,hC.trans hC' fun _ h _=>h,hq,ho,hb,he,hu.chg hC' fun i hi=> ?_,hl⟩
 have hn:=hu.new i hi
 simp only[Rp,Rm,or_false,not_or]
 exact ⟨fun e=>hn (e▸hO.oq),fun e=>hn (e▸hO.oo),fun e=>hn (e▸hO.ol),fun e=>hn (e▸hO.om)⟩
theorem Ie {m0 M1:NH} {T:D4->Prop} {q o b er oc mo:D4} {t:Tm} {Z:List (List Nat)} (hO:BdO q o b er oc mo M1) (h1:NT.get D4.e.c t=some (.ptr oc 0)) (h2:NT.get D4.e.f t=some (.ptr b 0)) (h3:NT.get D4.e.a.a t=some (.ptr er 0)) (h4:NT.get D4.e.a.b t=some (.ptr o 0)) (hc:M1.get oc=some (.cells true [.map mo])) (hm:M1.get mo=some (.map (gh Z)))
 (h0:∀S,Chg [q,o,b,er] M1 S->Chg [] m0 S):Ylds q m0 T Rc (j6 Z) (Q3 q o b er t M1):=by
 refine ⟨?_, ?_, ?_, ?_⟩
 ·rintro s F N ⟨u,rfl,hC,-⟩;exact h0 _ hC
 ·rintro s F N ⟨u,rfl,hC,hq,ho,hb,he,hu,hl⟩ i hi
  simp only[Rp] at hi
  rcases hi with rfl|rfl|rfl|rfl|hi
  ·exact hC.old hO.oq
  ·exact hC.old hO.oo
  ·exact hC.old hO.ol
  ·exact hC.old hO.om
  ·exact hu.sl.old i hi
 ·rintro s F N N' ⟨u,rfl,hC,hq,ho,hb,he,hu,hl⟩ hC'
  exact ⟨u,rfl,hC.trans hC' (by simp),(hC'.get (hC.old hO.oq) (by simp)).trans hq,(hC'.get (hC.old hO.oo) (by simp)).trans ho,(hC'.get (hC.old hO.ol) (by simp)).trans hb,(hC'.get (hC.old hO.om) (by simp)).trans he,hu.chg hC' fun _ _=>by simp,hl⟩
 ·rintro ⟨⟨L,n⟩,r⟩ F N x c ⟨u,rfl,hC,hq,ho,hb,he,hu,hl⟩ hR ⟨hA0,hA1,hA2⟩
  cases hA0
  have hq:N.get q=some (.loop 0 .none t [D4.e.b.c] eU eX):=hq
  have hb:N.get b=some (.cells true [ii 0]):=hb
  have he:N.get er=some (.cells true [ii 0]):=he
  obtain ⟨w,rfl,hP⟩:=hR.inv'
  refine WY.ex1 fun K hK=> ?_
  refine WY.of_wp hq rfl eU.eq_1 eX.eq_1 ?_
  change wp _ _ _ _ ⟨ai [(D4.e.b.c,.agg (x.l w))] t, [],none,hp [] 0 N⟩ _
  have hl21:(x.l w).length=21:=rfl
  have hl21':(x.l w).take 21=x.l w:=rfl
  have oq:=hC.old hO.oq
  have oo:=hC.old hO.oo
  have ob:=hC.old hO.ol
  have oe:=hC.old hO.om
  have qo:=hO.qo
  have qo':=hO.qo.symm
  have qb:=hO.qb
  have qb':=hO.qb.symm
  have qe:=hO.qe
  have qe':=hO.qe.symm
  have obn:=hO.ob
  have obn':=hO.ob.symm
  have oen:=hO.oe
  have oen':=hO.oe.symm
  have ben:=hO.be
  have ben':=hO.be.symm
  have hcN:=(hC.get hO.og hO.cc).trans hc
  have hmN:=(hC.get hO.od hO.cd).trans hm
  have occ:=hC.old hO.og
  have omo:=hC.old hO.od
  simp (disch:=first|assumption|omega|(simp only[aI]<;>omega)) only[go_sem,seval,h1,h2,h3,h4,hq,ho,hl21,hl21']
  generalize hM2:hp _ 1 N=M2
  have hC2:Chg [q] N M2:=ba hM2 rfl
  have hcq:oc≠q:=fun e=>hO.cc (by simp[e])
  have hmq:mo≠q:=fun e=>hO.cd (by simp[e])
  have q2:M2.get q=some (.loop 1 .none t [D4.e.b.c] eU eX):=gL oq hM2
  have o2:M2.get o=some (.cells true [u]):=(hC2.get oo (by simpa using qo')).trans ho
  have e2:=(hC2.get oe (by simpa using qe')).trans he
  have b2:=(hC2.get ob (by simpa using qb')).trans hb
  have c2:=(hC2.get occ (by simpa using hcq)).trans hcN
  have d2:=(hC2.get omo (by simpa using hmq)).trans hmN
  have x2:M2.get (na N 0)=some (.cells true (x.l w)):=bz hM2
  have ox2:am M2 (na N 0):=bw hM2 (by omega)
  have hC02:Chg [] m0 M2:=h0 _ (hC.trans (hC2.weak (T:= [q,o,b,er]) (by simp)) fun _ h _=>h)
  refine WF.use (zI hR hC02 hA1) ?_
  rintro v3 M3 ⟨hv3,hC3⟩
  have hC23:=hC2.trans hC3 (by simp)
  have q3:=(hC3.get (hC2.old oq) (by simp)).trans q2
  have o3:=(hC3.get (hC2.old oo) (by simp)).trans o2
  have x3:=(hC3.get ox2 (by simp)).trans x2
  have hqu:q∉ids u:=fun h=>hu.new _ h hO.oq
  have hou:o∉ids u:=fun h=>hu.new _ h hO.oo
  have hbu:b∉ids u:=fun h=>hu.new _ h hO.ol
  have heu:er∉ids u:=fun h=>hu.new _ h hO.om
  have hu3:aU M1 M3 u 1 (bE L):=hu.chg hC23 fun i hi=>by simp;rintro rfl;exact hqu hi
  have hus:bj 4 u u=true:=hu.sl.same
  have ox3:=hC3.old ox2
  simp (disch:=first|assumption|omega|(simp only[aI]<;>omega)) only[go_sem,seval,h1,h2,h3,h4,q3,o3,x3,hl21,hl21',hus]
  refine WF.use1 (uY M3 [1,2,3] rfl rfl (by decide)) ?_
  intro M4 hC4
  have t3:(x.l w)[3]? =some (.str x.ce):=rfl
  have t1:(x.l w)[1]? =some (ii x.a):=rfl
  have oq3:=hC3.old (hC2.old oq)
  have q4:=(hC4.get oq3 (by simp)).trans q3
  have oq4:=hC4.old oq3
  have oo3:=hC3.old (hC2.old oo)
  have o4:=(hC4.get oo3 (by simp)).trans o3
  have oo4:=hC4.old oo3
  have hC24:=hC3.trans hC4 (by simp)
  have b4:=(hC24.get (hC2.old ob) (by simp)).trans b2
  have ob4:=hC24.old (hC2.old ob)
  have e4:=(hC24.get (hC2.old oe) (by simp)).trans e2
  have oe4:=hC24.old (hC2.old oe)
  have c4:=(hC24.get (hC2.old occ) (by simp)).trans c2
  have d4:=(hC24.get (hC2.old omo) (by simp)).trans d2
  have x4:=(hC4.get ox3 (by simp)).trans x3
  have ox4:=hC4.old ox3
  have hx1:na N 0≠b:=fun e=>ob.ne 0 e.symm
  have hx2:na N 0≠er:=fun e=>oe.ne 0 e.symm
  have hx3:na N 0≠q:=fun e=>oq.ne 0 e.symm
  have hx4:na N 0≠o:=fun e=>oo.ne 0 e.symm
  have hL:L.length<=n:=hl
  have hA2':n+x.own.length<=100000000:=hA2
  have hu4:aU M1 M4 u 1 (bE L):=hu3.chg hC4 fun _ _=>by simp
  have hv4:=hv3.chg hC4 fun _ _=>by simp
  have hN4:Chg [q] N M4:=hC23.trans hC4 (by simp)
  have hM14:Chg [q,o,b,er] M1 M4:=hC.trans (hN4.weak (T:= [q,o,b,er]) (by simp)) fun _ h _=>h
  have hxu:na N 0∉ids u:=fun h=>(hu.sl.old _ h).ne 0 rfl
  have stop:∀e:Int,j6 Z ((L,n),none) x=(((L,n),some (x.a,e)),false)->K (.bool false) (hp [(.o q,.loop 2 .ret t [D4.e.b.c] eU eX),(.o er,.cells true [ii e]),(.o b,.cells true [ii x.a])] 0 M4):=by
   intro e hf
   rw[hf] at hK
   generalize hM5:hp _ 0 M4=M5
   have hC5:Chg [q,er,b] M4 M5:=ba hM5 rfl
   have hC5':Chg [q,o,b,er] M4 M5:=hC5.weak (by simp)
   refine hK M5 ⟨_,uF hO hM14 hC5' ?_ ?_ ?_ ?_ hu4 hl, ?_,fun i hi=>Or.inl hi⟩
   ·rw[←hM5];exact (aF oq4).trans ap
   ·exact (hC5.get oo4 (by simp[qo',oen,obn])).trans o4
   ·rw[←hM5];exact (aF ob4).trans ((bh qb').trans ((bh ben).trans ap))
   ·rw[←hM5];exact (aF oe4).trans ((bh qe').trans ap)
   ·exact (hN4.weak (T:=q::o::b::er::ids u) (by simp)).trans hC5' (fun i h _=>by simp at h ⊢;rcases h with h|h|h|h<;>simp[h])
  by_cases hk:x.k=1∨x.k=2∨x.k=3
  ·rw[Rl (by simpa using hk:x.k∈ [1,2,3])]
   by_cases hz:x.ce∈Z
   ·have hz':decide (x.ce∈Z)=true:=Rl hz
    have hnz:¬((x.k=1∨x.k=2∨x.k=3)/\x.ce∉Z):=fun h=>h.2 hz
    by_cases hn:∃n∈x.own,n∈Z
    ·have cof:=zc hv4.sl c4 d4 (by omega)
     rw[Rl hn] at cof
     simp (disch:=first|assumption|omega) only[go_sem,seval,h1,h2,h3,h4,q4,o4,x4,c4,d4,b4,e4,hl21,hl21',hus,t3,t1,hz']
     refine WF.use1H ⟨M4,cof,rfl⟩ ?_
     rintro _ rfl
     simp (disch:=first|assumption|omega|(simp only[aI]<;>omega)) only[go_sem,seval,h1,h2,h3,h4,q4,o4,x4,c4,d4,b4,e4,hl21,hl21',hus,t3,t1]
     exact stop 6 (by unfold j6;rw[Ri hnz,Rj hn])
    ·have cof:=zc hv4.sl c4 d4 (by omega)
     rw[Rk hn] at cof
     simp (disch:=first|assumption|omega) only[go_sem,seval,h1,h2,h3,h4,q4,o4,x4,c4,d4,b4,e4,hl21,hl21',hus,t3,t1,hz',cof.wf']
     refine WF.use (wT hu4 hv4.sl (fun i hi hiu=>hv4.new i hi (hC2.old (hu.sl.old i hiu))) (fun i hi=>hC4.old (hC3.old (hC2.old (hC.old hi)))) (by show L.length+x.own.length<=_;omega)) ?_
     rintro v5 M5 ⟨hv5,hC5,hF5⟩
     have hq5:=(hC5.get oq4 hqu).trans q4
     have hoq5:=hC5.old oq4
     have ho5:=(hC5.get oo4 hou).trans o4
     have hoo5:=hC5.old oo4
     have hb5:=(hC5.get ob4 hbu).trans b4
     have hob5:=hC5.old ob4
     have he5:=(hC5.get oe4 heu).trans e4
     have hoe5:=hC5.old oe4
     have hx5:=(hC5.get ox4 hxu).trans x4
     have hox5:=hC5.old ox4
     have hlen5:=hv5.sl.len
     rw[List.length_map] at hlen5
     have hfl:=cr x.own L
     rw[←aa M5]
     have hM15:Chg [q,o,b,er] M1 M5:=hM14.trans hC5 fun i hi ho=>Rh ho (hu.new i hi)
     have hN5:Chg (q::o::b::er::ids u) N M5:=(hN4.weak (T:=q::o::b::er::ids u) (by simp)).trans hC5 fun i h _=>by simp[h]
     have hF:∀i∈q::o::b::er::ids v5,i∈q::o::b::er::ids u∨¬am N i:=by
      intro i hi
      simp only[Rp] at hi ⊢
      rcases hi with rfl|rfl|rfl|rfl|hi
      ·simp
      ·simp
      ·simp
      ·simp
      ·rcases hF5 i hi with h|h
       ·exact Or.inl (Or.inr (Or.inr (Or.inr (Or.inr h))))
       ·exact Or.inr fun ho=>h (hN4.old ho)
     by_cases h12:12<(x.own.foldl aL L).length
     ·have hf:j6 Z ((L,n),none) x=(((x.own.foldl aL L,n+x.own.length),some (x.a,3)),false):=by unfold j6;rw[Ri hnz,Ri hn,Rj h12]
      rw[hf] at hK
      simp (disch:=first|assumption|omega|(simp only[aI]<;>omega)) only[go_sem,seval,h1,h2,h3,h4,hq5,ho5,hx5,hb5,he5,hl21,hl21',t1,hv5.sl.one,hlen5,h12]
      generalize hM6:hp _ 0 M5=M6
      have hC6:Chg [q,er,b,o] M5 M6:=ba hM6 rfl
      have hC6':Chg [q,o,b,er] M5 M6:=hC6.weak (by simp)
      refine hK M6 ⟨_,uF hO hM15 hC6' ?_ ?_ ?_ ?_ hv5 (by show _<=n+_;have:L.length<=n:=hl;omega),hN5.trans hC6' (fun i h _=>by simp at h ⊢;rcases h with h|h|h|h<;>simp[h]),hF⟩
      ·rw[←hM6];exact (aF hoq5).trans ap
      ·rw[←hM6];exact (aF hoo5).trans ((bh qo').trans ((bh oen).trans ((bh obn).trans ap)))
      ·rw[←hM6];exact (aF hob5).trans ((bh qb').trans ((bh ben).trans ap))
      ·rw[←hM6];exact (aF hoe5).trans ((bh qe').trans ap)
     ·have hf:j6 Z ((L,n),none) x=(((x.own.foldl aL L,n+x.own.length),none),true):=by unfold j6;rw[Ri hnz,Ri hn,Ri h12]
      rw[hf] at hK
      simp (disch:=first|assumption|omega|(simp only[aI]<;>omega)) only[go_sem,seval,h1,h2,h3,h4,hq5,ho5,hx5,hb5,he5,hl21,hl21',t1,hv5.sl.one,hlen5,h12]
      generalize hM6:hp _ 0 M5=M6
      have hC6:Chg [q,o] M5 M6:=ba hM6 rfl
      have hC6':Chg [q,o,b,er] M5 M6:=hC6.weak (by simp)
      refine hK M6 ⟨_,uF hO hM15 hC6' ?_ ?_ ?_ ?_ hv5 (by show _<=n+_;have:L.length<=n:=hl;omega),hN5.trans hC6' (fun i h _=>by simp at h ⊢;rcases h with h|h|h|h<;>simp[h]),hF⟩
      ·rw[←hM6];exact (aF hoq5).trans ap
      ·rw[←hM6];exact (aF hoo5).trans ((bh qo').trans ap)
      ·exact (hC6.get hob5 (by simp[qb',obn'])).trans hb5
      ·exact (hC6.get hoe5 (by simp[qe',oen'])).trans he5
   ·have hz':decide (x.ce∈Z)=false:=Rk hz
    rw[←aa M4]
    simp (disch:=first|assumption|omega|(simp only[aI]<;>omega)) only[go_sem,seval,h1,h2,h3,h4,q4,o4,x4,c4,d4,b4,e4,hl21,hl21',hus,t3,t1,hz']
    exact stop 4 (by unfold j6;rw[Rj ⟨hk,hz⟩])
  ·rw[Rk (by simpa using hk:x.k∉ [1,2,3])]
   have hnz:¬((x.k=1∨x.k=2∨x.k=3)/\x.ce∉Z):=fun h=>hk h.1
   by_cases hn:∃n∈x.own,n∈Z
   ·have cof:=zc hv4.sl c4 d4 (by omega)
    rw[Rl hn] at cof
    simp (disch:=first|assumption|omega) only[go_sem,seval,h1,h2,h3,h4,q4,o4,x4,c4,d4,b4,e4,hl21,hl21',hus,t3,t1]
    refine WF.use1H ⟨M4,cof,rfl⟩ ?_
    rintro _ rfl
    simp (disch:=first|assumption|omega|(simp only[aI]<;>omega)) only[go_sem,seval,h1,h2,h3,h4,q4,o4,x4,c4,d4,b4,e4,hl21,hl21',hus,t3,t1]
    exact stop 6 (by unfold j6;rw[Ri hnz,Rj hn])
   ·have cof:=zc hv4.sl c4 d4 (by omega)
    rw[Rk hn] at cof
    simp (disch:=first|assumption|omega) only[go_sem,seval,h1,h2,h3,h4,q4,o4,x4,c4,d4,b4,e4,hl21,hl21',hus,t3,t1,cof.wf']
    refine WF.use (wT hu4 hv4.sl (fun i hi hiu=>hv4.new i hi (hC2.old (hu.sl.old i hiu))) (fun i hi=>hC4.old (hC3.old (hC2.old (hC.old hi)))) (by show L.length+x.own.length<=_;omega)) ?_
    rintro v5 M5 ⟨hv5,hC5,hF5⟩
    have hq5:=(hC5.get oq4 hqu).trans q4
    have hoq5:=hC5.old oq4
    have ho5:=(hC5.get oo4 hou).trans o4
    have hoo5:=hC5.old oo4
    have hb5:=(hC5.get ob4 hbu).trans b4
    have hob5:=hC5.old ob4
    have he5:=(hC5.get oe4 heu).trans e4
    have hoe5:=hC5.old oe4
    have hx5:=(hC5.get ox4 hxu).trans x4
    have hox5:=hC5.old ox4
    have hlen5:=hv5.sl.len
    rw[List.length_map] at hlen5
    have hfl:=cr x.own L
    rw[←aa M5]
    have hM15:Chg [q,o,b,er] M1 M5:=hM14.trans hC5 fun i hi ho=>Rh ho (hu.new i hi)
    have hN5:Chg (q::o::b::er::ids u) N M5:=(hN4.weak (T:=q::o::b::er::ids u) (by simp)).trans hC5 fun i h _=>by simp[h]
    have hF:∀i∈q::o::b::er::ids v5,i∈q::o::b::er::ids u∨¬am N i:=by
     intro i hi
     simp only[Rp] at hi ⊢
     rcases hi with rfl|rfl|rfl|rfl|hi
     ·simp
     ·simp
     ·simp
     ·simp
     ·rcases hF5 i hi with h|h
      ·exact Or.inl (Or.inr (Or.inr (Or.inr (Or.inr h))))
      ·exact Or.inr fun ho=>h (hN4.old ho)
    by_cases h12:12<(x.own.foldl aL L).length
    ·have hf:j6 Z ((L,n),none) x=(((x.own.foldl aL L,n+x.own.length),some (x.a,3)),false):=by unfold j6;rw[Ri hnz,Ri hn,Rj h12]
     rw[hf] at hK
     simp (disch:=first|assumption|omega|(simp only[aI]<;>omega)) only[go_sem,seval,h1,h2,h3,h4,hq5,ho5,hx5,hb5,he5,hl21,hl21',t1,hv5.sl.one,hlen5,h12]
     generalize hM6:hp _ 0 M5=M6
     have hC6:Chg [q,er,b,o] M5 M6:=ba hM6 rfl
     have hC6':Chg [q,o,b,er] M5 M6:=hC6.weak (by simp)
     refine hK M6 ⟨_,uF hO hM15 hC6' ?_ ?_ ?_ ?_ hv5 (by show _<=n+_;have:L.length<=n:=hl;omega),hN5.trans hC6' (fun i h _=>by simp at h ⊢;rcases h with h|h|h|h<;>simp[h]),hF⟩
     ·rw[←hM6];exact (aF hoq5).trans ap
     ·rw[←hM6];exact (aF hoo5).trans ((bh qo').trans ((bh oen).trans ((bh obn).trans ap)))
     ·rw[←hM6];exact (aF hob5).trans ((bh qb').trans ((bh ben).trans ap))
     ·rw[←hM6];exact (aF hoe5).trans ((bh qe').trans ap)
    ·have hf:j6 Z ((L,n),none) x=(((x.own.foldl aL L,n+x.own.length),none),true):=by unfold j6;rw[Ri hnz,Ri hn,Ri h12]
     rw[hf] at hK
     simp (disch:=first|assumption|omega|(simp only[aI]<;>omega)) only[go_sem,seval,h1,h2,h3,h4,hq5,ho5,hx5,hb5,he5,hl21,hl21',t1,hv5.sl.one,hlen5,h12]
     generalize hM6:hp _ 0 M5=M6
     have hC6:Chg [q,o] M5 M6:=ba hM6 rfl
     have hC6':Chg [q,o,b,er] M5 M6:=hC6.weak (by simp)
     refine hK M6 ⟨_,uF hO hM15 hC6' ?_ ?_ ?_ ?_ hv5 (by show _<=n+_;have:L.length<=n:=hl;omega),hN5.trans hC6' (fun i h _=>by simp at h ⊢;rcases h with h|h|h|h<;>simp[h]),hF⟩
     ·rw[←hM6];exact (aF hoq5).trans ap
     ·rw[←hM6];exact (aF hoo5).trans ((bh qo').trans ap)
     ·exact (hC6.get hob5 (by simp[qb',obn'])).trans hb5
     ·exact (hC6.get hoe5 (by simp[qe',oen'])).trans he5
theorem ON {Z:List (List Nat)} (l:List Stm):∀st:MI,st.2=none->(∀x∈l,x.sz<=100000000)->st.1.2+(l.flatMap Stm.own).length<=100000000->Al Rc (j6 Z) l st:=by
 induction l with
 |nil=>intro st _ _ _;trivial
 |cons x l ih=>
  intro st h0 h1 h2
  rw[List.flatMap_cons,List.length_append] at h2
  refine ⟨⟨h0,h1 x (List.mem_cons_self ..),by omega⟩,fun h=> ?_⟩
  have e:(j6 Z st x).1=((x.own.foldl aL st.1.1,st.1.2+x.own.length),none):=by
   unfold j6 at h ⊢
   split at h
   ·cases h
   ·split at h
    ·cases h
    ·split at h
     ·cases h
     ·rename_i a b c;rw[Ri a,Ri b,Ri c]
  rw[e]
  exact ih _ rfl (fun y hy=>h1 y (List.mem_cons_of_mem _ hy)) (by show st.1.2+_+_<=_;omega)
def eE (Z:List (List Nat)) (l:List Stm):Option (Int×Int):=(aW (j6 Z) (bg l) (([],0),none)).1.2
theorem IO {m0 m:NH} {T:D4->Prop} {v:NV} {l:List Stm} {C:List (List NV)} {mo:D4} {Z:List (List Nat)} (hS:SS m0 T v l C) (hC0:Chg [] m0 m) (hm:m.get mo=some (.map (gh Z))) (hmo:am m mo) (hsz:cI l<=10000000):
 ∃m',aS Tryz.prog S0 73 [v,.map mo] m (.tup [ii (xE (eE Z l)),ii (jO (eE Z l))]) m'/\Chg [] m m':=by
 refine WF.ex1 fun K hK=> ?_
 refine WF.of_wpM (fun _=>rfl) yE (L:= [(.a .e,.map mo),(.e,v)]) rfl ?_
 unfold KR
 simp (disch:=first|assumption|omega) only[go_sem,seval,(IE _ hS.sl.one).wf']
 generalize hM0:hp _ 4 m=M0
 have hC1:Chg [] m M0:=ba hM0 rfl
 have gc0:M0.get (na m 0)=some (.cells true [.map mo]):=bz hM0
 have gb0:M0.get (na m 1)=some (.cells true [ii 0]):=bz hM0
 have ge0:M0.get (na m 2)=some (.cells true [ii 0]):=bz hM0
 have go0:M0.get (na m 3)=some (.cells true [.nils]):=bz hM0
 have oc0:am M0 (na m 0):=bw hM0 (by omega)
 have ob0:am M0 (na m 1):=bw hM0 (by omega)
 have oe0:am M0 (na m 2):=bw hM0 (by omega)
 have oo0:am M0 (na m 3):=bw hM0 (by omega)
 have gm0:=(hC1.get hmo (by simp)).trans hm
 have om0:=hC1.old hmo
 generalize hM:hp [(.n 0,.cells true [v])] 1 M0=M
 have hC2:Chg [] M0 M:=ba hM rfl
 have gz:M.get (na M0 0)=some (.cells true [v]):=bz hM
 have oz:am M (na M0 0):=bw hM (by omega)
 have hCm:Chg [] m M:=hC1.trans hC2 (by simp)
 generalize ht:ai [(D4.e.b.b,NV.fn 133 [NV.ptr (na M0 0) 0]),(D4.e.b.a,v),(D4.e.a.b,NV.ptr (na m 3) 0),(D4.e.a.a,NV.ptr (na m 2) 0),(D4.e.f,NV.ptr (na m 1) 0),(D4.e.c,NV.ptr (na m 0) 0),(D4.e.a,NV.map mo),(D4.e,v)] NT.leaf=t
 have g1:NT.get D4.e.c t=some (.ptr (na m 0) 0):=by rw[←ht];simp (disch:=first|assumption|omega) only[go_sem,seval]
 have g2:NT.get D4.e.b.b t=some (.fn 133 [.ptr (na M0 0) 0]):=by rw[←ht];simp (disch:=first|assumption|omega) only[go_sem,seval]
 have g3:NT.get D4.e.f t=some (.ptr (na m 1) 0):=by rw[←ht];simp (disch:=first|assumption|omega) only[go_sem,seval]
 have g4:NT.get D4.e.a.a t=some (.ptr (na m 2) 0):=by rw[←ht];simp (disch:=first|assumption|omega) only[go_sem,seval]
 have g5:NT.get D4.e.a.b t=some (.ptr (na m 3) 0):=by rw[←ht];simp (disch:=first|assumption|omega) only[go_sem,seval]
 clear ht
 generalize hM1:hp [(.n 1,.loop 0 .none t [D4.e.b.c] eU eX),(.n 0,.defd true)] 2 M=M1
 have hG:Chg [] M M1:=ba hM1 rfl
 have oq:am M1 (na M 1):=bw hM1 (by omega)
 have om:am M1 (na M 0):=bw hM1 (by omega)
 have gq:M1.get (na M 1)=some (.loop 0 .none t [D4.e.b.c] eU eX):=bz hM1
 have gm:M1.get (na M 0)=some (.defd true):=bz hM1
 have hG2:Chg [] M0 M1:=hC2.trans hG (by simp)
 have hCm1:Chg [] m M1:=hCm.trans hG (by simp)
 have n01:∀{i:D4} {k:Nat},am M0 i->i≠na M k:=fun h=>(hC2.old h).ne _
 have nm:∀{j k:Nat},j≠k->na m j≠na m k:=fun h e=>h (j0 e)
 have hO:BdO (na M 1) (na m 3) (na m 1) (na m 2) (na m 0) mo M1:=by
  refine ⟨(n01 oo0).symm,(n01 ob0).symm,(n01 oe0).symm,nm (by omega),nm (by omega),nm (by omega),oq,hG2.old oo0,hG2.old ob0,hG2.old oe0,hG2.old oc0,hG2.old om0, ?_, ?_⟩
  ·simp only[Rp,Rm,or_false,not_or]
   exact ⟨n01 oc0,nm (by omega),nm (by omega),nm (by omega)⟩
  ·simp only[Rp,Rm,or_false,not_or]
   exact ⟨n01 om0,hmo.ne 3,hmo.ne 1,hmo.ne 2⟩
 have h0:∀S,Chg [na M 1,na m 3,na m 1,na m 2] M1 S->Chg [] m0 S:=fun S h=>(hC0.trans hCm1 (by simp)).trans h fun i hi ho=>by
  simp only[Rp,Rm,or_false] at hi
  rcases hi with rfl|rfl|rfl|rfl
  ·exact Rh (hCm.old (hC0.old ho)) az
  ·exact Rh (hC0.old ho) az
  ·exact Rh (hC0.old ho) az
  ·exact Rh (hC0.old ho) az
 have hY:=Ie (T:=T) hO g1 g3 g4 g5 ((hG2.get oc0 (by simp)).trans gc0) ((hG2.get om0 (by simp)).trans gm0) h0
 obtain ⟨hA1,hA2⟩:=kY l
 obtain ⟨m',hr,F',⟨u,rfl,hC3,hq3,ho3,hb3,he3,hu3,-⟩,hC4,-⟩:=Dg hY (s:=(([],0),none)) (F:= [na M 1,na m 3,na m 1,na m 2]) (id:=na M0 0) ((hG.get oz (by simp)).trans gz) hS ⟨.nils,rfl,(Chg.refl M1).weak (by simp),gq,(hG2.get oo0 (by simp)).trans go0,(hG2.get ob0 (by simp)).trans gb0,(hG2.get oe0 (by simp)).trans ge0,aU.nil,by simp⟩ (ON _ _ rfl (fun x hx=>by have:=hA1 x hx;omega) (by show 0+_<=_;omega)) (by omega)
 change m'.get _=some (.loop (O2 (eE Z l)) (PO (eE Z l)) _ _ _ _) at hq3
 change m'.get _=some (.cells true [ii (xE (eE Z l))]) at hb3
 change m'.get _=some (.cells true [ii (jO (eE Z l))]) at he3
 have hst:O2 (eE Z l)≠1:=by cases eE Z l<;>simp[O2]
 refine W.rangeJ g2 (hM1▸hr) hq3 hst ?_ (hC3.old oq)
 have gm3:m'.get (na M 0)=some (.defd true):=(hC3.get om (by
  simp only[Rp,Rm,or_false,not_or]
  exact ⟨fun e=>by have:=j0 e;omega,fun e=>n01 oo0 e.symm,fun e=>n01 ob0 e.symm,fun e=>n01 oe0 e.symm⟩)).trans gm
 have om3:=hC3.old om
 have ob3:=hC3.old (hG2.old ob0)
 have oe3:=hC3.old (hG2.old oe0)
 have hne:na M 0≠na M 1:=fun e=>by have:=j0 e;omega
 have n1:na m 1≠na M 1:=n01 ob0
 have n1':na m 1≠na M 0:=n01 ob0
 have n2:na m 2≠na M 1:=n01 oe0
 have n2':na m 2≠na M 0:=n01 oe0
 have n3:na m 1≠na m 2:=nm (by omega)
 have n3':na m 2≠na m 1:=nm (by omega)
 have fin:∀{S:List D4} {Me:NH},Chg S m' Me->(∀i∈S,i∈ [na M 1,na M 0,na m 1,na m 2])->Chg [] m Me:=by
  intro S Me hCe hS
  refine ((hCm1.weak (T:= [na M 1,na m 3,na m 1,na m 2,na M 0]) (by simp)).trans hC3 fun i h _=>by simp at h ⊢;rcases h with h|h|h|h<;>simp[h]).trans hCe (fun i h _=>by have:=hS i h;simp at this ⊢;rcases this with h|h|h|h<;>simp[h]) |>.weak fun i hi ho=> ?_
  simp only[Rp,Rm,or_false] at hi
  rcases hi with rfl|rfl|rfl|rfl|rfl
  ·exact Rh (hCm.old ho) az
  ·exact Rh ho az
  ·exact Rh ho az
  ·exact Rh ho az
  ·exact Rh (hCm.old ho) az
 have n1s:=n1'.symm
 have n2s:=n2'.symm
 have n1t:=n1.symm
 have n2t:=n2.symm
 have hne':=hne.symm
 cases hb:eE Z l with
 |none=>
  rw[hb] at hb3 he3 hK
  change ic _ _ (Ft .none) ⟨ai [] t,_,_,_⟩
  simp (disch:=first|assumption|omega|(simp only[aI]<;>omega)) only[go_sem,seval,Ft,g1,g3,g4,gm3,om3,hb3,he3]
  refine x6 ?_
  rw[xT]
  simp (disch:=first|assumption|omega) only[go_sem,seval,g1,g3,g4,gm3,om3,hb3,he3,ob3,oe3]
  refine hK _ ?_
  generalize hMe:hp _ 0 m'=Me
  have hCe:Chg [na M 0,na m 2,na m 1,na M 1] m' Me:=ba hMe rfl
  exact fin hCe (by simp)
 |some z=>
  obtain ⟨za,ze⟩:=z
  rw[hb] at hb3 he3 hK
  change ic _ _ (Ft .ret) ⟨ai [] t,_,_,_⟩
  simp (disch:=first|assumption|omega) only[go_sem,seval,Ft,g1,g3,g4,gm3,om3,hb3,he3]
  refine x6 ?_
  rw[xT]
  simp (disch:=first|assumption|omega) only[go_sem,seval,g1,g3,g4,gm3,om3,hb3,he3,ob3,oe3]
  refine hK _ ?_
  generalize hMe:hp _ 0 m'=Me
  have hCe:Chg [na M 0,na M 1] m' Me:=ba hMe rfl
  exact fin hCe (by simp)
def iC (Z:List (List Nat)) (r:List Stm):List (List Stm)->Int×Int
 | []=>(xE (eE Z r),jO (eE Z r))
 |b::l=>if jO (eE Z b)≠0 then (xE (eE Z b),jO (eE Z b)) else iC Z r l
def xG (p:Prg):List (List Nat):=(p.cs.map (·.1)).foldl aL []
def gl (p:Prg):Int×Int:=if mB p≠0 then (0,mB p) else iC (xG p) p.r (p.ts.map (·.2))
theorem Pe {m:NH} {T:D4->Prop} {p:Prg} {vc vt vr:NV} (h:RP m T p vc vt vr) (hs:p.cs.length<=1000000/\p.ts.length<=1000000) (hz:∀t∈p.ts,cI t.2<=10000000) (hr:cI p.r<=10000000):
 ∃m',aS Tryz.prog S0 43 [.agg [vc,vt,vr]] m (.tup [ii (gl p).1,ii (gl p).2]) m'/\Chg [] m m':=by
 refine WF.ex1 fun K hK=> ?_
 refine WF.of_wpG (fun _=>rfl) zC (L:= [(.e,.agg [vc,vt,vr])]) rfl ?_
 unfold Kr
 obtain ⟨hcs,hts⟩:=hs
 obtain ⟨Ct,hT⟩:=h.t
 obtain ⟨Cr,hR⟩:=h.r
 have hlc:=h.c.len
 rw[List.length_map] at hlc
 have hlt:=hT.sl.len
 rw[hT.len] at hlt
 generalize hM0:hp [(.n 0,.cells true [vc,vt,vr])] 1 m=M0
 have hC0:Chg [] m M0:=ba hM0 rfl
 have g0:M0.get (na m 0)=some (.cells true [vc,vt,vr]):=bz hM0
 have o0:am M0 (na m 0):=bw hM0 (by omega)
 obtain ⟨M1,hr1,hC1⟩:=Kx (h.stays (lF hC0 T)) ⟨hcs,hts⟩
 have g1:=(hC1.get o0 (by simp)).trans g0
 have o1:=hC1.old o0
 have hC01:Chg [] m M1:=hC0.trans hC1 (by simp)
 unfold gl at hK
 by_cases h0:mB p=0
 ·rw[h0] at hr1
  rw[Ri (by simp[h0])] at hK
  simp (disch:=first|assumption|omega|(simp only[aI]<;>omega)) only[go_sem,seval,hM0,g0,hr1.wf,g1,hlc]
  generalize hM2:hp _ 1 M1=M2
  have hC2:Chg [] M1 M2:=ba hM2 rfl
  have gm2:M2.get (na M1 0)=some (.map (gh [])):=bz hM2
  have om2:am M2 (na M1 0):=bw hM2 (by omega)
  have hC02:=hC01.trans hC2 (by simp)
  have g2:=(hC2.get o1 (by simp)).trans g1
  have o2:=hC2.old o1
  have hnm:na m 0≠na M1 0:=o1.ne 0
  refine W.loop (fun k d=>∃t M i,d=⟨t, [],none,M⟩/\NT.get D4.e.a t=some (.ptr (na m 0) 0)/\NT.get D4.e.a.a t=some (.map (na M1 0))/\NT.get D4.e.f.c t=some vc/\NT.get D4.e.f.f t=some (ii p.cs.length)/\NT.get D4.e.a.a.a t=some (ii (i:Nat))/\i+k=p.cs.length/\M.get (na M1 0)=some (.map (gh (((p.cs.map (·.1)).take i).foldl aL [])))/\Chg [na M1 0] M2 M) ?_ p.cs.length _ ⟨_,M2,0,rfl,by simp only[go_sem,seval],by simp only[go_sem,seval],by simp only[go_sem,seval],by simp only[go_sem,seval],by simp only[go_sem,seval]<;>rfl,by omega,gm2,(Chg.refl M2).weak (by simp)⟩
  rintro k d ⟨t,M,i,rfl,a1,a2,a3,a4,a5,hik,gm,hC⟩
  apply ao
  unfold yR
  change wp _ _ _ _ ⟨ai [] t, [],none,M⟩ _
  have omM:=hC.old om2
  have gM:=(hC.get o2 (by simpa using hnm)).trans g2
  have oM:=hC.old o2
  have hC0M:Chg [] m M:=hC02.trans hC fun i hi ho=>by
   have hi:=one hi;subst hi;exact Rh (hC01.old ho) az
  rw[←aa M]
  by_cases hi:i<p.cs.length
  ·obtain ⟨id,off,wr,c,b1,b2,b3,b4,b5⟩:=h.c.at i (by simpa using hi)
   rw[List.getElem_map] at b5
   have b2':=(hC0M.get b3 (by simp)).trans b2
   have b3':=hC0M.old b3
   have htk:(p.cs.map (·.1)).take (i+1)=(p.cs.map (·.1)).take i++ [p.cs[i].1]:=by
    rw[List.take_add_one,List.getElem?_map,List.getElem?_eq_getElem hi];rfl
   simp (disch:=first|assumption|omega|(simp only[aI]<;>omega)) only[go_sem,seval,a1,a2,a3,a4,a5,b1,b2',b5,gm]
   generalize hM3:hp _ 1 M=M3
   have hC3:Chg [na M1 0] M M3:=ba hM3 rfl
   refine ⟨k - 1,by omega,_,M3,i+1,by rfl,by simp only[go_sem,seval,a1],by simp only[go_sem,seval,a2],by simp only[go_sem,seval,a3],by simp only[go_sem,seval,a4],by simp only[go_sem,seval]<;>rfl,by omega, ?_,hC.trans hC3 fun _ h _=>h⟩
   rw[htk,List.foldl_append,←hM3]
   exact (aF omM).trans ap
  ·rw[List.take_of_length_le (by simp;omega)] at gm
   simp (disch:=first|assumption|omega) only[go_sem,seval,a1,a2,a3,a4,a5,gM,hlt,aa]
   generalize hZ:xG p=Z at hK
   rw[show (p.cs.map (·.1)).foldl aL []=Z from hZ] at gm
   refine W.loop (fun k d=>∃t N i,d=⟨t, [],none,N⟩/\NT.get D4.e.a t=some (.ptr (na m 0) 0)/\NT.get D4.e.a.a t=some (.map (na M1 0))/\NT.get D4.e.a.c.b t=some vt/\NT.get D4.e.a.c.c t=some (ii p.ts.length)/\NT.get D4.e.a.c.f t=some (ii (i:Nat))/\i+k=p.ts.length/\iC Z p.r ((p.ts.map (·.2)).drop i)=iC Z p.r (p.ts.map (·.2))/\Chg [] M N) ?_ p.ts.length _ ⟨_,M,0,rfl,by simp only[go_sem,seval,a1],by simp only[go_sem,seval,a2],by simp only[go_sem,seval],by simp only[go_sem,seval],by simp only[go_sem,seval]<;>rfl,by omega,rfl,Chg.refl M⟩
   clear a1 a2 a3 a4 a5 hik
   rintro k d ⟨t,N,i,rfl,a1,a2,a3,a4,a5,hik,hE,hC⟩
   apply ao
   unfold At
   change wp _ _ _ _ ⟨ai [] t, [],none,N⟩ _
   have gN:=(hC.get oM (by simp)).trans gM
   have hC0N:=hC0M.trans hC (by simp)
   have gmN:=(hC.get omM (by simp)).trans gm
   have omN:=hC.old omM
   rw[←aa N]
   by_cases hi:i<p.ts.length
   ·obtain ⟨vb,B,id,off,wr,c,hSb,b1,b2,b3,b4,b5⟩:=hT.at i hi
    have b2':=(hC0N.get b3 (by simp)).trans b2
    have b3':=hC0N.old b3
    have hzi:=hz _ (List.getElem_mem hi)
    rw[List.drop_eq_getElem_cons (by simpa using hi),List.getElem_map,iC] at hE
    simp (disch:=first|assumption|omega|(simp only[aI]<;>omega)) only[go_sem,seval,a1,a2,a3,a4,a5,b1,b2',b5]
    generalize hN1:hp _ 1 N=N1
    have hC1':Chg [] N N1:=ba hN1 rfl
    obtain ⟨N2,hr2,hC2'⟩:=IO hSb (hC0N.trans hC1' (by simp)) ((hC1'.get omN (by simp)).trans gmN) (hC1'.old omN) hzi
    have hCN2:=hC1'.trans hC2' (by simp)
    by_cases he:jO (eE Z p.ts[i].2)=0
    ·rw[Ri (by simp[he])] at hE
     rw[he] at hr2
     simp (config:={maxSteps:=1000000}) (disch:=first|assumption|omega|(apply bv;omega)|(apply bJ;assumption)|(simp only[aI]<;>omega)) only[go_sem,seval,hr2.wf',a1,a2,a3,a4,a5]
     exact ⟨k - 1,by omega,_,N2,i+1,by rfl,by simp only[go_sem,seval,a1],by simp only[go_sem,seval,a2],by simp only[go_sem,seval,a3],by simp only[go_sem,seval,a4],by simp only[go_sem,seval]<;>rfl,by omega,hE,hC.trans hCN2 (by simp)⟩
    ·rw[Rj he] at hE
     rw[←hE] at hK
     simp (config:={maxSteps:=1000000}) (disch:=first|assumption|omega|(apply bv;omega)|(apply bJ;assumption)|(simp only[aI]<;>omega)) only[go_sem,seval,hr2.wf',a1,a2,a3,a4,a5,he]
     exact hK _ (hC0N.trans hCN2 (by simp))
   ·rw[List.drop_of_length_le (by simp;omega),iC] at hE
    rw[←hE] at hK
    obtain ⟨N2,hr2,hC2'⟩:=IO hR hC0N gmN omN hr
    simp (disch:=first|assumption|omega) only[go_sem,seval,a1,a2,a3,a4,a5,gN,aa,hr2.wf']
    exact hK _ (hC0N.trans hC2' (by simp))
 ·rw[Rj h0] at hK
  simp (disch:=first|assumption|omega|(simp only[aI]<;>omega)) only[go_sem,seval,hM0,g0,hr1.wf',h0]
  exact hK _ hC01
end FR
