/- Contracts of functions that the law SourceCounts reaches, part 0. -/
import Derived.Test.YtcpilcplobihkaaScc
set_option linter.unusedSimpArgs false
set_option linter.unusedVariables false
open Go Nm Go.Proofs
namespace FR
theorem one {a b:D4} (h:a∈ [b]):a=b:=by simpa using h
section
variable {l:List (AK×NO)} {k j:Nat} {m M:NH} {id:D4} {o:NO} {S:List D4}
theorem jO (ho:am m id) (h:hp ((.o id,o)::l) k m=M):M.get id=some o:=by rw[←h];exact (aJ ho).trans au
theorem pk (h:hp l k m=M) (hs:∀i,i∈aE l->am m i->i∈S):Chg S m M:=by rw[←h];exact (eA _ _ _).weak hs
theorem bh (h:hp l k m=M) (hs:aE l=S):Chg S m M:=by rw[←h];exact aF hs
theorem bL (h:hp l k m=M) (hj:j<k):am M (na m j):=by rw[←h];exact bW hj
theorem bM (h:hp l k m=M):M.get (na m j)=js j l (m.get (na m j)):=by rw[←h];exact bP
end
abbrev u8 (c:Nat):NV:= .int .u8 (.lit (c:Int))
abbrev u64 (n:Nat):NV:= .int .u64 (.lit (n:Int))
inductive Ex where
 |mk (k:Int) (n o:Nat) (s:List Nat) (ks:List Ex)
inductive Stm where
 |mk (k a:Int) (nm ce:List Nat) (i x y:Ex) (b e:List Stm)
theorem Ex.ind {P:Ex->Prop} (h:∀k n o s ks,(∀x∈ks,P x)->P (.mk k n o s ks)):∀x,P x
 | .mk k n o s ks=>h k n o s ks fun x _=>Ex.ind h x
theorem Stm.ind {P:Stm->Prop} (h:∀k a nm ce i x y b e,(∀s∈b,P s)->(∀s∈e,P s)->P (.mk k a nm ce i x y b e)):∀s,P s
 | .mk k a nm ce i x y b e=>h k a nm ce i x y b e (fun s _=>Stm.ind h s) (fun s _=>Stm.ind h s)
inductive RE (m:NH) (T:D4->Prop):Ex->List NV->Prop
 |mk {k:Int} {n o:Nat} {s:List Nat} {ks:List Ex} {v:NV} {C:List (List NV)} (hv:Sl m v 5 C) (hT:∀i∈ids v,T i) (hl:C.length=ks.length) (h:∀(i:Nat) (x:Ex) (c:List NV),ks[i]? =some x->C[i]? =some c->RE m T x c):
  RE m T (.mk k n o s ks) [ii k,u64 n,u8 o,.str s,v]
inductive RS (m:NH) (T:D4->Prop):Stm->List NV->Prop
 |mk {k a:Int} {nm ce:List Nat} {i x y:Ex} {b e:List Stm} {ci cx cy:List NV} {vb ve:NV} {B E:List (List NV)} (hi:RE m T i ci) (hx:RE m T x cx) (hy:RE m T y cy)
  (hb:Sl m vb 21 B) (hbT:∀i∈ids vb,T i) (hbl:B.length=b.length) (hbR:∀(j:Nat) (s:Stm) (c:List NV),b[j]? =some s->B[j]? =some c->RS m T s c)
  (he:Sl m ve 21 E) (heT:∀i∈ids ve,T i) (hel:E.length=e.length) (heR:∀(j:Nat) (s:Stm) (c:List NV),e[j]? =some s->E[j]? =some c->RS m T s c):
  RS m T (.mk k a nm ce i x y b e) ([ii k,ii a,.str nm,.str ce]++ci++cx++cy++ [vb,ve])
def aS (T:D4->Prop) (m m':NH):Prop:=∀i,T i->am m i->m'.get i=m.get i/\am m' i
theorem wE {m m':NH} (h:Chg [] m m') (T:D4->Prop):aS T m m':=fun _ _ ho=>⟨h.get ho (by simp),h.old ho⟩
theorem aS.of {S:List D4} {m m':NH} {T:D4->Prop} (h:Chg S m m') (hT:∀i,T i->i∉S):aS T m m':=fun i hi ho=>⟨h.get ho (hT i hi),h.old ho⟩
theorem fy {m M:NH} {l:List (AK×NO)} {k:Nat} (h:Chg [] m M) (e:aE l= []):Chg [] m (hp l k M):=h.trans (aF e) (by simp)
theorem fe {m m':NH} {T:D4->Prop} {v:NV} {e:Nat} {C:List (List NV)} (h:Sl m v e C) (hT:∀i∈ids v,T i) (hs:aS T m m'):Sl m' v e C:=by
 obtain ⟨h0,⟨rfl,rfl⟩|⟨id,off,kc,w,c,rfl,h1,h2,h3,h4⟩⟩:=h
 ·exact ⟨h0,Or.inl ⟨rfl,rfl⟩⟩
 ·obtain ⟨g1,g2⟩:=hs id (hT id (List.mem_cons_self ..)) h2
  exact ⟨h0,Or.inr ⟨id,off,kc,w,c,rfl,g1.trans h1,g2,h3,h4⟩⟩
theorem RE.stays {m m':NH} {T:D4->Prop} (hs:aS T m m') {x:Ex} {c:List NV} (h:RE m T x c):RE m' T x c:=by
 induction h with
 |mk hv hT hl h ih=>exact .mk (fe hv hT hs) hT hl ih
theorem RE.weak {m:NH} {T T':D4->Prop} (hT':∀i,T i->T' i) {x:Ex} {c:List NV} (h:RE m T x c):RE m T' x c:=by
 induction h with
 |mk hv hT hl h ih=>exact .mk hv (fun i hi=>hT' i (hT i hi)) hl ih
theorem RS.stays {m m':NH} {T:D4->Prop} (hs:aS T m m') {x:Stm} {c:List NV} (h:RS m T x c):RS m' T x c:=by
 induction h with
 |mk hi hx hy hb hbT hbl hbR he heT hel heR ih1 ih2=>exact .mk (hi.stays hs) (hx.stays hs) (hy.stays hs) (fe hb hbT hs) hbT hbl ih1 (fe he heT hs) heT hel ih2
theorem RS.weak {m:NH} {T T':D4->Prop} (hT':∀i,T i->T' i) {x:Stm} {c:List NV} (h:RS m T x c):RS m T' x c:=by
 induction h with
 |mk hi hx hy hb hbT hbl hbR he heT hel heR ih1 ih2=>exact .mk (hi.weak hT') (hx.weak hT') (hy.weak hT') hb (fun i q=>hT' i (hbT i q)) hbl ih1 he (fun i q=>hT' i (heT i q)) hel ih2
structure SE (m:NH) (T:D4->Prop) (v:NV) (l:List Ex) (C:List (List NV)):Prop where
 sl:Sl m v 5 C
 hT:∀i∈ids v,T i
 len:C.length=l.length
 R:∀(i:Nat) (x:Ex) (c:List NV),l[i]? =some x->C[i]? =some c->RE m T x c
structure SS (m:NH) (T:D4->Prop) (v:NV) (l:List Stm) (C:List (List NV)):Prop where
 sl:Sl m v 21 C
 hT:∀i∈ids v,T i
 len:C.length=l.length
 R:∀(i:Nat) (x:Stm) (c:List NV),l[i]? =some x->C[i]? =some c->RS m T x c
theorem RE.inv {m:NH} {T:D4->Prop} {k:Int} {n o:Nat} {s:List Nat} {ks:List Ex} {c:List NV} (h:RE m T (.mk k n o s ks) c):∃v C,c= [ii k,u64 n,u8 o,.str s,v]/\SE m T v ks C:=by
 cases h with
 |mk hv hT hl h=>exact ⟨_,_,rfl,hv,hT,hl,h⟩
theorem RE.of {m:NH} {T:D4->Prop} {k:Int} {n o:Nat} {s:List Nat} {ks:List Ex} {v:NV} {C:List (List NV)} (h:SE m T v ks C):RE m T (.mk k n o s ks) [ii k,u64 n,u8 o,.str s,v]:= .mk h.sl h.hT h.len h.R
theorem RE.len {m:NH} {T:D4->Prop} {x:Ex} {c:List NV} (h:RE m T x c):c.length=5:=by cases h;rfl
theorem RS.len {m:NH} {T:D4->Prop} {x:Stm} {c:List NV} (h:RS m T x c):c.length=21:=by
 cases h with
 |mk hi hx hy=>simp[hi.len,hx.len,hy.len]
def Ex.k:Ex->Int| .mk k _ _ _ _=>k
def Ex.n:Ex->Nat| .mk _ n _ _ _=>n
def Ex.o:Ex->Nat| .mk _ _ o _ _=>o
def Ex.s:Ex->List Nat| .mk _ _ _ s _=>s
def Ex.ks:Ex->List Ex| .mk _ _ _ _ ks=>ks
abbrev Ex.l (x:Ex) (v:NV):List NV:= [ii x.k,u64 x.n,u8 x.o,.str x.s,v]
theorem RE.inv' {m:NH} {T:D4->Prop} {x:Ex} {c:List NV} (h:RE m T x c):∃v C,c=x.l v/\SE m T v x.ks C:=by
 cases x;exact h.inv
theorem RS.inv {m:NH} {T:D4->Prop} {k a:Int} {nm ce:List Nat} {i x y:Ex} {b e:List Stm} {c:List NV} (h:RS m T (.mk k a nm ce i x y b e) c):
 ∃vi vx vy vb ve B E,c= [ii k,ii a,.str nm,.str ce,ii i.k,u64 i.n,u8 i.o,.str i.s,vi,ii x.k,u64 x.n,u8 x.o,.str x.s,vx,ii y.k,u64 y.n,u8 y.o,.str y.s,vy,vb,ve]/\
  RE m T i (i.l vi)/\RE m T x (x.l vx)/\RE m T y (y.l vy)/\SS m T vb b B/\SS m T ve e E:=by
 cases h with
 |mk hi hx hy hb hbT hbl hbR he heT hel heR=>
  obtain ⟨vi,Ci,rfl,-⟩:=hi.inv'
  obtain ⟨vx,Cx,rfl,-⟩:=hx.inv'
  obtain ⟨vy,Cy,rfl,-⟩:=hy.inv'
  exact ⟨vi,vx,vy,_,_,_,_,rfl,hi,hx,hy,⟨hb,hbT,hbl,hbR⟩,⟨he,heT,hel,heR⟩⟩
theorem SE.stays {m m':NH} {T:D4->Prop} (hs:aS T m m') {v:NV} {l:List Ex} {C:List (List NV)} (h:SE m T v l C):SE m' T v l C:=⟨fe h.sl h.hT hs,h.hT,h.len,fun i x c a b=>(h.R i x c a b).stays hs⟩
theorem SS.stays {m m':NH} {T:D4->Prop} (hs:aS T m m') {v:NV} {l:List Stm} {C:List (List NV)} (h:SS m T v l C):SS m' T v l C:=⟨fe h.sl h.hT hs,h.hT,h.len,fun i x c a b=>(h.R i x c a b).stays hs⟩
theorem SE.at {m:NH} {T:D4->Prop} {v:NV} {l:List Ex} {C:List (List NV)} (h:SE m T v l C) (i:Nat) (hi:i<l.length):∃c,C[i]? =some c/\RE m T l[i] c:=by
 have hc:i<C.length:=by rw[h.len];exact hi
 exact ⟨C[i],List.getElem?_eq_getElem hc,h.R i _ _ (List.getElem?_eq_getElem hi) (List.getElem?_eq_getElem hc)⟩
theorem SS.at {m:NH} {T:D4->Prop} {v:NV} {l:List Stm} {C:List (List NV)} (h:SS m T v l C) (i:Nat) (hi:i<l.length):∃c,C[i]? =some c/\RS m T l[i] c:=by
 have hc:i<C.length:=by rw[h.len];exact hi
 exact ⟨C[i],List.getElem?_eq_getElem hc,h.R i _ _ (List.getElem?_eq_getElem hi) (List.getElem?_eq_getElem hc)⟩
def zE:Ex:= .mk 0 0 0 [] []
theorem z9 (m:NH) (T:D4->Prop) (k:Int) (n o:Nat) (s:List Nat):RE m T (.mk k n o s []) [ii k,u64 n,u8 o,.str s,.nils]:= .mk (C:= []) Sl.nil (by simp[ids]) rfl (by simp)
structure SV where
 (vi vx vy vb ve:NV)
def Stm.k:Stm->Int| .mk k _ _ _ _ _ _ _ _=>k
def Stm.a:Stm->Int| .mk _ a _ _ _ _ _ _ _=>a
def Stm.nm:Stm->List Nat| .mk _ _ s _ _ _ _ _ _=>s
def Stm.ce:Stm->List Nat| .mk _ _ _ s _ _ _ _ _=>s
def Stm.i:Stm->Ex| .mk _ _ _ _ x _ _ _ _=>x
def Stm.x:Stm->Ex| .mk _ _ _ _ _ x _ _ _=>x
def Stm.y:Stm->Ex| .mk _ _ _ _ _ _ x _ _=>x
def Stm.b:Stm->List Stm| .mk _ _ _ _ _ _ _ b _=>b
def Stm.e:Stm->List Stm| .mk _ _ _ _ _ _ _ _ e=>e
abbrev Stm.l (s:Stm) (w:SV):List NV:= [ii s.k,ii s.a,.str s.nm,.str s.ce,ii s.i.k,u64 s.i.n,u8 s.i.o,.str s.i.s,w.vi,ii s.x.k,u64 s.x.n,u8 s.x.o,.str s.x.s,w.vx,ii s.y.k,u64 s.y.n,u8 s.y.o,.str s.y.s,w.vy,w.vb,w.ve]
structure SP (m:NH) (T:D4->Prop) (s:Stm) (w:SV):Prop where
 i:RE m T s.i (s.i.l w.vi)
 x:RE m T s.x (s.x.l w.vx)
 y:RE m T s.y (s.y.l w.vy)
 b:∃B,SS m T w.vb s.b B
 e:∃E,SS m T w.ve s.e E
theorem RS.inv' {m:NH} {T:D4->Prop} {s:Stm} {c:List NV} (h:RS m T s c):∃w,c=s.l w/\SP m T s w:=by
 cases s
 obtain ⟨vi,vx,vy,vb,ve,B,E,rfl,h1,h2,h3,h4,h5⟩:=h.inv
 exact ⟨⟨vi,vx,vy,vb,ve⟩,rfl,h1,h2,h3,⟨B,h4⟩,⟨E,h5⟩⟩
abbrev oK (l:List (List Nat×Int)):List (List NV):=l.map fun c=> [.str c.1,ii c.2]
structure Ths (m:NH) (T:D4->Prop) (v:NV) (l:List (List Nat×List Stm)) (C:List (List NV)):Prop where
 sl:Sl m v 2 C
 hT:∀i∈ids v,T i
 len:C.length=l.length
 R:∀(i:Nat) (x:List Nat×List Stm) (c:List NV),l[i]? =some x->C[i]? =some c->∃vb B,c= [.str x.1,vb]/\SS m T vb x.2 B
theorem Ths.stays {m m':NH} {T:D4->Prop} (hs:aS T m m') {v:NV} {l:List (List Nat×List Stm)} {C:List (List NV)} (h:Ths m T v l C):Ths m' T v l C:=
 ⟨fe h.sl h.hT hs,h.hT,h.len,fun i x c a b=>by obtain ⟨vb,B,e,h⟩:=h.R i x c a b;exact ⟨vb,B,e,h.stays hs⟩⟩
theorem Ths.at {m:NH} {T:D4->Prop} {v:NV} {l:List (List Nat×List Stm)} {C:List (List NV)} (h:Ths m T v l C) (i:Nat) (hi:i<l.length):∃vb B id off w c,SS m T vb l[i].2 B/\jh 2 v (.int .i64 (.lit (i:Int)))= .val (.ptr id off)/\m.get id=some (.cells w c)/\am m id/\off+2<=c.length/\(c.drop off).take 2= [.str l[i].1,vb]:=by
 have hc:i<C.length:=by rw[h.len];exact hi
 obtain ⟨vb,B,e,hS⟩:=h.R i _ _ (List.getElem?_eq_getElem hi) (List.getElem?_eq_getElem hc)
 obtain ⟨id,off,w,c,a1,a2,a3,a4,a5⟩:=h.sl.at i hc
 exact ⟨vb,B,id,off,w,c,hS,a1,a2,a3,a4,a5.trans e⟩
structure Prg where
 cs:List (List Nat×Int)
 ts:List (List Nat×List Stm)
 r:List Stm
structure RP (m:NH) (T:D4->Prop) (p:Prg) (vc vt vr:NV):Prop where
 c:Sl m vc 2 (oK p.cs)
 cT:∀i∈ids vc,T i
 t:∃C,Ths m T vt p.ts C
 r:∃C,SS m T vr p.r C
theorem RP.stays {m m':NH} {T:D4->Prop} (hs:aS T m m') {p:Prg} {vc vt vr:NV} (h:RP m T p vc vt vr):RP m' T p vc vt vr:=
 ⟨fe h.c h.cT hs,h.cT,let ⟨C,q⟩:=h.t;⟨C,q.stays hs⟩,let ⟨C,q⟩:=h.r;⟨C,q.stays hs⟩⟩
mutual
def Ex.names:Ex->List (List Nat)
 | .mk k _ _ s ks=>if k=1 then [s] else if k=2 then cg ks else []
def cg:List Ex->List (List Nat)
 | []=> []
 |x::xs=>x.names++cg xs
end
mutual
def Stm.all:Stm->List Stm
 | .mk k a nm ce i x y b e=> .mk k a nm ce i x y b e::((if k=6∨k=7 then bC b else [])++(if k=6 then bC e else []))
def bC:List Stm->List Stm
 | []=> []
 |s::l=>s.all++bC l
end
def Stm.own:Stm->List (List Nat)
 | .mk k _ nm _ i x y _ _=>(if k=0∨k=1∨k=3 then [nm] else [])++((if k=1∨k=2∨k=3 then i.names else [])++((if k=0∨k=2∨k=3∨k=5∨k=6∨k=7 then x.names else [])++(if k=3 then y.names else [])))
def locals (l:List Stm):List (List Nat):=((bC l).flatMap Stm.own).foldl cC []
mutual
def Ex.sz:Ex->Nat
 | .mk _ _ _ _ ks=>1+jY ks
def jY:List Ex->Nat
 | []=>0
 |x::xs=>x.sz+jY xs
end
mutual
def Stm.sz:Stm->Nat
 | .mk _ _ _ _ i x y b e=>1+i.sz+x.sz+y.sz+cZ b+cZ e
def cZ:List Stm->Nat
 | []=>0
 |s::l=>s.sz+cZ l
end
theorem ID (x:Ex):1<=x.sz:=by cases x;rw[Ex.sz];omega
theorem rC (ks:List Ex):ks.length<=jY ks:=by
 induction ks with
 |nil=>simp
 |cons x ks ih=>have:=ID x;rw[jY,List.length_cons];omega
theorem FA (x:Stm):1<=x.sz:=by cases x;rw[Stm.sz];omega
theorem rz (ks:List Stm):ks.length<=cZ ks:=by
 induction ks with
 |nil=>simp
 |cons x ks ih=>have:=FA x;rw[cZ,List.length_cons];omega
theorem fm:∀x:Ex,x.names.length<=x.sz:=by
 apply Ex.ind
 intro k n o s ks ih
 rw[Ex.names,Ex.sz]
 have:∀ks:List Ex,(∀x∈ks,x.names.length<=x.sz)->(cg ks).length<=jY ks:=by
  intro ks
  induction ks with
  |nil=>intro _;simp[cg]
  |cons x xs ih=>
   intro h
   have h1:=h x (List.mem_cons_self ..)
   have h2:=ih fun y hy=>h y (List.mem_cons_of_mem _ hy)
   rw[cg,jY,List.length_append];omega
 have:=this ks ih
 split
 ·simp
 ·split
  ·omega
  ·simp
theorem pu (a b:List Ex):cg (a++b)=cg a++cg b:=by
 induction a with
 |nil=>rfl
 |cons x a ih=>rw[List.cons_append,cg,cg,ih,List.append_assoc]
theorem lM (a b:List Stm):bC (a++b)=bC a++bC b:=by
 induction a with
 |nil=>rfl
 |cons x a ih=>rw[List.cons_append,bC,bC,ih,List.append_assoc]
noncomputable def S0:Nat->List NV->Option NV:=L0 31 [] (.bool true)<|Nd
abbrev rT (l:List Int):List (List NV):=l.map fun z=> [ii z]
abbrev cM (l:List (List Nat)):List (List NV):=l.map fun s=> [.str s]
def cN {α:Type} [DecidableEq α] (l:List α) (x:α):Int:=match l.findIdx? (fun a=>decide (x=a)) with|some i=>(i:Int)|none=>-1
theorem ga {α:Type} [DecidableEq α] {l:List α} {x:α} {i:Nat} (hi:i<l.length) (h:x=l[i]) (hn:∀j (hj:j<i),x≠l[j]'(by omega)):cN l x=i:=by
 unfold cN
 rw[List.findIdx?_eq_some_iff_getElem.mpr ⟨hi,by simp[h],fun j hj=>by simpa using hn j hj⟩]
theorem iV {α:Type} [DecidableEq α] {l:List α} {x:α} (hn:∀j (hj:j<l.length),x≠l[j]):cN l x=-1:=by
 unfold cN
 rw[List.findIdx?_eq_none_iff.mpr]
 intro y hy
 obtain ⟨j,hj,rfl⟩:=List.getElem_of_mem hy
 simpa using hn j hj
theorem nD {α:Type} [DecidableEq α] {l:List α} {x:α}:0<=cN l x↔x∈l:=by
 constructor
 ·intro h
  rcases Decidable.em (x∈l) with q|q
  ·exact q
  ·rw[iV fun j hj e=>q (by rw[e];exact List.getElem_mem hj)] at h;omega
 ·intro h
  unfold cN
  cases hf:l.findIdx? (fun a=>decide (x=a)) with
  |some i=>dsimp only;omega
  |none=>have:=List.findIdx?_eq_none_iff.mp hf x h;simp at this
theorem qQ {α:Type} [DecidableEq α] {l:List α} {x:α}:cN l x<l.length/\-1<=cN l x:=by
 unfold cN
 cases hf:l.findIdx? (fun a=>decide (x=a)) with
 |some i=>obtain ⟨h,-⟩:=List.findIdx?_eq_some_iff_getElem.mp hf;dsimp only;omega
 |none=>dsimp only;omega
theorem As {m:NH} {v:NV} {l:List Int} (hv:Sl m v 1 (rT l)) (hsz:l.length<=1099511627776) (x:Int):bp Try.prog S0 115 [v,ii x] m (ii (cN l x)) m:=by
 have h:∃r m',bp Try.prog S0 115 [v,ii x] m r m'/\r=ii (cN l x)/\m'=m:=by
  refine WF.ex fun K hK=> ?_
  refine WF.of_wpG (fun _=>rfl) si (L:= [(.a .e,ii x),(.e,v)]) rfl ?_
  unfold CM
  have hlen:=hv.len
  rw[List.length_map] at hlen
  simp (disch:=first|assumption|omega) only[go_sem,seval,hlen]
  refine W.loop (fun k d=>∃t i,d=⟨t, [],none,hp [] 0 m⟩/\NT.get D4.e t=some v/\NT.get D4.e.a t=some (ii x)/\NT.get D4.e.a.c t=some (ii l.length)/\NT.get D4.e.a.f t=some (ii (i:Nat))/\i+k=l.length/\∀j (hj:j<i) (hl:j<l.length),x≠l[j]) ?_ l.length _ ⟨_,0,rfl,by simp only[go_sem,seval],by simp only[go_sem,seval],by simp only[go_sem,seval],by simp only[go_sem,seval]<;>rfl,by omega,by simp⟩
  rintro k d ⟨t,i,rfl,g1,g2,g3,g4,hik,hn⟩
  apply az
  unfold rJ
  change wp _ _ _ _ ⟨aj [] t, [],none,hp [] 0 m⟩ _
  by_cases hi:i<l.length
  ·obtain ⟨id,off,w,c,a1,a2,a3,a4,a5⟩:=hv.at i (by simpa using hi)
   rw[List.getElem_map] at a5
   have c0:=aX a5 0 (by omega)
   rw[Nat.add_zero] at c0
   by_cases he:x=l[i]
   ·have he':decide (x=l[i])=true:=O3 he
    simp (disch:=first|assumption|omega) only[go_sem,seval,g1,g2,g3,g4,a1,a2,c0,he']
    exact hK _ _ ⟨by rw[ga hi he fun j hj=>hn j hj (by omega)],aa m⟩
   ·have he':decide (x=l[i])=false:=O2 he
    simp (disch:=first|assumption|omega) only[go_sem,seval,g1,g2,g3,g4,a1,a2,c0,he']
    refine ⟨k - 1,by omega,_,i+1,by rfl, ?_, ?_, ?_, ?_,by omega, ?_⟩
    ·simp (disch:=first|assumption|omega) only[go_sem,seval,g1]
    ·simp (disch:=first|assumption|omega) only[go_sem,seval,g2]
    ·simp (disch:=first|assumption|omega) only[go_sem,seval,g3]
    ·simp (disch:=first|assumption|omega) only[go_sem,seval]<;>rfl
    ·intro j hj hl
     rcases Nat.lt_or_ge j i with h|h
     ·exact hn j h hl
     ·have:j=i:=by omega
      subst this;exact he
  ·simp (disch:=first|assumption|omega) only[go_sem,seval,g1,g2,g3,g4]
   exact hK _ _ ⟨by rw[iV fun j hj=>hn j (by omega) hj],aa m⟩
 obtain ⟨r,m',h1,rfl,rfl⟩:=h
 exact h1
theorem lC {m:NH} {v:NV} {l:List (List Nat)} (hv:Sl m v 1 (cM l)) (hsz:l.length<=1099511627776) (x:List Nat):bp Try.prog S0 66 [v,(.str x)] m (ii (cN l x)) m:=by
 have h:∃r m',bp Try.prog S0 66 [v,(.str x)] m r m'/\r=ii (cN l x)/\m'=m:=by
  refine WF.ex fun K hK=> ?_
  refine WF.of_wpG (fun _=>rfl) xJ (L:= [(.a .e,(.str x)),(.e,v)]) rfl ?_
  unfold H3
  have hlen:=hv.len
  rw[List.length_map] at hlen
  simp (disch:=first|assumption|omega) only[go_sem,seval,hlen]
  refine W.loop (fun k d=>∃t i,d=⟨t, [],none,hp [] 0 m⟩/\NT.get D4.e t=some v/\NT.get D4.e.a t=some ((.str x))/\NT.get D4.e.a.c t=some (ii l.length)/\NT.get D4.e.a.f t=some (ii (i:Nat))/\i+k=l.length/\∀j (hj:j<i) (hl:j<l.length),x≠l[j]) ?_ l.length _ ⟨_,0,rfl,by simp only[go_sem,seval],by simp only[go_sem,seval],by simp only[go_sem,seval],by simp only[go_sem,seval]<;>rfl,by omega,by simp⟩
  rintro k d ⟨t,i,rfl,g1,g2,g3,g4,hik,hn⟩
  apply az
  unfold xP
  change wp _ _ _ _ ⟨aj [] t, [],none,hp [] 0 m⟩ _
  by_cases hi:i<l.length
  ·obtain ⟨id,off,w,c,a1,a2,a3,a4,a5⟩:=hv.at i (by simpa using hi)
   rw[List.getElem_map] at a5
   have c0:=aX a5 0 (by omega)
   rw[Nat.add_zero] at c0
   by_cases he:x=l[i]
   ·have he':decide (x=l[i])=true:=O3 he
    simp (disch:=first|assumption|omega) only[go_sem,seval,g1,g2,g3,g4,a1,a2,c0,he']
    exact hK _ _ ⟨by rw[ga hi he fun j hj=>hn j hj (by omega)],aa m⟩
   ·have he':decide (x=l[i])=false:=O2 he
    simp (disch:=first|assumption|omega) only[go_sem,seval,g1,g2,g3,g4,a1,a2,c0,he']
    refine ⟨k - 1,by omega,_,i+1,by rfl, ?_, ?_, ?_, ?_,by omega, ?_⟩
    ·simp (disch:=first|assumption|omega) only[go_sem,seval,g1]
    ·simp (disch:=first|assumption|omega) only[go_sem,seval,g2]
    ·simp (disch:=first|assumption|omega) only[go_sem,seval,g3]
    ·simp (disch:=first|assumption|omega) only[go_sem,seval]<;>rfl
    ·intro j hj hl
     rcases Nat.lt_or_ge j i with h|h
     ·exact hn j h hl
     ·have:j=i:=by omega
      subst this;exact he
  ·simp (disch:=first|assumption|omega) only[go_sem,seval,g1,g2,g3,g4]
   exact hK _ _ ⟨by rw[iV fun j hj=>hn j (by omega) hj],aa m⟩
 obtain ⟨r,m',h1,rfl,rfl⟩:=h
 exact h1
theorem qR {m:NH} {v:NV} {l:List Int} (hv:Sl m v 1 (rT l)) (hsz:l.length<=1099511627776) (x:Int):bp Try.prog S0 136 [v,ii x] m (.bool (decide (x∈l))) m:=by
 have h:∃r m',bp Try.prog S0 136 [v,ii x] m r m'/\r= .bool (decide (x∈l))/\m'=m:=by
  refine WF.ex fun K hK=> ?_
  refine WF.of_wpG (fun _=>rfl) sA (L:= [(.a .e,ii x),(.e,v)]) rfl ?_
  unfold Ck
  simp (disch:=first|assumption|omega) only[go_sem,seval,aa,(As hv hsz x).wf']
  exact hK _ _ ⟨by simp only[nD],rfl⟩
 obtain ⟨r,m',h1,rfl,rfl⟩:=h
 exact h1
theorem qT {m:NH} {v:NV} {l:List (List Nat)} (hv:Sl m v 1 (cM l)) (hsz:l.length<=1099511627776) (x:List Nat):bp Try.prog S0 99 [v,(.str x)] m (.bool (decide (x∈l))) m:=by
 have h:∃r m',bp Try.prog S0 99 [v,(.str x)] m r m'/\r= .bool (decide (x∈l))/\m'=m:=by
  refine WF.ex fun K hK=> ?_
  refine WF.of_wpG (fun _=>rfl) x6 (L:= [(.a .e,(.str x)),(.e,v)]) rfl ?_
  unfold IG
  simp (disch:=first|assumption|omega) only[go_sem,seval,aa,(lC hv hsz x).wf']
  exact hK _ _ ⟨by simp only[nD],rfl⟩
 obtain ⟨r,m',h1,rfl,rfl⟩:=h
 exact h1
theorem Gj (m:NH) {v:NV} {l:List Int} (hv:Sl m v 1 (rT l)) (hsz:l.length<=1099511627776) {k:Int} {c:List NV} (hc:c.length=20):∃m',bp Try.prog S0 91 [.agg (ii k::c),v] m (.bool (decide (k∈l))) m'/\Chg [] m m':=by
 have h:∃r m',bp Try.prog S0 91 [.agg (ii k::c),v] m r m'/\r= .bool (decide (k∈l))/\Chg [] m m':=by
  refine WF.ex fun K hK=> ?_
  refine WF.of_wpG (fun _=>rfl) yM (L:= [(.a .e,v),(.e,.agg (ii k::c))]) rfl ?_
  unfold Io
  have hC:Chg [] m (hp [(.n 0,.cells true (ii k::c))] 1 m):=aF rfl
  simp (disch:=first|assumption|omega) only[go_sem,seval,(qR (hv.chg hC fun _ _=>by simp) hsz k).wf']
  exact hK _ _ ⟨rfl,hC⟩
 obtain ⟨r,m',h1,rfl,h2⟩:=h
 exact ⟨m',h1,h2⟩
def gk (m:NH) (v v':NV):Prop:=∀i∈ids v',i∈ids v∨¬am m i
theorem gk.refl (m:NH) (v:NV):gk m v v:=fun _ h=>Or.inl h
theorem gk.trans {m m':NH} {v v' v'':NV} (h:gk m v v') (h':gk m' v' v'') (ho:∀i,am m i->am m' i):gk m v v'':=fun i hi=>by
 rcases h' i hi with q|q
 ·exact h i q
 ·exact Or.inr fun o=>q (ho i o)
theorem gk.chg {m m' m'':NH} {v v':NV} (h:gk m v v') (hC:Chg (ids v) m m') (hC':Chg (ids v') m' m''):Chg (ids v) m m'':=hC.trans hC' fun i hi ho=>(h i hi).elim _root_.id fun q=>OZ ho q
theorem FX (l:List (List Nat)) (s:List Nat):(cC l s).length<=l.length+1:=by unfold cC;split<;>simp
theorem ig (more:List (List Nat)):∀l:List (List Nat),(more.foldl cC l).length<=l.length+more.length:=by
 induction more with
 |nil=>intro l;simp
 |cons s more ih=>intro l;have:=ih (cC l s);have:=FX l s;simp only[List.foldl_cons,List.length_cons];omega
theorem rZ (l:List (List Nat)) (s:List Nat):cM (l++ [s])=cM l++ [[.str s]]:=by simp
theorem z6 {B m:NH} {v w:NV} {l more:List (List Nat)} (hv:bf B m v 1 (cM l)) (hw:Sl m w 1 (cM more)) (hd:∀i∈ids w,i∉ids v) (hB:∀id,am B id->am m id) (hsz:l.length+more.length<=1000000000) {t:Tm}
 (g1:NT.get D4.e t=some v) (g2:NT.get D4.e.a.c t=some w) (g3:NT.get D4.e.a.f t=some (ii more.length)) (g4:NT.get D4.e.b.a t=some (ii 0)) {Q:Out->Dyn->Prop}
 (hQ:∀t' M v',NT.get D4.e t'=some v'->bf B M v' 1 (cM (more.foldl cC l))->Chg (ids v) m M->gk m v v'->Q (.exit 0) ⟨aj [] t', [],none,M⟩):
 W Try.prog S0 none qj.loop ⟨t, [],none,m⟩ Q:=by
 refine W.loop (fun k d=>∃t M i v',d=⟨t, [],none,M⟩/\NT.get D4.e t=some v'/\NT.get D4.e.a.c t=some w/\NT.get D4.e.a.f t=some (ii more.length)/\NT.get D4.e.b.a t=some (ii (i:Nat))/\i+k=more.length/\bf B M v' 1 (cM ((more.take i).foldl cC l))/\Chg (ids v) m M/\gk m v v') ?_ more.length _ ⟨t,m,0,v,rfl,g1,g2,g3,g4,by omega,hv,(Chg.refl m).weak (by simp),gk.refl m v⟩
 rintro k d ⟨t,M,i,v',rfl,g1,g2,g3,g4,hik,hv,hC,hF⟩
 apply az
 unfold qj
 change wp _ _ _ _ ⟨aj [] t, [],none,M⟩ _
 by_cases hi:i<more.length
 ·have hwM:=hw.chg hC hd
  obtain ⟨id,off,wr,c,a1,a2,a3,a4,a5⟩:=hwM.at i (by simpa using hi)
  rw[List.getElem_map] at a5
  have c0:=aX a5 0 (by omega)
  rw[Nat.add_zero] at c0
  have hle:=ig (more.take i) l
  rw[List.length_take] at hle
  have hct:=qT hv.sl (by omega) more[i]
  have htk:(more.take (i+1)).foldl cC l=cC ((more.take i).foldl cC l) more[i]:=by
   rw[List.take_add_one,List.getElem?_eq_getElem hi,Option.toList_some,List.foldl_append];rfl
  by_cases hin:more[i]∈(more.take i).foldl cC l
  ·rw[O3 hin] at hct
   simp (disch:=first|assumption|omega) only[go_sem,seval,g1,g2,g3,g4,a1,a2,c0,hct.wf']
   refine ⟨k - 1,by omega,_,M,i+1,v',by rfl, ?_, ?_, ?_, ?_,by omega, ?_,hC,hF⟩
   ·simp (disch:=first|assumption|omega) only[go_sem,seval,g1]
   ·simp (disch:=first|assumption|omega) only[go_sem,seval,g2]
   ·simp (disch:=first|assumption|omega) only[go_sem,seval,g3]
   ·simp (disch:=first|assumption|omega) only[go_sem,seval]<;>rfl
   ·rw[htk,show cC _ _=_ from O1 hin];exact hv
  ·rw[O2 hin] at hct
   rw[←aa M] at hct ⊢
   simp (disch:=first|assumption|omega|(simp only[aU]<;>omega)) only[go_sem,seval,g1,g2,g3,g4,a1,a2,c0,hct.wf']
   have hC1:Chg [] M (hp [(.n 0,.cells true [.str more[i]])] 1 M):=aF rfl
   refine ir (hv.chg hC1 fun _ _=>by simp) bP (bW (by omega)) rfl (fun i hi=>hC1.old (hC.old (hB i hi))) (by simp;omega) (by simp;omega) ?_
   intro v2 M2 hv2 hC2 hF2
   simp (disch:=first|assumption|omega) only[go_sem,seval,g1,g2,g3,g4]
   have hF1:gk M v' v2:=fun i hi=>(hF2 i hi).imp _root_.id fun q o=>q (hC1.old o)
   have hC3:Chg (ids v') M M2:=(hC1.weak (by simp)).trans hC2 fun _ h _=>h
   refine ⟨k - 1,by omega,_,M2,i+1,v2,by rfl, ?_, ?_, ?_, ?_,by omega, ?_,hF.chg hC hC3,hF.trans hF1 fun i hi=>hC.old hi⟩
   ·simp (disch:=first|assumption|omega) only[go_sem,seval]
   ·simp (disch:=first|assumption|omega) only[go_sem,seval,g2]
   ·simp (disch:=first|assumption|omega) only[go_sem,seval,g3]
   ·simp (disch:=first|assumption|omega) only[go_sem,seval]<;>rfl
   ·rw[htk,show cC _ _=_ from O0 hin,rZ];exact hv2
 ·simp (disch:=first|assumption|omega) only[go_sem,seval,g1,g2,g3,g4]
  have e:(more.take i)=more:=List.take_of_length_le (by omega)
  rw[e] at hv
  refine hQ _ _ v' ?_ hv hC hF
  simp (disch:=first|assumption|omega) only[go_sem,seval,sg,g1]
theorem vV {B m:NH} {v w:NV} {l more:List (List Nat)} (hv:bf B m v 1 (cM l)) (hw:Sl m w 1 (cM more)) (hd:∀i∈ids w,i∉ids v) (hB:∀id,am B id->am m id) (hsz:l.length+more.length<=1000000000):
 ∃v' m',bp Try.prog S0 54 [v,w] m v' m'/\bf B m' v' 1 (cM (more.foldl cC l))/\Chg (ids v) m m'/\gk m v v':=by
 refine WF.ex fun K hK=> ?_
 refine WF.of_wpG (fun _=>rfl) xN (L:= [(.a .e,w),(.e,v)]) rfl ?_
 unfold H0
 have hlen:=hw.len
 rw[List.length_map] at hlen
 simp (disch:=first|assumption|omega) only[go_sem,seval,hlen,aa]
 refine z6 hv hw hd hB hsz (by simp only[go_sem,seval]) (by simp only[go_sem,seval]) (by simp only[go_sem,seval]) (by simp only[go_sem,seval]) ?_
 intro t' M v' g1 h1 h2 h3
 simp (disch:=first|assumption|omega) only[go_sem,seval,g1]
 exact hK _ _ ⟨h1,h2,h3⟩
def OD (x:Ex):Prop:=∀{m0:NH} {T:D4->Prop} {c:List NV} {B m:NH} {v:NV} {l:List (List Nat)},RE m0 T x c->Chg [] m0 m->bf B m v 1 (cM l)->(∀i,am m0 i->am B i)->(∀i,am B i->am m i)->l.length+x.sz<=1000000000->
 ∃v' m',bp Try.prog S0 100 [v,.agg c] m v' m'/\bf B m' v' 1 (cM (l++x.names))/\Chg (ids v) m m'/\gk m v v'
theorem oC {m0 B m m':NH} {v:NV} {e:Nat} {C:List (List NV)} (hv:bf B m v e C) (h0:∀i,am m0 i->am B i) (hC0:Chg [] m0 m) (hC:Chg (ids v) m m'):Chg [] m0 m':=
 hC0.trans hC fun i hi ho=>OZ (h0 i ho) (hv.new i hi)
theorem me {ks:List Ex} {i:Nat} (hi:i<ks.length):cg (ks.take (i+1))=cg (ks.take i)++ks[i].names:=by
 rw[List.take_add_one,List.getElem?_eq_getElem hi,Option.toList_some,pu,cg,cg,List.append_nil]
theorem AH (ks:List Ex) (i:Nat) (hi:i<ks.length):(cg (ks.take i)).length+ks[i].sz<=jY ks:=by
 induction ks generalizing i with
 |nil=>simp at hi
 |cons x ks ih=>
  cases i with
  |zero=>simp[cg,jY]
  |succ i=>
   have h1:=fm x
   have:=ih i (by simpa using hi)
   simp only[List.take_succ_cons,cg,jY,List.length_append,List.getElem_cons_succ];omega
theorem sM {m0:NH} {T:D4->Prop} {ks:List Ex} {vk:NV} {C:List (List NV)} (hS:SE m0 T vk ks C) (ih:∀x∈ks,OD x) {B m:NH} {v:NV} {l:List (List Nat)} (hC0:Chg [] m0 m) (hv:bf B m v 1 (cM l)) (h0:∀i,am m0 i->am B i) (hB:∀i,am B i->am m i)
 (hsz:l.length+jY ks<=1000000000) {t:Tm} (g1:NT.get D4.e t=some v) (g2:NT.get D4.e.f.c t=some vk) (g3:NT.get D4.e.f.f t=some (ii ks.length)) (g4:NT.get D4.e.a.a.a t=some (ii 0)) {Q:Out->Dyn->Prop}
 (hQ:∀t' M v',NT.get D4.e t'=some v'->bf B M v' 1 (cM (l++cg ks))->Chg (ids v) m M->gk m v v'->Q (.exit 1) ⟨aj [] t', [],none,M⟩):
 W Try.prog S0 none ot.loop ⟨t, [],none,m⟩ Q:=by
 refine W.loop (fun k d=>∃t M i v',d=⟨t, [],none,M⟩/\NT.get D4.e t=some v'/\NT.get D4.e.f.c t=some vk/\NT.get D4.e.f.f t=some (ii ks.length)/\NT.get D4.e.a.a.a t=some (ii (i:Nat))/\i+k=ks.length/\bf B M v' 1 (cM (l++cg (ks.take i)))/\Chg (ids v) m M/\gk m v v') ?_ ks.length _ ⟨t,m,0,v,rfl,g1,g2,g3,g4,by omega,by simpa [cg] using hv,(Chg.refl m).weak (by simp),gk.refl m v⟩
 rintro k d ⟨t,M,i,v',rfl,g1,g2,g3,g4,hik,hv',hC,hF⟩
 apply az
 unfold ot
 change wp _ _ _ _ ⟨aj [] t, [],none,M⟩ _
 have hCM:=oC hv h0 hC0 hC
 by_cases hi:i<ks.length
 ·have hSM:=(hS.stays (wE hCM T))
  obtain ⟨cx,hcx,hRx⟩:=hS.at i hi
  obtain ⟨id,off,wr,c,a1,a2,a3,a4,a5⟩:=hSM.sl.at i (by rw[hS.len];exact hi)
  have ecx:C[i]'(by rw[hS.len];exact hi)=cx:=by
   have:=List.getElem?_eq_getElem (l:=C) (i:=i) (by rw[hS.len];exact hi)
   rw[this] at hcx;injection hcx
  rw[ecx] at a5
  obtain ⟨vx,Cx,rfl,-⟩:=hRx.inv'
  have hszi:=AH ks i hi
  rw[←aa M]
  have hl5:(ks[i].l vx).length=5:=rfl
  have hls:=rC ks
  have hl5':(ks[i].l vx).take 5=ks[i].l vx:=rfl
  simp (disch:=first|assumption|omega|(simp only[aU]<;>omega)) only[go_sem,seval,g1,g2,g3,g4,a1,a2,a5,hl5,hl5']
  generalize hM1:hp _ 1 M=M1
  have hC1:Chg [] M M1:=bh hM1 rfl
  refine WF.use (ih ks[i] (List.getElem_mem hi) hRx (hCM.trans hC1 (by simp)) (hv'.chg hC1 fun _ _=>by simp) h0 (fun i hi=>hC1.old (hC.old (hB i hi))) (by rw[List.length_append];omega)) ?_
  rintro v2 M2 ⟨hv2,hC2,hF2⟩
  simp (disch:=first|assumption|omega) only[go_sem,seval,g1,g2,g3,g4]
  have hC3:Chg (ids v') M M2:=(hC1.weak (by simp)).trans hC2 fun _ h _=>h
  refine ⟨k - 1,by omega,_,M2,i+1,v2,by rfl, ?_, ?_, ?_, ?_,by omega, ?_,hF.chg hC hC3,hF.trans (fun i hi=>(hF2 i hi).imp _root_.id fun q o=>q (hC1.old o)) fun i hi=>hC.old hi⟩
  ·simp (disch:=first|assumption|omega) only[go_sem,seval]
  ·simp (disch:=first|assumption|omega) only[go_sem,seval,g2]
  ·simp (disch:=first|assumption|omega) only[go_sem,seval,g3]
  ·simp (disch:=first|assumption|omega) only[go_sem,seval]<;>rfl
  ·rw[me hi,←List.append_assoc];exact hv2
 ·simp (disch:=first|assumption|omega) only[go_sem,seval,g1,g2,g3,g4]
  have e:(ks.take i)=ks:=List.take_of_length_le (by omega)
  rw[e] at hv'
  refine hQ _ _ v' ?_ hv' hC hF
  simp (disch:=first|assumption|omega) only[go_sem,seval,sg,g1]
theorem Cf:∀x,OD x:=by
 apply Ex.ind
 intro kd n o s ks ih m0 T c B m v l hR hC0 hv h0 hB hsz
 obtain ⟨vk,C,rfl,hS⟩:=hR.inv
 rw[Ex.sz] at hsz
 refine WF.ex fun K hK=> ?_
 refine WF.of_wpG (fun _=>rfl) sQ (L:= [(.a .e,.agg [ii kd,u64 n,u8 o,.str s,vk]),(.e,v)]) rfl ?_
 unfold Bs
 have hC1:Chg [] m (hp [(.n 0,.cells true [ii kd,u64 n,u8 o,.str s,vk])] 1 m):=aF rfl
 have hlen:=(hS.stays (wE (hC0.trans hC1 (by simp)) T)).sl.len
 rw[hS.len] at hlen
 by_cases h1:kd=1
 ·subst h1
  simp (disch:=first|assumption|omega|(simp only[aU]<;>omega)) only[go_sem,seval]
  have hC2:Chg [] m (hp [(.n 1,.cells true [.str s]),(.n 0,.cells true [ii 1,u64 n,u8 o,.str s,vk])] 2 m):=aF rfl
  refine ir (hv.chg hC2 fun _ _=>by simp) bP (bW (by omega)) rfl (fun i hi=>hC2.old (hB i hi)) (by simp;omega) (by simp;omega) ?_
  intro v2 M2 hv2 hC3 hF2
  simp (disch:=first|assumption|omega) only[go_sem,seval]
  refine hK _ _ ⟨?_,(hC2.weak (by simp)).trans hC3 fun _ h _=>h,fun i hi=>(hF2 i hi).imp _root_.id fun q o=>q (hC2.old o)⟩
  rw[Ex.names,O1 rfl,rZ];exact hv2
 ·by_cases h2:kd=2
  ·subst h2
   simp (disch:=first|assumption|omega) only[go_sem,seval,hlen]
   refine sM hS ih (hC0.trans hC1 (by simp)) (hv.chg hC1 fun _ _=>by simp) h0 (fun i hi=>hC1.old (hB i hi)) (by omega) (by simp only[go_sem,seval]) (by simp only[go_sem,seval]) (by simp only[go_sem,seval]) (by simp only[go_sem,seval]) ?_
   intro t' M v' g1 q1 q2 q3
   simp (disch:=first|assumption|omega) only[go_sem,seval,g1]
   refine hK _ _ ⟨?_,(hC1.weak (by simp)).trans q2 fun _ h _=>h,fun i hi=>(q3 i hi).imp _root_.id fun q o=>q (hC1.old o)⟩
   rw[Ex.names,O0 (by omega),O1 rfl];exact q1
  ·simp (disch:=first|assumption|omega) only[go_sem,seval]
   refine hK _ _ ⟨?_,hC1.weak (by simp),gk.refl m v⟩
   rw[Ex.names,O0 h1,O0 h2,List.append_nil];exact hv.chg hC1 fun _ _=>by simp
theorem He (s:Stm):s.own=(if s.k=0∨s.k=1∨s.k=3 then [s.nm] else [])++((if s.k=1∨s.k=2∨s.k=3 then s.i.names else [])++((if s.k=0∨s.k=2∨s.k=3∨s.k=5∨s.k=6∨s.k=7 then s.x.names else [])++(if s.k=3 then s.y.names else []))):=by cases s;rfl
theorem GJ (s:Stm):s.sz=1+s.i.sz+s.x.sz+s.y.sz+cZ s.b+cZ s.e:=by cases s;rfl
theorem zV (l:List Int):(rT l).flatten=l.map ii:=by
 induction l with
 |nil=>rfl
 |cons a l ih=>show [ii a]++(rT l).flatten=_;rw[ih];rfl
theorem tP (M:NH) {k:Int} (l:List Int) {n:Nat} {c:List NV} (hc:c.length=20) (hn:n=l.length) (hl:l.length<=10):∃m',bp Try.prog S0 91 [.agg (ii k::c),.slc M.next 0 n 1 n] (M.add (.cells true (l.map ii))) (.bool (decide (k∈l))) m'/\Chg [] M m':=by
 subst hn
 have h:Sl (M.add (.cells true (l.map ii))) (.slc M.next 0 l.length 1 l.length) 1 (rT l):=
  (bf.of (B:=M) (by simp) (fun q=>Nat.lt_irrefl _ q) (NH.get_add_same M _) (im M _) (zV l).symm (by simp) (by simp)).sl
 obtain ⟨m',h1,h2⟩:=Gj _ h (by omega) (k:=k) hc
 exact ⟨m',h1,(Chg.add M _).trans h2 (by simp)⟩
theorem yo {m0 m:NH} {T:D4->Prop} {s:Stm} {c:List NV} (hR:RS m0 T s c) (hC0:Chg [] m0 m) (hsz:s.sz<=100000000):
 ∃v m',bp Try.prog S0 55 [.agg c] m v m'/\bf m m' v 1 (cM s.own)/\Chg [] m m':=by
 obtain ⟨w,rfl,hP⟩:=hR.inv'
 refine WF.ex fun K hK=> ?_
 refine WF.of_wpG (fun _=>rfl) xk (L:= [(.e,.agg (s.l w))]) rfl ?_
 unfold Hn
 rw[GJ] at hsz
 have hni:=fm s.i
 have hnx:=fm s.x
 have hny:=fm s.y
 generalize hm1:hp [(.n 0,.cells true (s.l w))] 1 m=m1
 have hC1:Chg [] m m1:=bh hm1 rfl
 have hC01:Chg [] m0 m1:=hC0.trans hC1 (by simp)
 have hg0:m1.get (na m 0)=some (.cells true (s.l w)):=bM hm1
 have ho0:am m1 (na m 0):=bL hm1 (by omega)
 let Φ:List (List Nat)->Dyn->Prop:=fun l d=>∃t M v,d=⟨t, [],none,M⟩/\NT.get D4.e.a t=some (.ptr (na m 0) 0)/\NT.get D4.e.c t=some v/\bf m1 M v 1 (cM l)/\Chg [] m1 M
 have hl21:(s.l w).length=21:=rfl
 have hl21':(s.l w).take 21=s.l w:=rfl
 have hins:∀{M M':NH} {v:NV} {l:List (List Nat)} {x:Ex} {c:List NV},Chg [] m1 M->Chg [] M M'->bf m1 M v 1 (cM l)->RE m0 T x c->l.length+x.sz<=1000000000->∃v' M'',bp Try.prog S0 100 [v,.agg c] M' v' M''/\bf m1 M'' v' 1 (cM (l++x.names))/\Chg [] m1 M'':=by
  intro M M' v l x c h1 h2 h3 h4 h5
  have hC':=h1.trans h2 (by simp)
  obtain ⟨v',M'',q1,q2,q3,-⟩:=Cf x h4 (hC01.trans hC' (by simp)) (h3.chg h2 fun _ _=>by simp) (fun i hi=>hC01.old hi) (fun i hi=>hC'.old hi) h5
  exact ⟨v',M'',q1,q2,oC h3 (fun i hi=>hi) h1 ((h2.weak (by simp)).trans q3 fun _ h _=>h)⟩
 refine sW (fun d=>d=⟨aj [(.a .e,.ptr (na m 0) 0),(.b .e,.nils),(.e,.agg (s.l w))] .leaf, [],none,m1⟩) (fun R hR=> ?_) ?_
 ·simp (disch:=first|assumption|omega) only[go_sem,seval,hm1]
  exact hR _ rfl
 rintro d rfl
 refine sW (Φ []) (fun R hR=> ?_) ?_
 ·simp (disch:=first|assumption|omega) only[go_sem,seval]
  exact hR _ ⟨_,_,.nils,rfl,by simp only[go_sem,seval],by simp only[go_sem,seval],bf.nil,Chg.refl m1⟩
 rintro d ⟨t,M,v,rfl,g1,g2,hv,hC⟩
 change wp _ _ _ _ ⟨aj [] t, [],none,M⟩ _
 refine sW (Φ (if s.k=0∨s.k=1∨s.k=3 then [s.nm] else [])) (fun R hR=> ?_) ?_
 ·have hgM:=(hC.get ho0 (by simp)).trans hg0
  simp (disch:=first|assumption|omega|(simp only[aU]<;>omega)) only[go_sem,seval,g1,g2,hgM,hl21,hl21']
  refine WF.use1H (tP M [0,1,3] rfl rfl (by decide)) ?_
  intro M' hC'
  have hgM':=(hC'.get (hC.old ho0) (by simp)).trans hgM
  have hoM':=hC'.old (hC.old ho0)
  by_cases hk:s.k∈ [0,1,3]
  ·rw[O3 hk]
   simp (disch:=first|assumption|omega|(simp only[aU]<;>omega)) only[go_sem,seval,g1,g2,hgM',hoM']
   have hC2:Chg [] M' (hp [(.n 0,.cells true [.str s.nm])] 1 M'):=aF rfl
   have hC3:=hC'.trans hC2 (by simp)
   refine ir (C:= []) (B:=m1) (hv.chg hC3 fun _ _=>by simp) bP (bW (by omega)) rfl (fun i hi=>hC3.old (hC.old hi)) (by simp) (by simp) ?_
   intro v2 M2 hv2 hC4 hF
   simp (disch:=first|assumption|omega) only[go_sem,seval,g1,g2]
   refine hR _ ⟨_,_,v2,rfl,by simp only[go_sem,seval,g1],by simp only[go_sem,seval], ?_, ?_⟩
   ·rw[O1 (by simpa using hk)];exact hv2
   ·exact oC hv (fun i hi=>hi) hC ((hC3.weak (by simp)).trans hC4 fun _ h _=>h)
  ·rw[O2 hk]
   simp (disch:=first|assumption|omega) only[go_sem,seval,g1,g2,aa]
   refine hR _ ⟨_,_,v,rfl,by simp only[go_sem,seval,g1],by simp only[go_sem,seval,g2], ?_,hC.trans hC' (by simp)⟩
   rw[O0 (by simpa using hk)];exact hv.chg hC' fun _ _=>by simp
 clear g1 g2 hv hC
 rintro d ⟨t,M,v,rfl,g1,g2,hv,hC⟩
 change wp _ _ _ _ ⟨aj [] t, [],none,M⟩ _
 generalize hL1:(if s.k=0∨s.k=1∨s.k=3 then [s.nm] else [])=L1 at hv
 have hn1:L1.length<=1:=by rw[←hL1];split<;>simp
 refine sW (Φ (L1++if s.k=1∨s.k=2∨s.k=3 then s.i.names else [])) (fun R hR=> ?_) ?_
 ·have hgM:=(hC.get ho0 (by simp)).trans hg0
  simp (disch:=first|assumption|omega|(simp only[aU]<;>omega)) only[go_sem,seval,g1,g2,hgM,hl21,hl21']
  refine WF.use1H (tP M [1,2,3] rfl rfl (by decide)) ?_
  intro M' hC'
  have hgM':=(hC'.get (hC.old ho0) (by simp)).trans hgM
  have hoM':=hC'.old (hC.old ho0)
  by_cases hk:s.k∈ [1,2,3]
  ·rw[O3 hk]
   simp (disch:=first|assumption|omega) only[go_sem,seval,g1,g2,hgM',hoM',aa]
   refine WF.use (hins hC hC' hv hP.i (by omega)) ?_
   rintro v2 M2 ⟨hv2,hC2⟩
   simp (disch:=first|assumption|omega) only[go_sem,seval,g1,g2]
   refine hR _ ⟨_,_,v2,rfl,by simp only[go_sem,seval,g1],by simp only[go_sem,seval], ?_,hC2⟩
   rw[O1 (by simpa using hk)];exact hv2
  ·rw[O2 hk]
   simp (disch:=first|assumption|omega) only[go_sem,seval,g1,g2,aa]
   refine hR _ ⟨_,_,v,rfl,by simp only[go_sem,seval,g1],by simp only[go_sem,seval,g2], ?_,hC.trans hC' (by simp)⟩
   rw[O0 (by simpa using hk),List.append_nil];exact hv.chg hC' fun _ _=>by simp
 clear g1 g2 hv hC
 rintro d ⟨t,M,v,rfl,g1,g2,hv,hC⟩
 change wp _ _ _ _ ⟨aj [] t, [],none,M⟩ _
 generalize hL2:(L1++if s.k=1∨s.k=2∨s.k=3 then s.i.names else [])=L2 at hv
 have hn2:L2.length<=1+s.i.sz:=by rw[←hL2,List.length_append];split<;>first|omega|(rw[List.length_nil];omega)
 refine sW (Φ (L2++if s.k=0∨s.k=2∨s.k=3∨s.k=5∨s.k=6∨s.k=7 then s.x.names else [])) (fun R hR=> ?_) ?_
 ·have hgM:=(hC.get ho0 (by simp)).trans hg0
  simp (disch:=first|assumption|omega|(simp only[aU]<;>omega)) only[go_sem,seval,g1,g2,hgM,hl21,hl21']
  refine WF.use1H (tP M [0,2,3,5,6,7] rfl rfl (by decide)) ?_
  intro M' hC'
  have hgM':=(hC'.get (hC.old ho0) (by simp)).trans hgM
  have hoM':=hC'.old (hC.old ho0)
  by_cases hk:s.k∈ [0,2,3,5,6,7]
  ·rw[O3 hk]
   simp (disch:=first|assumption|omega) only[go_sem,seval,g1,g2,hgM',hoM',aa]
   refine WF.use (hins hC hC' hv hP.x (by omega)) ?_
   rintro v2 M2 ⟨hv2,hC2⟩
   simp (disch:=first|assumption|omega) only[go_sem,seval,g1,g2]
   refine hR _ ⟨_,_,v2,rfl,by simp only[go_sem,seval,g1],by simp only[go_sem,seval], ?_,hC2⟩
   rw[O1 (by simpa using hk)];exact hv2
  ·rw[O2 hk]
   simp (disch:=first|assumption|omega) only[go_sem,seval,g1,g2,aa]
   refine hR _ ⟨_,_,v,rfl,by simp only[go_sem,seval,g1],by simp only[go_sem,seval,g2], ?_,hC.trans hC' (by simp)⟩
   rw[O0 (by simpa using hk),List.append_nil];exact hv.chg hC' fun _ _=>by simp
 clear g1 g2 hv hC
 rintro d ⟨t,M,v,rfl,g1,g2,hv,hC⟩
 change wp _ _ _ _ ⟨aj [] t, [],none,M⟩ _
 generalize hL3:(L2++if s.k=0∨s.k=2∨s.k=3∨s.k=5∨s.k=6∨s.k=7 then s.x.names else [])=L3 at hv
 have hn3:L3.length<=1+s.i.sz+s.x.sz:=by rw[←hL3,List.length_append];split<;>first|omega|(rw[List.length_nil];omega)
 have hown:s.own=L3++if s.k=3 then s.y.names else []:=by rw[He,←hL3,←hL2,←hL1];simp only[List.append_assoc]
 have hgM:=(hC.get ho0 (by simp)).trans hg0
 have fin:∀{v M},bf m1 M v 1 (cM s.own)->Chg [] m1 M->bf m M v 1 (cM s.own)/\Chg [] m M:=fun h1 h2=>⟨h1.back fun i hi=>hC1.old hi,hC1.trans h2 (by simp)⟩
 by_cases hk:s.k=3
 ·rw[O1 hk] at hown
  have hd:decide (s.k=3)=true:=O3 hk
  simp (disch:=first|assumption|omega) only[go_sem,seval,g1,g2,hgM,hl21,hl21',hd]
  refine WF.use (hins hC (Chg.refl M) hv hP.y (by omega)) ?_
  rintro v2 M2 ⟨hv2,hC2⟩
  simp (disch:=first|assumption|omega) only[go_sem,seval,g1,g2]
  rw[←hown] at hv2
  exact hK _ _ (fin hv2 hC2)
 ·rw[O0 hk,List.append_nil] at hown
  have hd:decide (s.k=3)=false:=O2 hk
  simp (disch:=first|assumption|omega) only[go_sem,seval,g1,g2,hgM,hl21,hl21',hd]
  rw[←hown] at hv
  exact hK _ _ (fin hv hC)
def bt {σ:Type} (f:σ->Stm->σ×Bool):List Stm->σ->σ×Bool
 | [],s=>(s,true)
 |x::l,s=>if (f s x).2 then bt f l (f s x).1 else f s x
theorem eU {σ:Type} (f:σ->Stm->σ×Bool) (a b:List Stm):∀s,bt f (a++b) s=if (bt f a s).2 then bt f b (bt f a s).1 else bt f a s:=by
 induction a with
 |nil=>intro s;simp[bt]
 |cons x a ih=>
  intro s
  simp only[List.cons_append,bt]
  split
  ·exact ih _
  ·rename_i h;simp[h]
def Al {σ:Type} (A:σ->Stm->Prop) (f:σ->Stm->σ×Bool):List Stm->σ->Prop
 | [],_=>True
 |x::l,s=>A s x/\((f s x).2=true->Al A f l (f s x).1)
theorem lq {σ:Type} {A:σ->Stm->Prop} {f:σ->Stm->σ×Bool} (a b:List Stm):∀s,Al A f (a++b) s↔Al A f a s/\((bt f a s).2=true->Al A f b (bt f a s).1):=by
 induction a with
 |nil=>intro s;simp[Al,bt]
 |cons x a ih=>
  intro s
  simp only[List.cons_append,Al,bt,ih]
  constructor
  ·rintro ⟨h1,h2⟩
   refine ⟨⟨h1,fun h=>(h2 h).1⟩,fun h=> ?_⟩
   cases hb:(f s x).2 with
   |true=>rw[hb] at h;simp only[if_true] at h ⊢;exact (h2 hb).2 h
   |false=>rw[hb] at h;simp[hb] at h
  ·rintro ⟨⟨h1,h2⟩,h3⟩
   refine ⟨h1,fun h=>⟨h2 h,fun h4=> ?_⟩⟩
   rw[h] at h3;simp only[if_true] at h3;exact h3 h4
structure Ylds {σ:Type} (q:D4) (m0:NH) (T:D4->Prop) (A:σ->Stm->Prop) (f:σ->Stm->σ×Bool) (Φ:σ->List D4->NH->Prop):Prop where
 base:∀{s F N},Φ s F N->Chg [] m0 N
 old:∀{s F N},Φ s F N->∀i∈F,am N i
 grow:∀{s F N N'},Φ s F N->Chg [] N N'->Φ s F N'
 y:∀{s F N x c},Φ s F N->RS m0 T x c->A s x->∃N',vR Try.prog S0 q [.agg c] N (.bool (f s x).2) N'/\∃F',Φ (f s x).1 F' N'/\Chg F N N'/\∀i∈F',i∈F∨¬am N i
section
variable {σ:Type} {q:D4} {m0:NH} {T:D4->Prop} {A:σ->Stm->Prop} {f:σ->Stm->σ×Bool} {Φ:σ->List D4->NH->Prop}
def lE (q:D4) (m0:NH) (T:D4->Prop) (A:σ->Stm->Prop) (f:σ->Stm->σ×Bool) (Φ:σ->List D4->NH->Prop) (l:List Stm):Prop:=
 ∀{v C N s F},SS m0 T v l C->Φ s F N->Al A f (bC l) s->cZ l<=1000000000->
  ∃N',bp Try.prog S0 98 [v,.yld q] N (.bool (bt f (bC l) s).2) N'/\∃F',Φ (bt f (bC l) s).1 F' N'/\Chg F N N'/\∀i∈F',i∈F∨¬am N i
theorem GR (x:Stm):x.all=x::((if x.k=6∨x.k=7 then bC x.b else [])++(if x.k=6 then bC x.e else [])):=by cases x;rfl
theorem Aj {l:List Stm} {i:Nat} (hi:i<l.length):bC (l.take (i+1))=bC (l.take i)++l[i].all:=by
 rw[List.take_add_one,List.getElem?_eq_getElem hi,Option.toList_some,lM,bC,bC,List.append_nil]
theorem oE {l:List Stm} {x y:Stm} (hx:x∈l) (hy:y∈x.all):y∈bC l:=by
 induction l with
 |nil=>simp at hx
 |cons a l ih=>
  rw[bC,List.mem_append]
  rcases List.mem_cons.mp hx with rfl|hx
  ·exact Or.inl hy
  ·exact Or.inr (ih hx)
theorem F6 {l:List Stm} {x:Stm} (hx:x∈l):x.sz<=cZ l:=by
 induction l with
 |nil=>simp at hx
 |cons a l ih=>
  rw[cZ]
  rcases List.mem_cons.mp hx with rfl|hx
  ·omega
  ·have:=ih hx;omega
theorem u7 (hy:Ylds q m0 T A f Φ) {x:Stm} {w:SV} (hR:RS m0 T x (x.l w)) (hP:SP m0 T x w) (hb:lE q m0 T A f Φ x.b) (he:lE q m0 T A f Φ x.e) {s:σ} (hA:Al A f x.all s) (hsz:x.sz<=1000000000)
 {v:NV} {N:NH} {F:List D4} (hΦ:Φ s F N) {i n:Nat} {id:D4} {off:Nat} {wr:Bool} {C:List NV} (hi:i<n) (hn:n<=1000000000) (a1:jh 21 v (ii i)= .val (.ptr id off)) (a2:N.get id=some (.cells wr C)) (a3:am N id) (a4:off+21<=C.length) (a5:(C.drop off).take 21=x.l w) {t:Tm}
 (g1:NT.get D4.e.a t=some (.yld q)) (g2:NT.get D4.e.a.c t=some v) (g3:NT.get D4.e.a.f t=some (ii n)) (g4:NT.get D4.e.b.a t=some (ii i)) {Q:Out->Dyn->Prop}
 (hN:(bt f x.all s).2=true->∀t' N' F',Φ (bt f x.all s).1 F' N'->Chg F N N'->(∀i∈F',i∈F∨¬am N i)->NT.get D4.e.a t'=some (.yld q)->NT.get D4.e.a.c t'=some v->NT.get D4.e.a.f t'=some (ii n)->NT.get D4.e.b.a t'=some (ii (i+1:Nat))->Q .norm ⟨t', [],none,N'⟩)
 (hF:(bt f x.all s).2=false->∀t' N' F',Φ (bt f x.all s).1 F' N'->Chg F N N'->(∀i∈F',i∈F∨¬am N i)->NT.get D4.e.f t'=some (.bool false)->Q .ret ⟨aj [] t', [],none,N'⟩):
 wp Try.prog S0 none mu ⟨aj [] t, [],none,N⟩ Q:=by
 unfold mu
 have hl21:(x.l w).length=21:=rfl
 have hl21':(x.l w).take 21=x.l w:=rfl
 rw[←aa N]
 simp (disch:=first|assumption|omega|(simp only[aU]<;>omega)) only[go_sem,seval,g1,g2,g3,g4,a1,a2,a5,hl21,hl21']
 generalize hM1:hp _ 1 N=M1
 have hC1:Chg [] N M1:=bh hM1 rfl
 have hg0:M1.get (na N 0)=some (.cells true (x.l w)):=bM hM1
 have ho0:am M1 (na N 0):=bL hM1 (by omega)
 have hal:=GR x
 rw[hal] at hA
 refine WY.use1 (hy.y (hy.grow hΦ hC1) hR hA.1) ?_
 rintro M2 ⟨F2,hΦ2,hC2,hF2⟩
 have hn0:na N 0∉F:=fun h=>(hy.old hΦ _ h).ne 0 rfl
 have hg2:=(hC2.get ho0 hn0).trans hg0
 have ho2:=hC2.old ho0
 have hC02:Chg F N M2:=(hC1.weak (by simp)).trans hC2 fun _ h _=>h
 have hN2:∀i∈F2,i∈F∨¬am N i:=fun i hi=>(hF2 i hi).imp _root_.id fun q o=>q (hC1.old o)
 cases hb1:(f s x).2 with
 |false=>
  have hfo:bt f x.all s=f s x:=by rw[hal,bt,hb1];rfl
  simp (disch:=first|assumption|omega) only[go_sem,seval,g1,g2,g3,g4,hg2,ho2]
  rw[hfo] at hF
  exact hF hb1 _ M2 F2 hΦ2 hC02 hN2 (by simp only[go_sem,seval])
 |true=>
  have hfo:bt f x.all s=bt f ((if x.k=6∨x.k=7 then bC x.b else [])++(if x.k=6 then bC x.e else [])) (f s x).1:=by rw[hal,bt,hb1];rfl
  rw[hfo] at hN hF
  simp (disch:=first|assumption|omega|(simp only[aU]<;>omega)) only[go_sem,seval,g1,g2,g3,g4,hg2,ho2,hl21,hl21']
  refine WF.use1 (tP M2 [6,7] rfl rfl (by decide)) ?_
  intro M3 hC3
  have hΦ3:=hy.grow hΦ2 hC3
  have hg3:=(hC3.get ho2 (by simp)).trans hg2
  have ho3:=hC3.old ho2
  have hC03:Chg F N M3:=hC02.trans hC3 (by simp)
  have hrb:=GJ x
  by_cases hk:x.k=6∨x.k=7
  ·rw[O3 (by simpa using hk:x.k∈ [6,7])]
   rw[O1 hk] at hN hF hal
   obtain ⟨B,hB⟩:=hP.b
   obtain ⟨E,hE⟩:=hP.e
   have hA2:=hA.2 hb1
   rw[O1 hk,lq] at hA2
   have hAb:=hA2.1
   simp (disch:=first|assumption|omega) only[go_sem,seval,g1,g2,g3,g4,hg3,ho3]
   refine WF.use1 (hb hB hΦ3 hAb (by omega)) ?_
   rintro M4 ⟨F4,hΦ4,hC4,hF4⟩
   have hn3:na N 0∉F2:=fun h=>(hN2 _ h).elim hn0 fun q=>by
    rcases hF2 _ h with h|h
    ·exact hn0 h
    ·exact h ho0
   have hg4:=(hC4.get ho3 hn3).trans hg3
   have ho4:=hC4.old ho3
   have hC04:Chg F N M4:=hC03.trans hC4 fun i hi ho=>(hN2 i hi).elim _root_.id fun q=>OZ ho q
   have hN4:∀i∈F4,i∈F∨¬am N i:=fun i hi=>(hF4 i hi).elim (hN2 i) fun q=>Or.inr fun o=>q (hC03.old o)
   rw[eU] at hN hF
   cases hb2:(bt f (bC x.b) (f s x).1).2 with
   |false=>
    rw[hb2] at hF
    simp (disch:=first|assumption|omega) only[go_sem,seval,g1,g2,g3,g4,hg4,ho4]
    refine hF hb2 _ M4 F4 hΦ4 hC04 hN4 (by simp only[go_sem,seval])
   |true=>
    rw[hb2,O1 rfl] at hN hF
    by_cases h6:x.k=6
    ·rw[O1 h6] at hN hF hal
     have hAe:=hA2.2 hb2
     rw[O1 h6] at hAe
     have hd:decide (x.k=6)=true:=O3 h6
     simp (disch:=first|assumption|omega) only[go_sem,seval,g1,g2,g3,g4,hg4,ho4,hd]
     refine WF.use1 (he hE hΦ4 hAe (by omega)) ?_
     rintro M5 ⟨F5,hΦ5,hC5,hF5⟩
     have hC05:Chg F N M5:=hC04.trans hC5 fun i hi ho=>(hN4 i hi).elim _root_.id fun q=>OZ ho q
     have hN5:∀i∈F5,i∈F∨¬am N i:=fun i hi=>(hF5 i hi).elim (hN4 i) fun q=>Or.inr fun o=>q (hC04.old o)
     cases hb3:(bt f (bC x.e) (bt f (bC x.b) (f s x).1).1).2 with
     |false=>
      simp (disch:=first|assumption|omega) only[go_sem,seval,g1,g2,g3,g4]
      refine hF hb3 _ M5 F5 hΦ5 hC05 hN5 (by simp only[go_sem,seval])
     |true=>
      simp (disch:=first|assumption|omega) only[go_sem,seval,g1,g2,g3,g4]
      refine hN hb3 _ M5 F5 hΦ5 hC05 hN5 (by simp only[go_sem,seval,g1]) (by simp only[go_sem,seval,g2]) (by simp only[go_sem,seval,g3]) (by simp only[go_sem,seval]<;>rfl)
    ·rw[O0 h6] at hN hF
     have hd:decide (x.k=6)=false:=O2 h6
     simp (disch:=first|assumption|omega) only[go_sem,seval,g1,g2,g3,g4,hg4,ho4,hd]
     refine hN rfl _ M4 F4 hΦ4 hC04 hN4 (by simp only[go_sem,seval,g1]) (by simp only[go_sem,seval,g2]) (by simp only[go_sem,seval,g3]) (by simp only[go_sem,seval]<;>rfl)
  ·rw[O2 (by simpa using hk:x.k∉ [6,7])]
   have h6:x.k≠6:=fun e=>hk (Or.inl e)
   rw[O0 hk,O0 h6] at hN hF
   have hd:decide (x.k=6)=false:=O2 h6
   simp (disch:=first|assumption|omega) only[go_sem,seval,g1,g2,g3,g4,hg3,ho3,hd]
   refine hN rfl _ M3 F2 hΦ3 hC03 hN2 (by simp only[go_sem,seval,g1]) (by simp only[go_sem,seval,g2]) (by simp only[go_sem,seval,g3]) (by simp only[go_sem,seval]<;>rfl)
end
section
variable {σ:Type} {q:D4} {m0:NH} {T:D4->Prop} {A:σ->Stm->Prop} {f:σ->Stm->σ×Bool} {Φ:σ->List D4->NH->Prop}
theorem mG (l:List Stm) (i:Nat) (hi:i<l.length):bC l=bC (l.take i)++(l[i].all++bC (l.drop (i+1))):=by
 conv=>lhs;rw[←List.take_append_drop i l,List.drop_eq_getElem_cons hi]
 rw[lM,bC]
theorem lr (hy:Ylds q m0 T A f Φ) {l:List Stm} (ih:∀x∈l,lE q m0 T A f Φ x.b/\lE q m0 T A f Φ x.e):lE q m0 T A f Φ l:=by
 intro v C N s F hS hΦ hA hsz
 refine WF.ex1 fun K hK=> ?_
 refine WF.of_wpG (fun _=>rfl) xH (L:= [(.a .e,.yld q),(.e,v)]) rfl ?_
 unfold HP
 have hlen:=(hS.stays (wE (hy.base hΦ) T)).sl.len
 rw[hS.len] at hlen
 have hll:=rz l
 simp (disch:=first|assumption|omega) only[go_sem,seval,hlen,aa]
 refine W.loop (fun k d=>∃t M i F',d=⟨t, [],none,M⟩/\NT.get D4.e.a t=some (.yld q)/\NT.get D4.e.a.c t=some v/\NT.get D4.e.a.f t=some (ii l.length)/\NT.get D4.e.b.a t=some (ii (i:Nat))/\i+k=l.length/\(bt f (bC (l.take i)) s).2=true/\Φ (bt f (bC (l.take i)) s).1 F' M/\Chg F N M/\(∀i∈F',i∈F∨¬am N i)) ?_ l.length _ ⟨_,N,0,F,rfl,by simp only[go_sem,seval],by simp only[go_sem,seval],by simp only[go_sem,seval],by simp only[go_sem,seval]<;>rfl,by omega,rfl,hΦ,(Chg.refl N).weak (by simp),fun _ h=>Or.inl h⟩
 rintro k d ⟨t,M,i,F',rfl,g1,g2,g3,g4,hik,hb,hΦ',hC,hF⟩
 apply az
 change wp _ _ _ _ ⟨aj [] t, [],none,M⟩ _
 by_cases hi:i<l.length
 ·have hCM:=hy.base hΦ'
  have hSM:=hS.stays (wE hCM T)
  obtain ⟨cx,hcx,hRx⟩:=hS.at i hi
  obtain ⟨id,off,wr,c,a1,a2,a3,a4,a5⟩:=hSM.sl.at i (by rw[hS.len];exact hi)
  have ecx:C[i]'(by rw[hS.len];exact hi)=cx:=by
   have:=List.getElem?_eq_getElem (l:=C) (i:=i) (by rw[hS.len];exact hi)
   rw[this] at hcx;injection hcx
  rw[ecx] at a5
  obtain ⟨w,rfl,hP⟩:=hRx.inv'
  have hsx:=F6 (List.getElem_mem hi)
  obtain ⟨h1,h2⟩:=ih _ (List.getElem_mem hi)
  have hst:bt f (bC (l.take (i+1))) s=bt f l[i].all (bt f (bC (l.take i)) s).1:=by rw[Aj hi,eU,hb,O1 rfl]
  rw[mG l i hi,lq,lq] at hA
  have hAi:=(hA.2 hb).1
  refine u7 hy hRx hP h1 h2 hAi (by omega) hΦ' (n:=l.length) hi (by omega) a1 a2 a3 a4 a5 g1 g2 g3 g4 ?_ ?_
  ·intro hb2 t' N' F2 hΦ2 hC2 hF2 g1 g2 g3 g4
   refine ⟨k - 1,by omega,t',N',i+1,F2,rfl,g1,g2,g3,g4,by omega, ?_, ?_,hC.trans hC2 fun j hj ho=>(hF j hj).elim _root_.id fun q=>OZ ho q,fun j hj=>(hF2 j hj).elim (hF j) fun q=>Or.inr fun o=>q (hC.old o)⟩
   ·rw[hst];exact hb2
   ·rw[hst];exact hΦ2
  ·intro hb2 t' N' F2 hΦ2 hC2 hF2 g1
   have hfin:bt f (bC l) s=bt f l[i].all (bt f (bC (l.take i)) s).1:=by
    rw[mG l i hi,eU,hb,O1 rfl,eU,hb2];rfl
   simp (disch:=first|assumption|omega) only[go_sem,seval,g1]
   rw[hfin] at hK
   rw[←hb2]
   exact hK _ ⟨F2,hΦ2,hC.trans hC2 fun j hj ho=>(hF j hj).elim _root_.id fun q=>OZ ho q,fun j hj=>(hF2 j hj).elim (hF j) fun q=>Or.inr fun o=>q (hC.old o)⟩
 ·have e:(l.take i)=l:=List.take_of_length_le (by omega)
  rw[e] at hb hΦ'
  rw[hb] at hK
  unfold mu
  simp (disch:=first|assumption|omega) only[go_sem,seval,g1,g2,g3,g4]
  exact hK _ ⟨F',hΦ',hC,hF⟩
theorem AE (hy:Ylds q m0 T A f Φ):∀l:List Stm,lE q m0 T A f Φ l:=by
 have key:∀x:Stm,lE q m0 T A f Φ x.b/\lE q m0 T A f Φ x.e:=by
  apply Stm.ind
  intro k a nm ce i x y b e hb he
  exact ⟨lr hy hb,lr hy he⟩
 exact fun l=>lr hy fun x _=>key x
theorem A9 (hy:Ylds q m0 T A f Φ) {l:List Stm} {v:NV} {C:List (List NV)} {N:NH} {s:σ} {F:List D4} {id:D4} (hg:N.get id=some (.cells true [v])) (hS:SS m0 T v l C) (hΦ:Φ s F N) (hA:Al A f (bC l) s) (hsz:cZ l<=1000000000):
 ∃N',bp Try.prog S0 97 [.yld q,.ptr id 0] N (.tup []) N'/\∃F',Φ (bt f (bC l) s).1 F' N'/\Chg F N N'/\∀i∈F',i∈F∨¬am N i:=by
 refine WF.ex1 fun K hK=> ?_
 refine WF.of_wpG (fun _=>rfl) yf (L:= [(.a .e,.ptr id 0),(.e,.yld q)]) rfl ?_
 unfold H7
 simp (disch:=first|assumption|omega) only[go_sem,seval,hg,aa]
 refine WF.use1 (AE hy l hS hΦ hA hsz) ?_
 intro N' h
 simp (disch:=first|assumption|omega) only[go_sem,seval]
 exact hK _ h
end
theorem GK (m:NH) {v:NV} (hv:cellsOf v=some [v]):bp Try.prog S0 53 [v] m (.fn 97 [.ptr (na m 0) 0]) (hp [(.n 0,.cells true [v])] 1 m):=by
 have h:∃r m',bp Try.prog S0 53 [v] m r m'/\r= .fn 97 [.ptr (na m 0) 0]/\m'=(hp [(.n 0,.cells true [v])] 1 m):=by
  refine WF.ex fun K hK=> ?_
  refine WF.of_wpG (fun _=>rfl) xR (L:= [(.e,v)]) rfl ?_
  unfold Il
  simp (disch:=first|assumption|omega) only[go_sem,seval,hv]
  exact hK _ _ ⟨rfl,rfl⟩
 obtain ⟨r,m',h1,rfl,rfl⟩:=h
 exact h1
def OQ (q o:D4) (t:Tm) (M1:NH) (st:List (List Nat)×Nat) (F:List D4) (N:NH):Prop:=∃u,F=q::o::ids u/\Chg [q,o] M1 N/\N.get q=some (.loop 0 .none t [D4.e.a.c] iZ iX)/\N.get o=some (.cells true [u])/\bf M1 N u 1 (cM st.1)/\st.1.length<=st.2
def OI (st:List (List Nat)×Nat) (x:Stm):Prop:=x.sz<=100000000/\st.2+x.own.length<=100000000
def GD (st:List (List Nat)×Nat) (x:Stm):(List (List Nat)×Nat)×Bool:=((x.own.foldl cC st.1,st.2+x.own.length),true)
theorem Ey {m0 M1:NH} {T:D4->Prop} {q o:D4} {t:Tm} (h1:NT.get D4.e.c t=some (.ptr o 0)) (h0:∀S,Chg [q,o] M1 S->Chg [] m0 S) (hoq:o≠q) (hqo:am M1 q) (hoo:am M1 o):Ylds q m0 T OI GD (OQ q o t M1):=by
 refine ⟨?_, ?_, ?_, ?_⟩
 ·rintro s F N ⟨u,rfl,hC,hq,ho,hu,hl⟩;exact h0 _ hC
 ·rintro s F N ⟨u,rfl,hC,hq,ho,hu,hl⟩ i hi
  rcases List.mem_cons.mp hi with rfl|hi
  ·exact hC.old hqo
  ·rcases List.mem_cons.mp hi with rfl|hi
   ·exact hC.old hoo
   ·exact hu.sl.old i hi
 ·rintro s F N N' ⟨u,rfl,hC,hq,ho,hu,hl⟩ hC'
  exact ⟨u,rfl,hC.trans hC' (by simp),(hC'.get (hC.old hqo) (by simp)).trans hq,(hC'.get (hC.old hoo) (by simp)).trans ho,hu.chg hC' fun _ _=>by simp,hl⟩
 ·rintro s F N x c ⟨u,rfl,hC,hq,ho,hu,hl⟩ hR ⟨hA1,hA2⟩
  obtain ⟨w,rfl,hP⟩:=hR.inv'
  refine WY.ex1 fun K hK=> ?_
  refine WY.of_wp hq rfl iZ.eq_1 iX.eq_1 ?_
  change wp _ _ _ _ ⟨aj [(D4.e.a.c,.agg (x.l w))] t, [],none,hp [] 0 N⟩ _
  have hl21:(x.l w).length=21:=rfl
  have hl21':(x.l w).take 21=x.l w:=rfl
  have oq:=hC.old hqo
  have oo:=hC.old hoo
  have hqo':q≠o:=fun e=>hoq e.symm
  simp (disch:=first|assumption|omega|(simp only[aU]<;>omega)) only[go_sem,seval,h1,hq,ho,hl21,hl21']
  generalize hM2:hp _ 1 N=M2
  have hC2:Chg [q] N M2:=bh hM2 rfl
  have q2:M2.get q=some (.loop 1 .none t [D4.e.a.c] iZ iX):=jO oq hM2
  have o2:M2.get o=some (.cells true [u]):=(hC2.get oo (by simpa using hoq)).trans ho
  have b2:M2.get (na N 0)=some (.cells true (x.l w)):=bM hM2
  have ob2:am M2 (na N 0):=bL hM2 (by omega)
  have hC02:Chg [] m0 M2:=h0 _ (hC.trans (hC2.weak (T:= [q,o]) (by simp)) fun _ h _=>h)
  refine WF.use (yo hR hC02 hA1) ?_
  rintro v3 M3 ⟨hv3,hC3⟩
  have q3:=(hC3.get (hC2.old oq) (by simp)).trans q2
  have o3:=(hC3.get (hC2.old oo) (by simp)).trans o2
  have b3:=(hC3.get ob2 (by simp)).trans b2
  have hqu:q∉ids u:=fun h=>hu.new _ h hqo
  have hou:o∉ids u:=fun h=>hu.new _ h hoo
  have hu3:bf M1 M3 u 1 (cM s.1):=(hu.chg hC2 fun i hi=>by simp;rintro rfl;exact hqu hi).chg hC3 fun _ _=>by simp
  have hus:bz 4 u u=true:=hu.sl.same
  simp (disch:=first|assumption|omega) only[go_sem,seval,h1,q3,o3,b3,hl21,hl21',hus]
  refine WF.use (vV hu3 hv3.sl (fun i hi hiu=>hv3.new i hi (hC2.old (hu.sl.old i hiu))) (fun i hi=>hC3.old (hC2.old (hC.old hi))) (by omega)) ?_
  rintro v4 M4 ⟨hv4,hC4,hF4⟩
  have q4:=(hC4.get (hC3.old (hC2.old oq)) hqu).trans q3
  have o4:=(hC4.get (hC3.old (hC2.old oo)) hou).trans o3
  have oq4:=hC4.old (hC3.old (hC2.old oq))
  have oo4:=hC4.old (hC3.old (hC2.old oo))
  rw[←aa M4]
  simp (disch:=first|assumption|omega|(simp only[aU]<;>omega)) only[go_sem,seval,h1,q4,o4,b3,hl21,hl21',hus,hv4.sl.one]
  generalize hM5:hp _ 0 M4=M5
  have hC5:Chg [q,o] M4 M5:=bh hM5 rfl
  have hqv:q∉ids v4:=fun h=>hv4.new _ h hqo
  have hov:o∉ids v4:=fun h=>hv4.new _ h hoo
  have hCN:Chg (q::o::ids u) N M5:=(((hC2.weak (T:=q::o::ids u) (by simp)).trans hC3 (by simp)).trans hC4 (fun _ h _=>by simp[h])).trans hC5 (fun i h _=>by simp at h ⊢;rcases h with h|h<;>simp[h])
  refine hK _ ⟨_,⟨v4,rfl, ?_, ?_, ?_, ?_, ?_⟩,hCN, ?_⟩
  ·refine hC.trans hCN fun i hi ho=> ?_
   simp only[O5] at hi
   rcases hi with rfl|rfl|hi
   ·simp
   ·simp
   ·exact OZ ho (hu.new i hi)
  ·rw[←hM5];exact (aJ oq4).trans au
  ·rw[←hM5];exact (aJ oo4).trans ((a9 hoq).trans au)
  ·refine hv4.chg hC5 fun i hi=> ?_
   simp only[O5,O4,or_false,not_or]
   exact ⟨fun e=>hqv (e▸hi),fun e=>hov (e▸hi)⟩
  ·have:=ig x.own s.1
   show _<=s.2+x.own.length
   simp only[GD]
   omega
  ·intro i hi
   simp only[O5] at hi ⊢
   rcases hi with rfl|rfl|hi
   ·simp
   ·simp
   ·rcases hF4 i hi with h|h
    ·exact Or.inl (Or.inr (Or.inr h))
    ·exact Or.inr fun ho=>h (hC3.old (hC2.old ho))
theorem FD (l:List Stm):∀st,bt GD l st=(((l.flatMap Stm.own).foldl cC st.1,st.2+(l.flatMap Stm.own).length),true):=by
 induction l with
 |nil=>intro st;rfl
 |cons x l ih=>
  intro st
  show (if true then bt GD l (GD st x).1 else _)=_
  rw[O1 rfl,ih]
  simp only[GD,List.flatMap_cons,List.foldl_append,List.length_append]
  rw[Nat.add_assoc]
theorem LR (l:List Stm):∀st:List (List Nat)×Nat,(∀x∈l,x.sz<=100000000)->st.2+(l.flatMap Stm.own).length<=100000000->Al OI GD l st:=by
 induction l with
 |nil=>intro st _ _;trivial
 |cons x l ih=>
  intro st h1 h2
  rw[List.flatMap_cons,List.length_append] at h2
  exact ⟨⟨h1 x (List.mem_cons_self ..),by omega⟩,fun _=>ih _ (fun y hy=>h1 y (List.mem_cons_of_mem _ hy)) (by simp only[GD];omega)⟩
theorem Ix:∀x:Stm,(∀y∈x.all,y.sz<=x.sz)/\(x.all.flatMap Stm.own).length<=2*x.sz:=by
 apply Stm.ind
 intro k a nm ce i x y b e hb he
 have key:∀l:List Stm,(∀s∈l,(∀y∈s.all,y.sz<=s.sz)/\(s.all.flatMap Stm.own).length<=2*s.sz)->(∀y∈bC l,y.sz<=cZ l)/\((bC l).flatMap Stm.own).length<=2*cZ l:=by
  intro l
  induction l with
  |nil=>intro _;exact ⟨by simp[bC],by simp[bC]⟩
  |cons s l ih=>
   intro h
   obtain ⟨h1,h2⟩:=h s (List.mem_cons_self ..)
   obtain ⟨h3,h4⟩:=ih fun y hy=>h y (List.mem_cons_of_mem _ hy)
   rw[bC,cZ,List.flatMap_append,List.length_append]
   refine ⟨fun y hy=> ?_,by omega⟩
   rcases List.mem_append.mp hy with hy|hy
   ·have:=h1 y hy;omega
   ·have:=h3 y hy;omega
 obtain ⟨b1,b2⟩:=key b hb
 obtain ⟨e1,e2⟩:=key e he
 have hi:=fm i
 have hx:=fm x
 have hy:=fm y
 have ho:(Stm.mk k a nm ce i x y b e).own.length<=1+i.sz+x.sz+y.sz:=by
  rw[Stm.own]
  simp only[List.length_append]
  have:∀(p:Prop) [Decidable p] (l:List (List Nat)),(if p then l else []).length<=l.length:=by intro p _ l;split<;>simp
  have a1:=this (k=0∨k=1∨k=3) [nm]
  have a2:=this (k=1∨k=2∨k=3) i.names
  have a3:=this (k=0∨k=2∨k=3∨k=5∨k=6∨k=7) x.names
  have a4:=this (k=3) y.names
  simp only[List.length_singleton] at a1
  omega
 rw[Stm.all,Stm.sz]
 constructor
 ·intro z hz
  rcases List.mem_cons.mp hz with rfl|hz
  ·rw[Stm.sz];omega
  ·rcases List.mem_append.mp hz with hz|hz
   ·split at hz
    ·have:=b1 z hz;omega
    ·simp at hz
   ·split at hz
    ·have:=e1 z hz;omega
    ·simp at hz
 ·rw[List.flatMap_cons,List.flatMap_append,List.length_append,List.length_append]
  have c1:((if k=6∨k=7 then bC b else []).flatMap Stm.own).length<=2*cZ b:=by split<;>first|exact b2|simp
  have c2:((if k=6 then bC e else []).flatMap Stm.own).length<=2*cZ e:=by split<;>first|exact e2|simp
  omega
theorem rf (l:List Stm):(∀y∈bC l,y.sz<=cZ l)/\((bC l).flatMap Stm.own).length<=2*cZ l:=by
 induction l with
 |nil=>exact ⟨by simp[bC],by simp[bC]⟩
 |cons s l ih=>
  obtain ⟨h1,h2⟩:=Ix s
  obtain ⟨h3,h4⟩:=ih
  rw[bC,cZ,List.flatMap_append,List.length_append]
  refine ⟨fun y hy=> ?_,by omega⟩
  rcases List.mem_append.mp hy with hy|hy
  ·have:=h1 y hy;omega
  ·have:=h3 y hy;omega
theorem CK {m0 m:NH} {T:D4->Prop} {v:NV} {l:List Stm} {C:List (List NV)} (hS:SS m0 T v l C) (hC0:Chg [] m0 m) (hsz:cZ l<=10000000):
 ∃r m',bp Try.prog S0 17 [v] m r m'/\bf m m' r 1 (cM (locals l))/\Chg [] m m':=by
 refine WF.ex fun K hK=> ?_
 refine WF.of_wpM (fun _=>rfl) yz (L:= [(.e,v)]) rfl ?_
 unfold HT
 simp (disch:=first|assumption|omega) only[go_sem,seval,(GK _ hS.sl.one).wf']
 generalize hM0:hp [(.n 0,.cells true [.nils])] 1 m=M0
 have hC1:Chg [] m M0:=bh hM0 rfl
 have go0:M0.get (na m 0)=some (.cells true [.nils]):=bM hM0
 have oo0:am M0 (na m 0):=bL hM0 (by omega)
 generalize hM:hp [(.n 0,.cells true [v])] 1 M0=M
 have hC2:Chg [] M0 M:=bh hM rfl
 have gz:M.get (na M0 0)=some (.cells true [v]):=bM hM
 have oz:am M (na M0 0):=bL hM (by omega)
 have go:=(hC2.get oo0 (by simp)).trans go0
 have oo:=hC2.old oo0
 have hCm:Chg [] m M:=hC1.trans hC2 (by simp)
 generalize ht:aj [(D4.e.a.b,NV.fn 97 [NV.ptr (na M0 0) 0]),(D4.e.a.a,v),(D4.e.c,NV.ptr (na m 0) 0),(D4.e.b,NV.nils),(D4.e,v)] NT.leaf=t
 have g1:NT.get D4.e.c t=some (.ptr (na m 0) 0):=by rw[←ht];simp (disch:=first|assumption|omega) only[go_sem,seval]
 have g2:NT.get D4.e.a.b t=some (.fn 97 [.ptr (na M0 0) 0]):=by rw[←ht];simp (disch:=first|assumption|omega) only[go_sem,seval]
 clear ht
 generalize hM1:hp [(.n 1,.loop 0 .none t [D4.e.a.c] iZ iX),(.n 0,.defd true)] 2 M=M1
 have hG:Chg [] M M1:=bh hM1 rfl
 have oq:am M1 (na M 1):=bL hM1 (by omega)
 have om:am M1 (na M 0):=bL hM1 (by omega)
 have gq:M1.get (na M 1)=some (.loop 0 .none t [D4.e.a.c] iZ iX):=bM hM1
 have gm:M1.get (na M 0)=some (.defd true):=bM hM1
 have hoq:na m 0≠na M 1:=oo.ne 1
 have hCm1:Chg [] m M1:=hCm.trans hG (by simp)
 have h0:∀S,Chg [na M 1,na m 0] M1 S->Chg [] m0 S:=fun S h=>(hC0.trans hCm1 (by simp)).trans h fun i hi ho=>by
  simp only[O5,O4,or_false] at hi
  rcases hi with rfl|rfl
  ·exact OZ (hCm.old (hC0.old ho)) aB
  ·exact OZ (hC0.old ho) aB
 have hY:=Ey (T:=T) g1 h0 hoq oq (hG.old oo)
 obtain ⟨hA1,hA2⟩:=rf l
 obtain ⟨m',hr,F',⟨u,rfl,hC3,hq3,ho3,hu3,-⟩,hC4,-⟩:=A9 hY (s:=([],0)) (F:= [na M 1,na m 0]) (id:=na M0 0) ((hG.get oz (by simp)).trans gz) hS ⟨.nils,rfl,(Chg.refl M1).weak (by simp),gq,(hG.get oo (by simp)).trans go,bf.nil,by simp⟩ (LR _ _ (fun x hx=>by have:=hA1 x hx;omega) (by show 0+_<=_;omega)) (by omega)
 rw[FD] at hu3
 refine W.rangeN g2 (hM1▸hr) hq3 ?_ (hC3.old oq)
 have gm3:m'.get (na M 0)=some (.defd true):=(hC3.get om (by
  simp only[O5,O4,or_false,not_or]
  exact ⟨fun e=>by have:=jD e;omega,fun e=>oo.ne 0 e.symm⟩)).trans gm
 have om3:=hC3.old om
 have oo3:=hC3.old (hG.old oo)
 have hne:na M 0≠na M 1:=fun e=>by have:=jD e;omega
 change ip _ _ _ ⟨aj [] t,_,_,_⟩
 simp (disch:=first|assumption|omega) only[go_sem,seval,g1,gm3,om3,ho3,oo3,hoq,hne]
 generalize hMe:hp _ 0 m'=Me
 have hCe:Chg [na M 1,na M 0] m' Me:=by rw[←hMe];exact (aF rfl:Chg [na M 0,na M 1] m' _).weak (by intro i hi _;simp at hi ⊢;exact hi.symm)
 refine hK _ _ ⟨?_, ?_⟩
 ·refine (hu3.chg hCe fun i hi=> ?_).back fun i hi=>hCm1.old hi
  simp only[O5,O4,or_false,not_or]
  exact ⟨fun e=>hu3.new i hi (e▸oq),fun e=>hu3.new i hi (e▸om)⟩
 ·refine ((hCm1.weak (T:= [na M 1,na m 0,na M 0]) (by simp)).trans hC3 fun i h _=>by simp at h ⊢;rcases h with h|h<;>simp[h]).trans hCe (fun i h _=>by simp at h ⊢;rcases h with h|h<;>simp[h]) |>.weak fun i hi ho=> ?_
  simp only[O5,O4,or_false] at hi
  rcases hi with rfl|rfl|rfl
  ·exact OZ (hCm.old ho) aB
  ·exact OZ ho aB
  ·exact OZ (hCm.old ho) aB
theorem LH {m:NH} {T:D4->Prop} {v:NV} {l:List Stm} {C:List (List NV)} (h:SS m T v l C) (i:Nat) (hi:i<l.length):∃w,C[i]? =some (l[i].l w)/\RS m T l[i] (l[i].l w)/\SP m T l[i] w:=by
 obtain ⟨c,h1,h2⟩:=h.at i hi
 obtain ⟨w,rfl,h3⟩:=h2.inv'
 exact ⟨w,h1,h2,h3⟩
abbrev iu (z:Int):NV:= .int .u64 (.lit z)
noncomputable def Ai (o:Nat) (a b:Int):Int:=if o=43 then (a+b) % 18446744073709551616 else if o=45 then (a - b) % 18446744073709551616 else if o=42 then (a*b) % 18446744073709551616 else if o=38 then ((a.toNat&&& b.toNat:Nat):Int)
 else if o=61 then (if a=b then 1 else 0) else if o=60 then (if bq .i64 a<bq .i64 b then 1 else 0) else 0
def ef (z:Int):Prop:=0<=z/\z<18446744073709551616
theorem JK {o:Nat} {a b:Int} (ha:ef a) (hb:ef b):ef (Ai o a b):=by
 unfold ef at *
 unfold Ai
 split
 ·omega
 ·split
  ·omega
  ·split
   ·omega
   ·split
    ·have:=Nat.and_le_left (n:=a.toNat) (m:=b.toNat);omega
    ·split
     ·split<;>omega
     ·split
      ·split<;>omega
      ·omega
def yi (ns:List (List Nat)) (vs:List Int) (s:List Nat):Int:=if 0<=cN ns s then (vs[(cN ns s).toNat]?).getD 0 else 0
noncomputable def Fk (o:Nat):List Int->Int
 |a::b::_=>Ai o a b
 |_=>0
mutual
noncomputable def Ex.eval (ns:List (List Nat)) (vs:List Int):Ex->Int
 | .mk k n o s ks=>if k=0 then (n:Int) else if k=1 then yi ns vs s else if k=2 then Fk o (jj ns vs ks) else 0
noncomputable def jj (ns:List (List Nat)) (vs:List Int):List Ex->List Int
 | []=> []
 |x::xs=>x.eval ns vs::jj ns vs xs
end
inductive Wid:Ex->Prop
 |mk {k:Int} {n o:Nat} {s:List Nat} {ks:List Ex} (hn:n<18446744073709551616) (hl:ks.length<=9223372036854775807) (h:∀x∈ks,Wid x):Wid (.mk k n o s ks)
theorem eO {ns:List (List Nat)} {vs:List Int} (hv:∀v∈vs,ef v):∀x:Ex,Wid x->ef (x.eval ns vs):=by
 have h0:ef 0:=⟨by omega,by omega⟩
 apply Ex.ind
 intro k n o s ks ih hw
 cases hw with
 |mk hn hl hw=>
  rw[Ex.eval]
  split
  ·exact ⟨by omega,by omega⟩
  ·split
   ·unfold yi
    split
    ·cases hq:vs[(cN ns s).toNat]? with
     |none=>exact h0
     |some v=>exact hv v (List.mem_of_getElem? hq)
    ·exact h0
   ·split
    ·match ks,ih,hw with
     | [],_,_=>simpa [jj,Fk] using h0
     | [a],_,_=>simpa [jj,Fk] using h0
     |a::b::r,ih,hw=>
      simp only[jj,Fk]
      exact JK (ih a (by simp) (hw a (by simp))) (ih b (by simp) (hw b (by simp)))
    ·exact h0
theorem uO (m:NH) (q:Bool):bp Try.prog S0 117 [.bool q] m (iu (if q then 1 else 0)) m:=by
 have h:∃r m',bp Try.prog S0 117 [.bool q] m r m'/\r=iu (if q then 1 else 0)/\m'=m:=by
  refine WF.ex fun K hK=> ?_
  refine WF.of_wpG (fun _=>rfl) te (L:= [(.e,.bool q)]) rfl ?_
  unfold CS
  cases q<;>simp (disch:=first|assumption|omega) only[go_sem,seval,aa]<;>exact hK _ _ ⟨rfl,rfl⟩
 obtain ⟨r,m',h1,rfl,rfl⟩:=h
 exact h1
theorem Gu {k:IntKind} {n:Int}:Cw .i64 (.int k (.lit n))= .val (.int .i64 (.lit (bq .i64 n))):=_root_.id rfl
theorem Gp {a b:Int} (ha:ef a) (hb:ef b):cP .num .and (iu a) (iu b)=some (iu ((a.toNat&&& b.toNat:Nat):Int)):=by
 obtain ⟨x,rfl⟩:=O7 ha.1
 obtain ⟨y,rfl⟩:=O7 hb.1
 exact A7 (by have:=ha.2;omega) (by have:=hb.2;omega)
theorem Cj (m:NH) (o:Nat) {a b:Int} (ha:ef a) (hb:ef b):bp Try.prog S0 67 [u8 o,iu a,iu b] m (iu (Ai o a b)) m:=by
 have h:∃r m',bp Try.prog S0 67 [u8 o,iu a,iu b] m r m'/\r=iu (Ai o a b)/\m'=m:=by
  refine WF.ex fun K hK=> ?_
  refine WF.of_wpG (fun _=>rfl) x0 (L:= [(.b .e,iu b),(.a .e,iu a),(.e,u8 o)]) rfl ?_
  unfold HF
  have hand:=Gp ha hb
  have hf:=uO m
  by_cases h1:o=43
  ·subst h1;simp (disch:=first|assumption|omega) only[go_sem,seval,aa];exact hK _ _ ⟨rfl,rfl⟩
  ·by_cases h2:o=45
   ·subst h2;simp (disch:=first|assumption|omega) only[go_sem,seval,aa];exact hK _ _ ⟨rfl,rfl⟩
   ·by_cases h3:o=42
    ·subst h3;simp (disch:=first|assumption|omega) only[go_sem,seval,aa];exact hK _ _ ⟨rfl,rfl⟩
    ·by_cases h4:o=38
     ·subst h4;simp (disch:=first|assumption|omega) only[go_sem,seval,aa,hand];exact hK _ _ ⟨rfl,rfl⟩
     ·by_cases h5:o=61
      ·subst h5
       by_cases e:a=b
       ·simp (disch:=first|assumption|omega) only[go_sem,seval,aa,(hf _).wf'];exact hK _ _ ⟨by simp[Ai,e],rfl⟩
       ·simp (disch:=first|assumption|omega) only[go_sem,seval,aa,(hf _).wf'];exact hK _ _ ⟨by simp[Ai,e],rfl⟩
      ·by_cases h6:o=60
       ·subst h6
        by_cases e:bq .i64 a<bq .i64 b
        ·simp (disch:=first|assumption|omega) only[go_sem,seval,aa,Gu,(hf _).wf'];exact hK _ _ ⟨by simp[Ai,e],rfl⟩
        ·simp (disch:=first|assumption|omega) only[go_sem,seval,aa,Gu,(hf _).wf'];exact hK _ _ ⟨by simp[Ai,e],rfl⟩
       ·simp (disch:=first|assumption|omega) only[go_sem,seval,aa];exact hK _ _ ⟨by simp[Ai,h1,h2,h3,h4,h5,h6],rfl⟩
 obtain ⟨r,m',h1,rfl,rfl⟩:=h
 exact h1
abbrev wH (l:List Int):List (List NV):=l.map fun z=> [iu z]
structure Env (m0:NH) (vn vv:NV) (ns:List (List Nat)) (vs:List Int):Prop where
 n:Sl m0 vn 1 (cM ns)
 v:Sl m0 vv 1 (wH vs)
 i:∀z∈vs,ef z
 ln:ns.length<=1000000
 lv:vs.length<=1000000
theorem Env.grow {m0 m:NH} {vn vv:NV} {ns:List (List Nat)} {vs:List Int} (h:Env m0 vn vv ns vs) (hC:Chg [] m0 m):Env m vn vv ns vs:=⟨h.n.chg hC fun _ _=>by simp,h.v.chg hC fun _ _=>by simp,h.i,h.ln,h.lv⟩
theorem qJ {ns:List (List Nat)} {vs:List Int} {s:List Nat} {i:Nat} (h:cN ns s=i) (hi:i<vs.length):yi ns vs s=vs[i]:=by
 unfold yi
 rw[h,O1 (by omega),Int.toNat_natCast,List.getElem?_eq_getElem hi];rfl
theorem Gy {ns:List (List Nat)} {vs:List Int} {s:List Nat} (h:cN ns s<0∨(vs.length:Int)<=cN ns s):yi ns vs s=0:=by
 unfold yi
 split
 ·rw[List.getElem?_eq_none (by omega)];rfl
 ·rfl
def OW (f:Nat) (ns:List (List Nat)) (vs:List Int) (x:Ex):Prop:=∀{m0 m:NH} {T:D4->Prop} {c:List NV} {vn vv:NV},RE m0 T x c->aS T m0 m->Wid x->Env m vn vv ns vs->∃m',bp Try.prog S0 f [.agg c,vn,vv] m (iu (x.eval ns vs)) m'/\Chg [] m m'
theorem aS.grow {T:D4->Prop} {a b c:NH} (h:aS T a b) (hC:Chg [] b c):aS T a c:=fun i hi ho=>by
 obtain ⟨h1,h2⟩:=h i hi ho
 exact ⟨(hC.get h2 (by simp)).trans h1,hC.old h2⟩
theorem w6 {m0 M:NH} {T:D4->Prop} {ks:List Ex} {vk:NV} {C:List (List NV)} (hS:SE m0 T vk ks C) (hst:aS T m0 M) (i:Nat) (hi:i<ks.length):∃u id off w c,RE m0 T ks[i] (ks[i].l u)/\jh 5 vk (.int .i64 (.lit (i:Int)))= .val (.ptr id off)/\M.get id=some (.cells w c)/\am M id/\off+5<=c.length/\(c.drop off).take 5=ks[i].l u:=by
 obtain ⟨cx,hcx,hRx⟩:=hS.at i hi
 have hc:i<C.length:=by rw[hS.len];exact hi
 obtain ⟨id,off,wr,c,a1,a2,a3,a4,a5⟩:=(hS.stays hst).sl.at i hc
 obtain ⟨u,Cx,rfl,-⟩:=hRx.inv'
 rw[List.getElem?_eq_getElem hc] at hcx
 injection hcx with hcx
 exact ⟨u,id,off,wr,c,hRx,a1,a2,a3,a4,a5.trans hcx⟩
theorem d6 {m:NH} {T:D4->Prop} {x:Ex} {u:NV} (h:RE m T x (x.l u)):bz 4 (.agg (x.l u)) (.agg (x.l u))=true:=by
 cases x
 obtain ⟨v,C,e,hS⟩:=h.inv
 refine nh ?_
 intro w hw
 rw[e] at hw
 simp only[O5,O4,or_false] at hw
 rcases hw with rfl|rfl|rfl|rfl|rfl
 ·trivial
 ·trivial
 ·trivial
 ·trivial
 ·exact hS.sl.flat
theorem G3 {ns:List (List Nat)} {vs:List Int}:∀x:Ex,OW 33 ns vs x:=by
 apply Ex.ind
 intro k n o s ks ih m0 m T c vn vv hR hst hw hen
 obtain ⟨vk,C,rfl,hS⟩:=hR.inv
 refine WF.ex1 fun K hK=> ?_
 refine WF.of_wpG (fun _=>rfl) yj (L:= [(.b .e,vv),(.a .e,vn),(.e,.agg [ii k,u64 n,u8 o,.str s,vk])]) rfl ?_
 unfold JB
 generalize hM1:hp [(.n 0,.cells true [ii k,u64 n,u8 o,.str s,vk])] 1 m=M1
 have hC1:Chg [] m M1:=bh hM1 rfl
 have hg1:M1.get (na m 0)=some (.cells true [ii k,u64 n,u8 o,.str s,vk]):=bM hM1
 have hen1:=hen.grow hC1
 have hst1:=hst.grow hC1
 rw[Ex.eval] at hK
 by_cases h0:k=0
 ·rw[O1 h0] at hK
  simp (disch:=first|assumption|omega) only[go_sem,seval,hM1,hg1]
  exact hK _ hC1
 ·rw[O0 h0] at hK
  by_cases h1:k=1
  ·rw[O1 h1] at hK
   have hix:=lC hen1.n (by have:=hen.ln;omega) s
   have hlv:=hen1.v.len
   rw[List.length_map] at hlv
   have hlt:=qQ (l:=ns) (x:=s)
   have hln:=hen.ln
   by_cases hf:0<=cN ns s
   ·obtain ⟨i,hi⟩:=O7 hf
    rw[hi] at hix
    by_cases hl:i<vs.length
    ·obtain ⟨id,off,w,c,a1,a2,a3,a4,a5⟩:=hen1.v.at i (by simpa using hl)
     rw[List.getElem_map] at a5
     have c0:c[off]? =some (iu vs[i]):=aX a5 0 (by omega)
     rw[qJ hi hl] at hK
     simp (disch:=first|assumption|omega) only[go_sem,seval,hM1,hg1,hix.wf',hlv,a1,a2,c0]
     exact hK _ hC1
    ·rw[Gy (Or.inr (by omega))] at hK
     simp (disch:=first|assumption|omega) only[go_sem,seval,hM1,hg1,hix.wf',hlv]
     exact hK _ hC1
   ·rw[Gy (Or.inl (by omega))] at hK
    generalize cN ns s=z at hix hf hlt
    simp (disch:=first|assumption|omega) only[go_sem,seval,hM1,hg1,hix.wf',hlv]
    exact hK _ hC1
  ·rw[O0 h1] at hK
   have hlk:=(hS.stays hst1).sl.len
   rw[hS.len] at hlk
   cases hw with
   |mk hn hl hwk=>
    by_cases h2:k=2
    ·rw[O1 h2] at hK
     by_cases h3:2<=ks.length
     ·obtain ⟨ua,ia,oa,wa,ca,hRa,a1,a2,a3,a4,a5⟩:=w6 hS hst1 0 (by omega)
      obtain ⟨ub,ib,ob,wb,cb,hRb,b1,b2,b3,b4,b5⟩:=w6 hS hst1 1 (by omega)
      have e2:ks=ks[0]::ks[1]::ks.drop 2:=by
       rw[←List.drop_eq_getElem_cons (by omega),←List.drop_eq_getElem_cons (by omega),List.drop_zero]
      have e1:Fk o (jj ns vs ks)=Ai o (ks[0].eval ns vs) (ks[1].eval ns vs):=by
       conv=>lhs;rw[e2]
       simp only[jj,Fk]
      rw[e1] at hK
      have ma:ks[0]∈ks:=List.getElem_mem _
      have mb:ks[1]∈ks:=List.getElem_mem _
      have a1':jh 5 vk (ii 0)= .val (.ptr ia oa):=a1
      have b1':jh 5 vk (ii 1)= .val (.ptr ib ob):=b1
      obtain ⟨M2,hr2,hC2⟩:=ih _ ma hRa hst1 (hwk _ ma) hen1
      have hst2:=hst1.grow hC2
      obtain ⟨M3,hr3,hC3⟩:=ih _ mb hRb hst2 (hwk _ mb) (hen1.grow hC2)
      have ho1:am M1 (na m 0):=bL hM1 (by omega)
      have hg2:=(hC2.get ho1 (by simp)).trans hg1
      have hg3:=(hC3.get (hC2.old ho1) (by simp)).trans hg2
      have a22:=(hC2.get a3 (by simp)).trans a2
      have b22:=(hC2.get b3 (by simp)).trans b2
      have a23:=(hC3.get (hC2.old a3) (by simp)).trans a22
      have b23:=(hC3.get (hC2.old b3) (by simp)).trans b22
      have hrk:=Cj M3 o (eO (ns:=ns) hen.i _ (hwk _ ma)) (eO (ns:=ns) hen.i _ (hwk _ mb))
      have hvk:bz 4 vk vk=true:=hS.sl.same
      have hsa:=d6 hRa
      have hsb:=d6 hRb
      simp (disch:=first|assumption|omega) only[go_sem,seval,hM1,hg1,hlk,a1',a2,a5,b1',b2,b5,hr2.wf',hg2,a22,b22,hr3.wf',hg3,a23,b23,hrk.wf',hvk,hsa,hsb]
      exact hK _ ((hC1.trans hC2 (by simp)).trans hC3 (by simp))
     ·have e1:Fk o (jj ns vs ks)=0:=by
       match ks,h3 with
       | [],_=>rfl
       | [a],_=>rfl
       |a::b::r,h3=>simp at h3
      rw[e1] at hK
      simp (disch:=first|assumption|omega) only[go_sem,seval,hM1,hg1,hlk]
      exact hK _ hC1
    ·rw[O0 h2] at hK
     simp (disch:=first|assumption|omega) only[go_sem,seval,hM1,hg1]
     exact hK _ hC1
def Fy (s:Int):Bool:=decide (1<=s/\s<=64/\s.toNat&&& (s.toNat - 1)=0)
def dO:List (List Nat)->Int->List (List Nat×Int)->Int
 |_,_, []=>0
 |seen,w,c::l=>if c.1∈seen then 5 else if Fy c.2=false then 7 else if 64 - w<c.2 then 3 else dO (cC seen c.1) (w+c.2) l
def jR:List (List Nat)->List (List Nat)->Int
 |_, []=>0
 |seen,n::l=>if n∈seen then 5 else jR (cC seen n) l
theorem Cn {l:List (List Nat)} {s x:List Nat}:x∈cC l s↔x∈l∨x=s:=by
 unfold cC
 split
 ·rename_i h;constructor
  ·exact Or.inl
  ·rintro (q|rfl)
   ·exact q
   ·exact h
 ·simp
theorem zo {x:List Nat}:∀(more l:List (List Nat)),x∈more.foldl cC l↔x∈l∨x∈more:=by
 intro more
 induction more with
 |nil=>intro l;simp
 |cons a more ih=>intro l;rw[List.foldl_cons,ih,Cn,O5,or_assoc]
theorem DX {a b:Nat} (ha:a<1000) (hb:b<1000):cP .num .and (ii a) (ii b)=some (ii ((a&&& b:Nat):Int)):=
 (eR rfl).trans (bits_nat (k:= .i64) (Or.inl rfl) (by show a<9223372036854775808;omega) (by show b<9223372036854775808;omega) rfl)
theorem x8 {s:Int} (h1:1<=s) (h2:s<=64):cP .num .and (ii s) (ii (s - 1))=some (ii (s.toNat&&& (s.toNat - 1):Nat)):=by
 obtain ⟨n,rfl⟩:=O7 (by omega:0<=s)
 rw[show ((n:Int) - 1)=((n - 1:Nat):Int) by omega]
 exact DX (by omega) (by omega)
theorem DQ {m:NH} {v:NV} {l:List (List Nat×Int)} (hv:Sl m v 2 (oK l)) (hsz:l.length<=1000000):∃m',bp Try.prog S0 89 [v] m (ii (dO [] 0 l)) m'/\Chg [] m m':=by
 refine WF.ex1 fun K hK=> ?_
 refine WF.of_wpG (fun _=>rfl) yR (L:= [(.e,v)]) rfl ?_
 unfold IL
 have hlen:=hv.len
 rw[List.length_map] at hlen
 simp (disch:=first|assumption|omega) only[go_sem,seval,hlen]
 generalize hM0:hp _ 1 m=M0
 have hC0:Chg [] m M0:=bh hM0 rfl
 have hg0:M0.get (na m 0)=some (.map (fU [])):=bM hM0
 have ho0:am M0 (na m 0):=bL hM0 (by omega)
 refine W.loop (fun k d=>∃t M i seen w,d=⟨t, [],none,M⟩/\NT.get D4.e.c t=some (ii w)/\NT.get D4.e.f t=some (.map (na m 0))/\NT.get D4.e.a.f t=some v/\NT.get D4.e.b.a t=some (ii l.length)/\NT.get D4.e.b.b t=some (ii (i:Nat))/\i+k=l.length/\0<=w/\w<=64/\dO seen w (l.drop i)=dO [] 0 l/\M.get (na m 0)=some (.map (fU seen))/\am M (na m 0)/\Chg [] m M) ?_ l.length _ ⟨_,M0,0, [],0,rfl,by simp only[go_sem,seval],by simp only[go_sem,seval],by simp only[go_sem,seval],by simp only[go_sem,seval],by simp only[go_sem,seval]<;>rfl,by omega,by omega,by omega,rfl,hg0,ho0,hC0⟩
 rintro k d ⟨t,M,i,seen,w,rfl,g1,g2,g3,g4,g5,hik,hw0,hw,hE,hg,ho,hC⟩
 apply az
 unfold wU
 change wp _ _ _ _ ⟨aj [] t, [],none,M⟩ _
 rw[←aa M]
 by_cases hi:i<l.length
 ·obtain ⟨id,off,wr,c,a1,a2,a3,a4,a5⟩:=hv.at i (by simpa using hi)
  rw[List.getElem_map] at a5
  have a2':=(hC.get a3 (by simp)).trans a2
  have a3':=hC.old a3
  rw[List.drop_eq_getElem_cons hi] at hE
  generalize hc:l[i]=cc at hE a5
  obtain ⟨n,s⟩:=cc
  rw[dO] at hE
  dsimp only at hE a5
  by_cases hin:n∈seen
  ·rw[O1 hin] at hE
   have hd:decide (n∈seen)=true:=O3 hin
   simp (disch:=first|assumption|omega|(simp only[aU]<;>omega)) only[go_sem,seval,g1,g2,g3,g4,g5,hlen,a1,a2',a5,hg,hd]
   rw[←hE] at hK
   exact hK _ (fy hC rfl)
  ·rw[O0 hin] at hE
   have hd:decide (n∈seen)=false:=O2 hin
   by_cases hpw:Fy s=true
   ·rw[O0 (by simp[hpw])] at hE
    have hp':=of_decide_eq_true hpw
    obtain ⟨p1,p2,p3⟩:=hp'
    have hpa:=x8 p1 p2
    rw[p3] at hpa
    by_cases hlw:64 - w<s
    ·rw[O1 hlw] at hE
     simp (disch:=first|assumption|omega|(simp only[aU]<;>omega)) only[go_sem,seval,g1,g2,g3,g4,g5,hlen,a1,a2',a5,hg,hd,hpa]
     rw[←hE] at hK
     exact hK _ (fy hC rfl)
    ·rw[O0 hlw] at hE
     simp (disch:=first|assumption|omega|(simp only[aU]<;>omega)) only[go_sem,seval,g1,g2,g3,g4,g5,hlen,a1,a2',a5,hg,hd,hpa]
     generalize hM1:hp _ 1 M=M1
     have hC1:Chg [na m 0] M M1:=bh hM1 rfl
     refine ⟨k - 1,by omega,_,M1,i+1,_,w+s,by rfl,by simp only[go_sem,seval],by simp only[go_sem,seval,g2],by simp only[go_sem,seval,g3],by simp only[go_sem,seval,g4],by simp only[go_sem,seval]<;>rfl,by omega,by omega,by omega,hE, ?_,hC1.old ho,hC.trans hC1 fun i hi ho=> ?_⟩
     ·rw[←hM1];exact (aJ ho).trans au
     ·have hi:=one hi;subst hi;exact OZ ho aB
   ·have hpw:Fy s=false:=by simpa using hpw
    rw[O1 hpw] at hE
    have hp':=of_decide_eq_false hpw
    by_cases h1:s<1
    ·simp (disch:=first|assumption|omega|(simp only[aU]<;>omega)) only[go_sem,seval,g1,g2,g3,g4,g5,hlen,a1,a2',a5,hg,hd]
     rw[←hE] at hK
     exact hK _ (fy hC rfl)
    ·by_cases h2:64<s
     ·simp (disch:=first|assumption|omega|(simp only[aU]<;>omega)) only[go_sem,seval,g1,g2,g3,g4,g5,hlen,a1,a2',a5,hg,hd]
      rw[←hE] at hK
      exact hK _ (fy hC rfl)
     ·have hpa:=x8 (by omega:1<=s) (by omega)
      have hne:s.toNat&&& (s.toNat - 1)≠0:=fun h=>hp' ⟨by omega,by omega,h⟩
      generalize s.toNat&&& (s.toNat - 1)=r at hpa hne
      simp (disch:=first|assumption|omega|(simp only[aU]<;>omega)) only[go_sem,seval,g1,g2,g3,g4,g5,hlen,a1,a2',a5,hg,hd,hpa]
      rw[←hE] at hK
      exact hK _ (fy hC rfl)
 ·simp (disch:=first|assumption|omega) only[go_sem,seval,g1,g2,g3,g4,g5,hlen]
  rw[List.drop_of_length_le (by omega),dO] at hE
  rw[←hE] at hK
  rw[aa]
  exact hK _ hC
theorem zY {m:NH} {T:D4->Prop} {v:NV} {l:List (List Nat×List Stm)} {C:List (List NV)} (hT:Ths m T v l C) (hsz:l.length<=1000000):∃m',bp Try.prog S0 90 [v] m (ii (jR [] (l.map (·.1)))) m'/\Chg [] m m':=by
 refine WF.ex1 fun K hK=> ?_
 refine WF.of_wpG (fun _=>rfl) xQ (L:= [(.e,v)]) rfl ?_
 unfold Hw
 have hlen:=hT.sl.len
 rw[hT.len] at hlen
 simp (disch:=first|assumption|omega) only[go_sem,seval,hlen]
 generalize hM0:hp _ 1 m=M0
 have hC0:Chg [] m M0:=bh hM0 rfl
 have hg0:M0.get (na m 0)=some (.map (fU [])):=bM hM0
 have ho0:am M0 (na m 0):=bL hM0 (by omega)
 refine W.loop (fun k d=>∃t M i seen,d=⟨t, [],none,M⟩/\NT.get D4.e.c t=some (.map (na m 0))/\NT.get D4.e.a.c t=some v/\NT.get D4.e.a.f t=some (ii l.length)/\NT.get D4.e.b.a t=some (ii (i:Nat))/\i+k=l.length/\jR seen ((l.map (·.1)).drop i)=jR [] (l.map (·.1))/\M.get (na m 0)=some (.map (fU seen))/\am M (na m 0)/\Chg [] m M) ?_ l.length _ ⟨_,M0,0, [],rfl,by simp only[go_sem,seval],by simp only[go_sem,seval],by simp only[go_sem,seval],by simp only[go_sem,seval]<;>rfl,by omega,rfl,hg0,ho0,hC0⟩
 rintro k d ⟨t,M,i,seen,rfl,g1,g2,g3,g4,hik,hE,hg,ho,hC⟩
 apply az
 unfold wY
 change wp _ _ _ _ ⟨aj [] t, [],none,M⟩ _
 rw[←aa M]
 by_cases hi:i<l.length
 ·obtain ⟨vb,B,id,off,wr,c,-,a1,a2,a3,a4,a5⟩:=hT.at i hi
  have a2':=(hC.get a3 (by simp)).trans a2
  have a3':=hC.old a3
  rw[List.drop_eq_getElem_cons (by simpa using hi),List.getElem_map,jR] at hE
  generalize l[i].1=n at hE a5
  by_cases hin:n∈seen
  ·rw[O1 hin] at hE
   have hd:decide (n∈seen)=true:=O3 hin
   simp (disch:=first|assumption|omega|(simp only[aU]<;>omega)) only[go_sem,seval,g1,g2,g3,g4,hlen,a1,a2',a5,hg,hd]
   rw[←hE] at hK
   exact hK _ (fy hC rfl)
  ·rw[O0 hin] at hE
   have hd:decide (n∈seen)=false:=O2 hin
   simp (disch:=first|assumption|omega|(simp only[aU]<;>omega)) only[go_sem,seval,g1,g2,g3,g4,hlen,a1,a2',a5,hg,hd]
   generalize hM1:hp _ 1 M=M1
   have hC1:Chg [na m 0] M M1:=bh hM1 rfl
   refine ⟨k - 1,by omega,_,M1,i+1,_,by rfl,by simp only[go_sem,seval,g1],by simp only[go_sem,seval,g2],by simp only[go_sem,seval,g3],by simp only[go_sem,seval]<;>rfl,by omega,hE, ?_,hC1.old ho,hC.trans hC1 fun i hi ho=> ?_⟩
   ·rw[←hM1];exact (aJ ho).trans au
   ·have hi:=one hi;subst hi;exact OZ ho aB
 ·simp (disch:=first|assumption|omega) only[go_sem,seval,g1,g2,g3,g4,hlen]
  rw[List.drop_of_length_le (by simp;omega),jR] at hE
  rw[←hE] at hK
  rw[aa]
  exact hK _ hC
def m8 (p:Prg):Int:=if 16<p.cs.length∨p.ts.length=0∨4<p.ts.length then 3 else if dO [] 0 p.cs≠0 then dO [] 0 p.cs else jR [] (p.ts.map (·.1))
theorem In {m:NH} {T:D4->Prop} {p:Prg} {vc vt vr:NV} (h:RP m T p vc vt vr) (hs:p.cs.length<=1000000/\p.ts.length<=1000000):∃m',bp Try.prog S0 48 [.agg [vc,vt,vr]] m (ii (m8 p)) m'/\Chg [] m m':=by
 refine WF.ex1 fun K hK=> ?_
 refine WF.of_wpG (fun _=>rfl) yH (L:= [(.e,.agg [vc,vt,vr])]) rfl ?_
 unfold JY
 obtain ⟨C,hT⟩:=h.t
 have l1:=h.c.len
 have l2:=hT.sl.len
 rw[List.length_map] at l1
 rw[hT.len] at l2
 unfold m8 at hK
 by_cases h1:16<p.cs.length
 ·rw[O1 (Or.inl h1)] at hK
  simp (disch:=first|assumption|omega) only[go_sem,seval,l1,l2]
  exact hK _ (aF rfl)
 ·by_cases h2:p.ts.length=0
  ·rw[O1 (Or.inr (Or.inl h2))] at hK
   simp (disch:=first|assumption|omega) only[go_sem,seval,l1,l2]
   exact hK _ (aF rfl)
  ·by_cases h3:4<p.ts.length
   ·rw[O1 (Or.inr (Or.inr h3))] at hK
    simp (disch:=first|assumption|omega) only[go_sem,seval,l1,l2]
    exact hK _ (aF rfl)
   ·rw[O0 (by omega)] at hK
    have hC1:Chg [] m (hp [(.n 0,.cells true [vc,vt,vr])] 1 m):=aF rfl
    obtain ⟨m2,hr,hC2⟩:=DQ (h.c.chg hC1 fun _ _=>by simp) hs.1
    have g2:m2.get (na m 0)=some (.cells true [vc,vt,vr]):=(hC2.get (bW (by omega)) (by simp)).trans bP
    have o2:am m2 (na m 0):=hC2.old (bW (by omega))
    have hC:=hC1.trans hC2 (by simp)
    simp (disch:=first|assumption|omega) only[go_sem,seval,l1,l2,hr.wf',g2,o2]
    by_cases h4:dO [] 0 p.cs=0
    ·rw[O0 (by simpa using h4)] at hK
     rw[h4]
     obtain ⟨m3,hr3,hC3⟩:=zY (hT.stays (wE hC T)) hs.2
     simp (disch:=first|assumption|omega) only[go_sem,seval,g2,o2,hr3.wf']
     exact hK _ (hC.trans hC3 (by simp))
    ·rw[O1 h4] at hK
     have hd:decide (dO [] 0 p.cs≠0)=true:=O3 h4
     simp (disch:=first|assumption|omega) only[go_sem,seval,g2,o2,hd]
     exact hK _ hC
structure Sp where
 (k d a b c t ce n o:Int)
abbrev ib (z:Int):NV:= .int .u8 (.lit z)
abbrev Sp.l (s:Sp):List NV:= [ii s.k,ii s.d,ii s.a,ii s.b,ii s.c,ii s.t,ii s.ce,iu s.n,ib s.o]
structure Ms where
 st:List Sp
 (v lb:Int)
structure Ms.ok (X:Ms) (k:Nat):Prop where
 s:X.st.length+k<=1000000000
 v0:0<=X.v
 v:X.v+k<=1000000000
 l0:0<=X.lb
 l:X.lb+k<=1000000000
theorem Ms.ok.weak {X:Ms} {k j:Nat} (h:X.ok k) (hj:j<=k):X.ok j:=⟨by have:=h.s;omega,h.v0,by have:=h.v;omega,h.l0,by have:=h.l;omega⟩
structure MK (B m:NH) (r:D4) (vc vn:NV) (lo:Int) (vs:NV) (X:Ms):Prop where
 g:m.get r=some (.cells true [vc,vn,ii X.v,ii lo,vs,ii X.lb])
 o:am m r
 nB:¬am B r
 s:bf B m vs 9 (X.st.map Sp.l)
 n:r∉ids vs
 c:Chg [] B m
structure Ev (r:D4) (vs vs':NV) (m m':NH):Prop where
 c:Chg (r::ids vs) m m'
 f:∀j∈ids vs',j∈ids vs∨¬am m j
section
variable {B m m' m'' M:NH} {r i:D4} {vc vn vs vs' vs'':NV} {lo:Int} {X X':Ms}
theorem Ev.trans (h:Ev r vs vs' m m') (h':Ev r vs' vs'' m' m''):Ev r vs vs'' m m'':=
 ⟨h.c.trans h'.c fun i hi ho=>by
  rcases List.mem_cons.mp hi with rfl|hi
  ·exact List.mem_cons_self ..
  ·exact (h.f i hi).elim (fun q=>List.mem_cons_of_mem _ q) fun q=>OZ ho q,
 fun j hj=>(h'.f j hj).elim (h.f j) fun q=>Or.inr fun ho=>q (h.c.old ho)⟩
theorem Ev.pre (hC:Chg [] m m') (h:Ev r vs vs' m' m''):Ev r vs vs' m m'':=
 ⟨(hC.weak (T:=r::ids vs) (by simp)).trans h.c fun i hi _=>hi,fun j hj=>(h.f j hj).imp id fun q ho=>q (hC.old ho)⟩
theorem Ev.grow (hC:Chg [] m m'):Ev r vs vs m m':=⟨hC.weak (by simp),fun j hj=>Or.inl hj⟩
theorem Ev.get (h:Ev r vs vs' m m') (ho:am m i) (hr:i≠r) (hi:i∉ids vs):m'.get i=m.get i:=h.c.get ho (by simp[hr,hi])
theorem Ev.nin (h:Ev r vs vs' m m') (ho:am m i) (hi:i∉ids vs):i∉ids vs':=fun q=>(h.f i q).elim hi fun q=>q ho
theorem MK.grow (h:MK B m r vc vn lo vs X) (hC:Chg [] m m'):MK B m' r vc vn lo vs X:=
 ⟨(hC.get h.o (by simp)).trans h.g,hC.old h.o,h.nB,h.s.chg hC fun _ _=>by simp,h.n,h.c.trans hC (by simp)⟩
theorem MK.new (h:MK B m r vc vn lo vs X) (k:Nat):na m k≠r/\na m k∉ids vs:=⟨fun e=>h.o.ne k e.symm,fun q=>aB (h.s.sl.old _ q)⟩
theorem MK.chg (h:MK B m r vc vn lo vs X) (hE:Ev r vs vs' m m'):Chg [] B m':=h.c.trans hE.c fun i hi ho=>by
 rcases List.mem_cons.mp hi with rfl|hi
 ·exact OZ ho h.nB
 ·exact OZ ho (h.s.new i hi)
end
section
variable {B m:NH} {r:D4} {vc vn vs:NV} {lo:Int} {X:Ms}
end
section
variable {B m:NH} {r:D4} {vc vn vs:NV} {lo:Int} {X:Ms}
end
def lF (z:Int):Int:=max 1 (min z 64)
theorem wW (z:Int):1<=lF z/\lF z<=64:=by unfold lF;omega
def br:List (List Nat×Int)->Int
 | []=>0
 |c::l=>lF c.2+br l
theorem gI (l:List (List Nat×Int)):0<=br l/\br l<=64*l.length:=by
 induction l with
 |nil=>simp[br]
 |cons c l ih=>have:=wW c.2;rw[br,List.length_cons];omega
theorem nP (l:List (List Nat×Int)):∀(i:Nat) (hi:i<l.length),br (l.take (i+1))=br (l.take i)+lF l[i].2:=by
 induction l with
 |nil=>intro i hi;simp at hi
 |cons c l ih=>
  intro i hi
  cases i with
  |zero=>simp[br]
  |succ i=>
   have:=ih i (by simpa using hi)
   rw[List.take_succ_cons,br,this,List.take_succ_cons,br,List.getElem_cons_succ];omega
def MP (l:List (List Nat×Int)) (i:Int):Int:=if 0<=i/\i<l.length then 4096+8*br (l.take i.toNat) else 4096
theorem yg {m:NH} {v:NV} {l:List (List Nat×Int)} (hv:Sl m v 2 (oK l)) (hsz:l.length<=1000000):∃m',bp Try.prog S0 72 [v] m (ii (br l)) m'/\Chg [] m m':=by
 refine WF.ex1 fun K hK=> ?_
 refine WF.of_wpG (fun _=>rfl) ym (L:= [(.e,v)]) rfl ?_
 unfold HA
 have hlen:=hv.len
 rw[List.length_map] at hlen
 simp (disch:=first|assumption|omega) only[go_sem,seval,hlen,aa]
 refine W.loop (fun k d=>∃t M i,d=⟨t, [],none,M⟩/\NT.get D4.e.c t=some (ii (br (l.take i)))/\NT.get D4.e.a.b t=some v/\NT.get D4.e.a.c t=some (ii l.length)/\NT.get D4.e.a.f t=some (ii (i:Nat))/\i+k=l.length/\Chg [] m M) ?_ l.length _ ⟨_,m,0,rfl,by simp only[go_sem,seval]<;>rfl,by simp only[go_sem,seval],by simp only[go_sem,seval],by simp only[go_sem,seval]<;>rfl,by omega,Chg.refl m⟩
 rintro k d ⟨t,M,i,rfl,g1,g2,g3,g4,hik,hC⟩
 apply az
 unfold wM
 change wp _ _ _ _ ⟨aj [] t, [],none,M⟩ _
 rw[←aa M]
 by_cases hi:i<l.length
 ·obtain ⟨id,off,wr,c,a1,a2,a3,a4,a5⟩:=hv.at i (by simpa using hi)
  rw[List.getElem_map] at a5
  have a2':=(hC.get a3 (by simp)).trans a2
  have a3':=hC.old a3
  have hw:=nP l i hi
  have hb:=gI (l.take i)
  rw[List.length_take] at hb
  have hc:=wW l[i].2
  unfold lF at hw hc
  simp (disch:=first|assumption|omega|(simp only[aU]<;>omega)) only[go_sem,seval,g1,g2,g3,g4,hlen,a1,a2',a5]
  exact ⟨k - 1,by omega,_,_,i+1,by rfl,by simp only[go_sem,seval,hw],by simp only[go_sem,seval,g2],by simp only[go_sem,seval,g3],by simp only[go_sem,seval]<;>rfl,by omega,fy hC rfl⟩
 ·rw[List.take_of_length_le (by omega)] at g1
  simp (disch:=first|assumption|omega) only[go_sem,seval,g1,g2,g3,g4,hlen,aa]
  exact hK _ hC
theorem GZ {m:NH} {oc:D4} {s nm:List Nat} {z:Int} (hc:m.get oc=some (.cells true [.str s])) (ho:am m oc):∃m',bp Try.prog S0 175 [.agg [.str nm,ii z],.ptr oc 0] m (.bool (decide (nm=s))) m'/\Chg [] m m':=by
 refine WF.ex1 fun K hK=> ?_
 refine WF.of_wpG (fun _=>rfl) rS (L:= [(.a .e,.ptr oc 0),(.e,.agg [.str nm,ii z])]) rfl ?_
 unfold Cq
 simp (disch:=first|assumption|omega) only[go_sem,seval,hc]
 exact hK _ (aF rfl)
theorem Jp {m:NH} {v:NV} {l:List (List Nat×Int)} {oc:D4} {s:List Nat} (hv:Sl m v 2 (oK l)) (hsz:l.length<=1000000) (hc:m.get oc=some (.cells true [.str s])) (ho:am m oc):
 ∃m',bp Try.prog S0 174 [v,.fn 175 [.ptr oc 0]] m (ii (cN (l.map (·.1)) s)) m'/\Chg [] m m':=by
 refine WF.ex1 fun K hK=> ?_
 refine WF.of_wpG (fun _=>rfl) tl (L:= [(.a .e,.fn 175 [.ptr oc 0]),(.e,v)]) rfl ?_
 unfold Bc
 have hlen:=hv.len
 rw[List.length_map] at hlen
 simp (disch:=first|assumption|omega) only[go_sem,seval,hlen,aa]
 refine W.loop (fun k d=>∃t M i,d=⟨t, [],none,M⟩/\NT.get D4.e t=some v/\NT.get D4.e.a t=some (.fn 175 [.ptr oc 0])/\NT.get D4.e.a.c t=some (ii l.length)/\NT.get D4.e.a.f t=some (ii (i:Nat))/\i+k=l.length/\Chg [] m M/\∀j (hj:j<i) (hl:j<l.length),s≠l[j].1) ?_ l.length _ ⟨_,m,0,rfl,by simp only[go_sem,seval],by simp only[go_sem,seval],by simp only[go_sem,seval],by simp only[go_sem,seval]<;>rfl,by omega,Chg.refl m,by simp⟩
 rintro k d ⟨t,M,i,rfl,g1,g2,g3,g4,hik,hC,hn⟩
 apply az
 unfold sy
 change wp _ _ _ _ ⟨aj [] t, [],none,M⟩ _
 by_cases hi:i<l.length
 ·obtain ⟨id,off,wr,c,a1,a2,a3,a4,a5⟩:=hv.at i (by simpa using hi)
  rw[List.getElem_map] at a5
  have a2':=(hC.get a3 (by simp)).trans a2
  obtain ⟨M2,hr,hC2⟩:=GZ (nm:=l[i].1) (z:=l[i].2) ((hC.get ho (by simp)).trans hc) (hC.old ho)
  by_cases he:l[i].1=s
  ·rw[O3 he] at hr
   simp (disch:=first|assumption|omega) only[go_sem,seval,g1,g2,g3,g4,a1,a2',a5,hr.wf']
   have hf:cN (l.map (·.1)) s=i:=ga (by simpa using hi) (by simp[he]) fun j hj=>by rw[List.getElem_map];exact hn j hj (by omega)
   rw[hf] at hK
   exact hK _ (hC.trans hC2 (by simp))
  ·rw[O2 he] at hr
   simp (disch:=first|assumption|omega) only[go_sem,seval,g1,g2,g3,g4,a1,a2',a5,hr.wf']
   refine ⟨k - 1,by omega,_,M2,i+1,by rfl,by simp only[go_sem,seval,g1],by simp only[go_sem,seval,g2],by simp only[go_sem,seval,g3],by simp only[go_sem,seval]<;>rfl,by omega,hC.trans hC2 (by simp),fun j hj hl=> ?_⟩
   rcases Nat.lt_or_ge j i with q|q
   ·exact hn j q hl
   ·obtain rfl:j=i:=by omega
    exact fun q=>he q.symm
 ·simp (disch:=first|assumption|omega) only[go_sem,seval,g1,g2,g3,g4]
  have hf:cN (l.map (·.1)) s=-1:=iV fun j hj=>by rw[List.getElem_map];exact hn j (by simp at hj;omega) (by simpa using hj)
  rw[hf] at hK
  exact hK _ hC
theorem Jy {m:NH} {v:NV} {l:List (List Nat×Int)} (hv:Sl m v 2 (oK l)) (hsz:l.length<=1000000) (s:List Nat):∃m',bp Try.prog S0 165 [v,.str s] m (ii (cN (l.map (·.1)) s)) m'/\Chg [] m m':=by
 refine WF.ex1 fun K hK=> ?_
 refine WF.of_wpG (fun _=>rfl) tT (L:= [(.a .e,.str s),(.e,v)]) rfl ?_
 unfold C8
 have hC:Chg [] m (hp [(.n 0,.cells true [.str s])] 1 m):=aF rfl
 have hg:(hp [(.n 0,.cells true [.str s])] 1 m).get (na m 0)=some (.cells true [.str s]):=bP
 have ho:am (hp [(.n 0,.cells true [.str s])] 1 m) (na m 0):=bW (by omega)
 obtain ⟨m2,hr,hC2⟩:=Jp (hv.chg hC fun _ _=>by simp) hsz hg ho
 simp (disch:=first|assumption|omega) only[go_sem,seval,hr.wf']
 exact hK _ (hC.trans hC2 (by simp))
theorem Ny {m:NH} {v:NV} {l:List (List Nat×Int)} (hv:Sl m v 2 (oK l)) (hsz:l.length<=1000000) (i:Int):∃m',bp Try.prog S0 166 [v,ii i] m (ii (MP l i)) m'/\Chg [] m m':=by
 refine WF.ex1 fun K hK=> ?_
 refine WF.of_wpG (fun _=>rfl) tp (L:= [(.a .e,ii i),(.e,v)]) rfl ?_
 unfold BQ
 have hlen:=hv.len
 rw[List.length_map] at hlen
 unfold MP at hK
 by_cases h0:i<0
 ·rw[O0 (by omega)] at hK
  simp (disch:=first|assumption|omega) only[go_sem,seval,aa]
  exact hK _ (Chg.refl m)
 ·by_cases h1:i<l.length
  ·rw[O1 (by omega)] at hK
   simp (disch:=first|assumption|omega) only[go_sem,seval,aa,hlen]
   obtain ⟨n,rfl⟩:=O7 (by omega:0<=i)
   refine xz hv (a:=0) (b:=n) (by omega) (by simp;omega) (fun K=>by (simp (disch:=first|assumption|omega) only[go_sem,seval])) (fun d K hd=>by (simp (disch:=first|assumption|omega) only[go_sem,seval])) ?_
   intro v2 hv2 hi2
   have hw:((oK l).drop 0).take (n - 0)=oK (l.take n):=by simp[List.map_take]
   rw[hw] at hv2
   obtain ⟨m2,hr,hC2⟩:=yg hv2 (by simp;omega)
   have hb:=gI (l.take n)
   rw[List.length_take] at hb
   simp (disch:=first|assumption|omega) only[go_sem,seval,hr.wf',Gx]
   exact hK _ hC2
  ·rw[O0 (by omega)] at hK
   simp (disch:=first|assumption|omega) only[go_sem,seval,aa,hlen]
   exact hK _ (Chg.refl m)
abbrev jl:=List (List Stm×Nat)
def bo:jl->jl
 | []=> []
 |x::K=>if x.2<x.1.length then x::K else bo K
def gY:jl->jl
 | []=> []
 |x::K=>(x.1,x.2+1)::K
structure Bd where
 K:jl
 v:List Int
 s:Int
def GI (n:Nat):jl->Prop
 | []=>True
 | [x]=>cZ x.1<=n
 |x::y::K=>cZ x.1<cZ y.1/\GI n (y::K)
theorem rV {n:Nat} {x:List Stm×Nat} {K:jl} (h:GI n (x::K)):GI n K:=by
 cases K with
 |nil=>trivial
 |cons y K=>exact h.2
theorem E9 {n:Nat}:∀{K:jl} {x:List Stm×Nat},GI n (x::K)->K.length+cZ x.1<=n:=by
 intro K
 induction K with
 |nil=>intro x h;rw[GI] at h;simpa using h
 |cons y K ih=>
  intro x h
  have:=ih h.2
  have:=h.1
  rw[List.length_cons];omega
def Gs (cs:List (List Nat×Int)) (t:Stm):Prop:=∀u∈t.all,(u.k=1∨u.k=2∨u.k=3->u.ce∈cs.map (·.1))/\Wid u.i/\Wid u.x/\Wid u.y
structure BdOk (cs:List (List Nat×Int)) (ns:List (List Nat)) (x:Bd):Prop where
 ch:GI 1000000 x.K
 gs:∀y∈x.K,∀t∈y.1,Gs cs t
 pos:∀y∈x.K,y.2<=y.1.length
 iv:∀z∈x.v,ef z
 ln:ns.length<=1000000
 lv:x.v.length=ns.length
theorem sO {K:jl}:∀y∈bo K,y∈K:=by
 induction K with
 |nil=>simp[bo]
 |cons x K ih=>
  intro y hy
  rw[bo] at hy
  split at hy
  ·exact hy
  ·exact List.mem_cons_of_mem _ (ih y hy)
theorem Fj {n:Nat} {K:jl} (h:GI n K):GI n (bo K):=by
 induction K with
 |nil=>exact h
 |cons x K ih=>
  rw[bo]
  split
  ·exact h
  ·exact ih (rV h)
theorem BdOk.trim {cs:List (List Nat×Int)} {ns:List (List Nat)} {x:Bd} (h:BdOk cs ns x):BdOk cs ns ⟨bo x.K,x.v,x.s⟩:=⟨Fj h.ch,fun y hy=>h.gs y (sO y hy),fun y hy=>h.pos y (sO y hy),h.iv,h.ln,h.lv⟩
structure StkC (B:NH) (K:jl) (C:List (List NV)):Prop where
 n:C.length=K.length
 c:∀(j:Nat) (x:List Stm×Nat) (c:List NV),K[j]? =some x->C[j]? =some c->∃vl E,c= [vl,ii x.2]/\SS B (fun _=>True) vl x.1 E
theorem StkC.app {B:NH} {K:jl} {C:List (List NV)} {x:List Stm×Nat} {c:List NV} (h:StkC B K C) (hx:∃vl E,c= [vl,ii x.2]/\SS B (fun _=>True) vl x.1 E):StkC B (K++ [x]) (C++ [c]):=by
 refine ⟨by simp[h.n],fun j y d h1 h2=> ?_⟩
 by_cases hj:j<K.length
 ·rw[List.getElem?_append_left hj] at h1
  rw[List.getElem?_append_left (by rw[h.n];exact hj)] at h2
  exact h.c j y d h1 h2
 ·rw[List.getElem?_append_right (by omega)] at h1
  rw[List.getElem?_append_right (by rw[h.n];omega),h.n] at h2
  have hl:=(List.getElem?_eq_some_iff.1 h1).1
  simp only[List.length_singleton] at hl
  have e:j - K.length=0:=by omega
  rw[e] at h1 h2
  cases h1;cases h2
  exact hx
theorem StkC.last {B:NH} {K:jl} {C:List (List NV)} {x:List Stm×Nat} (h:StkC B (K++ [x]) C):∃C0 c,C=C0++ [c]/\StkC B K C0/\∃vl E,c= [vl,ii x.2]/\SS B (fun _=>True) vl x.1 E:=by
 have hl:=h.n
 rw[List.length_append,List.length_singleton] at hl
 have hC:C=C.take K.length++ [C[K.length]'(by omega)]:=by
  conv=>lhs;rw[←List.take_append_drop K.length C]
  rw[List.drop_eq_getElem_cons (by omega),List.drop_eq_nil_of_le (by omega)]
 refine ⟨_,_,hC,⟨by rw[List.length_take];omega,fun j y d h1 h2=> ?_⟩, ?_⟩
 ·have hj:=(List.getElem?_eq_some_iff.1 h1).1
  rw[List.getElem?_take_of_lt hj] at h2
  exact h.c j y d (by rw[List.getElem?_append_left hj];exact h1) h2
 ·exact h.c K.length x _ (by simp) (List.getElem?_eq_getElem (by omega))
structure Bod (mk:NV->NV->NV->Int->List NV) (B m:NH) (b:D4) (pl nm vv:NV) (ns:List (List Nat)) (x:Bd):Prop where
 g:m.get b=some (.cells true (mk pl nm vv x.s))
 o:am m b
 nB:¬am B b
 p:∃C,bf B m pl 2 C/\StkC B x.K.reverse C
 v:bf B m vv 1 (wH x.v)
 n:bf B m nm 1 (cM ns)
 d1:b∉ids pl/\b∉ids vv/\b∉ids nm
 d2:∀i∈ids pl,i∉ids vv/\i∉ids nm
 d3:∀i∈ids vv,i∉ids nm
 c:Chg [] B m
def dv (b:D4) (pl nm vv:NV):List D4:=b::(ids pl++(ids vv++ids nm))
structure EvF (F F':List D4) (m m':NH):Prop where
 c:Chg F m m'
 f:∀j∈F',j∈F∨¬am m j
section
variable {mk:NV->NV->NV->Int->List NV} {B m m' m'':NH} {b:D4} {pl nm vv:NV} {ns:List (List Nat)} {x:Bd} {F F' F'':List D4}
theorem EvF.trans (h:EvF F F' m m') (h':EvF F' F'' m' m''):EvF F F'' m m'':=
 ⟨h.c.trans h'.c fun i hi ho=>(h.f i hi).elim id fun q=>OZ ho q,fun j hj=>(h'.f j hj).elim (h.f j) fun q=>Or.inr fun ho=>q (h.c.old ho)⟩
theorem EvF.refl (m:NH):EvF F F m m:=⟨(Chg.refl m).weak (by simp),fun j hj=>Or.inl hj⟩
theorem EvF.grow (hC:Chg [] m m'):EvF F F m m':=⟨hC.weak (by simp),fun j hj=>Or.inl hj⟩
theorem EvF.pre (hC:Chg [] m m') (h:EvF F F' m' m''):EvF F F' m m'':=(EvF.grow hC).trans h
theorem EvF.post (h:EvF F F' m m') (hC:Chg [] m' m''):EvF F F' m m'':=h.trans (EvF.grow hC)
theorem EvF.nin (h:EvF F F' m m') {i:D4} (ho:am m i) (hi:i∉F):i∉F':=fun q=>(h.f i q).elim hi fun q=>q ho
theorem EvF.get (h:EvF F F' m m') {i:D4} (ho:am m i) (hi:i∉F):m'.get i=m.get i:=h.c.get ho hi
theorem Bod.old (h:Bod mk B m b pl nm vv ns x):∀i∈dv b pl nm vv,am m i/\¬am B i:=by
 obtain ⟨C,hp,-⟩:=h.p
 intro i hi
 rcases List.mem_cons.1 hi with rfl|hi
 ·exact ⟨h.o,h.nB⟩
 rcases List.mem_append.1 hi with hi|hi
 ·exact ⟨hp.sl.old i hi,hp.new i hi⟩
 rcases List.mem_append.1 hi with hi|hi
 ·exact ⟨h.v.sl.old i hi,h.v.new i hi⟩
 ·exact ⟨h.n.sl.old i hi,h.n.new i hi⟩
theorem Bod.off {S:List D4} (h:Bod mk B m b pl nm vv ns x) (hC:Chg S m m') (hS:∀i∈dv b pl nm vv,i∉S) (hB:∀i∈S,¬am B i):Bod mk B m' b pl nm vv ns x:=by
 obtain ⟨C,hp,hk⟩:=h.p
 have hb:=hS b (List.mem_cons_self ..)
 refine ⟨(hC.get h.o hb).trans h.g,hC.old h.o,h.nB,⟨C,hp.chg hC fun i hi=>hS i (by simp[dv,hi]),hk⟩,h.v.chg hC fun i hi=>hS i (by simp[dv,hi]),h.n.chg hC fun i hi=>hS i (by simp[dv,hi]),h.d1,h.d2,h.d3,h.c.trans hC fun i hi ho=>OZ ho (hB i hi)⟩
theorem Bod.grow (h:Bod mk B m b pl nm vv ns x) (hC:Chg [] m m'):Bod mk B m' b pl nm vv ns x:=h.off hC (by simp) (by simp)
theorem Bod.env {cs:List (List Nat×Int)} (h:Bod mk B m b pl nm vv ns x) (hk:BdOk cs ns x):Env m nm vv ns x.v:=⟨h.n.sl,h.v.sl,hk.iv,hk.ln,by rw[hk.lv];exact hk.ln⟩
theorem bf.front {B m:NH} {id:D4} {off kc e:Nat} {C D:List (List NV)} {c:List NV} (h0:∀y∈C++D,y.length=e) (hb:¬am B id) (h1:m.get id=some (.cells true c)) (h2:am m id) (h3:off+(C++D).length*e<=c.length) (h3':off+kc*e<=c.length) (h4:(c.drop off).take ((C++D).length*e)=(C++D).flatten):bf B m (.slc id off C.length e kc) e C:=by
 have hl:C.length*e<=(C++D).length*e:=Nat.mul_le_mul_right _ (by simp)
 refine ⟨fun y hy=>h0 y (List.mem_append_left _ hy),Or.inr ⟨id,off,kc,c,rfl,hb,h1,h2,by omega,h3', ?_⟩⟩
 have e1:(c.drop off).take (C.length*e)=((c.drop off).take ((C++D).length*e)).take (C.length*e):=by rw[List.take_take,Nat.min_eq_left hl]
 rw[e1,h4,List.flatten_append,←dG fun y hy=>h0 y (List.mem_append_left _ hy),List.take_left]
end
abbrev nU (pl nm vv:NV) (s:Int):List NV:= [pl,nm,vv,ii s]
abbrev OP (pl nm vv:NV) (s:Int):List NV:= [nm,vv,pl,.bool (decide (s=2)),.bool (decide (s=1))]
def C7 (B:NH) (w:NV) (t:Stm):Prop:=∃id off wr c W,w= .ptr id off/\B.get id=some (.cells wr c)/\am B id/\off+21<=c.length/\(c.drop off).take 21=t.l W/\SP B (fun _=>True) t W
theorem SS.ptr {B:NH} {vl:NV} {l:List Stm} {E:List (List NV)} (h:SS B (fun _=>True) vl l E) (i:Nat) (hi:i<l.length):∃w,jh 21 vl (.int .i64 (.lit (i:Int)))= .val w/\C7 B w l[i]:=by
 obtain ⟨W,hW,-,hS⟩:=LH h i hi
 obtain ⟨id,off,wr,c,a1,a2,a3,a4,a5⟩:=h.sl.at i (by rw[h.len];exact hi)
 rw[List.getElem?_eq_getElem (by rw[h.len];exact hi)] at hW
 injection hW with hW
 exact ⟨_,a1,id,off,wr,c,W,rfl,a2,a3,a4,a5.trans hW,hS⟩
section
variable {B m:NH} {b:D4} {pl nm vv:NV} {ns:List (List Nat)} {x:Bd} {cs:List (List Nat×Int)}
theorem BdOk.bnd (h:BdOk cs ns x) {y:List Stm×Nat} {K:jl} (hK:x.K=y::K):K.length<=1000000/\y.1.length<=1000000/\y.2<=y.1.length:=by
 have h1:=h.ch
 rw[hK] at h1
 have h2:=E9 h1
 have h3:=rz y.1
 exact ⟨by omega,by omega,h.pos y (by rw[hK];simp)⟩
theorem Bod.putP {pl' vv':NV} {x':Bd} {m':NH} {mk:NV->NV->NV->Int->List NV} (h:Bod mk B m b pl nm vv ns x) (hg:m'.get b=some (.cells true (mk pl' nm vv' x'.s))) (hC:Chg (dv b pl nm vv) m m') (hp:∃C,bf B m' pl' 2 C/\StkC B x'.K.reverse C) (hv:bf B m' vv' 1 (wH x'.v)) (hn:∀i∈ids nm,m'.get i=m.get i) (hpn:∀i∈ids pl',i∈ids pl∨¬am m i) (hvn:ids vv'=ids vv):Bod mk B m' b pl' nm vv' ns x'/\EvF (dv b pl nm vv) (dv b pl' nm vv') m m':=by
 refine ⟨⟨hg,hC.old h.o,h.nB,hp,hv, ?_,⟨fun q=>(hpn _ q).elim h.d1.1 fun q=>q h.o,by rw[hvn];exact h.d1.2.1,h.d1.2.2⟩,fun i hi=> ?_,by rw[hvn];exact h.d3,h.c.trans hC fun i hi ho=>OZ ho (h.old i hi).2⟩,hC,fun j hj=> ?_⟩
 ·obtain ⟨h0,⟨rfl,e⟩|⟨id,off,kc,c,rfl,hb',h1,h2,h3⟩⟩:=h.n
  ·exact ⟨h0,Or.inl ⟨rfl,e⟩⟩
  ·exact ⟨h0,Or.inr ⟨id,off,kc,c,rfl,hb',(hn id (by simp[ids])).trans h1,hC.old h2,h3⟩⟩
 ·rcases hpn i hi with q|q
  ·rw[hvn];exact h.d2 i q
  ·exact ⟨fun q2=>q (by rw[hvn] at q2;exact h.v.sl.old i q2),fun q2=>q (h.n.sl.old i q2)⟩
 ·simp only[dv,O5,List.mem_append] at hj ⊢
  rw[hvn] at hj
  rcases hj with hj|hj|hj|hj
  ·exact Or.inl (Or.inl hj)
  ·exact (hpn j hj).imp (fun q=>Or.inr (Or.inl q)) id
  ·exact Or.inl (Or.inr (Or.inr (Or.inl hj)))
  ·exact Or.inl (Or.inr (Or.inr (Or.inr hj)))
theorem Bod.rows {mk:NV->NV->NV->Int->List NV} {K':jl} {m':NH} (h:Bod mk B m b pl nm vv ns x) (hC:Chg (ids pl) m m') (hp:∃C,bf B m' pl 2 C/\StkC B K'.reverse C):Bod mk B m' b pl nm vv ns ⟨K',x.v,x.s⟩/\EvF (dv b pl nm vv) (dv b pl nm vv) m m':=
 h.putP ((hC.get h.o h.d1.1).trans h.g) (hC.weak fun i hi _=>by simp[dv,hi]) hp (h.v.chg hC fun i hi q=>(h.d2 i q).1 hi) (fun i hi=>hC.get (h.n.sl.old i hi) fun q=>(h.d2 i q).2 hi) (fun i hi=>Or.inl hi) rfl
theorem mX (h:Bod nU B m b pl nm vv ns x) (hk:BdOk cs ns x) {y:List Stm×Nat} {K:jl} (hK:x.K=y::K):
 ∃m',bp Try.prog S0 124 [.ptr b 0] m (.tup []) m'/\Bod nU B m' b pl nm vv ns ⟨gY x.K,x.v,x.s⟩/\EvF (dv b pl nm vv) (dv b pl nm vv) m m':=by
 obtain ⟨hK1,hK2,hK3⟩:=hk.bnd hK
 refine WF.ex1 fun K' hK'=> ?_
 refine WF.of_wpG (fun _=>rfl) uh (L:= [(.e,.ptr b 0)]) rfl ?_
 unfold CP
 obtain ⟨C,hP,hC⟩:=h.p
 rw[hK,List.reverse_cons] at hC
 obtain ⟨C0,c,rfl,hC0,vl,E,rfl,hS⟩:=hC.last
 have hn:=hC0.n
 rw[List.length_reverse] at hn
 obtain ⟨id,off,cc,a1,a2,a3,a4,a5,a6,a7,a8⟩:=hP.at C0.length (by simp)
 rw[List.getElem_append_right (by omega)] at a7 a8
 simp only[Nat.sub_self,List.getElem_cons_zero] at a7 a8
 have c1:cc[off+1]? =some (ii y.2):=aX a7 1 (by omega)
 have hlen:=hP.sl.len
 have e1:(((C0++ [[vl,ii y.2]]).length:Nat):Int) - 1=(C0.length:Nat):=by simp
 have g:=h.g
 simp (disch:=first|assumption|omega) only[go_sem,seval,g,hlen,e1,a1,a4,c1]
 generalize hM:hp _ 0 m=M
 refine hK' _ ?_
 refine h.rows (by rw[←hM,a2];exact (eA _ _ _).weak (by simp[aE])) ⟨C0++ [[vl,ii (y.2+1:Nat)]], ?_, ?_⟩
 ·have:=a8 [(1,ii (y.2+1:Nat))] M (by simp) (jO a5 hM) (by rw[←hM];exact bJ a5)
  rw[List.set_append_right _ _ (by omega),Nat.sub_self] at this
  exact this
 ·rw[hK,gY,List.reverse_cons]
  exact hC0.app ⟨vl,E,rfl,hS⟩
theorem Bod.vals {mk:NV->NV->NV->Int->List NV} {v':List Int} {m':NH} (h:Bod mk B m b pl nm vv ns x) (hC:Chg (ids vv) m m') (hv:bf B m' vv 1 (wH v')):Bod mk B m' b pl nm vv ns ⟨x.K,v',x.s⟩/\EvF (dv b pl nm vv) (dv b pl nm vv) m m':=by
 obtain ⟨C,hP,hk⟩:=h.p
 exact h.putP (x':=⟨x.K,v',x.s⟩) ((hC.get h.o h.d1.2.1).trans h.g) (hC.weak fun i hi _=>by simp[dv,hi]) ⟨C,hP.chg hC fun i hi=>(h.d2 i hi).1,hk⟩ hv (fun i hi=>hC.get (h.n.sl.old i hi) fun q=>h.d3 i q hi) (fun i hi=>Or.inl hi) rfl
def hJ (ns:List (List Nat)) (v:List Int) (s:List Nat) (z:Int):List Int:=if 0<=cN ns s then v.set (cN ns s).toNat z else v
theorem B8 (ns:List (List Nat)) (v:List Int) (s:List Nat) (z:Int):(hJ ns v s z).length=v.length:=by unfold hJ;split<;>simp
theorem DO {v:List Int} {s:List Nat} {z:Int} (hv:∀z∈v,ef z) (hz:ef z):∀y∈hJ ns v s z,ef y:=by
 unfold hJ
 split
 ·intro y hy
  rcases List.mem_or_eq_of_mem_set hy with hy|rfl
  ·exact hv y hy
  ·exact hz
 ·exact hv
theorem BdOk.set (h:BdOk cs ns x) {s:List Nat} {z:Int} (hz:ef z):BdOk cs ns ⟨x.K,hJ ns x.v s z,x.s⟩:=⟨h.ch,h.gs,h.pos,DO h.iv hz,h.ln,by rw[B8];exact h.lv⟩
theorem yu (h:Bod nU B m b pl nm vv ns x) (hk:BdOk cs ns x) (s:List Nat) (z:Int):
 ∃m',bp Try.prog S0 156 [.ptr b 0,.str s,iu z] m (.tup []) m'/\Bod nU B m' b pl nm vv ns ⟨x.K,hJ ns x.v s z,x.s⟩/\EvF (dv b pl nm vv) (dv b pl nm vv) m m':=by
 have hln:=hk.ln
 refine WF.ex1 fun K' hK'=> ?_
 refine WF.of_wpG (fun _=>rfl) tM (L:= [(.b .e,iu z),(.a .e,.str s),(.e,.ptr b 0)]) rfl ?_
 unfold BH
 have g:=h.g
 have hi:=lC (m:=hp [] 0 m) (v:=nm) (l:=ns) (by rw[aa];exact h.n.sl) (by omega) s
 obtain ⟨hl1,hl2⟩:=qQ (l:=ns) (x:=s)
 by_cases h0:0<=cN ns s
 ·obtain ⟨n,hn⟩:=O7 h0
  obtain ⟨id,off,cc,a1,a2,a3,a4,a5,a6,a7,a8⟩:=h.v.at n (by rw[List.length_map,hk.lv];omega)
  rw[hn] at hi
  have hbi:b≠id:=fun e=>h.d1.2.1 (by rw[a2,e];simp)
  simp (disch:=first|assumption|omega) only[go_sem,seval,g,hi.wf',a1,a4]
  generalize hM:hp _ 0 m=M
  refine hK' _ ?_
  refine h.vals (by rw[←hM,a2];exact (eA _ _ _).weak (by simp[aE])) ?_
  have:=a8 [(0,iu z)] M (by simp) (jO a5 hM) (by rw[←hM];exact bJ a5)
  unfold hJ
  rw[O1 h0,hn,Int.toNat_natCast]
  show bf B M vv 1 ((x.v.set n z).map fun z=> [iu z])
  rw[List.map_set]
  rw[List.getElem_map] at this
  exact this
 ·simp (disch:=first|assumption|omega) only[go_sem,seval,g,hi.wf']
  refine hK' _ ?_
  unfold hJ
  rw[O0 h0,aa]
  exact ⟨h,EvF.refl m⟩
theorem fN (h:Bod nU B m b pl nm vv ns x) (hk:BdOk cs ns x) {e:Ex} {c:List NV} (hR:RE B (fun _=>True) e c) (hw:Wid e):
 ∃m',bp Try.prog S0 158 [.ptr b 0,.agg c] m (iu (e.eval ns x.v)) m'/\Chg [] m m':=by
 refine WF.ex1 fun K' hK'=> ?_
 refine WF.of_wpG (fun _=>rfl) tO (L:= [(.a .e,.agg c),(.e,.ptr b 0)]) rfl ?_
 unfold BU
 obtain ⟨u,C,rfl,hS⟩:=hR.inv'
 generalize hM:hp [(.n 0,.cells true (e.l u))] 1 m=M
 have hC1:Chg [] m M:=bh hM rfl
 have gc:M.get (na m 0)=some (.cells true (e.l u)):=bM hM
 have oc:am M (na m 0):=bL hM (by omega)
 have g1:=(h.grow hC1).g
 have o1:=(h.grow hC1).o
 obtain ⟨m',r,hC⟩:=G3 e (hR) (wE ((h.grow hC1).c) _) hw ((h.grow hC1).env hk)
 have hs:=d6 hR
 have hn1:=h.n.sl.same (n:=3)
 have hv1:=h.v.sl.same (n:=3)
 simp (disch:=first|assumption|omega|(simp only[aU]<;>omega)) only[go_sem,seval,hM,gc,g1,r.wf',hs,hn1,hv1]
 exact hK' _ (hC1.trans hC (by simp))
theorem BdOk.enter {l:List Stm} (h:BdOk cs ns x) {y:List Stm×Nat} {K:jl} (hK:x.K=y::K) (hl:cZ l<cZ y.1) (hg:∀u∈l,Gs cs u) (q:Nat) (hq:q<=y.1.length):BdOk cs ns ⟨(l,0)::(y.1,q)::K,x.v,x.s⟩:=by
 have hc:=h.ch
 rw[hK] at hc
 refine ⟨⟨hl,by cases K<;>exact hc⟩,fun z hz=> ?_,fun z hz=> ?_,h.iv,h.ln,h.lv⟩
 ·rcases List.mem_cons.1 hz with rfl|hz
  ·exact hg
  ·rcases List.mem_cons.1 hz with rfl|hz
   ·exact h.gs y (by rw[hK];simp)
   ·exact h.gs z (by rw[hK];simp[hz])
 ·rcases List.mem_cons.1 hz with rfl|hz
  ·exact Nat.zero_le _
  ·rcases List.mem_cons.1 hz with rfl|hz
   ·exact hq
   ·exact h.pos z (by rw[hK];simp[hz])
theorem qF (h:Bod nU B m b pl nm vv ns x) (hkl:x.K.length<=1000001) {v:NV} {l:List Stm} {E:List (List NV)} (hS:SS B (fun _=>True) v l E):
 ∃m' pl',bp Try.prog S0 159 [.ptr b 0,v] m (.tup []) m'/\Bod nU B m' b pl' nm vv ns ⟨(l,0)::x.K,x.v,x.s⟩/\EvF (dv b pl nm vv) (dv b pl' nm vv) m m':=by
 suffices hh:∃u m',bp Try.prog S0 159 [.ptr b 0,v] m u m'/\u= .tup []/\∃pl',Bod nU B m' b pl' nm vv ns ⟨(l,0)::x.K,x.v,x.s⟩/\EvF (dv b pl nm vv) (dv b pl' nm vv) m m' by
  obtain ⟨u,m',r,rfl,pl',q⟩:=hh
  exact ⟨m',pl',r,q⟩
 refine WF.ex fun K' hK'=> ?_
 refine WF.of_wpG (fun _=>rfl) rW (L:= [(.a .e,v),(.e,.ptr b 0)]) rfl ?_
 unfold Dl
 obtain ⟨C,hP,hC⟩:=h.p
 have g:=h.g
 have hn:=hC.n
 rw[List.length_reverse] at hn
 have hv1:=hS.sl.one
 simp (disch:=first|assumption|omega|(simp only[aU]<;>omega)) only[go_sem,seval,g,hv1]
 have hC1:Chg [] m (hp [(.n 0,.cells true [v,ii 0])] 1 m):=aF rfl
 refine ir (cs:= [v,ii 0]) (hP.chg hC1 fun _ _=>by simp) bP (bW (by omega)) rfl (fun i hi=>hC1.old (h.c.old hi)) (by omega) (by omega) ?_
 intro pl' M2 hP2 hC2 hF2
 have hb2:=(hC2.get (hC1.old h.o) h.d1.1).trans ((h.grow hC1).g)
 have ob2:=hC2.old (hC1.old h.o)
 rw[←aa M2]
 have hp1:=hP2.sl.one
 simp (disch:=first|assumption|omega|(simp only[aU]<;>omega)) only[go_sem,seval,hb2,hp1]
 generalize hM:hp _ 0 M2=M
 have hC3:Chg [b] M2 M:=pk hM (by simp[aE])
 have hCm2:Chg (ids pl) m M2:=(hC1.weak (by simp)).trans hC2 fun i hi _=>hi
 have hbp:b∉ids pl':=fun q=>(hF2 b q).elim h.d1.1 fun q=>q (hC1.old h.o)
 have hCm:Chg (dv b pl nm vv) m M:=(hCm2.weak fun i hi _=>by simp[dv,hi]).trans hC3 fun i hi _=>by have hi:=one hi;subst hi;simp[dv]
 refine hK' _ _ ⟨rfl,pl', ?_⟩
 refine h.putP (x':=⟨(l,0)::x.K,x.v,x.s⟩) ?_ hCm ⟨_,hP2.chg hC3 fun i hi q=> ?_, ?_⟩ ?_ ?_ ?_ rfl
 ·rw[←hM];exact (aJ ob2).trans au
 ·have q:=one q;subst q;exact hbp hi
 ·rw[List.reverse_cons]
  exact hC.app ⟨v,E,rfl,hS⟩
 ·exact (h.v.chg hCm2 fun i hi q=>(h.d2 i q).1 hi).chg hC3 fun i hi q=>by have q:=one q;subst q;exact h.d1.2.1 hi
 ·intro i hi
  have ho:=h.n.sl.old i hi
  exact (hC3.get (hCm2.old ho) (fun q=>by have q:=one q;subst q;exact h.d1.2.2 hi)).trans (hCm2.get ho fun q=>(h.d2 i q).2 hi)
 ·exact fun i hi=>(hF2 i hi).imp id fun q ho=>q (hC1.old ho)
end
section
variable {B m:NH} {b:D4} {pl nm vv:NV} {ns:List (List Nat)} {x:Bd} {cs:List (List Nat×Int)}
def LV (B:NH) (w:NV):jl->Prop
 | []=>w= .nilp
 |y::_=>∃h:y.2<y.1.length,C7 B w y.1[y.2]
theorem Bod.cut {mk:NV->NV->NV->Int->List NV} {m':NH} {y:List Stm×Nat} {K:jl} {id:D4} {off kc n:Nat} (h:Bod mk B m b (.slc id off n 2 kc) nm vv ns x) (hK:x.K=y::K) (hg:m'.get b=some (.cells true (mk (.slc id off (n - 1) 2 kc) nm vv x.s))) (hC:Chg [b] m m'):
 Bod mk B m' b (.slc id off (n - 1) 2 kc) nm vv ns ⟨K,x.v,x.s⟩/\EvF (dv b (.slc id off n 2 kc) nm vv) (dv b (.slc id off (n - 1) 2 kc) nm vv) m m':=by
 have hb:∀i,am m i->i≠b->m'.get i=m.get i:=fun i ho hi=>hC.get ho (by simpa using hi)
 refine h.putP (x':=⟨K,x.v,x.s⟩) hg (hC.weak fun i hi _=>by have hi:=one hi;subst hi;simp[dv]) ?_ ?_ ?_ (fun i hi=>Or.inl hi) rfl
 ·obtain ⟨C,⟨h0,⟨e,-⟩|⟨id',off',kc',c,e,hb',h1,h2,h3,h3',h4⟩⟩,hC'⟩:=h.p
  ·cases e
  ·cases e
   rw[hK,List.reverse_cons] at hC'
   obtain ⟨C0,c0,rfl,hC0,-⟩:=hC'.last
   refine ⟨C0, ?_,hC0⟩
   have e1:(C0++ [c0]).length - 1=C0.length:=by simp
   rw[e1]
   have hne:id≠b:=fun e=>h.d1.1 (by rw[e];simp[ids])
   exact bf.front h0 hb' ((hb id h2 hne).trans h1) (hC.old h2) h3 h3' h4
 ·exact h.v.chg hC fun i hi q=>by have q:=one q;subst q;exact h.d1.2.1 hi
 ·exact fun i hi=>hb i (h.n.sl.old i hi) fun e=>h.d1.2.2 (e▸hi)
theorem Jk (h:Bod nU B m b pl nm vv ns x) (hk:BdOk cs ns x):
 ∃w m',bp Try.prog S0 122 [.ptr b 0] m w m'/\LV B w (bo x.K)/\∃pl',Bod nU B m' b pl' nm vv ns ⟨bo x.K,x.v,x.s⟩/\EvF (dv b pl nm vv) (dv b pl' nm vv) m m':=by
 refine WF.ex fun K' hK'=> ?_
 refine WF.of_wpG (fun _=>rfl) tu (L:= [(.e,.ptr b 0)]) rfl ?_
 unfold BJ
 obtain ⟨C,hP,hC⟩:=h.p
 have g:=h.g
 have hlen:=hP.sl.len
 rw[hC.n,List.length_reverse] at hlen
 have hb:x.K.length<=1000001:=by
  cases hK:x.K with
  |nil=>simp
  |cons y K=>have:=(hk.bnd hK).1;rw[List.length_cons];omega
 simp (disch:=first|assumption|omega) only[go_sem,seval,aa,g,hlen]
 refine W.loop (fun k d=>∃t M pl' K,d=⟨t, [],none,M⟩/\NT.get D4.e t=some (.ptr b 0)/\NT.get D4.e.c t=some (ii ((K.length:Nat) - 1))/\K.length=k/\bo K=bo x.K/\BdOk cs ns ⟨K,x.v,x.s⟩/\Bod nU B M b pl' nm vv ns ⟨K,x.v,x.s⟩/\EvF (dv b pl nm vv) (dv b pl' nm vv) m M) ?_ x.K.length _ ⟨_,m,pl,x.K,rfl,by simp only[go_sem,seval],by simp only[go_sem,seval],rfl,rfl,hk,h,EvF.refl m⟩
 clear hP hC hlen hb g
 rintro k d ⟨t,M,pl',K,rfl,t1,t2,hKk,hT,hk1,h1,hE⟩
 apply az
 unfold sJ
 change wp _ _ _ _ ⟨aj [] t, [],none,M⟩ _
 have g:=h1.g
 obtain ⟨C,hP,hC⟩:=h1.p
 cases K with
 |nil=>
  simp (disch:=first|assumption|omega) only[go_sem,seval,t1,t2]
  exact hK' _ _ (by rw[←hT];exact ⟨rfl,pl',h1,hE⟩)
 |cons y K=>
  obtain ⟨b1,b2,b3⟩:=hk1.bnd rfl
  simp only[List.reverse_cons] at hC
  obtain ⟨C0,c,rfl,hC0,vl,E,rfl,hS⟩:=hC.last
  have hn:=hC0.n
  rw[List.length_reverse] at hn
  obtain ⟨id,off,cc,a1,a2,a3,a4,a5,a6,a7,a8⟩:=hP.at C0.length (by simp)
  rw[List.getElem_append_right (by omega)] at a7
  simp only[Nat.sub_self,List.getElem_cons_zero] at a7
  have c0:cc[off+0]? =some vl:=aX a7 0 (by omega)
  have c1:cc[off+1]? =some (ii y.2):=aX a7 1 (by omega)
  have hlS:=hS.sl.len
  rw[hS.len] at hlS
  rw[List.length_cons] at t2 hKk
  have e1:(((K.length+1:Nat):Int) - 1)=(C0.length:Nat):=by omega
  rw[e1] at t2
  by_cases hy:y.2<y.1.length
  ·obtain ⟨w,hw,hPS⟩:=hS.ptr y.2 hy
   have hvl:=hS.sl.same (n:=3)
   simp (disch:=first|assumption|omega) only[go_sem,seval,t1,t2,g,a1,a4,c0,c1,hlS,hw,hvl]
   have e:bo (y::K)=y::K:=by rw[bo,O1 hy]
   exact hK' _ _ (by rw[←hT,e];exact ⟨⟨hy,hPS⟩,pl',h1,hE⟩)
  ·have hPl:=hP
   obtain ⟨h0,⟨e,e'⟩|⟨idp,offp,kcp,cp,rfl,hbp,p1,p2,p3,p3',p4⟩⟩:=hPl
   ·simp at e'
   ·rw[←aa M]
    have hl2:(C0++ [[vl,ii y.2]]).length=C0.length+1:=by simp
    rw[hl2] at g a1
    have ob:=h1.o
    simp (disch:=first|assumption|omega|(simp only[aU]<;>omega)) only[go_sem,seval,t1,t2,g,a1,a4,c0,c1,hlS]
    generalize hM2:hp _ 0 M=M2
    rw[hl2] at h1
    obtain ⟨q1,q2⟩:=h1.cut (m':=M2) rfl (jO h1.o hM2) (pk hM2 (by simp[aE]))
    have e:bo (y::K)=bo K:=by rw[bo,O0 hy]
    rw[e] at hT
    rw[hl2] at hE
    exact ⟨K.length,by omega,_,M2,_,K,by rfl,by simp only[go_sem,seval,t1],by simp only[go_sem,seval];rw[show ((K.length:Nat):Int)=C0.length by omega],rfl,hT,⟨rV hk1.ch,fun z hz=>hk1.gs z (List.mem_cons_of_mem _ hz),fun z hz=>hk1.pos z (List.mem_cons_of_mem _ hz),hk1.iv,hk1.ln,hk1.lv⟩,q1,hE.trans q2⟩
end
theorem fb {c L:List NV} {off e:Nat} (h:(c.drop off).take e=L) (j n:Nat) (hj:j+n<=e):(c.drop (off+j)).take n=(L.drop j).take n:=by
 rw[←h,List.drop_take,List.take_take,List.drop_drop,Nat.min_eq_left (by omega)]
noncomputable def cu (ns:List (List Nat)) (t:Stm) (x:Bd):Bd:=
 if t.k=6 then ⟨(if t.x.eval ns x.v≠0 then t.b else t.e,0)::gY x.K,x.v,x.s⟩
 else if t.k=7 then (if t.x.eval ns x.v≠0 then ⟨(t.b,0)::x.K,x.v,x.s⟩ else ⟨gY x.K,x.v,x.s⟩)
 else if t.k=0 then ⟨gY x.K,hJ ns x.v t.nm (t.x.eval ns x.v),x.s⟩
 else ⟨gY x.K,x.v,x.s⟩
section
variable {B m:NH} {b:D4} {pl nm vv:NV} {ns:List (List Nat)} {x:Bd} {cs:List (List Nat×Int)}
theorem BdOk.pass (h:BdOk cs ns x) {y:List Stm×Nat} {K:jl} (hK:x.K=y::K) (hy:y.2<y.1.length):BdOk cs ns ⟨gY x.K,x.v,x.s⟩:=by
 have hc:=h.ch
 rw[hK] at hc ⊢
 refine ⟨by rw[gY];cases K<;>exact hc,fun z hz=> ?_,fun z hz=> ?_,h.iv,h.ln,h.lv⟩
 ·rcases List.mem_cons.1 hz with rfl|hz
  ·exact h.gs y (by rw[hK];simp)
  ·exact h.gs z (by rw[hK];simp[hz])
 ·rcases List.mem_cons.1 hz with rfl|hz
  ·exact hy
  ·exact h.pos z (by rw[hK];simp[hz])
theorem CY {l:List Stm} {t:Stm} (h:t∈l):t.sz<=cZ l:=by
 induction l with
 |nil=>simp at h
 |cons s l ih=>
  rw[cZ]
  rcases List.mem_cons.1 h with rfl|h
  ·omega
  ·have:=ih h;omega
theorem Kj (t:Stm):cZ t.b<t.sz/\cZ t.e<t.sz:=by cases t;simp only[Stm.b,Stm.e,Stm.sz];omega
theorem MB {t:Stm} (h:Gs cs t) (hk:t.k=6∨t.k=7):∀u∈t.b,Gs cs u:=by
 intro u hu w hw
 refine h w ?_
 have:=oE hu hw
 cases t
 simp only[Stm.k,Stm.b] at hk this
 rw[Stm.all,O1 hk]
 simp[this]
theorem Ot {t:Stm} (h:Gs cs t) (hk:t.k=6):∀u∈t.e,Gs cs u:=by
 intro u hu w hw
 refine h w ?_
 have:=oE hu hw
 cases t
 simp only[Stm.k,Stm.e] at hk this
 rw[Stm.all,O1 hk]
 simp[this]
theorem mz {t:Stm} (h:Gs cs t):(t.k=1∨t.k=2∨t.k=3->t.ce∈cs.map (·.1))/\Wid t.i/\Wid t.x/\Wid t.y:=h t (by cases t;rw[Stm.all];simp)
theorem BdOk.quiet (h:BdOk cs ns x) {y:List Stm×Nat} {K:jl} (hK:x.K=y::K) (hy:y.2<y.1.length):BdOk cs ns (cu ns y.1[y.2] x):=by
 have ht:y.1[y.2]∈y.1:=List.getElem_mem hy
 have hG:=h.gs y (by rw[hK];simp) _ ht
 have hz:=CY ht
 have hbe:=Kj y.1[y.2]
 generalize y.1[y.2]=t at *
 unfold cu
 split
 ·rename_i k6
  rw[hK,gY]
  split
  ·exact h.enter hK (by omega) (MB hG (by omega)) _ hy
  ·exact h.enter hK (by omega) (Ot hG (by omega)) _ hy
 split
 ·rename_i k7
  split
  ·have:=h.enter hK (by omega) (MB hG (by omega)) y.2 (by omega)
   rw[hK]
   exact this
  ·exact h.pass hK hy
 split
 ·exact (h.pass hK hy).set (eO h.iv _ (mz hG).2.2.1)
 ·exact h.pass hK hy
theorem Eq (h:Bod nU B m b pl nm vv ns x) (hk:BdOk cs ns x) {y:List Stm×Nat} {K:jl} (hK:x.K=y::K) (hy:y.2<y.1.length) {w:NV} (hw:C7 B w y.1[y.2]):
 ∃m',bp Try.prog S0 125 [.ptr b 0,w] m (.tup []) m'/\∃pl',Bod nU B m' b pl' nm vv ns (cu ns y.1[y.2] x)/\EvF (dv b pl nm vv) (dv b pl' nm vv) m m':=by
 have hG:=mz (hk.gs y (by rw[hK];simp) _ (List.getElem_mem hy))
 have hkl:x.K.length<=1000001:=by have:=(hk.bnd hK).1;rw[hK,List.length_cons];omega
 generalize y.1[y.2]=t at *
 refine WF.ex1 fun K' hK'=> ?_
 refine WF.of_wpG (fun _=>rfl) tz (L:= [(.a .e,w),(.e,.ptr b 0)]) rfl ?_
 unfold Dt
 obtain ⟨id,off,wr,c,W,rfl,p1,p2,p3,p4,hSP⟩:=hw
 have q0:c[off+0]? =some (ii t.k):=aX p4 0 (by omega)
 have q2:c[off+2]? =some (.str t.nm):=aX p4 2 (by omega)
 have q19:c[off+19]? =some W.vb:=aX p4 19 (by omega)
 have q20:c[off+20]? =some W.ve:=aX p4 20 (by omega)
 have q9:(c.drop (off+9)).take 5=t.x.l W.vx:=fb p4 9 5 (by omega)
 have pm:=(h.c.get p2 (by simp)).trans p1
 unfold cu at hK'
 by_cases k6:t.k=6
 ·simp only[O1 k6] at hK'
  obtain ⟨m1,r1,h1,e1⟩:=mX h hk hK
  have hk1:=hk.pass hK hy
  have pm1:=(h1.c.get p2 (by simp)).trans p1
  obtain ⟨m2,r2,hC2⟩:=fN h1 hk1 hSP.x hG.2.2.1
  have h2:=h1.grow hC2
  have pm2:=(h2.c.get p2 (by simp)).trans p1
  obtain ⟨Eb,hSb⟩:=hSP.b
  obtain ⟨Ee,hSe⟩:=hSP.e
  have hpl:(gY x.K).length<=1000001:=by rw[hK] at hkl ⊢;simpa [gY] using hkl
  by_cases hz:t.x.eval ns x.v≠0
  ·simp only[O1 hz] at hK'
   obtain ⟨m3,pl3,r3,h3,e3⟩:=qF h2 hpl hSb
   rw[aa]
   simp (disch:=first|assumption|omega) only[go_sem,seval,pm,q0,r1.wf',pm1,q9,r2.wf',pm2,q19,r3.wf']
   exact hK' _ ⟨pl3,h3,(e1.post hC2).trans e3⟩
  ·simp only[O0 hz] at hK'
   obtain ⟨m3,pl3,r3,h3,e3⟩:=qF h2 hpl hSe
   rw[aa]
   simp (disch:=first|assumption|omega) only[go_sem,seval,pm,q0,r1.wf',pm1,q9,r2.wf',pm2,q20,r3.wf']
   exact hK' _ ⟨pl3,h3,(e1.post hC2).trans e3⟩
 ·simp only[O0 k6] at hK'
  by_cases k7:t.k=7
  ·simp only[O1 k7] at hK'
   obtain ⟨m2,r2,hC2⟩:=fN h hk hSP.x hG.2.2.1
   have h2:=h.grow hC2
   have pm2:=(h2.c.get p2 (by simp)).trans p1
   obtain ⟨Eb,hSb⟩:=hSP.b
   by_cases hz:t.x.eval ns x.v≠0
   ·simp only[O1 hz] at hK'
    obtain ⟨m3,pl3,r3,h3,e3⟩:=qF h2 hkl hSb
    rw[aa]
    simp (disch:=first|assumption|omega) only[go_sem,seval,pm,q0,q9,r2.wf',pm2,q19,r3.wf']
    exact hK' _ ⟨pl3,h3,EvF.pre hC2 e3⟩
   ·simp only[O0 hz] at hK'
    obtain ⟨m3,r3,h3,e3⟩:=mX h2 hk hK
    rw[aa]
    simp (disch:=first|assumption|omega) only[go_sem,seval,pm,q0,q9,r2.wf',pm2,r3.wf']
    exact hK' _ ⟨pl,h3,EvF.pre hC2 e3⟩
  ·simp only[O0 k7] at hK'
   by_cases k0:t.k=0
   ·simp only[O1 k0] at hK'
    obtain ⟨m2,r2,hC2⟩:=fN h hk hSP.x hG.2.2.1
    have h2:=h.grow hC2
    have pm2:=(h2.c.get p2 (by simp)).trans p1
    obtain ⟨m3,r3,h3,e3⟩:=yu h2 hk t.nm (t.x.eval ns x.v)
    obtain ⟨m4,r4,h4,e4⟩:=mX h3 (hk.set (eO hk.iv _ hG.2.2.1)) hK
    rw[aa]
    simp (disch:=first|assumption|omega) only[go_sem,seval,pm,q0,q2,q9,r2.wf',pm2,r3.wf',r4.wf']
    exact hK' _ ⟨pl,h4,(EvF.pre hC2 e3).trans e4⟩
   ·simp only[O0 k0] at hK'
    obtain ⟨m4,r4,h4,e4⟩:=mX h hk hK
    rw[aa]
    simp (disch:=first|assumption|omega) only[go_sem,seval,pm,q0,r4.wf']
    exact hK' _ ⟨pl,h4,e4⟩
def gZ (l:List Stm):Bd:=⟨[(l,0)],List.replicate (locals l).length 0,0⟩
theorem pL (l:List Stm):(locals l).length<=2*cZ l:=by
 have h1:=ig ((bC l).flatMap Stm.own) []
 have h2:=(rf l).2
 unfold locals
 simp only[List.length_nil] at h1
 omega
theorem w7 (hC0:Chg [] B m) {vl:NV} {l:List Stm} {E:List (List NV)} (hS:SS B (fun _=>True) vl l E) (hz:cZ l<=1000000):
 ∃w m',bp Try.prog S0 121 [vl] m w m'/\∃b pl nm vv,w= .ptr b 0/\Bod nU B m' b pl nm vv (locals l) (gZ l)/\Chg [] m m'/\∀i∈dv b pl nm vv,¬am m i:=by
 refine WF.ex fun K' hK'=> ?_
 refine WF.of_wpG (fun _=>rfl) sr (L:= [(.e,vl)]) rfl ?_
 unfold CD
 obtain ⟨nm,m1,r1,hn,hC1⟩:=CK hS hC0 (by omega)
 have hlen:=hn.sl.len
 rw[List.length_map] at hlen
 have hn1:=hn.sl.one
 have hv1:=hS.sl.one
 have hls:=pL l
 rw[aa]
 simp (disch:=first|assumption|omega|(simp only[aU]<;>omega)) only[go_sem,seval,r1.wf,hlen,hn1,hv1]
 generalize hM:hp _ 3 m1=M
 have hC2:Chg [] m1 M:=bh hM rfl
 have g0:M.get (na m1 0)=some (.cells true [vl,ii 0]):=bM hM
 have g1:M.get (na m1 1)=some (.cells true (rep (locals l).length [iu 0])):=bM hM
 have g2:M.get (na m1 2)=some (.cells true (nU (.slc (na m1 0) 0 1 2 1) nm (.slc (na m1 1) 0 (locals l).length 1 (locals l).length) 0)):=bM hM
 have o0:am M (na m1 0):=bL hM (by omega)
 have o1:am M (na m1 1):=bL hM (by omega)
 have o2:am M (na m1 2):=bL hM (by omega)
 have hCm:=hC1.trans hC2 (by simp)
 have new:∀j,¬am m (na m1 j):=fun j q=>aB (hC1.old q)
 have newB:∀j,¬am B (na m1 j):=fun j q=>new j (hC0.old q)
 have nno:∀j,na m1 j∉ids nm:=fun j q=>aB (hn.sl.old _ q)
 refine hK' _ _ ⟨na m1 2,.slc (na m1 0) 0 1 2 1,nm,.slc (na m1 1) 0 (locals l).length 1 (locals l).length,rfl,⟨g2,o2,newB 2,⟨[[vl,ii 0]],bf.of (by simp) (newB 0) g0 o0 rfl rfl rfl,⟨rfl,fun j z c h1 h2=> ?_⟩⟩, ?_,(hn.chg hC2 fun _ _=>by simp).back fun i hi=>hC0.old hi, ?_, ?_, ?_,hC0.trans hCm (by simp)⟩,hCm, ?_⟩
 ·cases j with
  |zero=>cases h1;cases h2;exact ⟨vl,E,rfl,hS⟩
  |succ j=>simp[gZ] at h1
 ·refine bf.of (by simp) (newB 1) g1 o1 (by rw[AX];simp[gZ]) (by simp[gZ]) (by simp[gZ])
 ·simp only[ids,O5,O4,or_false,rG];exact ⟨by omega,by omega,nno 2⟩
 ·intro i hi;simp only[ids,O5,O4,or_false] at hi ⊢;subst hi;exact ⟨by rw[rG];omega,nno 0⟩
 ·intro i hi;simp only[ids,O5,O4,or_false] at hi;subst hi;exact nno 1
 ·intro i hi
  simp only[dv,ids,O5,List.mem_append,O4,or_false] at hi
  rcases hi with rfl|rfl|rfl|hi
  ·exact new 2
  ·exact new 0
  ·exact new 1
  ·exact hn.new i hi
end
structure Mc where
 (cl out:List Int)
 ill:Bool
structure Mac (f:NV->NV->Bool->List NV) (B m:NH) (r:D4) (vcl vo:NV) (z:Mc):Prop where
 g:m.get r=some (.cells true (f vcl vo z.ill))
 o:am m r
 nB:¬am B r
 cl:bf B m vcl 1 (wH z.cl)
 ou:bf B m vo 1 (wH z.out)
 d:r∉ids vcl/\r∉ids vo/\∀i∈ids vcl,i∉ids vo
 c:Chg [] B m
def cz (r:D4) (vcl vo:NV):List D4:=r::(ids vcl++ids vo)
structure McOk (cs:List (List Nat×Int)) (z:Mc):Prop where
 iv:∀y∈z.cl,ef y
 io:∀y∈z.out,ef y
 n:(z.cl.length:Int)=br cs
structure CsOk (cs:List (List Nat×Int)):Prop where
 len:cs.length<=1000
 sz:∀c∈cs,1<=c.2/\c.2<=64
def fa (cs:List (List Nat×Int)) (z:Int) (t:Stm):Int:=br (cs.take (cN (cs.map (·.1)) t.ce).toNat)+((z.toNat&&& ((((cs[(cN (cs.map (·.1)) t.ce).toNat]?).map (·.2)).getD 1) - 1).toNat:Nat):Int)
theorem zQ (a b:List (List Nat×Int)):br (a++b)=br a+br b:=by
 induction a with
 |nil=>simp[br]
 |cons c a ih=>rw[List.cons_append,br,br,ih];omega
theorem s7 (l:List (List Nat×Int)) (i:Nat):br (l.take i)<=br l:=by
 conv=>rhs;rw[←List.take_append_drop i l]
 rw[zQ]
 have:=gI (l.drop i)
 omega
theorem Gl {cs:List (List Nat×Int)} {t:Stm} (h:t.ce∈cs.map (·.1)):∃i:Nat,cN (cs.map (·.1)) t.ce=i/\i<cs.length:=by
 obtain ⟨h1,h2⟩:=qQ (l:=cs.map (·.1)) (x:=t.ce)
 obtain ⟨i,hi⟩:=O7 (nD.2 h)
 rw[List.length_map] at h1
 exact ⟨i,hi,by omega⟩
theorem mV {cs:List (List Nat×Int)} {t:Stm} {i:Nat} (z:Int) (h:cN (cs.map (·.1)) t.ce=i) (hi:i<cs.length):fa cs z t=br (cs.take i)+((z.toNat&&& (cs[i].2 - 1).toNat:Nat):Int):=by
 unfold fa
 rw[h,Int.toNat_natCast,List.getElem?_eq_getElem hi];rfl
theorem mr {cs:List (List Nat×Int)} (hc:CsOk cs) {t:Stm} (h:t.ce∈cs.map (·.1)) (z:Int):0<=fa cs z t/\fa cs z t<br cs:=by
 obtain ⟨i,hi,hl⟩:=Gl h
 rw[mV z hi hl]
 have h1:=nP cs i hl
 have h2:=s7 cs (i+1)
 have h3:=hc.sz _ (List.getElem_mem hl)
 have h4:=Nat.and_le_right (n:=z.toNat) (m:=(cs[i].2 - 1).toNat)
 have h5:=gI (cs.take i)
 unfold lF at h1
 omega
theorem N4 {W:Int} (h0:0<=W) (h1:W<=1000000):cP .num .quo (ii (8*W)) (ii 8)=some (ii W):=by
 obtain ⟨n,rfl⟩:=O7 h0
 refine (eR rfl).trans ?_
 show bH .i64 (bq .i64 (.ofNat (Nat.div (8*n) 8)))=_
 rw[show Nat.div (8*n) 8=n from Nat.mul_div_cancel_left n (by omega),wrap_small (by show -9223372036854775808<=(n:Int);omega) (by show (n:Int)<9223372036854775808;omega),aG]
 rfl
section
variable {f:NV->NV->Bool->List NV} {B m m':NH} {r b:D4} {vcl vo pl nm vv vc vt vr rec vth:NV} {st:Bool} {ns:List (List Nat)} {x:Bd} {z:Mc} {cs:List (List Nat×Int)}
abbrev fP (vc vt vr rec vth:NV) (st:Bool) (vcl vo:NV) (ill:Bool):List NV:= [vc,vt,vr,vcl,vo,rec,vth,.bool st,.bool ill]
abbrev fR (vc vt vr rec vth:NV) (vcl vo:NV) (ill:Bool):List NV:= [vc,vt,vr,vcl,vo,rec,vth,.bool ill]
theorem Mac.old (h:Mac f B m r vcl vo z):∀i∈cz r vcl vo,am m i/\¬am B i:=by
 intro i hi
 rcases List.mem_cons.1 hi with rfl|hi
 ·exact ⟨h.o,h.nB⟩
 rcases List.mem_append.1 hi with hi|hi
 ·exact ⟨h.cl.sl.old i hi,h.cl.new i hi⟩
 ·exact ⟨h.ou.sl.old i hi,h.ou.new i hi⟩
theorem Mac.off {S:List D4} (h:Mac f B m r vcl vo z) (hC:Chg S m m') (hS:∀i∈cz r vcl vo,i∉S) (hB:∀i∈S,¬am B i):Mac f B m' r vcl vo z:=
 ⟨(hC.get h.o (hS r (List.mem_cons_self ..))).trans h.g,hC.old h.o,h.nB,h.cl.chg hC fun i hi=>hS i (by simp[cz,hi]),h.ou.chg hC fun i hi=>hS i (by simp[cz,hi]),h.d,h.c.trans hC fun i hi ho=>OZ ho (hB i hi)⟩
theorem Mac.grow (h:Mac f B m r vcl vo z) (hC:Chg [] m m'):Mac f B m' r vcl vo z:=h.off hC (by simp) (by simp)
theorem H2 {cs:List (List Nat×Int)} {i:Nat} (hi:i<cs.length):MP cs i - 4096=8*br (cs.take i):=by
 unfold MP
 rw[O1 ⟨by omega,by omega⟩,Int.toNat_natCast];omega
theorem wn (hM:Mac (fP vc vt vr rec vth st) B m r vcl vo z) (hb:Bod nU B m b pl nm vv ns x) (hk:BdOk cs ns x) (hc:Sl B vc 2 (oK cs)) (hcs:CsOk cs) (hz:McOk cs z) {w:NV} {t:Stm} (hw:C7 B w t) (hce:t.ce∈cs.map (·.1)) (hwi:Wid t.i):
 ∃id off,jh 1 vcl (ii (fa cs (t.i.eval ns x.v) t))= .val (.ptr id off)/\∃m',bp Try.prog S0 157 [.ptr r 0,.ptr b 0,w] m (.ptr id off) m'/\Chg [] m m':=by
 obtain ⟨i,hi,hl⟩:=Gl hce
 obtain ⟨w1,w2⟩:=mr hcs hce (t.i.eval ns x.v)
 obtain ⟨n,hn⟩:=O7 w1
 have hzn:=hz.n
 obtain ⟨id,off,wr,cc,a1,a2,a3,a4,a5⟩:=hM.cl.sl.at n (by rw[List.length_map];omega)
 refine ⟨id,off,by rw[hn];exact a1, ?_⟩
 refine WF.ex1 fun K' hK'=> ?_
 refine WF.of_wpG (fun _=>rfl) ta (L:= [(.b .e,w),(.a .e,.ptr b 0),(.e,.ptr r 0)]) rfl ?_
 unfold A0
 obtain ⟨idt,offt,wrt,c,W,rfl,p1,p2,p3,p4,hSP⟩:=hw
 have hlen:=hcs.len
 have q3:c[offt+3]? =some (.str t.ce):=aX p4 3 (by omega)
 have q4:(c.drop (offt+4)).take 5=t.i.l W.vi:=fb p4 4 5 (by omega)
 obtain ⟨m1,r1,hC1⟩:=Jy (hc.grew hM.c) (by omega) t.ce
 rw[hi] at r1
 have hM1:=hM.grow hC1
 have hb1:=hb.grow hC1
 obtain ⟨m2,r2,hC2⟩:=fN hb1 hk hSP.i hwi
 have hM2:=hM1.grow hC2
 have hb2:=hb1.grow hC2
 obtain ⟨m3,r3,hC3⟩:=Ny (hc.grew hM2.c) (by omega) (i:Int)
 have hM3:=hM2.grow hC3
 obtain ⟨idc,offc,wc,ccs,e1,e2,e3,e4,e5⟩:=hc.at i (by simpa using hl)
 rw[List.getElem_map] at e5
 have s1:ccs[offc+1]? =some (ii cs[i].2):=aX e5 1 (by omega)
 have hsz:=hcs.sz _ (List.getElem_mem hl)
 have g:=hM.g
 have g1:=hM1.g
 have g2:=hM2.g
 have g3:=hM3.g
 have p0:=(hM.c.get p2 (by simp)).trans p1
 have p11:=(hM1.c.get p2 (by simp)).trans p1
 have p12:=(hM2.c.get p2 (by simp)).trans p1
 have e11:=(hM1.c.get e3 (by simp)).trans e2
 have e12:=(hM2.c.get e3 (by simp)).trans e2
 have hwt:=mV (t.i.eval ns x.v) hi hl
 have hat:=H2 hl
 have hev:=eO (ns:=ns) hk.iv t.i hwi
 have h64:(cs[i].2 - 1) % 18446744073709551616=cs[i].2 - 1:=by omega
 have hand:=Gp hev (show ef (cs[i].2 - 1) by unfold ef;omega)
 have hW:=gI (cs.take i)
 have hW2:=s7 cs i
 have hW3:=gI cs
 have hq:=N4 hW.1 (by omega)
 have hle:=Nat.and_le_right (n:=(t.i.eval ns x.v).toNat) (m:=(cs[i].2 - 1).toNat)
 have e6:br (cs.take i)+(((t.i.eval ns x.v).toNat&&& (cs[i].2 - 1).toNat:Nat):Int)=(n:Int):=by omega
 have hsI:=d6 hSP.i
 have hvc:=hc.same (n:=3)
 have hvl:=hM.cl.sl.same (n:=3)
 rw[aa]
 simp (disch:=first|assumption|omega) only[go_sem,seval,g,g1,g2,g3,p0,p11,p12,q3,q4,r1.wf',r2.wf',r3.wf',e1,e11,e12,s1,h64,hand,hat,hq,e6,hsI,hvc,hvl,a1]
 exact hK' _ ((hC1.trans hC2 (by simp)).trans hC3 (by simp))
end
noncomputable def ji (cs:List (List Nat×Int)) (ns:List (List Nat)) (t:Stm) (x:Bd) (z:Mc):Bd×Mc:=
 if t.k=1 then (⟨x.K,hJ ns x.v t.nm ((z.cl[(fa cs (t.i.eval ns x.v) t).toNat]?).getD 0),x.s⟩,z)
 else if t.k=2 then (x,⟨z.cl.set (fa cs (t.i.eval ns x.v) t).toNat (t.x.eval ns x.v),z.out,z.ill⟩)
 else if t.k=3 then (if (z.cl[(fa cs (t.i.eval ns x.v) t).toNat]?).getD 0=t.x.eval ns x.v then (⟨x.K,hJ ns x.v t.nm 1,x.s⟩,⟨z.cl.set (fa cs (t.i.eval ns x.v) t).toNat (t.y.eval ns x.v),z.out,z.ill⟩) else (⟨x.K,hJ ns x.v t.nm 0,x.s⟩,z))
 else if t.k=5 then (x,⟨z.cl,z.out++ [t.x.eval ns x.v],z.ill⟩)
 else (x,z)
section
variable {F F' G G':List D4} {m m':NH}
theorem EvF.addR (h:EvF F F' m m') (G:List D4):EvF (G++F) (G++F') m m':=
 ⟨h.c.weak fun i hi _=>List.mem_append_right _ hi,fun j hj=>(List.mem_append.1 hj).elim (fun q=>Or.inl (List.mem_append_left _ q)) fun q=>(h.f j q).imp (List.mem_append_right _) id⟩
theorem EvF.addL (h:EvF F F' m m') (G:List D4):EvF (F++G) (F'++G) m m':=
 ⟨h.c.weak fun i hi _=>List.mem_append_left _ hi,fun j hj=>(List.mem_append.1 hj).elim (fun q=>(h.f j q).imp (List.mem_append_left _) id) fun q=>Or.inl (List.mem_append_right _ q)⟩
end
section
variable {f:NV->NV->Bool->List NV} {mk:NV->NV->NV->Int->List NV} {B m m':NH} {r b:D4} {vcl vo pl nm vv vc vt vr rec vth:NV} {st:Bool} {ns:List (List Nat)} {x:Bd} {z:Mc} {cs:List (List Nat×Int)} {F F':List D4}
theorem Mac.ev (h:Mac f B m r vcl vo z) (hE:EvF F F' m m') (hd:∀i∈cz r vcl vo,i∉F) (hB:∀i∈F,¬am B i):Mac f B m' r vcl vo z:=h.off hE.c hd hB
theorem Bod.ev (h:Bod mk B m b pl nm vv ns x) (hE:EvF F F' m m') (hd:∀i∈dv b pl nm vv,i∉F) (hB:∀i∈F,¬am B i):Bod mk B m' b pl nm vv ns x:=h.off hE.c hd hB
theorem Mac.put (h:Mac f B m r vcl vo z) {n:Nat} (hn:n<z.cl.length) (y:Int) {id:D4} {off:Nat} (hix:jh 1 vcl (ii (n:Nat))= .val (.ptr id off)):
 ids vcl= [id]/\(∃c,m.get id=some (.cells true c)/\am m id/\off+1<=c.length/\c[off]? =some (iu z.cl[n])/\∀M,M=m.put id (.cells true (c.set off (iu y)))->Mac f B M r vcl vo ⟨z.cl.set n y,z.out,z.ill⟩/\EvF (cz r vcl vo) (cz r vcl vo) m M):=by
 obtain ⟨id',off',c,a1,a2,a3,a4,a5,a6,a7,a8⟩:=h.cl.at n (by simpa using hn)
 rw[hix] at a1
 cases a1
 rw[List.getElem_map] at a7 a8
 refine ⟨a2,c,a4,a5,a6,aX a7 0 (by omega),fun M hM=> ?_⟩
 have hM:M=hp [(.o id,.cells true (c.set off (iu y)))] 0 m:=by rw[hM,←fA a5,aa]
 have hC:Chg [id] m M:=by rw[hM];exact (eA _ _ _).weak (by simp[aE])
 have hr:r≠id:=fun e=>h.d.1 (by rw[a2,e];simp)
 have ho:=a8 [(0,iu y)] M (by simp) (by rw[hM];exact (aJ a5).trans au) (by rw[hM];exact bJ a5)
 have ho:bf B M vcl 1 ((z.cl.map fun z=> [iu z]).set n [iu y]):=ho
 rw[←List.map_set (f:=fun z=> [iu z])] at ho
 refine ⟨⟨(hC.get h.o (by simpa using hr)).trans h.g,hC.old h.o,h.nB,ho,h.ou.chg hC fun i hi q=> ?_,h.d,h.c.trans hC fun i hi ho=> ?_⟩,hC.weak fun i hi _=> ?_,fun j hj=>Or.inl hj⟩
 ·have q:=one q;subst q;exact h.d.2.2 _ (by rw[a2];simp) hi
 ·have hi:=one hi;subst hi;exact OZ ho (h.cl.new _ (by rw[a2];simp))
 ·have hi:=one hi;subst hi;simp[cz,a2]
theorem Mr (hM:Mac (fP vc vt vr rec vth st) B m r vcl vo z) (hb:Bod nU B m b pl nm vv ns x) (hd:∀i∈cz r vcl vo,i∉dv b pl nm vv) (hk:BdOk cs ns x) (hc:Sl B vc 2 (oK cs)) (hcs:CsOk cs) (hz:McOk cs z) (ho:z.out.length<=1000000) {w:NV} {t:Stm} (hw:C7 B w t) (hG:Gs cs t) (ht:t.k=1∨t.k=2∨t.k=3∨t.k=5):
 ∃m',bp Try.prog S0 123 [.ptr r 0,.ptr b 0,w] m (.tup []) m'/\∃vo',Mac (fP vc vt vr rec vth st) B m' r vcl vo' (ji cs ns t x z).2/\Bod nU B m' b pl nm vv ns (ji cs ns t x z).1/\EvF (cz r vcl vo++dv b pl nm vv) (cz r vcl vo'++dv b pl nm vv) m m'/\∀i∈cz r vcl vo',i∉dv b pl nm vv:=by
 refine WF.ex1 fun K' hK'=> ?_
 refine WF.of_wpG (fun _=>rfl) uf (L:= [(.b .e,w),(.a .e,.ptr b 0),(.e,.ptr r 0)]) rfl ?_
 unfold Bh
 obtain ⟨g1,g2,g3,g4⟩:=mz hG
 have hw0:=hw
 obtain ⟨idt,offt,wrt,c,W,rfl,p1,p2,p3,p4,hSP⟩:=hw
 have q0:c[offt+0]? =some (ii t.k):=aX p4 0 (by omega)
 have q2:c[offt+2]? =some (.str t.nm):=aX p4 2 (by omega)
 have q9:(c.drop (offt+9)).take 5=t.x.l W.vx:=fb p4 9 5 (by omega)
 have q14:(c.drop (offt+14)).take 5=t.y.l W.vy:=fb p4 14 5 (by omega)
 have pm:=(hM.c.get p2 (by simp)).trans p1
 have hsX:=d6 hSP.x
 have hsY:=d6 hSP.y
 have hbB:∀i∈dv b pl nm vv,¬am B i:=fun i hi=>(hb.old i hi).2
 have hMB:∀i∈cz r vcl vo,¬am B i:=fun i hi=>(hM.old i hi).2
 have hd':∀i∈dv b pl nm vv,i∉cz r vcl vo:=fun i hi q=>hd i q hi
 have hex:=eO (ns:=ns) hk.iv t.x g3
 have hey:=eO (ns:=ns) hk.iv t.y g4
 unfold ji at hK'
 rcases ht with h|h|h|h
 ·simp only[O1 h] at hK'
  obtain ⟨id,off,a1,m1,r1,hC1⟩:=wn hM hb hk hc hcs hz hw0 (g1 (by omega)) g2
  obtain ⟨w1,w2⟩:=mr hcs (g1 (by omega)) (t.i.eval ns x.v)
  obtain ⟨n,hn⟩:=O7 w1
  have hzn:=hz.n
  have hnl:n<z.cl.length:=by omega
  rw[hn] at a1 hK'
  simp only[Int.toNat_natCast,List.getElem?_eq_getElem hnl,Option.getD_some] at hK'
  have hM1:=hM.grow hC1
  have hb1:=hb.grow hC1
  obtain ⟨hid,cc,c1,c2,c3,c4,-⟩:=hM1.put hnl 0 a1
  obtain ⟨m2,r2,hb2,e2⟩:=yu hb1 hk t.nm z.cl[n]
  have hM2:=hM1.ev e2 hd hbB
  have p11:=(hM1.c.get p2 (by simp)).trans p1
  have p12:=(hM2.c.get p2 (by simp)).trans p1
  have hi2:m2.get id=some (.cells true cc):=(e2.c.get c2 (hd id (by simp[cz,hid]))).trans c1
  rw[aa]
  simp (disch:=first|assumption|omega) only[go_sem,seval,pm,q0,q2,r1.wf',p11,p12,c1,c4,hi2,r2.wf']
  exact hK' _ ⟨vo,hM2,hb2,(EvF.pre hC1 e2).addR _,hd⟩
 ·have h1:t.k≠1:=by omega
  simp only[O0 h1,O1 h] at hK'
  obtain ⟨id,off,a1,m1,r1,hC1⟩:=wn hM hb hk hc hcs hz hw0 (g1 (by omega)) g2
  obtain ⟨w1,w2⟩:=mr hcs (g1 (by omega)) (t.i.eval ns x.v)
  obtain ⟨n,hn⟩:=O7 w1
  have hzn:=hz.n
  have hnl:n<z.cl.length:=by omega
  rw[hn] at a1 hK'
  simp only[Int.toNat_natCast] at hK'
  have hM1:=hM.grow hC1
  have hb1:=hb.grow hC1
  obtain ⟨m2,r2,hC2⟩:=fN hb1 hk hSP.x g3
  have hM2:=hM1.grow hC2
  have hb2:=hb1.grow hC2
  have p11:=(hM1.c.get p2 (by simp)).trans p1
  have p12:=(hM2.c.get p2 (by simp)).trans p1
  obtain ⟨hid,cc,c1,c2,c3,c4,hput⟩:=hM2.put hnl (t.x.eval ns x.v) a1
  rw[aa]
  simp (disch:=first|assumption|omega) only[go_sem,seval,pm,q0,q9,hsX,r1.wf',p11,r2.wf',p12,c1,c4]
  generalize hM3:m2.put id _=M3
  obtain ⟨u1,u2⟩:=hput M3 hM3.symm
  exact hK' _ ⟨vo,u1,hb2.ev u2 hd' hMB,(EvF.pre (hC1.trans hC2 (by simp)) u2).addL _,hd⟩
 ·have h1:t.k≠1:=by omega
  have h2:t.k≠2:=by omega
  simp only[O0 h1,O0 h2,O1 h] at hK'
  obtain ⟨id,off,a1,m1,r1,hC1⟩:=wn hM hb hk hc hcs hz hw0 (g1 (by omega)) g2
  obtain ⟨w1,w2⟩:=mr hcs (g1 (by omega)) (t.i.eval ns x.v)
  obtain ⟨n,hn⟩:=O7 w1
  have hzn:=hz.n
  have hnl:n<z.cl.length:=by omega
  rw[hn] at a1 hK'
  simp only[Int.toNat_natCast,List.getElem?_eq_getElem hnl,Option.getD_some] at hK'
  have hM1:=hM.grow hC1
  have hb1:=hb.grow hC1
  obtain ⟨m2,r2,hC2⟩:=fN hb1 hk hSP.y g4
  have hM2:=hM1.grow hC2
  have hb2:=hb1.grow hC2
  obtain ⟨m3,r3,hC3⟩:=fN hb2 hk hSP.x g3
  have hM3:=hM2.grow hC3
  have hb3:=hb2.grow hC3
  have p11:=(hM1.c.get p2 (by simp)).trans p1
  have p12:=(hM2.c.get p2 (by simp)).trans p1
  have p13:=(hM3.c.get p2 (by simp)).trans p1
  obtain ⟨hid,cc2,d1,d2,d3,d4,-⟩:=hM2.put hnl 0 a1
  obtain ⟨-,cc,c1,c2,c3,c4,hput⟩:=hM3.put hnl (t.y.eval ns x.v) a1
  have hC13:=(hC1.trans hC2 (by simp)).trans hC3 (by simp)
  by_cases hq:z.cl[n]=t.x.eval ns x.v
  ·simp only[O1 hq] at hK'
   have hde:decide (z.cl[n]=t.x.eval ns x.v)=true:=O3 hq
   rw[aa]
   simp (disch:=first|assumption|omega) only[go_sem,seval,pm,q0,q2,q9,q14,hsX,hsY,r1.wf',p11,r2.wf',p12,d1,d4,r3.wf',p13,c1,c4,hde]
   generalize hM4:m3.put id _=M4
   obtain ⟨u1,u2⟩:=hput M4 hM4.symm
   have hb4:=hb3.ev u2 hd' hMB
   obtain ⟨m5,r5,hb5,e5⟩:=yu hb4 hk t.nm 1
   have hM5:=u1.ev e5 hd hbB
   have p14:=(u1.c.get p2 (by simp)).trans p1
   have p15:=(hM5.c.get p2 (by simp)).trans p1
   have hfl:=uO M4 true
   simp (disch:=first|assumption|omega) only[go_sem,seval,p14,q2,hfl.wf',r5.wf',p15]
   exact hK' _ ⟨vo,hM5,hb5,(EvF.pre hC13 (u2.addL _)).trans (e5.addR _),hd⟩
  ·simp only[O0 hq] at hK'
   obtain ⟨m5,r5,hb5,e5⟩:=yu hb3 hk t.nm 0
   have hM5:=hM3.ev e5 hd hbB
   have p15:=(hM5.c.get p2 (by simp)).trans p1
   have hfl:=uO m3 false
   have hde:decide (z.cl[n]=t.x.eval ns x.v)=false:=O2 hq
   rw[aa]
   simp (disch:=first|assumption|omega) only[go_sem,seval,pm,q0,q2,q9,q14,hsX,hsY,r1.wf',p11,r2.wf',p12,d1,d4,r3.wf',p13,c1,c4,hde,hfl.wf',r5.wf',p15]
   exact hK' _ ⟨vo,hM5,hb5,(EvF.pre hC13 e5).addR _,hd⟩
 ·have h1:t.k≠1:=by omega
  have h2:t.k≠2:=by omega
  have h3:t.k≠3:=by omega
  simp only[O0 h1,O0 h2,O0 h3,O1 h] at hK'
  obtain ⟨m1,r1,hC1⟩:=fN hb hk hSP.x g3
  have hM1:=hM.grow hC1
  have hb1:=hb.grow hC1
  have g:=hM.g
  have gg1:=hM1.g
  have p11:=(hM1.c.get p2 (by simp)).trans p1
  have hvo:=hM.ou.sl.one
  have hvs:=hM.ou.sl.same (n:=3)
  rw[aa]
  simp (disch:=first|assumption|omega|(simp only[aU]<;>omega)) only[go_sem,seval,pm,q0,q9,hsX,g,r1.wf,gg1,p11,hvo,hvs]
  have hC2:Chg [] m1 (hp [(.n 0,.cells true [iu (t.x.eval ns x.v)])] 1 m1):=aF rfl
  have hM2:=hM1.grow hC2
  refine fq (cs:= [iu (t.x.eval ns x.v)]) hM2.ou bP (bW (by omega)) rfl (fun i hi=>hM2.c.old hi) (by simp;omega) (by simp;omega) ?_
  intro vo' M3 hO3 hC3 hF3
  have hvoB:∀i∈ids vo,¬am B i:=fun i hi=>hMB i (by simp[cz,hi])
  have hC23:Chg [] B M3:=hM2.c.trans hC3 fun i hi ho=>OZ ho (hvoB i hi)
  have p13:=(hC23.get p2 (by simp)).trans p1
  have g3':=(hC3.get hM2.o hM.d.2.1).trans hM2.g
  have o3:=hC3.old hM2.o
  have hvo':=hO3.sl.one
  simp (disch:=first|assumption|omega|(simp only[aU]<;>omega)) only[go_sem,seval,aa,p13,q9,g3',hvo']
  generalize hM4:M3.put r _=M4
  have hM4:M4=hp [(.o r,.cells true (fP vc vt vr rec vth st vcl vo' z.ill))] 0 M3:=by rw[←hM4,←fA o3,aa]
  have hC4:Chg [r] M3 M4:=by rw[hM4];exact (eA _ _ _).weak (by simp[aE])
  have hrv:r∉ids vo':=fun q=>(hF3 r q).elim hM.d.2.1 fun q=>q hM2.o
  have hvn:∀i∈ids vo',i∈ids vo∨¬am m i:=fun i hi=>(hF3 i hi).imp id fun q ho=>q (hC2.old (hC1.old ho))
  have hEv:EvF (cz r vcl vo) (cz r vcl vo') m M4:=by
   refine ⟨((((hC1.trans hC2 (by simp)).weak (T:=cz r vcl vo) (by simp)).trans hC3 fun i hi _=>by simp[cz,hi]).trans hC4 fun i hi _=>by have hi:=one hi;subst hi;simp[cz]),fun j hj=> ?_⟩
   simp only[cz,O5,List.mem_append] at hj ⊢
   rcases hj with hj|hj|hj
   ·exact Or.inl (Or.inl hj)
   ·exact Or.inl (Or.inr (Or.inl hj))
   ·exact (hvn j hj).imp (fun q=>Or.inr (Or.inr q)) id
  have hn4:∀{v:NV} {C:List (List NV)},bf B M3 v 1 C->r∉ids v->bf B M4 v 1 C:=fun ho hr=>ho.chg hC4 fun i hi q=>by have q:=one q;subst q;exact hr hi
  refine hK' _ ⟨vo',⟨by rw[hM4];exact (aJ o3).trans au,hC4.old o3,hM.nB,hn4 (hM2.cl.chg hC3 fun i hi=>hM.d.2.2 i hi) hM.d.1, ?_,⟨hM.d.1,hrv,fun i hi q=>(hF3 i q).elim (hM.d.2.2 i hi) fun q=>q (hM2.cl.sl.old i hi)⟩,hC23.trans hC4 fun i hi ho=> ?_⟩,hb.ev hEv hd' hMB,hEv.addL _,fun i hi q=> ?_⟩
  ·have:=hn4 hO3 hrv
   show bf B M4 vo' 1 ((z.out++ [t.x.eval ns x.v]).map fun z=> [iu z])
   rw[List.map_append]
   exact this
  ·have hi:=one hi;subst hi;exact OZ ho hM.nB
  ·simp only[cz,O5,List.mem_append] at hi
   rcases hi with hi|hi|hi
   ·exact hd i (by simp[cz,hi]) q
   ·exact hd i (by simp[cz,hi]) q
   ·exact (hvn i hi).elim (fun p=>hd i (by simp[cz,p]) q) fun p=>p (hb.old i q).1
end
def pE (y:List Stm×Nat):Stm:=(y.1[y.2]?).getD (.mk 0 0 [] [] zE zE zE [] [])
def fG (t:Stm):Prop:=t.k=1∨t.k=2∨t.k=3∨t.k=5
instance (t:Stm):Decidable (fG t):=by unfold fG;infer_instance
noncomputable def yT (cs:List (List Nat×Int)) (ns:List (List Nat)) (t:Stm) (x:Bd) (z:Mc):Bd×Mc:=(⟨gY (ji cs ns t x z).1.K,(ji cs ns t x z).1.v,(ji cs ns t x z).1.s⟩,(ji cs ns t x z).2)
noncomputable def rF (cs:List (List Nat×Int)) (ns:List (List Nat)):Nat->Bd->Mc->Bool×Bd×Mc
 |0,x,z=>match bo x.K with
  | []=>(false,⟨[],x.v,1⟩,z)
  |y::K=>(false,⟨y::K,x.v,2⟩,⟨z.cl,z.out,true⟩)
 |k+1,x,z=>match bo x.K with
  | []=>(false,⟨[],x.v,1⟩,z)
  |y::K=>if fG (pE y) then (true,yT cs ns (pE y) ⟨y::K,x.v,x.s⟩ z) else rF cs ns k (cu ns (pE y) ⟨y::K,x.v,x.s⟩) z
noncomputable def cr (cs:List (List Nat×Int)) (ns:List (List Nat)) (x:Bd) (z:Mc):Bool×Bd×Mc:=if x.s=0 then rF cs ns 1000 x z else (false,x,z)
theorem j9 {cs:List (List Nat×Int)} {ns:List (List Nat)} {x:Bd} {z:Mc} (h:bo x.K= []) (k:Nat):rF cs ns k x z=(false,⟨[],x.v,1⟩,z):=by
 cases k<;>(rw[rF,h])
theorem di {cs:List (List Nat×Int)} {ns:List (List Nat)} {x:Bd} {z:Mc} {y:List Stm×Nat} {K:jl} (h:bo x.K=y::K) (k:Nat):rF cs ns (k+1) x z=if fG (pE y) then (true,yT cs ns (pE y) ⟨y::K,x.v,x.s⟩ z) else rF cs ns k (cu ns (pE y) ⟨y::K,x.v,x.s⟩) z:=by
 rw[rF,h]
theorem nW {cs:List (List Nat×Int)} {ns:List (List Nat)} {x:Bd} {z:Mc} {y:List Stm×Nat} {K:jl} (h:bo x.K=y::K):rF cs ns 0 x z=(false,⟨y::K,x.v,2⟩,⟨z.cl,z.out,true⟩):=by
 rw[rF,h]
theorem IQ {y:List Stm×Nat} (h:y.2<y.1.length):pE y=y.1[y.2]:=by unfold pE;rw[List.getElem?_eq_getElem h];rfl
section
variable {f:NV->NV->Bool->List NV} {mk:NV->NV->NV->Int->List NV} {B m m':NH} {r b:D4} {vcl vo pl nm vv vc vt vr rec vth:NV} {st:Bool} {ns:List (List Nat)} {x:Bd} {z:Mc} {cs:List (List Nat×Int)} {F F':List D4}
theorem HE (t:Stm):(ji cs ns t x z).1.K=x.K/\(ji cs ns t x z).1.s=x.s:=by
 unfold ji
 split
 ·exact ⟨rfl,rfl⟩
 split
 ·exact ⟨rfl,rfl⟩
 split
 ·split<;>exact ⟨rfl,rfl⟩
 split<;>exact ⟨rfl,rfl⟩
theorem Hu {l:List Int} (h:∀z∈l,ef z) (i:Nat):ef ((l[i]?).getD 0):=by
 cases hl:l[i]? with
 |none=>exact ⟨by simp,by simp⟩
 |some a=>exact h a (List.mem_of_getElem? hl)
theorem AG {l:List Int} (h:∀z∈l,ef z) {y:Int} (hy:ef y) (i:Nat):∀z∈l.set i y,ef z:=fun z hz=>(List.mem_or_eq_of_mem_set hz).elim (h z) fun e=>e▸hy
theorem Et (hk:BdOk cs ns x) (hz:McOk cs z) {t:Stm} (hG:Gs cs t):BdOk cs ns (ji cs ns t x z).1/\McOk cs (ji cs ns t x z).2/\(ji cs ns t x z).2.out.length<=z.out.length+1:=by
 obtain ⟨g1,g2,g3,g4⟩:=mz hG
 have hx:=eO (ns:=ns) hk.iv t.x g3
 have hy:=eO (ns:=ns) hk.iv t.y g4
 unfold ji
 split
 ·exact ⟨hk.set (Hu hz.iv _),hz,by simp⟩
 split
 ·exact ⟨hk,⟨AG hz.iv hx _,hz.io,by simp[hz.n]⟩,by simp⟩
 split
 ·split
  ·exact ⟨hk.set ⟨by simp,by simp⟩,⟨AG hz.iv hy _,hz.io,by simp[hz.n]⟩,by simp⟩
  ·exact ⟨hk.set ⟨by simp,by simp⟩,hz,by simp⟩
 split
 ·exact ⟨hk,⟨hz.iv,fun y hy=>(List.mem_append.1 hy).elim (hz.io y) fun q=>by rw[List.mem_singleton] at q;subst q;exact hx,hz.n⟩,by simp⟩
 ·exact ⟨hk,hz,by simp⟩
theorem Bod.state {s':Int} {m':NH} (h:Bod mk B m b pl nm vv ns x) (hg:m'.get b=some (.cells true (mk pl nm vv s'))) (hC:Chg [b] m m'):Bod mk B m' b pl nm vv ns ⟨x.K,x.v,s'⟩/\EvF (dv b pl nm vv) (dv b pl nm vv) m m':=by
 have hn:∀{v:NV},b∉ids v->∀i∈ids v,i∉ [b]:=fun hb i hi q=>by have q:=one q;subst q;exact hb hi
 obtain ⟨C,hP,hk⟩:=h.p
 exact h.putP (x':=⟨x.K,x.v,s'⟩) hg (hC.weak fun i hi _=>by have hi:=one hi;subst hi;simp[dv]) ⟨C,hP.chg hC (hn h.d1.1),hk⟩ (h.v.chg hC (hn h.d1.2.1)) (fun i hi=>hC.get (h.n.sl.old i hi) (hn h.d1.2.2 i hi)) (fun i hi=>Or.inl hi) rfl
theorem Mac.sick {m':NH} (h:Mac f B m r vcl vo z) (hg:m'.get r=some (.cells true (f vcl vo true))) (hC:Chg [r] m m'):Mac f B m' r vcl vo ⟨z.cl,z.out,true⟩/\EvF (cz r vcl vo) (cz r vcl vo) m m':=by
 have hn:∀{v:NV},r∉ids v->∀i∈ids v,i∉ [r]:=fun hb i hi q=>by have q:=one q;subst q;exact hb hi
 exact ⟨⟨hg,hC.old h.o,h.nB,h.cl.chg hC (hn h.d.1),h.ou.chg hC (hn h.d.2.1),h.d,h.c.trans hC fun i hi ho=>by have hi:=one hi;subst hi;exact OZ ho h.nB⟩,hC.weak fun i hi _=>by have hi:=one hi;subst hi;simp[cz],fun j hj=>Or.inl hj⟩
theorem KV:cP .ptr .eql .nilp .nilp=some (.bool true):=_root_.id rfl
theorem xe {i:D4} {o:Nat}:cP .ptr .eql (.ptr i o) .nilp=some (.bool false):=_root_.id rfl
structure cA (f:NV->NV->Bool->List NV) (mk:NV->NV->NV->Int->List NV) (B m0 M:NH) (cs:List (List Nat×Int)) (ns:List (List Nat)) (r b:D4) (F0:List D4) (vcl vo pl nm vv:NV) (x:Bd) (z:Mc) (o:Nat):Prop where
 mc:Mac f B M r vcl vo z
 bd:Bod mk B M b pl nm vv ns x
 dj:∀i∈cz r vcl vo,i∉dv b pl nm vv
 bk:BdOk cs ns x
 zk:McOk cs z
 ol:z.out.length<=o
 ev:EvF F0 (cz r vcl vo++dv b pl nm vv) m0 M
theorem GF (hc:Sl B vc 2 (oK cs)) (hcs:CsOk cs) {o:Nat} (ho:o<=1000000) (h:cA (fP vc vt vr rec vth st) nU B m m cs ns r b (cz r vcl vo++dv b pl nm vv) vcl vo pl nm vv x z o):
 ∃m',bp Try.prog S0 74 [.ptr r 0,.ptr b 0] m (ii (if (cr cs ns x z).1=true then 0 else (cr cs ns x z).2.1.s)) m'/\∃vo' pl',cA (fP vc vt vr rec vth st) nU B m m' cs ns r b (cz r vcl vo++dv b pl nm vv) vcl vo' pl' nm vv (cr cs ns x z).2.1 (cr cs ns x z).2.2 (o+1):=by
 refine WF.ex1 fun K' hK'=> ?_
 refine WF.of_wpG (fun _=>rfl) xw (L:= [(.a .e,.ptr b 0),(.e,.ptr r 0)]) rfl ?_
 unfold JM
 generalize hR:cr cs ns x z=R at hK'
 generalize hF0:cz r vcl vo++dv b pl nm vv=F0 at h hK'
 simp (disch:=first|assumption|omega) only[go_sem,seval,aa]
 refine W.loop (fun k d=>∃t M pl vo x z,d=⟨t, [],none,M⟩/\NT.get D4.e t=some (.ptr r 0)/\NT.get D4.e.a t=some (.ptr b 0)/\cA (fP vc vt vr rec vth st) nU B m M cs ns r b F0 vcl vo pl nm vv x z o/\((∃n:Nat,NT.get D4.e.a.a t=some (ii (n:Nat))/\x.s=0/\n+k=1001/\n<=1000/\rF cs ns (1000 - n) x z=R)∨(x.s≠0/\(false,x,z)=R/\∃y,NT.get D4.e.a.a t=some (ii y)/\0<=y/\y<=1001))) ?_ 1001 _ ⟨_,m,pl,vo,x,z,rfl,by simp only[go_sem,seval],by simp only[go_sem,seval],h, ?_⟩
 ·clear h hF0 hR
  rintro k d ⟨t,M,pl,vo,x,z,rfl,t1,t2,h,hh⟩
  apply az
  unfold yn
  change wp _ _ _ _ ⟨aj [] t, [],none,M⟩ _
  have g:=h.bd.g
  rcases hh with ⟨n,t3,hs,hnk,hn,hR⟩|⟨hs,hR,y,t3,hy0,hy1⟩
  ·obtain ⟨w,m1,r1,hw,pl1,hb1,e1⟩:=Jk h.bd h.bk
   have hdd:∀i∈cz r vcl vo,i∉dv b pl1 nm vv:=fun i hi q=>(e1.f i q).elim (h.dj i hi) fun q=>q (h.mc.old i hi).1
   have hM1:=h.mc.ev e1 h.dj fun i hi=>(h.bd.old i hi).2
   have hk1:=h.bk.trim
   have g1:=hb1.g
   have gM:=hM1.g
   have oB:=hb1.o
   have oM:=hM1.o
   have hrb:r≠b:=fun e=>hdd r (by simp[cz]) (by rw[e];simp[dv])
   cases hT:bo x.K with
   |nil=>
    rw[hT] at hw
    have hw:w= .nilp:=hw
    subst hw
    rw[j9 hT] at hR
    rw[hT] at hb1 hk1
    simp (disch:=first|assumption|omega|(simp only[aU]<;>omega)) only[go_sem,seval,t1,t2,t3,g,r1.wf,g1,KV]
    generalize hM:hp _ 0 m1=M2
    obtain ⟨hb2,e2⟩:=hb1.state (s':=1) (m':=M2) (jO oB hM) (pk hM (by simp[aE]))
    exact ⟨k - 1,by omega,_,M2,pl1,vo,⟨[],x.v,1⟩,z,by rfl,by simp only[go_sem,seval,t1],by simp only[go_sem,seval,t2],⟨hM1.ev e2 hdd fun i hi=>(hb1.old i hi).2,hb2,hdd,⟨hk1.ch,hk1.gs,hk1.pos,hk1.iv,hk1.ln,hk1.lv⟩,h.zk,h.ol,(h.ev.trans (e1.addR _)).trans (e2.addR _)⟩,Or.inr ⟨by simp,hR,(n:Int)+1,by simp only[go_sem,seval],by omega,by omega⟩⟩
   |cons y K=>
    rw[hT] at hw hb1 hk1
    obtain ⟨hy,hw⟩:=hw
    have hGs:=hk1.gs y (by simp) _ (List.getElem_mem hy)
    have hw':=hw
    obtain ⟨idt,offt,wrt,c,W,rfl,p1,p2,p3,p4,hSP⟩:=hw'
    have pm:=(hb1.c.get p2 (by simp)).trans p1
    by_cases h1000:n=1000
    ·subst h1000
     rw[nW hT] at hR
     simp (disch:=first|assumption|omega|(simp only[aU]<;>omega)) only[go_sem,seval,t1,t2,t3,g,r1.wf,g1,xe,gM]
     have oM2:am (hp [(.o b,.cells true [pl1,nm,vv,ii 2])] 0 m1) r:=bJ oM
     rw[←fA oM]
     generalize hM:hp [(.o b,.cells true [pl1,nm,vv,ii 2])] 0 m1=M2
     obtain ⟨hb2,e2⟩:=hb1.state (s':=2) (m':=M2) (jO oB hM) (pk hM (by simp[aE]))
     have hM2:=hM1.ev e2 hdd fun i hi=>(hb1.old i hi).2
     rw[hM] at oM2
     generalize hM3:M2.put r _=M3
     have hM3:M3=hp [(.o r,.cells true (fP vc vt vr rec vth st vcl vo true))] 0 M2:=by rw[←hM3,←fA oM2,aa]
     obtain ⟨hM4,e3⟩:=hM2.sick (m':=M3) (by rw[hM3];exact (aJ oM2).trans au) (by rw[hM3];exact (eA _ _ _).weak (by simp[aE]))
     exact ⟨k - 1,by omega,_,M3,pl1,vo,⟨y::K,x.v,2⟩,⟨z.cl,z.out,true⟩,by rfl,by simp only[go_sem,seval,t1],by simp only[go_sem,seval,t2],⟨hM4,hb2.ev e3 (fun i hi q=>hdd i q hi) fun i hi=>(hM2.old i hi).2,hdd,⟨hk1.ch,hk1.gs,hk1.pos,hk1.iv,hk1.ln,hk1.lv⟩,⟨h.zk.iv,h.zk.io,h.zk.n⟩,h.ol,((h.ev.trans (e1.addR _)).trans (e2.addR _)).trans (e3.addL _)⟩,Or.inr ⟨by simp,hR,1001,by simp only[go_sem,seval],by omega,by omega⟩⟩
    ·have e1000:1000 - n=(999 - n)+1:=by omega
     rw[e1000,di hT,IQ hy] at hR
     generalize ht:y.1[y.2]=tt at *
     generalize hMh:hp [(.n 0,.cells true [ii 1,ii 2,ii 3,ii 5])] 1 m1=Mh
     have hCh:Chg [] m1 Mh:=bh hMh rfl
     obtain ⟨mh,rh,hCh2⟩:=Gj Mh (v:= .slc (na m1 0) 0 4 1 4) (l:= [1,2,3,5]) (bf.of (B:=m1) (by simp) aB (by rw[←hMh];exact bP) (by rw[←hMh];exact bW (by omega)) (by rfl) (by rfl) (by rfl)).sl (by simp) (k:=tt.k) (c:=(tt.l W).tail) (by rfl)
     change bp _ _ _ [.agg (tt.l W),_] _ _ _ at rh
     have hCm:=hCh.trans hCh2 (by simp)
     have hM2:=hM1.grow hCm
     have hb2:=hb1.grow hCm
     by_cases hA:fG tt
     ·rw[O1 hA] at hR
      have hde:decide (tt.k∈ [1,2,3,5])=true:=O3 (by unfold fG at hA;simpa using hA)
      obtain ⟨m3,r3,vo3,hM3,hb3,e3,hd3⟩:=Mr hM2 hb2 hdd hk1 hc hcs h.zk (by have:=h.ol;omega) hw hGs hA
      obtain ⟨q1,q2,q3⟩:=Et hk1 h.zk hGs
      obtain ⟨a1,a2⟩:=HE (cs:=cs) (ns:=ns) (x:=⟨y::K,x.v,x.s⟩) (z:=z) tt
      obtain ⟨m4,r4,hb4,e4⟩:=mX hb3 q1 a1
      simp (disch:=first|assumption|omega|(simp only[aU]<;>omega)) only[go_sem,seval,t1,t2,t3,g,r1.wf,g1,xe,pm,p4,hMh,rh.wf',hde,r3.wf',r4.wf']
      subst hR
      exact hK' _ ⟨vo3,pl1,hM3.ev e4 hd3 fun i hi=>(hb3.old i hi).2,hb4,hd3,q1.pass a1 hy,q2,by have:=h.ol;exact Nat.le_trans q3 (by omega),((h.ev.trans (EvF.post (e1.addR _) hCm)).trans e3).trans (e4.addR _)⟩
     ·rw[O0 hA] at hR
      have hde:decide (tt.k∈ [1,2,3,5])=false:=O2 (by unfold fG at hA;simpa using hA)
      obtain ⟨m3,r3,pl3,hb3,e3⟩:=Eq hb2 hk1 (y:=y) (K:=K) rfl hy (by rw[ht];exact hw)
      rw[ht] at hb3
      have hk3:=hk1.quiet (y:=y) (K:=K) rfl hy
      rw[ht] at hk3
      have hM3:=hM2.ev e3 hdd fun i hi=>(hb2.old i hi).2
      have hdj3:∀i∈cz r vcl vo,i∉dv b pl3 nm vv:=fun i hi q=>(e3.f i q).elim (hdd i hi) fun q=>q (hM2.old i hi).1
      have hqs:(cu ns tt ⟨y::K,x.v,x.s⟩).s=0:=by
       rw[←hs]
       unfold cu
       split
       ·rfl
       split
       ·split<;>rfl
       split<;>rfl
      simp (disch:=first|assumption|omega|(simp only[aU]<;>omega)) only[go_sem,seval,t1,t2,t3,g,r1.wf,g1,xe,pm,p4,hMh,rh.wf',hde,r3.wf']
      exact ⟨k - 1,by omega,_,m3,pl3,vo,_,z,by rfl,by simp only[go_sem,seval,t1],by simp only[go_sem,seval,t2],⟨hM3,hb3,hdj3,hk3,h.zk,h.ol,(h.ev.trans (EvF.post (e1.addR _) hCm)).trans (e3.addR _)⟩,Or.inl ⟨n+1,by simp only[go_sem,seval]<;>rfl,hqs,by omega,by omega,by rw[show 1000 - (n+1)=999 - n by omega];exact hR⟩⟩
  ·simp (disch:=first|assumption|omega) only[go_sem,seval,t1,t2,t3,g]
   subst hR
   exact hK' _ ⟨vo,pl,h.mc,h.bd,h.dj,h.bk,h.zk,Nat.le_succ_of_le h.ol,h.ev⟩
 ·by_cases hs:x.s=0
  ·refine Or.inl ⟨0,by simp only[go_sem,seval]<;>rfl,hs,by omega,by omega, ?_⟩
   rw[←hR,cr,O1 hs]
  ·refine Or.inr ⟨hs, ?_,0,by simp only[go_sem,seval],by omega,by omega⟩
   rw[←hR,cr,O0 hs]
end
theorem yt {m:NH} {oc mo:D4} {Z:List (List Nat)} (hc:m.get oc=some (.cells true [.map mo])) (hm:m.get mo=some (.map (fU Z))) (s:List Nat):bp Try.prog S0 93 [.str s,.ptr oc 0] m (.bool (decide (s∈Z))) m:=by
 have h:∃r m',bp Try.prog S0 93 [.str s,.ptr oc 0] m r m'/\r= .bool (decide (s∈Z))/\m'=m:=by
  refine WF.ex fun K hK=> ?_
  refine WF.of_wpG (fun _=>rfl) xg (L:= [(.a .e,.ptr oc 0),(.e,.str s)]) rfl ?_
  unfold IS
  simp (disch:=first|assumption|omega) only[go_sem,seval,hc,hm,aa]
  exact hK _ _ ⟨rfl,rfl⟩
 obtain ⟨r,m',h1,rfl,rfl⟩:=h
 exact h1
theorem KG {m:NH} {v:NV} {l:List (List Nat)} {oc mo:D4} {Z:List (List Nat)} (hv:Sl m v 1 (cM l)) (hc:m.get oc=some (.cells true [.map mo])) (hm:m.get mo=some (.map (fU Z))) (hsz:l.length<=1099511627776):
 ∃r m',bp Try.prog S0 137 [v,.fn 93 [.ptr oc 0]] m r m'/\(∃z:Int,r=ii z/\(0<=z↔∃n∈l,n∈Z))/\m'=m:=by
 refine WF.ex fun K hK=> ?_
 refine WF.of_wpG (fun _=>rfl) uj (L:= [(.a .e,.fn 93 [.ptr oc 0]),(.e,v)]) rfl ?_
 unfold BN
 have hlen:=hv.len
 rw[List.length_map] at hlen
 simp (disch:=first|assumption|omega) only[go_sem,seval,hlen,aa]
 refine W.loop (fun k d=>∃t i,d=⟨t, [],none,m⟩/\NT.get D4.e t=some v/\NT.get D4.e.a t=some (.fn 93 [.ptr oc 0])/\NT.get D4.e.a.c t=some (ii l.length)/\NT.get D4.e.a.f t=some (ii (i:Nat))/\i+k=l.length/\∀j (hj:j<i) (hl:j<l.length),l[j]∉Z) ?_ l.length _ ⟨_,0,rfl,by simp only[go_sem,seval],by simp only[go_sem,seval],by simp only[go_sem,seval],by simp only[go_sem,seval]<;>rfl,by omega,by simp⟩
 rintro k d ⟨t,i,rfl,g1,g2,g3,g4,hik,hn⟩
 apply az
 unfold sX
 change wp _ _ _ _ ⟨aj [] t, [],none,m⟩ _
 by_cases hi:i<l.length
 ·obtain ⟨id,off,wr,c,a1,a2,a3,a4,a5⟩:=hv.at i (by simpa using hi)
  rw[List.getElem_map] at a5
  have c0:c[off]? =some (.str l[i]):=aX a5 0 (by omega)
  by_cases hin:l[i]∈Z
  ·have hp:=yt hc hm l[i]
   rw[O3 hin] at hp
   simp (disch:=first|assumption|omega) only[go_sem,seval,g1,g2,g3,g4,a1,a2,c0,hp.wf']
   exact hK _ _ ⟨⟨i,rfl,fun _=>⟨l[i],List.getElem_mem hi,hin⟩,fun _=>by omega⟩,rfl⟩
  ·have hp:=yt hc hm l[i]
   rw[O2 hin] at hp
   simp (disch:=first|assumption|omega) only[go_sem,seval,g1,g2,g3,g4,a1,a2,c0,hp.wf']
   refine ⟨k - 1,by omega,_,i+1,by rfl,by simp only[go_sem,seval,g1],by simp only[go_sem,seval,g2],by simp only[go_sem,seval,g3],by simp only[go_sem,seval]<;>rfl,by omega,fun j hj hl=> ?_⟩
   rcases Nat.lt_or_ge j i with q|q
   ·exact hn j q hl
   ·obtain rfl:j=i:=by omega
    exact hin
 ·simp (disch:=first|assumption|omega) only[go_sem,seval,g1,g2,g3,g4]
  refine hK _ _ ⟨⟨-1,rfl,fun h=>by omega,fun ⟨n,h1,h2⟩=> ?_⟩,rfl⟩
  obtain ⟨j,hj,rfl⟩:=List.getElem_of_mem h1
  exact OZ h2 (hn j (by omega) hj)
theorem xo {m:NH} {v:NV} {l:List (List Nat)} {oc mo:D4} {Z:List (List Nat)} (hv:Sl m v 1 (cM l)) (hc:m.get oc=some (.cells true [.map mo])) (hm:m.get mo=some (.map (fU Z))) (hsz:l.length<=1099511627776):
 bp Try.prog S0 92 [v,.fn 93 [.ptr oc 0]] m (.bool (decide (∃n∈l,n∈Z))) m:=by
 have h:∃r m',bp Try.prog S0 92 [v,.fn 93 [.ptr oc 0]] m r m'/\r= .bool (decide (∃n∈l,n∈Z))/\m'=m:=by
  refine WF.ex fun K hK=> ?_
  refine WF.of_wpG (fun _=>rfl) yq (L:= [(.a .e,.fn 93 [.ptr oc 0]),(.e,v)]) rfl ?_
  unfold Hf
  obtain ⟨r,m',hr,⟨z,rfl,hz⟩,rfl⟩:=KG hv hc hm hsz
  simp (disch:=first|assumption|omega) only[go_sem,seval,aa,hr.wf']
  refine hK _ _ ⟨?_,rfl⟩
  simp only[hz]
 obtain ⟨r,m',h1,rfl,rfl⟩:=h
 exact h1
abbrev J5:=(List (List Nat)×Nat)×Option (Int×Int)
def pU (Z:List (List Nat)) (st:J5) (x:Stm):J5×Bool:=
 if (x.k=1∨x.k=2∨x.k=3)/\x.ce∉Z then ((st.1,some (x.a,4)),false)
 else if ∃n∈x.own,n∈Z then ((st.1,some (x.a,6)),false)
 else if 12<(x.own.foldl cC st.1.1).length then (((x.own.foldl cC st.1.1,st.1.2+x.own.length),some (x.a,3)),false)
 else (((x.own.foldl cC st.1.1,st.1.2+x.own.length),none),true)
def OF (st:J5) (x:Stm):Prop:=st.2=none/\x.sz<=100000000/\st.1.2+x.own.length<=100000000
def J2:Option (Int×Int)->Int|some (a,_)=>a|none=>0
def uI:Option (Int×Int)->Int|some (_,e)=>e|none=>0
def Mw:Option (Int×Int)->Nat|some _=>2|none=>0
def Nx:Option (Int×Int)->Jump|some _=> .ret|none=> .none
def OA (q o b er:D4) (t:Tm) (M1:NH) (st:J5) (F:List D4) (N:NH):Prop:=∃u,F=q::o::b::er::ids u/\Chg [q,o,b,er] M1 N/\N.get q=some (.loop (Mw st.2) (Nx st.2) t [D4.e.b.c] eT eI)/\N.get o=some (.cells true [u])/\N.get b=some (.cells true [ii (J2 st.2)])/\N.get er=some (.cells true [ii (uI st.2)])/\bf M1 N u 1 (cM st.1.1)/\st.1.1.length<=st.1.2
structure BdO (q o b er oc mo:D4) (M1:NH):Prop where
 qo:q≠o
 qb:q≠b
 qe:q≠er
 ob:o≠b
 oe:o≠er
 be:b≠er
 oq:am M1 q
 oo:am M1 o
 ol:am M1 b
 om:am M1 er
 og:am M1 oc
 od:am M1 mo
 cc:oc∉ [q,o,b,er]
 cd:mo∉ [q,o,b,er]
theorem ue {q o b er oc mo:D4} {t:Tm} {M1 M M':NH} {u:NV} {L:List (List Nat)} {n:Nat} {r:Option (Int×Int)} (hO:BdO q o b er oc mo M1) (hC:Chg [q,o,b,er] M1 M) (hC':Chg [q,o,b,er] M M') (hq:M'.get q=some (.loop (Mw r) (Nx r) t [D4.e.b.c] eT eI)) (ho:M'.get o=some (.cells true [u])) (hb:M'.get b=some (.cells true [ii (J2 r)])) (he:M'.get er=some (.cells true [ii (uI r)])) (hu:bf M1 M u 1 (cM L)) (hl:L.length<=n):
 OA q o b er t M1 ((L,n),r) (q::o::b::er::ids u) M':=by
 refine ⟨u,rfl,hC.trans hC' fun _ h _=>h,hq,ho,hb,he,hu.chg hC' fun i hi=> ?_,hl⟩
 have hn:=hu.new i hi
 simp only[O5,O4,or_false,not_or]
 exact ⟨fun e=>hn (e▸hO.oq),fun e=>hn (e▸hO.oo),fun e=>hn (e▸hO.ol),fun e=>hn (e▸hO.om)⟩
theorem En {m0 M1:NH} {T:D4->Prop} {q o b er oc mo:D4} {t:Tm} {Z:List (List Nat)} (hO:BdO q o b er oc mo M1) (h1:NT.get D4.e.c t=some (.ptr oc 0)) (h2:NT.get D4.e.f t=some (.ptr b 0)) (h3:NT.get D4.e.a.a t=some (.ptr er 0)) (h4:NT.get D4.e.a.b t=some (.ptr o 0)) (hc:M1.get oc=some (.cells true [.map mo])) (hm:M1.get mo=some (.map (fU Z)))
 (h0:∀S,Chg [q,o,b,er] M1 S->Chg [] m0 S):Ylds q m0 T OF (pU Z) (OA q o b er t M1):=by
 refine ⟨?_, ?_, ?_, ?_⟩
 ·rintro s F N ⟨u,rfl,hC,-⟩;exact h0 _ hC
 ·rintro s F N ⟨u,rfl,hC,hq,ho,hb,he,hu,hl⟩ i hi
  simp only[O5] at hi
  rcases hi with rfl|rfl|rfl|rfl|hi
  ·exact hC.old hO.oq
  ·exact hC.old hO.oo
  ·exact hC.old hO.ol
  ·exact hC.old hO.om
  ·exact hu.sl.old i hi
 ·rintro s F N N' ⟨u,rfl,hC,hq,ho,hb,he,hu,hl⟩ hC'
  exact ⟨u,rfl,hC.trans hC' (by simp),(hC'.get (hC.old hO.oq) (by simp)).trans hq,(hC'.get (hC.old hO.oo) (by simp)).trans ho,(hC'.get (hC.old hO.ol) (by simp)).trans hb,(hC'.get (hC.old hO.om) (by simp)).trans he,hu.chg hC' fun _ _=>by simp,hl⟩
 ·rintro ⟨⟨L,n⟩,r⟩ F N x c ⟨u,rfl,hC,hq,ho,hb,he,hu,hl⟩ hR ⟨hA0,hA1,hA2⟩
  cases hA0
  have hq:N.get q=some (.loop 0 .none t [D4.e.b.c] eT eI):=hq
  have hb:N.get b=some (.cells true [ii 0]):=hb
  have he:N.get er=some (.cells true [ii 0]):=he
  obtain ⟨w,rfl,hP⟩:=hR.inv'
  refine WY.ex1 fun K hK=> ?_
  refine WY.of_wp hq rfl eT.eq_1 eI.eq_1 ?_
  change wp _ _ _ _ ⟨aj [(D4.e.b.c,.agg (x.l w))] t, [],none,hp [] 0 N⟩ _
  have hl21:(x.l w).length=21:=rfl
  have hl21':(x.l w).take 21=x.l w:=rfl
  have oq:=hC.old hO.oq
  have oo:=hC.old hO.oo
  have ob:=hC.old hO.ol
  have oe:=hC.old hO.om
  have qo:=hO.qo
  have qo':=hO.qo.symm
  have qb:=hO.qb
  have qb':=hO.qb.symm
  have qe:=hO.qe
  have qe':=hO.qe.symm
  have obn:=hO.ob
  have obn':=hO.ob.symm
  have oen:=hO.oe
  have oen':=hO.oe.symm
  have ben:=hO.be
  have ben':=hO.be.symm
  have hcN:=(hC.get hO.og hO.cc).trans hc
  have hmN:=(hC.get hO.od hO.cd).trans hm
  have occ:=hC.old hO.og
  have omo:=hC.old hO.od
  simp (disch:=first|assumption|omega|(simp only[aU]<;>omega)) only[go_sem,seval,h1,h2,h3,h4,hq,ho,hl21,hl21']
  generalize hM2:hp _ 1 N=M2
  have hC2:Chg [q] N M2:=bh hM2 rfl
  have hcq:oc≠q:=fun e=>hO.cc (by simp[e])
  have hmq:mo≠q:=fun e=>hO.cd (by simp[e])
  have q2:M2.get q=some (.loop 1 .none t [D4.e.b.c] eT eI):=jO oq hM2
  have o2:M2.get o=some (.cells true [u]):=(hC2.get oo (by simpa using qo')).trans ho
  have e2:=(hC2.get oe (by simpa using qe')).trans he
  have b2:=(hC2.get ob (by simpa using qb')).trans hb
  have c2:=(hC2.get occ (by simpa using hcq)).trans hcN
  have d2:=(hC2.get omo (by simpa using hmq)).trans hmN
  have x2:M2.get (na N 0)=some (.cells true (x.l w)):=bM hM2
  have ox2:am M2 (na N 0):=bL hM2 (by omega)
  have hC02:Chg [] m0 M2:=h0 _ (hC.trans (hC2.weak (T:= [q,o,b,er]) (by simp)) fun _ h _=>h)
  refine WF.use (yo hR hC02 hA1) ?_
  rintro v3 M3 ⟨hv3,hC3⟩
  have hC23:=hC2.trans hC3 (by simp)
  have q3:=(hC3.get (hC2.old oq) (by simp)).trans q2
  have o3:=(hC3.get (hC2.old oo) (by simp)).trans o2
  have x3:=(hC3.get ox2 (by simp)).trans x2
  have hqu:q∉ids u:=fun h=>hu.new _ h hO.oq
  have hou:o∉ids u:=fun h=>hu.new _ h hO.oo
  have hbu:b∉ids u:=fun h=>hu.new _ h hO.ol
  have heu:er∉ids u:=fun h=>hu.new _ h hO.om
  have hu3:bf M1 M3 u 1 (cM L):=hu.chg hC23 fun i hi=>by simp;rintro rfl;exact hqu hi
  have hus:bz 4 u u=true:=hu.sl.same
  have ox3:=hC3.old ox2
  simp (disch:=first|assumption|omega|(simp only[aU]<;>omega)) only[go_sem,seval,h1,h2,h3,h4,q3,o3,x3,hl21,hl21',hus]
  refine WF.use1 (tP M3 [1,2,3] rfl rfl (by decide)) ?_
  intro M4 hC4
  have t3:(x.l w)[3]? =some (.str x.ce):=rfl
  have t1:(x.l w)[1]? =some (ii x.a):=rfl
  have oq3:=hC3.old (hC2.old oq)
  have q4:=(hC4.get oq3 (by simp)).trans q3
  have oq4:=hC4.old oq3
  have oo3:=hC3.old (hC2.old oo)
  have o4:=(hC4.get oo3 (by simp)).trans o3
  have oo4:=hC4.old oo3
  have hC24:=hC3.trans hC4 (by simp)
  have b4:=(hC24.get (hC2.old ob) (by simp)).trans b2
  have ob4:=hC24.old (hC2.old ob)
  have e4:=(hC24.get (hC2.old oe) (by simp)).trans e2
  have oe4:=hC24.old (hC2.old oe)
  have c4:=(hC24.get (hC2.old occ) (by simp)).trans c2
  have d4:=(hC24.get (hC2.old omo) (by simp)).trans d2
  have x4:=(hC4.get ox3 (by simp)).trans x3
  have ox4:=hC4.old ox3
  have hx1:na N 0≠b:=fun e=>ob.ne 0 e.symm
  have hx2:na N 0≠er:=fun e=>oe.ne 0 e.symm
  have hx3:na N 0≠q:=fun e=>oq.ne 0 e.symm
  have hx4:na N 0≠o:=fun e=>oo.ne 0 e.symm
  have hL:L.length<=n:=hl
  have hA2':n+x.own.length<=100000000:=hA2
  have hu4:bf M1 M4 u 1 (cM L):=hu3.chg hC4 fun _ _=>by simp
  have hv4:=hv3.chg hC4 fun _ _=>by simp
  have hN4:Chg [q] N M4:=hC23.trans hC4 (by simp)
  have hM14:Chg [q,o,b,er] M1 M4:=hC.trans (hN4.weak (T:= [q,o,b,er]) (by simp)) fun _ h _=>h
  have hxu:na N 0∉ids u:=fun h=>(hu.sl.old _ h).ne 0 rfl
  have stop:∀e:Int,pU Z ((L,n),none) x=(((L,n),some (x.a,e)),false)->K (.bool false) (hp [(.o q,.loop 2 .ret t [D4.e.b.c] eT eI),(.o er,.cells true [ii e]),(.o b,.cells true [ii x.a])] 0 M4):=by
   intro e hf
   rw[hf] at hK
   generalize hM5:hp _ 0 M4=M5
   have hC5:Chg [q,er,b] M4 M5:=bh hM5 rfl
   have hC5':Chg [q,o,b,er] M4 M5:=hC5.weak (by simp)
   refine hK M5 ⟨_,ue hO hM14 hC5' ?_ ?_ ?_ ?_ hu4 hl, ?_,fun i hi=>Or.inl hi⟩
   ·rw[←hM5];exact (aJ oq4).trans au
   ·exact (hC5.get oo4 (by simp[qo',oen,obn])).trans o4
   ·rw[←hM5];exact (aJ ob4).trans ((a9 qb').trans ((a9 ben).trans au))
   ·rw[←hM5];exact (aJ oe4).trans ((a9 qe').trans au)
   ·exact (hN4.weak (T:=q::o::b::er::ids u) (by simp)).trans hC5' (fun i h _=>by simp at h ⊢;rcases h with h|h|h|h<;>simp[h])
  by_cases hk:x.k=1∨x.k=2∨x.k=3
  ·rw[O3 (by simpa using hk:x.k∈ [1,2,3])]
   by_cases hz:x.ce∈Z
   ·have hz':decide (x.ce∈Z)=true:=O3 hz
    have hnz:¬((x.k=1∨x.k=2∨x.k=3)/\x.ce∉Z):=fun h=>h.2 hz
    by_cases hn:∃n∈x.own,n∈Z
    ·have cof:=xo hv4.sl c4 d4 (by omega)
     rw[O3 hn] at cof
     simp (disch:=first|assumption|omega) only[go_sem,seval,h1,h2,h3,h4,q4,o4,x4,c4,d4,b4,e4,hl21,hl21',hus,t3,t1,hz']
     refine WF.use1H ⟨M4,cof,rfl⟩ ?_
     rintro _ rfl
     simp (disch:=first|assumption|omega|(simp only[aU]<;>omega)) only[go_sem,seval,h1,h2,h3,h4,q4,o4,x4,c4,d4,b4,e4,hl21,hl21',hus,t3,t1]
     exact stop 6 (by unfold pU;rw[O0 hnz,O1 hn])
    ·have cof:=xo hv4.sl c4 d4 (by omega)
     rw[O2 hn] at cof
     simp (disch:=first|assumption|omega) only[go_sem,seval,h1,h2,h3,h4,q4,o4,x4,c4,d4,b4,e4,hl21,hl21',hus,t3,t1,hz',cof.wf']
     refine WF.use (vV hu4 hv4.sl (fun i hi hiu=>hv4.new i hi (hC2.old (hu.sl.old i hiu))) (fun i hi=>hC4.old (hC3.old (hC2.old (hC.old hi)))) (by show L.length+x.own.length<=_;omega)) ?_
     rintro v5 M5 ⟨hv5,hC5,hF5⟩
     have hq5:=(hC5.get oq4 hqu).trans q4
     have hoq5:=hC5.old oq4
     have ho5:=(hC5.get oo4 hou).trans o4
     have hoo5:=hC5.old oo4
     have hb5:=(hC5.get ob4 hbu).trans b4
     have hob5:=hC5.old ob4
     have he5:=(hC5.get oe4 heu).trans e4
     have hoe5:=hC5.old oe4
     have hx5:=(hC5.get ox4 hxu).trans x4
     have hox5:=hC5.old ox4
     have hlen5:=hv5.sl.len
     rw[List.length_map] at hlen5
     have hfl:=ig x.own L
     rw[←aa M5]
     have hM15:Chg [q,o,b,er] M1 M5:=hM14.trans hC5 fun i hi ho=>OZ ho (hu.new i hi)
     have hN5:Chg (q::o::b::er::ids u) N M5:=(hN4.weak (T:=q::o::b::er::ids u) (by simp)).trans hC5 fun i h _=>by simp[h]
     have hF:∀i∈q::o::b::er::ids v5,i∈q::o::b::er::ids u∨¬am N i:=by
      intro i hi
      simp only[O5] at hi ⊢
      rcases hi with rfl|rfl|rfl|rfl|hi
      ·simp
      ·simp
      ·simp
      ·simp
      ·rcases hF5 i hi with h|h
       ·exact Or.inl (Or.inr (Or.inr (Or.inr (Or.inr h))))
       ·exact Or.inr fun ho=>h (hN4.old ho)
     by_cases h12:12<(x.own.foldl cC L).length
     ·have hf:pU Z ((L,n),none) x=(((x.own.foldl cC L,n+x.own.length),some (x.a,3)),false):=by unfold pU;rw[O0 hnz,O0 hn,O1 h12]
      rw[hf] at hK
      simp (disch:=first|assumption|omega|(simp only[aU]<;>omega)) only[go_sem,seval,h1,h2,h3,h4,hq5,ho5,hx5,hb5,he5,hl21,hl21',t1,hv5.sl.one,hlen5,h12]
      generalize hM6:hp _ 0 M5=M6
      have hC6:Chg [q,er,b,o] M5 M6:=bh hM6 rfl
      have hC6':Chg [q,o,b,er] M5 M6:=hC6.weak (by simp)
      refine hK M6 ⟨_,ue hO hM15 hC6' ?_ ?_ ?_ ?_ hv5 (by show _<=n+_;have:L.length<=n:=hl;omega),hN5.trans hC6' (fun i h _=>by simp at h ⊢;rcases h with h|h|h|h<;>simp[h]),hF⟩
      ·rw[←hM6];exact (aJ hoq5).trans au
      ·rw[←hM6];exact (aJ hoo5).trans ((a9 qo').trans ((a9 oen).trans ((a9 obn).trans au)))
      ·rw[←hM6];exact (aJ hob5).trans ((a9 qb').trans ((a9 ben).trans au))
      ·rw[←hM6];exact (aJ hoe5).trans ((a9 qe').trans au)
     ·have hf:pU Z ((L,n),none) x=(((x.own.foldl cC L,n+x.own.length),none),true):=by unfold pU;rw[O0 hnz,O0 hn,O0 h12]
      rw[hf] at hK
      simp (disch:=first|assumption|omega|(simp only[aU]<;>omega)) only[go_sem,seval,h1,h2,h3,h4,hq5,ho5,hx5,hb5,he5,hl21,hl21',t1,hv5.sl.one,hlen5,h12]
      generalize hM6:hp _ 0 M5=M6
      have hC6:Chg [q,o] M5 M6:=bh hM6 rfl
      have hC6':Chg [q,o,b,er] M5 M6:=hC6.weak (by simp)
      refine hK M6 ⟨_,ue hO hM15 hC6' ?_ ?_ ?_ ?_ hv5 (by show _<=n+_;have:L.length<=n:=hl;omega),hN5.trans hC6' (fun i h _=>by simp at h ⊢;rcases h with h|h|h|h<;>simp[h]),hF⟩
      ·rw[←hM6];exact (aJ hoq5).trans au
      ·rw[←hM6];exact (aJ hoo5).trans ((a9 qo').trans au)
      ·exact (hC6.get hob5 (by simp[qb',obn'])).trans hb5
      ·exact (hC6.get hoe5 (by simp[qe',oen'])).trans he5
   ·have hz':decide (x.ce∈Z)=false:=O2 hz
    rw[←aa M4]
    simp (disch:=first|assumption|omega|(simp only[aU]<;>omega)) only[go_sem,seval,h1,h2,h3,h4,q4,o4,x4,c4,d4,b4,e4,hl21,hl21',hus,t3,t1,hz']
    exact stop 4 (by unfold pU;rw[O1 ⟨hk,hz⟩])
  ·rw[O2 (by simpa using hk:x.k∉ [1,2,3])]
   have hnz:¬((x.k=1∨x.k=2∨x.k=3)/\x.ce∉Z):=fun h=>hk h.1
   by_cases hn:∃n∈x.own,n∈Z
   ·have cof:=xo hv4.sl c4 d4 (by omega)
    rw[O3 hn] at cof
    simp (disch:=first|assumption|omega) only[go_sem,seval,h1,h2,h3,h4,q4,o4,x4,c4,d4,b4,e4,hl21,hl21',hus,t3,t1]
    refine WF.use1H ⟨M4,cof,rfl⟩ ?_
    rintro _ rfl
    simp (disch:=first|assumption|omega|(simp only[aU]<;>omega)) only[go_sem,seval,h1,h2,h3,h4,q4,o4,x4,c4,d4,b4,e4,hl21,hl21',hus,t3,t1]
    exact stop 6 (by unfold pU;rw[O0 hnz,O1 hn])
   ·have cof:=xo hv4.sl c4 d4 (by omega)
    rw[O2 hn] at cof
    simp (disch:=first|assumption|omega) only[go_sem,seval,h1,h2,h3,h4,q4,o4,x4,c4,d4,b4,e4,hl21,hl21',hus,t3,t1,cof.wf']
    refine WF.use (vV hu4 hv4.sl (fun i hi hiu=>hv4.new i hi (hC2.old (hu.sl.old i hiu))) (fun i hi=>hC4.old (hC3.old (hC2.old (hC.old hi)))) (by show L.length+x.own.length<=_;omega)) ?_
    rintro v5 M5 ⟨hv5,hC5,hF5⟩
    have hq5:=(hC5.get oq4 hqu).trans q4
    have hoq5:=hC5.old oq4
    have ho5:=(hC5.get oo4 hou).trans o4
    have hoo5:=hC5.old oo4
    have hb5:=(hC5.get ob4 hbu).trans b4
    have hob5:=hC5.old ob4
    have he5:=(hC5.get oe4 heu).trans e4
    have hoe5:=hC5.old oe4
    have hx5:=(hC5.get ox4 hxu).trans x4
    have hox5:=hC5.old ox4
    have hlen5:=hv5.sl.len
    rw[List.length_map] at hlen5
    have hfl:=ig x.own L
    rw[←aa M5]
    have hM15:Chg [q,o,b,er] M1 M5:=hM14.trans hC5 fun i hi ho=>OZ ho (hu.new i hi)
    have hN5:Chg (q::o::b::er::ids u) N M5:=(hN4.weak (T:=q::o::b::er::ids u) (by simp)).trans hC5 fun i h _=>by simp[h]
    have hF:∀i∈q::o::b::er::ids v5,i∈q::o::b::er::ids u∨¬am N i:=by
     intro i hi
     simp only[O5] at hi ⊢
     rcases hi with rfl|rfl|rfl|rfl|hi
     ·simp
     ·simp
     ·simp
     ·simp
     ·rcases hF5 i hi with h|h
      ·exact Or.inl (Or.inr (Or.inr (Or.inr (Or.inr h))))
      ·exact Or.inr fun ho=>h (hN4.old ho)
    by_cases h12:12<(x.own.foldl cC L).length
    ·have hf:pU Z ((L,n),none) x=(((x.own.foldl cC L,n+x.own.length),some (x.a,3)),false):=by unfold pU;rw[O0 hnz,O0 hn,O1 h12]
     rw[hf] at hK
     simp (disch:=first|assumption|omega|(simp only[aU]<;>omega)) only[go_sem,seval,h1,h2,h3,h4,hq5,ho5,hx5,hb5,he5,hl21,hl21',t1,hv5.sl.one,hlen5,h12]
     generalize hM6:hp _ 0 M5=M6
     have hC6:Chg [q,er,b,o] M5 M6:=bh hM6 rfl
     have hC6':Chg [q,o,b,er] M5 M6:=hC6.weak (by simp)
     refine hK M6 ⟨_,ue hO hM15 hC6' ?_ ?_ ?_ ?_ hv5 (by show _<=n+_;have:L.length<=n:=hl;omega),hN5.trans hC6' (fun i h _=>by simp at h ⊢;rcases h with h|h|h|h<;>simp[h]),hF⟩
     ·rw[←hM6];exact (aJ hoq5).trans au
     ·rw[←hM6];exact (aJ hoo5).trans ((a9 qo').trans ((a9 oen).trans ((a9 obn).trans au)))
     ·rw[←hM6];exact (aJ hob5).trans ((a9 qb').trans ((a9 ben).trans au))
     ·rw[←hM6];exact (aJ hoe5).trans ((a9 qe').trans au)
    ·have hf:pU Z ((L,n),none) x=(((x.own.foldl cC L,n+x.own.length),none),true):=by unfold pU;rw[O0 hnz,O0 hn,O0 h12]
     rw[hf] at hK
     simp (disch:=first|assumption|omega|(simp only[aU]<;>omega)) only[go_sem,seval,h1,h2,h3,h4,hq5,ho5,hx5,hb5,he5,hl21,hl21',t1,hv5.sl.one,hlen5,h12]
     generalize hM6:hp _ 0 M5=M6
     have hC6:Chg [q,o] M5 M6:=bh hM6 rfl
     have hC6':Chg [q,o,b,er] M5 M6:=hC6.weak (by simp)
     refine hK M6 ⟨_,ue hO hM15 hC6' ?_ ?_ ?_ ?_ hv5 (by show _<=n+_;have:L.length<=n:=hl;omega),hN5.trans hC6' (fun i h _=>by simp at h ⊢;rcases h with h|h|h|h<;>simp[h]),hF⟩
     ·rw[←hM6];exact (aJ hoq5).trans au
     ·rw[←hM6];exact (aJ hoo5).trans ((a9 qo').trans au)
     ·exact (hC6.get hob5 (by simp[qb',obn'])).trans hb5
     ·exact (hC6.get hoe5 (by simp[qe',oen'])).trans he5
theorem KW {Z:List (List Nat)} (l:List Stm):∀st:J5,st.2=none->(∀x∈l,x.sz<=100000000)->st.1.2+(l.flatMap Stm.own).length<=100000000->Al OF (pU Z) l st:=by
 induction l with
 |nil=>intro st _ _ _;trivial
 |cons x l ih=>
  intro st h0 h1 h2
  rw[List.flatMap_cons,List.length_append] at h2
  refine ⟨⟨h0,h1 x (List.mem_cons_self ..),by omega⟩,fun h=> ?_⟩
  have e:(pU Z st x).1=((x.own.foldl cC st.1.1,st.1.2+x.own.length),none):=by
   unfold pU at h ⊢
   split at h
   ·cases h
   ·split at h
    ·cases h
    ·split at h
     ·cases h
     ·rename_i a b c;rw[O0 a,O0 b,O0 c]
  rw[e]
  exact ih _ rfl (fun y hy=>h1 y (List.mem_cons_of_mem _ hy)) (by show st.1.2+_+_<=_;omega)
def hH (Z:List (List Nat)) (l:List Stm):Option (Int×Int):=(bt (pU Z) (bC l) (([],0),none)).1.2
theorem Gn {m0 m:NH} {T:D4->Prop} {v:NV} {l:List Stm} {C:List (List NV)} {mo:D4} {Z:List (List Nat)} (hS:SS m0 T v l C) (hC0:Chg [] m0 m) (hm:m.get mo=some (.map (fU Z))) (hmo:am m mo) (hsz:cZ l<=10000000):
 ∃m',bp Try.prog S0 49 [v,.map mo] m (.tup [ii (J2 (hH Z l)),ii (uI (hH Z l))]) m'/\Chg [] m m':=by
 refine WF.ex1 fun K hK=> ?_
 refine WF.of_wpM (fun _=>rfl) xO (L:= [(.a .e,.map mo),(.e,v)]) rfl ?_
 unfold Ie
 simp (disch:=first|assumption|omega) only[go_sem,seval,(GK _ hS.sl.one).wf']
 generalize hM0:hp _ 4 m=M0
 have hC1:Chg [] m M0:=bh hM0 rfl
 have gc0:M0.get (na m 0)=some (.cells true [.map mo]):=bM hM0
 have gb0:M0.get (na m 1)=some (.cells true [ii 0]):=bM hM0
 have ge0:M0.get (na m 2)=some (.cells true [ii 0]):=bM hM0
 have go0:M0.get (na m 3)=some (.cells true [.nils]):=bM hM0
 have oc0:am M0 (na m 0):=bL hM0 (by omega)
 have ob0:am M0 (na m 1):=bL hM0 (by omega)
 have oe0:am M0 (na m 2):=bL hM0 (by omega)
 have oo0:am M0 (na m 3):=bL hM0 (by omega)
 have gm0:=(hC1.get hmo (by simp)).trans hm
 have om0:=hC1.old hmo
 generalize hM:hp [(.n 0,.cells true [v])] 1 M0=M
 have hC2:Chg [] M0 M:=bh hM rfl
 have gz:M.get (na M0 0)=some (.cells true [v]):=bM hM
 have oz:am M (na M0 0):=bL hM (by omega)
 have hCm:Chg [] m M:=hC1.trans hC2 (by simp)
 generalize ht:aj [(D4.e.b.b,NV.fn 97 [NV.ptr (na M0 0) 0]),(D4.e.b.a,v),(D4.e.a.b,NV.ptr (na m 3) 0),(D4.e.a.a,NV.ptr (na m 2) 0),(D4.e.f,NV.ptr (na m 1) 0),(D4.e.c,NV.ptr (na m 0) 0),(D4.e.a,NV.map mo),(D4.e,v)] NT.leaf=t
 have g1:NT.get D4.e.c t=some (.ptr (na m 0) 0):=by rw[←ht];simp (disch:=first|assumption|omega) only[go_sem,seval]
 have g2:NT.get D4.e.b.b t=some (.fn 97 [.ptr (na M0 0) 0]):=by rw[←ht];simp (disch:=first|assumption|omega) only[go_sem,seval]
 have g3:NT.get D4.e.f t=some (.ptr (na m 1) 0):=by rw[←ht];simp (disch:=first|assumption|omega) only[go_sem,seval]
 have g4:NT.get D4.e.a.a t=some (.ptr (na m 2) 0):=by rw[←ht];simp (disch:=first|assumption|omega) only[go_sem,seval]
 have g5:NT.get D4.e.a.b t=some (.ptr (na m 3) 0):=by rw[←ht];simp (disch:=first|assumption|omega) only[go_sem,seval]
 clear ht
 generalize hM1:hp [(.n 1,.loop 0 .none t [D4.e.b.c] eT eI),(.n 0,.defd true)] 2 M=M1
 have hG:Chg [] M M1:=bh hM1 rfl
 have oq:am M1 (na M 1):=bL hM1 (by omega)
 have om:am M1 (na M 0):=bL hM1 (by omega)
 have gq:M1.get (na M 1)=some (.loop 0 .none t [D4.e.b.c] eT eI):=bM hM1
 have gm:M1.get (na M 0)=some (.defd true):=bM hM1
 have hG2:Chg [] M0 M1:=hC2.trans hG (by simp)
 have hCm1:Chg [] m M1:=hCm.trans hG (by simp)
 have n01:∀{i:D4} {k:Nat},am M0 i->i≠na M k:=fun h=>(hC2.old h).ne _
 have nm:∀{j k:Nat},j≠k->na m j≠na m k:=fun h e=>h (jD e)
 have hO:BdO (na M 1) (na m 3) (na m 1) (na m 2) (na m 0) mo M1:=by
  refine ⟨(n01 oo0).symm,(n01 ob0).symm,(n01 oe0).symm,nm (by omega),nm (by omega),nm (by omega),oq,hG2.old oo0,hG2.old ob0,hG2.old oe0,hG2.old oc0,hG2.old om0, ?_, ?_⟩
  ·simp only[O5,O4,or_false,not_or]
   exact ⟨n01 oc0,nm (by omega),nm (by omega),nm (by omega)⟩
  ·simp only[O5,O4,or_false,not_or]
   exact ⟨n01 om0,hmo.ne 3,hmo.ne 1,hmo.ne 2⟩
 have h0:∀S,Chg [na M 1,na m 3,na m 1,na m 2] M1 S->Chg [] m0 S:=fun S h=>(hC0.trans hCm1 (by simp)).trans h fun i hi ho=>by
  simp only[O5,O4,or_false] at hi
  rcases hi with rfl|rfl|rfl|rfl
  ·exact OZ (hCm.old (hC0.old ho)) aB
  ·exact OZ (hC0.old ho) aB
  ·exact OZ (hC0.old ho) aB
  ·exact OZ (hC0.old ho) aB
 have hY:=En (T:=T) hO g1 g3 g4 g5 ((hG2.get oc0 (by simp)).trans gc0) ((hG2.get om0 (by simp)).trans gm0) h0
 obtain ⟨hA1,hA2⟩:=rf l
 obtain ⟨m',hr,F',⟨u,rfl,hC3,hq3,ho3,hb3,he3,hu3,-⟩,hC4,-⟩:=A9 hY (s:=(([],0),none)) (F:= [na M 1,na m 3,na m 1,na m 2]) (id:=na M0 0) ((hG.get oz (by simp)).trans gz) hS ⟨.nils,rfl,(Chg.refl M1).weak (by simp),gq,(hG2.get oo0 (by simp)).trans go0,(hG2.get ob0 (by simp)).trans gb0,(hG2.get oe0 (by simp)).trans ge0,bf.nil,by simp⟩ (KW _ _ rfl (fun x hx=>by have:=hA1 x hx;omega) (by show 0+_<=_;omega)) (by omega)
 change m'.get _=some (.loop (Mw (hH Z l)) (Nx (hH Z l)) _ _ _ _) at hq3
 change m'.get _=some (.cells true [ii (J2 (hH Z l))]) at hb3
 change m'.get _=some (.cells true [ii (uI (hH Z l))]) at he3
 have hst:Mw (hH Z l)≠1:=by cases hH Z l<;>simp[Mw]
 refine W.rangeJ g2 (hM1▸hr) hq3 hst ?_ (hC3.old oq)
 have gm3:m'.get (na M 0)=some (.defd true):=(hC3.get om (by
  simp only[O5,O4,or_false,not_or]
  exact ⟨fun e=>by have:=jD e;omega,fun e=>n01 oo0 e.symm,fun e=>n01 ob0 e.symm,fun e=>n01 oe0 e.symm⟩)).trans gm
 have om3:=hC3.old om
 have ob3:=hC3.old (hG2.old ob0)
 have oe3:=hC3.old (hG2.old oe0)
 have hne:na M 0≠na M 1:=fun e=>by have:=jD e;omega
 have n1:na m 1≠na M 1:=n01 ob0
 have n1':na m 1≠na M 0:=n01 ob0
 have n2:na m 2≠na M 1:=n01 oe0
 have n2':na m 2≠na M 0:=n01 oe0
 have n3:na m 1≠na m 2:=nm (by omega)
 have n3':na m 2≠na m 1:=nm (by omega)
 have fin:∀{S:List D4} {Me:NH},Chg S m' Me->(∀i∈S,i∈ [na M 1,na M 0,na m 1,na m 2])->Chg [] m Me:=by
  intro S Me hCe hS
  refine ((hCm1.weak (T:= [na M 1,na m 3,na m 1,na m 2,na M 0]) (by simp)).trans hC3 fun i h _=>by simp at h ⊢;rcases h with h|h|h|h<;>simp[h]).trans hCe (fun i h _=>by have:=hS i h;simp at this ⊢;rcases this with h|h|h|h<;>simp[h]) |>.weak fun i hi ho=> ?_
  simp only[O5,O4,or_false] at hi
  rcases hi with rfl|rfl|rfl|rfl|rfl
  ·exact OZ (hCm.old ho) aB
  ·exact OZ ho aB
  ·exact OZ ho aB
  ·exact OZ ho aB
  ·exact OZ (hCm.old ho) aB
 have n1s:=n1'.symm
 have n2s:=n2'.symm
 have n1t:=n1.symm
 have n2t:=n2.symm
 have hne':=hne.symm
 cases hb:hH Z l with
 |none=>
  rw[hb] at hb3 he3 hK
  change ip _ _ (Db .none) ⟨aj [] t,_,_,_⟩
  simp (disch:=first|assumption|omega|(simp only[aU]<;>omega)) only[go_sem,seval,Db,g1,g3,g4,gm3,om3,hb3,he3]
  refine wI ?_
  rw[wo]
  simp (disch:=first|assumption|omega) only[go_sem,seval,g1,g3,g4,gm3,om3,hb3,he3,ob3,oe3]
  refine hK _ ?_
  generalize hMe:hp _ 0 m'=Me
  have hCe:Chg [na M 0,na m 2,na m 1,na M 1] m' Me:=bh hMe rfl
  exact fin hCe (by simp)
 |some z=>
  obtain ⟨za,ze⟩:=z
  rw[hb] at hb3 he3 hK
  change ip _ _ (Db .ret) ⟨aj [] t,_,_,_⟩
  simp (disch:=first|assumption|omega) only[go_sem,seval,Db,g1,g3,g4,gm3,om3,hb3,he3]
  refine wI ?_
  rw[wo]
  simp (disch:=first|assumption|omega) only[go_sem,seval,g1,g3,g4,gm3,om3,hb3,he3,ob3,oe3]
  refine hK _ ?_
  generalize hMe:hp _ 0 m'=Me
  have hCe:Chg [na M 0,na M 1] m' Me:=bh hMe rfl
  exact fin hCe (by simp)
def lD (Z:List (List Nat)) (r:List Stm):List (List Stm)->Int×Int
 | []=>(J2 (hH Z r),uI (hH Z r))
 |b::l=>if uI (hH Z b)≠0 then (J2 (hH Z b),uI (hH Z b)) else lD Z r l
def Ge (p:Prg):List (List Nat):=(p.cs.map (·.1)).foldl cC []
def dz (p:Prg):Int×Int:=if m8 p≠0 then (0,m8 p) else lD (Ge p) p.r (p.ts.map (·.2))
theorem KA {m:NH} {T:D4->Prop} {p:Prg} {vc vt vr:NV} (h:RP m T p vc vt vr) (hs:p.cs.length<=1000000/\p.ts.length<=1000000) (hz:∀t∈p.ts,cZ t.2<=10000000) (hr:cZ p.r<=10000000):
 ∃m',bp Try.prog S0 13 [.agg [vc,vt,vr]] m (.tup [ii (dz p).1,ii (dz p).2]) m'/\Chg [] m m':=by
 refine WF.ex1 fun K hK=> ?_
 refine WF.of_wpG (fun _=>rfl) xW (L:= [(.e,.agg [vc,vt,vr])]) rfl ?_
 unfold Jr
 obtain ⟨hcs,hts⟩:=hs
 obtain ⟨Ct,hT⟩:=h.t
 obtain ⟨Cr,hR⟩:=h.r
 have hlc:=h.c.len
 rw[List.length_map] at hlc
 have hlt:=hT.sl.len
 rw[hT.len] at hlt
 generalize hM0:hp [(.n 0,.cells true [vc,vt,vr])] 1 m=M0
 have hC0:Chg [] m M0:=bh hM0 rfl
 have g0:M0.get (na m 0)=some (.cells true [vc,vt,vr]):=bM hM0
 have o0:am M0 (na m 0):=bL hM0 (by omega)
 obtain ⟨M1,hr1,hC1⟩:=In (h.stays (wE hC0 T)) ⟨hcs,hts⟩
 have g1:=(hC1.get o0 (by simp)).trans g0
 have o1:=hC1.old o0
 have hC01:Chg [] m M1:=hC0.trans hC1 (by simp)
 unfold dz at hK
 by_cases h0:m8 p=0
 ·rw[h0] at hr1
  rw[O0 (by simp[h0])] at hK
  simp (disch:=first|assumption|omega|(simp only[aU]<;>omega)) only[go_sem,seval,hM0,g0,hr1.wf,g1,hlc]
  generalize hM2:hp _ 1 M1=M2
  have hC2:Chg [] M1 M2:=bh hM2 rfl
  have gm2:M2.get (na M1 0)=some (.map (fU [])):=bM hM2
  have om2:am M2 (na M1 0):=bL hM2 (by omega)
  have hC02:=hC01.trans hC2 (by simp)
  have g2:=(hC2.get o1 (by simp)).trans g1
  have o2:=hC2.old o1
  have hnm:na m 0≠na M1 0:=o1.ne 0
  refine W.loop (fun k d=>∃t M i,d=⟨t, [],none,M⟩/\NT.get D4.e.a t=some (.ptr (na m 0) 0)/\NT.get D4.e.a.a t=some (.map (na M1 0))/\NT.get D4.e.f.c t=some vc/\NT.get D4.e.f.f t=some (ii p.cs.length)/\NT.get D4.e.a.a.a t=some (ii (i:Nat))/\i+k=p.cs.length/\M.get (na M1 0)=some (.map (fU (((p.cs.map (·.1)).take i).foldl cC [])))/\Chg [na M1 0] M2 M) ?_ p.cs.length _ ⟨_,M2,0,rfl,by simp only[go_sem,seval],by simp only[go_sem,seval],by simp only[go_sem,seval],by simp only[go_sem,seval],by simp only[go_sem,seval]<;>rfl,by omega,gm2,(Chg.refl M2).weak (by simp)⟩
  rintro k d ⟨t,M,i,rfl,a1,a2,a3,a4,a5,hik,gm,hC⟩
  apply az
  unfold yF
  change wp _ _ _ _ ⟨aj [] t, [],none,M⟩ _
  have omM:=hC.old om2
  have gM:=(hC.get o2 (by simpa using hnm)).trans g2
  have oM:=hC.old o2
  have hC0M:Chg [] m M:=hC02.trans hC fun i hi ho=>by
   have hi:=one hi;subst hi;exact OZ (hC01.old ho) aB
  rw[←aa M]
  by_cases hi:i<p.cs.length
  ·obtain ⟨id,off,wr,c,b1,b2,b3,b4,b5⟩:=h.c.at i (by simpa using hi)
   rw[List.getElem_map] at b5
   have b2':=(hC0M.get b3 (by simp)).trans b2
   have b3':=hC0M.old b3
   have htk:(p.cs.map (·.1)).take (i+1)=(p.cs.map (·.1)).take i++ [p.cs[i].1]:=by
    rw[List.take_add_one,List.getElem?_map,List.getElem?_eq_getElem hi];rfl
   simp (disch:=first|assumption|omega|(simp only[aU]<;>omega)) only[go_sem,seval,a1,a2,a3,a4,a5,b1,b2',b5,gm]
   generalize hM3:hp _ 1 M=M3
   have hC3:Chg [na M1 0] M M3:=bh hM3 rfl
   refine ⟨k - 1,by omega,_,M3,i+1,by rfl,by simp only[go_sem,seval,a1],by simp only[go_sem,seval,a2],by simp only[go_sem,seval,a3],by simp only[go_sem,seval,a4],by simp only[go_sem,seval]<;>rfl,by omega, ?_,hC.trans hC3 fun _ h _=>h⟩
   rw[htk,List.foldl_append,←hM3]
   exact (aJ omM).trans au
  ·rw[List.take_of_length_le (by simp;omega)] at gm
   simp (disch:=first|assumption|omega) only[go_sem,seval,a1,a2,a3,a4,a5,gM,hlt,aa]
   generalize hZ:Ge p=Z at hK
   rw[show (p.cs.map (·.1)).foldl cC []=Z from hZ] at gm
   refine W.loop (fun k d=>∃t N i,d=⟨t, [],none,N⟩/\NT.get D4.e.a t=some (.ptr (na m 0) 0)/\NT.get D4.e.a.a t=some (.map (na M1 0))/\NT.get D4.e.a.c.b t=some vt/\NT.get D4.e.a.c.c t=some (ii p.ts.length)/\NT.get D4.e.a.c.f t=some (ii (i:Nat))/\i+k=p.ts.length/\lD Z p.r ((p.ts.map (·.2)).drop i)=lD Z p.r (p.ts.map (·.2))/\Chg [] M N) ?_ p.ts.length _ ⟨_,M,0,rfl,by simp only[go_sem,seval,a1],by simp only[go_sem,seval,a2],by simp only[go_sem,seval],by simp only[go_sem,seval],by simp only[go_sem,seval]<;>rfl,by omega,rfl,Chg.refl M⟩
   clear a1 a2 a3 a4 a5 hik
   rintro k d ⟨t,N,i,rfl,a1,a2,a3,a4,a5,hik,hE,hC⟩
   apply az
   unfold xT
   change wp _ _ _ _ ⟨aj [] t, [],none,N⟩ _
   have gN:=(hC.get oM (by simp)).trans gM
   have hC0N:=hC0M.trans hC (by simp)
   have gmN:=(hC.get omM (by simp)).trans gm
   have omN:=hC.old omM
   rw[←aa N]
   by_cases hi:i<p.ts.length
   ·obtain ⟨vb,B,id,off,wr,c,hSb,b1,b2,b3,b4,b5⟩:=hT.at i hi
    have b2':=(hC0N.get b3 (by simp)).trans b2
    have b3':=hC0N.old b3
    have hzi:=hz _ (List.getElem_mem hi)
    rw[List.drop_eq_getElem_cons (by simpa using hi),List.getElem_map,lD] at hE
    simp (disch:=first|assumption|omega|(simp only[aU]<;>omega)) only[go_sem,seval,a1,a2,a3,a4,a5,b1,b2',b5]
    generalize hN1:hp _ 1 N=N1
    have hC1':Chg [] N N1:=bh hN1 rfl
    obtain ⟨N2,hr2,hC2'⟩:=Gn hSb (hC0N.trans hC1' (by simp)) ((hC1'.get omN (by simp)).trans gmN) (hC1'.old omN) hzi
    have hCN2:=hC1'.trans hC2' (by simp)
    by_cases he:uI (hH Z p.ts[i].2)=0
    ·rw[O0 (by simp[he])] at hE
     rw[he] at hr2
     simp (config:={maxSteps:=1000000}) (disch:=first|assumption|omega|(apply bW;omega)|(apply bJ;assumption)|(simp only[aU]<;>omega)) only[go_sem,seval,hr2.wf',a1,a2,a3,a4,a5]
     exact ⟨k - 1,by omega,_,N2,i+1,by rfl,by simp only[go_sem,seval,a1],by simp only[go_sem,seval,a2],by simp only[go_sem,seval,a3],by simp only[go_sem,seval,a4],by simp only[go_sem,seval]<;>rfl,by omega,hE,hC.trans hCN2 (by simp)⟩
    ·rw[O1 he] at hE
     rw[←hE] at hK
     simp (config:={maxSteps:=1000000}) (disch:=first|assumption|omega|(apply bW;omega)|(apply bJ;assumption)|(simp only[aU]<;>omega)) only[go_sem,seval,hr2.wf',a1,a2,a3,a4,a5,he]
     exact hK _ (hC0N.trans hCN2 (by simp))
   ·rw[List.drop_of_length_le (by simp;omega),lD] at hE
    rw[←hE] at hK
    obtain ⟨N2,hr2,hC2'⟩:=Gn hR hC0N gmN omN hr
    simp (disch:=first|assumption|omega) only[go_sem,seval,a1,a2,a3,a4,a5,gN,aa,hr2.wf']
    exact hK _ (hC0N.trans hC2' (by simp))
 ·rw[O1 h0] at hK
  simp (disch:=first|assumption|omega|(simp only[aU]<;>omega)) only[go_sem,seval,hM0,g0,hr1.wf',h0]
  exact hK _ hC01
structure Rn where
 ph:Bool
 rc:Bd
 th:List Bd
 z:Mc
def dD (p:Prg) (j:Nat):List Stm:=((p.ts[j]?).map (·.2)).getD []
noncomputable def u9 (p:Prg) (c:Int) (x:Rn):Bool×Rn:=
 if 0<=c/\c<x.th.length then ((cr p.cs (locals (dD p c.toNat)) ((x.th[c.toNat]?).getD (gZ [])) x.z).1,⟨true,x.rc,x.th.set c.toNat (cr p.cs (locals (dD p c.toNat)) ((x.th[c.toNat]?).getD (gZ [])) x.z).2.1,(cr p.cs (locals (dD p c.toNat)) ((x.th[c.toNat]?).getD (gZ [])) x.z).2.2⟩)
 else (false,⟨true,x.rc,x.th,x.z⟩)
noncomputable def pS (p:Prg) (c:Int) (x:Rn):Bool×Rn:=
 if x.ph=true then u9 p c x
 else if (cr p.cs (locals p.r) x.rc x.z).1=true then (true,⟨false,(cr p.cs (locals p.r) x.rc x.z).2.1,x.th,(cr p.cs (locals p.r) x.rc x.z).2.2⟩)
 else if (cr p.cs (locals p.r) x.rc x.z).2.1.s=2 then (false,⟨false,(cr p.cs (locals p.r) x.rc x.z).2.1,x.th,(cr p.cs (locals p.r) x.rc x.z).2.2⟩)
 else u9 p c ⟨true,(cr p.cs (locals p.r) x.rc x.z).2.1,x.th,(cr p.cs (locals p.r) x.rc x.z).2.2⟩
def pP (p:Prg) (z:Mc):Rn:=⟨false,gZ p.r,p.ts.map fun t=>gZ t.2,z⟩
structure Bl where
 b:D4
 (pl nm vv:NV)
def Bl.fp (q:Bl):List D4:=dv q.b q.pl q.nm q.vv
structure RunG (f:NV->NV->Bool->List NV) (mk:NV->NV->NV->Int->List NV) (p:Prg) (B m:NH) (r:D4) (x:Rn) (o:Nat) (vcl vo vth:NV) (q:Bl) (bs:List Bl):Prop where
 mc:Mac f B m r vcl vo x.z
 rb:Bod mk B m q.b q.pl q.nm q.vv (locals p.r) x.rc
 rk:BdOk p.cs (locals p.r) x.rc
 tv:bf B m vth 1 (bs.map fun t=> [.ptr t.b 0])
 ln:bs.length=p.ts.length/\x.th.length=p.ts.length
 tb:∀(j:Nat) (t:Bl) (y:Bd),bs[j]? =some t->x.th[j]? =some y->Bod mk B m t.b t.pl t.nm t.vv (locals (dD p j)) y/\BdOk p.cs (locals (dD p j)) y
 d0:∀i∈cz r vcl vo,i∉ids vth/\i∉q.fp/\∀t∈bs,i∉t.fp
 d1:∀i∈ids vth,i∉q.fp/\∀t∈bs,i∉t.fp
 d2:∀i∈q.fp,∀t∈bs,i∉t.fp
 d3:∀(j k:Nat) (t u:Bl),bs[j]? =some t->bs[k]? =some u->j≠k->∀i∈t.fp,i∉u.fp
 zk:McOk p.cs x.z
 ol:x.z.out.length<=o
abbrev gd (p:Prg) (B:NH) (vc vt vr:NV) (m:NH) (r:D4) (x:Rn) (o:Nat) (vcl vo vth:NV) (q:Bl) (bs:List Bl):Prop:=RunG (fP vc vt vr (.ptr q.b 0) vth x.ph) nU p B m r x o vcl vo vth q bs
structure RunC (p:Prg) (B:NH) (vc vt vr:NV):Prop where
 rp:RP B (fun _=>True) p vc vt vr
 cs:CsOk p.cs
 zt:∀t∈p.ts,cZ t.2<=400000
 zr:cZ p.r<=400000
 gt:∀t∈p.ts,∀s∈t.2,Gs p.cs s
 gr:∀s∈p.r,Gs p.cs s
 nt:p.ts.length<=1000
section
variable {f:NV->NV->Bool->List NV} {mk:NV->NV->NV->Int->List NV} {p:Prg} {B m m':NH} {vc vt vr vcl vo vth:NV} {r:D4} {x:Rn} {o:Nat} {q:Bl} {bs:List Bl}
def RunG.foot (r:D4) (vcl vo vth:NV) (q:Bl) (bs:List Bl):List D4:=cz r vcl vo++(ids vth++(q.fp++(bs.map Bl.fp).flatten))
theorem RunG.thr (h:RunG f mk p B m r x o vcl vo vth q bs) {t:Bl} (ht:t∈bs):∃(j:Nat) (y:Bd),bs[j]? =some t/\x.th[j]? =some y:=by
 obtain ⟨j,hj,rfl⟩:=List.mem_iff_getElem.1 ht
 exact ⟨j,x.th[j]'(by rw[h.ln.2,←h.ln.1];exact hj),List.getElem?_eq_getElem hj,List.getElem?_eq_getElem _⟩
theorem RunG.told (h:RunG f mk p B m r x o vcl vo vth q bs) {t:Bl} (ht:t∈bs):∀i∈t.fp,am m i/\¬am B i:=by
 obtain ⟨j,y,h1,h2⟩:=h.thr ht
 exact (h.tb j t y h1 h2).1.old
theorem RunG.recov (h:RunG f mk p B m r x o vcl vo vth q bs) {vo' pl':NV} {y:Bd} {z:Mc} {o':Nat} (hG:cA f mk B m m' p.cs (locals p.r) r q.b (cz r vcl vo++q.fp) vcl vo' pl' q.nm q.vv y z o'):
 RunG f mk p B m' r ⟨x.ph,y,x.th,z⟩ o' vcl vo' vth ⟨q.b,pl',q.nm,q.vv⟩ bs:=by
 have hF:∀i∈cz r vcl vo++q.fp,¬am B i:=fun i hi=>(List.mem_append.1 hi).elim (fun u=>(h.mc.old i u).2) fun u=>(h.rb.old i u).2
 have n1:∀i∈ids vth,i∉cz r vcl vo++q.fp:=fun i hi u=>(List.mem_append.1 u).elim (fun u=>(h.d0 i u).1 hi) (h.d1 i hi).1
 have n2:∀t∈bs,∀i∈t.fp,i∉cz r vcl vo++q.fp:=fun t ht i hi u=>(List.mem_append.1 u).elim (fun u=>(h.d0 i u).2.2 t ht hi) fun u=>h.d2 i u t ht hi
 have k1:∀i∈ids vth,i∉cz r vcl vo'++dv q.b pl' q.nm q.vv:=fun i hi=>hG.ev.nin (h.tv.sl.old i hi) (n1 i hi)
 have k2:∀t∈bs,∀i∈t.fp,i∉cz r vcl vo'++dv q.b pl' q.nm q.vv:=fun t ht i hi=>hG.ev.nin (h.told ht i hi).1 (n2 t ht i hi)
 refine ⟨hG.mc,hG.bd,hG.bk,h.tv.chg hG.ev.c n1,h.ln,fun j t y h1 h2=> ?_,fun i hi=>⟨fun u=>k1 i u (List.mem_append_left _ hi),hG.dj i hi,fun t ht u=>k2 t ht i u (List.mem_append_left _ hi)⟩,fun i hi=>⟨fun u=>k1 i hi (List.mem_append_right _ u),(h.d1 i hi).2⟩,fun i hi t ht u=>k2 t ht i u (List.mem_append_right _ hi),h.d3,hG.zk,hG.ol⟩
 obtain ⟨u1,u2⟩:=h.tb j t y h1 h2
 exact ⟨u1.ev hG.ev (n2 t (List.mem_of_getElem? h1)) hF,u2⟩
theorem RunG.thread (h:RunG f mk p B m r x o vcl vo vth q bs) {k:Nat} {t:Bl} (hk:bs[k]? =some t) {vo' pl':NV} {y:Bd} {z:Mc} {o':Nat} (hG:cA f mk B m m' p.cs (locals (dD p k)) r t.b (cz r vcl vo++t.fp) vcl vo' pl' t.nm t.vv y z o'):
 RunG f mk p B m' r ⟨x.ph,x.rc,x.th.set k y,z⟩ o' vcl vo' vth q (bs.set k ⟨t.b,pl',t.nm,t.vv⟩):=by
 have ht:=List.mem_of_getElem? hk
 have hkl:=(List.getElem?_eq_some_iff.1 hk).1
 have hF:∀i∈cz r vcl vo++t.fp,¬am B i:=fun i hi=>(List.mem_append.1 hi).elim (fun u=>(h.mc.old i u).2) fun u=>(h.told ht i u).2
 have n1:∀i∈ids vth,i∉cz r vcl vo++t.fp:=fun i hi u=>(List.mem_append.1 u).elim (fun u=>(h.d0 i u).1 hi) ((h.d1 i hi).2 t ht)
 have n2:∀i∈q.fp,i∉cz r vcl vo++t.fp:=fun i hi u=>(List.mem_append.1 u).elim (fun u=>(h.d0 i u).2.1 hi) fun u=>h.d2 i hi t ht u
 have n3:∀(j:Nat) (u:Bl),bs[j]? =some u->j≠k->∀i∈u.fp,i∉cz r vcl vo++t.fp:=fun j u hj hne i hi w=>(List.mem_append.1 w).elim (fun w=>(h.d0 i w).2.2 u (List.mem_of_getElem? hj) hi) fun w=>h.d3 j k u t hj hk hne i hi w
 have k1:∀i∈ids vth,i∉cz r vcl vo'++dv t.b pl' t.nm t.vv:=fun i hi=>hG.ev.nin (h.tv.sl.old i hi) (n1 i hi)
 have k2:∀i∈q.fp,i∉cz r vcl vo'++dv t.b pl' t.nm t.vv:=fun i hi=>hG.ev.nin (h.rb.old i hi).1 (n2 i hi)
 have k3:∀(j:Nat) (u:Bl),bs[j]? =some u->j≠k->∀i∈u.fp,i∉cz r vcl vo'++dv t.b pl' t.nm t.vv:=fun j u hj hne i hi=>hG.ev.nin (h.told (List.mem_of_getElem? hj) i hi).1 (n3 j u hj hne i hi)
 have hset:∀(j:Nat) (u:Bl),(bs.set k ⟨t.b,pl',t.nm,t.vv⟩)[j]? =some u->(j=k/\u=⟨t.b,pl',t.nm,t.vv⟩)∨(j≠k/\bs[j]? =some u):=fun j u hj=>by
  by_cases e:j=k
  ·subst e;rw[List.getElem?_set_self hkl] at hj;cases hj;exact Or.inl ⟨rfl,rfl⟩
  ·rw[List.getElem?_set_ne (fun a=>e a.symm)] at hj;exact Or.inr ⟨e,hj⟩
 have hmem:∀u∈bs.set k ⟨t.b,pl',t.nm,t.vv⟩,u=⟨t.b,pl',t.nm,t.vv⟩∨∃j,j≠k/\bs[j]? =some u:=fun u hu=>by
  obtain ⟨j,hj⟩:=List.mem_iff_getElem?.1 hu
  rcases hset j u hj with ⟨-,e⟩|⟨e1,e2⟩
  ·exact Or.inl e
  ·exact Or.inr ⟨j,e1,e2⟩
 refine ⟨hG.mc,h.rb.ev hG.ev n2 hF,h.rk, ?_,by simp[h.ln],fun j u w h1 h2=> ?_,fun i hi=>⟨fun u=>k1 i u (List.mem_append_left _ hi),fun u=>k2 i u (List.mem_append_left _ hi),fun u hu w=> ?_⟩,fun i hi=>⟨(h.d1 i hi).1,fun u hu w=> ?_⟩,fun i hi u hu w=> ?_,fun j l u w h1 h2 hne i hi hw=> ?_,hG.zk,hG.ol⟩
 ·have:=h.tv.chg hG.ev.c n1
  have e:(bs.set k ⟨t.b,pl',t.nm,t.vv⟩).map (fun t=> [NV.ptr t.b 0])=bs.map fun t=> [NV.ptr t.b 0]:=by
   rw[List.map_set]
   apply List.ext_getElem?
   intro j
   by_cases e:j=k
   ·subst e;rw[List.getElem?_set_self (by simpa using hkl),List.getElem?_map,hk];rfl
   ·rw[List.getElem?_set_ne (fun a=>e a.symm)]
  rw[e];exact this
 ·rcases hset j u h1 with ⟨e,rfl⟩|⟨e,h1⟩
  ·subst e
   rw[List.getElem?_set_self (by rw[h.ln.2,←h.ln.1];exact hkl)] at h2
   cases h2
   exact ⟨hG.bd,hG.bk⟩
  ·rw[List.getElem?_set_ne (fun a=>e a.symm)] at h2
   obtain ⟨u1,u2⟩:=h.tb j u w h1 h2
   exact ⟨u1.ev hG.ev (n3 j u h1 e) hF,u2⟩
 ·rcases hmem u hu with rfl|⟨j,e1,e2⟩
  ·exact hG.dj i hi w
  ·exact k3 j u e2 e1 i w (List.mem_append_left _ hi)
 ·rcases hmem u hu with rfl|⟨j,e1,e2⟩
  ·exact k1 i hi (List.mem_append_right _ w)
  ·exact (h.d1 i hi).2 u (List.mem_of_getElem? e2) w
 ·rcases hmem u hu with rfl|⟨j,e1,e2⟩
  ·exact k2 i hi (List.mem_append_right _ w)
  ·exact h.d2 i hi u (List.mem_of_getElem? e2) w
 ·rcases hset j u h1 with ⟨e,rfl⟩|⟨e,h1⟩
  ·rcases hset l w h2 with ⟨e',-⟩|⟨e',h2⟩
   ·omega
   ·exact k3 l w h2 e' i hw (List.mem_append_right _ hi)
  ·rcases hset l w h2 with ⟨e',rfl⟩|⟨e',h2⟩
   ·exact k3 j u h1 e i hi (List.mem_append_right _ hw)
   ·exact h.d3 j l u w h1 h2 hne i hi hw
theorem RunG.grow (h:RunG f mk p B m r x o vcl vo vth q bs) (hC:Chg [] m m'):RunG f mk p B m' r x o vcl vo vth q bs:=
 ⟨h.mc.grow hC,h.rb.grow hC,h.rk,h.tv.chg hC fun _ _=>by simp,h.ln,fun j t y h1 h2=>⟨(h.tb j t y h1 h2).1.grow hC,(h.tb j t y h1 h2).2⟩,h.d0,h.d1,h.d2,h.d3,h.zk,h.ol⟩
theorem EvF.sup {F F' G G':List D4} (h:EvF F F' m m') (h1:∀i∈F,i∈G) (h2:∀j∈G',j∈G∨j∈F'):EvF G G' m m':=
 ⟨h.c.weak fun i hi _=>h1 i hi,fun j hj=>(h2 j hj).elim Or.inl fun q=>(h.f j q).imp (h1 j) id⟩
theorem RunG.evR {pl' vo' nm' vv':NV} {b':D4} (h:EvF (cz r vcl vo++q.fp) (cz r vcl vo'++dv b' pl' nm' vv') m m'):EvF (RunG.foot r vcl vo vth q bs) (RunG.foot r vcl vo' vth ⟨b',pl',nm',vv'⟩ bs) m m':=by
 refine h.sup (fun i hi=> ?_) fun j hj=> ?_
 ·simp only[RunG.foot,List.mem_append] at hi ⊢
  rcases hi with hi|hi
  ·exact Or.inl hi
  ·exact Or.inr (Or.inr (Or.inl hi))
 ·simp only[RunG.foot,List.mem_append] at hj ⊢
  rcases hj with hj|hj|hj|hj
  ·exact Or.inr (Or.inl hj)
  ·exact Or.inl (Or.inr (Or.inl hj))
  ·exact Or.inr (Or.inr hj)
  ·exact Or.inl (Or.inr (Or.inr (Or.inr hj)))
theorem RunG.evT {pl' vo' nm' vv':NV} {b':D4} {k:Nat} {t:Bl} (hk:bs[k]? =some t) (h:EvF (cz r vcl vo++t.fp) (cz r vcl vo'++dv b' pl' nm' vv') m m'):EvF (RunG.foot r vcl vo vth q bs) (RunG.foot r vcl vo' vth q (bs.set k ⟨b',pl',nm',vv'⟩)) m m':=by
 refine h.sup (fun i hi=> ?_) fun j hj=> ?_
 ·simp only[RunG.foot,List.mem_append] at hi ⊢
  rcases hi with hi|hi
  ·exact Or.inl hi
  ·exact Or.inr (Or.inr (Or.inr (List.mem_flatten.2 ⟨_,List.mem_map_of_mem (List.mem_of_getElem? hk),hi⟩)))
 ·simp only[RunG.foot,List.mem_append] at hj ⊢
  rcases hj with hj|hj|hj|hj
  ·exact Or.inr (Or.inl hj)
  ·exact Or.inl (Or.inr (Or.inl hj))
  ·exact Or.inl (Or.inr (Or.inr (Or.inl hj)))
  ·obtain ⟨l,hl,hj⟩:=List.mem_flatten.1 hj
   obtain ⟨u,hu,rfl⟩:=List.mem_map.1 hl
   rcases List.mem_or_eq_of_mem_set hu with hu|rfl
   ·exact Or.inl (Or.inr (Or.inr (Or.inr (List.mem_flatten.2 ⟨_,List.mem_map_of_mem hu,hj⟩))))
   ·exact Or.inr (Or.inr hj)
theorem RunG.evM (h:EvF (cz r vcl vo) (cz r vcl vo) m m'):EvF (RunG.foot r vcl vo vth q bs) (RunG.foot r vcl vo vth q bs) m m':=
 h.sup (fun i hi=>by simp only[RunG.foot,List.mem_append];exact Or.inl hi) fun j hj=>Or.inl hj
theorem RunG.all (h:RunG f mk p B m r x o vcl vo vth q bs):∀i∈RunG.foot r vcl vo vth q bs,am m i/\¬am B i:=by
 intro i hi
 simp only[RunG.foot,List.mem_append] at hi
 rcases hi with hi|hi|hi|hi
 ·exact h.mc.old i hi
 ·exact ⟨h.tv.sl.old i hi,h.tv.new i hi⟩
 ·exact h.rb.old i hi
 ·obtain ⟨l,hl,hj⟩:=List.mem_flatten.1 hi
  obtain ⟨u,hu,rfl⟩:=List.mem_map.1 hl
  exact h.told hu i hj
theorem RunG.evS {t:Bl} {vth':NV} (hC:Chg [] m m') {m'':NH} (hC2:Chg (r::ids vth) m' m'') (hvn:∀i∈ids vth',i∈ids vth∨¬am m' i) (hnew:∀i∈t.fp,¬am m i):EvF (RunG.foot r vcl vo vth q bs) (RunG.foot r vcl vo vth' q (bs++ [t])) m m'':=by
 refine ⟨(hC.weak (T:=RunG.foot r vcl vo vth q bs) (by simp)).trans hC2 fun i hi _=> ?_,fun j hj=> ?_⟩
 ·simp only[RunG.foot,List.mem_append]
  rcases List.mem_cons.1 hi with rfl|hi
  ·exact Or.inl (by simp[cz])
  ·exact Or.inr (Or.inl hi)
 ·simp only[RunG.foot,List.mem_append,List.map_append,List.flatten_append,List.map_cons,List.map_nil,List.flatten_cons,List.flatten_nil,List.append_nil] at hj ⊢
  rcases hj with hj|hj|hj|hj|hj
  ·exact Or.inl (Or.inl hj)
  ·exact (hvn j hj).imp (fun q=>Or.inr (Or.inl q)) fun q w=>q (hC.old w)
  ·exact Or.inl (Or.inr (Or.inr (Or.inl hj)))
  ·exact Or.inl (Or.inr (Or.inr (Or.inr hj)))
  ·exact Or.inr (hnew j hj)
theorem RunG.ev0 {m'':NH} (hC:Chg [] m m') (e:EvF (cz r vcl vo) (cz r vcl vo) m' m'') (hnew:∀i∈q.fp,¬am m i):EvF (cz r vcl vo) (RunG.foot r vcl vo .nils q []) m m'':=by
 refine ⟨(e.pre hC).c,fun j hj=> ?_⟩
 simp only[RunG.foot,List.mem_append,ids,List.map_nil,List.flatten_nil,O4,or_false,false_or] at hj
 exact hj.imp id (hnew j)
theorem RunG.off {S:List D4} (h:RunG f mk p B m r x o vcl vo vth q bs) (hC:Chg S m m') (hS:∀i∈RunG.foot r vcl vo vth q bs,i∉S) (hB:∀i∈S,¬am B i):RunG f mk p B m' r x o vcl vo vth q bs:=by
 have k1:∀i∈cz r vcl vo,i∉S:=fun i hi=>hS i (by simp only[RunG.foot,List.mem_append];exact Or.inl hi)
 have k2:∀i∈ids vth,i∉S:=fun i hi=>hS i (by simp only[RunG.foot,List.mem_append];exact Or.inr (Or.inl hi))
 have k3:∀i∈q.fp,i∉S:=fun i hi=>hS i (by simp only[RunG.foot,List.mem_append];exact Or.inr (Or.inr (Or.inl hi)))
 have k4:∀t∈bs,∀i∈t.fp,i∉S:=fun t ht i hi=>hS i (by simp only[RunG.foot,List.mem_append];exact Or.inr (Or.inr (Or.inr (List.mem_flatten.2 ⟨_,List.mem_map_of_mem ht,hi⟩))))
 exact ⟨h.mc.off hC k1 hB,h.rb.off hC k3 hB,h.rk,h.tv.chg hC k2,h.ln,fun j t y h1 h2=>⟨(h.tb j t y h1 h2).1.off hC (k4 t (List.mem_of_getElem? h1)) hB,(h.tb j t y h1 h2).2⟩,h.d0,h.d1,h.d2,h.d3,h.zk,h.ol⟩
end
theorem Lt {cs:List (List Nat×Int)} {ns:List (List Nat)}:∀(k:Nat) (x:Bd) (z:Mc),(rF cs ns k x z).1=false->(rF cs ns k x z).2.1.s≠0:=by
 intro k
 induction k with
 |zero=>
  intro x z h
  rw[rF] at h ⊢
  split<;>simp
 |succ k ih=>
  intro x z h
  rw[rF] at h ⊢
  split
  ·simp
  ·rename_i y K hT
   simp only[hT] at h
   split
   ·rename_i hA;rw[O1 hA] at h;cases h
   ·rename_i hA;rw[O0 hA] at h;exact ih _ _ h
theorem vH {cs:List (List Nat×Int)} {ns:List (List Nat)} {x:Bd} {z:Mc} (h:(cr cs ns x z).1=false):(cr cs ns x z).2.1.s≠0:=by
 unfold cr at h ⊢
 split
 ·rename_i hs;rw[O1 hs] at h;exact Lt _ _ _ h
 ·assumption
section
variable {f f':NV->NV->Bool->List NV} {mk:NV->NV->NV->Int->List NV} {p:Prg} {B m m':NH} {vc vt vr vcl vo vth:NV} {r:D4} {x:Rn} {o:Nat} {q:Bl} {bs:List Bl}
theorem Mac.refit {z:Mc} (h:Mac f B m r vcl vo z) (hg:m'.get r=some (.cells true (f' vcl vo z.ill))) (hC:Chg [r] m m'):Mac f' B m' r vcl vo z/\EvF (cz r vcl vo) (cz r vcl vo) m m':=by
 have hn:∀{v:NV},r∉ids v->∀i∈ids v,i∉ [r]:=fun hb i hi q=>by have q:=one q;subst q;exact hb hi
 exact ⟨⟨hg,hC.old h.o,h.nB,h.cl.chg hC (hn h.d.1),h.ou.chg hC (hn h.d.2.1),h.d,h.c.trans hC fun i hi ho=>by have hi:=one hi;subst hi;exact OZ ho h.nB⟩,hC.weak fun i hi _=>by have hi:=one hi;subst hi;simp[cz],fun j hj=>Or.inl hj⟩
theorem RunG.start (h:RunG f mk p B m r x o vcl vo vth q bs) (ph:Bool) (hg:m'.get r=some (.cells true (f' vcl vo x.z.ill))) (hC:Chg [r] m m'):RunG f' mk p B m' r ⟨ph,x.rc,x.th,x.z⟩ o vcl vo vth q bs/\EvF (RunG.foot r vcl vo vth q bs) (RunG.foot r vcl vo vth q bs) m m':=by
 obtain ⟨h1,h2⟩:=h.mc.refit (f':=f') hg hC
 have hF:∀i∈cz r vcl vo,¬am B i:=fun i hi=>(h.mc.old i hi).2
 exact ⟨⟨h1,h.rb.ev h2 (fun i hi u=>(h.d0 i u).2.1 hi) hF,h.rk,h.tv.chg h2.c fun i hi u=>(h.d0 i u).1 hi,h.ln,fun j t y a b=>⟨(h.tb j t y a b).1.ev h2 (fun i hi u=>(h.d0 i u).2.2 t (List.mem_of_getElem? a) hi) hF,(h.tb j t y a b).2⟩,h.d0,h.d1,h.d2,h.d3,h.zk,h.ol⟩,RunG.evM h2⟩
theorem RunG.goR (h:RunG f mk p B m r x o vcl vo vth q bs):cA f mk B m m p.cs (locals p.r) r q.b (cz r vcl vo++q.fp) vcl vo q.pl q.nm q.vv x.rc x.z o:=
 ⟨h.mc,h.rb,fun i hi=>(h.d0 i hi).2.1,h.rk,h.zk,h.ol,EvF.refl m⟩
theorem RunG.goT (h:RunG f mk p B m r x o vcl vo vth q bs) {k:Nat} {t:Bl} {y:Bd} (h1:bs[k]? =some t) (h2:x.th[k]? =some y):cA f mk B m m p.cs (locals (dD p k)) r t.b (cz r vcl vo++t.fp) vcl vo t.pl t.nm t.vv y x.z o:=
 ⟨h.mc,(h.tb k t y h1 h2).1,fun i hi=>(h.d0 i hi).2.2 t (List.mem_of_getElem? h1),(h.tb k t y h1 h2).2,h.zk,h.ol,EvF.refl m⟩
theorem CI (hc:RunC p B vc vt vr) (ho:o<=1000000) (h:gd p B vc vt vr m r x o vcl vo vth q bs) {k:Nat} (hk:k<x.th.length):
 ∃t,bs[k]? =some t/\(∃id off w c,jh 1 vth (ii (k:Nat))= .val (.ptr id off)/\m.get id=some (.cells w c)/\c[off]? =some (.ptr t.b 0))/\∃m',bp Try.prog S0 74 [.ptr r 0,.ptr t.b 0] m (ii (if (cr p.cs (locals (dD p k)) ((x.th[k]?).getD (gZ [])) x.z).1=true then 0 else (cr p.cs (locals (dD p k)) ((x.th[k]?).getD (gZ [])) x.z).2.1.s)) m'/\∃vo' bs',gd p B vc vt vr m' r ⟨x.ph,x.rc,x.th.set k (cr p.cs (locals (dD p k)) ((x.th[k]?).getD (gZ [])) x.z).2.1,(cr p.cs (locals (dD p k)) ((x.th[k]?).getD (gZ [])) x.z).2.2⟩ (o+1) vcl vo' vth q bs'/\EvF (RunG.foot r vcl vo vth q bs) (RunG.foot r vcl vo' vth q bs') m m':=by
 have hkb:k<bs.length:=by rw[h.ln.1,←h.ln.2];exact hk
 have h1:=List.getElem?_eq_getElem hkb
 have h2:=List.getElem?_eq_getElem hk
 obtain ⟨id,off,w,c,a1,a2,a3,a4,a5⟩:=h.tv.sl.at k (by simpa using hkb)
 rw[List.getElem_map] at a5
 rw[h2]
 simp only[Option.getD_some]
 obtain ⟨m1,r1,vo',pl',hG⟩:=GF hc.rp.c hc.cs ho (h.goT h1 h2)
 exact ⟨bs[k],h1,⟨id,off,w,c,a1,a2,aX a5 0 (by omega)⟩,m1,r1,vo',_,h.thread h1 hG,RunG.evT h1 hG.ev⟩
theorem CH (hc:RunC p B vc vt vr) (ho:o+1<=1000000) (h:gd p B vc vt vr m r x o vcl vo vth q bs) (c:Int):
 ∃m',bp Try.prog S0 37 [.ptr r 0,ii c] m (.bool (pS p c x).1) m'/\∃vo' q' bs',gd p B vc vt vr m' r (pS p c x).2 (o+2) vcl vo' vth q' bs'/\EvF (RunG.foot r vcl vo vth q bs) (RunG.foot r vcl vo' vth q' bs') m m':=by
 refine WF.ex1 fun K' hK'=> ?_
 refine WF.of_wpG (fun _=>rfl) xK (L:= [(.a .e,ii c),(.e,.ptr r 0)]) rfl ?_
 unfold Jm
 have g:=h.mc.g
 have hlen:=h.tv.sl.len
 rw[List.length_map,h.ln.1,←h.ln.2] at hlen
 have more:∀{x:Rn} {o o':Nat} {vo:NV} {q:Bl} {bs:List Bl} {m:NH},o<=o'->gd p B vc vt vr m r x o vcl vo vth q bs->gd p B vc vt vr m r x o' vcl vo vth q bs:=fun ho h=>⟨h.mc,h.rb,h.rk,h.tv,h.ln,h.tb,h.d0,h.d1,h.d2,h.d3,h.zk,Nat.le_trans h.ol ho⟩
 have hnt:=hc.nt
 have hln:=h.ln.2
 unfold pS at hK'
 by_cases hph:x.ph=true
 ·obtain ⟨ph,rc,th,z⟩:=x
  simp only at hph hK' hlen hln g
  subst hph
  simp only[if_true] at hK'
  unfold u9 at hK'
  by_cases hcc:0<=c/\c<th.length
  ·simp only[O1 hcc] at hK'
   obtain ⟨k,rfl⟩:=O7 hcc.1
   simp only[Int.toNat_natCast] at hK'
   obtain ⟨t,ht,⟨id,off,w,cc,a1,a2,a3⟩,m1,r1,vo1,bs1,h1,e1⟩:=CI hc (by omega) h (k:=k) (by simpa using hcc.2)
   simp only at r1 h1
   rw[aa]
   cases hb:(cr p.cs (locals (dD p k)) ((th[k]?).getD (gZ [])) z).1 with
   |true=>
    rw[hb] at r1 hK'
    simp only[if_true] at r1
    simp (disch:=first|assumption|omega) only[go_sem,seval,g,hlen,a1,a2,a3,r1.wf']
    exact hK' _ ⟨vo1,q,bs1,more (by omega) h1,e1⟩
   |false=>
    have hs:=vH hb
    rw[hb] at r1 hK'
    simp only[reduceCtorEq,if_false] at r1
    simp (disch:=first|assumption|omega) only[go_sem,seval,g,hlen,a1,a2,a3,r1.wf']
    exact hK' _ ⟨vo1,q,bs1,more (by omega) h1,e1⟩
  ·simp only[O0 hcc] at hK'
   rw[aa]
   by_cases h0:0<=c
   ·have h3:¬c<th.length:=fun q=>hcc ⟨h0,q⟩
    simp (disch:=first|assumption|omega) only[go_sem,seval,g,hlen]
    exact hK' _ ⟨vo,q,bs,more (by omega) h,EvF.refl m⟩
   ·simp (disch:=first|assumption|omega) only[go_sem,seval,g,hlen]
    exact hK' _ ⟨vo,q,bs,more (by omega) h,EvF.refl m⟩
 ·have hph:x.ph=false:=by simpa using hph
  simp only[hph,Bool.false_eq_true,if_false] at hK'
  obtain ⟨m1,r1,vo1,pl1,hG⟩:=GF hc.rp.c hc.cs (by omega) h.goR
  have h1:=h.recov hG
  have e1:EvF (RunG.foot r vcl vo vth q bs) (RunG.foot r vcl vo1 vth ⟨q.b,pl1,q.nm,q.vv⟩ bs) m m1:=RunG.evR hG.ev
  rw[hph] at h1 g
  have h1:gd p B vc vt vr m1 r ⟨false,(cr p.cs (locals p.r) x.rc x.z).2.1,x.th,(cr p.cs (locals p.r) x.rc x.z).2.2⟩ (o+1) vcl vo1 vth ⟨q.b,pl1,q.nm,q.vv⟩ bs:=h1
  rw[aa]
  cases hb:(cr p.cs (locals p.r) x.rc x.z).1 with
  |true=>
   rw[hb] at r1
   simp only[if_true] at r1
   rw[O1 hb] at hK'
   simp (disch:=first|assumption|omega) only[go_sem,seval,g,r1.wf']
   exact hK' _ ⟨vo1,⟨q.b,pl1,q.nm,q.vv⟩,bs,more (o:=o+1) (o':=o+2) (by omega) h1,e1⟩
  |false=>
   have hs:=vH hb
   rw[hb] at r1
   simp only[reduceCtorEq,if_false] at r1
   rw[O0 (by rw[hb];simp)] at hK'
   by_cases h2:(cr p.cs (locals p.r) x.rc x.z).2.1.s=2
   ·rw[O1 h2] at hK'
    rw[h2] at r1
    simp (disch:=first|assumption|omega) only[go_sem,seval,g,r1.wf']
    exact hK' _ ⟨vo1,⟨q.b,pl1,q.nm,q.vv⟩,bs,more (o:=o+1) (o':=o+2) (by omega) h1,e1⟩
   ·rw[O0 h2] at hK'
    have g1:=h1.mc.g
    have oM:=h1.mc.o
    simp only at g1
    generalize cr p.cs (locals p.r) x.rc x.z=R at *
    obtain ⟨R1,rc,z⟩:=R
    simp only at *
    have hmM:∃M,M=hp [(.o r,.cells true (fP vc vt vr (.ptr q.b 0) vth true vcl vo1 z.ill))] 0 m1:=⟨_,rfl⟩
    obtain ⟨M,hM⟩:=hmM
    have hqe:gd p B vc vt vr M r ⟨true,rc,x.th,z⟩ (o+1) vcl vo1 vth ⟨q.b,pl1,q.nm,q.vv⟩ bs/\EvF (RunG.foot r vcl vo1 vth ⟨q.b,pl1,q.nm,q.vv⟩ bs) (RunG.foot r vcl vo1 vth ⟨q.b,pl1,q.nm,q.vv⟩ bs) m1 M:=h1.start (f':=fP vc vt vr (.ptr q.b 0) vth true) (m':=M) true (by rw[hM];exact (aJ oM).trans au) (by rw[hM];exact (eA _ _ _).weak (by simp[aE]))
    obtain ⟨hq,eS⟩:=hqe
    have eM:=e1.trans eS
    have gM:=hq.mc.g
    have hlenM:=hq.tv.sl.len
    rw[List.length_map,hq.ln.1,←hq.ln.2] at hlenM
    unfold u9 at hK'
    by_cases hcc:0<=c/\c<x.th.length
    ·simp only[O1 hcc] at hK'
     obtain ⟨k,rfl⟩:=O7 hcc.1
     simp only[Int.toNat_natCast] at hK'
     obtain ⟨t,ht,⟨id,off,w,cc,a1,a2,a3⟩,m2,r2,vo2,bs2,h2',e2⟩:=CI hc (by omega) hq (k:=k) (by simpa using hcc.2)
     simp only at r2 h2'
     cases hb2:(cr p.cs (locals (dD p k)) ((x.th[k]?).getD (gZ [])) z).1 with
     |true=>
      rw[hb2] at r2 hK'
      simp only[if_true] at r2
      simp (disch:=first|assumption|omega|(simp only[aU]<;>omega)) only[go_sem,seval,g,r1.wf,g1,hM.symm,gM,hlenM,a1,a2,a3,r2.wf']
      exact hK' _ ⟨vo2,_,bs2,more (by omega) h2',eM.trans e2⟩
     |false=>
      have hs2:=vH hb2
      rw[hb2] at r2 hK'
      simp only[reduceCtorEq,if_false] at r2
      simp (disch:=first|assumption|omega|(simp only[aU]<;>omega)) only[go_sem,seval,g,r1.wf,g1,hM.symm,gM,hlenM,a1,a2,a3,r2.wf']
      exact hK' _ ⟨vo2,_,bs2,more (by omega) h2',eM.trans e2⟩
    ·simp only[O0 hcc] at hK'
     by_cases h0:0<=c
     ·have h3:¬c<x.th.length:=fun q=>hcc ⟨h0,q⟩
      simp (disch:=first|assumption|omega|(simp only[aU]<;>omega)) only[go_sem,seval,g,r1.wf,g1,hM.symm,gM,hlenM]
      exact hK' _ ⟨vo1,_,bs,more (by omega) hq,eM⟩
     ·simp (disch:=first|assumption|omega|(simp only[aU]<;>omega)) only[go_sem,seval,g,r1.wf,g1,hM.symm,gM,hlenM]
      exact hK' _ ⟨vo1,_,bs,more (by omega) hq,eM⟩
end
section
variable {f f':NV->NV->Bool->List NV} {mk:NV->NV->NV->Int->List NV} {p:Prg} {B m m' m'':NH} {vc vt vr vcl vo vth rec:NV} {r:D4} {x:Rn} {z:Mc} {o:Nat} {q:Bl} {bs:List Bl} {st:Bool}
theorem Dc {cs:List (List Nat×Int)} {l:List Stm} (hz:cZ l<=400000) (hg:∀s∈l,Gs cs s):BdOk cs (locals l) (gZ l):=by
 have:=pL l
 refine ⟨by show cZ l<=1000000;omega,fun y hy=> ?_,fun y hy=> ?_,fun y hy=> ?_,by omega,by simp[gZ]⟩
 ·simp only[gZ,List.mem_singleton] at hy;subst hy;exact hg
 ·simp only[gZ,List.mem_singleton] at hy;subst hy;exact Nat.zero_le _
 ·simp only[gZ,List.mem_replicate] at hy;rw[hy.2];exact ⟨by simp,by simp⟩
theorem RunG.snoc {cs:List (List Nat×Int)} {ts:List (List Nat×List Stm)} {rr:List Stm} {n:List Nat} {l:List Stm} {t:Bl} {vth':NV} (h:RunG f mk ⟨cs,ts,rr⟩ B m r x o vcl vo vth q bs) (hC:Chg [] m m') (ht:Bod mk B m' t.b t.pl t.nm t.vv (locals l) (gZ l)) (hk:BdOk cs (locals l) (gZ l)) (hnew:∀i∈t.fp,¬am m i)
 (hC2:Chg (r::ids vth) m' m'') (hg:m''.get r=some (.cells true (f' vcl vo x.z.ill))) (hv:bf B m'' vth' 1 ((bs++ [t]).map fun t=> [.ptr t.b 0])) (hvn:∀i∈ids vth',i∈ids vth∨¬am m' i):
 RunG f' mk ⟨cs,ts++ [(n,l)],rr⟩ B m'' r ⟨x.ph,x.rc,x.th++ [gZ l],x.z⟩ o vcl vo vth' q (bs++ [t]):=by
 have h':=h.grow hC
 have hF:∀i∈r::ids vth,¬am B i:=fun i hi=>(List.mem_cons.1 hi).elim (fun e=>e▸h.mc.nB) fun u=>h.tv.new i u
 have nt:∀i,am m i->i∉t.fp:=fun i ho hi=>hnew i hi ho
 have hvo:∀i∈ids vth,am m i:=h.tv.sl.old
 have hr:=h.mc.o
 have nr:∀i∈ids vcl,i∉r::ids vth:=fun i hi u=>(List.mem_cons.1 u).elim (fun e=>h.mc.d.1 (e▸hi)) fun u=>(h.d0 i (by simp[cz,hi])).1 u
 have nr2:∀i∈ids vo,i∉r::ids vth:=fun i hi u=>(List.mem_cons.1 u).elim (fun e=>h.mc.d.2.1 (e▸hi)) fun u=>(h.d0 i (by simp[cz,hi])).1 u
 have nq:∀i∈q.fp,i∉r::ids vth:=fun i hi u=>(List.mem_cons.1 u).elim (fun e=>(h.d0 r (by simp[cz])).2.1 (e▸hi)) fun u=>(h.d1 i u).1 hi
 have nb:∀u∈bs,∀i∈u.fp,i∉r::ids vth:=fun u hu i hi w=>(List.mem_cons.1 w).elim (fun e=>(h.d0 r (by simp[cz])).2.2 u hu (e▸hi)) fun w=>(h.d1 i w).2 u hu hi
 have ntf:∀i∈t.fp,i∉r::ids vth:=fun i hi u=>(List.mem_cons.1 u).elim (fun e=>hnew i hi (e▸hr)) fun u=>hnew i hi (hvo i u)
 have hto:∀i∈t.fp,am m' i:=fun i hi=>(ht.old i hi).1
 have hMo:∀i∈cz r vcl vo,am m i:=fun i hi=>(h.mc.old i hi).1
 have hqo:∀i∈q.fp,am m i:=fun i hi=>(h.rb.old i hi).1
 have hbo:∀u∈bs,∀i∈u.fp,am m i:=fun u hu i hi=>(h.told hu i hi).1
 have hbt:∀(j:Nat),j<ts.length->dD ⟨cs,ts++ [(n,l)],rr⟩ j=dD ⟨cs,ts,rr⟩ j:=fun j hj=>by unfold dD;simp only;rw[List.getElem?_append_left hj]
 have hln:=h.ln
 simp only at hln
 refine ⟨⟨hg,hC2.old h'.mc.o,h.mc.nB,h'.mc.cl.chg hC2 nr,h'.mc.ou.chg hC2 nr2,h.mc.d,h'.mc.c.trans hC2 fun i hi ho=>OZ ho (hF i hi)⟩,h'.rb.off hC2 nq hF,h.rk,hv,by simp[hln],fun j u y h1 h2=> ?_,fun i hi=>⟨fun u=>(hvn i u).elim (h.d0 i hi).1 fun w=>w (hC.old (hMo i hi)),(h.d0 i hi).2.1,fun u hu=> ?_⟩,fun i hi=>⟨fun u=>(hvn i hi).elim (fun w=>(h.d1 i w).1 u) fun w=>w (hC.old (hqo i u)),fun u hu w=> ?_⟩,fun i hi u hu=> ?_,fun j k u w h1 h2 hne i hi hw=> ?_,h.zk,h.ol⟩
 ·by_cases hj:j<bs.length
  ·rw[List.getElem?_append_left hj] at h1
   simp only at h2
   rw[List.getElem?_append_left (by omega)] at h2
   rw[hbt j (by omega)]
   obtain ⟨a,b⟩:=h'.tb j u y h1 h2
   exact ⟨a.off hC2 (nb u (List.mem_of_getElem? h1)) hF,b⟩
  ·rw[List.getElem?_append_right (by omega)] at h1
   simp only at h2
   rw[List.getElem?_append_right (by omega)] at h2
   have hl:=(List.getElem?_eq_some_iff.1 h1).1
   simp only[List.length_singleton] at hl
   have e:j=bs.length:=by omega
   subst e
   rw[show bs.length - x.th.length=0 by omega] at h2
   rw[Nat.sub_self] at h1
   cases h1;cases h2
   have eb:dD ⟨cs,ts++ [(n,l)],rr⟩ bs.length=l:=by unfold dD;simp[hln.1]
   rw[eb]
   exact ⟨ht.off hC2 ntf hF,hk⟩
 ·rcases List.mem_append.1 hu with hu|hu
  ·exact (h.d0 i hi).2.2 u hu
  ·rw[List.mem_singleton] at hu;subst hu;exact nt i (hMo i hi)
 ·rcases List.mem_append.1 hu with hu|hu
  ·exact (hvn i hi).elim (fun a=>(h.d1 i a).2 u hu w) fun a=>a (hC.old (hbo u hu i w))
  ·rw[List.mem_singleton] at hu;subst hu
   exact (hvn i hi).elim (fun a=>hnew i w (hvo i a)) fun a=>a (hto i w)
 ·rcases List.mem_append.1 hu with hu|hu
  ·exact h.d2 i hi u hu
  ·rw[List.mem_singleton] at hu;subst hu;exact nt i (hqo i hi)
 ·have key:∀(j:Nat) (u:Bl),(bs++ [t])[j]? =some u->bs[j]? =some u∨(j=bs.length/\u=t):=fun j u hj=>by
   by_cases hl:j<bs.length
   ·rw[List.getElem?_append_left hl] at hj;exact Or.inl hj
   ·rw[List.getElem?_append_right (by omega)] at hj
    have hl2:=(List.getElem?_eq_some_iff.1 hj).1
    simp only[List.length_singleton] at hl2
    have e:j=bs.length:=by omega
    subst e
    rw[Nat.sub_self] at hj
    cases hj
    exact Or.inr ⟨rfl,rfl⟩
  rcases key j u h1 with a|⟨a,rfl⟩
  ·rcases key k w h2 with b|⟨b,rfl⟩
   ·exact h.d3 j k u w a b hne i hi hw
   ·exact nt i (hbo u (List.mem_of_getElem? a) i hi) hw
  ·rcases key k w h2 with b|⟨b,rfl⟩
   ·exact nt i (hbo w (List.mem_of_getElem? b) i hw) hi
   ·omega
theorem BE (hc:RunC p B vc vt vr) (h:Mac (fP vc vt vr rec vth st) B m r vcl vo z) (hz:McOk p.cs z) (ho:z.out.length<=o):
 ∃m',bp Try.prog S0 73 [.ptr r 0] m (.tup []) m'/\∃vth' q bs,gd p B vc vt vr m' r (pP p z) o vcl vo vth' q bs/\EvF (cz r vcl vo) (RunG.foot r vcl vo vth' q bs) m m':=by
 refine WF.ex1 fun K' hK'=> ?_
 refine WF.of_wpG (fun _=>rfl) yI (L:= [(.e,.ptr r 0)]) rfl ?_
 unfold HH
 obtain ⟨CR,hR⟩:=hc.rp.r
 obtain ⟨CT,hT⟩:=hc.rp.t
 have hzr:=hc.zr
 have hnt:=hc.nt
 have g:=h.g
 obtain ⟨w,m1,r1,b,pl,nm,vv,rfl,hb,hC1,hnew⟩:=w7 h.c hR (by omega)
 have h1:=h.grow hC1
 have g1:=h1.g
 have o1:=h1.o
 have hlt:=hT.sl.len
 rw[hT.len] at hlt
 rw[aa]
 simp (disch:=first|assumption|omega|(simp only[aU]<;>omega)) only[go_sem,seval,g,r1.wf,g1,hlt]
 generalize hM2:hp _ 0 m1=M2
 obtain ⟨hm2,e2⟩:=h1.refit (f':=fP vc vt vr (.ptr b 0) .nils false) (m':=M2) (jO o1 hM2) (pk hM2 (by simp[aE]))
 have hF:∀i∈cz r vcl vo,¬am B i:=fun i hi=>(h.old i hi).2
 have hd:∀i∈cz r vcl vo,i∉dv b pl nm vv:=fun i hi u=>hnew i u (h.old i hi).1
 have h0:gd ⟨p.cs,p.ts.take 0,p.r⟩ B vc vt vr M2 r ⟨false,gZ p.r,(p.ts.take 0).map (fun t=>gZ t.2),z⟩ o vcl vo .nils ⟨b,pl,nm,vv⟩ []:=
  ⟨hm2,hb.ev e2 (fun i hi u=>hd i u hi) hF,Dc hzr hc.gr,bf.nil,by simp,by simp,fun i hi=>⟨by simp[ids],hd i hi,by simp⟩,by simp[ids],by simp,by simp,hz,ho⟩
 have hE0:EvF (cz r vcl vo) (RunG.foot r vcl vo .nils ⟨b,pl,nm,vv⟩ []) m M2:=RunG.ev0 hC1 e2 hnew
 refine W.loop (fun k d=>∃t M i vth q bs,d=⟨t, [],none,M⟩/\NT.get D4.e t=some (.ptr r 0)/\NT.get D4.e.a.a.c t=some vt/\NT.get D4.e.a.a.f t=some (ii (p.ts.length:Nat))/\NT.get D4.e.a.b.a t=some (ii (i:Nat))/\i+k=p.ts.length/\gd ⟨p.cs,p.ts.take i,p.r⟩ B vc vt vr M r ⟨false,gZ p.r,(p.ts.take i).map (fun t=>gZ t.2),z⟩ o vcl vo vth q bs/\EvF (cz r vcl vo) (RunG.foot r vcl vo vth q bs) m M) ?_ p.ts.length _ ⟨_,M2,0,.nils,_, [],rfl,by simp only[go_sem,seval],by simp only[go_sem,seval],by simp only[go_sem,seval],by simp only[go_sem,seval]<;>rfl,by omega,h0,hE0⟩
 clear h0 hE0 hm2 e2 hb h1 r1 g1 o1 hC1 hnew hd g h
 rintro k d ⟨t,M,i,vth,q,bs,rfl,t1,t2,t3,t4,hik,h,hE⟩
 apply az
 unfold yK
 change wp _ _ _ _ ⟨aj [] t, [],none,M⟩ _
 by_cases hi:i<p.ts.length
 ·obtain ⟨vb,E,id,off,wr,c,hS,a1,a2,a3,a4,a5⟩:=hT.at i hi
  have a2M:=(h.mc.c.get a3 (by simp)).trans a2
  have hzt:=hc.zt _ (List.getElem_mem hi)
  have hvb:=hS.sl.one
  generalize hM1:hp [(.n 0,.cells true [.str p.ts[i].1,vb]),(.n 0,.cells true [.str [],.nils])] 1 M=M1
  have hC1:Chg [] M M1:=bh hM1 rfl
  have gc1:M1.get (na M 0)=some (.cells true [.str p.ts[i].1,vb]):=bM hM1
  have oc1:am M1 (na M 0):=bL hM1 (by omega)
  have hM:=h.mc.grow hC1
  obtain ⟨w,m2,r2,b,pl,nm,vv,rfl,hb,hC2,hnew⟩:=w7 hM.c hS (by omega)
  have hM2:=hM.grow hC2
  have g1:=hM.g
  have g2:=hM2.g
  have gc2:=(hC2.get oc1 (by simp)).trans gc1
  have oR:=hM2.o
  have ht1:=h.tv.sl.one
  have htn:=(h.tv.sl.same (n:=3))
  have hvn:=hS.sl.same (n:=3)
  rw[←aa M]
  simp (disch:=first|assumption|omega|(simp only[aU]<;>omega)) only[go_sem,seval,t1,t2,t3,t4,a1,a2M,a5,a4,hvb,hM1,gc1,g1,r2.wf,g2,gc2,htn,hvn]
  have hC3:Chg [] m2 (hp [(.n 0,.cells true [.ptr b 0])] 1 m2):=aF rfl
  have hCM3:=(hC1.trans hC2 (by simp)).trans hC3 (by simp)
  have h3:=h.grow hCM3
  have hbl:bs.length<=1000:=by have:=h.ln.1;simp only[List.length_take] at this;omega
  refine fq (cs:= [.ptr b 0]) h3.tv bP (bW (by omega)) rfl (fun i hi=>h3.mc.c.old hi) (by simp;omega) (by simp;omega) ?_
  intro vth' M4 hv4 hC4 hF4
  have hrv:r∉ids vth:=fun u=>(h.d1 r u).2 |> fun _=>(h.d0 r (by simp[cz])).1 u
  have g4:=(hC4.get h3.mc.o hrv).trans h3.mc.g
  have o4:=hC4.old h3.mc.o
  have gc4:=(hC4.get (hC3.old (hC2.old oc1)) (fun u=>aB (h.tv.sl.old _ u))).trans ((hC3.get (hC2.old oc1) (by simp)).trans gc2)
  have hv1:=hv4.sl.one
  simp (disch:=first|assumption|omega|(simp only[aU]<;>omega)) only[go_sem,seval,aa,g4,gc4,hv1,t1,t4]
  generalize hM5:M4.put r _=M5
  have hM5:M5=hp [(.o r,.cells true (fP vc vt vr (.ptr q.b 0) vth' false vcl vo z.ill))] 0 M4:=by rw[←hM5,←fA o4,aa]
  have hC5:Chg [r] M4 M5:=by rw[hM5];exact (eA _ _ _).weak (by simp[aE])
  have hrv':r∉ids vth':=fun u=>(hF4 r u).elim hrv fun u=>u h3.mc.o
  have hC35:=((hC4.weak (T:=r::ids vth) fun i hi _=>List.mem_cons_of_mem _ hi).trans hC5 fun i hi _=>by have hi:=one hi;subst hi;simp)
  have hE5:=hE.trans (RunG.evS (vcl:=vcl) (vo:=vo) (q:=q) (bs:=bs) (t:=⟨b,pl,nm,vv⟩) hCM3 hC35 hF4 (fun i hi u=>hnew i hi (hC1.old u)))
  have hq:=h.snoc (f':=fP vc vt vr (.ptr q.b 0) vth' false) (n:=p.ts[i].1) (l:=p.ts[i].2) (t:=⟨b,pl,nm,vv⟩) (m':=hp [(.n 0,.cells true [.ptr b 0])] 1 m2) (m'':=M5) (vth':=vth') hCM3 (hb.grow hC3) (Dc hzt (hc.gt _ (List.getElem_mem hi))) (fun i hi u=>hnew i hi (hC1.old u)) ((hC4.weak fun i hi _=>List.mem_cons_of_mem _ hi).trans hC5 fun i hi _=>by have hi:=one hi;subst hi;simp) (by rw[hM5];exact (aJ o4).trans au)
   (by
    have:=hv4.chg hC5 fun i hi u=>by have u:=one u;subst u;exact hrv' hi
    rw[List.map_append];exact this) hF4
  have et:p.ts.take i++ [(p.ts[i].1,p.ts[i].2)]=p.ts.take (i+1):=by rw[List.take_add_one,List.getElem?_eq_getElem hi];rfl
  have et2:(p.ts.take i).map (fun t=>gZ t.2)++ [gZ p.ts[i].2]=(p.ts.take (i+1)).map fun t=>gZ t.2:=by rw[←et,List.map_append];rfl
  rw[et] at hq
  simp only[et2] at hq
  exact ⟨k - 1,by omega,_,M5,i+1,vth',q,_,by rfl,by simp only[go_sem,seval,t1],by simp only[go_sem,seval,t2],by simp only[go_sem,seval,t3],by simp only[go_sem,seval]<;>rfl,by omega,hq,hE5⟩
 ·simp (disch:=first|assumption|omega) only[go_sem,seval,t1,t2,t3,t4]
  have e:i=p.ts.length:=by omega
  subst e
  rw[List.take_length] at h
  exact hK' _ ⟨vth,q,bs,h,hE⟩
end
theorem sx:cP .slc .eql .nils .nils=some (.bool true):=_root_.id rfl
theorem rM {id:D4} {off n e k:Nat}:cP .slc .eql (.slc id off n e k) .nils=some (.bool false):=_root_.id rfl
theorem K7 {m:NH} {v:NV} {C:List (List NV)} (h:Sl m v 1 C) (hl:C.length<=1000001):∃v' m',bp Try.prog S0 77 [v] m v' m'/\bf m m' v' 1 C/\Chg [] m m':=by
 refine WF.ex fun K hK=> ?_
 refine WF.of_wpG (fun _=>rfl) xG (L:= [(.e,v)]) rfl ?_
 unfold Hm
 have h':=h
 obtain ⟨h0,⟨rfl,rfl⟩|⟨id,off,kc,w,c,rfl,h1,h2,h3,h4⟩⟩:=h'
 ·simp (disch:=first|assumption|omega) only[go_sem,seval,sx]
  exact hK _ _ ⟨bf.nil,aF rfl⟩
 ·simp (disch:=first|assumption|omega) only[go_sem,seval,rM]
  have hC1:Chg [] m (hp [(.n 0,.cells true [])] 1 m):=aF rfl
  have ho:bf m (hp [(.n 0,.cells true [])] 1 m) (.slc (na m 0) 0 0 1 0) 1 []:=bf.of (by simp) aB bP (bW (by omega)) rfl rfl rfl
  by_cases hC:C= []
  ·subst hC
   rw[ho.sl.appNil (h.grew hC1)]
   simp (disch:=first|assumption|omega) only[go_sem,seval]
   exact hK _ _ ⟨ho,hC1⟩
  ·obtain ⟨v',m',e1,e2,e3⟩:=ho.app (bytes:=8) (h.grew hC1) hC (fun i hi=>hC1.old hi) (by simp;omega) (by simp;omega)
   rw[e1]
   simp (disch:=first|assumption|omega) only[go_sem,seval]
   refine hK _ _ ⟨by simpa using e2,hC1.trans e3 fun i hi q=> ?_⟩
   simp only[ids,O5,O4,or_false] at hi
   subst hi;exact OZ q aB
theorem Mj {m:NH} {v:NV} {C:List (List NV)} (h:Sl m v 2 C) (hl:C.length<=1000001):∃v' m',bp Try.prog S0 69 [v] m v' m'/\bf m m' v' 2 C/\Chg [] m m':=by
 refine WF.ex fun K hK=> ?_
 refine WF.of_wpG (fun _=>rfl) xd (L:= [(.e,v)]) rfl ?_
 unfold IZ
 have h':=h
 obtain ⟨h0,⟨rfl,rfl⟩|⟨id,off,kc,w,c,rfl,h1,h2,h3,h4⟩⟩:=h'
 ·simp (disch:=first|assumption|omega) only[go_sem,seval,sx]
  exact hK _ _ ⟨bf.nil,aF rfl⟩
 ·simp (disch:=first|assumption|omega) only[go_sem,seval,rM]
  have hC1:Chg [] m (hp [(.n 0,.cells true [])] 1 m):=aF rfl
  have ho:bf m (hp [(.n 0,.cells true [])] 1 m) (.slc (na m 0) 0 0 2 0) 2 []:=bf.of (by simp) aB bP (bW (by omega)) rfl rfl rfl
  by_cases hC:C= []
  ·subst hC
   rw[ho.sl.appNil (h.grew hC1)]
   simp (disch:=first|assumption|omega) only[go_sem,seval]
   exact hK _ _ ⟨ho,hC1⟩
  ·obtain ⟨v',m',e1,e2,e3⟩:=ho.app (bytes:=24) (h.grew hC1) hC (fun i hi=>hC1.old hi) (by simp;omega) (by simp;omega)
   rw[e1]
   simp (disch:=first|assumption|omega) only[go_sem,seval]
   refine hK _ _ ⟨by simpa using e2,hC1.trans e3 fun i hi q=> ?_⟩
   simp only[ids,O5,O4,or_false] at hi
   subst hi;exact OZ q aB
theorem KF {m:NH} {v:NV} {C:List (List NV)} (h:Sl m v 2 C) (hl:C.length<=1000001):∃v' m',bp Try.prog S0 70 [v] m v' m'/\bf m m' v' 2 C/\Chg [] m m':=by
 refine WF.ex fun K hK=> ?_
 refine WF.of_wpG (fun _=>rfl) xV (L:= [(.e,v)]) rfl ?_
 unfold Hi
 have h':=h
 obtain ⟨h0,⟨rfl,rfl⟩|⟨id,off,kc,w,c,rfl,h1,h2,h3,h4⟩⟩:=h'
 ·simp (disch:=first|assumption|omega) only[go_sem,seval,sx]
  exact hK _ _ ⟨bf.nil,aF rfl⟩
 ·simp (disch:=first|assumption|omega) only[go_sem,seval,rM]
  have hC1:Chg [] m (hp [(.n 0,.cells true [])] 1 m):=aF rfl
  have ho:bf m (hp [(.n 0,.cells true [])] 1 m) (.slc (na m 0) 0 0 2 0) 2 []:=bf.of (by simp) aB bP (bW (by omega)) rfl rfl rfl
  by_cases hC:C= []
  ·subst hC
   rw[ho.sl.appNil (h.grew hC1)]
   simp (disch:=first|assumption|omega) only[go_sem,seval]
   exact hK _ _ ⟨ho,hC1⟩
  ·obtain ⟨v',m',e1,e2,e3⟩:=ho.app (bytes:=40) (h.grew hC1) hC (fun i hi=>hC1.old hi) (by simp;omega) (by simp;omega)
   rw[e1]
   simp (disch:=first|assumption|omega) only[go_sem,seval]
   refine hK _ _ ⟨by simpa using e2,hC1.trans e3 fun i hi q=> ?_⟩
   simp only[ids,O5,O4,or_false] at hi
   subst hi;exact OZ q aB
theorem Ke {m:NH} {v:NV} {C:List (List NV)} (h:Sl m v 21 C) (hl:C.length<=1000001):∃v' m',bp Try.prog S0 119 [v] m v' m'/\bf m m' v' 21 C/\Chg [] m m':=by
 refine WF.ex fun K hK=> ?_
 refine WF.of_wpG (fun _=>rfl) sf (L:= [(.e,v)]) rfl ?_
 unfold B7
 have h':=h
 obtain ⟨h0,⟨rfl,rfl⟩|⟨id,off,kc,w,c,rfl,h1,h2,h3,h4⟩⟩:=h'
 ·simp (disch:=first|assumption|omega) only[go_sem,seval,sx]
  exact hK _ _ ⟨bf.nil,aF rfl⟩
 ·simp (disch:=first|assumption|omega) only[go_sem,seval,rM]
  have hC1:Chg [] m (hp [(.n 0,.cells true [])] 1 m):=aF rfl
  have ho:bf m (hp [(.n 0,.cells true [])] 1 m) (.slc (na m 0) 0 0 21 0) 21 []:=bf.of (by simp) aB bP (bW (by omega)) rfl rfl rfl
  by_cases hC:C= []
  ·subst hC
   rw[ho.sl.appNil (h.grew hC1)]
   simp (disch:=first|assumption|omega) only[go_sem,seval]
   exact hK _ _ ⟨ho,hC1⟩
  ·obtain ⟨v',m',e1,e2,e3⟩:=ho.app (bytes:=288) (h.grew hC1) hC (fun i hi=>hC1.old hi) (by simp;omega) (by simp;omega)
   rw[e1]
   simp (disch:=first|assumption|omega) only[go_sem,seval]
   refine hK _ _ ⟨by simpa using e2,hC1.trans e3 fun i hi q=> ?_⟩
   simp only[ids,O5,O4,or_false] at hi
   subst hi;exact OZ q aB
theorem LY {m:NH} {v:NV} {C:List (List NV)} (h:Sl m v 5 C) (hl:C.length<=1000001):∃v' m',bp Try.prog S0 155 [v] m v' m'/\bf m m' v' 5 C/\Chg [] m m':=by
 refine WF.ex fun K hK=> ?_
 refine WF.of_wpG (fun _=>rfl) sa (L:= [(.e,v)]) rfl ?_
 unfold Bi
 have h':=h
 obtain ⟨h0,⟨rfl,rfl⟩|⟨id,off,kc,w,c,rfl,h1,h2,h3,h4⟩⟩:=h'
 ·simp (disch:=first|assumption|omega) only[go_sem,seval,sx]
  exact hK _ _ ⟨bf.nil,aF rfl⟩
 ·simp (disch:=first|assumption|omega) only[go_sem,seval,rM]
  have hC1:Chg [] m (hp [(.n 0,.cells true [])] 1 m):=aF rfl
  have ho:bf m (hp [(.n 0,.cells true [])] 1 m) (.slc (na m 0) 0 0 5 0) 5 []:=bf.of (by simp) aB bP (bW (by omega)) rfl rfl rfl
  by_cases hC:C= []
  ·subst hC
   rw[ho.sl.appNil (h.grew hC1)]
   simp (disch:=first|assumption|omega) only[go_sem,seval]
   exact hK _ _ ⟨ho,hC1⟩
  ·obtain ⟨v',m',e1,e2,e3⟩:=ho.app (bytes:=64) (h.grew hC1) hC (fun i hi=>hC1.old hi) (by simp;omega) (by simp;omega)
   rw[e1]
   simp (disch:=first|assumption|omega) only[go_sem,seval]
   refine hK _ _ ⟨by simpa using e2,hC1.trans e3 fun i hi q=> ?_⟩
   simp only[ids,O5,O4,or_false] at hi
   subst hi;exact OZ q aB
def OU (x:Ex):Prop:=∀{m0 m:NH} {T:D4->Prop} {c:List NV},RE m0 T x c->aS T m0 m->x.sz<=1000000->∃w m',bp Try.prog S0 120 [.agg c] m w m'/\(∃u,w= .agg (x.l u)/\RE m' (fun i=>¬am m i) x (x.l u))/\Chg [] m m'
theorem I5 {ks:List Ex} {x:Ex} (h:x∈ks):x.sz<=jY ks:=by
 induction ks with
 |nil=>simp at h
 |cons y ks ih=>
  rw[jY]
  rcases List.mem_cons.1 h with rfl|h
  ·omega
  ·have:=ih h;omega
structure XsC (m0 M:NH) (T T':D4->Prop) (ks:List Ex) (i:Nat) (C:List (List NV)):Prop where
 n:C.length=ks.length
 a:∀(j:Nat) (x:Ex) (c:List NV),j<i->ks[j]? =some x->C[j]? =some c->RE M T' x c
 b:∀(j:Nat) (x:Ex) (c:List NV),i<=j->ks[j]? =some x->C[j]? =some c->RE m0 T x c
theorem mA:∀x:Ex,OU x:=by
 apply Ex.ind
 intro k n o s ks ih m0 m T c hR hst hsz
 obtain ⟨vk,C,rfl,hS⟩:=hR.inv
 rw[Ex.sz] at hsz
 have hkl:=rC ks
 refine WF.ex fun K' hK'=> ?_
 refine WF.of_wpG (fun _=>rfl) se (L:= [(.e,.agg [ii k,u64 n,u8 o,.str s,vk])]) rfl ?_
 unfold AF
 generalize hM1:hp [(.n 1,.cells true [ii 0,iu 0,ib 0,.str [],.nils]),(.n 0,.cells true [ii k,u64 n,u8 o,.str s,vk])] 2 m=M1
 have hC1:Chg [] m M1:=bh hM1 rfl
 have g10:M1.get (na m 0)=some (.cells true [ii k,u64 n,u8 o,.str s,vk]):=bM hM1
 have g11:M1.get (na m 1)=some (.cells true [ii 0,iu 0,ib 0,.str [],.nils]):=bM hM1
 have o10:am M1 (na m 0):=bL hM1 (by omega)
 have o11:am M1 (na m 1):=bL hM1 (by omega)
 have hne:na m 0≠na m 1:=by rw[Ne,rG];omega
 obtain ⟨v1,M2,r2,ho2,hC2⟩:=LY ((hS.stays (hst.grow hC1)).sl) (by rw[hS.len];omega)
 have g20:=(hC2.get o10 (by simp)).trans g10
 have g21:=(hC2.get o11 (by simp)).trans g11
 have o20:=hC2.old o10
 have o21:=hC2.old o11
 have hvk:=hS.sl.one
 have hv1:=ho2.sl.one
 have hlen:=ho2.sl.len
 rw[hS.len] at hlen
 simp (disch:=first|assumption|omega|(simp only[aU]<;>omega)) only[go_sem,seval,hvk,hM1,g10,r2.wf,g20,hv1,hlen]
 generalize hM3:hp _ 0 M2=M3
 have hC3:Chg [na m 0] M2 M3:=pk hM3 (by simp[aE])
 have g30:M3.get (na m 0)=some (.cells true [ii k,u64 n,u8 o,.str s,v1]):=jO o20 hM3
 have g31:M3.get (na m 1)=some (.cells true [ii 0,iu 0,ib 0,.str [],.nils]):=(hC3.get o21 (by simpa using hne.symm)).trans g21
 have hn1:∀i∈ids v1,¬am M1 i:=ho2.new
 have hCm3:Chg [] m M3:=(hC1.trans hC2 (by simp)).trans hC3 fun i hi q=>by have hi:=one hi;subst hi;exact OZ q aB
 have ho3:bf m M3 v1 5 C:=(ho2.chg hC3 fun i hi q=>by have q:=one q;subst q;exact hn1 _ hi o10).back fun i hi=>hC1.old hi
 refine W.loop (fun f d=>∃t M i D,d=⟨t, [],none,M⟩/\NT.get D4.e.a t=some (.ptr (na m 0) 0)/\NT.get D4.e.b t=some (.ptr (na m 1) 0)/\NT.get D4.e.b.b t=some (ii (ks.length:Nat))/\NT.get D4.e.b.c t=some (ii (i:Nat))/\i+f=ks.length/\Chg (na m 0::ids v1) M3 M/\M.get (na m 0)=some (.cells true [ii k,u64 n,u8 o,.str s,v1])/\M.get (na m 1)=some (.cells true [ii 0,iu 0,ib 0,.str [],.nils])/\bf m M v1 5 D/\Chg [] m M/\XsC m0 M T (fun i=>¬am m i/\i∉ids v1/\i≠na m 0/\i≠na m 1) ks i D) ?_ ks.length _ ⟨_,M3,0,C,rfl,by simp only[go_sem,seval],by simp only[go_sem,seval],by simp only[go_sem,seval],by simp only[go_sem,seval]<;>rfl,by omega,(Chg.refl _).weak (by simp),g30,g31,ho3,hCm3,⟨hS.len,fun j x c h=>by omega,fun j x c _=>hS.R j x c⟩⟩
 have o30:am M3 (na m 0):=hC3.old o20
 have o31:am M3 (na m 1):=hC3.old o21
 clear ho2 ho3 r2 g10 g11 g20 g21 hlen
 rintro f d ⟨t,M,i,D,rfl,t1,t2,t3,t4,hif,hCM,gM0,gM1,ho,hC,hX⟩
 apply az
 unfold su
 change wp _ _ _ _ ⟨aj [] t, [],none,M⟩ _
 have oM0:=hCM.old o30
 have oM1:=hCM.old o31
 by_cases hi:i<ks.length
 ·have hiD:i<D.length:=by rw[hX.n];exact hi
  obtain ⟨id,off,cc,a1,a2,a3,a4,a5,a6,a7,a8⟩:=ho.at_all i hiD
  have hRi:=hX.b i _ _ (Nat.le_refl _) (List.getElem?_eq_getElem hi) (List.getElem?_eq_getElem hiD)
  have hsi:=I5 (List.getElem_mem hi)
  obtain ⟨w,M4,r4,⟨u,rfl,hR4⟩,hC4⟩:=ih _ (List.getElem_mem hi) hRi (hst.grow hC) (by omega)
  have g40:=(hC4.get oM0 (by simp)).trans gM0
  have g41:=(hC4.get oM1 (by simp)).trans gM1
  have a44:=(hC4.get a5 (by simp)).trans a4
  have ido:am M4 id:=hC4.old a5
  have hid0:na m 0≠id:=fun e=>hn1 id (by rw[a2];simp) (e▸o10)
  have hid1:na m 1≠id:=fun e=>hn1 id (by rw[a2];simp) (e▸o11)
  obtain ⟨uu,Cu,ed,-⟩:=hRi.inv'
  have hsD:bz 4 (.agg D[i]) (.agg D[i])=true:=by rw[ed];exact d6 (ed▸hRi)
  have hv1s:=ho.sl.same (n:=3)
  simp (disch:=first|assumption|omega|(simp only[aU]<;>omega)) only[go_sem,seval,t1,t2,t3,t4,gM0,a1,a4,a7,r4.wf',g40,a44,hsD,hv1s]
  generalize hM5:M4.put id _=M5
  have hM5:M5=hp [(.o id,.cells true (cc.take off++ks[i].l u++cc.drop (off+5)))] 0 M4:=by rw[←hM5,←fA ido,aa]
  have hC5:Chg [id] M4 M5:=by rw[hM5];exact (eA _ _ _).weak (by simp[aE])
  have idm:¬am m id:=a3
  have hCM5:Chg [id] M M5:=(hC4.weak (by simp)).trans hC5 fun i hi _=>hi
  refine ⟨f - 1,by omega,_,M5,i+1,D.set i (ks[i].l u),by rfl,by simp only[go_sem,seval,t1],by simp only[go_sem,seval,t2],by simp only[go_sem,seval,t3],by simp only[go_sem,seval]<;>rfl,by omega,hCM.trans hCM5 (fun i hi _=>by have hi:=one hi;subst hi;simp[a2]),(hCM5.get oM0 (by simpa using hid0)).trans gM0,(hCM5.get oM1 (by simpa using hid1)).trans gM1,a8 _ _ rfl (by rw[hM5];exact (aJ ido).trans au) (by rw[hM5];exact bJ ido),hC.trans hCM5 fun i hi q=>by have hi:=one hi;subst hi;exact OZ q idm,⟨by simp[hX.n],fun j x c hj h1 h2=> ?_,fun j x c hj h1 h2=> ?_⟩⟩
  ·by_cases e:j=i
   ·subst e
    rw[List.getElem?_set_self hiD] at h2
    rw[List.getElem?_eq_getElem hi] at h1
    cases h1;cases h2
    refine (hR4.weak (T':=fun j=>¬am m j/\j∉ids v1/\j≠na m 0/\j≠na m 1) fun j q=>⟨fun w=>q (hC.old w),fun w=>q (ho.sl.old j w),fun w=>q (w▸oM0),fun w=>q (w▸oM1)⟩).stays (aS.of hC5 fun j q w=> ?_)
    simp only[O5,O4,or_false] at w
    exact q.2.1 (by rw[a2,w];simp)
   ·rw[List.getElem?_set_ne (fun a=>e a.symm)] at h2
    refine (hX.a j x c (by omega) h1 h2).stays (aS.of hCM5 fun j q w=> ?_)
    simp only[O5,O4,or_false] at w
    exact q.2.1 (by rw[a2,w];simp)
  ·rw[List.getElem?_set_ne (by omega)] at h2
   exact hX.b j x c (by omega) h1 h2
 ·rw[←aa M]
  simp (disch:=first|assumption|omega|(simp only[aU]<;>omega)) only[go_sem,seval,t1,t2,t3,t4,gM0,gM1]
  generalize hM5:hp _ 0 M=M5
  have hC5:Chg [na m 1] M M5:=pk hM5 (by simp[aE])
  have e:i=ks.length:=by omega
  subst e
  refine hK' _ _ ⟨⟨v1,rfl,RE.of (C:=D) ⟨?_,fun i hi q=>hn1 i hi (hC1.old q),hX.n,fun j x c h1 h2=> ?_⟩⟩,hC.trans hC5 fun i hi q=>by have hi:=one hi;subst hi;exact OZ q aB⟩
  ·exact ho.sl.chg hC5 fun i hi q=>by have q:=one q;subst q;exact hn1 _ hi o11
  ·have hj:=(List.getElem?_eq_some_iff.1 h1).1
   refine ((hX.a j x c hj h1 h2).stays (aS.of hC5 fun j q w=> ?_)).weak fun j q=>q.1
   simp only[O5,O4,or_false] at w
   exact q.2.2.2 w
end FR
