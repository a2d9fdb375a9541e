/- Contracts of functions that the law LowerMeans reaches, part 0. -/
import Derived.Test.YtcpilcplobihkaaGreatLmc
set_option linter.unusedSimpArgs false
set_option linter.unusedVariables false
open Go Nm Go.Proofs
namespace FR
theorem _root_.Nm.Chg.tr {S:List D4} {m m1 m2:NH} (h:Chg S m m1) (k:Chg [] m1 m2):Chg S m m2:=h.trans k (by simp)
variable {m m' B m0 N M:NH} {v u vc vk vn:NV} {T:D4->Prop} {C:List (List NV)} {c:List NV} {ns Z L more mine:List (List Nat)} {t:Tm} {cs:List (List Nat×Int)} {Q:Out->Dyn->Prop} {oc r id mo:D4} {vs:List Int} {S:List D4} {α:Type} {mk:NV->NV->NV->Int->List NV} {z lo:Int}
theorem gq {k:D4} {L:List (D4×NV)} {v:Option NV} (h:fH k L (NT.get k t)=v):NT.get k (ah L t)=v:=(gn k L t).trans h
theorem one {a b:D4} (h:a∈ [b]):a=b:=by simpa using h
section
variable {l:List (AK×NO)} {k j:Nat} {m M:NH} {id:D4} {o:NO} {S:List D4}
theorem kR (ho:am m id) (h:hp ((.o id,o)::l) k m=M):M.get id=some o:=by rw[←h];exact (aE ho).trans aq
theorem li (h:hp l k m=M) (hs:∀i,i∈aC l->am m i->i∈S):Chg S m M:=by rw[←h];exact (dg _ _ _).weak hs
theorem aR (h:hp l k m=M) (hs:aC l=S):Chg S m M:=by rw[←h];exact aI hs
theorem bt (h:hp l k m=M) (hj:j<k):am M (na m j):=by rw[←h];exact bN hj
theorem bu (h:hp l k m=M):M.get (na m j)=kY j l (m.get (na m j)):=by rw[←h];exact bI
end
abbrev u8 (c:Nat):NV:= .int .u8 (.lit (c:Int))
abbrev u64 (n:Nat):NV:= .int .u64 (.lit (n:Int))
inductive Ex where
 |mk (k:Int) (n o:Nat) (s:List Nat) (ks:List Ex)
inductive Stm where
 |mk (k a:Int) (nm ce:List Nat) (i x y:Ex) (b e:List Stm)
theorem Ex.ind {P:Ex->Prop} (h:∀k n o s ks,(∀x∈ks,P x)->P (.mk k n o s ks)):∀x,P x
 | .mk k n o s ks=>h k n o s ks fun x _=>Ex.ind h x
theorem Stm.ind {P:Stm->Prop} (h:∀k a nm ce i x y b e,(∀s∈b,P s)->(∀s∈e,P s)->P (.mk k a nm ce i x y b e)):∀s,P s
 | .mk k a nm ce i x y b e=>h k a nm ce i x y b e (fun s _=>Stm.ind h s) (fun s _=>Stm.ind h s)
inductive RE (m:NH) (T:D4->Prop):Ex->List NV->Prop
 |mk {k:Int} {n o:Nat} {s:List Nat} {ks:List Ex} {v:NV} {C:List (List NV)} (hv:Sl m v 5 C) (hT:∀i∈ids v,T i) (hl:C.length=ks.length) (h:∀(i:Nat) (x:Ex) (c:List NV),ks[i]? =some x->C[i]? =some c->RE m T x c):
  RE m T (.mk k n o s ks) [ii k,u64 n,u8 o,.str s,v]
inductive RS (m:NH) (T:D4->Prop):Stm->List NV->Prop
 |mk {k a:Int} {nm ce:List Nat} {i x y:Ex} {b e:List Stm} {ci cx cy:List NV} {vb ve:NV} {B E:List (List NV)} (hi:RE m T i ci) (hx:RE m T x cx) (hy:RE m T y cy)
  (hb:Sl m vb 21 B) (hbT:∀i∈ids vb,T i) (hbl:B.length=b.length) (hbR:∀(j:Nat) (s:Stm) (c:List NV),b[j]? =some s->B[j]? =some c->RS m T s c)
  (he:Sl m ve 21 E) (heT:∀i∈ids ve,T i) (hel:E.length=e.length) (heR:∀(j:Nat) (s:Stm) (c:List NV),e[j]? =some s->E[j]? =some c->RS m T s c):
  RS m T (.mk k a nm ce i x y b e) ([ii k,ii a,.str nm,.str ce]++ci++cx++cy++ [vb,ve])
def bz (T:D4->Prop) (m m':NH):Prop:=∀i,T i->am m i->m'.get i=m.get i/\am m' i
theorem kQ  (h:Chg [] m m') (T:D4->Prop):bz T m m':=fun _ _ ho=>⟨h.get ho (by simp),h.old ho⟩
theorem bz.of  (h:Chg S m m') (hT:∀i,T i->i∉S):bz T m m':=fun i hi ho=>⟨h.get ho (hT i hi),h.old ho⟩
theorem ge  {l:List (AK×NO)} {k:Nat} (h:Chg [] m M) (e:aC l= []):Chg [] m (hp l k M):=h.trans (aI e) (by simp)
theorem gO  {e:Nat} (h:Sl m v e C) (hT:∀i∈ids v,T i) (hs:bz T m m'):Sl m' v e C:=by
 obtain ⟨h0,⟨rfl,rfl⟩|⟨id,off,kc,w,c,rfl,h1,h2,h3,h4⟩⟩:=h
 ·exact ⟨h0,Or.inl ⟨rfl,rfl⟩⟩
 ·obtain ⟨g1,g2⟩:=hs id (hT id (List.mem_cons_self ..)) h2
  exact ⟨h0,Or.inr ⟨id,off,kc,w,c,rfl,g1.trans h1,g2,h3,h4⟩⟩
theorem RE.stays  (hs:bz T m m') {x:Ex} (h:RE m T x c):RE m' T x c:=by
 induction h with
 |mk hv hT hl h ih=>exact .mk (gO hv hT hs) hT hl ih
theorem RE.weak  {T':D4->Prop} (hT':∀i,T i->T' i) {x:Ex} (h:RE m T x c):RE m T' x c:=by
 induction h with
 |mk hv hT hl h ih=>exact .mk hv (fun i hi=>hT' i (hT i hi)) hl ih
theorem RS.stays  (hs:bz T m m') {x:Stm} (h:RS m T x c):RS m' T x c:=by
 induction h with
 |mk hi hx hy hb hbT hbl hbR he heT hel heR ih1 ih2=>exact .mk (hi.stays hs) (hx.stays hs) (hy.stays hs) (gO hb hbT hs) hbT hbl ih1 (gO he heT hs) heT hel ih2
theorem RS.weak  {T':D4->Prop} (hT':∀i,T i->T' i) {x:Stm} (h:RS m T x c):RS m T' x c:=by
 induction h with
 |mk hi hx hy hb hbT hbl hbR he heT hel heR ih1 ih2=>exact .mk (hi.weak hT') (hx.weak hT') (hy.weak hT') hb (fun i q=>hT' i (hbT i q)) hbl ih1 he (fun i q=>hT' i (heT i q)) hel ih2
structure SE (m:NH) (T:D4->Prop) (v:NV) (l:List Ex) (C:List (List NV)):Prop where
 sl:Sl m v 5 C
 hT:∀i∈ids v,T i
 len:C.length=l.length
 R:∀(i:Nat) (x:Ex) (c:List NV),l[i]? =some x->C[i]? =some c->RE m T x c
structure SS (m:NH) (T:D4->Prop) (v:NV) (l:List Stm) (C:List (List NV)):Prop where
 sl:Sl m v 21 C
 hT:∀i∈ids v,T i
 len:C.length=l.length
 R:∀(i:Nat) (x:Stm) (c:List NV),l[i]? =some x->C[i]? =some c->RS m T x c
theorem RE.inv  {k:Int} {n o:Nat} {s:List Nat} {ks:List Ex} (h:RE m T (.mk k n o s ks) c):∃v C,c= [ii k,u64 n,u8 o,.str s,v]/\SE m T v ks C:=by
 cases h with
 |mk hv hT hl h=>exact ⟨_,_,rfl,hv,hT,hl,h⟩
theorem RE.of  {k:Int} {n o:Nat} {s:List Nat} {ks:List Ex} (h:SE m T v ks C):RE m T (.mk k n o s ks) [ii k,u64 n,u8 o,.str s,v]:= .mk h.sl h.hT h.len h.R
theorem RE.len  {x:Ex} (h:RE m T x c):c.length=5:=by cases h;rfl
theorem RS.len  {x:Stm} (h:RS m T x c):c.length=21:=by
 cases h with
 |mk hi hx hy=>simp[hi.len,hx.len,hy.len]
def Ex.k:Ex->Int| .mk k _ _ _ _=>k
def Ex.n:Ex->Nat| .mk _ n _ _ _=>n
def Ex.o:Ex->Nat| .mk _ _ o _ _=>o
def Ex.s:Ex->List Nat| .mk _ _ _ s _=>s
def Ex.ks:Ex->List Ex| .mk _ _ _ _ ks=>ks
abbrev Ex.l (x:Ex) (v:NV):List NV:= [ii x.k,u64 x.n,u8 x.o,.str x.s,v]
theorem RE.inv'  {x:Ex} (h:RE m T x c):∃v C,c=x.l v/\SE m T v x.ks C:=by
 cases x;exact h.inv
theorem RS.inv  {k a:Int} {nm ce:List Nat} {i x y:Ex} {b e:List Stm} (h:RS m T (.mk k a nm ce i x y b e) c):
 ∃vi vx vy vb ve B E,c= [ii k,ii a,.str nm,.str ce,ii i.k,u64 i.n,u8 i.o,.str i.s,vi,ii x.k,u64 x.n,u8 x.o,.str x.s,vx,ii y.k,u64 y.n,u8 y.o,.str y.s,vy,vb,ve]/\
  RE m T i (i.l vi)/\RE m T x (x.l vx)/\RE m T y (y.l vy)/\SS m T vb b B/\SS m T ve e E:=by
 cases h with
 |mk hi hx hy hb hbT hbl hbR he heT hel heR=>
  obtain ⟨vi,Ci,rfl,-⟩:=hi.inv'
  obtain ⟨vx,Cx,rfl,-⟩:=hx.inv'
  obtain ⟨vy,Cy,rfl,-⟩:=hy.inv'
  exact ⟨vi,vx,vy,_,_,_,_,rfl,hi,hx,hy,⟨hb,hbT,hbl,hbR⟩,⟨he,heT,hel,heR⟩⟩
theorem SE.stays  (hs:bz T m m') {l:List Ex} (h:SE m T v l C):SE m' T v l C:=⟨gO h.sl h.hT hs,h.hT,h.len,fun i x c a b=>(h.R i x c a b).stays hs⟩
theorem SS.stays  (hs:bz T m m') {l:List Stm} (h:SS m T v l C):SS m' T v l C:=⟨gO h.sl h.hT hs,h.hT,h.len,fun i x c a b=>(h.R i x c a b).stays hs⟩
theorem SE.at  {l:List Ex} (h:SE m T v l C) (i:Nat) (hi:i<l.length):∃c,C[i]? =some c/\RE m T l[i] c:=by
 have hc:i<C.length:=by rw[h.len];exact hi
 exact ⟨C[i],List.getElem?_eq_getElem hc,h.R i _ _ (List.getElem?_eq_getElem hi) (List.getElem?_eq_getElem hc)⟩
theorem SS.at  {l:List Stm} (h:SS m T v l C) (i:Nat) (hi:i<l.length):∃c,C[i]? =some c/\RS m T l[i] c:=by
 have hc:i<C.length:=by rw[h.len];exact hi
 exact ⟨C[i],List.getElem?_eq_getElem hc,h.R i _ _ (List.getElem?_eq_getElem hi) (List.getElem?_eq_getElem hc)⟩
def zE:Ex:= .mk 0 0 0 [] []
theorem G1 (m:NH) (T:D4->Prop) (k:Int) (n o:Nat) (s:List Nat):RE m T (.mk k n o s []) [ii k,u64 n,u8 o,.str s,.nils]:= .mk (C:= []) Sl.nil (by simp[ids]) rfl (by simp)
structure SV where
 (vi vx vy vb ve:NV)
def Stm.k:Stm->Int| .mk k _ _ _ _ _ _ _ _=>k
def Stm.a:Stm->Int| .mk _ a _ _ _ _ _ _ _=>a
def Stm.nm:Stm->List Nat| .mk _ _ s _ _ _ _ _ _=>s
def Stm.ce:Stm->List Nat| .mk _ _ _ s _ _ _ _ _=>s
def Stm.i:Stm->Ex| .mk _ _ _ _ x _ _ _ _=>x
def Stm.x:Stm->Ex| .mk _ _ _ _ _ x _ _ _=>x
def Stm.y:Stm->Ex| .mk _ _ _ _ _ _ x _ _=>x
def Stm.b:Stm->List Stm| .mk _ _ _ _ _ _ _ b _=>b
def Stm.e:Stm->List Stm| .mk _ _ _ _ _ _ _ _ e=>e
abbrev Stm.l (s:Stm) (w:SV):List NV:= [ii s.k,ii s.a,.str s.nm,.str s.ce,ii s.i.k,u64 s.i.n,u8 s.i.o,.str s.i.s,w.vi,ii s.x.k,u64 s.x.n,u8 s.x.o,.str s.x.s,w.vx,ii s.y.k,u64 s.y.n,u8 s.y.o,.str s.y.s,w.vy,w.vb,w.ve]
structure SP (m:NH) (T:D4->Prop) (s:Stm) (w:SV):Prop where
 i:RE m T s.i (s.i.l w.vi)
 x:RE m T s.x (s.x.l w.vx)
 y:RE m T s.y (s.y.l w.vy)
 b:∃B,SS m T w.vb s.b B
 e:∃E,SS m T w.ve s.e E
theorem RS.inv'  {s:Stm} (h:RS m T s c):∃w,c=s.l w/\SP m T s w:=by
 cases s
 obtain ⟨vi,vx,vy,vb,ve,B,E,rfl,h1,h2,h3,h4,h5⟩:=h.inv
 exact ⟨⟨vi,vx,vy,vb,ve⟩,rfl,h1,h2,h3,⟨B,h4⟩,⟨E,h5⟩⟩
abbrev lU (l:List (List Nat×Int)):List (List NV):=l.map fun c=> [.str c.1,ii c.2]
structure Ths (m:NH) (T:D4->Prop) (v:NV) (l:List (List Nat×List Stm)) (C:List (List NV)):Prop where
 sl:Sl m v 2 C
 hT:∀i∈ids v,T i
 len:C.length=l.length
 R:∀(i:Nat) (x:List Nat×List Stm) (c:List NV),l[i]? =some x->C[i]? =some c->∃vb B,c= [.str x.1,vb]/\SS m T vb x.2 B
theorem Ths.stays  (hs:bz T m m') {l:List (List Nat×List Stm)} (h:Ths m T v l C):Ths m' T v l C:=
 ⟨gO h.sl h.hT hs,h.hT,h.len,fun i x c a b=>by obtain ⟨vb,B,e,h⟩:=h.R i x c a b;exact ⟨vb,B,e,h.stays hs⟩⟩
theorem Ths.at  {l:List (List Nat×List Stm)} (h:Ths m T v l C) (i:Nat) (hi:i<l.length):∃vb B id off w c,SS m T vb l[i].2 B/\ix 2 v (.int .i64 (.lit (i:Int)))= .val (.ptr id off)/\m.get id=some (.cells w c)/\am m id/\off+2<=c.length/\(c.drop off).take 2= [.str l[i].1,vb]:=by
 have hc:i<C.length:=by rw[h.len];exact hi
 obtain ⟨vb,B,e,hS⟩:=h.R i _ _ (List.getElem?_eq_getElem hi) (List.getElem?_eq_getElem hc)
 obtain ⟨id,off,w,c,a1,a2,a3,a4,a5⟩:=h.sl.at i hc
 exact ⟨vb,B,id,off,w,c,hS,a1,a2,a3,a4,a5.trans e⟩
structure Prg where
 cs:List (List Nat×Int)
 ts:List (List Nat×List Stm)
 r:List Stm
structure RP (m:NH) (T:D4->Prop) (p:Prg) (vc vt vr:NV):Prop where
 c:Sl m vc 2 (lU p.cs)
 cT:∀i∈ids vc,T i
 t:∃C,Ths m T vt p.ts C
 r:∃C,SS m T vr p.r C
theorem RP.stays  (hs:bz T m m') {p:Prg} {vt vr:NV} (h:RP m T p vc vt vr):RP m' T p vc vt vr:=
 ⟨gO h.c h.cT hs,h.cT,let ⟨C,q⟩:=h.t;⟨C,q.stays hs⟩,let ⟨C,q⟩:=h.r;⟨C,q.stays hs⟩⟩
mutual
def Ex.names:Ex->List (List Nat)
 | .mk k _ _ s ks=>if k=1 then [s] else if k=2 then b9 ks else []
def b9:List Ex->List (List Nat)
 | []=> []
 |x::xs=>x.names++b9 xs
end
mutual
def Stm.all:Stm->List Stm
 | .mk k a nm ce i x y b e=> .mk k a nm ce i x y b e::((if k=6∨k=7 then aQ b else [])++(if k=6 then aQ e else []))
def aQ:List Stm->List Stm
 | []=> []
 |s::l=>s.all++aQ l
end
def Stm.own:Stm->List (List Nat)
 | .mk k _ nm _ i x y _ _=>(if k=0∨k=1∨k=3 then [nm] else [])++((if k=1∨k=2∨k=3 then i.names else [])++((if k=0∨k=2∨k=3∨k=5∨k=6∨k=7 then x.names else [])++(if k=3 then y.names else [])))
def locals (l:List Stm):List (List Nat):=((aQ l).flatMap Stm.own).foldl aJ []
mutual
def Ex.sz:Ex->Nat
 | .mk _ _ _ _ ks=>1+kS ks
def kS:List Ex->Nat
 | []=>0
 |x::xs=>x.sz+kS xs
end
mutual
def Stm.sz:Stm->Nat
 | .mk _ _ _ _ i x y b e=>1+i.sz+x.sz+y.sz+bQ b+bQ e
def bQ:List Stm->Nat
 | []=>0
 |s::l=>s.sz+bQ l
end
theorem Pd (x:Ex):1<=x.sz:=by cases x;rw[Ex.sz];omega
theorem uv (ks:List Ex):ks.length<=kS ks:=by
 induction ks with
 |nil=>simp
 |cons x ks ih=>have:=Pd x;rw[kS,List.length_cons];omega
theorem Mk (x:Stm):1<=x.sz:=by cases x;rw[Stm.sz];omega
theorem ng (ks:List Stm):ks.length<=bQ ks:=by
 induction ks with
 |nil=>simp
 |cons x ks ih=>have:=Mk x;rw[bQ,List.length_cons];omega
theorem c7:∀x:Ex,x.names.length<=x.sz:=by
 apply Ex.ind
 intro k n o s ks ih
 rw[Ex.names,Ex.sz]
 have:∀ks:List Ex,(∀x∈ks,x.names.length<=x.sz)->(b9 ks).length<=kS ks:=by
  intro ks
  induction ks with
  |nil=>intro _;simp[b9]
  |cons x xs ih=>
   intro h
   have h1:=h x (List.mem_cons_self ..)
   have h2:=ih fun y hy=>h y (List.mem_cons_of_mem _ hy)
   rw[b9,kS,List.length_append];omega
 have:=this ks ih
 split
 ·simp
 ·split
  ·omega
  ·simp
theorem rY (a b:List Ex):b9 (a++b)=b9 a++b9 b:=by
 induction a with
 |nil=>rfl
 |cons x a ih=>rw[List.cons_append,b9,b9,ih,List.append_assoc]
theorem oI (a b:List Stm):aQ (a++b)=aQ a++aQ b:=by
 induction a with
 |nil=>rfl
 |cons x a ih=>rw[List.cons_append,aQ,aQ,ih,List.append_assoc]
noncomputable def S0:Nat->List NV->Option NV:=Up 6 [] (.bool true)<|VN
abbrev rT:=tF Tryz.prog S0
abbrev uo (l:List Int):List (List NV):=l.map fun z=> [ii z]
abbrev bK (l:List (List Nat)):List (List NV):=l.map fun s=> [.str s]
def bC {α:Type} [DecidableEq α] (l:List α) (x:α):Int:=match l.findIdx? (fun a=>decide (x=a)) with|some i=>(i:Int)|none=>-1
theorem f0  [DecidableEq α] {l:List α} {x:α} {i:Nat} (hi:i<l.length) (h:x=l[i]) (hn:∀j (hj:j<i),x≠l[j]'(by omega)):bC l x=i:=by
 unfold bC
 rw[List.findIdx?_eq_some_iff_getElem.mpr ⟨hi,by simp[h],fun j hj=>by simpa using hn j hj⟩]
theorem eY  [DecidableEq α] {l:List α} {x:α} (hn:∀j (hj:j<l.length),x≠l[j]):bC l x=-1:=by
 unfold bC
 rw[List.findIdx?_eq_none_iff.mpr]
 intro y hy
 obtain ⟨j,hj,rfl⟩:=List.getElem_of_mem hy
 simpa using hn j hj
theorem fw  [DecidableEq α] {l:List α} {x:α}:0<=bC l x↔x∈l:=by
 constructor
 ·intro h
  rcases Decidable.em (x∈l) with q|q
  ·exact q
  ·rw[eY fun j hj e=>q (by rw[e];exact List.getElem_mem hj)] at h;omega
 ·intro h
  unfold bC
  cases hf:l.findIdx? (fun a=>decide (x=a)) with
  |some i=>dsimp only;omega
  |none=>have:=List.findIdx?_eq_none_iff.mp hf x h;simp at this
theorem pg  [DecidableEq α] {l:List α} {x:α}:bC l x<l.length/\-1<=bC l x:=by
 unfold bC
 cases hf:l.findIdx? (fun a=>decide (x=a)) with
 |some i=>obtain ⟨h,-⟩:=List.findIdx?_eq_some_iff_getElem.mp hf;dsimp only;omega
 |none=>dsimp only;omega
theorem G5  {l:List Int} (hv:Sl m v 1 (uo l)) (hsz:l.length<=1099511627776) (x:Int):rT 148 [v,ii x] m (ii (bC l x)) m:=by
 have h:∃r m',rT 148 [v,ii x] m r m'/\r=ii (bC l x)/\m'=m:=by
  refine WF.ex fun K hK=> ?_
  refine WF.of_wpG (fun _=>rfl) yq (L:= [(.a .e,ii x),(.e,v)]) rfl ?_
  unfold H2
  have hlen:=hv.len
  rw[List.length_map] at hlen
  simp only[go_sem,seval,hlen]
  refine W.loop (fun k d=>∃t i,d=⟨t, [],none,hp [] 0 m⟩/\NT.get D4.e t=some v/\NT.get D4.e.a t=some (ii x)/\NT.get D4.e.a.c t=some (ii l.length)/\NT.get D4.e.a.f t=some (ii (i:Nat))/\i+k=l.length/\∀j (hj:j<i) (hl:j<l.length),x≠l[j]) ?_ l.length _ ⟨_,0,rfl,by exact gq rfl,by exact gq rfl,by exact gq rfl,by exact gq rfl,by omega,by simp⟩
  rintro k d ⟨t,i,rfl,g1,g2,g3,g4,hik,hn⟩
  apply ax
  unfold xG
  change wp _ _ _ _ ⟨ah [] t, [],none,hp [] 0 m⟩ _
  by_cases hi:i<l.length
  ·obtain ⟨id,off,w,c,a1,a2,a3,a4,a5⟩:=hv.at i (by simpa using hi)
   rw[List.getElem_map] at a5
   have c0:=aF a5 0 (by omega)
   rw[Nat.add_zero] at c0
   by_cases he:x=l[i]
   ·have he':decide (x=l[i])=true:=Xd he
    simp (disch:=first|assumption|omega) only[go_sem,seval,g1,g2,g3,g4,a1,a2,c0,he']
    exact hK _ _ ⟨by rw[f0 hi he fun j hj=>hn j hj (by omega)],aa m⟩
   ·have he':decide (x=l[i])=false:=Xc he
    simp (disch:=first|assumption|omega) only[go_sem,seval,g1,g2,g3,g4,a1,a2,c0,he']
    refine ⟨k - 1,by omega,_,i+1,by rfl, ?_, ?_, ?_, ?_,by omega, ?_⟩
    ·simp only[go_sem,seval,g1]
    ·simp only[go_sem,seval,g2]
    ·simp only[go_sem,seval,g3]
    ·simp only[go_sem,seval]<;>rfl
    ·intro j hj hl
     rcases Nat.lt_or_ge j i with h|h
     ·exact hn j h hl
     ·have:j=i:=by omega
      subst this;exact he
  ·simp (disch:=first|assumption|omega) only[go_sem,seval,g1,g2,g3,g4]
   exact hK _ _ ⟨by rw[eY fun j hj=>hn j (by omega) hj],aa m⟩
 obtain ⟨r,m',h1,rfl,rfl⟩:=h
 exact h1
theorem sY  {l:List (List Nat)} (hv:Sl m v 1 (bK l)) (hsz:l.length<=1099511627776) (x:List Nat):rT 89 [v,(.str x)] m (ii (bC l x)) m:=by
 have h:∃r m',rT 89 [v,(.str x)] m r m'/\r=ii (bC l x)/\m'=m:=by
  refine WF.ex fun K hK=> ?_
  refine WF.of_wpG (fun _=>rfl) Er (L:= [(.a .e,(.str x)),(.e,v)]) rfl ?_
  unfold Pc
  have hlen:=hv.len
  rw[List.length_map] at hlen
  simp only[go_sem,seval,hlen]
  refine W.loop (fun k d=>∃t i,d=⟨t, [],none,hp [] 0 m⟩/\NT.get D4.e t=some v/\NT.get D4.e.a t=some ((.str x))/\NT.get D4.e.a.c t=some (ii l.length)/\NT.get D4.e.a.f t=some (ii (i:Nat))/\i+k=l.length/\∀j (hj:j<i) (hl:j<l.length),x≠l[j]) ?_ l.length _ ⟨_,0,rfl,by exact gq rfl,by exact gq rfl,by exact gq rfl,by exact gq rfl,by omega,by simp⟩
  rintro k d ⟨t,i,rfl,g1,g2,g3,g4,hik,hn⟩
  apply ax
  unfold CH
  change wp _ _ _ _ ⟨ah [] t, [],none,hp [] 0 m⟩ _
  by_cases hi:i<l.length
  ·obtain ⟨id,off,w,c,a1,a2,a3,a4,a5⟩:=hv.at i (by simpa using hi)
   rw[List.getElem_map] at a5
   have c0:=aF a5 0 (by omega)
   rw[Nat.add_zero] at c0
   by_cases he:x=l[i]
   ·have he':decide (x=l[i])=true:=Xd he
    simp (disch:=first|assumption|omega) only[go_sem,seval,g1,g2,g3,g4,a1,a2,c0,he']
    exact hK _ _ ⟨by rw[f0 hi he fun j hj=>hn j hj (by omega)],aa m⟩
   ·have he':decide (x=l[i])=false:=Xc he
    simp (disch:=first|assumption|omega) only[go_sem,seval,g1,g2,g3,g4,a1,a2,c0,he']
    refine ⟨k - 1,by omega,_,i+1,by rfl, ?_, ?_, ?_, ?_,by omega, ?_⟩
    ·simp only[go_sem,seval,g1]
    ·simp only[go_sem,seval,g2]
    ·simp only[go_sem,seval,g3]
    ·simp only[go_sem,seval]<;>rfl
    ·intro j hj hl
     rcases Nat.lt_or_ge j i with h|h
     ·exact hn j h hl
     ·have:j=i:=by omega
      subst this;exact he
  ·simp (disch:=first|assumption|omega) only[go_sem,seval,g1,g2,g3,g4]
   exact hK _ _ ⟨by rw[eY fun j hj=>hn j (by omega) hj],aa m⟩
 obtain ⟨r,m',h1,rfl,rfl⟩:=h
 exact h1
theorem uK  {l:List Int} (hv:Sl m v 1 (uo l)) (hsz:l.length<=1099511627776) (x:Int):rT 128 [v,ii x] m (.bool (decide (x∈l))) m:=by
 have h:∃r m',rT 128 [v,ii x] m r m'/\r= .bool (decide (x∈l))/\m'=m:=by
  refine WF.ex fun K hK=> ?_
  refine WF.of_wpG (fun _=>rfl) xH (L:= [(.a .e,ii x),(.e,v)]) rfl ?_
  unfold Ih
  simp only[go_sem,seval,aa,(G5 hv hsz x).wf']
  exact hK _ _ ⟨by simp only[fw],rfl⟩
 obtain ⟨r,m',h1,rfl,rfl⟩:=h
 exact h1
theorem ul  {l:List (List Nat)} (hv:Sl m v 1 (bK l)) (hsz:l.length<=1099511627776) (x:List Nat):rT 135 [v,(.str x)] m (.bool (decide (x∈l))) m:=by
 have h:∃r m',rT 135 [v,(.str x)] m r m'/\r= .bool (decide (x∈l))/\m'=m:=by
  refine WF.ex fun K hK=> ?_
  refine WF.of_wpG (fun _=>rfl) wT (L:= [(.a .e,(.str x)),(.e,v)]) rfl ?_
  unfold HL
  simp only[go_sem,seval,aa,(sY hv hsz x).wf']
  exact hK _ _ ⟨by simp only[fw],rfl⟩
 obtain ⟨r,m',h1,rfl,rfl⟩:=h
 exact h1
theorem U3 (m:NH) {l:List Int} (hv:Sl m v 1 (uo l)) (hsz:l.length<=1099511627776) {k:Int} (hc:c.length=20):∃m',rT 95 [.agg (ii k::c),v] m (.bool (decide (k∈l))) m'/\Chg [] m m':=by
 have h:∃r m',rT 95 [.agg (ii k::c),v] m r m'/\r= .bool (decide (k∈l))/\Chg [] m m':=by
  refine WF.ex fun K hK=> ?_
  refine WF.of_wpG (fun _=>rfl) Fb (L:= [(.a .e,v),(.e,.agg (ii k::c))]) rfl ?_
  unfold OQ
  have hC:Chg [] m (hp [(.n 0,.cells true (ii k::c))] 1 m):=aI rfl
  simp only[go_sem,seval,(uK (hv.chg hC fun _ _=>by simp) hsz k).wf']
  exact hK _ _ ⟨rfl,hC⟩
 obtain ⟨r,m',h1,rfl,h2⟩:=h
 exact ⟨m',h1,h2⟩
def bP (m:NH) (v v':NV):Prop:=∀i∈ids v',i∈ids v∨¬am m i
theorem bP.refl (m:NH) (v:NV):bP m v v:=fun _ h=>Or.inl h
theorem bP.trans  {v' v'':NV} (h:bP m v v') (h':bP m' v' v'') (ho:∀i,am m i->am m' i):bP m v v'':=fun i hi=>by
 rcases h' i hi with q|q
 ·exact h i q
 ·exact Or.inr fun o=>q (ho i o)
theorem bP.chg  {m'':NH} {v':NV} (h:bP m v v') (hC:Chg (ids v) m m') (hC':Chg (ids v') m' m''):Chg (ids v) m m'':=hC.trans hC' fun i hi ho=>(h i hi).elim _root_.id fun q=>W9 ho q
theorem Lk (l:List (List Nat)) (s:List Nat):(aJ l s).length<=l.length+1:=by unfold aJ;split<;>simp
theorem cH (more:List (List Nat)):∀l:List (List Nat),(more.foldl aJ l).length<=l.length+more.length:=by
 induction more with
 |nil=>intro l;simp
 |cons s more ih=>intro l;have:=ih (aJ l s);have:=Lk l s;simp only[List.foldl_cons,List.length_cons];omega
theorem rH (l:List (List Nat)) (s:List Nat):bK (l++ [s])=bK l++ [[.str s]]:=by simp
theorem FZ  {w:NV} {l:List (List Nat)} (hv:aY B m v 1 (bK l)) (hw:Sl m w 1 (bK more)) (hd:∀i∈ids w,i∉ids v) (hB:∀id,am B id->am m id) (hsz:l.length+more.length<=1000000000)
 (g1:NT.get D4.e t=some v) (g2:NT.get D4.e.a.c t=some w) (g3:NT.get D4.e.a.f t=some (ii more.length)) (g4:NT.get D4.e.b.a t=some (ii 0))
 (hQ:∀t' M v',NT.get D4.e t'=some v'->aY B M v' 1 (bK (more.foldl aJ l))->Chg (ids v) m M->bP m v v'->Q (.exit 0) ⟨ah [] t', [],none,M⟩):
 W Tryz.prog S0 none qO.loop ⟨t, [],none,m⟩ Q:=by
 refine W.loop (fun k d=>∃t M i v',d=⟨t, [],none,M⟩/\NT.get D4.e t=some v'/\NT.get D4.e.a.c t=some w/\NT.get D4.e.a.f t=some (ii more.length)/\NT.get D4.e.b.a t=some (ii (i:Nat))/\i+k=more.length/\aY B M v' 1 (bK ((more.take i).foldl aJ l))/\Chg (ids v) m M/\bP m v v') ?_ more.length _ ⟨t,m,0,v,rfl,g1,g2,g3,g4,by omega,hv,(Chg.refl m).weak (by simp),bP.refl m v⟩
 rintro k d ⟨t,M,i,v',rfl,g1,g2,g3,g4,hik,hv,hC,hF⟩
 apply ax
 unfold qO
 change wp _ _ _ _ ⟨ah [] t, [],none,M⟩ _
 by_cases hi:i<more.length
 ·have hwM:=hw.chg hC hd
  obtain ⟨id,off,wr,c,a1,a2,a3,a4,a5⟩:=hwM.at i (by simpa using hi)
  rw[List.getElem_map] at a5
  have c0:=aF a5 0 (by omega)
  rw[Nat.add_zero] at c0
  have hle:=cH (more.take i) l
  rw[List.length_take] at hle
  have hct:=ul hv.sl (by omega) more[i]
  have htk:(more.take (i+1)).foldl aJ l=aJ ((more.take i).foldl aJ l) more[i]:=by
   rw[List.take_add_one,List.getElem?_eq_getElem hi,Option.toList_some,List.foldl_append];rfl
  by_cases hin:more[i]∈(more.take i).foldl aJ l
  ·rw[Xd hin] at hct
   simp (disch:=first|assumption|omega) only[go_sem,seval,g1,g2,g3,g4,a1,a2,c0,hct.wf']
   refine ⟨k - 1,by omega,_,M,i+1,v',by rfl, ?_, ?_, ?_, ?_,by omega, ?_,hC,hF⟩
   ·simp only[go_sem,seval,g1]
   ·simp only[go_sem,seval,g2]
   ·simp only[go_sem,seval,g3]
   ·simp only[go_sem,seval]<;>rfl
   ·rw[htk,show aJ _ _=_ from Xb hin];exact hv
  ·rw[Xc hin] at hct
   rw[←aa M] at hct ⊢
   simp (disch:=first|assumption|omega|(simp only[aG]<;>omega)) only[go_sem,seval,g1,g2,g3,g4,a1,a2,c0,hct.wf']
   have hC1:Chg [] M (hp [(.n 0,.cells true [.str more[i]])] 1 M):=aI rfl
   refine fm (hv.chg hC1 fun _ _=>by simp) bI (bN (by omega)) rfl (fun i hi=>hC1.old (hC.old (hB i hi))) (by simp;omega) (by simp;omega) ?_
   intro v2 M2 hv2 hC2 hF2
   simp (disch:=first|assumption|omega) only[go_sem,seval,g1,g2,g3,g4]
   have hF1:bP M v' v2:=fun i hi=>(hF2 i hi).imp _root_.id fun q o=>q (hC1.old o)
   have hC3:Chg (ids v') M M2:=(hC1.weak (by simp)).trans hC2 fun _ h _=>h
   refine ⟨k - 1,by omega,_,M2,i+1,v2,by rfl, ?_, ?_, ?_, ?_,by omega, ?_,hF.chg hC hC3,hF.trans hF1 fun i hi=>hC.old hi⟩
   ·simp only[go_sem,seval]
   ·simp only[go_sem,seval,g2]
   ·simp only[go_sem,seval,g3]
   ·simp only[go_sem,seval]<;>rfl
   ·rw[htk,show aJ _ _=_ from Xa hin,rH];exact hv2
 ·simp (disch:=first|assumption|omega) only[go_sem,seval,g1,g2,g3,g4]
  have e:(more.take i)=more:=List.take_of_length_le (by omega)
  rw[e] at hv
  refine hQ _ _ v' ?_ hv hC hF
  simp only[go_sem,seval,yj,g1]
theorem zh  {w:NV} {l:List (List Nat)} (hv:aY B m v 1 (bK l)) (hw:Sl m w 1 (bK more)) (hd:∀i∈ids w,i∉ids v) (hB:∀id,am B id->am m id) (hsz:l.length+more.length<=1000000000):
 ∃v' m',rT 101 [v,w] m v' m'/\aY B m' v' 1 (bK (more.foldl aJ l))/\Chg (ids v) m m'/\bP m v v':=by
 refine WF.ex fun K hK=> ?_
 refine WF.of_wpG (fun _=>rfl) ye (L:= [(.a .e,w),(.e,v)]) rfl ?_
 unfold Jw
 have hlen:=hw.len
 rw[List.length_map] at hlen
 simp only[go_sem,seval,hlen,aa]
 refine FZ hv hw hd hB hsz (by exact gq rfl) (by exact gq rfl) (by exact gq rfl) (by exact gq rfl) ?_
 intro t' M v' g1 h1 h2 h3
 simp only[go_sem,seval,g1]
 exact hK _ _ ⟨h1,h2,h3⟩
def WQ (x:Ex):Prop:=∀{m0:NH} {T:D4->Prop} {c:List NV} {B m:NH} {v:NV} {l:List (List Nat)},RE m0 T x c->Chg [] m0 m->aY B m v 1 (bK l)->(∀i,am m0 i->am B i)->(∀i,am B i->am m i)->l.length+x.sz<=1000000000->
 ∃v' m',rT 136 [v,.agg c] m v' m'/\aY B m' v' 1 (bK (l++x.names))/\Chg (ids v) m m'/\bP m v v'
theorem ko  {e:Nat} (hv:aY B m v e C) (h0:∀i,am m0 i->am B i) (hC0:Chg [] m0 m) (hC:Chg (ids v) m m'):Chg [] m0 m':=
 hC0.trans hC fun i hi ho=>W9 (h0 i ho) (hv.new i hi)
theorem jB {ks:List Ex} {i:Nat} (hi:i<ks.length):b9 (ks.take (i+1))=b9 (ks.take i)++ks[i].names:=by
 rw[List.take_add_one,List.getElem?_eq_getElem hi,Option.toList_some,rY,b9,b9,List.append_nil]
theorem vS (ks:List Ex) (i:Nat) (hi:i<ks.length):(b9 (ks.take i)).length+ks[i].sz<=kS ks:=by
 induction ks generalizing i with
 |nil=>simp at hi
 |cons x ks ih=>
  cases i with
  |zero=>simp[b9,kS]
  |succ i=>
   have h1:=c7 x
   have:=ih i (by simpa using hi)
   simp only[List.take_succ_cons,b9,kS,List.length_append,List.getElem_cons_succ];omega
theorem vz  {ks:List Ex} (hS:SE m0 T vk ks C) (ih:∀x∈ks,WQ x) {l:List (List Nat)} (hC0:Chg [] m0 m) (hv:aY B m v 1 (bK l)) (h0:∀i,am m0 i->am B i) (hB:∀i,am B i->am m i)
 (hsz:l.length+kS ks<=1000000000) (g1:NT.get D4.e t=some v) (g2:NT.get D4.e.f.c t=some vk) (g3:NT.get D4.e.f.f t=some (ii ks.length)) (g4:NT.get D4.e.a.a.a t=some (ii 0))
 (hQ:∀t' M v',NT.get D4.e t'=some v'->aY B M v' 1 (bK (l++b9 ks))->Chg (ids v) m M->bP m v v'->Q (.exit 1) ⟨ah [] t', [],none,M⟩):
 W Tryz.prog S0 none qr.loop ⟨t, [],none,m⟩ Q:=by
 refine W.loop (fun k d=>∃t M i v',d=⟨t, [],none,M⟩/\NT.get D4.e t=some v'/\NT.get D4.e.f.c t=some vk/\NT.get D4.e.f.f t=some (ii ks.length)/\NT.get D4.e.a.a.a t=some (ii (i:Nat))/\i+k=ks.length/\aY B M v' 1 (bK (l++b9 (ks.take i)))/\Chg (ids v) m M/\bP m v v') ?_ ks.length _ ⟨t,m,0,v,rfl,g1,g2,g3,g4,by omega,by simpa [b9] using hv,(Chg.refl m).weak (by simp),bP.refl m v⟩
 rintro k d ⟨t,M,i,v',rfl,g1,g2,g3,g4,hik,hv',hC,hF⟩
 apply ax
 unfold qr
 change wp _ _ _ _ ⟨ah [] t, [],none,M⟩ _
 have hCM:=ko hv h0 hC0 hC
 by_cases hi:i<ks.length
 ·have hSM:=(hS.stays (kQ hCM T))
  obtain ⟨cx,hcx,hRx⟩:=hS.at i hi
  obtain ⟨id,off,wr,c,a1,a2,a3,a4,a5⟩:=hSM.sl.at i (by rw[hS.len];exact hi)
  have ecx:C[i]'(by rw[hS.len];exact hi)=cx:=by
   have:=List.getElem?_eq_getElem (l:=C) (i:=i) (by rw[hS.len];exact hi)
   rw[this] at hcx;injection hcx
  rw[ecx] at a5
  obtain ⟨vx,Cx,rfl,-⟩:=hRx.inv'
  have hszi:=vS ks i hi
  rw[←aa M]
  have hl5:(ks[i].l vx).length=5:=rfl
  have hls:=uv ks
  have hl5':(ks[i].l vx).take 5=ks[i].l vx:=rfl
  simp (disch:=first|assumption|omega|(simp only[aG]<;>omega)) only[go_sem,seval,g1,g2,g3,g4,a1,a2,a5,hl5,hl5']
  generalize hM1:hp _ 1 M=M1
  have hC1:Chg [] M M1:=aR hM1 rfl
  refine WF.use (ih ks[i] (List.getElem_mem hi) hRx (hCM.tr hC1) (hv'.chg hC1 fun _ _=>by simp) h0 (fun i hi=>hC1.old (hC.old (hB i hi))) (by rw[List.length_append];omega)) ?_
  rintro v2 M2 ⟨hv2,hC2,hF2⟩
  simp (disch:=first|assumption|omega) only[go_sem,seval,g1,g2,g3,g4]
  have hC3:Chg (ids v') M M2:=(hC1.weak (by simp)).trans hC2 fun _ h _=>h
  refine ⟨k - 1,by omega,_,M2,i+1,v2,by rfl, ?_, ?_, ?_, ?_,by omega, ?_,hF.chg hC hC3,hF.trans (fun i hi=>(hF2 i hi).imp _root_.id fun q o=>q (hC1.old o)) fun i hi=>hC.old hi⟩
  ·simp only[go_sem,seval]
  ·simp only[go_sem,seval,g2]
  ·simp only[go_sem,seval,g3]
  ·simp only[go_sem,seval]<;>rfl
  ·rw[jB hi,←List.append_assoc];exact hv2
 ·simp (disch:=first|assumption|omega) only[go_sem,seval,g1,g2,g3,g4]
  have e:(ks.take i)=ks:=List.take_of_length_le (by omega)
  rw[e] at hv'
  refine hQ _ _ v' ?_ hv' hC hF
  simp only[go_sem,seval,yj,g1]
theorem JH:∀x,WQ x:=by
 apply Ex.ind
 intro kd n o s ks ih m0 T c B m v l hR hC0 hv h0 hB hsz
 obtain ⟨vk,C,rfl,hS⟩:=hR.inv
 rw[Ex.sz] at hsz
 refine WF.ex fun K hK=> ?_
 refine WF.of_wpG (fun _=>rfl) xA (L:= [(.a .e,.agg [ii kd,u64 n,u8 o,.str s,vk]),(.e,v)]) rfl ?_
 unfold Jn
 have hC1:Chg [] m (hp [(.n 0,.cells true [ii kd,u64 n,u8 o,.str s,vk])] 1 m):=aI rfl
 have hlen:=(hS.stays (kQ (hC0.tr hC1) T)).sl.len
 rw[hS.len] at hlen
 by_cases h1:kd=1
 ·subst h1
  simp (disch:=first|assumption|omega|(simp only[aG]<;>omega)) only[go_sem,seval]
  have hC2:Chg [] m (hp [(.n 1,.cells true [.str s]),(.n 0,.cells true [ii 1,u64 n,u8 o,.str s,vk])] 2 m):=aI rfl
  refine fm (hv.chg hC2 fun _ _=>by simp) bI (bN (by omega)) rfl (fun i hi=>hC2.old (hB i hi)) (by simp;omega) (by simp;omega) ?_
  intro v2 M2 hv2 hC3 hF2
  simp only[go_sem,seval]
  refine hK _ _ ⟨?_,(hC2.weak (by simp)).trans hC3 fun _ h _=>h,fun i hi=>(hF2 i hi).imp _root_.id fun q o=>q (hC2.old o)⟩
  rw[Ex.names,Xb rfl,rH];exact hv2
 ·by_cases h2:kd=2
  ·subst h2
   simp only[go_sem,seval,hlen]
   refine vz hS ih (hC0.tr hC1) (hv.chg hC1 fun _ _=>by simp) h0 (fun i hi=>hC1.old (hB i hi)) (by omega) (by exact gq rfl) (by exact gq rfl) (by exact gq rfl) (by exact gq rfl) ?_
   intro t' M v' g1 q1 q2 q3
   simp only[go_sem,seval,g1]
   refine hK _ _ ⟨?_,(hC1.weak (by simp)).trans q2 fun _ h _=>h,fun i hi=>(q3 i hi).imp _root_.id fun q o=>q (hC1.old o)⟩
   rw[Ex.names,Xa (by omega),Xb rfl];exact q1
  ·simp (disch:=first|assumption|omega) only[go_sem,seval]
   refine hK _ _ ⟨?_,hC1.weak (by simp),bP.refl m v⟩
   rw[Ex.names,Xa h1,Xa h2,List.append_nil];exact hv.chg hC1 fun _ _=>by simp
theorem z6 (s:Stm):s.own=(if s.k=0∨s.k=1∨s.k=3 then [s.nm] else [])++((if s.k=1∨s.k=2∨s.k=3 then s.i.names else [])++((if s.k=0∨s.k=2∨s.k=3∨s.k=5∨s.k=6∨s.k=7 then s.x.names else [])++(if s.k=3 then s.y.names else []))):=by cases s;rfl
theorem yh (s:Stm):s.sz=1+s.i.sz+s.x.sz+s.y.sz+bQ s.b+bQ s.e:=by cases s;rfl
theorem G4 (l:List Int):(uo l).flatten=l.map ii:=by
 induction l with
 |nil=>rfl
 |cons a l ih=>show [ii a]++(uo l).flatten=_;rw[ih];rfl
theorem vQ (M:NH) {k:Int} (l:List Int) {n:Nat} (hc:c.length=20) (hn:n=l.length) (hl:l.length<=10):∃m',rT 95 [.agg (ii k::c),.slc M.next 0 n 1 n] (M.add (.cells true (l.map ii))) (.bool (decide (k∈l))) m'/\Chg [] M m':=by
 subst hn
 have h:Sl (M.add (.cells true (l.map ii))) (.slc M.next 0 l.length 1 l.length) 1 (uo l):=
  (aY.of (B:=M) (by simp) (fun q=>Nat.lt_irrefl _ q) (NH.get_add_same M _) (jY M _) (G4 l).symm (by simp) (by simp)).sl
 obtain ⟨m',h1,h2⟩:=U3 _ h (by omega) (k:=k) hc
 exact ⟨m',h1,(Chg.add M _).tr h2⟩
theorem CD  {s:Stm} (hR:RS m0 T s c) (hC0:Chg [] m0 m) (hsz:s.sz<=100000000):
 ∃v m',rT 102 [.agg c] m v m'/\aY m m' v 1 (bK s.own)/\Chg [] m m':=by
 obtain ⟨w,rfl,hP⟩:=hR.inv'
 refine WF.ex fun K hK=> ?_
 refine WF.of_wpG (fun _=>rfl) xd (L:= [(.e,.agg (s.l w))]) rfl ?_
 unfold J8
 rw[yh] at hsz
 have hni:=c7 s.i
 have hnx:=c7 s.x
 have hny:=c7 s.y
 generalize hm1:hp [(.n 0,.cells true (s.l w))] 1 m=m1
 have hC1:Chg [] m m1:=aR hm1 rfl
 have hC01:Chg [] m0 m1:=hC0.tr hC1
 have hg0:m1.get (na m 0)=some (.cells true (s.l w)):=bu hm1
 have ho0:am m1 (na m 0):=bt hm1 (by omega)
 let Φ:List (List Nat)->Dyn->Prop:=fun l d=>∃t M v,d=⟨t, [],none,M⟩/\NT.get D4.e.a t=some (.ptr (na m 0) 0)/\NT.get D4.e.c t=some v/\aY m1 M v 1 (bK l)/\Chg [] m1 M
 have hl21:(s.l w).length=21:=rfl
 have hl21':(s.l w).take 21=s.l w:=rfl
 have hins:∀{M M':NH} {v:NV} {l:List (List Nat)} {x:Ex} {c:List NV},Chg [] m1 M->Chg [] M M'->aY m1 M v 1 (bK l)->RE m0 T x c->l.length+x.sz<=1000000000->∃v' M'',rT 136 [v,.agg c] M' v' M''/\aY m1 M'' v' 1 (bK (l++x.names))/\Chg [] m1 M'':=by
  intro M M' v l x c h1 h2 h3 h4 h5
  have hC':=h1.tr h2
  obtain ⟨v',M'',q1,q2,q3,-⟩:=JH x h4 (hC01.tr hC') (h3.chg h2 fun _ _=>by simp) (fun i hi=>hC01.old hi) (fun i hi=>hC'.old hi) h5
  exact ⟨v',M'',q1,q2,ko h3 (fun i hi=>hi) h1 ((h2.weak (by simp)).trans q3 fun _ h _=>h)⟩
 refine iC (fun d=>d=⟨ah [(.a .e,.ptr (na m 0) 0),(.b .e,.nils),(.e,.agg (s.l w))] .leaf, [],none,m1⟩) (fun R hR=> ?_) ?_
 ·simp only[go_sem,seval,hm1]
  exact hR _ rfl
 rintro d rfl
 refine iC (Φ []) (fun R hR=> ?_) ?_
 ·simp only[go_sem,seval]
  exact hR _ ⟨_,_,.nils,rfl,by exact gq rfl,by exact gq rfl,aY.nil,Chg.refl m1⟩
 rintro d ⟨t,M,v,rfl,g1,g2,hv,hC⟩
 change wp _ _ _ _ ⟨ah [] t, [],none,M⟩ _
 refine iC (Φ (if s.k=0∨s.k=1∨s.k=3 then [s.nm] else [])) (fun R hR=> ?_) ?_
 ·have hgM:=(hC.get ho0 (by simp)).trans hg0
  simp (disch:=first|assumption|omega|(simp only[aG]<;>omega)) only[go_sem,seval,g1,g2,hgM,hl21,hl21']
  refine WF.use1H (vQ M [0,1,3] rfl rfl (by decide)) ?_
  intro M' hC'
  have hgM':=(hC'.get (hC.old ho0) (by simp)).trans hgM
  have hoM':=hC'.old (hC.old ho0)
  by_cases hk:s.k∈ [0,1,3]
  ·rw[Xd hk]
   simp (disch:=first|assumption|omega|(simp only[aG]<;>omega)) only[go_sem,seval,g1,g2,hgM',hoM']
   have hC2:Chg [] M' (hp [(.n 0,.cells true [.str s.nm])] 1 M'):=aI rfl
   have hC3:=hC'.tr hC2
   refine fm (C:= []) (B:=m1) (hv.chg hC3 fun _ _=>by simp) bI (bN (by omega)) rfl (fun i hi=>hC3.old (hC.old hi)) (by simp) (by simp) ?_
   intro v2 M2 hv2 hC4 hF
   simp only[go_sem,seval,g1,g2]
   refine hR _ ⟨_,_,v2,rfl,by exact gq g1,by exact gq rfl, ?_, ?_⟩
   ·rw[Xb (by simpa using hk)];exact hv2
   ·exact ko hv (fun i hi=>hi) hC ((hC3.weak (by simp)).trans hC4 fun _ h _=>h)
  ·rw[Xc hk]
   simp only[go_sem,seval,g1,g2,aa]
   refine hR _ ⟨_,_,v,rfl,by exact gq g1,by exact gq g2, ?_,hC.tr hC'⟩
   rw[Xa (by simpa using hk)];exact hv.chg hC' fun _ _=>by simp
 clear g1 g2 hv hC
 rintro d ⟨t,M,v,rfl,g1,g2,hv,hC⟩
 change wp _ _ _ _ ⟨ah [] t, [],none,M⟩ _
 generalize hL1:(if s.k=0∨s.k=1∨s.k=3 then [s.nm] else [])=L1 at hv
 have hn1:L1.length<=1:=by rw[←hL1];split<;>simp
 refine iC (Φ (L1++if s.k=1∨s.k=2∨s.k=3 then s.i.names else [])) (fun R hR=> ?_) ?_
 ·have hgM:=(hC.get ho0 (by simp)).trans hg0
  simp (disch:=first|assumption|omega|(simp only[aG]<;>omega)) only[go_sem,seval,g1,g2,hgM,hl21,hl21']
  refine WF.use1H (vQ M [1,2,3] rfl rfl (by decide)) ?_
  intro M' hC'
  have hgM':=(hC'.get (hC.old ho0) (by simp)).trans hgM
  have hoM':=hC'.old (hC.old ho0)
  by_cases hk:s.k∈ [1,2,3]
  ·rw[Xd hk]
   simp only[go_sem,seval,g1,g2,hgM',hoM',aa]
   refine WF.use (hins hC hC' hv hP.i (by omega)) ?_
   rintro v2 M2 ⟨hv2,hC2⟩
   simp only[go_sem,seval,g1,g2]
   refine hR _ ⟨_,_,v2,rfl,by exact gq g1,by exact gq rfl, ?_,hC2⟩
   rw[Xb (by simpa using hk)];exact hv2
  ·rw[Xc hk]
   simp only[go_sem,seval,g1,g2,aa]
   refine hR _ ⟨_,_,v,rfl,by exact gq g1,by exact gq g2, ?_,hC.tr hC'⟩
   rw[Xa (by simpa using hk),List.append_nil];exact hv.chg hC' fun _ _=>by simp
 clear g1 g2 hv hC
 rintro d ⟨t,M,v,rfl,g1,g2,hv,hC⟩
 change wp _ _ _ _ ⟨ah [] t, [],none,M⟩ _
 generalize hL2:(L1++if s.k=1∨s.k=2∨s.k=3 then s.i.names else [])=L2 at hv
 have hn2:L2.length<=1+s.i.sz:=by rw[←hL2,List.length_append];split<;>first|omega|(rw[List.length_nil];omega)
 refine iC (Φ (L2++if s.k=0∨s.k=2∨s.k=3∨s.k=5∨s.k=6∨s.k=7 then s.x.names else [])) (fun R hR=> ?_) ?_
 ·have hgM:=(hC.get ho0 (by simp)).trans hg0
  simp (disch:=first|assumption|omega|(simp only[aG]<;>omega)) only[go_sem,seval,g1,g2,hgM,hl21,hl21']
  refine WF.use1H (vQ M [0,2,3,5,6,7] rfl rfl (by decide)) ?_
  intro M' hC'
  have hgM':=(hC'.get (hC.old ho0) (by simp)).trans hgM
  have hoM':=hC'.old (hC.old ho0)
  by_cases hk:s.k∈ [0,2,3,5,6,7]
  ·rw[Xd hk]
   simp only[go_sem,seval,g1,g2,hgM',hoM',aa]
   refine WF.use (hins hC hC' hv hP.x (by omega)) ?_
   rintro v2 M2 ⟨hv2,hC2⟩
   simp only[go_sem,seval,g1,g2]
   refine hR _ ⟨_,_,v2,rfl,by exact gq g1,by exact gq rfl, ?_,hC2⟩
   rw[Xb (by simpa using hk)];exact hv2
  ·rw[Xc hk]
   simp only[go_sem,seval,g1,g2,aa]
   refine hR _ ⟨_,_,v,rfl,by exact gq g1,by exact gq g2, ?_,hC.tr hC'⟩
   rw[Xa (by simpa using hk),List.append_nil];exact hv.chg hC' fun _ _=>by simp
 clear g1 g2 hv hC
 rintro d ⟨t,M,v,rfl,g1,g2,hv,hC⟩
 change wp _ _ _ _ ⟨ah [] t, [],none,M⟩ _
 generalize hL3:(L2++if s.k=0∨s.k=2∨s.k=3∨s.k=5∨s.k=6∨s.k=7 then s.x.names else [])=L3 at hv
 have hn3:L3.length<=1+s.i.sz+s.x.sz:=by rw[←hL3,List.length_append];split<;>first|omega|(rw[List.length_nil];omega)
 have hown:s.own=L3++if s.k=3 then s.y.names else []:=by rw[z6,←hL3,←hL2,←hL1];simp only[List.append_assoc]
 have hgM:=(hC.get ho0 (by simp)).trans hg0
 have fin:∀{v M},aY m1 M v 1 (bK s.own)->Chg [] m1 M->aY m M v 1 (bK s.own)/\Chg [] m M:=fun h1 h2=>⟨h1.back fun i hi=>hC1.old hi,hC1.tr h2⟩
 by_cases hk:s.k=3
 ·rw[Xb hk] at hown
  have hd:decide (s.k=3)=true:=Xd hk
  simp only[go_sem,seval,g1,g2,hgM,hl21,hl21',hd]
  refine WF.use (hins hC (Chg.refl M) hv hP.y (by omega)) ?_
  rintro v2 M2 ⟨hv2,hC2⟩
  simp only[go_sem,seval,g1,g2]
  rw[←hown] at hv2
  exact hK _ _ (fin hv2 hC2)
 ·rw[Xa hk,List.append_nil] at hown
  have hd:decide (s.k=3)=false:=Xc hk
  simp only[go_sem,seval,g1,g2,hgM,hl21,hl21',hd]
  rw[←hown] at hv
  exact hK _ _ (fin hv hC)
def aX {σ:Type} (f:σ->Stm->σ×Bool):List Stm->σ->σ×Bool
 | [],s=>(s,true)
 |x::l,s=>if (f s x).2 then aX f l (f s x).1 else f s x
theorem eq {σ:Type} (f:σ->Stm->σ×Bool) (a b:List Stm):∀s,aX f (a++b) s=if (aX f a s).2 then aX f b (aX f a s).1 else aX f a s:=by
 induction a with
 |nil=>intro s;simp[aX]
 |cons x a ih=>
  intro s
  simp only[List.cons_append,aX]
  split
  ·exact ih _
  ·rename_i h;simp[h]
def Al {σ:Type} (A:σ->Stm->Prop) (f:σ->Stm->σ×Bool):List Stm->σ->Prop
 | [],_=>True
 |x::l,s=>A s x/\((f s x).2=true->Al A f l (f s x).1)
theorem n6 {σ:Type} {A:σ->Stm->Prop} {f:σ->Stm->σ×Bool} (a b:List Stm):∀s,Al A f (a++b) s↔Al A f a s/\((aX f a s).2=true->Al A f b (aX f a s).1):=by
 induction a with
 |nil=>intro s;simp[Al,aX]
 |cons x a ih=>
  intro s
  simp only[List.cons_append,Al,aX,ih]
  constructor
  ·rintro ⟨h1,h2⟩
   refine ⟨⟨h1,fun h=>(h2 h).1⟩,fun h=> ?_⟩
   cases hb:(f s x).2 with
   |true=>rw[hb] at h;simp only[if_true] at h ⊢;exact (h2 hb).2 h
   |false=>rw[hb] at h;simp[hb] at h
  ·rintro ⟨⟨h1,h2⟩,h3⟩
   refine ⟨h1,fun h=>⟨h2 h,fun h4=> ?_⟩⟩
   rw[h] at h3;simp only[if_true] at h3;exact h3 h4
structure Ylds {σ:Type} (q:D4) (m0:NH) (T:D4->Prop) (A:σ->Stm->Prop) (f:σ->Stm->σ×Bool) (Φ:σ->List D4->NH->Prop):Prop where
 base:∀{s F N},Φ s F N->Chg [] m0 N
 old:∀{s F N},Φ s F N->∀i∈F,am N i
 grow:∀{s F N N'},Φ s F N->Chg [] N N'->Φ s F N'
 y:∀{s F N x c},Φ s F N->RS m0 T x c->A s x->∃N',yY Tryz.prog S0 q [.agg c] N (.bool (f s x).2) N'/\∃F',Φ (f s x).1 F' N'/\Chg F N N'/\∀i∈F',i∈F∨¬am N i
section
variable {σ:Type} {q:D4} {m0:NH} {T:D4->Prop} {A:σ->Stm->Prop} {f:σ->Stm->σ×Bool} {Φ:σ->List D4->NH->Prop}
def oZ (q:D4) (m0:NH) (T:D4->Prop) (A:σ->Stm->Prop) (f:σ->Stm->σ×Bool) (Φ:σ->List D4->NH->Prop) (l:List Stm):Prop:=
 ∀{v C N s F},SS m0 T v l C->Φ s F N->Al A f (aQ l) s->bQ l<=1000000000->
  ∃N',rT 134 [v,.yld q] N (.bool (aX f (aQ l) s).2) N'/\∃F',Φ (aX f (aQ l) s).1 F' N'/\Chg F N N'/\∀i∈F',i∈F∨¬am N i
theorem ri (x:Stm):x.all=x::((if x.k=6∨x.k=7 then aQ x.b else [])++(if x.k=6 then aQ x.e else [])):=by cases x;rfl
theorem tc {l:List Stm} {i:Nat} (hi:i<l.length):aQ (l.take (i+1))=aQ (l.take i)++l[i].all:=by
 rw[List.take_add_one,List.getElem?_eq_getElem hi,Option.toList_some,oI,aQ,aQ,List.append_nil]
theorem qV {l:List Stm} {x y:Stm} (hx:x∈l) (hy:y∈x.all):y∈aQ l:=by
 induction l with
 |nil=>simp at hx
 |cons a l ih=>
  rw[aQ,List.mem_append]
  rcases List.mem_cons.mp hx with rfl|hx
  ·exact Or.inl hy
  ·exact Or.inr (ih hx)
theorem Eu {l:List Stm} {x:Stm} (hx:x∈l):x.sz<=bQ l:=by
 induction l with
 |nil=>simp at hx
 |cons a l ih=>
  rw[bQ]
  rcases List.mem_cons.mp hx with rfl|hx
  ·omega
  ·have:=ih hx;omega
theorem zy (hy:Ylds q m0 T A f Φ) {x:Stm} {w:SV} (hR:RS m0 T x (x.l w)) (hP:SP m0 T x w) (hb:oZ q m0 T A f Φ x.b) (he:oZ q m0 T A f Φ x.e) {s:σ} (hA:Al A f x.all s) (hsz:x.sz<=1000000000) {F:List D4} (hΦ:Φ s F N) {i n:Nat} {off:Nat} {wr:Bool} {C:List NV} (hi:i<n) (hn:n<=1000000000) (a1:ix 21 v (ii i)= .val (.ptr id off)) (a2:N.get id=some (.cells wr C)) (a3:am N id) (a4:off+21<=C.length) (a5:(C.drop off).take 21=x.l w)
 (g1:NT.get D4.e.a t=some (.yld q)) (g2:NT.get D4.e.a.c t=some v) (g3:NT.get D4.e.a.f t=some (ii n)) (g4:NT.get D4.e.b.a t=some (ii i))
 (hN:(aX f x.all s).2=true->∀t' N' F',Φ (aX f x.all s).1 F' N'->Chg F N N'->(∀i∈F',i∈F∨¬am N i)->NT.get D4.e.a t'=some (.yld q)->NT.get D4.e.a.c t'=some v->NT.get D4.e.a.f t'=some (ii n)->NT.get D4.e.b.a t'=some (ii (i+1:Nat))->Q .norm ⟨t', [],none,N'⟩)
 (hF:(aX f x.all s).2=false->∀t' N' F',Φ (aX f x.all s).1 F' N'->Chg F N N'->(∀i∈F',i∈F∨¬am N i)->NT.get D4.e.f t'=some (.bool false)->Q .ret ⟨ah [] t', [],none,N'⟩):
 wp Tryz.prog S0 none mN ⟨ah [] t, [],none,N⟩ Q:=by
 unfold mN
 have hl21:(x.l w).length=21:=rfl
 have hl21':(x.l w).take 21=x.l w:=rfl
 rw[←aa N]
 simp (disch:=first|assumption|omega|(simp only[aG]<;>omega)) only[go_sem,seval,g1,g2,g3,g4,a1,a2,a5,hl21,hl21']
 generalize hM1:hp _ 1 N=M1
 have hC1:Chg [] N M1:=aR hM1 rfl
 have hg0:M1.get (na N 0)=some (.cells true (x.l w)):=bu hM1
 have ho0:am M1 (na N 0):=bt hM1 (by omega)
 have hal:=ri x
 rw[hal] at hA
 refine WY.use1 (hy.y (hy.grow hΦ hC1) hR hA.1) ?_
 rintro M2 ⟨F2,hΦ2,hC2,hF2⟩
 have hn0:na N 0∉F:=fun h=>(hy.old hΦ _ h).ne 0 rfl
 have hg2:=(hC2.get ho0 hn0).trans hg0
 have ho2:=hC2.old ho0
 have hC02:Chg F N M2:=(hC1.weak (by simp)).trans hC2 fun _ h _=>h
 have hN2:∀i∈F2,i∈F∨¬am N i:=fun i hi=>(hF2 i hi).imp _root_.id fun q o=>q (hC1.old o)
 cases hb1:(f s x).2 with
 |false=>
  have hfo:aX f x.all s=f s x:=by rw[hal,aX,hb1];rfl
  simp only[go_sem,seval,g1,g2,g3,g4,hg2,ho2]
  rw[hfo] at hF
  exact hF hb1 _ M2 F2 hΦ2 hC02 hN2 (by simp only[go_sem,seval])
 |true=>
  have hfo:aX f x.all s=aX f ((if x.k=6∨x.k=7 then aQ x.b else [])++(if x.k=6 then aQ x.e else [])) (f s x).1:=by rw[hal,aX,hb1];rfl
  rw[hfo] at hN hF
  simp (disch:=first|assumption|omega|(simp only[aG]<;>omega)) only[go_sem,seval,g1,g2,g3,g4,hg2,ho2,hl21,hl21']
  refine WF.use1 (vQ M2 [6,7] rfl rfl (by decide)) ?_
  intro M3 hC3
  have hΦ3:=hy.grow hΦ2 hC3
  have hg3:=(hC3.get ho2 (by simp)).trans hg2
  have ho3:=hC3.old ho2
  have hC03:Chg F N M3:=hC02.tr hC3
  have hrb:=yh x
  by_cases hk:x.k=6∨x.k=7
  ·rw[Xd (by simpa using hk:x.k∈ [6,7])]
   rw[Xb hk] at hN hF hal
   obtain ⟨B,hB⟩:=hP.b
   obtain ⟨E,hE⟩:=hP.e
   have hA2:=hA.2 hb1
   rw[Xb hk,n6] at hA2
   have hAb:=hA2.1
   simp only[go_sem,seval,g1,g2,g3,g4,hg3,ho3]
   refine WF.use1 (hb hB hΦ3 hAb (by omega)) ?_
   rintro M4 ⟨F4,hΦ4,hC4,hF4⟩
   have hn3:na N 0∉F2:=fun h=>(hN2 _ h).elim hn0 fun q=>by
    rcases hF2 _ h with h|h
    ·exact hn0 h
    ·exact h ho0
   have hg4:=(hC4.get ho3 hn3).trans hg3
   have ho4:=hC4.old ho3
   have hC04:Chg F N M4:=hC03.trans hC4 fun i hi ho=>(hN2 i hi).elim _root_.id fun q=>W9 ho q
   have hN4:∀i∈F4,i∈F∨¬am N i:=fun i hi=>(hF4 i hi).elim (hN2 i) fun q=>Or.inr fun o=>q (hC03.old o)
   rw[eq] at hN hF
   cases hb2:(aX f (aQ x.b) (f s x).1).2 with
   |false=>
    rw[hb2] at hF
    simp only[go_sem,seval,g1,g2,g3,g4,hg4,ho4]
    refine hF hb2 _ M4 F4 hΦ4 hC04 hN4 (by simp only[go_sem,seval])
   |true=>
    rw[hb2,Xb rfl] at hN hF
    by_cases h6:x.k=6
    ·rw[Xb h6] at hN hF hal
     have hAe:=hA2.2 hb2
     rw[Xb h6] at hAe
     have hd:decide (x.k=6)=true:=Xd h6
     simp only[go_sem,seval,g1,g2,g3,g4,hg4,ho4,hd]
     refine WF.use1 (he hE hΦ4 hAe (by omega)) ?_
     rintro M5 ⟨F5,hΦ5,hC5,hF5⟩
     have hC05:Chg F N M5:=hC04.trans hC5 fun i hi ho=>(hN4 i hi).elim _root_.id fun q=>W9 ho q
     have hN5:∀i∈F5,i∈F∨¬am N i:=fun i hi=>(hF5 i hi).elim (hN4 i) fun q=>Or.inr fun o=>q (hC04.old o)
     cases hb3:(aX f (aQ x.e) (aX f (aQ x.b) (f s x).1).1).2 with
     |false=>
      simp only[go_sem,seval,g1,g2,g3,g4]
      refine hF hb3 _ M5 F5 hΦ5 hC05 hN5 (by simp only[go_sem,seval])
     |true=>
      simp (disch:=first|assumption|omega) only[go_sem,seval,g1,g2,g3,g4]
      refine hN hb3 _ M5 F5 hΦ5 hC05 hN5 (by simp only[go_sem,seval,g1]) (by simp only[go_sem,seval,g2]) (by simp only[go_sem,seval,g3]) (by simp only[go_sem,seval]<;>rfl)
    ·rw[Xa h6] at hN hF
     have hd:decide (x.k=6)=false:=Xc h6
     simp (disch:=first|assumption|omega) only[go_sem,seval,g1,g2,g3,g4,hg4,ho4,hd]
     refine hN rfl _ M4 F4 hΦ4 hC04 hN4 (by simp only[go_sem,seval,g1]) (by simp only[go_sem,seval,g2]) (by simp only[go_sem,seval,g3]) (by simp only[go_sem,seval]<;>rfl)
  ·rw[Xc (by simpa using hk:x.k∉ [6,7])]
   have h6:x.k≠6:=fun e=>hk (Or.inl e)
   rw[Xa hk,Xa h6] at hN hF
   have hd:decide (x.k=6)=false:=Xc h6
   simp (disch:=first|assumption|omega) only[go_sem,seval,g1,g2,g3,g4,hg3,ho3,hd]
   refine hN rfl _ M3 F2 hΦ3 hC03 hN2 (by simp only[go_sem,seval,g1]) (by simp only[go_sem,seval,g2]) (by simp only[go_sem,seval,g3]) (by simp only[go_sem,seval]<;>rfl)
end
section
variable {σ:Type} {q:D4} {m0:NH} {T:D4->Prop} {A:σ->Stm->Prop} {f:σ->Stm->σ×Bool} {Φ:σ->List D4->NH->Prop}
theorem qx (l:List Stm) (i:Nat) (hi:i<l.length):aQ l=aQ (l.take i)++(l[i].all++aQ (l.drop (i+1))):=by
 conv=>lhs;rw[←List.take_append_drop i l,List.drop_eq_getElem_cons hi]
 rw[oI,aQ]
theorem nE (hy:Ylds q m0 T A f Φ) {l:List Stm} (ih:∀x∈l,oZ q m0 T A f Φ x.b/\oZ q m0 T A f Φ x.e):oZ q m0 T A f Φ l:=by
 intro v C N s F hS hΦ hA hsz
 refine WF.ex1 fun K hK=> ?_
 refine WF.of_wpG (fun _=>rfl) wl (L:= [(.a .e,.yld q),(.e,v)]) rfl ?_
 unfold I3
 have hlen:=(hS.stays (kQ (hy.base hΦ) T)).sl.len
 rw[hS.len] at hlen
 have hll:=ng l
 simp only[go_sem,seval,hlen,aa]
 refine W.loop (fun k d=>∃t M i F',d=⟨t, [],none,M⟩/\NT.get D4.e.a t=some (.yld q)/\NT.get D4.e.a.c t=some v/\NT.get D4.e.a.f t=some (ii l.length)/\NT.get D4.e.b.a t=some (ii (i:Nat))/\i+k=l.length/\(aX f (aQ (l.take i)) s).2=true/\Φ (aX f (aQ (l.take i)) s).1 F' M/\Chg F N M/\(∀i∈F',i∈F∨¬am N i)) ?_ l.length _ ⟨_,N,0,F,rfl,by exact gq rfl,by exact gq rfl,by exact gq rfl,by exact gq rfl,by omega,rfl,hΦ,(Chg.refl N).weak (by simp),fun _ h=>Or.inl h⟩
 rintro k d ⟨t,M,i,F',rfl,g1,g2,g3,g4,hik,hb,hΦ',hC,hF⟩
 apply ax
 change wp _ _ _ _ ⟨ah [] t, [],none,M⟩ _
 by_cases hi:i<l.length
 ·have hCM:=hy.base hΦ'
  have hSM:=hS.stays (kQ hCM T)
  obtain ⟨cx,hcx,hRx⟩:=hS.at i hi
  obtain ⟨id,off,wr,c,a1,a2,a3,a4,a5⟩:=hSM.sl.at i (by rw[hS.len];exact hi)
  have ecx:C[i]'(by rw[hS.len];exact hi)=cx:=by
   have:=List.getElem?_eq_getElem (l:=C) (i:=i) (by rw[hS.len];exact hi)
   rw[this] at hcx;injection hcx
  rw[ecx] at a5
  obtain ⟨w,rfl,hP⟩:=hRx.inv'
  have hsx:=Eu (List.getElem_mem hi)
  obtain ⟨h1,h2⟩:=ih _ (List.getElem_mem hi)
  have hst:aX f (aQ (l.take (i+1))) s=aX f l[i].all (aX f (aQ (l.take i)) s).1:=by rw[tc hi,eq,hb,Xb rfl]
  rw[qx l i hi,n6,n6] at hA
  have hAi:=(hA.2 hb).1
  refine zy hy hRx hP h1 h2 hAi (by omega) hΦ' (n:=l.length) hi (by omega) a1 a2 a3 a4 a5 g1 g2 g3 g4 ?_ ?_
  ·intro hb2 t' N' F2 hΦ2 hC2 hF2 g1 g2 g3 g4
   refine ⟨k - 1,by omega,t',N',i+1,F2,rfl,g1,g2,g3,g4,by omega, ?_, ?_,hC.trans hC2 fun j hj ho=>(hF j hj).elim _root_.id fun q=>W9 ho q,fun j hj=>(hF2 j hj).elim (hF j) fun q=>Or.inr fun o=>q (hC.old o)⟩
   ·rw[hst];exact hb2
   ·rw[hst];exact hΦ2
  ·intro hb2 t' N' F2 hΦ2 hC2 hF2 g1
   have hfin:aX f (aQ l) s=aX f l[i].all (aX f (aQ (l.take i)) s).1:=by
    rw[qx l i hi,eq,hb,Xb rfl,eq,hb2];rfl
   simp only[go_sem,seval,g1]
   rw[hfin] at hK
   rw[←hb2]
   exact hK _ ⟨F2,hΦ2,hC.trans hC2 fun j hj ho=>(hF j hj).elim _root_.id fun q=>W9 ho q,fun j hj=>(hF2 j hj).elim (hF j) fun q=>Or.inr fun o=>q (hC.old o)⟩
 ·have e:(l.take i)=l:=List.take_of_length_le (by omega)
  rw[e] at hb hΦ'
  rw[hb] at hK
  unfold mN
  simp (disch:=first|assumption|omega) only[go_sem,seval,g1,g2,g3,g4]
  exact hK _ ⟨F',hΦ',hC,hF⟩
theorem J2 (hy:Ylds q m0 T A f Φ):∀l:List Stm,oZ q m0 T A f Φ l:=by
 have key:∀x:Stm,oZ q m0 T A f Φ x.b/\oZ q m0 T A f Φ x.e:=by
  apply Stm.ind
  intro k a nm ce i x y b e hb he
  exact ⟨nE hy hb,nE hy he⟩
 exact fun l=>nE hy fun x _=>key x
theorem Ka (hy:Ylds q m0 T A f Φ) {l:List Stm} {s:σ} {F:List D4} (hg:N.get id=some (.cells true [v])) (hS:SS m0 T v l C) (hΦ:Φ s F N) (hA:Al A f (aQ l) s) (hsz:bQ l<=1000000000):
 ∃N',rT 133 [.yld q,.ptr id 0] N (.tup []) N'/\∃F',Φ (aX f (aQ l) s).1 F' N'/\Chg F N N'/\∀i∈F',i∈F∨¬am N i:=by
 refine WF.ex1 fun K hK=> ?_
 refine WF.of_wpG (fun _=>rfl) yH (L:= [(.a .e,.ptr id 0),(.e,.yld q)]) rfl ?_
 unfold I0
 simp only[go_sem,seval,hg,aa]
 refine WF.use1 (J2 hy l hS hΦ hA hsz) ?_
 intro N' h
 simp only[go_sem,seval]
 exact hK _ h
end
theorem Oe (m:NH) (hv:cellsOf v=some [v]):rT 100 [v] m (.fn 133 [.ptr (na m 0) 0]) (hp [(.n 0,.cells true [v])] 1 m):=by
 have h:∃r m',rT 100 [v] m r m'/\r= .fn 133 [.ptr (na m 0) 0]/\m'=(hp [(.n 0,.cells true [v])] 1 m):=by
  refine WF.ex fun K hK=> ?_
  refine WF.of_wpG (fun _=>rfl) wt (L:= [(.e,v)]) rfl ?_
  unfold JK
  simp only[go_sem,seval,hv]
  exact hK _ _ ⟨rfl,rfl⟩
 obtain ⟨r,m',h1,rfl,rfl⟩:=h
 exact h1
def W0 (q o:D4) (t:Tm) (M1:NH) (st:List (List Nat)×Nat) (F:List D4) (N:NH):Prop:=∃u,F=q::o::ids u/\Chg [q,o] M1 N/\N.get q=some (.loop 0 .none t [D4.e.a.c] kz kD)/\N.get o=some (.cells true [u])/\aY M1 N u 1 (bK st.1)/\st.1.length<=st.2
def WK (st:List (List Nat)×Nat) (x:Stm):Prop:=x.sz<=100000000/\st.2+x.own.length<=100000000
def Ow (st:List (List Nat)×Nat) (x:Stm):(List (List Nat)×Nat)×Bool:=((x.own.foldl aJ st.1,st.2+x.own.length),true)
theorem L0  {M1:NH} {q o:D4} (h1:NT.get D4.e.c t=some (.ptr o 0)) (h0:∀S,Chg [q,o] M1 S->Chg [] m0 S) (hoq:o≠q) (hqo:am M1 q) (hoo:am M1 o):Ylds q m0 T WK Ow (W0 q o t M1):=by
 refine ⟨?_, ?_, ?_, ?_⟩
 ·rintro s F N ⟨u,rfl,hC,hq,ho,hu,hl⟩;exact h0 _ hC
 ·rintro s F N ⟨u,rfl,hC,hq,ho,hu,hl⟩ i hi
  rcases List.mem_cons.mp hi with rfl|hi
  ·exact hC.old hqo
  ·rcases List.mem_cons.mp hi with rfl|hi
   ·exact hC.old hoo
   ·exact hu.sl.old i hi
 ·rintro s F N N' ⟨u,rfl,hC,hq,ho,hu,hl⟩ hC'
  exact ⟨u,rfl,hC.tr hC',(hC'.get (hC.old hqo) (by simp)).trans hq,(hC'.get (hC.old hoo) (by simp)).trans ho,hu.chg hC' fun _ _=>by simp,hl⟩
 ·rintro s F N x c ⟨u,rfl,hC,hq,ho,hu,hl⟩ hR ⟨hA1,hA2⟩
  obtain ⟨w,rfl,hP⟩:=hR.inv'
  refine WY.ex1 fun K hK=> ?_
  refine WY.of_wp hq rfl kz.eq_1 kD.eq_1 ?_
  change wp _ _ _ _ ⟨ah [(D4.e.a.c,.agg (x.l w))] t, [],none,hp [] 0 N⟩ _
  have hl21:(x.l w).length=21:=rfl
  have hl21':(x.l w).take 21=x.l w:=rfl
  have oq:=hC.old hqo
  have oo:=hC.old hoo
  have hqo':q≠o:=fun e=>hoq e.symm
  simp (disch:=first|assumption|omega|(simp only[aG]<;>omega)) only[go_sem,seval,h1,hq,ho,hl21,hl21']
  generalize hM2:hp _ 1 N=M2
  have hC2:Chg [q] N M2:=aR hM2 rfl
  have q2:M2.get q=some (.loop 1 .none t [D4.e.a.c] kz kD):=kR oq hM2
  have o2:M2.get o=some (.cells true [u]):=(hC2.get oo (by simpa using hoq)).trans ho
  have b2:M2.get (na N 0)=some (.cells true (x.l w)):=bu hM2
  have ob2:am M2 (na N 0):=bt hM2 (by omega)
  have hC02:Chg [] m0 M2:=h0 _ (hC.trans (hC2.weak (T:= [q,o]) (by simp)) fun _ h _=>h)
  refine WF.use (CD hR hC02 hA1) ?_
  rintro v3 M3 ⟨hv3,hC3⟩
  have q3:=(hC3.get (hC2.old oq) (by simp)).trans q2
  have o3:=(hC3.get (hC2.old oo) (by simp)).trans o2
  have b3:=(hC3.get ob2 (by simp)).trans b2
  have hqu:q∉ids u:=fun h=>hu.new _ h hqo
  have hou:o∉ids u:=fun h=>hu.new _ h hoo
  have hu3:aY M1 M3 u 1 (bK s.1):=(hu.chg hC2 fun i hi=>by simp;rintro rfl;exact hqu hi).chg hC3 fun _ _=>by simp
  have hus:bg 4 u u=true:=hu.sl.same
  simp only[go_sem,seval,h1,q3,o3,b3,hl21,hl21',hus]
  refine WF.use (zh hu3 hv3.sl (fun i hi hiu=>hv3.new i hi (hC2.old (hu.sl.old i hiu))) (fun i hi=>hC3.old (hC2.old (hC.old hi))) (by omega)) ?_
  rintro v4 M4 ⟨hv4,hC4,hF4⟩
  have q4:=(hC4.get (hC3.old (hC2.old oq)) hqu).trans q3
  have o4:=(hC4.get (hC3.old (hC2.old oo)) hou).trans o3
  have oq4:=hC4.old (hC3.old (hC2.old oq))
  have oo4:=hC4.old (hC3.old (hC2.old oo))
  rw[←aa M4]
  simp (disch:=first|assumption|omega|(simp only[aG]<;>omega)) only[go_sem,seval,h1,q4,o4,b3,hl21,hl21',hus,hv4.sl.one]
  generalize hM5:hp _ 0 M4=M5
  have hC5:Chg [q,o] M4 M5:=aR hM5 rfl
  have hqv:q∉ids v4:=fun h=>hv4.new _ h hqo
  have hov:o∉ids v4:=fun h=>hv4.new _ h hoo
  have hCN:Chg (q::o::ids u) N M5:=(((hC2.weak (T:=q::o::ids u) (by simp)).tr hC3).trans hC4 (fun _ h _=>by simp[h])).trans hC5 (fun i h _=>by simp at h ⊢;rcases h with h|h<;>simp[h])
  refine hK _ ⟨_,⟨v4,rfl, ?_, ?_, ?_, ?_, ?_⟩,hCN, ?_⟩
  ·refine hC.trans hCN fun i hi ho=> ?_
   simp only[Xf] at hi
   rcases hi with rfl|rfl|hi
   ·simp
   ·simp
   ·exact W9 ho (hu.new i hi)
  ·rw[←hM5];exact (aE oq4).trans aq
  ·rw[←hM5];exact (aE oo4).trans ((bm hoq).trans aq)
  ·refine hv4.chg hC5 fun i hi=> ?_
   simp only[Xf,Xe,or_false,not_or]
   exact ⟨fun e=>hqv (e▸hi),fun e=>hov (e▸hi)⟩
  ·have:=cH x.own s.1
   show _<=s.2+x.own.length
   simp only[Ow]
   omega
  ·intro i hi
   simp only[Xf] at hi ⊢
   rcases hi with rfl|rfl|hi
   ·simp
   ·simp
   ·rcases hF4 i hi with h|h
    ·exact Or.inl (Or.inr (Or.inr h))
    ·exact Or.inr fun ho=>h (hC3.old (hC2.old ho))
theorem K9 (l:List Stm):∀st,aX Ow l st=(((l.flatMap Stm.own).foldl aJ st.1,st.2+(l.flatMap Stm.own).length),true):=by
 induction l with
 |nil=>intro st;rfl
 |cons x l ih=>
  intro st
  show (if true then aX Ow l (Ow st x).1 else _)=_
  rw[Xb rfl,ih]
  simp only[Ow,List.flatMap_cons,List.foldl_append,List.length_append]
  rw[Nat.add_assoc]
theorem UY (l:List Stm):∀st:List (List Nat)×Nat,(∀x∈l,x.sz<=100000000)->st.2+(l.flatMap Stm.own).length<=100000000->Al WK Ow l st:=by
 induction l with
 |nil=>intro st _ _;trivial
 |cons x l ih=>
  intro st h1 h2
  rw[List.flatMap_cons,List.length_append] at h2
  exact ⟨⟨h1 x (List.mem_cons_self ..),by omega⟩,fun _=>ih _ (fun y hy=>h1 y (List.mem_cons_of_mem _ hy)) (by simp only[Ow];omega)⟩
theorem JW:∀x:Stm,(∀y∈x.all,y.sz<=x.sz)/\(x.all.flatMap Stm.own).length<=2*x.sz:=by
 apply Stm.ind
 intro k a nm ce i x y b e hb he
 have key:∀l:List Stm,(∀s∈l,(∀y∈s.all,y.sz<=s.sz)/\(s.all.flatMap Stm.own).length<=2*s.sz)->(∀y∈aQ l,y.sz<=bQ l)/\((aQ l).flatMap Stm.own).length<=2*bQ l:=by
  intro l
  induction l with
  |nil=>intro _;exact ⟨by simp[aQ],by simp[aQ]⟩
  |cons s l ih=>
   intro h
   obtain ⟨h1,h2⟩:=h s (List.mem_cons_self ..)
   obtain ⟨h3,h4⟩:=ih fun y hy=>h y (List.mem_cons_of_mem _ hy)
   rw[aQ,bQ,List.flatMap_append,List.length_append]
   refine ⟨fun y hy=> ?_,by omega⟩
   rcases List.mem_append.mp hy with hy|hy
   ·have:=h1 y hy;omega
   ·have:=h3 y hy;omega
 obtain ⟨b1,b2⟩:=key b hb
 obtain ⟨e1,e2⟩:=key e he
 have hi:=c7 i
 have hx:=c7 x
 have hy:=c7 y
 have ho:(Stm.mk k a nm ce i x y b e).own.length<=1+i.sz+x.sz+y.sz:=by
  rw[Stm.own]
  simp only[List.length_append]
  have:∀(p:Prop) [Decidable p] (l:List (List Nat)),(if p then l else []).length<=l.length:=by intro p _ l;split<;>simp
  have a1:=this (k=0∨k=1∨k=3) [nm]
  have a2:=this (k=1∨k=2∨k=3) i.names
  have a3:=this (k=0∨k=2∨k=3∨k=5∨k=6∨k=7) x.names
  have a4:=this (k=3) y.names
  simp only[List.length_singleton] at a1
  omega
 rw[Stm.all,Stm.sz]
 constructor
 ·intro z hz
  rcases List.mem_cons.mp hz with rfl|hz
  ·rw[Stm.sz];omega
  ·rcases List.mem_append.mp hz with hz|hz
   ·split at hz
    ·have:=b1 z hz;omega
    ·simp at hz
   ·split at hz
    ·have:=e1 z hz;omega
    ·simp at hz
 ·rw[List.flatMap_cons,List.flatMap_append,List.length_append,List.length_append]
  have c1:((if k=6∨k=7 then aQ b else []).flatMap Stm.own).length<=2*bQ b:=by split<;>first|exact b2|simp
  have c2:((if k=6 then aQ e else []).flatMap Stm.own).length<=2*bQ e:=by split<;>first|exact e2|simp
  omega
theorem kM (l:List Stm):(∀y∈aQ l,y.sz<=bQ l)/\((aQ l).flatMap Stm.own).length<=2*bQ l:=by
 induction l with
 |nil=>exact ⟨by simp[aQ],by simp[aQ]⟩
 |cons s l ih=>
  obtain ⟨h1,h2⟩:=JW s
  obtain ⟨h3,h4⟩:=ih
  rw[aQ,bQ,List.flatMap_append,List.length_append]
  refine ⟨fun y hy=> ?_,by omega⟩
  rcases List.mem_append.mp hy with hy|hy
  ·have:=h1 y hy;omega
  ·have:=h3 y hy;omega
theorem I4  {l:List Stm} (hS:SS m0 T v l C) (hC0:Chg [] m0 m) (hsz:bQ l<=10000000):
 ∃r m',rT 62 [v] m r m'/\aY m m' r 1 (bK (locals l))/\Chg [] m m':=by
 refine WF.ex fun K hK=> ?_
 refine WF.of_wpM (fun _=>rfl) En (L:= [(.e,v)]) rfl ?_
 unfold Rq
 simp only[go_sem,seval,(Oe _ hS.sl.one).wf']
 generalize hM0:hp [(.n 0,.cells true [.nils])] 1 m=M0
 have hC1:Chg [] m M0:=aR hM0 rfl
 have go0:M0.get (na m 0)=some (.cells true [.nils]):=bu hM0
 have oo0:am M0 (na m 0):=bt hM0 (by omega)
 generalize hM:hp [(.n 0,.cells true [v])] 1 M0=M
 have hC2:Chg [] M0 M:=aR hM rfl
 have gz:M.get (na M0 0)=some (.cells true [v]):=bu hM
 have oz:am M (na M0 0):=bt hM (by omega)
 have go:=(hC2.get oo0 (by simp)).trans go0
 have oo:=hC2.old oo0
 have hCm:Chg [] m M:=hC1.tr hC2
 generalize ht:ah [(D4.e.a.b,NV.fn 133 [NV.ptr (na M0 0) 0]),(D4.e.a.a,v),(D4.e.c,NV.ptr (na m 0) 0),(D4.e.b,NV.nils),(D4.e,v)] NT.leaf=t
 have g1:NT.get D4.e.c t=some (.ptr (na m 0) 0):=by rw[←ht];simp only[go_sem,seval]
 have g2:NT.get D4.e.a.b t=some (.fn 133 [.ptr (na M0 0) 0]):=by rw[←ht];simp only[go_sem,seval]
 clear ht
 generalize hM1:hp [(.n 1,.loop 0 .none t [D4.e.a.c] kz kD),(.n 0,.defd true)] 2 M=M1
 have hG:Chg [] M M1:=aR hM1 rfl
 have oq:am M1 (na M 1):=bt hM1 (by omega)
 have om:am M1 (na M 0):=bt hM1 (by omega)
 have gq:M1.get (na M 1)=some (.loop 0 .none t [D4.e.a.c] kz kD):=bu hM1
 have gm:M1.get (na M 0)=some (.defd true):=bu hM1
 have hoq:na m 0≠na M 1:=oo.ne 1
 have hCm1:Chg [] m M1:=hCm.tr hG
 have h0:∀S,Chg [na M 1,na m 0] M1 S->Chg [] m0 S:=fun S h=>(hC0.tr hCm1).trans h fun i hi ho=>by
  simp only[Xf,Xe,or_false] at hi
  rcases hi with rfl|rfl
  ·exact W9 (hCm.old (hC0.old ho)) aA
  ·exact W9 (hC0.old ho) aA
 have hY:=L0 (T:=T) g1 h0 hoq oq (hG.old oo)
 obtain ⟨hA1,hA2⟩:=kM l
 obtain ⟨m',hr,F',⟨u,rfl,hC3,hq3,ho3,hu3,-⟩,hC4,-⟩:=Ka hY (s:=([],0)) (F:= [na M 1,na m 0]) (id:=na M0 0) ((hG.get oz (by simp)).trans gz) hS ⟨.nils,rfl,(Chg.refl M1).weak (by simp),gq,(hG.get oo (by simp)).trans go,aY.nil,by simp⟩ (UY _ _ (fun x hx=>by have:=hA1 x hx;omega) (by show 0+_<=_;omega)) (by omega)
 rw[K9] at hu3
 refine W.rangeN g2 (hM1▸hr) hq3 ?_ (hC3.old oq)
 have gm3:m'.get (na M 0)=some (.defd true):=(hC3.get om (by
  simp only[Xf,Xe,or_false,not_or]
  exact ⟨fun e=>by have:=jM e;omega,fun e=>oo.ne 0 e.symm⟩)).trans gm
 have om3:=hC3.old om
 have oo3:=hC3.old (hG.old oo)
 have hne:na M 0≠na M 1:=fun e=>by have:=jM e;omega
 change jn _ _ _ ⟨ah [] t,_,_,_⟩
 simp (disch:=first|assumption|omega) only[go_sem,seval,g1,gm3,om3,ho3,oo3,hoq,hne]
 generalize hMe:hp _ 0 m'=Me
 have hCe:Chg [na M 1,na M 0] m' Me:=by rw[←hMe];exact (aI rfl:Chg [na M 0,na M 1] m' _).weak (by intro i hi _;simp at hi ⊢;exact hi.symm)
 refine hK _ _ ⟨?_, ?_⟩
 ·refine (hu3.chg hCe fun i hi=> ?_).back fun i hi=>hCm1.old hi
  simp only[Xf,Xe,or_false,not_or]
  exact ⟨fun e=>hu3.new i hi (e▸oq),fun e=>hu3.new i hi (e▸om)⟩
 ·refine ((hCm1.weak (T:= [na M 1,na m 0,na M 0]) (by simp)).trans hC3 fun i h _=>by simp at h ⊢;rcases h with h|h<;>simp[h]).trans hCe (fun i h _=>by simp at h ⊢;rcases h with h|h<;>simp[h]) |>.weak fun i hi ho=> ?_
  simp only[Xf,Xe,or_false] at hi
  rcases hi with rfl|rfl|rfl
  ·exact W9 (hCm.old ho) aA
  ·exact W9 ho aA
  ·exact W9 (hCm.old ho) aA
theorem JZ  {l:List (List Nat)} (hv:aY B m v 1 (bK l)) (hB:∀id,am B id->am m id) (s:List Nat) (hsz:l.length<=1000000000):
 ∃v' m',rT 119 [v,.str s] m v' m'/\aY B m' v' 1 (bK (aJ l s))/\Chg (ids v) m m'/\bP m v v':=by
 refine WF.ex fun K hK=> ?_
 refine WF.of_wpG (fun _=>rfl) vR (L:= [(.a .e,.str s),(.e,v)]) rfl ?_
 unfold Hj
 have hlen:=hv.sl.len
 rw[List.length_map] at hlen
 simp only[go_sem,seval]
 refine W.loop (fun k d=>∃t i,d=⟨t, [],none,hp [] 0 m⟩/\NT.get D4.e t=some v/\NT.get D4.e.a t=some (.str s)/\NT.get D4.e.a.a t=some (ii (i:Nat))/\i+k=l.length/\∀j (hj:j<i) (hl:j<l.length),s≠l[j]) ?_ l.length _ ⟨_,0,rfl,by exact gq rfl,by exact gq rfl,by exact gq rfl,by omega,by simp⟩
 rintro k d ⟨t,i,rfl,g1,g2,g3,hik,hn⟩
 apply ax
 unfold vJ
 change wp _ _ _ _ ⟨ah [] t, [],none,hp [] 0 m⟩ _
 by_cases hi:i<l.length
 ·obtain ⟨id,off,w,c,a1,a2,a3,a4,a5⟩:=hv.sl.at i (by simpa using hi)
  rw[List.getElem_map] at a5
  have c0:=aF a5 0 (by omega)
  rw[Nat.add_zero] at c0
  by_cases he:s=l[i]
  ·have he':decide (l[i]=s)=true:=Xd he.symm
   simp (disch:=first|assumption|omega) only[go_sem,seval,g1,g2,g3,hlen,a1,a2,c0,he',aa]
   exact hK _ _ ⟨by rw[show aJ l s=l from Xb (by rw[he];exact List.getElem_mem hi)];exact hv,(Chg.refl m).weak (by simp),bP.refl m v⟩
  ·have he':decide (l[i]=s)=false:=Xc fun e=>he e.symm
   simp (disch:=first|assumption|omega) only[go_sem,seval,g1,g2,g3,hlen,a1,a2,c0,he']
   refine ⟨k - 1,by omega,_,i+1,by rfl, ?_, ?_, ?_,by omega, ?_⟩
   ·simp only[go_sem,seval,g1]
   ·simp only[go_sem,seval,g2]
   ·simp only[go_sem,seval]<;>rfl
   ·intro j hj hl
    rcases Nat.lt_or_ge j i with h|h
    ·exact hn j h hl
    ·have:j=i:=by omega
     subst this;exact he
 ·simp (disch:=first|assumption|omega|(simp only[aG]<;>omega)) only[go_sem,seval,g1,g2,g3,hlen]
  have hC1:Chg [] m (hp [(.n 0,.cells true [.str s])] 1 m):=aI rfl
  refine fm (hv.chg hC1 fun _ _=>by simp) bI (bN (by omega)) rfl (fun i hi=>hC1.old (hB i hi)) (by simp;omega) (by simp;omega) ?_
  intro v2 M2 hv2 hC2 hF2
  simp only[go_sem,seval]
  refine hK _ _ ⟨?_,(hC1.weak (by simp)).trans hC2 fun _ h _=>h,fun i hi=>(hF2 i hi).imp _root_.id fun q o=>q (hC1.old o)⟩
  rw[show aJ l s=l++ [s] from Xa fun h=>by
   obtain ⟨j,hj,e⟩:=List.getElem_of_mem h
   exact hn j (by omega) hj e.symm,rH]
  exact hv2
def Km (f:Nat) (args:NV->List NV) (m0:NH) (N:List (List Nat)) (sz:Nat):Prop:=∀{B m:NH} {v:NV} {l:List (List Nat)},Chg [] m0 m->aY B m v 1 (bK l)->(∀i,am m0 i->am B i)->(∀i,am B i->am m i)->l.length+sz<=1000000000->
 ∃v' m',rT f (args v) m v' m'/\aY B m' v' 1 (bK (N.foldl aJ l))/\Chg (ids v) m m'/\bP m v v'
def WM (x:Ex):Prop:=∀{m0:NH} {T:D4->Prop} {c:List NV},RE m0 T x c->Km 145 (fun v=> [v,.agg c]) m0 x.names x.sz
theorem rA  {kd:Int} {n o:Nat} {s:List Nat} {ks:List Ex} (hS:SE m0 T vk ks C) (ih:∀x∈ks,WM x) {l:List (List Nat)} (hC0:Chg [] m0 m) (hv:aY B m v 1 (bK l)) (h0:∀i,am m0 i->am B i) (hB:∀i,am B i->am m i)
 {b:D4} (hb:m.get b=some (.cells true [ii kd,u64 n,u8 o,.str s,vk])) (hob:am m b) (hbv:b∉ids v) (h1:kd≠1)
 (hsz:l.length+kS ks<=1000000000) (g1:NT.get D4.e t=some v) (g2:NT.get D4.e.c t=some (.ptr b 0)) (g4:NT.get D4.e.a.a t=some (ii 0))
 (hQ:∀t' M v',NT.get D4.e t'=some v'->aY B M v' 1 (bK ((Ex.mk kd n o s ks).names.foldl aJ l))->Chg (ids v) m M->bP m v v'->Q (.exit 0) ⟨ah [] t', [],none,M⟩):
 W Tryz.prog S0 none qW.loop ⟨t, [],none,m⟩ Q:=by
 refine W.loop (fun k d=>∃t M i v',d=⟨t, [],none,M⟩/\NT.get D4.e t=some v'/\NT.get D4.e.c t=some (.ptr b 0)/\NT.get D4.e.a.a t=some (ii (i:Nat))/\i+k=ks.length/\(i=0∨kd=2)/\aY B M v' 1 (bK ((b9 (ks.take i)).foldl aJ l))/\Chg (ids v) m M/\bP m v v') ?_ ks.length _ ⟨t,m,0,v,rfl,g1,g2,g4,by omega,Or.inl rfl,by simpa [b9] using hv,(Chg.refl m).weak (by simp),bP.refl m v⟩
 rintro k d ⟨t,M,i,v',rfl,g1,g2,g4,hik,hk2,hv',hC,hF⟩
 apply ax
 unfold qW
 change wp _ _ _ _ ⟨ah [] t, [],none,M⟩ _
 have hCM:=ko hv h0 hC0 hC
 have hSM:=(hS.stays (kQ hCM T))
 have hbM:=(hC.get hob hbv).trans hb
 have hlen:=hSM.sl.len
 rw[hS.len] at hlen
 have hls:=uv ks
 rw[←aa M]
 by_cases hi:i<ks.length
 ·by_cases hkd:kd=2
  ·obtain ⟨cx,hcx,hRx⟩:=hS.at i hi
   obtain ⟨id,off,wr,c,a1,a2,a3,a4,a5⟩:=hSM.sl.at i (by rw[hS.len];exact hi)
   have ecx:C[i]'(by rw[hS.len];exact hi)=cx:=by
    have:=List.getElem?_eq_getElem (l:=C) (i:=i) (by rw[hS.len];exact hi)
    rw[this] at hcx;injection hcx
   rw[ecx] at a5
   obtain ⟨vx,Cx,rfl,-⟩:=hRx.inv'
   have hszi:=vS ks i hi
   have hfl:=cH (b9 (ks.take i)) l
   have hd:decide (kd=2)=true:=Xd hkd
   simp (disch:=first|assumption|omega) only[go_sem,seval,g1,g2,g4,hbM,hlen,a1,a2,a5,hd]
   rw[aa]
   refine WF.use (ih ks[i] (List.getElem_mem hi) hRx hCM hv' h0 (fun i hi=>hC.old (hB i hi)) (by omega)) ?_
   rintro v2 M2 ⟨hv2,hC2,hF2⟩
   simp (disch:=first|assumption|omega) only[go_sem,seval,g1,g2,g4]
   refine ⟨k - 1,by omega,_,M2,i+1,v2,by rfl, ?_, ?_, ?_,by omega,Or.inr hkd, ?_,hF.chg hC hC2,hF.trans hF2 fun i hi=>hC.old hi⟩
   ·simp only[go_sem,seval]
   ·simp only[go_sem,seval,g2]
   ·simp only[go_sem,seval]<;>rfl
   ·rw[jB hi,List.foldl_append];exact hv2
  ·have hd:decide (kd=2)=false:=Xc hkd
   have hi0:i=0:=hk2.resolve_right hkd
   subst hi0
   simp (disch:=first|assumption|omega) only[go_sem,seval,g1,g2,g4,hbM,hlen,hd]
   rw[aa]
   refine hQ _ _ v' ?_ ?_ hC hF
   ·simp only[go_sem,seval,g1]
   ·rw[Ex.names,Xa h1,Xa hkd];exact hv'
 ·simp (disch:=first|assumption|omega) only[go_sem,seval,g1,g2,g4,hbM,hlen]
  rw[aa]
  have e:(ks.take i)=ks:=List.take_of_length_le (by omega)
  rw[e] at hv'
  refine hQ _ _ v' ?_ ?_ hC hF
  ·simp only[go_sem,seval,g1]
  ·rw[Ex.names,Xa h1]
   split
   ·exact hv'
   ·have:ks= []:=List.length_eq_zero_iff.mp (by omega)
    subst this;exact hv'
theorem xt:∀x,WM x:=by
 apply Ex.ind
 intro kd n o s ks ih m0 T c hR B m v l hC0 hv h0 hB hsz
 obtain ⟨vk,C,rfl,hS⟩:=hR.inv
 rw[Ex.sz] at hsz
 refine WF.ex fun K hK=> ?_
 refine WF.of_wpG (fun _=>rfl) wZ (L:= [(.a .e,.agg [ii kd,u64 n,u8 o,.str s,vk]),(.e,v)]) rfl ?_
 unfold KS
 have hob:am (hp [(.n 0,.cells true [ii kd,u64 n,u8 o,.str s,vk])] 1 m) (na m 0):=bN (by omega)
 have hgb:(hp [(.n 0,.cells true [ii kd,u64 n,u8 o,.str s,vk])] 1 m).get (na m 0)=some (.cells true [ii kd,u64 n,u8 o,.str s,vk]):=bI
 by_cases h1:kd=1
 ·subst h1
  simp only[go_sem,seval]
  generalize hM1:hp _ 1 m=M1
  have hC1:Chg [] m M1:=aR hM1 rfl
  refine WF.use (JZ (hv.chg hC1 fun _ _=>by simp) (fun i hi=>hC1.old (hB i hi)) s (by omega)) ?_
  rintro v2 M2 ⟨hv2,hC2,hF2⟩
  simp only[go_sem,seval]
  refine hK _ _ ⟨?_,(hC1.weak (by simp)).trans hC2 fun _ h _=>h,fun i hi=>(hF2 i hi).imp _root_.id fun q o=>q (hC1.old o)⟩
  rw[Ex.names,Xb rfl];exact hv2
 ·have hd:decide (kd=1)=false:=Xc h1
  simp only[go_sem,seval,hd]
  generalize hM1:hp _ 1 m=M1 at hob hgb
  have hC1:Chg [] m M1:=aR hM1 rfl
  refine rA hS ih (hC0.tr hC1) (hv.chg hC1 fun _ _=>by simp) h0 (fun i hi=>hC1.old (hB i hi)) hgb hob (fun h=>(hv.sl.old _ h).ne 0 rfl) h1 (by omega) (by exact gq rfl) (by exact gq rfl) (by exact gq rfl) ?_
  intro t' M v' g1 q1 q2 q3
  simp only[go_sem,seval,g1]
  exact hK _ _ ⟨q1,(hC1.weak (by simp)).trans q2 fun _ h _=>h,fun i hi=>(q3 i hi).imp _root_.id fun q o=>q (hC1.old o)⟩
theorem Lm (m:NH) (k:Int):rT 144 [ii k] m (.bool (decide (k=0∨k=1∨k=3))) m:=by
 have h:∃r m',rT 144 [ii k] m r m'/\r= .bool (decide (k=0∨k=1∨k=3))/\m'=m:=by
  refine WF.ex fun K hK=> ?_
  refine WF.of_wpG (fun _=>rfl) wU (L:= [(.e,ii k)]) rfl ?_
  unfold IW
  by_cases h0:k=0
  ·subst h0;simp only[go_sem,seval,aa];exact hK _ _ ⟨rfl,rfl⟩
  ·by_cases h1:k=1
   ·subst h1;simp only[go_sem,seval,aa];exact hK _ _ ⟨rfl,rfl⟩
   ·by_cases h3:k=3
    ·subst h3;simp only[go_sem,seval,aa];exact hK _ _ ⟨rfl,rfl⟩
    ·simp (disch:=first|assumption|omega) only[go_sem,seval,aa];exact hK _ _ ⟨by simp[h0,h1,h3],rfl⟩
 obtain ⟨r,m',h1,rfl,rfl⟩:=h
 exact h1
theorem wu (m:NH) (k:Int):rT 117 [ii k] m (.bool (decide (k=1∨k=2∨k=3))) m:=by
 have h:∃r m',rT 117 [ii k] m r m'/\r= .bool (decide (k=1∨k=2∨k=3))/\m'=m:=by
  refine WF.ex fun K hK=> ?_
  refine WF.of_wpG (fun _=>rfl) yd (L:= [(.e,ii k)]) rfl ?_
  unfold Hv
  by_cases h0:k=1
  ·subst h0;simp only[go_sem,seval,aa];exact hK _ _ ⟨rfl,rfl⟩
  ·by_cases h1:k=2
   ·subst h1;simp only[go_sem,seval,aa];exact hK _ _ ⟨rfl,rfl⟩
   ·by_cases h3:k=3
    ·subst h3;simp only[go_sem,seval,aa];exact hK _ _ ⟨rfl,rfl⟩
    ·simp (disch:=first|assumption|omega) only[go_sem,seval,aa];exact hK _ _ ⟨by simp[h0,h1,h3],rfl⟩
 obtain ⟨r,m',h1,rfl,rfl⟩:=h
 exact h1
theorem OK  {s:Stm} (hR:RS m0 T s c):Km 118 (fun v=> [v,.agg c]) m0 s.own s.sz:=by
 obtain ⟨w,rfl,hP⟩:=hR.inv'
 intro B m v0 l hC0 hv0 h0 hB hsz
 refine WF.ex fun K hK=> ?_
 refine WF.of_wpG (fun _=>rfl) x0 (L:= [(.a .e,.agg (s.l w)),(.e,v0)]) rfl ?_
 unfold Ia
 rw[yh] at hsz
 have hni:=c7 s.i
 have hnx:=c7 s.x
 have hny:=c7 s.y
 generalize hm1:hp [(.n 0,.cells true (s.l w))] 1 m=m1
 have hC1:Chg [] m m1:=aR hm1 rfl
 have hC01:Chg [] m0 m1:=hC0.tr hC1
 have hg0:m1.get (na m 0)=some (.cells true (s.l w)):=bu hm1
 have ho0:am m1 (na m 0):=bt hm1 (by omega)
 have hn0:na m 0∉ids v0:=fun h=>(hv0.sl.old _ h).ne 0 rfl
 let Φ:List (List Nat)->Dyn->Prop:=fun N d=>∃t M v,d=⟨t, [],none,M⟩/\NT.get D4.e.c t=some (.ptr (na m 0) 0)/\NT.get D4.e t=some v/\aY B M v 1 (bK (N.foldl aJ l))/\Chg (ids v0) m1 M/\bP m1 v0 v
 have hl21:(s.l w).length=21:=rfl
 have hl21':(s.l w).take 21=s.l w:=rfl
 have hstep:∀{M M':NH} {v v':NV},Chg (ids v0) m1 M->bP m1 v0 v->Chg (ids v) M M'->bP M v v'->Chg (ids v0) m1 M'/\bP m1 v0 v':=fun h1 h2 h3 h4=>⟨h2.chg h1 h3,h2.trans h4 fun i hi=>h1.old hi⟩
 have hins:∀{M:NH} {v:NV} {N:List (List Nat)} {x:Ex} {c:List NV},Chg (ids v0) m1 M->bP m1 v0 v->aY B M v 1 (bK (N.foldl aJ l))->RE m0 T x c->l.length+N.length+x.sz<=1000000000->∃v' M',rT 145 [v,.agg c] M v' M'/\aY B M' v' 1 (bK ((N++x.names).foldl aJ l))/\Chg (ids v0) m1 M'/\bP m1 v0 v':=by
  intro M v N x c h1 h2 h3 h4 h5
  have hfl:=cH N l
  obtain ⟨v',M',q1,q2,q3,q4⟩:=xt x h4 (hC01.trans h1 fun i hi ho=>W9 (h0 i ho) (hv0.new i hi)) h3 h0 (fun i hi=>h1.old (hC1.old (hB i hi))) (by omega)
  obtain ⟨r1,r2⟩:=hstep h1 h2 q3 q4
  exact ⟨v',M',q1,by rw[List.foldl_append];exact q2,r1,r2⟩
 refine iC (Φ []) (fun R hR=> ?_) ?_
 ·simp only[go_sem,seval,hm1]
  exact hR _ ⟨_,_,v0,rfl,by exact gq rfl,by exact gq rfl,hv0.chg hC1 fun _ _=>by simp,(Chg.refl m1).weak (by simp),bP.refl m1 v0⟩
 rintro d ⟨t,M,v,rfl,g1,g2,hv,hC,hF⟩
 change wp _ _ _ _ ⟨ah [] t, [],none,M⟩ _
 refine iC (Φ (if s.k=0∨s.k=1∨s.k=3 then [s.nm] else [])) (fun R hR=> ?_) ?_
 ·have hgM:=(hC.get ho0 hn0).trans hg0
  simp only[go_sem,seval,g1,g2,hgM,hl21,hl21',(Lm _ _).wf']
  by_cases hk:s.k=0∨s.k=1∨s.k=3
  ·rw[Xd hk]
   simp only[go_sem,seval,g1,g2,hgM]
   refine WF.use (JZ hv (fun i hi=>hC.old (hC1.old (hB i hi))) s.nm (by simp;omega)) ?_
   rintro v2 M2 ⟨hv2,hC2,hF2⟩
   simp only[go_sem,seval,g1,g2]
   obtain ⟨r1,r2⟩:=hstep hC hF hC2 hF2
   refine hR _ ⟨_,_,v2,rfl,by exact gq g1,by exact gq rfl, ?_,r1,r2⟩
   rw[Xb hk];exact hv2
  ·rw[Xc hk]
   simp only[go_sem,seval,g1,g2,aa]
   refine hR _ ⟨_,_,v,rfl,by exact gq g1,by exact gq g2, ?_,hC,hF⟩
   rw[Xa hk];exact hv
 clear g1 g2 hv hC hF
 rintro d ⟨t,M,v,rfl,g1,g2,hv,hC,hF⟩
 change wp _ _ _ _ ⟨ah [] t, [],none,M⟩ _
 generalize hL1:(if s.k=0∨s.k=1∨s.k=3 then [s.nm] else [])=L1 at hv
 have hn1:L1.length<=1:=by rw[←hL1];split<;>simp
 refine iC (Φ (L1++if s.k=1∨s.k=2∨s.k=3 then s.i.names else [])) (fun R hR=> ?_) ?_
 ·have hgM:=(hC.get ho0 hn0).trans hg0
  simp only[go_sem,seval,g1,g2,hgM,hl21,hl21',(wu _ _).wf']
  by_cases hk:s.k=1∨s.k=2∨s.k=3
  ·rw[Xd hk]
   simp only[go_sem,seval,g1,g2,hgM]
   refine WF.use (hins hC hF hv hP.i (by omega)) ?_
   rintro v2 M2 ⟨hv2,r1,r2⟩
   simp only[go_sem,seval,g1,g2]
   refine hR _ ⟨_,_,v2,rfl,by exact gq g1,by exact gq rfl, ?_,r1,r2⟩
   rw[Xb hk];exact hv2
  ·rw[Xc hk]
   simp only[go_sem,seval,g1,g2,aa]
   refine hR _ ⟨_,_,v,rfl,by exact gq g1,by exact gq g2, ?_,hC,hF⟩
   rw[Xa hk,List.append_nil];exact hv
 clear g1 g2 hv hC hF
 rintro d ⟨t,M,v,rfl,g1,g2,hv,hC,hF⟩
 change wp _ _ _ _ ⟨ah [] t, [],none,M⟩ _
 generalize hL2:(L1++if s.k=1∨s.k=2∨s.k=3 then s.i.names else [])=L2 at hv
 have hn2:L2.length<=1+s.i.sz:=by rw[←hL2,List.length_append];split<;>first|omega|(rw[List.length_nil];omega)
 refine iC (Φ (L2++if s.k=0∨s.k=2∨s.k=3∨s.k=5∨s.k=6∨s.k=7 then s.x.names else [])) (fun R hR=> ?_) ?_
 ·have hgM:=(hC.get ho0 hn0).trans hg0
  by_cases hk:s.k=0∨s.k=2∨s.k=3∨s.k=5∨s.k=6∨s.k=7
  ·rw[Xb hk] at hR
   rcases hk with h|h|h|h|h|h<;>simp only[go_sem,seval,g1,g2,hgM,h]<;>(refine WF.use (hins hC hF hv hP.x (by omega)) ?_;rintro v2 M2 ⟨hv2,r1,r2⟩;simp only[go_sem,seval,g1,g2];exact hR _ ⟨_,_,v2,rfl,by exact gq g1,by exact gq rfl,hv2,r1,r2⟩)
  ·rw[Xa hk,List.append_nil] at hR
   have d0:decide (s.k=0)=false:=Xc (by omega)
   have d2:decide (s.k=2)=false:=Xc (by omega)
   have d3:decide (s.k=3)=false:=Xc (by omega)
   by_cases h5:5<=s.k
   ·have d7:decide (s.k<=7)=false:=Xc (by omega)
    simp (disch:=first|assumption|omega) only[go_sem,seval,g1,g2,hgM,d0,d2,d3,d7,aa]
    exact hR _ ⟨_,_,v,rfl,by exact gq g1,by exact gq g2,hv,hC,hF⟩
   ·simp (disch:=first|assumption|omega) only[go_sem,seval,g1,g2,hgM,d0,d2,d3,aa]
    exact hR _ ⟨_,_,v,rfl,by exact gq g1,by exact gq g2,hv,hC,hF⟩
 clear g1 g2 hv hC hF
 rintro d ⟨t,M,v,rfl,g1,g2,hv,hC,hF⟩
 change wp _ _ _ _ ⟨ah [] t, [],none,M⟩ _
 generalize hL3:(L2++if s.k=0∨s.k=2∨s.k=3∨s.k=5∨s.k=6∨s.k=7 then s.x.names else [])=L3 at hv
 have hn3:L3.length<=1+s.i.sz+s.x.sz:=by rw[←hL3,List.length_append];split<;>first|omega|(rw[List.length_nil];omega)
 have hown:s.own=L3++if s.k=3 then s.y.names else []:=by rw[z6,←hL3,←hL2,←hL1];simp only[List.append_assoc]
 have hgM:=(hC.get ho0 hn0).trans hg0
 have fin:∀{v M},aY B M v 1 (bK (s.own.foldl aJ l))->Chg (ids v0) m1 M->bP m1 v0 v->aY B M v 1 (bK (s.own.foldl aJ l))/\Chg (ids v0) m M/\bP m v0 v:=fun h1 h2 h3=>⟨h1,(hC1.weak (by simp)).trans h2 fun _ h _=>h,fun i hi=>(h3 i hi).imp _root_.id fun q o=>q (hC1.old o)⟩
 by_cases hk:s.k=3
 ·rw[Xb hk] at hown
  have hd:decide (s.k=3)=true:=Xd hk
  simp only[go_sem,seval,g1,g2,hgM,hl21,hl21',hd]
  refine WF.use (hins hC hF hv hP.y (by omega)) ?_
  rintro v2 M2 ⟨hv2,r1,r2⟩
  simp only[go_sem,seval,g1,g2]
  rw[←hown] at hv2
  exact hK _ _ (fin hv2 r1 r2)
 ·rw[Xa hk,List.append_nil] at hown
  have hd:decide (s.k=3)=false:=Xc hk
  simp only[go_sem,seval,g1,g2,hgM,hl21,hl21',hd]
  rw[←hown] at hv
  exact hK _ _ (fin hv hC hF)
abbrev gp (l:List Stm):List (List Nat):=(aQ l).flatMap Stm.own
def Ss (m0:NH) (T:D4->Prop) (l:List Stm):Prop:=∀{vb:NV} {C:List (List NV)},SS m0 T vb l C->Km 120 (fun v=> [v,vb]) m0 (gp l) (2*bQ l)
theorem HF (x:Stm):x.all.flatMap Stm.own=x.own++((if x.k=6∨x.k=7 then gp x.b else [])++(if x.k=6 then gp x.e else [])):=by
 rw[ri,List.flatMap_cons,List.flatMap_append]
 congr 2
 ·split<;>rfl
 ·split<;>rfl
theorem Jy (l:List Stm) (i:Nat) (hi:i<l.length):(gp (l.take i)).length+2*l[i].sz<=2*bQ l:=by
 induction l generalizing i with
 |nil=>simp at hi
 |cons x l ih=>
  cases i with
  |zero=>simp[gp,aQ,bQ];omega
  |succ i=>
   obtain ⟨-,h1⟩:=JW x
   have:=ih i (by simpa using hi)
   simp only[List.take_succ_cons,gp,aQ,bQ,List.flatMap_append,List.length_append,List.getElem_cons_succ] at this ⊢;omega
theorem CC  {l:List Stm} (h:SS m T v l C) (i:Nat) (hi:i<l.length):∃w,C[i]? =some (l[i].l w)/\RS m T l[i] (l[i].l w)/\SP m T l[i] w:=by
 obtain ⟨c,h1,h2⟩:=h.at i hi
 obtain ⟨w,rfl,h3⟩:=h2.inv'
 exact ⟨w,h1,h2,h3⟩
theorem zS  {l:List Stm} (h:SS m T v l C) (i:Nat) (hi:i<l.length) {cs:List NV} (hc:C[i]? =some cs):∃id off w c,ix 21 v (.int .i64 (.lit (i:Int)))= .val (.ptr id off)/\m.get id=some (.cells w c)/\am m id/\off+21<=c.length/\(c.drop off).take 21=cs:=by
 have hl:i<C.length:=by rw[h.len];exact hi
 obtain ⟨id,off,w,c,a1,a2,a3,a4,a5⟩:=h.sl.at i hl
 rw[List.getElem?_eq_getElem hl] at hc
 injection hc with hc
 exact ⟨id,off,w,c,a1,a2,a3,a4,a5.trans hc⟩
theorem Ll (s:Stm):s.own.length<=1+s.i.sz+s.x.sz+s.y.sz:=by
 have hi:=c7 s.i
 have hx:=c7 s.x
 have hy:=c7 s.y
 rw[z6]
 simp only[List.length_append]
 have:∀(p:Prop) [Decidable p] (l:List (List Nat)),(if p then l else []).length<=l.length:=by intro p _ l;split<;>simp
 have a1:=this (s.k=0∨s.k=1∨s.k=3) [s.nm]
 have a2:=this (s.k=1∨s.k=2∨s.k=3) s.i.names
 have a3:=this (s.k=0∨s.k=2∨s.k=3∨s.k=5∨s.k=6∨s.k=7) s.x.names
 have a4:=this (s.k=3) s.y.names
 simp only[List.length_singleton] at a1
 omega
theorem lN  {l:List Stm} (ih:∀x∈l,Ss m0 T x.b/\Ss m0 T x.e):Ss m0 T l:=by
 intro vb C hS B m v0 N0 hC0 hv0 h0 hB hsz
 refine WF.ex fun K hK=> ?_
 refine WF.of_wpG (fun _=>rfl) xn (L:= [(.a .e,vb),(.e,v0)]) rfl ?_
 unfold J3
 have hll:=ng l
 simp only[go_sem,seval,aa]
 refine W.loop (fun k d=>∃t M i v,d=⟨t, [],none,M⟩/\NT.get D4.e t=some v/\NT.get D4.e.a t=some vb/\NT.get D4.e.a.a t=some (ii (i:Nat))/\i+k=l.length/\aY B M v 1 (bK ((gp (l.take i)).foldl aJ N0))/\Chg (ids v0) m M/\bP m v0 v) ?_ l.length _ ⟨_,m,0,v0,rfl,by exact gq rfl,by exact gq rfl,by exact gq rfl,by omega,hv0,(Chg.refl m).weak (by simp),bP.refl m v0⟩
 rintro k d ⟨t,M,i,v,rfl,g1,g2,g3,hik,hv,hC,hF⟩
 apply ax
 unfold vB
 change wp _ _ _ _ ⟨ah [] t, [],none,M⟩ _
 have hstep:∀{M M':NH} {v v':NV},Chg (ids v0) m M->bP m v0 v->Chg (ids v) M M'->bP M v v'->Chg (ids v0) m M'/\bP m v0 v':=fun h1 h2 h3 h4=>⟨h2.chg h1 h3,h2.trans h4 fun i hi=>h1.old hi⟩
 have hbase:∀{M:NH},Chg (ids v0) m M->Chg [] m0 M:=fun h=>ko hv0 h0 hC0 h
 have hlenM:∀{M:NH},Chg (ids v0) m M->FT vb= .val (ii l.length):=fun h=>by
  have:=(hS.stays (kQ (hbase h) T)).sl.len
  rw[hS.len] at this;exact this
 have hlen:=hlenM hC
 by_cases hi:i<l.length
 ·obtain ⟨w,hcw,hRx,hP⟩:=CC hS i hi
  have hmem:∀{M:NH},Chg (ids v0) m M->∃id off wr c,ix 21 vb (.int .i64 (.lit (i:Int)))= .val (.ptr id off)/\M.get id=some (.cells wr c)/\am M id/\off+21<=c.length/\(c.drop off).take 21=l[i].l w:=fun h=>zS (hS.stays (kQ (hbase h) T)) i hi hcw
  have hszi:=Jy l i hi
  have hfl:=cH (gp (l.take i)) N0
  obtain ⟨h1,h2⟩:=ih _ (List.getElem_mem hi)
  obtain ⟨id,off,wr,c,a1,a2,a3,a4,a5⟩:=hmem hC
  have hrb:=yh l[i]
  have htk:gp (l.take (i+1))=gp (l.take i)++(l[i].own++((if l[i].k=6∨l[i].k=7 then gp l[i].b else [])++(if l[i].k=6 then gp l[i].e else []))):=by
   show (aQ _).flatMap _=_
   rw[tc hi,List.flatMap_append,HF]
  obtain ⟨B1,hB1⟩:=hP.b
  obtain ⟨E1,hE1⟩:=hP.e
  simp (disch:=first|assumption|omega) only[go_sem,seval,g1,g2,g3,hlen,a1,a2,a5]
  refine WF.use (OK hRx (hbase hC) hv h0 (fun i hi=>hC.old (hB i hi)) (by omega)) ?_
  rintro v2 M2 ⟨hv2,hC2,hF2⟩
  obtain ⟨r1,r2⟩:=hstep hC hF hC2 hF2
  obtain ⟨id2,off2,wr2,c2,b1,b2,b3,b4,b5⟩:=hmem r1
  have b1':=a1.symm.trans b1
  injection b1' with b1';injection b1' with e1 e2;subst e1 e2
  have hon:=Ll l[i]
  have hfl2:=cH l[i].own ((gp (l.take i)).foldl aJ N0)
  have hcells:∀{c:List NV},(c.drop off).take 21=l[i].l w->c[off+0]? =some (ii l[i].k)/\c[off+19]? =some w.vb/\c[off+20]? =some w.ve:=fun h=>⟨aF h 0 (by omega),aF h 19 (by omega),aF h 20 (by omega)⟩
  obtain ⟨k0,k19,k20⟩:=hcells b5
  have hsb:(gp l[i].b).length<=2*bQ l[i].b:=(kM l[i].b).2
  have hmem2:∀{M:NH},Chg (ids v0) m M->∃wr c,M.get id=some (.cells wr c)/\c[off+0]? =some (ii l[i].k)/\c[off+19]? =some w.vb/\c[off+20]? =some w.ve:=fun h=>by
   obtain ⟨id2,off2,wr2,c2,b1,b2,b3,b4,b5⟩:=hmem h
   have b1':=a1.symm.trans b1
   injection b1' with b1';injection b1' with e1 e2;subst e1 e2
   exact ⟨wr2,c2,b2,hcells b5⟩
  have fin:∀(t':Tm) (M':NH) (v':NV) (X:List (List Nat)),NT.get D4.e t'=some v'->NT.get D4.e.a t'=some vb->NT.get D4.e.a.a t'=some (ii (i+1:Nat))->aY B M' v' 1 (bK (X.foldl aJ (l[i].own.foldl aJ ((gp (l.take i)).foldl aJ N0))))->X=((if l[i].k=6∨l[i].k=7 then gp l[i].b else [])++(if l[i].k=6 then gp l[i].e else []))->Chg (ids v0) m M'->bP m v0 v'->
   ∃j,j<k/\∃t M i v,(⟨t', [],none,M'⟩:Dyn)=⟨t, [],none,M⟩/\NT.get D4.e t=some v/\NT.get D4.e.a t=some vb/\NT.get D4.e.a.a t=some (ii (i:Nat))/\i+j=l.length/\aY B M v 1 (bK ((gp (l.take i)).foldl aJ N0))/\Chg (ids v0) m M/\bP m v0 v:=by
   intro t' M' v' X q1 q2 q3 q4 q5 q6 q7
   refine ⟨k - 1,by omega,t',M',i+1,v',rfl,q1,q2,q3,by omega, ?_,q6,q7⟩
   rw[htk,List.foldl_append,List.foldl_append,←q5];exact q4
  by_cases h6:l[i].k=6
  ·simp only[go_sem,seval,g1,g2,g3,hlen,a1,b2,k0,k19,k20,h6]
   refine WF.use (h1 hB1 (hbase r1) hv2 h0 (fun i hi=>r1.old (hB i hi)) (by omega)) ?_
   rintro v3 M3 ⟨hv3,hC3,hF3⟩
   obtain ⟨s1,s2⟩:=hstep r1 r2 hC3 hF3
   obtain ⟨wr3,c3,d2,e0,e19,e20⟩:=hmem2 s1
   have hfl3:=cH (gp l[i].b) (l[i].own.foldl aJ ((gp (l.take i)).foldl aJ N0))
   simp only[go_sem,seval,g1,g2,g3,hlen,a1,d2,e0,e19,e20,h6]
   refine WF.use (h2 hE1 (hbase s1) hv3 h0 (fun i hi=>s1.old (hB i hi)) (by omega)) ?_
   rintro v4 M4 ⟨hv4,hC4,hF4⟩
   obtain ⟨u1,u2⟩:=hstep s1 s2 hC4 hF4
   simp (disch:=first|assumption|omega) only[go_sem,seval,g1,g2,g3]
   refine fin _ _ v4 (gp l[i].b++gp l[i].e) (by exact gq rfl) (by exact gq g2) (by exact gq rfl) ?_ (by simp[h6]) u1 u2
   rw[List.foldl_append];exact hv4
  ·have d6:decide (l[i].k=6)=false:=Xc h6
   by_cases h7:l[i].k=7
   ·simp only[go_sem,seval,g1,g2,g3,hlen,a1,b2,k0,k19,k20,h7]
    refine WF.use (h1 hB1 (hbase r1) hv2 h0 (fun i hi=>r1.old (hB i hi)) (by omega)) ?_
    rintro v3 M3 ⟨hv3,hC3,hF3⟩
    obtain ⟨s1,s2⟩:=hstep r1 r2 hC3 hF3
    obtain ⟨wr3,c3,d2,e0,e19,e20⟩:=hmem2 s1
    simp (disch:=first|assumption|omega) only[go_sem,seval,g1,g2,g3,hlen,a1,d2,e0,e19,e20,h7]
    exact fin _ _ v3 (gp l[i].b) (by exact gq rfl) (by exact gq g2) (by exact gq rfl) hv3 (by simp[h7]) s1 s2
   ·have d7:decide (l[i].k=7)=false:=Xc h7
    simp (disch:=first|assumption|omega) only[go_sem,seval,g1,g2,g3,hlen,a1,b2,k0,k19,k20,d6,d7]
    exact fin _ _ v2 [] (by exact gq rfl) (by exact gq g2) (by exact gq rfl) hv2 (by simp[h6,h7]) r1 r2
 ·simp (disch:=first|assumption|omega) only[go_sem,seval,g1,g2,g3,hlen]
  have e:(l.take i)=l:=List.take_of_length_le (by omega)
  rw[e] at hv
  exact hK _ _ ⟨hv,hC,hF⟩
theorem MG {m0:NH} {T:D4->Prop}:∀l:List Stm,Ss m0 T l:=by
 have key:∀x:Stm,Ss m0 T x.b/\Ss m0 T x.e:=by
  apply Stm.ind
  intro k a nm ce i x y b e hb he
  exact ⟨lN hb,lN he⟩
 exact fun l=>lN fun x _=>key x
theorem Kl  {l:List Stm} (hS:SS m0 T v l C) (hC0:Chg [] m0 m) (hsz:bQ l<=10000000):
 ∃r m',rT 78 [v] m r m'/\aY m m' r 1 (bK (locals l))/\Chg [] m m':=by
 refine WF.ex fun K hK=> ?_
 refine WF.of_wpG (fun _=>rfl) Dt (L:= [(.e,v)]) rfl ?_
 unfold P8
 simp only[go_sem,seval,aa]
 have h0:aY m m .nils 1 (bK []):=aY.nil
 refine WF.use (@MG m0 T l v C hS m m .nils [] hC0 h0 (fun i hi=>hC0.old hi) (fun i hi=>hi) (by simp;omega)) ?_
 rintro v2 M2 ⟨hv2,hC2,hF2⟩
 simp only[go_sem,seval]
 exact hK _ _ ⟨hv2,hC2⟩
abbrev iu (z:Int):NV:= .int .u64 (.lit z)
noncomputable def yu (o:Nat) (a b:Int):Int:=if o=43 then (a+b) % 18446744073709551616 else if o=45 then (a - b) % 18446744073709551616 else if o=42 then (a*b) % 18446744073709551616 else if o=38 then ((a.toNat&&& b.toNat:Nat):Int)
 else if o=61 then (if a=b then 1 else 0) else if o=60 then (if bF .i64 a<bF .i64 b then 1 else 0) else 0
def cI (z:Int):Prop:=0<=z/\z<18446744073709551616
theorem Kf {o:Nat} {a b:Int} (ha:cI a) (hb:cI b):cI (yu o a b):=by
 unfold cI at *
 unfold yu
 split
 ·omega
 ·split
  ·omega
  ·split
   ·omega
   ·split
    ·have:=Nat.and_le_left (n:=a.toNat) (m:=b.toNat);omega
    ·split
     ·split<;>omega
     ·split
      ·split<;>omega
      ·omega
def K6 (ns:List (List Nat)) (vs:List Int) (s:List Nat):Int:=if 0<=bC ns s then (vs[(bC ns s).toNat]?).getD 0 else 0
noncomputable def On (o:Nat):List Int->Int
 |a::b::_=>yu o a b
 |_=>0
mutual
noncomputable def Ex.eval (ns:List (List Nat)) (vs:List Int):Ex->Int
 | .mk k n o s ks=>if k=0 then (n:Int) else if k=1 then K6 ns vs s else if k=2 then On o (lY ns vs ks) else 0
noncomputable def lY (ns:List (List Nat)) (vs:List Int):List Ex->List Int
 | []=> []
 |x::xs=>x.eval ns vs::lY ns vs xs
end
inductive Wid:Ex->Prop
 |mk {k:Int} {n o:Nat} {s:List Nat} {ks:List Ex} (hn:n<18446744073709551616) (hl:ks.length<=9223372036854775807) (h:∀x∈ks,Wid x):Wid (.mk k n o s ks)
theorem iT  (hv:∀v∈vs,cI v):∀x:Ex,Wid x->cI (x.eval ns vs):=by
 have h0:cI 0:=⟨by omega,by omega⟩
 apply Ex.ind
 intro k n o s ks ih hw
 cases hw with
 |mk hn hl hw=>
  rw[Ex.eval]
  split
  ·exact ⟨by omega,by omega⟩
  ·split
   ·unfold K6
    split
    ·cases hq:vs[(bC ns s).toNat]? with
     |none=>exact h0
     |some v=>exact hv v (List.mem_of_getElem? hq)
    ·exact h0
   ·split
    ·match ks,ih,hw with
     | [],_,_=>simpa [lY,On] using h0
     | [a],_,_=>simpa [lY,On] using h0
     |a::b::r,ih,hw=>
      simp only[lY,On]
      exact Kf (ih a (by simp) (hw a (by simp))) (ih b (by simp) (hw b (by simp)))
    ·exact h0
theorem S8 (m:NH) (q:Bool):rT 122 [.bool q] m (iu (if q then 1 else 0)) m:=by
 have h:∃r m',rT 122 [.bool q] m r m'/\r=iu (if q then 1 else 0)/\m'=m:=by
  refine WF.ex fun K hK=> ?_
  refine WF.of_wpG (fun _=>rfl) rj (L:= [(.e,.bool q)]) rfl ?_
  unfold Ft
  cases q<;>simp only[go_sem,seval,aa]<;>exact hK _ _ ⟨rfl,rfl⟩
 obtain ⟨r,m',h1,rfl,rfl⟩:=h
 exact h1
theorem Kn {k:IntKind} {n:Int}:IH .i64 (.int k (.lit n))= .val (.int .i64 (.lit (bF .i64 n))):=_root_.id rfl
theorem OB {a b:Int} (ha:cI a) (hb:cI b):dN .num .and (iu a) (iu b)=some (iu ((a.toNat&&& b.toNat:Nat):Int)):=by
 obtain ⟨x,rfl⟩:=Xh ha.1
 obtain ⟨y,rfl⟩:=Xh hb.1
 exact Kc (by have:=ha.2;omega) (by have:=hb.2;omega)
theorem Un (m:NH) (o:Nat) {a b:Int} (ha:cI a) (hb:cI b):rT 86 [u8 o,iu a,iu b] m (iu (yu o a b)) m:=by
 have h:∃r m',rT 86 [u8 o,iu a,iu b] m r m'/\r=iu (yu o a b)/\m'=m:=by
  refine WF.ex fun K hK=> ?_
  refine WF.of_wpG (fun _=>rfl) EX (L:= [(.b .e,iu b),(.a .e,iu a),(.e,u8 o)]) rfl ?_
  unfold Pg
  have hand:=OB ha hb
  have hf:=S8 m
  by_cases h1:o=43
  ·subst h1;simp only[go_sem,seval,aa];exact hK _ _ ⟨rfl,rfl⟩
  ·by_cases h2:o=45
   ·subst h2;simp only[go_sem,seval,aa];exact hK _ _ ⟨rfl,rfl⟩
   ·by_cases h3:o=42
    ·subst h3;simp only[go_sem,seval,aa];exact hK _ _ ⟨rfl,rfl⟩
    ·by_cases h4:o=38
     ·subst h4;simp only[go_sem,seval,aa,hand];exact hK _ _ ⟨rfl,rfl⟩
     ·by_cases h5:o=61
      ·subst h5
       by_cases e:a=b
       ·simp only[go_sem,seval,aa,(hf _).wf'];exact hK _ _ ⟨by simp[yu,e],rfl⟩
       ·simp only[go_sem,seval,aa,(hf _).wf'];exact hK _ _ ⟨by simp[yu,e],rfl⟩
      ·by_cases h6:o=60
       ·subst h6
        by_cases e:bF .i64 a<bF .i64 b
        ·simp only[go_sem,seval,aa,Kn,(hf _).wf'];exact hK _ _ ⟨by simp[yu,e],rfl⟩
        ·simp only[go_sem,seval,aa,Kn,(hf _).wf'];exact hK _ _ ⟨by simp[yu,e],rfl⟩
       ·simp (disch:=first|assumption|omega) only[go_sem,seval,aa];exact hK _ _ ⟨by simp[yu,h1,h2,h3,h4,h5,h6],rfl⟩
 obtain ⟨r,m',h1,rfl,rfl⟩:=h
 exact h1
abbrev kv (l:List Int):List (List NV):=l.map fun z=> [iu z]
structure Env (m0:NH) (vn vv:NV) (ns:List (List Nat)) (vs:List Int):Prop where
 n:Sl m0 vn 1 (bK ns)
 v:Sl m0 vv 1 (kv vs)
 i:∀z∈vs,cI z
 ln:ns.length<=1000000
 lv:vs.length<=1000000
theorem Env.grow  {vv:NV} (h:Env m0 vn vv ns vs) (hC:Chg [] m0 m):Env m vn vv ns vs:=⟨h.n.chg hC fun _ _=>by simp,h.v.chg hC fun _ _=>by simp,h.i,h.ln,h.lv⟩
theorem O1  {s:List Nat} {i:Nat} (h:bC ns s=i) (hi:i<vs.length):K6 ns vs s=vs[i]:=by
 unfold K6
 rw[h,Xb (by omega),Int.toNat_natCast,List.getElem?_eq_getElem hi];rfl
theorem Oo  {s:List Nat} (h:bC ns s<0∨(vs.length:Int)<=bC ns s):K6 ns vs s=0:=by
 unfold K6
 split
 ·rw[List.getElem?_eq_none (by omega)];rfl
 ·rfl
def W6 (f:Nat) (ns:List (List Nat)) (vs:List Int) (x:Ex):Prop:=∀{m0 m:NH} {T:D4->Prop} {c:List NV} {vn vv:NV},RE m0 T x c->bz T m0 m->Wid x->Env m vn vv ns vs->∃m',rT f [.agg c,vn,vv] m (iu (x.eval ns vs)) m'/\Chg [] m m'
theorem bz.grow  {a b c:NH} (h:bz T a b) (hC:Chg [] b c):bz T a c:=fun i hi ho=>by
 obtain ⟨h1,h2⟩:=h i hi ho
 exact ⟨(hC.get h2 (by simp)).trans h1,hC.old h2⟩
theorem uQ  {ks:List Ex} (hS:SE m0 T vk ks C) (hst:bz T m0 M) (i:Nat) (hi:i<ks.length):∃u id off w c,RE m0 T ks[i] (ks[i].l u)/\ix 5 vk (.int .i64 (.lit (i:Int)))= .val (.ptr id off)/\M.get id=some (.cells w c)/\am M id/\off+5<=c.length/\(c.drop off).take 5=ks[i].l u:=by
 obtain ⟨cx,hcx,hRx⟩:=hS.at i hi
 have hc:i<C.length:=by rw[hS.len];exact hi
 obtain ⟨id,off,wr,c,a1,a2,a3,a4,a5⟩:=(hS.stays hst).sl.at i hc
 obtain ⟨u,Cx,rfl,-⟩:=hRx.inv'
 rw[List.getElem?_eq_getElem hc] at hcx
 injection hcx with hcx
 exact ⟨u,id,off,wr,c,hRx,a1,a2,a3,a4,a5.trans hcx⟩
theorem fO  {x:Ex} (h:RE m T x (x.l u)):bg 4 (.agg (x.l u)) (.agg (x.l u))=true:=by
 cases x
 obtain ⟨v,C,e,hS⟩:=h.inv
 refine dH ?_
 intro w hw
 rw[e] at hw
 simp only[Xf,Xe,or_false] at hw
 rcases hw with rfl|rfl|rfl|rfl|rfl
 ·trivial
 ·trivial
 ·trivial
 ·trivial
 ·exact hS.sl.flat
theorem Qg  {vv:NV} {k:Int} {n o:Nat} {s:List Nat} {b:D4} (hen:Env M vn vv ns vs) (hg:M.get b=some (.cells true [ii k,u64 n,u8 o,.str s,vk])) (ho:am M b) (g1:NT.get D4.e.a t=some vn) (g2:NT.get D4.e.b t=some vv) (g3:NT.get D4.e.c t=some (.ptr b 0)) (g4:NT.get D4.e.a.c t=some (ii 0))
 (hY:∀t' z,K6 ns vs s=z->NT.get D4.e.a.b t'=some (iu z)->Q .ret ⟨ah [] t', [],none,M⟩) (hN:∀t',K6 ns vs s=0->Q (.exit 1) ⟨ah [] t', [],none,M⟩):
 W Tryz.prog S0 none tT.loop ⟨t, [],none,M⟩ Q:=by
 have hlv:=hen.v.len
 have hln:=hen.n.len
 rw[List.length_map] at hlv hln
 have hbn:=hen.ln
 refine W.loop (fun k d=>∃t i,d=⟨t, [],none,M⟩/\NT.get D4.e.a t=some vn/\NT.get D4.e.b t=some vv/\NT.get D4.e.c t=some (.ptr b 0)/\NT.get D4.e.a.c t=some (ii (i:Nat))/\i+k=ns.length/\∀j (hj:j<i) (hl:j<ns.length),s≠ns[j]) ?_ ns.length _ ⟨t,0,rfl,g1,g2,g3,g4,by omega,by simp⟩
 clear g1 g2 g3 g4
 rintro kk d ⟨t,i,rfl,g1,g2,g3,g4,hik,hn⟩
 apply ax
 unfold tT
 change wp _ _ _ _ ⟨ah [] t, [],none,M⟩ _
 by_cases hi:i<ns.length
 ·by_cases hl:i<vs.length
  ·obtain ⟨id,off,w,c,a1,a2,a3,a4,a5⟩:=hen.n.at i (by simpa using hi)
   rw[List.getElem_map] at a5
   have c0:c[off]? =some (.str ns[i]):=aF a5 0 (by omega)
   obtain ⟨id2,off2,w2,c2,b1,b2,b3,b4,b5⟩:=hen.v.at i (by simpa using hl)
   rw[List.getElem_map] at b5
   have d0:c2[off2]? =some (iu vs[i]):=aF b5 0 (by omega)
   by_cases he:s=ns[i]
   ·have he':decide (ns[i]=s)=true:=Xd he.symm
    simp (disch:=first|assumption|omega) only[go_sem,seval,g1,g2,g3,g4,hln,hlv,a1,a2,c0,hg,he',b1,b2,d0]
    exact hY _ _ (O1 (f0 hi he fun j hj=>hn j hj (by omega)) hl) (by simp only[go_sem,seval])
   ·have he':decide (ns[i]=s)=false:=Xc fun e=>he e.symm
    simp (disch:=first|assumption|omega) only[go_sem,seval,g1,g2,g3,g4,hln,hlv,a1,a2,c0,hg,he']
    refine ⟨kk - 1,by omega,_,i+1,by rfl,by simp only[go_sem,seval,g1],by simp only[go_sem,seval,g2],by simp only[go_sem,seval,g3],by simp only[go_sem,seval]<;>rfl,by omega, ?_⟩
    intro j hj hl2
    rcases Nat.lt_or_ge j i with h|h
    ·exact hn j h hl2
    ·have:j=i:=by omega
     subst this;exact he
  ·simp (disch:=first|assumption|omega) only[go_sem,seval,g1,g2,g3,g4,hln,hlv]
   refine hN _ (Oo ?_)
   by_cases hf:0<=bC ns s
   ·right
    obtain ⟨j,hj⟩:=Xh hf
    have hlt:=(pg (l:=ns) (x:=s)).1
    rcases Nat.lt_or_ge j i with h|h
    ·exfalso
     have hjl:j<ns.length:=by omega
     unfold bC at hj
     cases hq:ns.findIdx? (fun a=>decide (s=a)) with
     |none=>rw[hq] at hj;dsimp only at hj;omega
     |some q=>
      rw[hq] at hj
      obtain ⟨h1,h2,-⟩:=List.findIdx?_eq_some_iff_getElem.mp hq
      have:q=j:=by dsimp only at hj;omega
      subst this
      exact hn q h hjl (by simpa using h2)
    ·omega
   ·exact Or.inl (by omega)
 ·simp (disch:=first|assumption|omega) only[go_sem,seval,g1,g2,g3,g4,hln,hlv]
  refine hN _ (Oo (Or.inl ?_))
  rw[eY fun j hj=>hn j (by omega) hj];omega
theorem pV :∀x:Ex,W6 80 ns vs x:=by
 apply Ex.ind
 intro k n o s ks ih m0 m T c vn vv hR hst hw hen
 obtain ⟨vk,C,rfl,hS⟩:=hR.inv
 refine WF.ex1 fun K hK=> ?_
 refine WF.of_wpG (fun _=>rfl) Fa (L:= [(.b .e,vv),(.a .e,vn),(.e,.agg [ii k,u64 n,u8 o,.str s,vk])]) rfl ?_
 unfold RT
 generalize hM1:hp [(.n 0,.cells true [ii k,u64 n,u8 o,.str s,vk])] 1 m=M1
 have hC1:Chg [] m M1:=aR hM1 rfl
 have hg1:M1.get (na m 0)=some (.cells true [ii k,u64 n,u8 o,.str s,vk]):=bu hM1
 have hen1:=hen.grow hC1
 have hst1:=hst.grow hC1
 rw[Ex.eval] at hK
 by_cases h0:k=0
 ·rw[Xb h0] at hK
  simp (disch:=first|assumption|omega) only[go_sem,seval,hM1,hg1]
  exact hK _ hC1
 ·rw[Xa h0] at hK
  by_cases h1:k=1
  ·rw[Xb h1] at hK
   have hlv:=hen1.v.len
   have hln:=hen1.n.len
   rw[List.length_map] at hlv hln
   have hbn:=hen.ln
   simp (disch:=first|assumption|omega) only[go_sem,seval,hM1,hg1]
   have ho1:am M1 (na m 0):=bt hM1 (by omega)
   refine Qg hen1 hg1 ho1 (by exact gq rfl) (by exact gq rfl) (by exact gq rfl) (by exact gq rfl) ?_ ?_
   ·intro t' z hz g1
    rw[hz] at hK
    simp only[go_sem,seval,g1]
    exact hK _ hC1
   ·intro t' hz
    rw[hz] at hK
    simp only[go_sem,seval]
    exact hK _ hC1
  ·rw[Xa h1] at hK
   have hlk:=(hS.stays hst1).sl.len
   rw[hS.len] at hlk
   cases hw with
   |mk hn hl hwk=>
    by_cases h2:k=2
    ·rw[Xb h2] at hK
     by_cases h3:2<=ks.length
     ·obtain ⟨ua,ia,oa,wa,ca,hRa,a1,a2,a3,a4,a5⟩:=uQ hS hst1 0 (by omega)
      obtain ⟨ub,ib,ob,wb,cb,hRb,b1,b2,b3,b4,b5⟩:=uQ hS hst1 1 (by omega)
      have e2:ks=ks[0]::ks[1]::ks.drop 2:=by
       rw[←List.drop_eq_getElem_cons (by omega),←List.drop_eq_getElem_cons (by omega),List.drop_zero]
      have e1:On o (lY ns vs ks)=yu o (ks[0].eval ns vs) (ks[1].eval ns vs):=by
       conv=>lhs;rw[e2]
       simp only[lY,On]
      rw[e1] at hK
      have ma:ks[0]∈ks:=List.getElem_mem _
      have mb:ks[1]∈ks:=List.getElem_mem _
      have a1':ix 5 vk (ii 0)= .val (.ptr ia oa):=a1
      have b1':ix 5 vk (ii 1)= .val (.ptr ib ob):=b1
      obtain ⟨M2,hr2,hC2⟩:=ih _ ma hRa hst1 (hwk _ ma) hen1
      have hst2:=hst1.grow hC2
      obtain ⟨M3,hr3,hC3⟩:=ih _ mb hRb hst2 (hwk _ mb) (hen1.grow hC2)
      have ho1:am M1 (na m 0):=bt hM1 (by omega)
      have hg2:=(hC2.get ho1 (by simp)).trans hg1
      have hg3:=(hC3.get (hC2.old ho1) (by simp)).trans hg2
      have a22:=(hC2.get a3 (by simp)).trans a2
      have b22:=(hC2.get b3 (by simp)).trans b2
      have a23:=(hC3.get (hC2.old a3) (by simp)).trans a22
      have b23:=(hC3.get (hC2.old b3) (by simp)).trans b22
      have hrk:=Un M3 o (iT (ns:=ns) hen.i _ (hwk _ ma)) (iT (ns:=ns) hen.i _ (hwk _ mb))
      have hvk:bg 4 vk vk=true:=hS.sl.same
      have hsa:=fO hRa
      have hsb:=fO hRb
      simp (disch:=first|assumption|omega) only[go_sem,seval,hM1,hg1,hlk,a1',a2,a5,b1',b2,b5,hr2.wf',hg2,a22,b22,hr3.wf',hg3,a23,b23,hrk.wf',hvk,hsa,hsb]
      exact hK _ ((hC1.tr hC2).tr hC3)
     ·have e1:On o (lY ns vs ks)=0:=by
       match ks,h3 with
       | [],_=>rfl
       | [a],_=>rfl
       |a::b::r,h3=>simp at h3
      rw[e1] at hK
      simp (disch:=first|assumption|omega) only[go_sem,seval,hM1,hg1,hlk]
      exact hK _ hC1
    ·rw[Xa h2] at hK
     simp (disch:=first|assumption|omega) only[go_sem,seval,hM1,hg1]
     exact hK _ hC1
def nH (s:Int):Bool:=decide (1<=s/\s<=64/\s.toNat&&& (s.toNat - 1)=0)
def cM:List (List Nat)->Int->List (List Nat×Int)->Int
 |_,_, []=>0
 |seen,w,c::l=>if c.1∈seen then 5 else if nH c.2=false then 7 else if 64 - w<c.2 then 3 else cM (aJ seen c.1) (w+c.2) l
def gu:List (List Nat)->List (List Nat)->Int
 |_, []=>0
 |seen,n::l=>if n∈seen then 5 else gu (aJ seen n) l
theorem HK {l:List (List Nat)} {s x:List Nat}:x∈aJ l s↔x∈l∨x=s:=by
 unfold aJ
 split
 ·rename_i h;constructor
  ·exact Or.inl
  ·rintro (q|rfl)
   ·exact q
   ·exact h
 ·simp
theorem ei {x:List Nat}:∀(more l:List (List Nat)),x∈more.foldl aJ l↔x∈l∨x∈more:=by
 intro more
 induction more with
 |nil=>intro l;simp
 |cons a more ih=>intro l;rw[List.foldl_cons,ih,HK,Xf,or_assoc]
theorem Mi {a b:Nat} (ha:a<1000) (hb:b<1000):dN .num .and (ii a) (ii b)=some (ii ((a&&& b:Nat):Int)):=
 (iU rfl).trans (bits_nat (k:= .i64) (Or.inl rfl) (by show a<9223372036854775808;omega) (by show b<9223372036854775808;omega) rfl)
theorem ut {s:Int} (h1:1<=s) (h2:s<=64):dN .num .and (ii s) (ii (s - 1))=some (ii (s.toNat&&& (s.toNat - 1):Nat)):=by
 obtain ⟨n,rfl⟩:=Xh (by omega:0<=s)
 rw[show ((n:Int) - 1)=((n - 1:Nat):Int) by omega]
 exact Mi (by omega) (by omega)
theorem MI  {l:List (List Nat×Int)} (hv:Sl m v 2 (lU l)) (hsz:l.length<=1000000):∃m',rT 113 [v] m (ii (cM [] 0 l)) m'/\Chg [] m m':=by
 refine WF.ex1 fun K hK=> ?_
 refine WF.of_wpG (fun _=>rfl) yG (L:= [(.e,v)]) rfl ?_
 unfold Ir
 have hlen:=hv.len
 rw[List.length_map] at hlen
 simp only[go_sem,seval,hlen]
 generalize hM0:hp _ 1 m=M0
 have hC0:Chg [] m M0:=aR hM0 rfl
 have hg0:M0.get (na m 0)=some (.map (ir [])):=bu hM0
 have ho0:am M0 (na m 0):=bt hM0 (by omega)
 refine W.loop (fun k d=>∃t M i seen w,d=⟨t, [],none,M⟩/\NT.get D4.e.c t=some (ii w)/\NT.get D4.e.f t=some (.map (na m 0))/\NT.get D4.e.a.f t=some v/\NT.get D4.e.b.a t=some (ii l.length)/\NT.get D4.e.b.b t=some (ii (i:Nat))/\i+k=l.length/\0<=w/\w<=64/\cM seen w (l.drop i)=cM [] 0 l/\M.get (na m 0)=some (.map (ir seen))/\am M (na m 0)/\Chg [] m M) ?_ l.length _ ⟨_,M0,0, [],0,rfl,by exact gq rfl,by exact gq rfl,by exact gq rfl,by exact gq rfl,by exact gq rfl,by omega,by omega,by omega,rfl,hg0,ho0,hC0⟩
 rintro k d ⟨t,M,i,seen,w,rfl,g1,g2,g3,g4,g5,hik,hw0,hw,hE,hg,ho,hC⟩
 apply ax
 unfold vI
 change wp _ _ _ _ ⟨ah [] t, [],none,M⟩ _
 rw[←aa M]
 by_cases hi:i<l.length
 ·obtain ⟨id,off,wr,c,a1,a2,a3,a4,a5⟩:=hv.at i (by simpa using hi)
  rw[List.getElem_map] at a5
  have a2':=(hC.get a3 (by simp)).trans a2
  have a3':=hC.old a3
  rw[List.drop_eq_getElem_cons hi] at hE
  generalize hc:l[i]=cc at hE a5
  obtain ⟨n,s⟩:=cc
  rw[cM] at hE
  dsimp only at hE a5
  by_cases hin:n∈seen
  ·rw[Xb hin] at hE
   have hd:decide (n∈seen)=true:=Xd hin
   simp (disch:=first|assumption|omega|(simp only[aG]<;>omega)) only[go_sem,seval,g1,g2,g3,g4,g5,hlen,a1,a2',a5,hg,hd]
   rw[←hE] at hK
   exact hK _ (ge hC rfl)
  ·rw[Xa hin] at hE
   have hd:decide (n∈seen)=false:=Xc hin
   by_cases hpw:nH s=true
   ·rw[Xa (by simp[hpw])] at hE
    have hp':=of_decide_eq_true hpw
    obtain ⟨p1,p2,p3⟩:=hp'
    have hpa:=ut p1 p2
    rw[p3] at hpa
    by_cases hlw:64 - w<s
    ·rw[Xb hlw] at hE
     simp (disch:=first|assumption|omega|(simp only[aG]<;>omega)) only[go_sem,seval,g1,g2,g3,g4,g5,hlen,a1,a2',a5,hg,hd,hpa]
     rw[←hE] at hK
     exact hK _ (ge hC rfl)
    ·rw[Xa hlw] at hE
     simp (disch:=first|assumption|omega|(simp only[aG]<;>omega)) only[go_sem,seval,g1,g2,g3,g4,g5,hlen,a1,a2',a5,hg,hd,hpa]
     generalize hM1:hp _ 1 M=M1
     have hC1:Chg [na m 0] M M1:=aR hM1 rfl
     refine ⟨k - 1,by omega,_,M1,i+1,_,w+s,by rfl,by exact gq rfl,by exact gq g2,by exact gq g3,by exact gq g4,by exact gq rfl,by omega,by omega,by omega,hE, ?_,hC1.old ho,hC.trans hC1 fun i hi ho=> ?_⟩
     ·rw[←hM1];exact (aE ho).trans aq
     ·have hi:=one hi;subst hi;exact W9 ho aA
   ·have hpw:nH s=false:=by simpa using hpw
    rw[Xb hpw] at hE
    have hp':=of_decide_eq_false hpw
    by_cases h1:s<1
    ·simp (disch:=first|assumption|omega|(simp only[aG]<;>omega)) only[go_sem,seval,g1,g2,g3,g4,g5,hlen,a1,a2',a5,hg,hd]
     rw[←hE] at hK
     exact hK _ (ge hC rfl)
    ·by_cases h2:64<s
     ·simp (disch:=first|assumption|omega|(simp only[aG]<;>omega)) only[go_sem,seval,g1,g2,g3,g4,g5,hlen,a1,a2',a5,hg,hd]
      rw[←hE] at hK
      exact hK _ (ge hC rfl)
     ·have hpa:=ut (by omega:1<=s) (by omega)
      have hne:s.toNat&&& (s.toNat - 1)≠0:=fun h=>hp' ⟨by omega,by omega,h⟩
      generalize s.toNat&&& (s.toNat - 1)=r at hpa hne
      simp (disch:=first|assumption|omega|(simp only[aG]<;>omega)) only[go_sem,seval,g1,g2,g3,g4,g5,hlen,a1,a2',a5,hg,hd,hpa]
      rw[←hE] at hK
      exact hK _ (ge hC rfl)
 ·simp (disch:=first|assumption|omega) only[go_sem,seval,g1,g2,g3,g4,g5,hlen]
  rw[List.drop_of_length_le (by omega),cM] at hE
  rw[←hE] at hK
  rw[aa]
  exact hK _ hC
theorem FN  {l:List (List Nat×List Stm)} (hT:Ths m T v l C) (hsz:l.length<=1000000):∃m',rT 114 [v] m (ii (gu [] (l.map (·.1)))) m'/\Chg [] m m':=by
 refine WF.ex1 fun K hK=> ?_
 refine WF.of_wpG (fun _=>rfl) wF (L:= [(.e,v)]) rfl ?_
 unfold Hq
 have hlen:=hT.sl.len
 rw[hT.len] at hlen
 simp only[go_sem,seval,hlen]
 generalize hM0:hp _ 1 m=M0
 have hC0:Chg [] m M0:=aR hM0 rfl
 have hg0:M0.get (na m 0)=some (.map (ir [])):=bu hM0
 have ho0:am M0 (na m 0):=bt hM0 (by omega)
 refine W.loop (fun k d=>∃t M i seen,d=⟨t, [],none,M⟩/\NT.get D4.e.c t=some (.map (na m 0))/\NT.get D4.e.a.c t=some v/\NT.get D4.e.a.f t=some (ii l.length)/\NT.get D4.e.b.a t=some (ii (i:Nat))/\i+k=l.length/\gu seen ((l.map (·.1)).drop i)=gu [] (l.map (·.1))/\M.get (na m 0)=some (.map (ir seen))/\am M (na m 0)/\Chg [] m M) ?_ l.length _ ⟨_,M0,0, [],rfl,by exact gq rfl,by exact gq rfl,by exact gq rfl,by exact gq rfl,by omega,rfl,hg0,ho0,hC0⟩
 rintro k d ⟨t,M,i,seen,rfl,g1,g2,g3,g4,hik,hE,hg,ho,hC⟩
 apply ax
 unfold w9
 change wp _ _ _ _ ⟨ah [] t, [],none,M⟩ _
 rw[←aa M]
 by_cases hi:i<l.length
 ·obtain ⟨vb,B,id,off,wr,c,-,a1,a2,a3,a4,a5⟩:=hT.at i hi
  have a2':=(hC.get a3 (by simp)).trans a2
  have a3':=hC.old a3
  rw[List.drop_eq_getElem_cons (by simpa using hi),List.getElem_map,gu] at hE
  generalize l[i].1=n at hE a5
  by_cases hin:n∈seen
  ·rw[Xb hin] at hE
   have hd:decide (n∈seen)=true:=Xd hin
   simp (disch:=first|assumption|omega|(simp only[aG]<;>omega)) only[go_sem,seval,g1,g2,g3,g4,hlen,a1,a2',a5,hg,hd]
   rw[←hE] at hK
   exact hK _ (ge hC rfl)
  ·rw[Xa hin] at hE
   have hd:decide (n∈seen)=false:=Xc hin
   simp (disch:=first|assumption|omega|(simp only[aG]<;>omega)) only[go_sem,seval,g1,g2,g3,g4,hlen,a1,a2',a5,hg,hd]
   generalize hM1:hp _ 1 M=M1
   have hC1:Chg [na m 0] M M1:=aR hM1 rfl
   refine ⟨k - 1,by omega,_,M1,i+1,_,by rfl,by exact gq g1,by exact gq g2,by exact gq g3,by exact gq rfl,by omega,hE, ?_,hC1.old ho,hC.trans hC1 fun i hi ho=> ?_⟩
   ·rw[←hM1];exact (aE ho).trans aq
   ·have hi:=one hi;subst hi;exact W9 ho aA
 ·simp (disch:=first|assumption|omega) only[go_sem,seval,g1,g2,g3,g4,hlen]
  rw[List.drop_of_length_le (by simp;omega),gu] at hE
  rw[←hE] at hK
  rw[aa]
  exact hK _ hC
def kT (p:Prg):Int:=if 16<p.cs.length∨p.ts.length=0∨4<p.ts.length then 3 else if cM [] 0 p.cs≠0 then cM [] 0 p.cs else gu [] (p.ts.map (·.1))
theorem RU  {p:Prg} {vt vr:NV} (h:RP m T p vc vt vr) (hs:p.cs.length<=1000000/\p.ts.length<=1000000):∃m',rT 72 [.agg [vc,vt,vr]] m (ii (kT p)) m'/\Chg [] m m':=by
 refine WF.ex1 fun K hK=> ?_
 refine WF.of_wpG (fun _=>rfl) Fh (L:= [(.e,.agg [vc,vt,vr])]) rfl ?_
 unfold QN
 obtain ⟨C,hT⟩:=h.t
 have l1:=h.c.len
 have l2:=hT.sl.len
 rw[List.length_map] at l1
 rw[hT.len] at l2
 unfold kT at hK
 by_cases h1:16<p.cs.length
 ·rw[Xb (Or.inl h1)] at hK
  simp (disch:=first|assumption|omega) only[go_sem,seval,l1,l2]
  exact hK _ (aI rfl)
 ·by_cases h2:p.ts.length=0
  ·rw[Xb (Or.inr (Or.inl h2))] at hK
   simp (disch:=first|assumption|omega) only[go_sem,seval,l1,l2]
   exact hK _ (aI rfl)
  ·by_cases h3:4<p.ts.length
   ·rw[Xb (Or.inr (Or.inr h3))] at hK
    simp (disch:=first|assumption|omega) only[go_sem,seval,l1,l2]
    exact hK _ (aI rfl)
   ·rw[Xa (by omega)] at hK
    have hC1:Chg [] m (hp [(.n 0,.cells true [vc,vt,vr])] 1 m):=aI rfl
    obtain ⟨m2,hr,hC2⟩:=MI (h.c.chg hC1 fun _ _=>by simp) hs.1
    have g2:m2.get (na m 0)=some (.cells true [vc,vt,vr]):=(hC2.get (bN (by omega)) (by simp)).trans bI
    have o2:am m2 (na m 0):=hC2.old (bN (by omega))
    have hC:=hC1.tr hC2
    simp (disch:=first|assumption|omega) only[go_sem,seval,l1,l2,hr.wf',g2,o2]
    by_cases h4:cM [] 0 p.cs=0
    ·rw[Xa (by simpa using h4)] at hK
     rw[h4]
     obtain ⟨m3,hr3,hC3⟩:=FN (hT.stays (kQ hC T)) hs.2
     simp only[go_sem,seval,g2,o2,hr3.wf']
     exact hK _ (hC.tr hC3)
    ·rw[Xb h4] at hK
     have hd:decide (cM [] 0 p.cs≠0)=true:=Xd h4
     simp only[go_sem,seval,g2,o2,hd]
     exact hK _ hC
theorem vf  {l:List (List Nat×Int)} (hv:Sl m v 2 (lU l)) (hsz:l.length<=1000000) (s:List Nat):rT 74 [v,.str s] m (ii (bC (l.map (·.1)) s)) m:=by
 have h:∃r m',rT 74 [v,.str s] m r m'/\r=ii (bC (l.map (·.1)) s)/\m'=m:=by
  refine WF.ex fun K hK=> ?_
  refine WF.of_wpG (fun _=>rfl) Fi (L:= [(.a .e,.str s),(.e,v)]) rfl ?_
  unfold RO
  have hlen:=hv.len
  rw[List.length_map] at hlen
  simp only[go_sem,seval,aa]
  refine W.loop (fun k d=>∃t i,d=⟨t, [],none,m⟩/\NT.get D4.e t=some v/\NT.get D4.e.a t=some (.str s)/\NT.get D4.e.a.a t=some (ii (i:Nat))/\i+k=l.length/\∀j (hj:j<i) (hl:j<l.length),s≠l[j].1) ?_ l.length _ ⟨_,0,rfl,by exact gq rfl,by exact gq rfl,by exact gq rfl,by omega,by simp⟩
  rintro k d ⟨t,i,rfl,g1,g2,g3,hik,hn⟩
  apply ax
  unfold Fq
  change wp _ _ _ _ ⟨ah [] t, [],none,m⟩ _
  by_cases hi:i<l.length
  ·obtain ⟨id,off,wr,c,a1,a2,a3,a4,a5⟩:=hv.at i (by simpa using hi)
   rw[List.getElem_map] at a5
   have c0:c[off+0]? =some (.str l[i].1):=aF a5 0 (by omega)
   by_cases he:l[i].1=s
   ·simp (disch:=first|assumption|omega) only[go_sem,seval,g1,g2,g3,hlen,a1,a2,c0,he]
    have hf:bC (l.map (·.1)) s=i:=f0 (by simpa using hi) (by simp[he]) fun j hj=>by rw[List.getElem_map];exact hn j hj (by omega)
    exact hK _ _ ⟨by rw[hf],rfl⟩
   ·simp (disch:=first|assumption|omega) only[go_sem,seval,g1,g2,g3,hlen,a1,a2,c0,he]
    refine ⟨k - 1,by omega,_,i+1,by rfl,by exact gq g1,by exact gq g2,by exact gq rfl,by omega,fun j hj hl=> ?_⟩
    rcases Nat.lt_or_ge j i with q|q
    ·exact hn j q hl
    ·obtain rfl:j=i:=by omega
     exact fun q=>he q.symm
  ·simp (disch:=first|assumption|omega) only[go_sem,seval,g1,g2,g3,hlen]
   have hf:bC (l.map (·.1)) s=-1:=eY fun j hj=>by rw[List.getElem_map];exact hn j (by simp at hj;omega) (by simpa using hj)
   exact hK _ _ ⟨by rw[hf],rfl⟩
 obtain ⟨r,m',h1,rfl,rfl⟩:=h
 exact h1
theorem ME (m:NH) (s:Int):rT 75 [ii s] m (.bool (nH s)) m:=by
 have h:∃r m',rT 75 [ii s] m r m'/\r= .bool (nH s)/\m'=m:=by
  refine WF.ex fun K hK=> ?_
  refine WF.of_wpG (fun _=>rfl) ER (L:= [(.e,ii s)]) rfl ?_
  unfold OS
  by_cases h1:1<=s
  ·by_cases h2:s<=64
   ·have hpa:=ut h1 h2
    by_cases h3:s.toNat&&& (s.toNat - 1)=0
    ·rw[h3] at hpa
     simp (disch:=first|assumption|omega) only[go_sem,seval,aa,hpa]
     exact hK _ _ ⟨by unfold nH;rw[Xd ⟨h1,h2,h3⟩],rfl⟩
    ·have hne:nH s=false:=Xc fun h=>h3 h.2.2
     generalize s.toNat&&& (s.toNat - 1)=r at hpa h3
     simp (disch:=first|assumption|omega) only[go_sem,seval,aa,hpa]
     exact hK _ _ ⟨by rw[hne],rfl⟩
   ·simp (disch:=first|assumption|omega) only[go_sem,seval,aa]
    exact hK _ _ ⟨by unfold nH;rw[Xc fun h=>h2 h.2.1],rfl⟩
  ·simp (disch:=first|assumption|omega) only[go_sem,seval,aa]
   exact hK _ _ ⟨by unfold nH;rw[Xc fun h=>h1 h.1],rfl⟩
 obtain ⟨r,m',h1,rfl,rfl⟩:=h
 exact h1
structure Sp where
 (k d a b c t ce n o:Int)
abbrev ib (z:Int):NV:= .int .u8 (.lit z)
abbrev Sp.l (s:Sp):List NV:= [ii s.k,ii s.d,ii s.a,ii s.b,ii s.c,ii s.t,ii s.ce,iu s.n,ib s.o]
structure Ms where
 st:List Sp
 (v lb:Int)
variable {X:Ms}
def aU (s:Sp) (X:Ms):Ms:=⟨X.st++ [s],X.v,X.lb⟩
def aM (n:Int) (X:Ms):Ms:=aU ⟨0,X.v,0,0,0,0,0,n,0⟩ ⟨X.st,X.v+1,X.lb⟩
def jG (o a b:Int) (X:Ms):Ms:=aU ⟨2,X.v,a,b,0,0,0,0,o⟩ ⟨X.st,X.v+1,X.lb⟩
structure Ms.ok (X:Ms) (k:Nat):Prop where
 s:X.st.length+k<=1000000000
 v0:0<=X.v
 v:X.v+k<=1000000000
 l0:0<=X.lb
 l:X.lb+k<=1000000000
theorem Ms.ok.weak  {k j:Nat} (h:X.ok k) (hj:j<=k):X.ok j:=⟨by have:=h.s;omega,h.v0,by have:=h.v;omega,h.l0,by have:=h.l;omega⟩
theorem c8  {k:Nat} (h:X.ok (k+1)) (s:Sp):(aU s X).ok k:=⟨by have:=h.s;simp[aU];omega,h.v0,by have:=h.v;simp only[aU];omega,h.l0,by have:=h.l;simp only[aU];omega⟩
theorem gj  {k:Nat} (h:X.ok (k+1)) (n:Int):(aM n X).ok k:=⟨by have:=h.s;simp[aM,aU];omega,by have:=h.v0;simp only[aM,aU];omega,by have:=h.v;simp only[aM,aU];omega,h.l0,by have:=h.l;simp only[aM,aU];omega⟩
theorem tq  {k:Nat} (h:X.ok (k+1)) (o a b:Int):(jG o a b X).ok k:=⟨by have:=h.s;simp[jG,aU];omega,by have:=h.v0;simp only[jG,aU];omega,by have:=h.v;simp only[jG,aU];omega,h.l0,by have:=h.l;simp only[jG,aU];omega⟩
structure MK (B m:NH) (r:D4) (vc vn:NV) (lo:Int) (vs:NV) (X:Ms):Prop where
 g:m.get r=some (.cells true [vc,vn,ii X.v,ii lo,vs,ii X.lb])
 o:am m r
 nB:¬am B r
 s:aY B m vs 9 (X.st.map Sp.l)
 n:r∉ids vs
 c:Chg [] B m
structure Ev (r:D4) (vs vs':NV) (m m':NH):Prop where
 c:Chg (r::ids vs) m m'
 f:∀j∈ids vs',j∈ids vs∨¬am m j
section
variable {B m m' m'' M:NH} {r i:D4} {vc vn vs vs' vs'':NV} {lo:Int} {X X':Ms}
theorem Ev.trans (h:Ev r vs vs' m m') (h':Ev r vs' vs'' m' m''):Ev r vs vs'' m m'':=
 ⟨h.c.trans h'.c fun i hi ho=>by
  rcases List.mem_cons.mp hi with rfl|hi
  ·exact List.mem_cons_self ..
  ·exact (h.f i hi).elim (fun q=>List.mem_cons_of_mem _ q) fun q=>W9 ho q,
 fun j hj=>(h'.f j hj).elim (h.f j) fun q=>Or.inr fun ho=>q (h.c.old ho)⟩
theorem Ev.pre (hC:Chg [] m m') (h:Ev r vs vs' m' m''):Ev r vs vs' m m'':=
 ⟨(hC.weak (T:=r::ids vs) (by simp)).trans h.c fun i hi _=>hi,fun j hj=>(h.f j hj).imp id fun q ho=>q (hC.old ho)⟩
theorem Ev.grow (hC:Chg [] m m'):Ev r vs vs m m':=⟨hC.weak (by simp),fun j hj=>Or.inl hj⟩
theorem Ev.get (h:Ev r vs vs' m m') (ho:am m i) (hr:i≠r) (hi:i∉ids vs):m'.get i=m.get i:=h.c.get ho (by simp[hr,hi])
theorem Ev.nin (h:Ev r vs vs' m m') (ho:am m i) (hi:i∉ids vs):i∉ids vs':=fun q=>(h.f i q).elim hi fun q=>q ho
theorem MK.grow (h:MK B m r vc vn lo vs X) (hC:Chg [] m m'):MK B m' r vc vn lo vs X:=
 ⟨(hC.get h.o (by simp)).trans h.g,hC.old h.o,h.nB,h.s.chg hC fun _ _=>by simp,h.n,h.c.tr hC⟩
theorem MK.new (h:MK B m r vc vn lo vs X) (k:Nat):na m k≠r/\na m k∉ids vs:=⟨fun e=>h.o.ne k e.symm,fun q=>aA (h.s.sl.old _ q)⟩
theorem MK.chg (h:MK B m r vc vn lo vs X) (hE:Ev r vs vs' m m'):Chg [] B m':=h.c.trans hE.c fun i hi ho=>by
 rcases List.mem_cons.mp hi with rfl|hi
 ·exact W9 ho h.nB
 ·exact W9 ho (h.s.new i hi)
end
section
variable {B m:NH} {r:D4} {vc vn vs:NV} {lo:Int} {X:Ms}
theorem fy (h:MK B m r vc vn lo vs X) (s:Sp) (hl:X.st.length<=10000000000):∃m',rT 64 [.ptr r 0,.agg s.l] m (.tup []) m'/\∃vs',MK B m' r vc vn lo vs' (aU s X)/\Ev r vs vs' m m':=by
 refine WF.ex1 fun K hK=> ?_
 refine WF.of_wpG (fun _=>rfl) BY (L:= [(.a .e,.agg s.l),(.e,.ptr r 0)]) rfl ?_
 unfold Pw
 have hg:=h.g
 have ho:=h.o
 have hs1:=h.s.sl.same (n:=3)
 simp (disch:=first|assumption|omega|(simp only[aG]<;>omega)) only[go_sem,seval,hg]
 generalize hM:hp _ 2 m=M
 have hC:Chg [] m M:=aR hM rfl
 have gx:M.get (na m 1)=some (.cells true s.l):=bu hM
 have g0:M.get (na m 0)=some (.cells true s.l):=bu hM
 have o0:am M (na m 0):=bt hM (by omega)
 have ox:am M (na m 1):=bt hM (by omega)
 have h1:=h.grow hC
 refine dp h1.s gx ox rfl (fun i hi=>h1.c.old hi) (by simp;omega) (by simp;omega) ?_
 intro vs2 M2 hs2 hC2 hF2
 have hg2:=(hC2.get h1.o h1.n).trans h1.g
 have ho2:=hC2.old h1.o
 have hs2o:=hs2.sl.one
 have gx2:=(hC2.get o0 (h.new 0).2).trans g0
 simp (disch:=first|assumption|omega|(simp only[aG]<;>omega)) only[go_sem,seval,hg2,hs1,gx2,hC2.old o0,hs2o]
 refine hK _ ⟨vs2, ?_, ?_⟩
 ·generalize hM3:hp _ 0 M2=M3
  have hC3:Chg [r] M2 M3:=aR hM3 rfl
  have hn:r∉ids vs2:=fun q=>(hF2 r q).elim h.n fun q=>q h1.o
  refine ⟨by rw[←hM3];exact (aE ho2).trans aq,hC3.old ho2,h.nB, ?_,hn, ?_⟩
  ·have:=hs2.chg hC3 fun i hi q=>hn (by simp at q;exact q▸hi)
   simpa [aU] using this
  ·refine (h1.c.trans hC2 fun i hi q=>W9 q (h1.s.new i hi)).trans hC3 fun i hi q=> ?_
   have hi:=one hi;subst hi;exact W9 q h.nB
 ·refine ⟨?_,fun j hj=>(hF2 j hj).imp id fun q ho=>q (hC.old ho)⟩
  refine ((hC.weak (T:=r::ids vs) (by simp)).trans hC2 fun i hi _=>List.mem_cons_of_mem _ hi).trans (aI rfl) fun i hi _=> ?_
  simp only[aC,Xf,Xe,or_false] at hi;subst hi;exact List.mem_cons_self ..
theorem Ou (h:MK B m r vc vn lo vs X) {k:Nat} (hk:X.ok (k+1)):∃m',rT 151 [.ptr r 0] m (ii X.v) m'/\∃vs',MK B m' r vc vn lo vs' ⟨X.st,X.v+1,X.lb⟩/\Ev r vs vs' m m':=by
 refine WF.ex1 fun K hK=> ?_
 refine WF.of_wpG (fun _=>rfl) ws (L:= [(.e,.ptr r 0)]) rfl ?_
 unfold Im
 have hg:=h.g
 have ho:=h.o
 have hl:=hk.v
 have hl0:=hk.v0
 have e1:X.v+1 - 1=X.v:=by omega
 simp (disch:=first|assumption|omega|(simp only[aG]<;>omega)) only[go_sem,seval,hg,e1]
 generalize hM3:hp _ 0 m=M3
 have hC3:Chg [r] m M3:=aR hM3 rfl
 refine hK _ ⟨vs,⟨?_,hC3.old ho,h.nB,h.s.chg hC3 fun i hi q=>h.n (by simp at q;exact q▸hi),h.n, ?_⟩,⟨hC3.weak (by simp),fun j hj=>Or.inl hj⟩⟩
 ·rw[←hM3];exact (aE ho).trans aq
 ·refine h.c.trans hC3 fun i hi q=> ?_
  have hi:=one hi;subst hi;exact W9 q h.nB
theorem pf (h:MK B m r vc vn lo vs X) (n:Int) {k:Nat} (hk:X.ok (k+1)):∃m',rT 137 [.ptr r 0,iu n] m (ii X.v) m'/\∃vs',MK B m' r vc vn lo vs' (aM n X)/\Ev r vs vs' m m':=by
 refine WF.ex1 fun K hK=> ?_
 refine WF.of_wpG (fun _=>rfl) xi (L:= [(.a .e,iu n),(.e,.ptr r 0)]) rfl ?_
 unfold Ji
 obtain ⟨m1,h1,v1,k1,e1⟩:=Ou h hk
 have hk1:=hk.s
 obtain ⟨m2,h2,v2,k2,e2⟩:=fy k1 ⟨0,X.v,0,0,0,0,0,n,0⟩ (by dsimp only;omega)
 simp (disch:=first|assumption|omega|(simp only[aG]<;>omega)) only[go_sem,seval,aa,h1.wf',h2.wf']
 exact hK _ ⟨v2,k2,e1.trans e2⟩
theorem Ew (h:MK B m r vc vn lo vs X) (o a b:Int) {k:Nat} (hk:X.ok (k+1)):∃m',rT 138 [.ptr r 0,ib o,ii a,ii b] m (ii X.v) m'/\∃vs',MK B m' r vc vn lo vs' (jG o a b X)/\Ev r vs vs' m m':=by
 refine WF.ex1 fun K hK=> ?_
 refine WF.of_wpG (fun _=>rfl) xX (L:= [(.c .e,ii b),(.b .e,ii a),(.a .e,ib o),(.e,.ptr r 0)]) rfl ?_
 unfold H7
 obtain ⟨m1,h1,v1,k1,e1⟩:=Ou h hk
 have hk1:=hk.s
 obtain ⟨m2,h2,v2,k2,e2⟩:=fy k1 ⟨2,X.v,a,b,0,0,0,0,o⟩ (by dsimp only;omega)
 simp (disch:=first|assumption|omega|(simp only[aG]<;>omega)) only[go_sem,seval,aa,h1.wf',h2.wf']
 exact hK _ ⟨v2,k2,e1.trans e2⟩
end
section
variable {B m:NH} {r:D4} {vc vn vs:NV} {lo:Int} {X:Ms}
end
def ju (z:Int):Int:=max 1 (min z 64)
theorem pi (z:Int):1<=ju z/\ju z<=64:=by unfold ju;omega
def bo:List (List Nat×Int)->Int
 | []=>0
 |c::l=>ju c.2+bo l
theorem cV (l:List (List Nat×Int)):0<=bo l/\bo l<=64*l.length:=by
 induction l with
 |nil=>simp[bo]
 |cons c l ih=>have:=pi c.2;rw[bo,List.length_cons];omega
theorem jk (l:List (List Nat×Int)):∀(i:Nat) (hi:i<l.length),bo (l.take (i+1))=bo (l.take i)+ju l[i].2:=by
 induction l with
 |nil=>intro i hi;simp at hi
 |cons c l ih=>
  intro i hi
  cases i with
  |zero=>simp[bo]
  |succ i=>
   have:=ih i (by simpa using hi)
   rw[List.take_succ_cons,bo,this,List.take_succ_cons,bo,List.getElem_cons_succ];omega
def He (l:List (List Nat×Int)) (i:Int):Int:=if 0<=i/\i<l.length then 4096+8*bo (l.take i.toNat) else 4096
theorem Ln  {l:List (List Nat×Int)} (hv:Sl m v 2 (lU l)) (hsz:l.length<=1000000):∃m',rT 56 [v] m (ii (bo l)) m'/\Chg [] m m':=by
 refine WF.ex1 fun K hK=> ?_
 refine WF.of_wpG (fun _=>rfl) DP (L:= [(.e,v)]) rfl ?_
 unfold QC
 have hlen:=hv.len
 rw[List.length_map] at hlen
 simp only[go_sem,seval,hlen,aa]
 refine W.loop (fun k d=>∃t M i,d=⟨t, [],none,M⟩/\NT.get D4.e.c t=some (ii (bo (l.take i)))/\NT.get D4.e.a.b t=some v/\NT.get D4.e.a.c t=some (ii l.length)/\NT.get D4.e.a.f t=some (ii (i:Nat))/\i+k=l.length/\Chg [] m M) ?_ l.length _ ⟨_,m,0,rfl,by simp only[go_sem,seval]<;>rfl,by simp only[go_sem,seval],by simp only[go_sem,seval],by simp only[go_sem,seval]<;>rfl,by omega,Chg.refl m⟩
 rintro k d ⟨t,M,i,rfl,g1,g2,g3,g4,hik,hC⟩
 apply ax
 unfold EJ
 change wp _ _ _ _ ⟨ah [] t, [],none,M⟩ _
 rw[←aa M]
 by_cases hi:i<l.length
 ·obtain ⟨id,off,wr,c,a1,a2,a3,a4,a5⟩:=hv.at i (by simpa using hi)
  rw[List.getElem_map] at a5
  have a2':=(hC.get a3 (by simp)).trans a2
  have a3':=hC.old a3
  have hw:=jk l i hi
  have hb:=cV (l.take i)
  rw[List.length_take] at hb
  have hc:=pi l[i].2
  unfold ju at hw hc
  simp (disch:=first|assumption|omega|(simp only[aG]<;>omega)) only[go_sem,seval,g1,g2,g3,g4,hlen,a1,a2',a5]
  exact ⟨k - 1,by omega,_,_,i+1,by rfl,by simp only[go_sem,seval,hw],by simp only[go_sem,seval,g2],by simp only[go_sem,seval,g3],by simp only[go_sem,seval]<;>rfl,by omega,ge hC rfl⟩
 ·rw[List.take_of_length_le (by omega)] at g1
  simp (disch:=first|assumption|omega) only[go_sem,seval,g1,g2,g3,g4,hlen,aa]
  exact hK _ hC
theorem QS  {s nm:List Nat} (hc:m.get oc=some (.cells true [.str s])) (ho:am m oc):∃m',rT 155 [.agg [.str nm,ii z],.ptr oc 0] m (.bool (decide (nm=s))) m'/\Chg [] m m':=by
 refine WF.ex1 fun K hK=> ?_
 refine WF.of_wpG (fun _=>rfl) xC (L:= [(.a .e,.ptr oc 0),(.e,.agg [.str nm,ii z])]) rfl ?_
 unfold H1
 simp (disch:=first|assumption|omega) only[go_sem,seval,hc]
 exact hK _ (aI rfl)
theorem Po  {l:List (List Nat×Int)} {s:List Nat} (hv:Sl m v 2 (lU l)) (hsz:l.length<=1000000) (hc:m.get oc=some (.cells true [.str s])) (ho:am m oc):
 ∃m',rT 154 [v,.fn 155 [.ptr oc 0]] m (ii (bC (l.map (·.1)) s)) m'/\Chg [] m m':=by
 refine WF.ex1 fun K hK=> ?_
 refine WF.of_wpG (fun _=>rfl) wd (L:= [(.a .e,.fn 155 [.ptr oc 0]),(.e,v)]) rfl ?_
 unfold KQ
 have hlen:=hv.len
 rw[List.length_map] at hlen
 simp only[go_sem,seval,hlen,aa]
 refine W.loop (fun k d=>∃t M i,d=⟨t, [],none,M⟩/\NT.get D4.e t=some v/\NT.get D4.e.a t=some (.fn 155 [.ptr oc 0])/\NT.get D4.e.a.c t=some (ii l.length)/\NT.get D4.e.a.f t=some (ii (i:Nat))/\i+k=l.length/\Chg [] m M/\∀j (hj:j<i) (hl:j<l.length),s≠l[j].1) ?_ l.length _ ⟨_,m,0,rfl,by exact gq rfl,by exact gq rfl,by exact gq rfl,by exact gq rfl,by omega,Chg.refl m,by simp⟩
 rintro k d ⟨t,M,i,rfl,g1,g2,g3,g4,hik,hC,hn⟩
 apply ax
 unfold yo
 change wp _ _ _ _ ⟨ah [] t, [],none,M⟩ _
 by_cases hi:i<l.length
 ·obtain ⟨id,off,wr,c,a1,a2,a3,a4,a5⟩:=hv.at i (by simpa using hi)
  rw[List.getElem_map] at a5
  have a2':=(hC.get a3 (by simp)).trans a2
  obtain ⟨M2,hr,hC2⟩:=QS (nm:=l[i].1) (z:=l[i].2) ((hC.get ho (by simp)).trans hc) (hC.old ho)
  by_cases he:l[i].1=s
  ·rw[Xd he] at hr
   simp (disch:=first|assumption|omega) only[go_sem,seval,g1,g2,g3,g4,a1,a2',a5,hr.wf']
   have hf:bC (l.map (·.1)) s=i:=f0 (by simpa using hi) (by simp[he]) fun j hj=>by rw[List.getElem_map];exact hn j hj (by omega)
   rw[hf] at hK
   exact hK _ (hC.tr hC2)
  ·rw[Xc he] at hr
   simp (disch:=first|assumption|omega) only[go_sem,seval,g1,g2,g3,g4,a1,a2',a5,hr.wf']
   refine ⟨k - 1,by omega,_,M2,i+1,by rfl,by exact gq g1,by exact gq g2,by exact gq g3,by exact gq rfl,by omega,hC.tr hC2,fun j hj hl=> ?_⟩
   rcases Nat.lt_or_ge j i with q|q
   ·exact hn j q hl
   ·obtain rfl:j=i:=by omega
    exact fun q=>he q.symm
 ·simp (disch:=first|assumption|omega) only[go_sem,seval,g1,g2,g3,g4]
  have hf:bC (l.map (·.1)) s=-1:=eY fun j hj=>by rw[List.getElem_map];exact hn j (by simp at hj;omega) (by simpa using hj)
  rw[hf] at hK
  exact hK _ hC
theorem RZ  {l:List (List Nat×Int)} (hv:Sl m v 2 (lU l)) (hsz:l.length<=1000000) (s:List Nat):∃m',rT 149 [v,.str s] m (ii (bC (l.map (·.1)) s)) m'/\Chg [] m m':=by
 refine WF.ex1 fun K hK=> ?_
 refine WF.of_wpG (fun _=>rfl) yp (L:= [(.a .e,.str s),(.e,v)]) rfl ?_
 unfold Iy
 have hC:Chg [] m (hp [(.n 0,.cells true [.str s])] 1 m):=aI rfl
 have hg:(hp [(.n 0,.cells true [.str s])] 1 m).get (na m 0)=some (.cells true [.str s]):=bI
 have ho:am (hp [(.n 0,.cells true [.str s])] 1 m) (na m 0):=bN (by omega)
 obtain ⟨m2,hr,hC2⟩:=Po (hv.chg hC fun _ _=>by simp) hsz hg ho
 simp only[go_sem,seval,hr.wf']
 exact hK _ (hC.tr hC2)
theorem Wt  {l:List (List Nat×Int)} (hv:Sl m v 2 (lU l)) (hsz:l.length<=1000000) (i:Int):∃m',rT 150 [v,ii i] m (ii (He l i)) m'/\Chg [] m m':=by
 refine WF.ex1 fun K hK=> ?_
 refine WF.of_wpG (fun _=>rfl) wR (L:= [(.a .e,ii i),(.e,v)]) rfl ?_
 unfold KH
 have hlen:=hv.len
 rw[List.length_map] at hlen
 unfold He at hK
 by_cases h0:i<0
 ·rw[Xa (by omega)] at hK
  simp (disch:=first|assumption|omega) only[go_sem,seval,aa]
  exact hK _ (Chg.refl m)
 ·by_cases h1:i<l.length
  ·rw[Xb (by omega)] at hK
   simp (disch:=first|assumption|omega) only[go_sem,seval,aa,hlen]
   obtain ⟨n,rfl⟩:=Xh (by omega:0<=i)
   refine EW hv (a:=0) (b:=n) (by omega) (by simp;omega) (fun K=>by (simp (disch:=first|assumption|omega) only[go_sem,seval])) (fun d K hd=>by (simp (disch:=first|assumption|omega) only[go_sem,seval])) ?_
   intro v2 hv2 hi2
   have hw:((lU l).drop 0).take (n - 0)=lU (l.take n):=by simp[List.map_take]
   rw[hw] at hv2
   obtain ⟨m2,hr,hC2⟩:=Ln hv2 (by simp;omega)
   have hb:=cV (l.take n)
   rw[List.length_take] at hb
   simp (disch:=first|assumption|omega) only[go_sem,seval,hr.wf',OI]
   exact hK _ hC2
  ·rw[Xa (by omega)] at hK
   simp (disch:=first|assumption|omega) only[go_sem,seval,aa,hlen]
   exact hK _ (Chg.refl m)
theorem H3 (m:NH) (s:List Nat) (z:Int):∃m',rT 46 [.agg [.str s,ii z]] m (ii (ju z)) m'/\Chg [] m m':=by
 refine WF.ex1 fun K hK=> ?_
 refine WF.of_wpG (fun _=>rfl) Ez (L:= [(.e,.agg [.str s,ii z])]) rfl ?_
 unfold P2
 unfold ju at hK
 by_cases h1:z<1
 ·rw[show max 1 (min z 64)=1 by omega] at hK
  simp (disch:=first|assumption|omega) only[go_sem,seval]
  exact hK _ (aI rfl)
 ·by_cases h2:64<z
  ·rw[show max 1 (min z 64)=64 by omega] at hK
   simp (disch:=first|assumption|omega) only[go_sem,seval]
   exact hK _ (aI rfl)
  ·rw[show max 1 (min z 64)=z by omega] at hK
   simp (disch:=first|assumption|omega) only[go_sem,seval]
   exact hK _ (aI rfl)
theorem Wo  {l:List (List Nat×Int)} (hv:Sl m v 2 (lU l)) (hsz:l.length<=1000000) (i:Int):∃m',rT 146 [v,ii i] m (ii (He l i)) m'/\Chg [] m m':=by
 refine WF.ex1 fun K hK=> ?_
 refine WF.of_wpG (fun _=>rfl) vD (L:= [(.a .e,ii i),(.e,v)]) rfl ?_
 unfold JT
 have hlen:=hv.len
 rw[List.length_map] at hlen
 simp only[go_sem,seval,aa]
 refine W.loop (fun k d=>∃t M j,d=⟨t, [],none,M⟩/\NT.get D4.e t=some v/\NT.get D4.e.a t=some (ii i)/\NT.get D4.e.a.a t=some (ii (4096+8*bo (l.take j)))/\NT.get D4.e.a.b t=some (ii (j:Nat))/\j+k=l.length/\(j=0∨(j<=i/\i<l.length))/\Chg [] m M) ?_ l.length _ ⟨_,m,0,rfl,by exact gq rfl,by exact gq rfl,by exact gq rfl,by exact gq rfl,by omega,Or.inl rfl,Chg.refl m⟩
 rintro k d ⟨t,M,j,rfl,g1,g2,g3,g4,hjk,hj,hC⟩
 apply ax
 unfold wL
 change wp _ _ _ _ ⟨ah [] t, [],none,M⟩ _
 by_cases hji:j<i
 ·by_cases hil:i<l.length
  ·have hjl:j<l.length:=by omega
   obtain ⟨id,off,wr,c,a1,a2,a3,a4,a5⟩:=hv.at j (by simpa using hjl)
   rw[List.getElem_map] at a5
   have a2':=(hC.get a3 (by simp)).trans a2
   obtain ⟨M2,hr,hC2⟩:=H3 M l[j].1 l[j].2
   have hw:=jk l j hjl
   have hb:=cV (l.take j)
   rw[List.length_take] at hb
   have hc:=pi l[j].2
   simp (disch:=first|assumption|omega) only[go_sem,seval,g1,g2,g3,g4,hlen,a1,a2',a5,hr.wf',OI]
   exact ⟨k - 1,by omega,_,M2,j+1,by rfl,by exact gq g1,by exact gq g2,by simp only[go_sem,seval,hw,show 4096+8*(bo (l.take j)+ju l[j].2)=4096+8*bo (l.take j)+8*ju l[j].2 by omega],by exact gq rfl,by omega,Or.inr ⟨by omega,hil⟩,hC.tr hC2⟩
  ·obtain rfl:j=0:=by omega
   unfold He at hK
   rw[Xa (by omega)] at hK
   simp (disch:=first|assumption|omega) only[go_sem,seval,g1,g2,g3,g4,hlen]
   exact hK _ hC
 ·unfold He at hK
  by_cases h0:0<=i/\i<l.length
  ·rw[Xb h0,show i.toNat=j by omega] at hK
   simp (disch:=first|assumption|omega) only[go_sem,seval,g1,g2,g3,g4,hlen]
   exact hK _ hC
  ·rw[Xa h0] at hK
   obtain rfl:j=0:=by omega
   simp (disch:=first|assumption|omega) only[go_sem,seval,g1,g2,g3,g4,hlen]
   exact hK _ hC
abbrev rS:=List (List Stm×Nat)
variable {K:rS}
def bT:rS->rS
 | []=> []
 |x::K=>if x.2<x.1.length then x::K else bT K
def dw:rS->rS
 | []=> []
 |x::K=>(x.1,x.2+1)::K
structure Bd where
 K:rS
 v:List Int
 s:Int
def Of (n:Nat):rS->Prop
 | []=>True
 | [x]=>bQ x.1<=n
 |x::y::K=>bQ x.1<bQ y.1/\Of n (y::K)
theorem yf {n:Nat} {x:List Stm×Nat} (h:Of n (x::K)):Of n K:=by
 cases K with
 |nil=>trivial
 |cons y K=>exact h.2
theorem Nw {n:Nat}:∀{K:rS} {x:List Stm×Nat},Of n (x::K)->K.length+bQ x.1<=n:=by
 intro K
 induction K with
 |nil=>intro x h;rw[Of] at h;simpa using h
 |cons y K ih=>
  intro x h
  have:=ih h.2
  have:=h.1
  rw[List.length_cons];omega
def Gs (cs:List (List Nat×Int)) (t:Stm):Prop:=∀u∈t.all,(u.k=1∨u.k=2∨u.k=3->u.ce∈cs.map (·.1))/\Wid u.i/\Wid u.x/\Wid u.y
structure BdOk (cs:List (List Nat×Int)) (ns:List (List Nat)) (x:Bd):Prop where
 ch:Of 1000000 x.K
 gs:∀y∈x.K,∀t∈y.1,Gs cs t
 pos:∀y∈x.K,y.2<=y.1.length
 iv:∀z∈x.v,cI z
 ln:ns.length<=1000000
 lv:x.v.length=ns.length
theorem xg :∀y∈bT K,y∈K:=by
 induction K with
 |nil=>simp[bT]
 |cons x K ih=>
  intro y hy
  rw[bT] at hy
  split at hy
  ·exact hy
  ·exact List.mem_cons_of_mem _ (ih y hy)
theorem Nx {n:Nat} (h:Of n K):Of n (bT K):=by
 induction K with
 |nil=>exact h
 |cons x K ih=>
  rw[bT]
  split
  ·exact h
  ·exact ih (yf h)
theorem BdOk.trim  {x:Bd} (h:BdOk cs ns x):BdOk cs ns ⟨bT x.K,x.v,x.s⟩:=⟨Nx h.ch,fun y hy=>h.gs y (xg y hy),fun y hy=>h.pos y (xg y hy),h.iv,h.ln,h.lv⟩
structure StkC (B:NH) (K:rS) (C:List (List NV)):Prop where
 n:C.length=K.length
 c:∀(j:Nat) (x:List Stm×Nat) (c:List NV),K[j]? =some x->C[j]? =some c->∃vl E,c= [vl,ii x.2]/\SS B (fun _=>True) vl x.1 E
theorem StkC.app  {x:List Stm×Nat} (h:StkC B K C) (hx:∃vl E,c= [vl,ii x.2]/\SS B (fun _=>True) vl x.1 E):StkC B (K++ [x]) (C++ [c]):=by
 refine ⟨by simp[h.n],fun j y d h1 h2=> ?_⟩
 by_cases hj:j<K.length
 ·rw[List.getElem?_append_left hj] at h1
  rw[List.getElem?_append_left (by rw[h.n];exact hj)] at h2
  exact h.c j y d h1 h2
 ·rw[List.getElem?_append_right (by omega)] at h1
  rw[List.getElem?_append_right (by rw[h.n];omega),h.n] at h2
  have hl:=(List.getElem?_eq_some_iff.1 h1).1
  simp only[List.length_singleton] at hl
  have e:j - K.length=0:=by omega
  rw[e] at h1 h2
  cases h1;cases h2
  exact hx
theorem StkC.last  {x:List Stm×Nat} (h:StkC B (K++ [x]) C):∃C0 c,C=C0++ [c]/\StkC B K C0/\∃vl E,c= [vl,ii x.2]/\SS B (fun _=>True) vl x.1 E:=by
 have hl:=h.n
 rw[List.length_append,List.length_singleton] at hl
 have hC:C=C.take K.length++ [C[K.length]'(by omega)]:=by
  conv=>lhs;rw[←List.take_append_drop K.length C]
  rw[List.drop_eq_getElem_cons (by omega),List.drop_eq_nil_of_le (by omega)]
 refine ⟨_,_,hC,⟨by rw[List.length_take];omega,fun j y d h1 h2=> ?_⟩, ?_⟩
 ·have hj:=(List.getElem?_eq_some_iff.1 h1).1
  rw[List.getElem?_take_of_lt hj] at h2
  exact h.c j y d (by rw[List.getElem?_append_left hj];exact h1) h2
 ·exact h.c K.length x _ (by simp) (List.getElem?_eq_getElem (by omega))
structure Bod (mk:NV->NV->NV->Int->List NV) (B m:NH) (b:D4) (pl nm vv:NV) (ns:List (List Nat)) (x:Bd):Prop where
 g:m.get b=some (.cells true (mk pl nm vv x.s))
 o:am m b
 nB:¬am B b
 p:∃C,aY B m pl 2 C/\StkC B x.K.reverse C
 v:aY B m vv 1 (kv x.v)
 n:aY B m nm 1 (bK ns)
 d1:b∉ids pl/\b∉ids vv/\b∉ids nm
 d2:∀i∈ids pl,i∉ids vv/\i∉ids nm
 d3:∀i∈ids vv,i∉ids nm
 c:Chg [] B m
def ec (b:D4) (pl nm vv:NV):List D4:=b::(ids pl++(ids vv++ids nm))
structure EvF (F F':List D4) (m m':NH):Prop where
 c:Chg F m m'
 f:∀j∈F',j∈F∨¬am m j
section
variable {mk:NV->NV->NV->Int->List NV} {B m m' m'':NH} {b:D4} {pl nm vv:NV} {ns:List (List Nat)} {x:Bd} {F F' F'':List D4}
theorem EvF.trans (h:EvF F F' m m') (h':EvF F' F'' m' m''):EvF F F'' m m'':=
 ⟨h.c.trans h'.c fun i hi ho=>(h.f i hi).elim id fun q=>W9 ho q,fun j hj=>(h'.f j hj).elim (h.f j) fun q=>Or.inr fun ho=>q (h.c.old ho)⟩
theorem EvF.refl (m:NH):EvF F F m m:=⟨(Chg.refl m).weak (by simp),fun j hj=>Or.inl hj⟩
theorem EvF.grow (hC:Chg [] m m'):EvF F F m m':=⟨hC.weak (by simp),fun j hj=>Or.inl hj⟩
theorem EvF.pre (hC:Chg [] m m') (h:EvF F F' m' m''):EvF F F' m m'':=(EvF.grow hC).trans h
theorem EvF.post (h:EvF F F' m m') (hC:Chg [] m' m''):EvF F F' m m'':=h.trans (EvF.grow hC)
theorem EvF.nin (h:EvF F F' m m') {i:D4} (ho:am m i) (hi:i∉F):i∉F':=fun q=>(h.f i q).elim hi fun q=>q ho
theorem EvF.get (h:EvF F F' m m') {i:D4} (ho:am m i) (hi:i∉F):m'.get i=m.get i:=h.c.get ho hi
theorem Bod.old (h:Bod mk B m b pl nm vv ns x):∀i∈ec b pl nm vv,am m i/\¬am B i:=by
 obtain ⟨C,hp,-⟩:=h.p
 intro i hi
 rcases List.mem_cons.1 hi with rfl|hi
 ·exact ⟨h.o,h.nB⟩
 rcases List.mem_append.1 hi with hi|hi
 ·exact ⟨hp.sl.old i hi,hp.new i hi⟩
 rcases List.mem_append.1 hi with hi|hi
 ·exact ⟨h.v.sl.old i hi,h.v.new i hi⟩
 ·exact ⟨h.n.sl.old i hi,h.n.new i hi⟩
theorem Bod.off  (h:Bod mk B m b pl nm vv ns x) (hC:Chg S m m') (hS:∀i∈ec b pl nm vv,i∉S) (hB:∀i∈S,¬am B i):Bod mk B m' b pl nm vv ns x:=by
 obtain ⟨C,hp,hk⟩:=h.p
 have hb:=hS b (List.mem_cons_self ..)
 refine ⟨(hC.get h.o hb).trans h.g,hC.old h.o,h.nB,⟨C,hp.chg hC fun i hi=>hS i (by simp[ec,hi]),hk⟩,h.v.chg hC fun i hi=>hS i (by simp[ec,hi]),h.n.chg hC fun i hi=>hS i (by simp[ec,hi]),h.d1,h.d2,h.d3,h.c.trans hC fun i hi ho=>W9 ho (hB i hi)⟩
theorem Bod.grow (h:Bod mk B m b pl nm vv ns x) (hC:Chg [] m m'):Bod mk B m' b pl nm vv ns x:=h.off hC (by simp) (by simp)
theorem Bod.env  (h:Bod mk B m b pl nm vv ns x) (hk:BdOk cs ns x):Env m nm vv ns x.v:=⟨h.n.sl,h.v.sl,hk.iv,hk.ln,by rw[hk.lv];exact hk.ln⟩
theorem aY.front  {off kc e:Nat} {D:List (List NV)} (h0:∀y∈C++D,y.length=e) (hb:¬am B id) (h1:m.get id=some (.cells true c)) (h2:am m id) (h3:off+(C++D).length*e<=c.length) (h3':off+kc*e<=c.length) (h4:(c.drop off).take ((C++D).length*e)=(C++D).flatten):aY B m (.slc id off C.length e kc) e C:=by
 have hl:C.length*e<=(C++D).length*e:=Nat.mul_le_mul_right _ (by simp)
 refine ⟨fun y hy=>h0 y (List.mem_append_left _ hy),Or.inr ⟨id,off,kc,c,rfl,hb,h1,h2,by omega,h3', ?_⟩⟩
 have e1:(c.drop off).take (C.length*e)=((c.drop off).take ((C++D).length*e)).take (C.length*e):=by rw[List.take_take,Nat.min_eq_left hl]
 rw[e1,h4,List.flatten_append,←fj fun y hy=>h0 y (List.mem_append_left _ hy),List.take_left]
end
abbrev iS (pl nm vv:NV) (s:Int):List NV:= [nm,vv,pl,.bool (decide (s=2)),.bool (decide (s=1))]
def Vo (B:NH) (w:NV) (t:Stm):Prop:=∃id off wr c W,w= .ptr id off/\B.get id=some (.cells wr c)/\am B id/\off+21<=c.length/\(c.drop off).take 21=t.l W/\SP B (fun _=>True) t W
theorem SS.ptr  {vl:NV} {l:List Stm} {E:List (List NV)} (h:SS B (fun _=>True) vl l E) (i:Nat) (hi:i<l.length):∃w,ix 21 vl (.int .i64 (.lit (i:Int)))= .val w/\Vo B w l[i]:=by
 obtain ⟨W,hW,-,hS⟩:=CC h i hi
 obtain ⟨id,off,wr,c,a1,a2,a3,a4,a5⟩:=h.sl.at i (by rw[h.len];exact hi)
 rw[List.getElem?_eq_getElem (by rw[h.len];exact hi)] at hW
 injection hW with hW
 exact ⟨_,a1,id,off,wr,c,W,rfl,a2,a3,a4,a5.trans hW,hS⟩
section
variable {B m:NH} {b:D4} {pl nm vv:NV} {ns:List (List Nat)} {x:Bd} {cs:List (List Nat×Int)}
theorem BdOk.bnd (h:BdOk cs ns x) {y:List Stm×Nat} (hK:x.K=y::K):K.length<=1000000/\y.1.length<=1000000/\y.2<=y.1.length:=by
 have h1:=h.ch
 rw[hK] at h1
 have h2:=Nw h1
 have h3:=ng y.1
 exact ⟨by omega,by omega,h.pos y (by rw[hK];simp)⟩
theorem Bod.putP {pl' vv':NV} {x':Bd} (h:Bod mk B m b pl nm vv ns x) (hg:m'.get b=some (.cells true (mk pl' nm vv' x'.s))) (hC:Chg (ec b pl nm vv) m m') (hp:∃C,aY B m' pl' 2 C/\StkC B x'.K.reverse C) (hv:aY B m' vv' 1 (kv x'.v)) (hn:∀i∈ids nm,m'.get i=m.get i) (hpn:∀i∈ids pl',i∈ids pl∨¬am m i) (hvn:ids vv'=ids vv):Bod mk B m' b pl' nm vv' ns x'/\EvF (ec b pl nm vv) (ec b pl' nm vv') m m':=by
 refine ⟨⟨hg,hC.old h.o,h.nB,hp,hv, ?_,⟨fun q=>(hpn _ q).elim h.d1.1 fun q=>q h.o,by rw[hvn];exact h.d1.2.1,h.d1.2.2⟩,fun i hi=> ?_,by rw[hvn];exact h.d3,h.c.trans hC fun i hi ho=>W9 ho (h.old i hi).2⟩,hC,fun j hj=> ?_⟩
 ·obtain ⟨h0,⟨rfl,e⟩|⟨id,off,kc,c,rfl,hb',h1,h2,h3⟩⟩:=h.n
  ·exact ⟨h0,Or.inl ⟨rfl,e⟩⟩
  ·exact ⟨h0,Or.inr ⟨id,off,kc,c,rfl,hb',(hn id (by simp[ids])).trans h1,hC.old h2,h3⟩⟩
 ·rcases hpn i hi with q|q
  ·rw[hvn];exact h.d2 i q
  ·exact ⟨fun q2=>q (by rw[hvn] at q2;exact h.v.sl.old i q2),fun q2=>q (h.n.sl.old i q2)⟩
 ·simp only[ec,Xf,List.mem_append] at hj ⊢
  rw[hvn] at hj
  rcases hj with hj|hj|hj|hj
  ·exact Or.inl (Or.inl hj)
  ·exact (hpn j hj).imp (fun q=>Or.inr (Or.inl q)) id
  ·exact Or.inl (Or.inr (Or.inr (Or.inl hj)))
  ·exact Or.inl (Or.inr (Or.inr (Or.inr hj)))
theorem Bod.rows  {K':rS} (h:Bod mk B m b pl nm vv ns x) (hC:Chg (ids pl) m m') (hp:∃C,aY B m' pl 2 C/\StkC B K'.reverse C):Bod mk B m' b pl nm vv ns ⟨K',x.v,x.s⟩/\EvF (ec b pl nm vv) (ec b pl nm vv) m m':=
 h.putP ((hC.get h.o h.d1.1).trans h.g) (hC.weak fun i hi _=>by simp[ec,hi]) hp (h.v.chg hC fun i hi q=>(h.d2 i q).1 hi) (fun i hi=>hC.get (h.n.sl.old i hi) fun q=>(h.d2 i q).2 hi) (fun i hi=>Or.inl hi) rfl
theorem Bod.vals  {v':List Int} (h:Bod mk B m b pl nm vv ns x) (hC:Chg (ids vv) m m') (hv:aY B m' vv 1 (kv v')):Bod mk B m' b pl nm vv ns ⟨x.K,v',x.s⟩/\EvF (ec b pl nm vv) (ec b pl nm vv) m m':=by
 obtain ⟨C,hP,hk⟩:=h.p
 exact h.putP (x':=⟨x.K,v',x.s⟩) ((hC.get h.o h.d1.2.1).trans h.g) (hC.weak fun i hi _=>by simp[ec,hi]) ⟨C,hP.chg hC fun i hi=>(h.d2 i hi).1,hk⟩ hv (fun i hi=>hC.get (h.n.sl.old i hi) fun q=>h.d3 i q hi) (fun i hi=>Or.inl hi) rfl
def lJ (ns:List (List Nat)) (v:List Int) (s:List Nat) (z:Int):List Int:=if 0<=bC ns s then v.set (bC ns s).toNat z else v
theorem xu (ns:List (List Nat)) (v:List Int) (s:List Nat) (z:Int):(lJ ns v s z).length=v.length:=by unfold lJ;split<;>simp
theorem Lh {v:List Int} {s:List Nat} (hv:∀z∈v,cI z) (hz:cI z):∀y∈lJ ns v s z,cI y:=by
 unfold lJ
 split
 ·intro y hy
  rcases List.mem_or_eq_of_mem_set hy with hy|rfl
  ·exact hv y hy
  ·exact hz
 ·exact hv
theorem BdOk.set (h:BdOk cs ns x) {s:List Nat} (hz:cI z):BdOk cs ns ⟨x.K,lJ ns x.v s z,x.s⟩:=⟨h.ch,h.gs,h.pos,Lh h.iv hz,h.ln,by rw[xu];exact h.lv⟩
theorem BdOk.enter {l:List Stm} (h:BdOk cs ns x) {y:List Stm×Nat} (hK:x.K=y::K) (hl:bQ l<bQ y.1) (hg:∀u∈l,Gs cs u) (q:Nat) (hq:q<=y.1.length):BdOk cs ns ⟨(l,0)::(y.1,q)::K,x.v,x.s⟩:=by
 have hc:=h.ch
 rw[hK] at hc
 refine ⟨⟨hl,by cases K<;>exact hc⟩,fun z hz=> ?_,fun z hz=> ?_,h.iv,h.ln,h.lv⟩
 ·rcases List.mem_cons.1 hz with rfl|hz
  ·exact hg
  ·rcases List.mem_cons.1 hz with rfl|hz
   ·exact h.gs y (by rw[hK];simp)
   ·exact h.gs z (by rw[hK];simp[hz])
 ·rcases List.mem_cons.1 hz with rfl|hz
  ·exact Nat.zero_le _
  ·rcases List.mem_cons.1 hz with rfl|hz
   ·exact hq
   ·exact h.pos z (by rw[hK];simp[hz])
end
section
variable {B m:NH} {b:D4} {pl nm vv:NV} {ns:List (List Nat)} {x:Bd} {cs:List (List Nat×Int)}
theorem Bod.cut  {y:List Stm×Nat} {off kc n:Nat} (h:Bod mk B m b (.slc id off n 2 kc) nm vv ns x) (hK:x.K=y::K) (hg:m'.get b=some (.cells true (mk (.slc id off (n - 1) 2 kc) nm vv x.s))) (hC:Chg [b] m m'):
 Bod mk B m' b (.slc id off (n - 1) 2 kc) nm vv ns ⟨K,x.v,x.s⟩/\EvF (ec b (.slc id off n 2 kc) nm vv) (ec b (.slc id off (n - 1) 2 kc) nm vv) m m':=by
 have hb:∀i,am m i->i≠b->m'.get i=m.get i:=fun i ho hi=>hC.get ho (by simpa using hi)
 refine h.putP (x':=⟨K,x.v,x.s⟩) hg (hC.weak fun i hi _=>by have hi:=one hi;subst hi;simp[ec]) ?_ ?_ ?_ (fun i hi=>Or.inl hi) rfl
 ·obtain ⟨C,⟨h0,⟨e,-⟩|⟨id',off',kc',c,e,hb',h1,h2,h3,h3',h4⟩⟩,hC'⟩:=h.p
  ·cases e
  ·cases e
   rw[hK,List.reverse_cons] at hC'
   obtain ⟨C0,c0,rfl,hC0,-⟩:=hC'.last
   refine ⟨C0, ?_,hC0⟩
   have e1:(C0++ [c0]).length - 1=C0.length:=by simp
   rw[e1]
   have hne:id≠b:=fun e=>h.d1.1 (by rw[e];simp[ids])
   exact aY.front h0 hb' ((hb id h2 hne).trans h1) (hC.old h2) h3 h3' h4
 ·exact h.v.chg hC fun i hi q=>by have q:=one q;subst q;exact h.d1.2.1 hi
 ·exact fun i hi=>hb i (h.n.sl.old i hi) fun e=>h.d1.2.2 (e▸hi)
end
noncomputable def bH (ns:List (List Nat)) (t:Stm) (x:Bd):Bd:=
 if t.k=6 then ⟨(if t.x.eval ns x.v≠0 then t.b else t.e,0)::dw x.K,x.v,x.s⟩
 else if t.k=7 then (if t.x.eval ns x.v≠0 then ⟨(t.b,0)::x.K,x.v,x.s⟩ else ⟨dw x.K,x.v,x.s⟩)
 else if t.k=0 then ⟨dw x.K,lJ ns x.v t.nm (t.x.eval ns x.v),x.s⟩
 else ⟨dw x.K,x.v,x.s⟩
section
variable {B m:NH} {b:D4} {pl nm vv:NV} {ns:List (List Nat)} {x:Bd} {cs:List (List Nat×Int)}
theorem BdOk.pass (h:BdOk cs ns x) {y:List Stm×Nat} (hK:x.K=y::K) (hy:y.2<y.1.length):BdOk cs ns ⟨dw x.K,x.v,x.s⟩:=by
 have hc:=h.ch
 rw[hK] at hc ⊢
 refine ⟨by rw[dw];cases K<;>exact hc,fun z hz=> ?_,fun z hz=> ?_,h.iv,h.ln,h.lv⟩
 ·rcases List.mem_cons.1 hz with rfl|hz
  ·exact h.gs y (by rw[hK];simp)
  ·exact h.gs z (by rw[hK];simp[hz])
 ·rcases List.mem_cons.1 hz with rfl|hz
  ·exact hy
  ·exact h.pos z (by rw[hK];simp[hz])
theorem Ks {l:List Stm} {t:Stm} (h:t∈l):t.sz<=bQ l:=by
 induction l with
 |nil=>simp at h
 |cons s l ih=>
  rw[bQ]
  rcases List.mem_cons.1 h with rfl|h
  ·omega
  ·have:=ih h;omega
theorem OD (t:Stm):bQ t.b<t.sz/\bQ t.e<t.sz:=by cases t;simp only[Stm.b,Stm.e,Stm.sz];omega
theorem SN {t:Stm} (h:Gs cs t) (hk:t.k=6∨t.k=7):∀u∈t.b,Gs cs u:=by
 intro u hu w hw
 refine h w ?_
 have:=qV hu hw
 cases t
 simp only[Stm.k,Stm.b] at hk this
 rw[Stm.all,Xb hk]
 simp[this]
theorem Vq {t:Stm} (h:Gs cs t) (hk:t.k=6):∀u∈t.e,Gs cs u:=by
 intro u hu w hw
 refine h w ?_
 have:=qV hu hw
 cases t
 simp only[Stm.k,Stm.e] at hk this
 rw[Stm.all,Xb hk]
 simp[this]
theorem mq {t:Stm} (h:Gs cs t):(t.k=1∨t.k=2∨t.k=3->t.ce∈cs.map (·.1))/\Wid t.i/\Wid t.x/\Wid t.y:=h t (by cases t;rw[Stm.all];simp)
theorem BdOk.quiet (h:BdOk cs ns x) {y:List Stm×Nat} (hK:x.K=y::K) (hy:y.2<y.1.length):BdOk cs ns (bH ns y.1[y.2] x):=by
 have ht:y.1[y.2]∈y.1:=List.getElem_mem hy
 have hG:=h.gs y (by rw[hK];simp) _ ht
 have hz:=Ks ht
 have hbe:=OD y.1[y.2]
 generalize y.1[y.2]=t at *
 unfold bH
 split
 ·rename_i k6
  rw[hK,dw]
  split
  ·exact h.enter hK (by omega) (SN hG (by omega)) _ hy
  ·exact h.enter hK (by omega) (Vq hG (by omega)) _ hy
 split
 ·rename_i k7
  split
  ·have:=h.enter hK (by omega) (SN hG (by omega)) y.2 (by omega)
   rw[hK]
   exact this
  ·exact h.pass hK hy
 split
 ·exact (h.pass hK hy).set (iT h.iv _ (mq hG).2.2.1)
 ·exact h.pass hK hy
def kU (l:List Stm):Bd:=⟨[(l,0)],List.replicate (locals l).length 0,0⟩
theorem s9 (l:List Stm):(locals l).length<=2*bQ l:=by
 have h1:=cH ((aQ l).flatMap Stm.own) []
 have h2:=(kM l).2
 unfold locals
 simp only[List.length_nil] at h1
 omega
end
structure Mc where
 (cl out:List Int)
 ill:Bool
structure Mac (f:NV->NV->Bool->List NV) (B m:NH) (r:D4) (vcl vo:NV) (z:Mc):Prop where
 g:m.get r=some (.cells true (f vcl vo z.ill))
 o:am m r
 nB:¬am B r
 cl:aY B m vcl 1 (kv z.cl)
 ou:aY B m vo 1 (kv z.out)
 d:r∉ids vcl/\r∉ids vo/\∀i∈ids vcl,i∉ids vo
 c:Chg [] B m
def cR (r:D4) (vcl vo:NV):List D4:=r::(ids vcl++ids vo)
structure McOk (cs:List (List Nat×Int)) (z:Mc):Prop where
 iv:∀y∈z.cl,cI y
 io:∀y∈z.out,cI y
 n:(z.cl.length:Int)=bo cs
structure CsOk (cs:List (List Nat×Int)):Prop where
 len:cs.length<=1000
 sz:∀c∈cs,1<=c.2/\c.2<=64
def eJ (cs:List (List Nat×Int)) (z:Int) (t:Stm):Int:=bo (cs.take (bC (cs.map (·.1)) t.ce).toNat)+((z.toNat&&& ((((cs[(bC (cs.map (·.1)) t.ce).toNat]?).map (·.2)).getD 1) - 1).toNat:Nat):Int)
theorem Gd (a b:List (List Nat×Int)):bo (a++b)=bo a+bo b:=by
 induction a with
 |nil=>simp[bo]
 |cons c a ih=>rw[List.cons_append,bo,bo,ih];omega
theorem pQ (l:List (List Nat×Int)) (i:Nat):bo (l.take i)<=bo l:=by
 conv=>rhs;rw[←List.take_append_drop i l]
 rw[Gd]
 have:=cV (l.drop i)
 omega
theorem JQ  {t:Stm} (h:t.ce∈cs.map (·.1)):∃i:Nat,bC (cs.map (·.1)) t.ce=i/\i<cs.length:=by
 obtain ⟨h1,h2⟩:=pg (l:=cs.map (·.1)) (x:=t.ce)
 obtain ⟨i,hi⟩:=Xh (fw.2 h)
 rw[List.length_map] at h1
 exact ⟨i,hi,by omega⟩
theorem rO  {t:Stm} {i:Nat} (z:Int) (h:bC (cs.map (·.1)) t.ce=i) (hi:i<cs.length):eJ cs z t=bo (cs.take i)+((z.toNat&&& (cs[i].2 - 1).toNat:Nat):Int):=by
 unfold eJ
 rw[h,Int.toNat_natCast,List.getElem?_eq_getElem hi];rfl
theorem pF  (hc:CsOk cs) {t:Stm} (h:t.ce∈cs.map (·.1)) (z:Int):0<=eJ cs z t/\eJ cs z t<bo cs:=by
 obtain ⟨i,hi,hl⟩:=JQ h
 rw[rO z hi hl]
 have h1:=jk cs i hl
 have h2:=pQ cs (i+1)
 have h3:=hc.sz _ (List.getElem_mem hl)
 have h4:=Nat.and_le_right (n:=z.toNat) (m:=(cs[i].2 - 1).toNat)
 have h5:=cV (cs.take i)
 unfold ju at h1
 omega
theorem Wq {W:Int} (h0:0<=W) (h1:W<=1000000):dN .num .quo (ii (8*W)) (ii 8)=some (ii W):=by
 obtain ⟨n,rfl⟩:=Xh h0
 refine (iU rfl).trans ?_
 show cD .i64 (bF .i64 (.ofNat (Nat.div (8*n) 8)))=_
 rw[show Nat.div (8*n) 8=n from Nat.mul_div_cancel_left n (by omega),wrap_small (by show -9223372036854775808<=(n:Int);omega) (by show (n:Int)<9223372036854775808;omega),aS]
 rfl
section
variable {f:NV->NV->Bool->List NV} {B m m':NH} {r b:D4} {vcl vo pl nm vv vc vt vr rec vth:NV} {st:Bool} {ns:List (List Nat)} {x:Bd} {z:Mc} {cs:List (List Nat×Int)}
abbrev fR (vc vt vr rec vth:NV) (vcl vo:NV) (ill:Bool):List NV:= [vc,vt,vr,vcl,vo,rec,vth,.bool ill]
theorem Mac.old (h:Mac f B m r vcl vo z):∀i∈cR r vcl vo,am m i/\¬am B i:=by
 intro i hi
 rcases List.mem_cons.1 hi with rfl|hi
 ·exact ⟨h.o,h.nB⟩
 rcases List.mem_append.1 hi with hi|hi
 ·exact ⟨h.cl.sl.old i hi,h.cl.new i hi⟩
 ·exact ⟨h.ou.sl.old i hi,h.ou.new i hi⟩
theorem Mac.off  (h:Mac f B m r vcl vo z) (hC:Chg S m m') (hS:∀i∈cR r vcl vo,i∉S) (hB:∀i∈S,¬am B i):Mac f B m' r vcl vo z:=
 ⟨(hC.get h.o (hS r (List.mem_cons_self ..))).trans h.g,hC.old h.o,h.nB,h.cl.chg hC fun i hi=>hS i (by simp[cR,hi]),h.ou.chg hC fun i hi=>hS i (by simp[cR,hi]),h.d,h.c.trans hC fun i hi ho=>W9 ho (hB i hi)⟩
theorem Mac.grow (h:Mac f B m r vcl vo z) (hC:Chg [] m m'):Mac f B m' r vcl vo z:=h.off hC (by simp) (by simp)
theorem H8  {i:Nat} (hi:i<cs.length):He cs i - 4096=8*bo (cs.take i):=by
 unfold He
 rw[Xb ⟨by omega,by omega⟩,Int.toNat_natCast];omega
end
noncomputable def ek (cs:List (List Nat×Int)) (ns:List (List Nat)) (t:Stm) (x:Bd) (z:Mc):Bd×Mc:=
 if t.k=1 then (⟨x.K,lJ ns x.v t.nm ((z.cl[(eJ cs (t.i.eval ns x.v) t).toNat]?).getD 0),x.s⟩,z)
 else if t.k=2 then (x,⟨z.cl.set (eJ cs (t.i.eval ns x.v) t).toNat (t.x.eval ns x.v),z.out,z.ill⟩)
 else if t.k=3 then (if (z.cl[(eJ cs (t.i.eval ns x.v) t).toNat]?).getD 0=t.x.eval ns x.v then (⟨x.K,lJ ns x.v t.nm 1,x.s⟩,⟨z.cl.set (eJ cs (t.i.eval ns x.v) t).toNat (t.y.eval ns x.v),z.out,z.ill⟩) else (⟨x.K,lJ ns x.v t.nm 0,x.s⟩,z))
 else if t.k=5 then (x,⟨z.cl,z.out++ [t.x.eval ns x.v],z.ill⟩)
 else (x,z)
section
variable {F F' G G':List D4} {m m':NH}
theorem EvF.addR (h:EvF F F' m m') (G:List D4):EvF (G++F) (G++F') m m':=
 ⟨h.c.weak fun i hi _=>List.mem_append_right _ hi,fun j hj=>(List.mem_append.1 hj).elim (fun q=>Or.inl (List.mem_append_left _ q)) fun q=>(h.f j q).imp (List.mem_append_right _) id⟩
theorem EvF.addL (h:EvF F F' m m') (G:List D4):EvF (F++G) (F'++G) m m':=
 ⟨h.c.weak fun i hi _=>List.mem_append_left _ hi,fun j hj=>(List.mem_append.1 hj).elim (fun q=>(h.f j q).imp (List.mem_append_left _) id) fun q=>Or.inl (List.mem_append_right _ q)⟩
end
section
variable {f:NV->NV->Bool->List NV} {mk:NV->NV->NV->Int->List NV} {B m m':NH} {r b:D4} {vcl vo pl nm vv vc vt vr rec vth:NV} {st:Bool} {ns:List (List Nat)} {x:Bd} {z:Mc} {cs:List (List Nat×Int)} {F F':List D4}
theorem Mac.ev (h:Mac f B m r vcl vo z) (hE:EvF F F' m m') (hd:∀i∈cR r vcl vo,i∉F) (hB:∀i∈F,¬am B i):Mac f B m' r vcl vo z:=h.off hE.c hd hB
theorem Bod.ev (h:Bod mk B m b pl nm vv ns x) (hE:EvF F F' m m') (hd:∀i∈ec b pl nm vv,i∉F) (hB:∀i∈F,¬am B i):Bod mk B m' b pl nm vv ns x:=h.off hE.c hd hB
theorem Mac.put (h:Mac f B m r vcl vo z) {n:Nat} (hn:n<z.cl.length) (y:Int) {off:Nat} (hix:ix 1 vcl (ii (n:Nat))= .val (.ptr id off)):
 ids vcl= [id]/\(∃c,m.get id=some (.cells true c)/\am m id/\off+1<=c.length/\c[off]? =some (iu z.cl[n])/\∀M,M=m.put id (.cells true (c.set off (iu y)))->Mac f B M r vcl vo ⟨z.cl.set n y,z.out,z.ill⟩/\EvF (cR r vcl vo) (cR r vcl vo) m M):=by
 obtain ⟨id',off',c,a1,a2,a3,a4,a5,a6,a7,a8⟩:=h.cl.at n (by simpa using hn)
 rw[hix] at a1
 cases a1
 rw[List.getElem_map] at a7 a8
 refine ⟨a2,c,a4,a5,a6,aF a7 0 (by omega),fun M hM=> ?_⟩
 have hM:M=hp [(.o id,.cells true (c.set off (iu y)))] 0 m:=by rw[hM,←bX a5,aa]
 have hC:Chg [id] m M:=by rw[hM];exact (dg _ _ _).weak (by simp[aC])
 have hr:r≠id:=fun e=>h.d.1 (by rw[a2,e];simp)
 have ho:=a8 [(0,iu y)] M (by simp) (by rw[hM];exact (aE a5).trans aq) (by rw[hM];exact cG a5)
 have ho:aY B M vcl 1 ((z.cl.map fun z=> [iu z]).set n [iu y]):=ho
 rw[←List.map_set (f:=fun z=> [iu z])] at ho
 refine ⟨⟨(hC.get h.o (by simpa using hr)).trans h.g,hC.old h.o,h.nB,ho,h.ou.chg hC fun i hi q=> ?_,h.d,h.c.trans hC fun i hi ho=> ?_⟩,hC.weak fun i hi _=> ?_,fun j hj=>Or.inl hj⟩
 ·have q:=one q;subst q;exact h.d.2.2 _ (by rw[a2];simp) hi
 ·have hi:=one hi;subst hi;exact W9 ho (h.cl.new _ (by rw[a2];simp))
 ·have hi:=one hi;subst hi;simp[cR,a2]
end
def Hg (y:List Stm×Nat):Stm:=(y.1[y.2]?).getD (.mk 0 0 [] [] zE zE zE [] [])
def iO (t:Stm):Prop:=t.k=1∨t.k=2∨t.k=3∨t.k=5
instance (t:Stm):Decidable (iO t):=by unfold iO;infer_instance
noncomputable def jx (cs:List (List Nat×Int)) (ns:List (List Nat)) (t:Stm) (x:Bd) (z:Mc):Bd×Mc:=(⟨dw (ek cs ns t x z).1.K,(ek cs ns t x z).1.v,(ek cs ns t x z).1.s⟩,(ek cs ns t x z).2)
noncomputable def lC (cs:List (List Nat×Int)) (ns:List (List Nat)):Nat->Bd->Mc->Bool×Bd×Mc
 |0,x,z=>match bT x.K with
  | []=>(false,⟨[],x.v,1⟩,z)
  |y::K=>(false,⟨y::K,x.v,2⟩,⟨z.cl,z.out,true⟩)
 |k+1,x,z=>match bT x.K with
  | []=>(false,⟨[],x.v,1⟩,z)
  |y::K=>if iO (Hg y) then (true,jx cs ns (Hg y) ⟨y::K,x.v,x.s⟩ z) else lC cs ns k (bH ns (Hg y) ⟨y::K,x.v,x.s⟩) z
noncomputable def cF (cs:List (List Nat×Int)) (ns:List (List Nat)) (x:Bd) (z:Mc):Bool×Bd×Mc:=if x.s=0 then lC cs ns 1000 x z else (false,x,z)
theorem jo  {x:Bd} {z:Mc} (h:bT x.K= []) (k:Nat):lC cs ns k x z=(false,⟨[],x.v,1⟩,z):=by
 cases k<;>(rw[lC,h])
theorem mC  {x:Bd} {z:Mc} {y:List Stm×Nat} (h:bT x.K=y::K) (k:Nat):lC cs ns (k+1) x z=if iO (Hg y) then (true,jx cs ns (Hg y) ⟨y::K,x.v,x.s⟩ z) else lC cs ns k (bH ns (Hg y) ⟨y::K,x.v,x.s⟩) z:=by
 rw[lC,h]
theorem ml  {x:Bd} {z:Mc} {y:List Stm×Nat} (h:bT x.K=y::K):lC cs ns 0 x z=(false,⟨y::K,x.v,2⟩,⟨z.cl,z.out,true⟩):=by
 rw[lC,h]
theorem zz {y:List Stm×Nat} (h:y.2<y.1.length):Hg y=y.1[y.2]:=by unfold Hg;rw[List.getElem?_eq_getElem h];rfl
section
variable {f:NV->NV->Bool->List NV} {mk:NV->NV->NV->Int->List NV} {B m m':NH} {r b:D4} {vcl vo pl nm vv vc vt vr rec vth:NV} {st:Bool} {ns:List (List Nat)} {x:Bd} {z:Mc} {cs:List (List Nat×Int)} {F F':List D4}
theorem n5 (t:Stm):(ek cs ns t x z).1.K=x.K/\(ek cs ns t x z).1.s=x.s:=by
 unfold ek
 split
 ·exact ⟨rfl,rfl⟩
 split
 ·exact ⟨rfl,rfl⟩
 split
 ·split<;>exact ⟨rfl,rfl⟩
 split<;>exact ⟨rfl,rfl⟩
theorem zi {l:List Int} (h:∀z∈l,cI z) (i:Nat):cI ((l[i]?).getD 0):=by
 cases hl:l[i]? with
 |none=>exact ⟨by simp,by simp⟩
 |some a=>exact h a (List.mem_of_getElem? hl)
theorem uw {l:List Int} (h:∀z∈l,cI z) {y:Int} (hy:cI y) (i:Nat):∀z∈l.set i y,cI z:=fun z hz=>(List.mem_or_eq_of_mem_set hz).elim (h z) fun e=>e▸hy
theorem CG (hk:BdOk cs ns x) (hz:McOk cs z) {t:Stm} (hG:Gs cs t):BdOk cs ns (ek cs ns t x z).1/\McOk cs (ek cs ns t x z).2/\(ek cs ns t x z).2.out.length<=z.out.length+1:=by
 obtain ⟨g1,g2,g3,g4⟩:=mq hG
 have hx:=iT (ns:=ns) hk.iv t.x g3
 have hy:=iT (ns:=ns) hk.iv t.y g4
 unfold ek
 split
 ·exact ⟨hk.set (zi hz.iv _),hz,by simp⟩
 split
 ·exact ⟨hk,⟨uw hz.iv hx _,hz.io,by simp[hz.n]⟩,by simp⟩
 split
 ·split
  ·exact ⟨hk.set ⟨by simp,by simp⟩,⟨uw hz.iv hy _,hz.io,by simp[hz.n]⟩,by simp⟩
  ·exact ⟨hk.set ⟨by simp,by simp⟩,hz,by simp⟩
 split
 ·exact ⟨hk,⟨hz.iv,fun y hy=>(List.mem_append.1 hy).elim (hz.io y) fun q=>by rw[List.mem_singleton] at q;subst q;exact hx,hz.n⟩,by simp⟩
 ·exact ⟨hk,hz,by simp⟩
theorem Bod.state {s':Int} (h:Bod mk B m b pl nm vv ns x) (hg:m'.get b=some (.cells true (mk pl nm vv s'))) (hC:Chg [b] m m'):Bod mk B m' b pl nm vv ns ⟨x.K,x.v,s'⟩/\EvF (ec b pl nm vv) (ec b pl nm vv) m m':=by
 have hn:∀{v:NV},b∉ids v->∀i∈ids v,i∉ [b]:=fun hb i hi q=>by have q:=one q;subst q;exact hb hi
 obtain ⟨C,hP,hk⟩:=h.p
 exact h.putP (x':=⟨x.K,x.v,s'⟩) hg (hC.weak fun i hi _=>by have hi:=one hi;subst hi;simp[ec]) ⟨C,hP.chg hC (hn h.d1.1),hk⟩ (h.v.chg hC (hn h.d1.2.1)) (fun i hi=>hC.get (h.n.sl.old i hi) (hn h.d1.2.2 i hi)) (fun i hi=>Or.inl hi) rfl
theorem Mac.sick  (h:Mac f B m r vcl vo z) (hg:m'.get r=some (.cells true (f vcl vo true))) (hC:Chg [r] m m'):Mac f B m' r vcl vo ⟨z.cl,z.out,true⟩/\EvF (cR r vcl vo) (cR r vcl vo) m m':=by
 have hn:∀{v:NV},r∉ids v->∀i∈ids v,i∉ [r]:=fun hb i hi q=>by have q:=one q;subst q;exact hb hi
 exact ⟨⟨hg,hC.old h.o,h.nB,h.cl.chg hC (hn h.d.1),h.ou.chg hC (hn h.d.2.1),h.d,h.c.trans hC fun i hi ho=>by have hi:=one hi;subst hi;exact W9 ho h.nB⟩,hC.weak fun i hi _=>by have hi:=one hi;subst hi;simp[cR],fun j hj=>Or.inl hj⟩
theorem OM:dN .ptr .eql .nilp .nilp=some (.bool true):=_root_.id rfl
theorem Ok {i:D4} {o:Nat}:dN .ptr .eql (.ptr i o) .nilp=some (.bool false):=_root_.id rfl
theorem sR:dN .ptr .neq .nilp .nilp=some (.bool false):=_root_.id rfl
theorem tp {i:D4} {o:Nat}:dN .ptr .neq (.ptr i o) .nilp=some (.bool true):=_root_.id rfl
structure da (f:NV->NV->Bool->List NV) (mk:NV->NV->NV->Int->List NV) (B m0 M:NH) (cs:List (List Nat×Int)) (ns:List (List Nat)) (r b:D4) (F0:List D4) (vcl vo pl nm vv:NV) (x:Bd) (z:Mc) (o:Nat):Prop where
 mc:Mac f B M r vcl vo z
 bd:Bod mk B M b pl nm vv ns x
 dj:∀i∈cR r vcl vo,i∉ec b pl nm vv
 bk:BdOk cs ns x
 zk:McOk cs z
 ol:z.out.length<=o
 ev:EvF F0 (cR r vcl vo++ec b pl nm vv) m0 M
end
def eo (ns:List (List Nat)) (s:List Nat):Int:=max 0 (bC ns s)
mutual
def Ex.lw (ns:List (List Nat)):Ex->Ms->Int×Ms
 | .mk k n o s ks,X=>if k=0 then (X.v,aM n X) else if k=1 then (eo ns s,X) else if k=2 then Sv ns o ks X else (0,X)
def Sv (ns:List (List Nat)) (o:Nat):List Ex->Ms->Int×Ms
 | [],X=>(0,X)
 | [_],X=>(0,X)
 |a::b::_,X=>((b.lw ns (a.lw ns X).2).2.v,jG o (a.lw ns X).1 (b.lw ns (a.lw ns X).2).1 (b.lw ns (a.lw ns X).2).2)
end
theorem eU :∀(x:Ex) {X:Ms} {k:Nat},X.ok (k+x.sz)->(x.lw ns X).2.ok k:=by
 apply Ex.ind (P:=fun x=>∀{X:Ms} {k:Nat},X.ok (k+x.sz)->(x.lw ns X).2.ok k)
 intro c n o s ks ih X k h
 rw[Ex.sz] at h
 rw[Ex.lw]
 split
 ·exact gj (h.weak (by omega)) _
 ·split
  ·exact h.weak (by omega)
  ·split
   ·match ks,ih,h with
    | [],_,h=>exact h.weak (by omega)
    | [_],_,h=>exact h.weak (by omega)
    |a::b::l,ih,h=>
     rw[kS,kS] at h
     rw[Sv]
     refine tq ?_ _ _ _
     refine ih b (by simp) ?_
     refine ih a (by simp) (h.weak ?_)
     omega
   ·exact h.weak (by omega)
def W4 (f:Nat) (ns:List (List Nat)) (x:Ex):Prop:=∀{B m:NH} {T:D4->Prop} {c:List NV} {r:D4} {vc vn vs:NV} {lo:Int} {X:Ms} {k:Nat},RE B T x c->Sl B vn 1 (bK ns)->ns.length<=1000000->MK B m r vc vn lo vs X->X.ok (k+x.sz)->
 ∃m',rT f [.ptr r 0,.agg c] m (ii (x.lw ns X).1) m'/\∃vs',MK B m' r vc vn lo vs' (x.lw ns X).2/\Ev r vs vs' m m'
theorem TX  {ks:List Ex} (hS:SE B T vk ks C) (i:Nat) (hi:i<ks.length):∃u id off w c,RE B T ks[i] (ks[i].l u)/\ix 5 vk (.int .i64 (.lit (i:Int)))= .val (.ptr id off)/\B.get id=some (.cells w c)/\am B id/\off+5<=c.length/\(c.drop off).take 5=ks[i].l u:=
 uQ hS (kQ (Chg.refl B) T) i hi
section
variable {B m:NH} {r:D4} {vc vn vs:NV} {lo:Int} {X:Ms} {ns:List (List Nat)}
theorem pw (h:MK B m r vc vn lo vs X) (hn:Sl B vn 1 (bK ns)) (hsz:ns.length<=1000000) (s:List Nat):rT 104 [.ptr r 0,.str s] m (ii (eo ns s)) m:=by
 have h:∃m',rT 104 [.ptr r 0,.str s] m (ii (eo ns s)) m'/\m'=m:=by
  refine WF.ex1 fun K hK=> ?_
  refine WF.of_wpG (fun _=>rfl) vV (L:= [(.a .e,.str s),(.e,.ptr r 0)]) rfl ?_
  unfold II
  have hg:=h.g
  have hi:=sY (hn.chg h.c fun _ _=>by simp) (by omega) s
  simp only[go_sem,seval,aa,hg,hi.wf']
  exact hK _ rfl
 obtain ⟨m',h1,rfl⟩:=h
 exact h1
end
theorem il :∀x:Ex,W4 103 ns x:=by
 apply Ex.ind
 intro cd n o s ks ih B m T c r vc vn vs lo X k hR hn hsz h hk
 obtain ⟨vk,C,rfl,hS⟩:=hR.inv
 refine WF.ex1 fun K hK=> ?_
 refine WF.of_wpG (fun _=>rfl) vM (L:= [(.a .e,.agg [ii cd,u64 n,u8 o,.str s,vk]),(.e,.ptr r 0)]) rfl ?_
 unfold KP
 generalize hM1:hp [(.n 0,.cells true [ii cd,u64 n,u8 o,.str s,vk])] 1 m=M1
 have hC1:Chg [] m M1:=aR hM1 rfl
 have hg1:M1.get (na m 0)=some (.cells true [ii cd,u64 n,u8 o,.str s,vk]):=bu hM1
 have ho1:am M1 (na m 0):=bt hM1 (by omega)
 have k1:=h.grow hC1
 obtain ⟨nr1,ns1⟩:=h.new 0
 rw[Ex.lw] at hK
 have hlen:=hS.sl.len
 rw[hS.len] at hlen
 rw[Ex.sz] at hk
 by_cases h0:cd=0
 ·rw[Xb h0] at hK
  subst h0
  obtain ⟨m2,h2,v2,k2,e2⟩:=pf k1 n (hk.weak (by omega:0+1<=_))
  simp only[go_sem,seval,hM1,hg1,h2.wf']
  exact hK _ ⟨v2,k2,Ev.pre hC1 e2⟩
 rw[Xa h0] at hK
 by_cases h1:cd=1
 ·rw[Xb h1] at hK
  subst h1
  have h2:=pw k1 hn hsz s
  simp only[go_sem,seval,hM1,hg1,h2.wf']
  exact hK _ ⟨vs,k1,Ev.grow hC1⟩
 rw[Xa h1] at hK
 by_cases h2:cd=2
 ·rw[Xb h2] at hK
  subst h2
  match ks,ih,hS,hlen,hk,hK with
  | [],_,_,hlen,_,hK=>
   simp only[go_sem,seval,hM1,hg1,hlen]
   exact hK _ ⟨vs,k1,Ev.grow hC1⟩
  | [_],_,_,hlen,_,hK=>
   simp only[go_sem,seval,hM1,hg1,hlen]
   exact hK _ ⟨vs,k1,Ev.grow hC1⟩
  |a::b::l,ih,hS,hlen,hk,hK=>
   rw[kS,kS] at hk
   rw[Sv] at hK
   have hlr:(((a::b::l).length:Nat):Int)=l.length+2:=by simp;omega
   rw[hlr] at hlen
   obtain ⟨ua,ida,offa,wa,ca,hRa,a1,a2,a3,a4,a5⟩:=TX hS 0 (by simp)
   obtain ⟨ub,idb,offb,wb,cb,hRb,b1,b2,b3,b4,b5⟩:=TX hS 1 (by simp)
   have a1':ix 5 vk (.int .i64 (.lit 0))= .val (.ptr ida offa):=a1
   have b1':ix 5 vk (.int .i64 (.lit 1))= .val (.ptr idb offb):=b1
   dsimp only[List.getElem_cons_zero,List.getElem_cons_succ] at hRa hRb a5 b5
   obtain ⟨m2,r2,v2,k2,e2⟩:=ih a (by simp) hRa hn hsz k1 (k:=k+1+b.sz) (hk.weak (by omega))
   have ok2:=eU a (ns:=ns) (X:=X) (k:=k+1+b.sz) (hk.weak (by omega))
   have hg2:=(e2.get ho1 nr1 ns1).trans hg1
   have ho2:=e2.c.old ho1
   have ns2:=e2.nin ho1 ns1
   obtain ⟨m3,r3,v3,k3,e3⟩:=ih b (by simp) hRb hn hsz k2 (k:=k+1) (ok2.weak (by omega))
   have ok3:=eU b (ns:=ns) (X:=(a.lw ns X).2) (k:=k+1) (ok2.weak (by omega))
   have hg3:=(e3.get ho2 nr1 ns2).trans hg2
   have a2':=(k1.c.get a3 (by simp)).trans a2
   have b2':=(k2.c.get b3 (by simp)).trans b2
   have b2'':=(k3.c.get b3 (by simp)).trans b2
   obtain ⟨m4,r4,v4,k4,e4⟩:=Ew k3 (o:Int) (a.lw ns X).1 (b.lw ns (a.lw ns X).2).1 (k:=k) ok3
   have hvk:=hS.sl.same (n:=3)
   have sb:=fO hRb
   have e0:(0:Int)<=l.length+2:=by omega
   simp (disch:=first|assumption|omega) only[go_sem,seval,hM1,hg1,hlen,a1',a2',a5,r2.wf',hg2,b1',b2',b5,r3.wf',hg3,b2'',hvk,sb,r4.wf']
   exact hK _ ⟨v4,k4,(Ev.pre hC1 e2).trans (e3.trans e4)⟩
 ·rw[Xa h2] at hK
  simp (disch:=first|assumption|omega) only[go_sem,seval,hM1,hg1]
  exact hK _ ⟨vs,k1,Ev.grow hC1⟩
def oP (cs:List (List Nat×Int)) (z:Int):Int:=if 0<=z then ((cs[z.toNat]?).map (·.2)).getD 1 else 1
def iz (i mk ba:Int) (X:Ms):Int×Ms:=
 let X2:=aM mk X
 let X3:=jG 38 i X.v X2
 let X4:=aM 8 X3
 let X5:=jG 42 X2.v X3.v X4
 let X6:=aM ba X5
 (X6.v,jG 43 X4.v X5.v X6)
def aH (cs:List (List Nat×Int)) (ns:List (List Nat)) (s:Stm) (X:Ms):Int×Ms:=
 iz (s.i.lw ns X).1 ((oP cs (bC (cs.map (·.1)) s.ce) - 1) % 18446744073709551616) (He cs (bC (cs.map (·.1)) s.ce) % 18446744073709551616) (s.i.lw ns X).2
def jz (cs:List (List Nat×Int)) (s:Stm):Int:=max 0 (bC (cs.map (·.1)) s.ce)
theorem Mg {i sz a:Int} {k:Nat} (h:X.ok (k+6)):(iz i sz a X).2.ok k:=
 tq (gj (tq (gj (tq (gj h _) _ _ _) _) _ _ _) _) _ _ _
theorem mP  {s:Stm} {k:Nat} (h:X.ok (k+6+s.i.sz)):(aH cs ns s X).2.ok k:=Mg (eU _ h)
theorem HD (z:Int):IH .u64 (.int .i64 (.lit z))= .val (iu (z % 18446744073709551616)):=Jf
theorem K2  {s:Stm} {w:SV} {vs:NV} {k:Nat} (hR:RE B T s.i (s.i.l w.vi)) (hc:Sl B vc 2 (lU cs)) (hcz:cs.length<=1000000) (hn:Sl B vn 1 (bK ns)) (hsz:ns.length<=1000000) (h:MK B m r vc vn lo vs X) (hk:X.ok (k+6+s.i.sz)) (hzb:∀(n:Nat) (z:Int) {h:n<cs.length},cs[n].2=z->-9223372036854775808<=z - 1/\z - 1<9223372036854775808):
 ∃m',rT 139 [.ptr r 0,.agg (s.l w)] m (.tup [ii (aH cs ns s X).1,ii (jz cs s)]) m'/\∃vs',MK B m' r vc vn lo vs' (aH cs ns s X).2/\Ev r vs vs' m m':=by
 refine WF.ex1 fun K hK=> ?_
 refine WF.of_wpG (fun _=>rfl) xE (L:= [(.a .e,.agg (s.l w)),(.e,.ptr r 0)]) rfl ?_
 unfold JX
 generalize hM1:hp [(.n 0,.cells true (s.l w))] 1 m=M1
 have hC1:Chg [] m M1:=aR hM1 rfl
 have hg1:M1.get (na m 0)=some (.cells true (s.l w)):=bu hM1
 have ho1:am M1 (na m 0):=bt hM1 (by omega)
 have k1:=h.grow hC1
 obtain ⟨nr1,ns1⟩:=h.new 0
 obtain ⟨M2,hf,hC2⟩:∃M2,rT 149 [vc,.str s.ce] M1 (ii (bC (cs.map (·.1)) s.ce)) M2/\Chg [] M1 M2:=RZ (hc.chg k1.c fun _ _=>by simp) hcz s.ce
 have hg2:=(hC2.get ho1 (by simp)).trans hg1
 have ho2:=hC2.old ho1
 have k2:=k1.grow hC2
 have g1:=k1.g
 have g2:=k2.g
 have hcs:=hc.same (n:=3)
 have hsl:(s.l w).length=21:=rfl
 have lt:=pg (l:=cs.map (·.1)) (x:=s.ce)
 rw[List.length_map] at lt
 unfold aH jz at hK
 generalize bC (cs.map (·.1)) s.ce=ce at hf lt hK
 generalize hsize:oP cs ce=sz at hK
 generalize hmk:(sz - 1) % 18446744073709551616=mk at hK
 generalize hba:He cs ce % 18446744073709551616=ba at hK
 obtain ⟨m3,r3,v3,k3,e3⟩:=il s.i hR hn hsz k2 (k:=k+6) hk
 have ok3:=eU s.i (ns:=ns) (X:=X) (k:=k+6) hk
 have hg3:=(e3.get ho2 nr1 ns1).trans hg2
 generalize hlw:s.i.lw ns X=q at r3 k3 ok3 hK
 obtain ⟨iv,X3⟩:=q
 dsimp only at r3 k3 ok3 hK
 obtain ⟨m4,r4,v4,k4,e4⟩:=pf k3 mk (k:=k+5) ok3
 have ok4:=gj ok3 mk
 obtain ⟨m5,r5,v5,k5,e5⟩:=Ew k4 38 iv X3.v (k:=k+4) ok4
 have ok5:=tq ok4 38 iv X3.v
 obtain ⟨m6,r6,v6,k6,e6⟩:=pf k5 8 (k:=k+3) ok5
 have ok6:=gj ok5 8
 obtain ⟨m7,r7,v7,k7,e7⟩:=Ew k6 42 (aM mk X3).v (jG 38 iv X3.v (aM mk X3)).v (k:=k+2) ok6
 have ok7:=tq ok6 42 (aM mk X3).v (jG 38 iv X3.v (aM mk X3)).v
 have g7:=k7.g
 obtain ⟨m8,r8,hC8⟩:=Wt (hc.chg k7.c fun _ _=>by simp) hcz ce
 have k8:=k7.grow hC8
 have g8:=k8.g
 obtain ⟨m9,r9,v9,k9,e9⟩:=pf k8 ba (k:=k+1) ok7
 have ok9:=gj ok7 ba
 obtain ⟨m0,r0,v0,k0,e0⟩:=Ew k9 43 (aM 8 (jG 38 iv X3.v (aM mk X3))).v (jG 42 (aM mk X3).v (jG 38 iv X3.v (aM mk X3)).v (aM 8 (jG 38 iv X3.v (aM mk X3)))).v (k:=k) ok9
 have hE:Ev r vs v0 m m0:=Ev.pre (hC1.tr hC2) (e3.trans (e4.trans (e5.trans (e6.trans (e7.trans (Ev.pre hC8 (e9.trans e0)))))))
 by_cases hce:ce<0
 ·have hs1:sz=1:=by rw[←hsize];unfold oP;rw[Xa (by omega)]
  subst hs1
  obtain rfl:mk=0:=by rw[←hmk];rfl
  have hm:max 0 ce=0:=by omega
  rw[hm] at hK
  simp (disch:=first|assumption|omega) only[go_sem,seval,hM1,hg1,g1,hf.wf',hg2,g2,hcs,hsl,r3.wf',r4.wf',r5.wf',r6.wf',r7.wf',g7,r8.wf',r9.wf',r0.wf',HD,hm,hmk,hba]
  exact hK _ ⟨v0,k0,hE⟩
 ·obtain ⟨n,rfl⟩:=Xh (by omega:0<=ce)
  have hnl:n<cs.length:=by omega
  obtain ⟨id,off,wr,c,a1,a2,a3,a4,a5⟩:=hc.at n (by simpa using hnl)
  rw[List.getElem_map] at a5
  have c1:c[off+1]? =some (ii cs[n].2):=aF a5 1 (by omega)
  have hs1:cs[n].2=sz:=by rw[←hsize];unfold oP;rw[Xb (by omega),Int.toNat_natCast,List.getElem?_eq_getElem hnl];rfl
  rw[hs1] at c1
  have a2':=(k2.c.get a3 (by simp)).trans a2
  have hm:max 0 (n:Int)=n:=by omega
  rw[hm] at hK
  obtain ⟨hz1,hz2⟩:-9223372036854775808<=sz - 1/\sz - 1<9223372036854775808:=hzb _ _ hs1
  simp (disch:=first|assumption|omega) only[go_sem,seval,hM1,hg1,g1,hf.wf',hg2,g2,hcs,hsl,a1,a2',c1,hg3,r3.wf',r4.wf',r5.wf',r6.wf',r7.wf',g7,r8.wf',r9.wf',r0.wf',HD,hm,hmk,hba]
  exact hK _ ⟨v0,k0,hE⟩
def cw (n:Int) (X:Ms):Ms:=⟨X.st,X.v,X.lb+n⟩
def aj (k a t:Int):Sp:=⟨k,0,a,0,0,t,0,0,0⟩
mutual
def Stm.lw (cs:List (List Nat×Int)) (ns:List (List Nat)):Stm->Ms->Ms
 | .mk k a nm ce i x y b e,X=>
  if k=0 then aU ⟨1,eo ns nm,(x.lw ns X).1,0,0,0,0,0,0⟩ (x.lw ns X).2
  else if k=1 then aU ⟨3,eo ns nm,(aH cs ns (.mk k a nm ce i x y b e) X).1,0,0,0,jz cs (.mk k a nm ce i x y b e),0,0⟩ (aH cs ns (.mk k a nm ce i x y b e) X).2
  else if k=2 then aU ⟨4,0,(aH cs ns (.mk k a nm ce i x y b e) X).1,(x.lw ns (aH cs ns (.mk k a nm ce i x y b e) X).2).1,0,0,jz cs (.mk k a nm ce i x y b e),0,0⟩ (x.lw ns (aH cs ns (.mk k a nm ce i x y b e) X).2).2
  else if k=3 then aU ⟨5,eo ns nm,(aH cs ns (.mk k a nm ce i x y b e) X).1,(x.lw ns (aH cs ns (.mk k a nm ce i x y b e) X).2).1,(y.lw ns (x.lw ns (aH cs ns (.mk k a nm ce i x y b e) X).2).2).1,0,jz cs (.mk k a nm ce i x y b e),0,0⟩ (y.lw ns (x.lw ns (aH cs ns (.mk k a nm ce i x y b e) X).2).2).2
  else if k=4 then aU (aj 13 0 0) X
  else if k=5 then aU (aj 8 (x.lw ns X).1 0) (x.lw ns X).2
  else if k=6 then aU (aj 9 0 (X.lb+1)) (dZ cs ns e (aU (aj 9 0 X.lb) (aU (aj 10 0 (X.lb+1)) (dZ cs ns b (aU (aj 11 (x.lw ns (cw 2 X)).1 X.lb) (x.lw ns (cw 2 X)).2)))))
  else if k=7 then aU (aj 9 0 (X.lb+1)) (aU (aj 10 0 X.lb) (dZ cs ns b (aU (aj 11 (x.lw ns (aU (aj 9 0 X.lb) (cw 2 X))).1 (X.lb+1)) (x.lw ns (aU (aj 9 0 X.lb) (cw 2 X))).2)))
  else X
def dZ (cs:List (List Nat×Int)) (ns:List (List Nat)):List Stm->Ms->Ms
 | [],X=>X
 |s::l,X=>dZ cs ns l (s.lw cs ns X)
end
theorem uN  {k:Nat} (h:X.ok (k+2)):(cw 2 X).ok k:=⟨by have:=h.s;simp only[cw];omega,h.v0,by have:=h.v;simp only[cw];omega,by have:=h.l0;simp only[cw];omega,by have:=h.l;simp only[cw];omega⟩
section
variable {cs:List (List Nat×Int)} {ns:List (List Nat)}
theorem nF {l:List Stm} (h:∀s∈l,∀{X:Ms} {k:Nat},X.ok (k+16*s.sz)->(s.lw cs ns X).ok k):∀{X:Ms} {k:Nat},X.ok (k+16*bQ l)->(dZ cs ns l X).ok k:=by
 induction l with
 |nil=>intro X k q;rw[dZ];exact q.weak (by omega)
 |cons s l ih=>
  intro X k q
  rw[bQ] at q
  rw[dZ]
  exact ih (fun y hy=>h y (List.mem_cons_of_mem _ hy)) (h s (List.mem_cons_self ..) (q.weak (by omega)))
theorem HB:∀(s:Stm) {X:Ms} {k:Nat},X.ok (k+16*s.sz)->(s.lw cs ns X).ok k:=by
 apply Stm.ind (P:=fun s=>∀{X:Ms} {k:Nat},X.ok (k+16*s.sz)->(s.lw cs ns X).ok k)
 intro k a nm ce i x y b e hb he X q h
 rw[Stm.sz] at h
 rw[Stm.lw]
 have hB:∀{X:Ms} {k:Nat},X.ok (k+16*bQ b)->(dZ cs ns b X).ok k:=nF hb
 have hE:∀{X:Ms} {k:Nat},X.ok (k+16*bQ e)->(dZ cs ns e X).ok k:=nF he
 split
 ·exact c8 (eU x (h.weak (by omega))) _
 split
 ·exact c8 (mP (h.weak (by simp only[Stm.i];omega))) _
 split
 ·exact c8 (eU x (mP (h.weak (by simp only[Stm.i];omega)))) _
 split
 ·exact c8 (eU y (eU x (mP (h.weak (by simp only[Stm.i];omega))))) _
 split
 ·exact c8 (h.weak (by omega)) _
 split
 ·exact c8 (eU x (h.weak (by omega))) _
 split
 ·exact c8 (hE (c8 (c8 (hB (c8 (eU x (uN (h.weak (by omega)))) _)) _) _)) _
 split
 ·exact c8 (c8 (hB (c8 (eU x (c8 (uN (h.weak (by omega))) _)) _)) _) _
 ·exact h.weak (by omega)
theorem rL {l:List Stm} {k:Nat} (h:X.ok (k+16*bQ l)):(dZ cs ns l X).ok k:=nF (fun s _=>HB s) h
end
structure Cx (B:NH) (vc vn:NV) (cs:List (List Nat×Int)) (ns:List (List Nat)):Prop where
 c:Sl B vc 2 (lU cs)
 cl:cs.length<=1000000
 z:∀(n:Nat) (z:Int) {h:n<cs.length},cs[n].2=z->-9223372036854775808<=z - 1/\z - 1<9223372036854775808
 n:Sl B vn 1 (bK ns)
 nl:ns.length<=1000000
structure Kp (m:NH) (r:D4) (vs:NV) (t:D4) (c:List NV):Prop where
 g:m.get t=some (.cells true c)
 o:am m t
 nr:t≠r
 ns:t∉ids vs
theorem Kp.next  {t:D4} {vs vs':NV} (h:Kp m r vs t c) (e:Ev r vs vs' m m'):Kp m' r vs' t c:=⟨(e.get h.o h.nr h.ns).trans h.g,e.c.old h.o,h.nr,e.nin h.o h.ns⟩
theorem Kp.grow  {t:D4} {vs:NV} (h:Kp m r vs t c) (e:Chg [] m m'):Kp m' r vs t c:=⟨(e.get h.o (by simp)).trans h.g,e.old h.o,h.nr,h.ns⟩
theorem MK.off  {vs:NV} (h:MK B m r vc vn lo vs X) (hC:Chg S m m') (hS:∀i∈S,i≠r/\i∉ids vs/\¬am B i):MK B m' r vc vn lo vs X:=
 ⟨(hC.get h.o fun q=>(hS _ q).1 rfl).trans h.g,hC.old h.o,h.nB,h.s.chg hC fun i hi q=>(hS i q).2.1 hi,h.n,h.c.trans hC fun i hi ho=>W9 ho (hS i hi).2.2⟩
theorem Ev.off  {m'':NH} {vs vs':NV} (h:Ev r vs vs' m m') (hC:Chg S m' m'') (hS:∀i∈S,¬am m i):Ev r vs vs' m m'':=⟨h.c.trans hC fun i hi ho=>W9 ho (hS i hi),h.f⟩
def LN (f:Nat) (cs:List (List Nat×Int)) (ns:List (List Nat)) (l:List Stm):Prop:=∀{B m:NH} {T:D4->Prop} {v vc vn vs:NV} {C:List (List NV)} {r:D4} {lo:Int} {X:Ms} {k:Nat},SS B T v l C->Cx B vc vn cs ns->MK B m r vc vn lo vs X->X.ok (k+16*bQ l)->
 ∃m',rT f [.ptr r 0,v] m (.tup []) m'/\∃vs',MK B m' r vc vn lo vs' (dZ cs ns l X)/\Ev r vs vs' m m'
def V0 (f:Nat) (cs:List (List Nat×Int)) (ns:List (List Nat)) (s:Stm):Prop:=∀{B m:NH} {T:D4->Prop} {w:SV} {vc vn vs:NV} {r:D4} {lo:Int} {X:Ms} {k:Nat},SP B T s w->Cx B vc vn cs ns->MK B m r vc vn lo vs X->X.ok (k+16*s.sz)->
 ∃m',rT f [.ptr r 0,.agg (s.l w)] m (.tup []) m'/\∃vs',MK B m' r vc vn lo vs' (s.lw cs ns X)/\Ev r vs vs' m m'
section
variable {cs:List (List Nat×Int)} {ns:List (List Nat)}
theorem wg  {vs:NV} (h:MK B m r vc vn lo vs X) {k:Nat} (hk:X.ok (k+2)):∃m',rT 140 [.ptr r 0] m (.tup [ii X.lb,ii (X.lb+1)]) m'/\∃vs',MK B m' r vc vn lo vs' (cw 2 X)/\Ev r vs vs' m m':=by
 refine WF.ex1 fun K hK=> ?_
 refine WF.of_wpG (fun _=>rfl) wM (L:= [(.e,.ptr r 0)]) rfl ?_
 unfold KR
 have hg:=h.g
 have ho:=h.o
 have hl:=hk.l
 have hl0:=hk.l0
 have e1:X.lb+2 - 2=X.lb:=by omega
 have e2:X.lb+2 - 1=X.lb+1:=by omega
 simp (disch:=first|assumption|omega|(simp only[aG]<;>omega)) only[go_sem,seval,hg,e1,e2]
 generalize hM3:hp _ 0 m=M3
 have hC3:Chg [r] m M3:=aR hM3 rfl
 refine hK _ ⟨vs,⟨?_,hC3.old ho,h.nB,h.s.chg hC3 fun i hi q=>h.n (by simp at q;exact q▸hi),h.n, ?_⟩,⟨hC3.weak (by simp),fun j hj=>Or.inl hj⟩⟩
 ·rw[←hM3];exact (aE ho).trans aq
 ·refine h.c.trans hC3 fun i hi q=> ?_
  have hi:=one hi;subst hi;exact W9 q h.nB
theorem J4 {s:Stm} (h123:s.k=1∨s.k=2∨s.k=3):V0 105 cs ns s:=by
 intro B m T w vc vn vs r lo X k hS hx h hk
 refine WF.ex1 fun K hK=> ?_
 refine WF.of_wpG (fun _=>rfl) wK (L:= [(.a .e,.agg (s.l w)),(.e,.ptr r 0)]) rfl ?_
 unfold K1
 generalize hM1:hp [(.n 0,.cells true (s.l w))] 1 m=M1
 have hC1:Chg [] m M1:=aR hM1 rfl
 have p1:Kp M1 r vs (na m 0) (s.l w):=⟨by rw[←hM1];exact bI,by rw[←hM1];exact bN (by omega),(h.new 0).1,(h.new 0).2⟩
 have k1:=h.grow hC1
 have hsl:(s.l w).length=21:=rfl
 have hg1:=p1.g
 have hsz:s.sz=1+s.i.sz+s.x.sz+s.y.sz+bQ s.b+bQ s.e:=by cases s;rfl
 have hlw:s.lw cs ns X=(if s.k=1 then aU ⟨3,eo ns s.nm,(aH cs ns s X).1,0,0,0,jz cs s,0,0⟩ (aH cs ns s X).2
  else if s.k=2 then aU ⟨4,0,(aH cs ns s X).1,(s.x.lw ns (aH cs ns s X).2).1,0,0,jz cs s,0,0⟩ (s.x.lw ns (aH cs ns s X).2).2
  else aU ⟨5,eo ns s.nm,(aH cs ns s X).1,(s.x.lw ns (aH cs ns s X).2).1,(s.y.lw ns (s.x.lw ns (aH cs ns s X).2).2).1,0,jz cs s,0,0⟩ (s.y.lw ns (s.x.lw ns (aH cs ns s X).2).2).2):=by
  obtain ⟨k,a,nm,ce,i,x,y,b,e⟩:=s
  simp only[Stm.k] at h123
  rw[Stm.lw,Xa (by omega)]
  simp only[Stm.k,Stm.nm,Stm.x,Stm.y]
  by_cases h1:k=1
  ·rw[Xb h1];exact (Xb h1).symm
  ·rw[Xa h1]
   by_cases h2:k=2
   ·rw[Xb h2];exact ((Xa h1).trans (Xb h2)).symm
   ·rw[Xa h2,Xb (by omega)];exact ((Xa h1).trans (Xa h2)).symm
 rw[hlw] at hK
 have hS':RE B T s.i (s.i.l w.vi):=hS.i
 obtain ⟨m2,r2,v2,k2,e2⟩:=K2 (w:=w) (s:=s) hS' hx.c hx.cl hx.n hx.nl k1 (k:=k+1+s.x.sz+s.y.sz) (hk.weak (by omega)) hx.z
 have ok2:=mP (cs:=cs) (ns:=ns) (s:=s) (X:=X) (k:=k+1+s.x.sz+s.y.sz) (hk.weak (by omega))
 have p2:=p1.next e2
 have hg2:=p2.g
 generalize aH cs ns s X=q at r2 k2 ok2 hK
 generalize jz cs s=ce at r2 hK
 obtain ⟨pa,X2⟩:=q
 dsimp only at r2 k2 ok2 hK
 generalize hM3:hp [(.n 0,.cells true [ii 0,ii 0,ii pa,ii 0,ii 0,ii 0,ii ce,iu 0,ib 0]),(.n 0,.cells true [ii 0,ii 0,ii 0,ii 0,ii 0,ii 0,ii 0,iu 0,ib 0])] 1 m2=M3
 have hC3:Chg [] m2 M3:=aR hM3 rfl
 have q3:Kp M3 r v2 (na m2 0) [ii 0,ii 0,ii pa,ii 0,ii 0,ii 0,ii ce,iu 0,ib 0]:=⟨by rw[←hM3];exact bI,by rw[←hM3];exact bN (by omega),(k2.new 0).1,(k2.new 0).2⟩
 have k3:=k2.grow hC3
 have p3:=p2.grow hC3
 have hg3:=p3.g
 have e3:Ev r vs v2 m M3:=(Ev.pre hC1 e2).trans (Ev.grow hC3)
 have hq3:=q3.g
 have hqo:=q3.o
 have hoB:∀{i},am B i->am m2 i:=fun ho=>k2.c.old ho
 have hom:∀{i},am m i->am m2 i:=fun ho=>e2.c.old (hC1.old ho)
 rcases h123 with h1|h1|h1
 ·rw[Xb h1] at hK
  have r4:=pw k3 hx.n hx.nl s.nm
  simp (disch:=first|assumption|omega|(simp only[aG]<;>omega)) only[go_sem,seval,hM1,hg1,hsl,r2.wf,hg2,hM3,hg3,r4.wf,hq3]
  generalize hM4:hp _ 0 M3=M4
  have hC4:Chg [na m2 0] M3 M4:=li hM4 (by simp[aC])
  have k4:=k3.off hC4 fun i hi=>by
   have hi:=one hi;subst hi;exact ⟨q3.nr,q3.ns,fun ho=>aA (hoB ho)⟩
  obtain ⟨m5,r5,v5,k5,e5⟩:=fy k4 ⟨3,eo ns s.nm,pa,0,0,0,ce,0,0⟩ (by have:=ok2.s;omega)
  simp (disch:=first|assumption|omega|(simp only[aG]<;>omega)) only[go_sem,seval,r5.wf']
  refine hK _ ⟨v5,k5,(e3.off hC4 fun i hi ho=> ?_).trans e5⟩
  have hi:=one hi;subst hi;exact aA (hom ho)
 ·rw[Xa (by omega),Xb h1] at hK
  obtain ⟨m4,r4,v4,k4,e4⟩:=il s.x hS.x hx.n hx.nl k3 (k:=k+1+s.y.sz) (ok2.weak (by omega))
  have ok4:=eU s.x (ns:=ns) (X:=X2) (k:=k+1+s.y.sz) (ok2.weak (by omega))
  have q4:=q3.next e4
  have hq4:=q4.g
  have hqo4:=q4.o
  simp (disch:=first|assumption|omega|(simp only[aG]<;>omega)) only[go_sem,seval,hM1,hg1,hsl,r2.wf,hg2,hM3,hg3,r4.wf,hq4]
  generalize hM4:hp _ 0 m4=M4
  have hC4:Chg [na m2 0] m4 M4:=li hM4 (by simp[aC])
  have k5:=k4.off hC4 fun i hi=>by
   have hi:=one hi;subst hi;exact ⟨q4.nr,q4.ns,fun ho=>aA (hoB ho)⟩
  obtain ⟨m6,r6,v6,k6,e6⟩:=fy k5 ⟨4,0,pa,(s.x.lw ns X2).1,0,0,ce,0,0⟩ (by have:=ok4.s;omega)
  simp (disch:=first|assumption|omega|(simp only[aG]<;>omega)) only[go_sem,seval,r6.wf']
  refine hK _ ⟨v6,k6,((e3.trans e4).off hC4 fun i hi ho=> ?_).trans e6⟩
  have hi:=one hi;subst hi;exact aA (hom ho)
 ·rw[Xa (by omega),Xa (by omega)] at hK
  have r3:=pw k3 hx.n hx.nl s.nm
  obtain ⟨m4,r4,v4,k4,e4⟩:=il s.x hS.x hx.n hx.nl k3 (k:=k+1+s.y.sz) (ok2.weak (by omega))
  have ok4:=eU s.x (ns:=ns) (X:=X2) (k:=k+1+s.y.sz) (ok2.weak (by omega))
  have q4:=q3.next e4
  have p4:=p3.next e4
  have hq4:=q4.g
  have hg4:=p4.g
  have hqo4:=q4.o
  have hsx:=fO hS.x
  have hpo4:=p4.o
  have hne:na m 0≠na m2 0:=p2.o.ne 0
  simp (disch:=first|assumption|omega|(simp only[aG]<;>omega)) only[go_sem,seval,hM1,hg1,hsl,r2.wf,hg2,hM3,hg3,r3.wf',r4.wf,hq4,hg4,hsx]
  generalize hM4:hp _ 0 m4=M4
  have hC4:Chg [na m2 0] m4 M4:=li hM4 (by simp[aC])
  have k5:=k4.off hC4 fun i hi=>by
   have hi:=one hi;subst hi;exact ⟨q4.nr,q4.ns,fun ho=>aA (hoB ho)⟩
  have q5:Kp M4 r v4 (na m2 0) [ii 5,ii (eo ns s.nm),ii pa,ii (s.x.lw ns X2).1,ii 0,ii 0,ii ce,iu 0,ib 0]:=⟨by rw[←hM4];exact (aE q4.o).trans aq,hC4.old q4.o,q4.nr,q4.ns⟩
  obtain ⟨m6,r6,v6,k6,e6⟩:=il s.y hS.y hx.n hx.nl k5 (k:=k+1) ok4
  have ok6:=eU s.y (ns:=ns) (X:=(s.x.lw ns X2).2) (k:=k+1) ok4
  have q6:=q5.next e6
  have hq6:=q6.g
  have hqo6:=q6.o
  simp (disch:=first|assumption|omega|(simp only[aG]<;>omega)) only[go_sem,seval,r6.wf,hq6]
  generalize hM7:hp _ 0 m6=M7
  have hC7:Chg [na m2 0] m6 M7:=li hM7 (by simp[aC])
  have k7:=k6.off hC7 fun i hi=>by
   have hi:=one hi;subst hi;exact ⟨q6.nr,q6.ns,fun ho=>aA (hoB ho)⟩
  obtain ⟨m8,r8,v8,k8,e8⟩:=fy k7 ⟨5,eo ns s.nm,pa,(s.x.lw ns X2).1,(s.y.lw ns (s.x.lw ns X2).2).1,0,ce,0,0⟩ (by have:=ok6.s;omega)
  simp (config:={maxSteps:=1000000}) (disch:=first|assumption|omega|(apply bN;omega)|(apply cG;assumption)|(simp only[aG]<;>omega)) only[go_sem,seval,r8.wf']
  have hno:∀i∈ [na m2 0],¬am m i:=fun i hi ho=>by
   have hi:=one hi;subst hi;exact aA (hom ho)
  exact hK _ ⟨v8,k8,((((e3.trans e4).off hC4 hno).trans e6).off hC7 hno).trans e8⟩
end
section
variable {cs:List (List Nat×Int)} {ns:List (List Nat)}
theorem yU (s:Stm):s.sz=1+s.i.sz+s.x.sz+s.y.sz+bQ s.b+bQ s.e:=by cases s;rfl
theorem W3 {s:Stm} (h:s.k=6) (X:Ms):s.lw cs ns X=aU (aj 9 0 (X.lb+1)) (dZ cs ns s.e (aU (aj 9 0 X.lb) (aU (aj 10 0 (X.lb+1)) (dZ cs ns s.b (aU (aj 11 (s.x.lw ns (cw 2 X)).1 X.lb) (s.x.lw ns (cw 2 X)).2))))):=by
 obtain ⟨k,a,nm,ce,i,x,y,b,e⟩:=s
 obtain rfl:k=6:=h
 rw[Stm.lw];rfl
theorem W7 {s:Stm} (h:s.k=7) (X:Ms):s.lw cs ns X=aU (aj 9 0 (X.lb+1)) (aU (aj 10 0 X.lb) (dZ cs ns s.b (aU (aj 11 (s.x.lw ns (aU (aj 9 0 X.lb) (cw 2 X))).1 (X.lb+1)) (s.x.lw ns (aU (aj 9 0 X.lb) (cw 2 X))).2))):=by
 obtain ⟨k,a,nm,ce,i,x,y,b,e⟩:=s
 obtain rfl:k=7:=h
 rw[Stm.lw];rfl
theorem WW {s:Stm} (h:s.k=0) (X:Ms):s.lw cs ns X=aU ⟨1,eo ns s.nm,(s.x.lw ns X).1,0,0,0,0,0,0⟩ (s.x.lw ns X).2:=by
 obtain ⟨k,a,nm,ce,i,x,y,b,e⟩:=s
 obtain rfl:k=0:=h
 rw[Stm.lw];rfl
theorem WZ {s:Stm} (h:s.k=4) (X:Ms):s.lw cs ns X=aU (aj 13 0 0) X:=by
 obtain ⟨k,a,nm,ce,i,x,y,b,e⟩:=s
 obtain rfl:k=4:=h
 rw[Stm.lw];rfl
theorem W1 {s:Stm} (h:s.k=5) (X:Ms):s.lw cs ns X=aU (aj 8 (s.x.lw ns X).1 0) (s.x.lw ns X).2:=by
 obtain ⟨k,a,nm,ce,i,x,y,b,e⟩:=s
 obtain rfl:k=5:=h
 rw[Stm.lw];rfl
theorem W2 {s:Stm} (h:s.k<0∨7<s.k) (X:Ms):s.lw cs ns X=X:=by
 obtain ⟨k,a,nm,ce,i,x,y,b,e⟩:=s
 simp only[Stm.k] at h
 rw[Stm.lw,Xa (by omega),Xa (by omega),Xa (by omega),Xa (by omega),Xa (by omega),Xa (by omega),Xa (by omega),Xa (by omega)]
theorem Jg {s:Stm} (h6:s.k=6) (hb:LN 63 cs ns s.b) (he:LN 63 cs ns s.e):V0 106 cs ns s:=by
 intro B m T w vc vn vs r lo X k hS hx h hk
 refine WF.ex1 fun K hK=> ?_
 refine WF.of_wpG (fun _=>rfl) wx (L:= [(.a .e,.agg (s.l w)),(.e,.ptr r 0)]) rfl ?_
 unfold K3
 generalize hM1:hp [(.n 0,.cells true (s.l w))] 1 m=M1
 have hC1:Chg [] m M1:=aR hM1 rfl
 have p1:Kp M1 r vs (na m 0) (s.l w):=⟨by rw[←hM1];exact bI,by rw[←hM1];exact bN (by omega),(h.new 0).1,(h.new 0).2⟩
 have k1:=h.grow hC1
 have hsl:(s.l w).length=21:=rfl
 rw[yU] at hk
 rw[W3 h6] at hK
 obtain ⟨m2,r2,v2,k2,e2⟩:=wg k1 (k:=k+14+s.x.sz+16*bQ s.b+16*bQ s.e) (hk.weak (by omega))
 have ok2:=uN (X:=X) (k:=k+14+s.x.sz+16*bQ s.b+16*bQ s.e) (hk.weak (by omega))
 have p2:=p1.next e2
 have g2:=p2.g
 obtain ⟨m3,r3,v3,k3,e3⟩:=il s.x hS.x hx.n hx.nl k2 (k:=k+14+16*bQ s.b+16*bQ s.e) (ok2.weak (by omega))
 have ok3:=eU s.x (ns:=ns) (X:=cw 2 X) (k:=k+14+16*bQ s.b+16*bQ s.e) (ok2.weak (by omega))
 have p3:=p2.next e3
 generalize s.x.lw ns (cw 2 X)=q at r3 k3 ok3 hK
 obtain ⟨xv,X3⟩:=q
 dsimp only at r3 k3 ok3 hK
 obtain ⟨m4,r4,v4,k4,e4⟩:=fy k3 (aj 11 xv X.lb) (by have:=ok3.s;omega)
 have ok4:=c8 (k:=k+13+16*bQ s.b+16*bQ s.e) (ok3.weak (by omega)) (aj 11 xv X.lb)
 have p4:=p3.next e4
 have g4:=p4.g
 obtain ⟨CB,hSB⟩:=hS.b
 obtain ⟨CE,hSE⟩:=hS.e
 obtain ⟨m5,r5,v5,k5,e5⟩:=hb hSB hx k4 (k:=k+13+16*bQ s.e) (ok4.weak (by omega))
 have ok5:=rL (cs:=cs) (ns:=ns) (l:=s.b) (k:=k+13+16*bQ s.e) (ok4.weak (by omega))
 have p5:=p4.next e5
 generalize dZ cs ns s.b (aU (aj 11 xv X.lb) X3)=X5 at k5 ok5 hK
 obtain ⟨m6,r6,v6,k6,e6⟩:=fy k5 (aj 10 0 (X.lb+1)) (by have:=ok5.s;omega)
 have ok6:=c8 (k:=k+12+16*bQ s.e) (ok5.weak (by omega)) (aj 10 0 (X.lb+1))
 have p6:=p5.next e6
 obtain ⟨m7,r7,v7,k7,e7⟩:=fy k6 (aj 9 0 X.lb) (by have:=ok6.s;omega)
 have ok7:=c8 (k:=k+11+16*bQ s.e) (ok6.weak (by omega)) (aj 9 0 X.lb)
 have p7:=p6.next e7
 have g7:=p7.g
 obtain ⟨m8,r8,v8,k8,e8⟩:=he hSE hx k7 (k:=k+11) (ok7.weak (by omega))
 have ok8:=rL (cs:=cs) (ns:=ns) (l:=s.e) (k:=k+11) (ok7.weak (by omega))
 generalize dZ cs ns s.e (aU (aj 9 0 X.lb) (aU (aj 10 0 (X.lb+1)) X5))=X8 at k8 ok8 hK
 obtain ⟨m9,r9,v9,k9,e9⟩:=fy k8 (aj 9 0 (X.lb+1)) (by have:=ok8.s;omega)
 unfold aj at r4 r6 r7 r9
 simp (disch:=first|assumption|omega|(simp only[aG]<;>omega)) only[go_sem,seval,hM1,r2.wf',g2,hsl,r3.wf',r4.wf',g4,r5.wf',r6.wf',r7.wf',g7,r8.wf',r9.wf']
 exact hK _ ⟨v9,k9,Ev.pre hC1 (e2.trans (e3.trans (e4.trans (e5.trans (e6.trans (e7.trans (e8.trans e9)))))))⟩
theorem Pf {s:Stm} (h7:s.k=7) (hb:LN 63 cs ns s.b):V0 107 cs ns s:=by
 intro B m T w vc vn vs r lo X k hS hx h hk
 refine WF.ex1 fun K hK=> ?_
 refine WF.of_wpG (fun _=>rfl) xr (L:= [(.a .e,.agg (s.l w)),(.e,.ptr r 0)]) rfl ?_
 unfold Kz
 generalize hM1:hp [(.n 0,.cells true (s.l w))] 1 m=M1
 have hC1:Chg [] m M1:=aR hM1 rfl
 have p1:Kp M1 r vs (na m 0) (s.l w):=⟨by rw[←hM1];exact bI,by rw[←hM1];exact bN (by omega),(h.new 0).1,(h.new 0).2⟩
 have k1:=h.grow hC1
 have hsl:(s.l w).length=21:=rfl
 rw[yU] at hk
 rw[W7 h7] at hK
 obtain ⟨m2,r2,v2,k2,e2⟩:=wg k1 (k:=k+14+s.x.sz+16*bQ s.b) (hk.weak (by omega))
 have ok2:=uN (X:=X) (k:=k+14+s.x.sz+16*bQ s.b) (hk.weak (by omega))
 have p2:=p1.next e2
 obtain ⟨m3,r3,v3,k3,e3⟩:=fy k2 (aj 9 0 X.lb) (by have:=ok2.s;omega)
 have ok3:=c8 (k:=k+13+s.x.sz+16*bQ s.b) (ok2.weak (by omega)) (aj 9 0 X.lb)
 have p3:=p2.next e3
 have g3:=p3.g
 obtain ⟨m4,r4,v4,k4,e4⟩:=il s.x hS.x hx.n hx.nl k3 (k:=k+13+16*bQ s.b) (ok3.weak (by omega))
 have ok4:=eU s.x (ns:=ns) (k:=k+13+16*bQ s.b) (ok3.weak (by omega))
 have p4:=p3.next e4
 generalize s.x.lw ns (aU (aj 9 0 X.lb) (cw 2 X))=q at r4 k4 ok4 hK
 obtain ⟨xv,X4⟩:=q
 dsimp only at r4 k4 ok4 hK
 obtain ⟨m5,r5,v5,k5,e5⟩:=fy k4 (aj 11 xv (X.lb+1)) (by have:=ok4.s;omega)
 have ok5:=c8 (k:=k+12+16*bQ s.b) (ok4.weak (by omega)) (aj 11 xv (X.lb+1))
 have p5:=p4.next e5
 have g5:=p5.g
 obtain ⟨CB,hSB⟩:=hS.b
 obtain ⟨m6,r6,v6,k6,e6⟩:=hb hSB hx k5 (k:=k+12) (ok5.weak (by omega))
 have ok6:=rL (cs:=cs) (ns:=ns) (l:=s.b) (k:=k+12) (ok5.weak (by omega))
 generalize dZ cs ns s.b (aU (aj 11 xv (X.lb+1)) X4)=X6 at k6 ok6 hK
 obtain ⟨m7,r7,v7,k7,e7⟩:=fy k6 (aj 10 0 X.lb) (by have:=ok6.s;omega)
 have ok7:=c8 (k:=k+11) (ok6.weak (by omega)) (aj 10 0 X.lb)
 obtain ⟨m8,r8,v8,k8,e8⟩:=fy k7 (aj 9 0 (X.lb+1)) (by have:=ok7.s;omega)
 unfold aj at r3 r5 r7 r8
 simp (disch:=first|assumption|omega|(simp only[aG]<;>omega)) only[go_sem,seval,hM1,r2.wf',hsl,r3.wf',g3,r4.wf',r5.wf',g5,r6.wf',r7.wf',r8.wf']
 exact hK _ ⟨v8,k8,Ev.pre hC1 (e2.trans (e3.trans (e4.trans (e5.trans (e6.trans (e7.trans e8))))))⟩
theorem nS {l:List Stm} (ih:∀x∈l,LN 63 cs ns x.b/\LN 63 cs ns x.e):LN 63 cs ns l:=by
 intro B m T v vc vn vs C r lo X k hSS hx h hk
 refine WF.ex1 fun K hK=> ?_
 refine WF.of_wpG (fun _=>rfl) DN (L:= [(.a .e,v),(.e,.ptr r 0)]) rfl ?_
 unfold QB
 have hlen:=(hSS.stays (kQ h.c T)).sl.len
 rw[hSS.len] at hlen
 have hll:=ng l
 have hls:=hk.s
 simp only[go_sem,seval,hlen,aa]
 refine W.loop (fun j d=>∃t M i vs' X',d=⟨t, [],none,M⟩/\NT.get D4.e t=some (.ptr r 0)/\NT.get D4.e.a.b t=some v/\NT.get D4.e.a.c t=some (ii l.length)/\NT.get D4.e.a.f t=some (ii (i:Nat))/\i+j=l.length/\MK B M r vc vn lo vs' X'/\Ev r vs vs' m M/\X'.ok (k+16*bQ (l.drop i))/\dZ cs ns (l.drop i) X'=dZ cs ns l X) ?_ l.length _ ⟨_,m,0,vs,X,rfl,by exact gq rfl,by exact gq rfl,by exact gq rfl,by exact gq rfl,by omega,h,Ev.grow (Chg.refl m),hk,rfl⟩
 rintro j d ⟨t,M,i,vs1,X1,rfl,g1,g2,g3,g4,hij,k1,e1,ok1,hL⟩
 apply ax
 unfold CY
 change wp _ _ _ _ ⟨ah [] t, [],none,M⟩ _
 rw[←aa M]
 by_cases hi:i<l.length
 ·obtain ⟨w,hCi,hRi,hSi⟩:=CC hSS i hi
  obtain ⟨id,off,wr,c,a1,a2,a3,a4,a5⟩:=zS hSS i hi hCi
  have a2':=(k1.c.get a3 (by simp)).trans a2
  rw[List.drop_eq_getElem_cons hi,bQ] at ok1
  rw[List.drop_eq_getElem_cons hi,dZ] at hL
  have ihi:=ih _ (List.getElem_mem hi)
  generalize l[i]=s at hRi hSi a5 ok1 hL ihi
  have hsz:=yU s
  have hsl:(s.l w).length=21:=rfl
  generalize hM2:hp [(.n 0,.cells true (s.l w)),(.n 0,.cells true [ii 0,ii 0,.str [],.str [],ii 0,iu 0,ib 0,.str [],.nils,ii 0,iu 0,ib 0,.str [],.nils,ii 0,iu 0,ib 0,.str [],.nils,.nils,.nils])] 1 M=M2
  have hC2:Chg [] M M2:=aR hM2 rfl
  have p2:Kp M2 r vs1 (na M 0) (s.l w):=⟨by rw[←hM2];exact bI,by rw[←hM2];exact bN (by omega),(k1.new 0).1,(k1.new 0).2⟩
  have k2:=k1.grow hC2
  have gg:=p2.g
  have oks:=HB (cs:=cs) (ns:=ns) s (X:=X1) (k:=k+16*bQ (l.drop (i+1))) (ok1.weak (by omega))
  have fin:∀{t':Tm} {M':NH} {vs':NV},MK B M' r vc vn lo vs' (s.lw cs ns X1)->Ev r vs1 vs' M2 M'->NT.get D4.e t'=some (.ptr r 0)->NT.get D4.e.a.b t'=some v->NT.get D4.e.a.c t'=some (ii l.length)->NT.get D4.e.a.f t'=some (ii (i+1:Nat))->∃j'<j,∃t M i vs' X',(⟨t', [],none,M'⟩:Dyn)=⟨t, [],none,M⟩/\NT.get D4.e t=some (.ptr r 0)/\NT.get D4.e.a.b t=some v/\NT.get D4.e.a.c t=some (ii l.length)/\NT.get D4.e.a.f t=some (ii (i:Nat))/\i+j'=l.length/\MK B M r vc vn lo vs' X'/\Ev r vs vs' m M/\X'.ok (k+16*bQ (l.drop i))/\dZ cs ns (l.drop i) X'=dZ cs ns l X:=
   fun hk' he' q1 q2 q3 q4=>⟨j - 1,by omega,_,_,i+1,_,_,rfl,q1,q2,q3,q4,by omega,hk',e1.trans (Ev.pre hC2 he'),oks,hL⟩
  by_cases h0:s.k=0
  ·rw[WW h0] at fin
   obtain ⟨m3,r3,v3,k3,e3⟩:=il s.x hSi.x hx.n hx.nl k2 (k:=0) (ok1.weak (by omega))
   have r4:=pw k3 hx.n hx.nl s.nm
   have p3:=p2.next e3
   have g5:=p3.g
   obtain ⟨m5,r5,v5,k5,e5⟩:=fy k3 ⟨1,eo ns s.nm,(s.x.lw ns X1).1,0,0,0,0,0,0⟩ (by have:=(eU s.x (ns:=ns) (X:=X1) (k:=0) (ok1.weak (by omega))).s;omega)
   simp (disch:=first|assumption|omega|(simp only[aG]<;>omega)) only[go_sem,seval,g1,g2,g3,g4,hlen,a1,a2',a5,hM2,gg,hsl,r3.wf',g5,r4.wf',r5.wf',fO hSi.x]
   exact fin k5 (e3.trans e5) (by exact gq g1) (by exact gq g2) (by exact gq g3) (by exact gq rfl<;>rfl)
  by_cases h123:s.k=1∨s.k=2∨s.k=3
  ·obtain ⟨m3,r3,v3,k3,e3⟩:=J4 h123 hSi hx k2 (k:=0) (ok1.weak (by omega))
   rcases h123 with h1|h1|h1
   ·simp (disch:=first|assumption|omega|(simp only[aG]<;>omega)) only[go_sem,seval,g1,g2,g3,g4,hlen,a1,a2',a5,hM2,gg,hsl,r3.wf']
    exact fin k3 e3 (by exact gq g1) (by exact gq g2) (by exact gq g3) (by exact gq rfl<;>rfl)
   ·simp (disch:=first|assumption|omega|(simp only[aG]<;>omega)) only[go_sem,seval,g1,g2,g3,g4,hlen,a1,a2',a5,hM2,gg,hsl,r3.wf']
    exact fin k3 e3 (by exact gq g1) (by exact gq g2) (by exact gq g3) (by exact gq rfl<;>rfl)
   ·simp (disch:=first|assumption|omega|(simp only[aG]<;>omega)) only[go_sem,seval,g1,g2,g3,g4,hlen,a1,a2',a5,hM2,gg,hsl,r3.wf']
    exact fin k3 e3 (by exact gq g1) (by exact gq g2) (by exact gq g3) (by exact gq rfl<;>rfl)
  by_cases h4:s.k=4
  ·rw[WZ h4] at fin
   obtain ⟨m3,r3,v3,k3,e3⟩:=fy k2 (aj 13 0 0) (by have:=ok1.s;omega)
   unfold aj at r3
   simp (disch:=first|assumption|omega|(simp only[aG]<;>omega)) only[go_sem,seval,g1,g2,g3,g4,hlen,a1,a2',a5,hM2,gg,hsl,r3.wf']
   exact fin k3 e3 (by exact gq g1) (by exact gq g2) (by exact gq g3) (by exact gq rfl<;>rfl)
  by_cases h5:s.k=5
  ·rw[W1 h5] at fin
   obtain ⟨m3,r3,v3,k3,e3⟩:=il s.x hSi.x hx.n hx.nl k2 (k:=0) (ok1.weak (by omega))
   obtain ⟨m5,r5,v5,k5,e5⟩:=fy k3 (aj 8 (s.x.lw ns X1).1 0) (by have:=(eU s.x (ns:=ns) (X:=X1) (k:=0) (ok1.weak (by omega))).s;omega)
   unfold aj at r5
   simp (disch:=first|assumption|omega|(simp only[aG]<;>omega)) only[go_sem,seval,g1,g2,g3,g4,hlen,a1,a2',a5,hM2,gg,hsl,r3.wf',r5.wf']
   exact fin k5 (e3.trans e5) (by exact gq g1) (by exact gq g2) (by exact gq g3) (by exact gq rfl<;>rfl)
  by_cases h6:s.k=6
  ·obtain ⟨m3,r3,v3,k3,e3⟩:=Jg h6 ihi.1 ihi.2 hSi hx k2 (k:=0) (ok1.weak (by omega))
   simp (disch:=first|assumption|omega|(simp only[aG]<;>omega)) only[go_sem,seval,g1,g2,g3,g4,hlen,a1,a2',a5,hM2,gg,hsl,r3.wf']
   exact fin k3 e3 (by exact gq g1) (by exact gq g2) (by exact gq g3) (by exact gq rfl<;>rfl)
  by_cases h7:s.k=7
  ·obtain ⟨m3,r3,v3,k3,e3⟩:=Pf h7 ihi.1 hSi hx k2 (k:=0) (ok1.weak (by omega))
   simp (disch:=first|assumption|omega|(simp only[aG]<;>omega)) only[go_sem,seval,g1,g2,g3,g4,hlen,a1,a2',a5,hM2,gg,hsl,r3.wf']
   exact fin k3 e3 (by exact gq g1) (by exact gq g2) (by exact gq g3) (by exact gq rfl<;>rfl)
  ·rw[W2 (by omega)] at fin
   simp (disch:=first|assumption|omega|(simp only[aG]<;>omega)) only[go_sem,seval,g1,g2,g3,g4,hlen,a1,a2',a5,hM2,gg,hsl]
   exact fin k2 (Ev.grow (Chg.refl M2)) (by exact gq g1) (by exact gq g2) (by exact gq g3) (by exact gq rfl<;>rfl)
 ·simp (disch:=first|assumption|omega) only[go_sem,seval,g1,g2,g3,g4,hlen]
  rw[List.drop_of_length_le (by omega),dZ] at hL
  rw[hL] at k1
  rw[aa]
  exact hK _ ⟨vs1,k1,e1⟩
theorem MY:∀l:List Stm,LN 63 cs ns l:=by
 have key:∀x:Stm,LN 63 cs ns x.b/\LN 63 cs ns x.e:=by
  apply Stm.ind
  intro k a nm ce i x y b e hb he
  exact ⟨nS hb,nS he⟩
 exact fun l=>nS fun x _=>key x
end
section
variable {cs:List (List Nat×Int)} {ns:List (List Nat)}
end
structure Wk (ck:D4) (B m0:NH) (vc u:NV) (L:List (List Nat)) (e a:Int) (N:NH):Prop where
 g:N.get ck=some (.cells true [vc,u,ii e,ii a])
 o:am N ck
 w:aY B N u 1 (bK L)
 n:ck∉ids u
 c:Chg [] m0 N
 b:∀i,am B i->am N i
def e6 (Z:List (List Nat)) (e:Int) (mine:List (List Nat)):Int:=if e=0/\∃n∈mine,n∈Z then 6 else e
section
variable {ck:D4} {B m0:NH} {vc:NV} {cs:List (List Nat×Int)}
theorem Wk.grow  {e a:Int} {N':NH} (h:Wk ck B m0 vc u L e a N) (hC:Chg [] N N'):Wk ck B m0 vc u L e a N':=
 ⟨(hC.get h.o (by simp)).trans h.g,hC.old h.o,h.w.chg hC fun _ _=>by simp,h.n,h.c.tr hC,fun i hi=>hC.old (h.b i hi)⟩
theorem Wk.set  {e a e' a':Int} {N':NH} (h:Wk ck B m0 vc u L e a N) (hk:¬am m0 ck) (hN:hp [(.o ck,.cells true [vc,u,ii e',ii a'])] 0 N=N'):Wk ck B m0 vc u L e' a' N'/\Chg [ck] N N':=by
 have hC:Chg [ck] N N':=aR hN rfl
 refine ⟨⟨?_,hC.old h.o,h.w.chg hC fun i hi=>by simp;rintro rfl;exact h.n hi,h.n,h.c.trans hC fun i hi ho=> ?_,fun i hi=>hC.old (h.b i hi)⟩,hC⟩
 ·rw[←hN];exact (aE h.o).trans aq
 ·have hi:=one hi;subst hi;exact W9 ho hk
theorem Kx  {s:List Nat}:bC Z s<0↔s∉Z:=by
 have:=fw (l:=Z) (x:=s)
 rw[←this];omega
theorem TG (hcs:Sl m0 vc 2 (lU cs)) (hcl:cs.length<=1000000) (hk:¬am m0 ck) {vm s2:NV} {i0:Int} {e a:Int} (hW:Wk ck B m0 vc u L e a N) (hm:Sl N vm 1 (bK mine)) (hd:ck∉ids vm) (hl:mine.length<=100000000)
 (g1:NT.get D4.e t=some (.ptr ck 0)) (g2:NT.get D4.e.a.b t=some vm) (g3:NT.get D4.e.a.c t=some (ii 0)) (g4:NT.get D4.e.a t=some v) (g5:NT.get D4.e.f t=some (ii i0)) (g6:NT.get D4.e.a.a t=some s2)
 (hQ:∀t' N',Wk ck B m0 vc u L (e6 (cs.map (·.1)) e mine) a N'->Chg [ck] N N'->NT.get D4.e t'=some (.ptr ck 0)->NT.get D4.e.a.b t'=some vm->NT.get D4.e.a t'=some v->NT.get D4.e.f t'=some (ii i0)->NT.get D4.e.a.a t'=some s2->Q (.exit 2) ⟨ah [] t', [],none,N'⟩):
 W Tryz.prog S0 none uW.loop ⟨t, [],none,N⟩ Q:=by
 refine W.loop (fun k d=>∃t M i,d=⟨t, [],none,M⟩/\NT.get D4.e t=some (.ptr ck 0)/\NT.get D4.e.a.b t=some vm/\NT.get D4.e.a.c t=some (ii (i:Nat))/\NT.get D4.e.a t=some v/\NT.get D4.e.f t=some (ii i0)/\NT.get D4.e.a.a t=some s2/\i+k=mine.length/\Wk ck B m0 vc u L (e6 (cs.map (·.1)) e (mine.take i)) a M/\Chg [ck] N M) ?_ mine.length _ ⟨t,N,0,rfl,g1,g2,g3,g4,g5,g6,by omega,by simpa [e6] using hW,(Chg.refl N).weak (by simp)⟩
 clear g1 g2 g3 g4 g5 g6
 rintro k d ⟨t,M,i,rfl,g1,g2,g3,g4,g5,g6,hik,hWM,hC⟩
 apply ax
 unfold uW
 change wp _ _ _ _ ⟨ah [] t, [],none,M⟩ _
 have hmM:Sl M vm 1 (bK mine):=hm.chg hC fun i hi=>by simp;rintro rfl;exact hd hi
 have hlen:=hmM.len
 rw[List.length_map] at hlen
 have hg:=hWM.g
 have ho:=hWM.o
 by_cases hi:i<mine.length
 ·by_cases he:e6 (cs.map (·.1)) e (mine.take i)=0
  ·obtain ⟨id,off,wr,c,a1,a2,a3,a4,a5⟩:=hmM.at i (by simpa using hi)
   rw[List.getElem_map] at a5
   have c0:c[off]? =some (.str mine[i]):=aF a5 0 (by omega)
   have hf:=vf (hcs.chg hWM.c fun _ _=>by simp) hcl mine[i]
   have hvs:bg 4 vc vc=true:=hcs.same
   have htk:∀p:List Nat->Prop,(∃n∈mine.take (i+1),p n)↔(∃n∈mine.take i,p n)∨p mine[i]:=by
    intro p
    rw[List.take_add_one,List.getElem?_eq_getElem hi]
    simp only[List.mem_append,Option.toList_some,List.mem_singleton]
    constructor
    ·rintro ⟨n,h|rfl,hp⟩
     ·exact Or.inl ⟨n,h,hp⟩
     ·exact Or.inr hp
    ·rintro (⟨n,h,hp⟩|hp)
     ·exact ⟨n,Or.inl h,hp⟩
     ·exact ⟨_,Or.inr rfl,hp⟩
   have he0:e=0:=by unfold e6 at he;split at he<;>omega
   have hno:¬∃n∈mine.take i,n∈cs.map (·.1):=fun h=>by rw[e6,Xb ⟨he0,h⟩] at he;omega
   rw[he] at hg hWM
   by_cases hin:mine[i]∈cs.map (·.1)
   ·have h6:e6 (cs.map (·.1)) e (mine.take (i+1))=6:=by rw[e6,Xb ⟨he0,(htk _).2 (Or.inr hin)⟩]
    have hfp:0<=bC (cs.map (·.1)) mine[i]:=fw.2 hin
    generalize bC (cs.map (·.1)) mine[i]=z at hf hfp
    simp (disch:=first|assumption|omega|(simp only[aG]<;>omega)) only[go_sem,seval,g1,g2,g3,g4,g5,g6,hlen,hg,a1,a2,c0,hf.wf,hvs]
    generalize hM2:hp _ 0 M=M2
    obtain ⟨hW2,hC2⟩:=hWM.set hk hM2
    rw[←h6] at hW2
    exact ⟨k - 1,by omega,_,M2,i+1,by rfl,by simp only[go_sem,seval,g1],by simp only[go_sem,seval,g2],by simp only[go_sem,seval]<;>rfl,by simp only[go_sem,seval,g4],by simp only[go_sem,seval,g5],by simp only[go_sem,seval,g6],by omega,hW2,hC.trans hC2 fun _ h _=>h⟩
   ·have h6:e6 (cs.map (·.1)) e (mine.take (i+1))=0:=by
     rw[e6,Xa]
     ·exact he0
     ·rintro ⟨_,h⟩
      exact ((htk _).1 h).elim hno hin
    have hfp:bC (cs.map (·.1)) mine[i]<0:=Kx.2 hin
    generalize bC (cs.map (·.1)) mine[i]=z at hf hfp
    simp (disch:=first|assumption|omega) only[go_sem,seval,g1,g2,g3,g4,g5,g6,hlen,hg,a1,a2,c0,hf.wf',hvs]
    exact ⟨k - 1,by omega,_,M,i+1,by rfl,by simp only[go_sem,seval,g1],by simp only[go_sem,seval,g2],by simp only[go_sem,seval]<;>rfl,by simp only[go_sem,seval,g4],by simp only[go_sem,seval,g5],by simp only[go_sem,seval,g6],by omega,by rw[h6];exact hWM,hC⟩
  ·have h6:e6 (cs.map (·.1)) e (mine.take i)=e6 (cs.map (·.1)) e mine:=by
    unfold e6 at he ⊢
    by_cases h0:e=0
    ·rw[Xb,Xb]
     ·split at he
      ·rename_i q;obtain ⟨_,n,h1,h2⟩:=q;exact ⟨h0,n,List.mem_of_mem_take h1,h2⟩
      ·exact W9 h0 he
     ·split at he
      ·assumption
      ·exact W9 h0 he
    ·rw[Xa fun h=>h0 h.1,Xa fun h=>h0 h.1]
   simp (disch:=first|assumption|omega) only[go_sem,seval,g1,g2,g3,hlen,hg,he]
   rw[h6] at hWM
   exact hQ _ _ hWM hC (by simp only[go_sem,seval,g1]) (by simp only[go_sem,seval,g2]) (by simp only[go_sem,seval,g4]) (by simp only[go_sem,seval,g5]) (by simp only[go_sem,seval,g6])
 ·simp (disch:=first|assumption|omega) only[go_sem,seval,g1,g2,g3,hlen,hg]
  rw[List.take_of_length_le (by omega)] at hWM
  exact hQ _ _ hWM hC (by simp only[go_sem,seval,g1]) (by simp only[go_sem,seval,g2]) (by simp only[go_sem,seval,g4]) (by simp only[go_sem,seval,g5]) (by simp only[go_sem,seval,g6])
theorem U9 (h0:∀i,am m0 i->am B i) (hk:¬am m0 ck) (hkB:¬am B ck) (hvs:bg 4 vc vc=true) {vm s2:NV} {i0:Int} {e a:Int} {A:NH} (hW:Wk ck B m0 vc u L e a N) (hm:aY A N vm 1 (bK mine)) (hd:ck∉ids vm) (hdu:∀i∈ids vm,i∉ids u) (hl:L.length+mine.length<=100000000)
 (g1:NT.get D4.e t=some (.ptr ck 0)) (g2:NT.get D4.e.a.b t=some vm) (g3:NT.get D4.e.a.f t=some (ii 0)) (g4:NT.get D4.e.a t=some v) (g5:NT.get D4.e.f t=some (ii i0)) (g6:NT.get D4.e.a.a t=some s2)
 (hQ:∀t' N' u',Wk ck B m0 vc u' (mine.foldl aJ L) e a N'->Chg (ck::ids u) N N'->bP N u u'->NT.get D4.e t'=some (.ptr ck 0)->NT.get D4.e.a t'=some v->NT.get D4.e.f t'=some (ii i0)->NT.get D4.e.a.a t'=some s2->Q (.exit 4) ⟨ah [] t', [],none,N'⟩):
 W Tryz.prog S0 none uY.loop ⟨t, [],none,N⟩ Q:=by
 refine W.loop (fun k d=>∃t M i u',d=⟨t, [],none,M⟩/\NT.get D4.e t=some (.ptr ck 0)/\NT.get D4.e.a.b t=some vm/\NT.get D4.e.a.f t=some (ii (i:Nat))/\NT.get D4.e.a t=some v/\NT.get D4.e.f t=some (ii i0)/\NT.get D4.e.a.a t=some s2/\i+k=mine.length/\Wk ck B m0 vc u' ((mine.take i).foldl aJ L) e a M/\Chg (ck::ids u) N M/\bP N u u') ?_ mine.length _ ⟨t,N,0,u,rfl,g1,g2,g3,g4,g5,g6,by omega,hW,(Chg.refl N).weak (by simp),bP.refl N u⟩
 clear g1 g2 g3 g4 g5 g6
 rintro k d ⟨t,M,i,u',rfl,g1,g2,g3,g4,g5,g6,hik,hWM,hC,hF⟩
 apply ax
 unfold uY
 change wp _ _ _ _ ⟨ah [] t, [],none,M⟩ _
 have hmM:aY A M vm 1 (bK mine):=hm.chg hC fun i hi=>by
  rw[Xf,not_or]
  exact ⟨fun q=>hd (q▸hi),hdu i hi⟩
 have hlen:=hmM.sl.len
 rw[List.length_map] at hlen
 have hg:=hWM.g
 have ho:=hWM.o
 by_cases hi:i<mine.length
 ·obtain ⟨id,off,c,a1,hids,-,a2,a3,a4,a5,-⟩:=hmM.at i (by simpa using hi)
  rw[List.getElem_map] at a5
  have c0:c[off]? =some (.str mine[i]):=aF a5 0 (by omega)
  have hus:bg 4 u' u'=true:=hWM.w.sl.same
  have hfl:=cH (mine.take i) L
  have htl:(mine.take i).length<=mine.length:=by rw[List.length_take];omega
  have htk:(mine.take (i+1)).foldl aJ L=aJ ((mine.take i).foldl aJ L) mine[i]:=by
   rw[List.take_add_one,List.getElem?_eq_getElem hi,Option.toList_some,List.foldl_append];rfl
  simp (disch:=first|assumption|omega) only[go_sem,seval,g1,g2,g3,g4,g5,g6,hlen,hg,a1,a2,c0,hus]
  refine WF.useH (JZ hWM.w hWM.b mine[i] (by omega)) ?_
  rintro v2 M2 ⟨hv2,hC2,hF2⟩
  have g2':=(hC2.get ho hWM.n).trans hg
  have o2':=hC2.old ho
  have hid:id∉ids u':=fun h=>by
   have hmi:id∈ids vm:=by rw[hids];exact List.mem_singleton_self _
   rcases hF id h with q|q
   ·exact hdu id hmi q
   ·exact q (hm.sl.old id hmi)
  have a22:=(hC2.get a3 hid).trans a2
  simp (disch:=first|assumption|omega|(simp only[aG]<;>omega)) only[go_sem,seval,g1,g2,g3,g4,g5,g6,hlen,hg,a1,a22,c0,hus,g2',o2',hv2.sl.one]
  generalize hM3:hp _ 0 M2=M3
  have hC3:Chg [ck] M2 M3:=aR hM3 rfl
  have hn2:ck∉ids v2:=fun h=>(hF2 ck h).elim hWM.n fun q=>q ho
  have hCM:Chg (ck::ids u') M M3:=(hC2.weak (T:=ck::ids u') (by intro i h _;simp[h])).trans hC3 fun i h _=>by simp at h;simp[h]
  refine ⟨k - 1,by omega,_,M3,i+1,v2,by rfl,by simp only[go_sem,seval,g1],by simp only[go_sem,seval,g2],by simp only[go_sem,seval]<;>rfl,by simp only[go_sem,seval,g4],by simp only[go_sem,seval,g5],by simp only[go_sem,seval,g6],by omega, ?_,hC.trans hCM fun i h hi=> ?_,hF.trans hF2 fun i h=>hC.old h⟩
  ·rw[htk]
   refine ⟨?_,hC3.old o2',hv2.chg hC3 fun i hi=>by simp;rintro rfl;exact hn2 hi,hn2, ?_,fun i hi=>hC3.old (hC2.old (hWM.b i hi))⟩
   ·rw[←hM3];exact (aE o2').trans aq
   ·refine hWM.c.trans hCM fun i hi hoi=> ?_
    rcases List.mem_cons.1 hi with e|hi
    ·exact W9 (e▸hoi) hk
    ·exact W9 (h0 i hoi) (hWM.w.new i hi)
  ·rcases List.mem_cons.1 h with rfl|h
   ·simp
   ·exact (hF i h).elim (fun q=>by simp[q]) fun q=>W9 hi q
 ·simp (disch:=first|assumption|omega) only[go_sem,seval,g1,g2,g3,hlen,hg]
  rw[List.take_of_length_le (by omega)] at hWM
  exact hQ _ _ _ hWM hC hF (by simp only[go_sem,seval,g1]) (by simp only[go_sem,seval,g4]) (by simp only[go_sem,seval,g5]) (by simp only[go_sem,seval,g6])
end
theorem DX  (hc:m.get oc=some (.cells true [.map mo])) (hm:m.get mo=some (.map (ir Z))) (s:List Nat):rT 116 [.str s,.ptr oc 0] m (.bool (decide (s∈Z))) m:=by
 have h:∃r m',rT 116 [.str s,.ptr oc 0] m r m'/\r= .bool (decide (s∈Z))/\m'=m:=by
  refine WF.ex fun K hK=> ?_
  refine WF.of_wpG (fun _=>rfl) ym (L:= [(.a .e,.ptr oc 0),(.e,.str s)]) rfl ?_
  unfold Id
  simp only[go_sem,seval,hc,hm,aa]
  exact hK _ _ ⟨rfl,rfl⟩
 obtain ⟨r,m',h1,rfl,rfl⟩:=h
 exact h1
theorem Tf  {l:List (List Nat)} (hv:Sl m v 1 (bK l)) (hc:m.get oc=some (.cells true [.map mo])) (hm:m.get mo=some (.map (ir Z))) (hsz:l.length<=1099511627776):
 ∃r m',rT 143 [v,.fn 116 [.ptr oc 0]] m r m'/\(∃z:Int,r=ii z/\(0<=z↔∃n∈l,n∈Z))/\m'=m:=by
 refine WF.ex fun K hK=> ?_
 refine WF.of_wpG (fun _=>rfl) xR (L:= [(.a .e,.fn 116 [.ptr oc 0]),(.e,v)]) rfl ?_
 unfold H4
 have hlen:=hv.len
 rw[List.length_map] at hlen
 simp only[go_sem,seval,hlen,aa]
 refine W.loop (fun k d=>∃t i,d=⟨t, [],none,m⟩/\NT.get D4.e t=some v/\NT.get D4.e.a t=some (.fn 116 [.ptr oc 0])/\NT.get D4.e.a.c t=some (ii l.length)/\NT.get D4.e.a.f t=some (ii (i:Nat))/\i+k=l.length/\∀j (hj:j<i) (hl:j<l.length),l[j]∉Z) ?_ l.length _ ⟨_,0,rfl,by exact gq rfl,by exact gq rfl,by exact gq rfl,by exact gq rfl,by omega,by simp⟩
 rintro k d ⟨t,i,rfl,g1,g2,g3,g4,hik,hn⟩
 apply ax
 unfold vZ
 change wp _ _ _ _ ⟨ah [] t, [],none,m⟩ _
 by_cases hi:i<l.length
 ·obtain ⟨id,off,wr,c,a1,a2,a3,a4,a5⟩:=hv.at i (by simpa using hi)
  rw[List.getElem_map] at a5
  have c0:c[off]? =some (.str l[i]):=aF a5 0 (by omega)
  by_cases hin:l[i]∈Z
  ·have hp:=DX hc hm l[i]
   rw[Xd hin] at hp
   simp (disch:=first|assumption|omega) only[go_sem,seval,g1,g2,g3,g4,a1,a2,c0,hp.wf']
   exact hK _ _ ⟨⟨i,rfl,fun _=>⟨l[i],List.getElem_mem hi,hin⟩,fun _=>by omega⟩,rfl⟩
  ·have hp:=DX hc hm l[i]
   rw[Xc hin] at hp
   simp (disch:=first|assumption|omega) only[go_sem,seval,g1,g2,g3,g4,a1,a2,c0,hp.wf']
   refine ⟨k - 1,by omega,_,i+1,by rfl,by exact gq g1,by exact gq g2,by exact gq g3,by exact gq rfl,by omega,fun j hj hl=> ?_⟩
   rcases Nat.lt_or_ge j i with q|q
   ·exact hn j q hl
   ·obtain rfl:j=i:=by omega
    exact hin
 ·simp (disch:=first|assumption|omega) only[go_sem,seval,g1,g2,g3,g4]
  refine hK _ _ ⟨⟨-1,rfl,fun h=>by omega,fun ⟨n,h1,h2⟩=> ?_⟩,rfl⟩
  obtain ⟨j,hj,rfl⟩:=List.getElem_of_mem h1
  exact W9 h2 (hn j (by omega) hj)
theorem CN  {l:List (List Nat)} (hv:Sl m v 1 (bK l)) (hc:m.get oc=some (.cells true [.map mo])) (hm:m.get mo=some (.map (ir Z))) (hsz:l.length<=1099511627776):
 rT 115 [v,.fn 116 [.ptr oc 0]] m (.bool (decide (∃n∈l,n∈Z))) m:=by
 have h:∃r m',rT 115 [v,.fn 116 [.ptr oc 0]] m r m'/\r= .bool (decide (∃n∈l,n∈Z))/\m'=m:=by
  refine WF.ex fun K hK=> ?_
  refine WF.of_wpG (fun _=>rfl) xZ (L:= [(.a .e,.fn 116 [.ptr oc 0]),(.e,v)]) rfl ?_
  unfold Ib
  obtain ⟨r,m',hr,⟨z,rfl,hz⟩,rfl⟩:=Tf hv hc hm hsz
  simp only[go_sem,seval,aa,hr.wf']
  refine hK _ _ ⟨?_,rfl⟩
  simp only[hz]
 obtain ⟨r,m',h1,rfl,rfl⟩:=h
 exact h1
abbrev SH:=(List (List Nat)×Nat)×Option (Int×Int)
def lE (Z:List (List Nat)) (st:SH) (x:Stm):SH×Bool:=
 if (x.k=1∨x.k=2∨x.k=3)/\x.ce∉Z then ((st.1,some (x.a,4)),false)
 else if ∃n∈x.own,n∈Z then ((st.1,some (x.a,6)),false)
 else if 12<(x.own.foldl aJ st.1.1).length then (((x.own.foldl aJ st.1.1,st.1.2+x.own.length),some (x.a,3)),false)
 else (((x.own.foldl aJ st.1.1,st.1.2+x.own.length),none),true)
def WT (st:SH) (x:Stm):Prop:=st.2=none/\x.sz<=100000000/\st.1.2+x.own.length<=100000000
def z9:Option (Int×Int)->Int|some (a,_)=>a|none=>0
def lT:Option (Int×Int)->Int|some (_,e)=>e|none=>0
def Tx:Option (Int×Int)->Nat|some _=>2|none=>0
def Wm:Option (Int×Int)->Jump|some _=> .ret|none=> .none
def WU (q o b er:D4) (t:Tm) (M1:NH) (st:SH) (F:List D4) (N:NH):Prop:=∃u,F=q::o::b::er::ids u/\Chg [q,o,b,er] M1 N/\N.get q=some (.loop (Tx st.2) (Wm st.2) t [D4.e.b.c] fL fP)/\N.get o=some (.cells true [u])/\N.get b=some (.cells true [ii (z9 st.2)])/\N.get er=some (.cells true [ii (lT st.2)])/\aY M1 N u 1 (bK st.1.1)/\st.1.1.length<=st.1.2
structure BdO (q o b er oc mo:D4) (M1:NH):Prop where
 qo:q≠o
 qb:q≠b
 qe:q≠er
 ob:o≠b
 oe:o≠er
 be:b≠er
 oq:am M1 q
 oo:am M1 o
 ol:am M1 b
 om:am M1 er
 og:am M1 oc
 od:am M1 mo
 cc:oc∉ [q,o,b,er]
 cd:mo∉ [q,o,b,er]
theorem we  {q o b er:D4} {M1 M':NH} {n:Nat} {r:Option (Int×Int)} (hO:BdO q o b er oc mo M1) (hC:Chg [q,o,b,er] M1 M) (hC':Chg [q,o,b,er] M M') (hq:M'.get q=some (.loop (Tx r) (Wm r) t [D4.e.b.c] fL fP)) (ho:M'.get o=some (.cells true [u])) (hb:M'.get b=some (.cells true [ii (z9 r)])) (he:M'.get er=some (.cells true [ii (lT r)])) (hu:aY M1 M u 1 (bK L)) (hl:L.length<=n):
 WU q o b er t M1 ((L,n),r) (q::o::b::er::ids u) M':=by
 refine ⟨u,rfl,hC.trans hC' fun _ h _=>h,hq,ho,hb,he,hu.chg hC' fun i hi=> ?_,hl⟩
 have hn:=hu.new i hi
 simp only[Xf,Xe,or_false,not_or]
 exact ⟨fun e=>hn (e▸hO.oq),fun e=>hn (e▸hO.oo),fun e=>hn (e▸hO.ol),fun e=>hn (e▸hO.om)⟩
theorem NK  {M1:NH} {q o b er:D4} (hO:BdO q o b er oc mo M1) (h1:NT.get D4.e.c t=some (.ptr oc 0)) (h2:NT.get D4.e.f t=some (.ptr b 0)) (h3:NT.get D4.e.a.a t=some (.ptr er 0)) (h4:NT.get D4.e.a.b t=some (.ptr o 0)) (hc:M1.get oc=some (.cells true [.map mo])) (hm:M1.get mo=some (.map (ir Z)))
 (h0:∀S,Chg [q,o,b,er] M1 S->Chg [] m0 S):Ylds q m0 T WT (lE Z) (WU q o b er t M1):=by
 refine ⟨?_, ?_, ?_, ?_⟩
 ·rintro s F N ⟨u,rfl,hC,-⟩;exact h0 _ hC
 ·rintro s F N ⟨u,rfl,hC,hq,ho,hb,he,hu,hl⟩ i hi
  simp only[Xf] at hi
  rcases hi with rfl|rfl|rfl|rfl|hi
  ·exact hC.old hO.oq
  ·exact hC.old hO.oo
  ·exact hC.old hO.ol
  ·exact hC.old hO.om
  ·exact hu.sl.old i hi
 ·rintro s F N N' ⟨u,rfl,hC,hq,ho,hb,he,hu,hl⟩ hC'
  exact ⟨u,rfl,hC.tr hC',(hC'.get (hC.old hO.oq) (by simp)).trans hq,(hC'.get (hC.old hO.oo) (by simp)).trans ho,(hC'.get (hC.old hO.ol) (by simp)).trans hb,(hC'.get (hC.old hO.om) (by simp)).trans he,hu.chg hC' fun _ _=>by simp,hl⟩
 ·rintro ⟨⟨L,n⟩,r⟩ F N x c ⟨u,rfl,hC,hq,ho,hb,he,hu,hl⟩ hR ⟨hA0,hA1,hA2⟩
  cases hA0
  have hq:N.get q=some (.loop 0 .none t [D4.e.b.c] fL fP):=hq
  have hb:N.get b=some (.cells true [ii 0]):=hb
  have he:N.get er=some (.cells true [ii 0]):=he
  obtain ⟨w,rfl,hP⟩:=hR.inv'
  refine WY.ex1 fun K hK=> ?_
  refine WY.of_wp hq rfl fL.eq_1 fP.eq_1 ?_
  change wp _ _ _ _ ⟨ah [(D4.e.b.c,.agg (x.l w))] t, [],none,hp [] 0 N⟩ _
  have hl21:(x.l w).length=21:=rfl
  have hl21':(x.l w).take 21=x.l w:=rfl
  have oq:=hC.old hO.oq
  have oo:=hC.old hO.oo
  have ob:=hC.old hO.ol
  have oe:=hC.old hO.om
  have qo:=hO.qo
  have qo':=hO.qo.symm
  have qb:=hO.qb
  have qb':=hO.qb.symm
  have qe:=hO.qe
  have qe':=hO.qe.symm
  have obn:=hO.ob
  have obn':=hO.ob.symm
  have oen:=hO.oe
  have oen':=hO.oe.symm
  have ben:=hO.be
  have ben':=hO.be.symm
  have hcN:=(hC.get hO.og hO.cc).trans hc
  have hmN:=(hC.get hO.od hO.cd).trans hm
  have occ:=hC.old hO.og
  have omo:=hC.old hO.od
  simp (disch:=first|assumption|omega|(simp only[aG]<;>omega)) only[go_sem,seval,h1,h2,h3,h4,hq,ho,hl21,hl21']
  generalize hM2:hp _ 1 N=M2
  have hC2:Chg [q] N M2:=aR hM2 rfl
  have hcq:oc≠q:=fun e=>hO.cc (by simp[e])
  have hmq:mo≠q:=fun e=>hO.cd (by simp[e])
  have q2:M2.get q=some (.loop 1 .none t [D4.e.b.c] fL fP):=kR oq hM2
  have o2:M2.get o=some (.cells true [u]):=(hC2.get oo (by simpa using qo')).trans ho
  have e2:=(hC2.get oe (by simpa using qe')).trans he
  have b2:=(hC2.get ob (by simpa using qb')).trans hb
  have c2:=(hC2.get occ (by simpa using hcq)).trans hcN
  have d2:=(hC2.get omo (by simpa using hmq)).trans hmN
  have x2:M2.get (na N 0)=some (.cells true (x.l w)):=bu hM2
  have ox2:am M2 (na N 0):=bt hM2 (by omega)
  have hC02:Chg [] m0 M2:=h0 _ (hC.trans (hC2.weak (T:= [q,o,b,er]) (by simp)) fun _ h _=>h)
  refine WF.use (CD hR hC02 hA1) ?_
  rintro v3 M3 ⟨hv3,hC3⟩
  have hC23:=hC2.tr hC3
  have q3:=(hC3.get (hC2.old oq) (by simp)).trans q2
  have o3:=(hC3.get (hC2.old oo) (by simp)).trans o2
  have x3:=(hC3.get ox2 (by simp)).trans x2
  have hqu:q∉ids u:=fun h=>hu.new _ h hO.oq
  have hou:o∉ids u:=fun h=>hu.new _ h hO.oo
  have hbu:b∉ids u:=fun h=>hu.new _ h hO.ol
  have heu:er∉ids u:=fun h=>hu.new _ h hO.om
  have hu3:aY M1 M3 u 1 (bK L):=hu.chg hC23 fun i hi=>by simp;rintro rfl;exact hqu hi
  have hus:bg 4 u u=true:=hu.sl.same
  have ox3:=hC3.old ox2
  simp (disch:=first|assumption|omega|(simp only[aG]<;>omega)) only[go_sem,seval,h1,h2,h3,h4,q3,o3,x3,hl21,hl21',hus]
  refine WF.use1 (vQ M3 [1,2,3] rfl rfl (by decide)) ?_
  intro M4 hC4
  have t3:(x.l w)[3]? =some (.str x.ce):=rfl
  have t1:(x.l w)[1]? =some (ii x.a):=rfl
  have oq3:=hC3.old (hC2.old oq)
  have q4:=(hC4.get oq3 (by simp)).trans q3
  have oq4:=hC4.old oq3
  have oo3:=hC3.old (hC2.old oo)
  have o4:=(hC4.get oo3 (by simp)).trans o3
  have oo4:=hC4.old oo3
  have hC24:=hC3.tr hC4
  have b4:=(hC24.get (hC2.old ob) (by simp)).trans b2
  have ob4:=hC24.old (hC2.old ob)
  have e4:=(hC24.get (hC2.old oe) (by simp)).trans e2
  have oe4:=hC24.old (hC2.old oe)
  have c4:=(hC24.get (hC2.old occ) (by simp)).trans c2
  have d4:=(hC24.get (hC2.old omo) (by simp)).trans d2
  have x4:=(hC4.get ox3 (by simp)).trans x3
  have ox4:=hC4.old ox3
  have hx1:na N 0≠b:=fun e=>ob.ne 0 e.symm
  have hx2:na N 0≠er:=fun e=>oe.ne 0 e.symm
  have hx3:na N 0≠q:=fun e=>oq.ne 0 e.symm
  have hx4:na N 0≠o:=fun e=>oo.ne 0 e.symm
  have hL:L.length<=n:=hl
  have hA2':n+x.own.length<=100000000:=hA2
  have hu4:aY M1 M4 u 1 (bK L):=hu3.chg hC4 fun _ _=>by simp
  have hv4:=hv3.chg hC4 fun _ _=>by simp
  have hN4:Chg [q] N M4:=hC23.tr hC4
  have hM14:Chg [q,o,b,er] M1 M4:=hC.trans (hN4.weak (T:= [q,o,b,er]) (by simp)) fun _ h _=>h
  have hxu:na N 0∉ids u:=fun h=>(hu.sl.old _ h).ne 0 rfl
  have stop:∀e:Int,lE Z ((L,n),none) x=(((L,n),some (x.a,e)),false)->K (.bool false) (hp [(.o q,.loop 2 .ret t [D4.e.b.c] fL fP),(.o er,.cells true [ii e]),(.o b,.cells true [ii x.a])] 0 M4):=by
   intro e hf
   rw[hf] at hK
   generalize hM5:hp _ 0 M4=M5
   have hC5:Chg [q,er,b] M4 M5:=aR hM5 rfl
   have hC5':Chg [q,o,b,er] M4 M5:=hC5.weak (by simp)
   refine hK M5 ⟨_,we hO hM14 hC5' ?_ ?_ ?_ ?_ hu4 hl, ?_,fun i hi=>Or.inl hi⟩
   ·rw[←hM5];exact (aE oq4).trans aq
   ·exact (hC5.get oo4 (by simp[qo',oen,obn])).trans o4
   ·rw[←hM5];exact (aE ob4).trans ((bm qb').trans ((bm ben).trans aq))
   ·rw[←hM5];exact (aE oe4).trans ((bm qe').trans aq)
   ·exact (hN4.weak (T:=q::o::b::er::ids u) (by simp)).trans hC5' (fun i h _=>by simp at h ⊢;rcases h with h|h|h|h<;>simp[h])
  by_cases hk:x.k=1∨x.k=2∨x.k=3
  ·rw[Xd (by simpa using hk:x.k∈ [1,2,3])]
   by_cases hz:x.ce∈Z
   ·have hz':decide (x.ce∈Z)=true:=Xd hz
    have hnz:¬((x.k=1∨x.k=2∨x.k=3)/\x.ce∉Z):=fun h=>h.2 hz
    by_cases hn:∃n∈x.own,n∈Z
    ·have cof:=CN hv4.sl c4 d4 (by omega)
     rw[Xd hn] at cof
     simp only[go_sem,seval,h1,h2,h3,h4,q4,o4,x4,c4,d4,b4,e4,hl21,hl21',hus,t3,t1,hz']
     refine WF.use1H ⟨M4,cof,rfl⟩ ?_
     rintro _ rfl
     simp (disch:=first|assumption|omega|(simp only[aG]<;>omega)) only[go_sem,seval,h1,h2,h3,h4,q4,o4,x4,c4,d4,b4,e4,hl21,hl21',hus,t3,t1]
     exact stop 6 (by unfold lE;rw[Xa hnz,Xb hn])
    ·have cof:=CN hv4.sl c4 d4 (by omega)
     rw[Xc hn] at cof
     simp only[go_sem,seval,h1,h2,h3,h4,q4,o4,x4,c4,d4,b4,e4,hl21,hl21',hus,t3,t1,hz',cof.wf']
     refine WF.use (zh hu4 hv4.sl (fun i hi hiu=>hv4.new i hi (hC2.old (hu.sl.old i hiu))) (fun i hi=>hC4.old (hC3.old (hC2.old (hC.old hi)))) (by show L.length+x.own.length<=_;omega)) ?_
     rintro v5 M5 ⟨hv5,hC5,hF5⟩
     have hq5:=(hC5.get oq4 hqu).trans q4
     have hoq5:=hC5.old oq4
     have ho5:=(hC5.get oo4 hou).trans o4
     have hoo5:=hC5.old oo4
     have hb5:=(hC5.get ob4 hbu).trans b4
     have hob5:=hC5.old ob4
     have he5:=(hC5.get oe4 heu).trans e4
     have hoe5:=hC5.old oe4
     have hx5:=(hC5.get ox4 hxu).trans x4
     have hox5:=hC5.old ox4
     have hlen5:=hv5.sl.len
     rw[List.length_map] at hlen5
     have hfl:=cH x.own L
     rw[←aa M5]
     have hM15:Chg [q,o,b,er] M1 M5:=hM14.trans hC5 fun i hi ho=>W9 ho (hu.new i hi)
     have hN5:Chg (q::o::b::er::ids u) N M5:=(hN4.weak (T:=q::o::b::er::ids u) (by simp)).trans hC5 fun i h _=>by simp[h]
     have hF:∀i∈q::o::b::er::ids v5,i∈q::o::b::er::ids u∨¬am N i:=by
      intro i hi
      simp only[Xf] at hi ⊢
      rcases hi with rfl|rfl|rfl|rfl|hi
      ·simp
      ·simp
      ·simp
      ·simp
      ·rcases hF5 i hi with h|h
       ·exact Or.inl (Or.inr (Or.inr (Or.inr (Or.inr h))))
       ·exact Or.inr fun ho=>h (hN4.old ho)
     by_cases h12:12<(x.own.foldl aJ L).length
     ·have hf:lE Z ((L,n),none) x=(((x.own.foldl aJ L,n+x.own.length),some (x.a,3)),false):=by unfold lE;rw[Xa hnz,Xa hn,Xb h12]
      rw[hf] at hK
      simp (disch:=first|assumption|omega|(simp only[aG]<;>omega)) only[go_sem,seval,h1,h2,h3,h4,hq5,ho5,hx5,hb5,he5,hl21,hl21',t1,hv5.sl.one,hlen5,h12]
      generalize hM6:hp _ 0 M5=M6
      have hC6:Chg [q,er,b,o] M5 M6:=aR hM6 rfl
      have hC6':Chg [q,o,b,er] M5 M6:=hC6.weak (by simp)
      refine hK M6 ⟨_,we hO hM15 hC6' ?_ ?_ ?_ ?_ hv5 (by show _<=n+_;have:L.length<=n:=hl;omega),hN5.trans hC6' (fun i h _=>by simp at h ⊢;rcases h with h|h|h|h<;>simp[h]),hF⟩
      ·rw[←hM6];exact (aE hoq5).trans aq
      ·rw[←hM6];exact (aE hoo5).trans ((bm qo').trans ((bm oen).trans ((bm obn).trans aq)))
      ·rw[←hM6];exact (aE hob5).trans ((bm qb').trans ((bm ben).trans aq))
      ·rw[←hM6];exact (aE hoe5).trans ((bm qe').trans aq)
     ·have hf:lE Z ((L,n),none) x=(((x.own.foldl aJ L,n+x.own.length),none),true):=by unfold lE;rw[Xa hnz,Xa hn,Xa h12]
      rw[hf] at hK
      simp (disch:=first|assumption|omega|(simp only[aG]<;>omega)) only[go_sem,seval,h1,h2,h3,h4,hq5,ho5,hx5,hb5,he5,hl21,hl21',t1,hv5.sl.one,hlen5,h12]
      generalize hM6:hp _ 0 M5=M6
      have hC6:Chg [q,o] M5 M6:=aR hM6 rfl
      have hC6':Chg [q,o,b,er] M5 M6:=hC6.weak (by simp)
      refine hK M6 ⟨_,we hO hM15 hC6' ?_ ?_ ?_ ?_ hv5 (by show _<=n+_;have:L.length<=n:=hl;omega),hN5.trans hC6' (fun i h _=>by simp at h ⊢;rcases h with h|h|h|h<;>simp[h]),hF⟩
      ·rw[←hM6];exact (aE hoq5).trans aq
      ·rw[←hM6];exact (aE hoo5).trans ((bm qo').trans aq)
      ·exact (hC6.get hob5 (by simp[qb',obn'])).trans hb5
      ·exact (hC6.get hoe5 (by simp[qe',oen'])).trans he5
   ·have hz':decide (x.ce∈Z)=false:=Xc hz
    rw[←aa M4]
    simp (disch:=first|assumption|omega|(simp only[aG]<;>omega)) only[go_sem,seval,h1,h2,h3,h4,q4,o4,x4,c4,d4,b4,e4,hl21,hl21',hus,t3,t1,hz']
    exact stop 4 (by unfold lE;rw[Xb ⟨hk,hz⟩])
  ·rw[Xc (by simpa using hk:x.k∉ [1,2,3])]
   have hnz:¬((x.k=1∨x.k=2∨x.k=3)/\x.ce∉Z):=fun h=>hk h.1
   by_cases hn:∃n∈x.own,n∈Z
   ·have cof:=CN hv4.sl c4 d4 (by omega)
    rw[Xd hn] at cof
    simp only[go_sem,seval,h1,h2,h3,h4,q4,o4,x4,c4,d4,b4,e4,hl21,hl21',hus,t3,t1]
    refine WF.use1H ⟨M4,cof,rfl⟩ ?_
    rintro _ rfl
    simp (disch:=first|assumption|omega|(simp only[aG]<;>omega)) only[go_sem,seval,h1,h2,h3,h4,q4,o4,x4,c4,d4,b4,e4,hl21,hl21',hus,t3,t1]
    exact stop 6 (by unfold lE;rw[Xa hnz,Xb hn])
   ·have cof:=CN hv4.sl c4 d4 (by omega)
    rw[Xc hn] at cof
    simp only[go_sem,seval,h1,h2,h3,h4,q4,o4,x4,c4,d4,b4,e4,hl21,hl21',hus,t3,t1,cof.wf']
    refine WF.use (zh hu4 hv4.sl (fun i hi hiu=>hv4.new i hi (hC2.old (hu.sl.old i hiu))) (fun i hi=>hC4.old (hC3.old (hC2.old (hC.old hi)))) (by show L.length+x.own.length<=_;omega)) ?_
    rintro v5 M5 ⟨hv5,hC5,hF5⟩
    have hq5:=(hC5.get oq4 hqu).trans q4
    have hoq5:=hC5.old oq4
    have ho5:=(hC5.get oo4 hou).trans o4
    have hoo5:=hC5.old oo4
    have hb5:=(hC5.get ob4 hbu).trans b4
    have hob5:=hC5.old ob4
    have he5:=(hC5.get oe4 heu).trans e4
    have hoe5:=hC5.old oe4
    have hx5:=(hC5.get ox4 hxu).trans x4
    have hox5:=hC5.old ox4
    have hlen5:=hv5.sl.len
    rw[List.length_map] at hlen5
    have hfl:=cH x.own L
    rw[←aa M5]
    have hM15:Chg [q,o,b,er] M1 M5:=hM14.trans hC5 fun i hi ho=>W9 ho (hu.new i hi)
    have hN5:Chg (q::o::b::er::ids u) N M5:=(hN4.weak (T:=q::o::b::er::ids u) (by simp)).trans hC5 fun i h _=>by simp[h]
    have hF:∀i∈q::o::b::er::ids v5,i∈q::o::b::er::ids u∨¬am N i:=by
     intro i hi
     simp only[Xf] at hi ⊢
     rcases hi with rfl|rfl|rfl|rfl|hi
     ·simp
     ·simp
     ·simp
     ·simp
     ·rcases hF5 i hi with h|h
      ·exact Or.inl (Or.inr (Or.inr (Or.inr (Or.inr h))))
      ·exact Or.inr fun ho=>h (hN4.old ho)
    by_cases h12:12<(x.own.foldl aJ L).length
    ·have hf:lE Z ((L,n),none) x=(((x.own.foldl aJ L,n+x.own.length),some (x.a,3)),false):=by unfold lE;rw[Xa hnz,Xa hn,Xb h12]
     rw[hf] at hK
     simp (disch:=first|assumption|omega|(simp only[aG]<;>omega)) only[go_sem,seval,h1,h2,h3,h4,hq5,ho5,hx5,hb5,he5,hl21,hl21',t1,hv5.sl.one,hlen5,h12]
     generalize hM6:hp _ 0 M5=M6
     have hC6:Chg [q,er,b,o] M5 M6:=aR hM6 rfl
     have hC6':Chg [q,o,b,er] M5 M6:=hC6.weak (by simp)
     refine hK M6 ⟨_,we hO hM15 hC6' ?_ ?_ ?_ ?_ hv5 (by show _<=n+_;have:L.length<=n:=hl;omega),hN5.trans hC6' (fun i h _=>by simp at h ⊢;rcases h with h|h|h|h<;>simp[h]),hF⟩
     ·rw[←hM6];exact (aE hoq5).trans aq
     ·rw[←hM6];exact (aE hoo5).trans ((bm qo').trans ((bm oen).trans ((bm obn).trans aq)))
     ·rw[←hM6];exact (aE hob5).trans ((bm qb').trans ((bm ben).trans aq))
     ·rw[←hM6];exact (aE hoe5).trans ((bm qe').trans aq)
    ·have hf:lE Z ((L,n),none) x=(((x.own.foldl aJ L,n+x.own.length),none),true):=by unfold lE;rw[Xa hnz,Xa hn,Xa h12]
     rw[hf] at hK
     simp (disch:=first|assumption|omega|(simp only[aG]<;>omega)) only[go_sem,seval,h1,h2,h3,h4,hq5,ho5,hx5,hb5,he5,hl21,hl21',t1,hv5.sl.one,hlen5,h12]
     generalize hM6:hp _ 0 M5=M6
     have hC6:Chg [q,o] M5 M6:=aR hM6 rfl
     have hC6':Chg [q,o,b,er] M5 M6:=hC6.weak (by simp)
     refine hK M6 ⟨_,we hO hM15 hC6' ?_ ?_ ?_ ?_ hv5 (by show _<=n+_;have:L.length<=n:=hl;omega),hN5.trans hC6' (fun i h _=>by simp at h ⊢;rcases h with h|h|h|h<;>simp[h]),hF⟩
     ·rw[←hM6];exact (aE hoq5).trans aq
     ·rw[←hM6];exact (aE hoo5).trans ((bm qo').trans aq)
     ·exact (hC6.get hob5 (by simp[qb',obn'])).trans hb5
     ·exact (hC6.get hoe5 (by simp[qe',oen'])).trans he5
theorem VQ {P:Program} {S:Nat->List NV->Option NV} {r:Option D4} {A B C:NC} {n:Nat} {d:Dyn} (Φ:Dyn->Prop) (h1:∀R:Dyn->Prop,(∀d',Φ d'->R d')->wp P S r A d (dC R Q)) (h2:∀d',Φ d'->wp P S r B d' (jn n (dC (KI P S r C Q) Q))):wp P S r (.seq A (.seq (.block n B) C)) d Q:=h1 _ h2
abbrev xF:=(List (List Nat)×Nat)×Option (Int×Int)
variable {st:xF}
def mQ (Z L:List (List Nat)) (x:Stm):Int:=if e6 Z (if (x.k=1∨x.k=2∨x.k=3)/\x.ce∉Z then 4 else 0) x.own=0/\12<L.length then 3 else e6 Z (if (x.k=1∨x.k=2∨x.k=3)/\x.ce∉Z then 4 else 0) x.own
def MJ (a e:Int):Option (Int×Int):=if e=0 then none else some (a,e)
def qL (Z:List (List Nat)) (st:xF) (x:Stm):xF×Bool:=
 (((x.own.foldl aJ st.1.1,st.1.2+x.own.length),MJ x.a (mQ Z (x.own.foldl aJ st.1.1) x)),decide (mQ Z (x.own.foldl aJ st.1.1) x=0))
def jI (Z:List (List Nat)) (l:List Stm) (st:xF):xF:=if st.2=none then (aX (qL Z) (aQ l) st).1 else st
theorem xj {a e:Int}:MJ a e=none↔e=0:=by unfold MJ;split<;>simp_all
theorem te  (l:List Stm):∀st:xF,st.2=none->((aX (qL Z) l st).2=true↔(aX (qL Z) l st).1.2=none):=by
 induction l with
 |nil=>intro st h;simp[aX,h]
 |cons x l ih=>
  intro st h
  rw[aX]
  by_cases he:mQ Z (x.own.foldl aJ st.1.1) x=0
  ·have h2:(qL Z st x).2=true:=Xd he
   rw[Xb h2]
   exact ih _ (xj.2 he)
  ·have h2:(qL Z st x).2=false:=Xc he
   rw[h2,Xa (by simp),h2]
   simp only[Bool.false_eq_true,false_iff]
   exact fun q=>he (xj.1 q)
theorem NE  (a b:List Stm) (st:xF) (f:List Stm->xF->xF) (hf:∀l st,f l st=if st.2=none then (aX (qL Z) l st).1 else st):f (a++b) st=f b (f a st):=by
 by_cases h:st.2=none
 ·rw[hf (a++b),Xb h,eq,hf a,Xb h]
  by_cases h2:(aX (qL Z) a st).1.2=none
  ·rw[Xb ((te a st h).2 h2),hf b,Xb h2]
  ·rw[Xa fun q=>h2 ((te a st h).1 q),hf b,Xa h2]
 ·rw[hf (a++b),Xa h,hf a,Xa h,hf b,Xa h]
def eO (Z:List (List Nat)) (l:List Stm) (st:xF):xF:=if st.2=none then (aX (qL Z) l st).1 else st
theorem md  {l:List Stm}:jI Z l st=eO Z (aQ l) st:=rfl
theorem mX  (a b:List Stm) (st:xF):eO Z (a++b) st=eO Z b (eO Z a st):=NE a b st (eO Z) fun _ _=>rfl
theorem FJ  (x:Stm) (l:List Stm) (st:xF):jI Z (x::l) st=jI Z l (eO Z x.all st):=by rw[md,aQ,mX];rfl
theorem ta  {l:List Stm} (h:st.2≠none):eO Z l st=st:=Xa h
theorem IU  {x:Stm} (h:st.2=none):eO Z x.all st=jI Z (if x.k=6 then x.e else []) (jI Z (if x.k=6∨x.k=7 then x.b else []) (qL Z st x).1):=by
 have e1:eO Z [x] st=(qL Z st x).1:=by
  unfold eO;rw[Xb h,aX]
  split<;>rfl
 rw[ri,show x::((if x.k=6∨x.k=7 then aQ x.b else [])++(if x.k=6 then aQ x.e else []))= [x]++((if x.k=6∨x.k=7 then aQ x.b else [])++(if x.k=6 then aQ x.e else [])) from rfl,mX,mX,e1,md,md]
 have e2:∀(p:Prop) [Decidable p] (l:List Stm),aQ (if p then l else [])=if p then aQ l else []:=by intro p _ l;split<;>rfl
 rw[e2,e2]
theorem HT  (l:List Stm):∀st:xF,(eO Z l st).1.2<=st.1.2+(l.flatMap Stm.own).length/\((eO Z l st).2≠none->st.2=none->lT (eO Z l st).2≠0)/\(st.1.1.length<=st.1.2->(eO Z l st).1.1.length<=(eO Z l st).1.2):=by
 induction l with
 |nil=>
  intro st
  have e:eO Z [] st=st:=by unfold eO;split<;>rfl
  rw[e]
  exact ⟨by simp,fun q r=>W9 r q,fun q=>q⟩
 |cons x l ih=>
  intro st
  by_cases h:st.2=none
  ·have e:eO Z (x::l) st=eO Z l (qL Z st x).1:=by
    have:=mX (Z:=Z) [x] l st
    rw[List.singleton_append] at this
    rw[this]
    congr 1
    unfold eO;rw[Xb h,aX]
    split<;>rfl
   obtain ⟨h1,h2,h3⟩:=ih (qL Z st x).1
   rw[e,List.flatMap_cons,List.length_append]
   have hn:(qL Z st x).1.1.2=st.1.2+x.own.length:=rfl
   have hl:(qL Z st x).1.1.1=x.own.foldl aJ st.1.1:=rfl
   have hfl:=cH x.own st.1.1
   refine ⟨by omega,fun q _=> ?_,fun q=>h3 (by rw[hn,hl];omega)⟩
   by_cases h4:(qL Z st x).1.2=none
   ·exact h2 q h4
   ·rw[ta h4]
    have:(qL Z st x).1.2=MJ x.a (mQ Z (x.own.foldl aJ st.1.1) x):=rfl
    rw[this] at h4 ⊢
    unfold MJ at h4 ⊢
    split
    ·rename_i q;rw[Xb q] at h4;exact W9 rfl h4
    ·assumption
  ·rw[ta h]
   exact ⟨by omega,fun _ q=>W9 q h,fun q=>q⟩
end FR
