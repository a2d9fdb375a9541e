/- Contracts of functions that the law ParmStill reaches, part 0. -/
import Derived.Test.YtbmkdfoffpeabaaGreatPsc
set_option linter.unusedSimpArgs false
set_option linter.unusedVariables false
open Go Nm Go.Proofs
namespace FR
variable {m:NH} {v u:NV} {T:D4->Prop} {c:List NV} {C:List (List NV)} {d N' off:Nat} {t:Tm} {S:List D4} {w:Bool} {now kept:List Int} {Q:Out->Dyn->Prop}
theorem gq {k:D4} {L:List (D4×NV)} {v:Option NV} (h:dt k L (NT.get k t)=v):NT.get k (aw L t)=v:=(d6 k L t).trans h
theorem one {a b:D4} (h:a∈ [b]):a=b:=by simpa using h
section
variable {l:List (AK×NO)} {k j:Nat} {m M:NH} {id:D4} {o:NO} {S:List D4}
theorem aR (h:hp l k m=M) (hs:pT l=S):Chg S m M:=by rw[←h];exact dC hs
theorem bj (h:hp l k m=M) (hj:j<k):aP M (na m j):=by rw[←h];exact ah hj
theorem ba (h:hp l k m=M):M.get (na m j)=gj j l (m.get (na m j)):=by rw[←h];exact jh
end
abbrev u8 (c:Nat):NV:= .int .u8 (.lit (c:Int))
abbrev u64 (n:Nat):NV:= .int .u64 (.lit (n:Int))
inductive Ex where
 |mk (k:Int) (n o:Nat) (s:List Nat) (ks:List Ex)
inductive Stm where
 |mk (k a:Int) (nm ce:List Nat) (i x y:Ex) (b e:List Stm)
inductive RE (m:NH) (T:D4->Prop):Ex->List NV->Prop
 |mk {k:Int} {n o:Nat} {s:List Nat} {ks:List Ex} {v:NV} {C:List (List NV)} (hv:Sl m v 5 C) (hT:∀i∈ids v,T i) (hl:C.length=ks.length) (h:∀(i:Nat) (x:Ex) (c:List NV),ks[i]? =some x->C[i]? =some c->RE m T x c):
  RE m T (.mk k n o s ks) [ii k,u64 n,u8 o,.str s,v]
inductive RS (m:NH) (T:D4->Prop):Stm->List NV->Prop
 |mk {k a:Int} {nm ce:List Nat} {i x y:Ex} {b e:List Stm} {ci cx cy:List NV} {vb ve:NV} {B E:List (List NV)} (hi:RE m T i ci) (hx:RE m T x cx) (hy:RE m T y cy)
  (hb:Sl m vb 21 B) (hbT:∀i∈ids vb,T i) (hbl:B.length=b.length) (hbR:∀(j:Nat) (s:Stm) (c:List NV),b[j]? =some s->B[j]? =some c->RS m T s c)
  (he:Sl m ve 21 E) (heT:∀i∈ids ve,T i) (hel:E.length=e.length) (heR:∀(j:Nat) (s:Stm) (c:List NV),e[j]? =some s->E[j]? =some c->RS m T s c):
  RS m T (.mk k a nm ce i x y b e) ([ii k,ii a,.str nm,.str ce]++ci++cx++cy++ [vb,ve])
def AA (T:D4->Prop) (m m':NH):Prop:=∀i,T i->aP m i->m'.get i=m.get i/\aP m' i
theorem AA.of  {m':NH} (h:Chg S m m') (hT:∀i,T i->i∉S):AA T m m':=fun i hi ho=>⟨h.get ho (hT i hi),h.old ho⟩
theorem RE.weak  {T':D4->Prop} (hT':∀i,T i->T' i) {x:Ex} (h:RE m T x c):RE m T' x c:=by
 induction h with
 |mk hv hT hl h ih=>exact .mk hv (fun i hi=>hT' i (hT i hi)) hl ih
theorem RS.weak  {T':D4->Prop} (hT':∀i,T i->T' i) {x:Stm} (h:RS m T x c):RS m T' x c:=by
 induction h with
 |mk hi hx hy hb hbT hbl hbR he heT hel heR ih1 ih2=>exact .mk (hi.weak hT') (hx.weak hT') (hy.weak hT') hb (fun i q=>hT' i (hbT i q)) hbl ih1 he (fun i q=>hT' i (heT i q)) hel ih2
structure SE (m:NH) (T:D4->Prop) (v:NV) (l:List Ex) (C:List (List NV)):Prop where
 sl:Sl m v 5 C
 hT:∀i∈ids v,T i
 len:C.length=l.length
 R:∀(i:Nat) (x:Ex) (c:List NV),l[i]? =some x->C[i]? =some c->RE m T x c
structure SS (m:NH) (T:D4->Prop) (v:NV) (l:List Stm) (C:List (List NV)):Prop where
 sl:Sl m v 21 C
 hT:∀i∈ids v,T i
 len:C.length=l.length
 R:∀(i:Nat) (x:Stm) (c:List NV),l[i]? =some x->C[i]? =some c->RS m T x c
theorem RE.inv  {k:Int} {n o:Nat} {s:List Nat} {ks:List Ex} (h:RE m T (.mk k n o s ks) c):∃v C,c= [ii k,u64 n,u8 o,.str s,v]/\SE m T v ks C:=by
 cases h with
 |mk hv hT hl h=>exact ⟨_,_,rfl,hv,hT,hl,h⟩
theorem RE.of  {k:Int} {n o:Nat} {s:List Nat} {ks:List Ex} (h:SE m T v ks C):RE m T (.mk k n o s ks) [ii k,u64 n,u8 o,.str s,v]:= .mk h.sl h.hT h.len h.R
theorem RE.len  {x:Ex} (h:RE m T x c):c.length=5:=by cases h;rfl
theorem RS.len  {x:Stm} (h:RS m T x c):c.length=21:=by
 cases h with
 |mk hi hx hy=>simp[hi.len,hx.len,hy.len]
def Ex.k:Ex->Int| .mk k _ _ _ _=>k
def Ex.n:Ex->Nat| .mk _ n _ _ _=>n
def Ex.o:Ex->Nat| .mk _ _ o _ _=>o
def Ex.s:Ex->List Nat| .mk _ _ _ s _=>s
def Ex.ks:Ex->List Ex| .mk _ _ _ _ ks=>ks
abbrev Ex.l (x:Ex) (v:NV):List NV:= [ii x.k,u64 x.n,u8 x.o,.str x.s,v]
theorem RE.inv'  {x:Ex} (h:RE m T x c):∃v C,c=x.l v/\SE m T v x.ks C:=by
 cases x;exact h.inv
theorem RS.inv  {k a:Int} {nm ce:List Nat} {i x y:Ex} {b e:List Stm} (h:RS m T (.mk k a nm ce i x y b e) c):
 ∃vi vx vy vb ve B E,c= [ii k,ii a,.str nm,.str ce,ii i.k,u64 i.n,u8 i.o,.str i.s,vi,ii x.k,u64 x.n,u8 x.o,.str x.s,vx,ii y.k,u64 y.n,u8 y.o,.str y.s,vy,vb,ve]/\
  RE m T i (i.l vi)/\RE m T x (x.l vx)/\RE m T y (y.l vy)/\SS m T vb b B/\SS m T ve e E:=by
 cases h with
 |mk hi hx hy hb hbT hbl hbR he heT hel heR=>
  obtain ⟨vi,Ci,rfl,-⟩:=hi.inv'
  obtain ⟨vx,Cx,rfl,-⟩:=hx.inv'
  obtain ⟨vy,Cy,rfl,-⟩:=hy.inv'
  exact ⟨vi,vx,vy,_,_,_,_,rfl,hi,hx,hy,⟨hb,hbT,hbl,hbR⟩,⟨he,heT,hel,heR⟩⟩
theorem SE.at  {l:List Ex} (h:SE m T v l C) (i:Nat) (hi:i<l.length):∃c,C[i]? =some c/\RE m T l[i] c:=by
 have hc:i<C.length:=by rw[h.len];exact hi
 exact ⟨C[i],List.getElem?_eq_getElem hc,h.R i _ _ (List.getElem?_eq_getElem hi) (List.getElem?_eq_getElem hc)⟩
theorem SS.at  {l:List Stm} (h:SS m T v l C) (i:Nat) (hi:i<l.length):∃c,C[i]? =some c/\RS m T l[i] c:=by
 have hc:i<C.length:=by rw[h.len];exact hi
 exact ⟨C[i],List.getElem?_eq_getElem hc,h.R i _ _ (List.getElem?_eq_getElem hi) (List.getElem?_eq_getElem hc)⟩
structure SV where
 (vi vx vy vb ve:NV)
def Stm.k:Stm->Int| .mk k _ _ _ _ _ _ _ _=>k
def Stm.a:Stm->Int| .mk _ a _ _ _ _ _ _ _=>a
def Stm.nm:Stm->List Nat| .mk _ _ s _ _ _ _ _ _=>s
def Stm.ce:Stm->List Nat| .mk _ _ _ s _ _ _ _ _=>s
def Stm.i:Stm->Ex| .mk _ _ _ _ x _ _ _ _=>x
def Stm.x:Stm->Ex| .mk _ _ _ _ _ x _ _ _=>x
def Stm.y:Stm->Ex| .mk _ _ _ _ _ _ x _ _=>x
def Stm.b:Stm->List Stm| .mk _ _ _ _ _ _ _ b _=>b
def Stm.e:Stm->List Stm| .mk _ _ _ _ _ _ _ _ e=>e
abbrev Stm.l (s:Stm) (w:SV):List NV:= [ii s.k,ii s.a,.str s.nm,.str s.ce,ii s.i.k,u64 s.i.n,u8 s.i.o,.str s.i.s,w.vi,ii s.x.k,u64 s.x.n,u8 s.x.o,.str s.x.s,w.vx,ii s.y.k,u64 s.y.n,u8 s.y.o,.str s.y.s,w.vy,w.vb,w.ve]
noncomputable def S0:Nat->List NV->Option NV:=aV 42 [.int .u32 (.lit 3560964096)] (.tup [.agg [.int .i64 (.lit 22),.int .i64 (.lit 0),.int .i64 (.lit 0),.int .i64 (.lit 0),.int .i64 (.lit 0),.int .i64 (.lit 0),.int .i64 (.lit 0)],.int .i64 (.lit 0)])<|aV 63 [.agg [.int .i64 (.lit 22),.int .i64 (.lit 0),.int .i64 (.lit 0),.int .i64 (.lit 0),.int .i64 (.lit 0),.int .i64 (.lit 0),.int .i64 (.lit 0)]] (.bool true)<|aV 36 [.agg [.int .i64 (.lit 22),.int .i64 (.lit 0),.int .i64 (.lit 0),.int .i64 (.lit 0),.int .i64 (.lit 0),.int .i64 (.lit 0),.int .i64 (.lit 0)]] (.tup [.int .u32 (.lit 3560964096),.int .i64 (.lit 0)])<|aV 42 [.int .u32 (.lit 3556769793)] (.tup [.agg [.int .i64 (.lit 23),.int .i64 (.lit 0),.int .i64 (.lit 0),.int .i64 (.lit 0),.int .i64 (.lit 0),.int .i64 (.lit 0),.int .i64 (.lit 0)],.int .i64 (.lit 0)])<|aV 63 [.agg [.int .i64 (.lit 23),.int .i64 (.lit 0),.int .i64 (.lit 0),.int .i64 (.lit 0),.int .i64 (.lit 0),.int .i64 (.lit 0),.int .i64 (.lit 0)]] (.bool true)<|aV 36 [.agg [.int .i64 (.lit 23),.int .i64 (.lit 0),.int .i64 (.lit 0),.int .i64 (.lit 0),.int .i64 (.lit 0),.int .i64 (.lit 0),.int .i64 (.lit 0)]] (.tup [.int .u32 (.lit 3556769793),.int .i64 (.lit 0)])<|aV 42 [.int .u32 (.lit 3573758911)] (.tup [.agg [.int .i64 (.lit 18),.int .i64 (.lit 0),.int .i64 (.lit 0),.int .i64 (.lit 0),.int .i64 (.lit 0),.int .i64 (.lit 0),.int .i64 (.lit 0)],.int .i64 (.lit 0)])<|aV 63 [.agg [.int .i64 (.lit 18),.int .i64 (.lit 0),.int .i64 (.lit 0),.int .i64 (.lit 0),.int .i64 (.lit 0),.int .i64 (.lit 0),.int .i64 (.lit 0)]] (.bool true)<|aV 36 [.agg [.int .i64 (.lit 18),.int .i64 (.lit 0),.int .i64 (.lit 0),.int .i64 (.lit 0),.int .i64 (.lit 0),.int .i64 (.lit 0),.int .i64 (.lit 0)]] (.tup [.int .u32 (.lit 3573758911),.int .i64 (.lit 0)])<|aV 42 [.int .u32 (.lit 4181721152)] (.tup [.agg [.int .i64 (.lit 12),.int .i64 (.lit 0),.int .i64 (.lit 2),.int .i64 (.lit 0),.int .i64 (.lit 0),.int .i64 (.lit 0),.int .i64 (.lit 0)],.int .i64 (.lit 0)])<|aV 63 [.agg [.int .i64 (.lit 12),.int .i64 (.lit 0),.int .i64 (.lit 2),.int .i64 (.lit 0),.int .i64 (.lit 0),.int .i64 (.lit 0),.int .i64 (.lit 0)]] (.bool true)<|aV 36 [.agg [.int .i64 (.lit 12),.int .i64 (.lit 0),.int .i64 (.lit 2),.int .i64 (.lit 0),.int .i64 (.lit 0),.int .i64 (.lit 0),.int .i64 (.lit 0)]] (.tup [.int .u32 (.lit 4181721152),.int .i64 (.lit 0)])<|aV 42 [.int .u32 (.lit 4177526819)] (.tup [.agg [.int .i64 (.lit 13),.int .i64 (.lit 3),.int .i64 (.lit 1),.int .i64 (.lit 0),.int .i64 (.lit 0),.int .i64 (.lit 0),.int .i64 (.lit 0)],.int .i64 (.lit 0)])<|aV 63 [.agg [.int .i64 (.lit 13),.int .i64 (.lit 3),.int .i64 (.lit 1),.int .i64 (.lit 0),.int .i64 (.lit 0),.int .i64 (.lit 0),.int .i64 (.lit 0)]] (.bool true)<|aV 36 [.agg [.int .i64 (.lit 13),.int .i64 (.lit 3),.int .i64 (.lit 1),.int .i64 (.lit 0),.int .i64 (.lit 0),.int .i64 (.lit 0),.int .i64 (.lit 0)]] (.tup [.int .u32 (.lit 4177526819),.int .i64 (.lit 0)])<|aV 42 [.int .u32 (.lit 3531604003)] (.tup [.agg [.int .i64 (.lit 0),.int .i64 (.lit 3),.int .i64 (.lit 0),.int .i64 (.lit 0),.int .i64 (.lit 0),.int .i64 (.lit 0),.int .i64 (.lit 1)],.int .i64 (.lit 0)])<|aV 63 [.agg [.int .i64 (.lit 0),.int .i64 (.lit 3),.int .i64 (.lit 0),.int .i64 (.lit 0),.int .i64 (.lit 0),.int .i64 (.lit 0),.int .i64 (.lit 1)]] (.bool true)<|aV 36 [.agg [.int .i64 (.lit 0),.int .i64 (.lit 3),.int .i64 (.lit 0),.int .i64 (.lit 0),.int .i64 (.lit 0),.int .i64 (.lit 0),.int .i64 (.lit 1)]] (.tup [.int .u32 (.lit 3531604003),.int .i64 (.lit 0)])<|aV 42 [.int .u32 (.lit 3531735041)] (.tup [.agg [.int .i64 (.lit 0),.int .i64 (.lit 1),.int .i64 (.lit 0),.int .i64 (.lit 0),.int .i64 (.lit 0),.int .i64 (.lit 0),.int .i64 (.lit 4096)],.int .i64 (.lit 0)])<|aV 63 [.agg [.int .i64 (.lit 0),.int .i64 (.lit 1),.int .i64 (.lit 0),.int .i64 (.lit 0),.int .i64 (.lit 0),.int .i64 (.lit 0),.int .i64 (.lit 4096)]] (.bool true)<|aV 36 [.agg [.int .i64 (.lit 0),.int .i64 (.lit 1),.int .i64 (.lit 0),.int .i64 (.lit 0),.int .i64 (.lit 0),.int .i64 (.lit 0),.int .i64 (.lit 4096)]] (.tup [.int .u32 (.lit 3531735041),.int .i64 (.lit 0)])<|aV 42 [.int .u32 (.lit 3531735298)] (.tup [.agg [.int .i64 (.lit 0),.int .i64 (.lit 2),.int .i64 (.lit 0),.int .i64 (.lit 0),.int .i64 (.lit 0),.int .i64 (.lit 0),.int .i64 (.lit 4104)],.int .i64 (.lit 0)])<|aV 63 [.agg [.int .i64 (.lit 0),.int .i64 (.lit 2),.int .i64 (.lit 0),.int .i64 (.lit 0),.int .i64 (.lit 0),.int .i64 (.lit 0),.int .i64 (.lit 4104)]] (.bool true)<|aV 36 [.agg [.int .i64 (.lit 0),.int .i64 (.lit 2),.int .i64 (.lit 0),.int .i64 (.lit 0),.int .i64 (.lit 0),.int .i64 (.lit 0),.int .i64 (.lit 4104)]] (.tup [.int .u32 (.lit 3531735298),.int .i64 (.lit 0)])<|aV 42 [.int .u32 (.lit 3531735297)] (.tup [.agg [.int .i64 (.lit 0),.int .i64 (.lit 1),.int .i64 (.lit 0),.int .i64 (.lit 0),.int .i64 (.lit 0),.int .i64 (.lit 0),.int .i64 (.lit 4104)],.int .i64 (.lit 0)])<|aV 63 [.agg [.int .i64 (.lit 0),.int .i64 (.lit 1),.int .i64 (.lit 0),.int .i64 (.lit 0),.int .i64 (.lit 0),.int .i64 (.lit 0),.int .i64 (.lit 4104)]] (.bool true)<|aV 36 [.agg [.int .i64 (.lit 0),.int .i64 (.lit 1),.int .i64 (.lit 0),.int .i64 (.lit 0),.int .i64 (.lit 0),.int .i64 (.lit 0),.int .i64 (.lit 4104)]] (.tup [.int .u32 (.lit 3531735297),.int .i64 (.lit 0)])<|aV 42 [.int .u32 (.lit 3531735042)] (.tup [.agg [.int .i64 (.lit 0),.int .i64 (.lit 2),.int .i64 (.lit 0),.int .i64 (.lit 0),.int .i64 (.lit 0),.int .i64 (.lit 0),.int .i64 (.lit 4096)],.int .i64 (.lit 0)])<|aV 63 [.agg [.int .i64 (.lit 0),.int .i64 (.lit 2),.int .i64 (.lit 0),.int .i64 (.lit 0),.int .i64 (.lit 0),.int .i64 (.lit 0),.int .i64 (.lit 4096)]] (.bool true)<|aV 36 [.agg [.int .i64 (.lit 0),.int .i64 (.lit 2),.int .i64 (.lit 0),.int .i64 (.lit 0),.int .i64 (.lit 0),.int .i64 (.lit 0),.int .i64 (.lit 4096)]] (.tup [.int .u32 (.lit 3531735042),.int .i64 (.lit 0)])<|aV 5 [] (.bool true)<|Hr
abbrev rT:=nG Tryz.prog S0
structure EvF (F F':List D4) (m m':NH):Prop where
 c:Chg F m m'
 f:∀j∈F',j∈F∨¬aP m j
section
variable {m m' m'':NH} {F F' F'':List D4}
theorem EvF.trans (h:EvF F F' m m') (h':EvF F' F'' m' m''):EvF F F'' m m'':=
 ⟨h.c.trans h'.c fun i hi ho=>(h.f i hi).elim id fun q=>IL ho q,fun j hj=>(h'.f j hj).elim (h.f j) fun q=>Or.inr fun ho=>q (h.c.old ho)⟩
theorem EvF.refl (m:NH):EvF F F m m:=⟨(Chg.refl m).weak (by simp),fun j hj=>Or.inl hj⟩
theorem EvF.grow (hC:Chg [] m m'):EvF F F m m':=⟨hC.weak (by simp),fun j hj=>Or.inl hj⟩
theorem EvF.pre (hC:Chg [] m m') (h:EvF F F' m' m''):EvF F F' m m'':=(EvF.grow hC).trans h
theorem EvF.get (h:EvF F F' m m') {i:D4} (ho:aP m i) (hi:i∉F):m'.get i=m.get i:=h.c.get ho hi
end
inductive In where
 |movz (d n:Nat)
 |ldr (d a:Nat)
 |str (d a:Nat)
 |dmb
 |hlt
 |svc
structure Wr where
 a:Nat
 v:Int
structure Co where
 pc:Nat
 st:Int
 X:List Int
 w:List Wr
structure Ev where
 (k c a v:Int)
structure Mm where
 now:List Int
 kept:List Int
 cs:List Co
 on:Bool
 tr:List Ev
structure Im where
 start:Nat
 entry:List Nat
 code:List In
def eL (X:List Int) (i:Nat):Int:=(X[i]?).getD 0
def EB (z:Int):Nat:=((z - 4096) / 8).toNat
def cN:List Wr->Nat->Int->Int
 | [],_,v=>v
 |x::l,j,v=>cN l j (if x.a=j then x.v else v)
def cK (id:Int) (i:In) (now:List Int) (c:Co):Bool×List Ev×Co:=match i with
 | .movz d n=>(true, [],⟨c.pc+1,c.st,c.X.set d n,c.w⟩)
 | .ldr d a=>(true, [⟨1,id,eL c.X a,cN c.w (EB (eL c.X a)) (eL now (EB (eL c.X a)))⟩],⟨c.pc+1,c.st,c.X.set d (cN c.w (EB (eL c.X a)) (eL now (EB (eL c.X a)))),c.w⟩)
 | .str d a=>(true, [],⟨c.pc+1,c.st,c.X,c.w++ [⟨EB (eL c.X a),eL c.X d⟩]⟩)
 | .dmb=>if c.w.length=0 then (true, [],⟨c.pc+1,c.st,c.X,c.w⟩) else (false, [],c)
 | .hlt=>(true, [⟨10,id,0,0⟩],⟨c.pc+1,1,c.X,c.w⟩)
 | .svc=>(true, [⟨4,id,0,eL c.X 0⟩],⟨c.pc+1,c.st,c.X,c.w⟩)
def dO (id:Int) (code:List In) (now:List Int) (c:Co):Bool×List Ev×Co:=
 if c.st≠0 then (false, [],c) else match code[c.pc]? with
  |none=>(true, [⟨11,id,0,0⟩],⟨c.pc,2,c.X,c.w⟩)
  |some i=>cK id i now c
def cX (id:Int) (n:Int) (now:List Int) (c:Co):Bool×List Ev×Co×List Int:=match c.w with
 | []=>(false, [],c,now)
 |x::l=>if n=0 then (true, [⟨3,id,4096+8*(x.a:Int),x.v⟩],⟨c.pc,c.st,c.X,l⟩,now.set x.a x.v) else (false, [],c,now)
def x0:List Int:=(List.replicate 33 0).set 28 1048576
def jD (pc:Nat):Co:=⟨pc,0,x0, []⟩
def qP (im:Im) (M:Mm):Mm:=⟨M.now,M.kept, [jD im.start],false,M.tr⟩
def cW (c:Co):Bool:=decide (c.st=1)&&decide (c.w.length=0)
def fi (im:Im) (l:List Ev) (M:Mm):Mm:=
 if M.on=true∨(M.cs.head?.map cW).getD false=false then ⟨M.now,M.kept,M.cs,M.on,M.tr++l⟩
 else ⟨M.now,M.kept,im.entry.map jD,true,M.tr++l++ [⟨9,0,0,0⟩]⟩
def jA (n:Nat) (now kept:List Int):List Int:=kept.take (8*n)++(now.drop (8*n)).take 8++kept.drop (8*n+8)
def ir (n:Int) (M:Mm):Bool×Mm:=
 if n<0∨(M.now.length:Int)<=n*8 then (false,M) else (true,⟨M.now,jA n.toNat M.now M.kept,M.cs,M.on,M.tr++ [⟨7,0,n,0⟩]⟩)
def qz (im:Im) (M:Mm):Mm:=qP im ⟨M.kept,M.kept,M.cs,M.on,M.tr++ [⟨8,0,0,0⟩]⟩
def hU (im:Im) (k n:Int) (j:Nat) (c:Co) (M:Mm):Bool×Mm:=
 if k=0 then ((dO j im.code M.now c).1,fi im (dO j im.code M.now c).2.1 ⟨M.now,M.kept,M.cs.set j (dO j im.code M.now c).2.2,M.on,M.tr⟩)
 else if k=1 then ((cX j n M.now c).1,fi im (cX j n M.now c).2.1 ⟨(cX j n M.now c).2.2.2,M.kept,M.cs.set j (cX j n M.now c).2.2.1,M.on,M.tr⟩)
 else (false,M)
def cY (im:Im) (k core n:Int) (M:Mm):Bool×Mm:=
 if k=2 then ir n M
 else if k=3 then (true,qz im M)
 else if core<0 then (false,M)
 else match M.cs[core.toNat]? with
  |none=>(false,M)
  |some c=>hU im k n core.toNat c M
def jX (b:Bool) (i:Nat):List In:= [.movz 1 (4096+8*i),.movz 2 (4104 - 8*i),.movz 3 1,.str 3 1]++(if b then [.dmb] else [])++ [.ldr 0 2,.svc,.hlt]
def jE (b:Bool):Im:=⟨0, [1,if b then 9 else 8], [.hlt]++jX b 0++jX b 1⟩
def dT (b:Bool):Nat:=if b then 1 else 0
def eT (b:Bool) (i:Nat):Nat:=1+i*(7+dT b)
def X1 (i:Nat):List Int:=x0.set 1 ((4096+8*i:Nat):Int)
def X2 (i:Nat):List Int:=(X1 i).set 2 ((4104 - 8*i:Nat):Int)
def X3 (i:Nat):List Int:=(X2 i).set 3 1
def Iz (b:Bool) (i:Nat) (v:Int) (w:List Wr):Nat->Co
 |0=>⟨eT b i,0,x0,w⟩
 |1=>⟨eT b i+1,0,X1 i,w⟩
 |2=>⟨eT b i+2,0,X2 i,w⟩
 |3=>⟨eT b i+3,0,X3 i,w⟩
 |4=>⟨eT b i+4,0,X3 i,w⟩
 |5=>⟨eT b i+5,0,X3 i,w⟩
 |6=>⟨eT b i+dT b+5,0,(X3 i).set 0 v,w⟩
 |7=>⟨eT b i+dT b+6,0,(X3 i).set 0 v,w⟩
 |_=>⟨eT b i+dT b+7,1,(X3 i).set 0 v,w⟩
structure InC (b:Bool) (i:Nat) (c:Co) (s:Nat) (v:Int) (w:List Wr):Prop where
 e:c=Iz b i v w s
 s8:s<=8
 s5:b=false->s≠5
 s3:s<=3->w= []
 ww:w= []∨w= [⟨i,1⟩]
 wb:b=true->5<=s->w= []
structure InT (b:Bool) (M:Mm):Prop where
 n:M.now.length=2
 k:M.kept.length=2
 c:(M.on=false/\M.cs= [jD 0])∨(M.on=true/\∃c0 c1,M.cs= [c0,c1]/\(∃s v w,InC b 0 c0 s v w)/\∃s v w,InC b 1 c1 s v w)
theorem v7 (n:Nat) (now kept:List Int) (h:now.length=kept.length) (hn:8*n<now.length):(jA n now kept).length=kept.length:=by
 unfold jA
 simp only[List.length_append,List.length_take,List.length_drop]
 omega
abbrev iu (z:Int):NV:= .int .u64 (.lit z)
abbrev iw (z:Int):NV:= .int .u32 (.lit z)
abbrev pA (l:List Int):List (List NV):=l.map fun z=> [iu z]
abbrev ip (l:List Int):List (List NV):=l.map fun z=> [ii z]
abbrev mu (l:List Int):List (List NV):=l.map fun z=> [iw z]
abbrev nJ (l:List Wr):List (List NV):=l.map fun w=> [ii (4096+8*(w.a:Int)),iu w.v,.bool false]
abbrev nI (l:List Ev):List (List NV):=l.map fun e=> [ii e.k,ii e.c,ii e.a,iu e.v]
noncomputable def E0:NH:=⟨.leaf,.e⟩
theorem qu {i:D4}:¬aP E0 i:=fun h=>Nat.not_lt_zero _ h
theorem mr :∀i,aP E0 i->aP m i:=fun i h=>IL h qu
abbrev fg:=D4->Nat
def aG (f:fg) (m:NH) (a:Nat):fg:=fun i=>if aP m i then f i else a
structure Kp (T:Nat->Prop) (f:fg) (m:NH) (f':fg) (m':NH):Prop where
 n:m.next.toNat<=m'.next.toNat
 c:∀{i},aP m i->f' i=f i
 g:∀{i},aP m i->¬T (f i)->m'.get i=m.get i
section
variable {T T':Nat->Prop} {f f' f'':fg} {m m' m'':NH} {a e:Nat} {r:D4} {o:NO} {v:NV} {C:List (List NV)}
theorem Kp.old (h:Kp T f m f' m') {i:D4} (ho:aP m i):aP m' i:=Nat.lt_of_lt_of_le ho h.n
theorem Kp.refl:Kp T f m f m:=⟨Nat.le_refl _,fun _=>rfl,fun _ _=>rfl⟩
theorem Kp.weak (h:Kp T f m f' m') (hT:∀a,T a->T' a):Kp T' f m f' m':=⟨h.n,h.c,fun ho ht=>h.g ho fun q=>ht (hT _ q)⟩
theorem Kp.trans (h:Kp T f m f' m') (h':Kp T f' m' f'' m''):Kp T f m f'' m'':=
 ⟨Nat.le_trans h.n h'.n,fun ho=>(h'.c (h.old ho)).trans (h.c ho),fun ho ht=>(h'.g (h.old ho) (by rw[h.c ho];exact ht)).trans (h.g ho ht)⟩
theorem Kp.of  (h:Chg S m m') (hS:∀i∈S,aP m i->T (f i)) (a:Nat):Kp T f m (aG f m a) m':=
 ⟨h.next,fun ho=>IN ho,fun ho ht=>h.get ho fun q=>ht (hS _ q ho)⟩
theorem Kp.same  (h:Chg S m m') (hS:∀i∈S,aP m i->T (f i)):Kp T f m f m':=
 ⟨h.next,fun ho=>rfl,fun ho ht=>h.get ho fun q=>ht (hS _ q ho)⟩
theorem Kp.grow (h:Chg [] m m'):Kp T f m f m':=Kp.same h (by simp)
structure Ob (a:Nat) (f:fg) (m:NH) (r:D4) (o:NO):Prop where
 g:m.get r=some o
 o:aP m r
 c:f r=a
theorem Ob.kp (h:Ob a f m r o) (k:Kp T f m f' m') (ht:¬T a):Ob a f' m' r o:=⟨(k.g h.o (by rw[h.c];exact ht)).trans h.g,k.old h.o,(k.c h.o).trans h.c⟩
structure OwC (a:Nat) (f:fg) (m:NH) (v:NV) (e:Nat) (C:List (List NV)):Prop where
 o:bC E0 m v e C
 c:∀i∈ids v,f i=a
theorem OwC.kp (h:OwC a f m v e C) (k:Kp T f m f' m') (ht:¬T a):OwC a f' m' v e C:=by
 refine ⟨?_,fun i hi=>(k.c (h.o.sl.old i hi)).trans (h.c i hi)⟩
 obtain ⟨⟨h0,⟨rfl,rfl⟩|⟨id,off,kc,c,rfl,hb,h1,h2,h3⟩⟩,hc⟩:=h
 ·exact ⟨h0,Or.inl ⟨rfl,rfl⟩⟩
 ·exact ⟨h0,Or.inr ⟨id,off,kc,c,rfl,hb,(k.g h2 (by rw[hc id (by simp[ids])];exact ht)).trans h1,k.old h2,h3⟩⟩
structure SlC (a:Nat) (f:fg) (m:NH) (v:NV) (e:Nat) (C:List (List NV)):Prop where
 o:Sl m v e C
 c:∀i∈ids v,f i=a
theorem SlC.kp (h:SlC a f m v e C) (k:Kp T f m f' m') (ht:¬T a):SlC a f' m' v e C:=by
 refine ⟨?_,fun i hi=>(k.c (h.o.old i hi)).trans (h.c i hi)⟩
 obtain ⟨⟨h0,⟨rfl,rfl⟩|⟨id,off,kc,w,c,rfl,h1,h2,h3⟩⟩,hc⟩:=h
 ·exact ⟨h0,Or.inl ⟨rfl,rfl⟩⟩
 ·exact ⟨h0,Or.inr ⟨id,off,kc,w,c,rfl,(k.g h2 (by rw[hc id (by simp[ids])];exact ht)).trans h1,k.old h2,h3⟩⟩
theorem OwC.sl (h:OwC a f m v e C):SlC a f m v e C:=⟨h.o.sl,h.c⟩
end
noncomputable def vB:List NV:=List.replicate 512 (iu 0)
theorem dp:vB.length=512:=List.length_replicate
noncomputable def bS (mp:D4) (id pc st:Int) (X:List Int) (vw:NV) (q:D4):List NV:= .ptr mp 0::ii id::ii pc::ii st::(X.map iu++(vB++ [vw,.map q,ii 0,ii 0,.bool false]))
section
variable {mp q:D4} {id pc st p:Int} {X Y:List Int} {vw w:NV}
theorem IF:(bS mp id pc st X vw q)[0]? =some (.ptr mp 0):=rfl
theorem IK:(bS mp id pc st X vw q)[1]? =some (ii id):=rfl
theorem EH:(bS mp id pc st X vw q)[2]? =some (ii pc):=rfl
theorem Gy:(bS mp id pc st X vw q)[3]? =some (ii st):=rfl
theorem z9:(bS mp id pc st X vw q).set 2 (ii p)=bS mp id p st X vw q:=rfl
theorem z6:(bS mp id pc st X vw q).set 3 (ii p)=bS mp id pc p X vw q:=rfl
theorem gX (h:X.length=33):(bS mp id pc st X vw q).length=554:=by simp[bS,h,dp]
theorem Gh (h:X.length=33) (n:Nat):(bS mp id pc st X vw q).drop (549+n)= [vw,.map q,ii 0,ii 0,.bool false].drop n:=by
 unfold bS
 rw[show 549+n=n+512+33+4 by omega]
 simp only[List.drop_succ_cons]
 rw[List.drop_append,List.length_map,h,List.drop_eq_nil_of_le (by rw[List.length_map,h];omega),List.nil_append,show n+512+33 - 33=n+512 by omega,List.drop_append,dp,List.drop_eq_nil_of_le (by rw[dp];omega),List.nil_append,Nat.add_sub_cancel]
theorem zU (h:X.length=33) (n:Nat):(bS mp id pc st X vw q)[549+n]? = [vw,.map q,ii 0,ii 0,.bool false][n]? :=by
 have:=congrArg (fun l=>l[0]?) (Gh (mp:=mp) (id:=id) (pc:=pc) (st:=st) (vw:=vw) (q:=q) h n)
 simpa only[List.getElem?_drop,Nat.add_zero] using this
theorem rD (h:X.length=33):(bS mp id pc st X vw q)[549]? =some vw:=zU h 0
theorem F6 (h:X.length=33):(bS mp id pc st X vw q)[550]? =some (.map q):=zU h 1
theorem pj (h:X.length=33):((bS mp id pc st X vw q).drop 4).take 33=X.map iu:=by
 show (X.map iu++_).take 33=_
 rw[List.take_append_of_le_length (by rw[List.length_map,h];omega),List.take_of_length_le (by rw[List.length_map,h];omega)]
theorem zZ (h:X.length=33) (hY:Y.length=33):(bS mp id pc st X vw q).take 4++Y.map iu++(bS mp id pc st X vw q).drop 37=bS mp id pc st Y vw q:=by
 have e:(bS mp id pc st X vw q).drop 37=vB++ [vw,.map q,ii 0,ii 0,.bool false]:=by
  show (X.map iu++_).drop 33=_
  rw[List.drop_append,List.drop_eq_nil_of_le (by rw[List.length_map,h];omega),List.length_map,h];rfl
 rw[e];simp[bS]
theorem sD (h:X.length=33):(bS mp id pc st X vw q).set 549 w=bS mp id pc st X w q:=by
 unfold bS
 rw[show (549:Nat)=545+1+1+1+1 by rfl]
 simp only[List.set_cons_succ]
 rw[List.set_append_right _ _ (by rw[List.length_map,h];omega),List.length_map,h,List.set_append_right _ _ (by rw[dp];omega),dp];rfl
end
def wi (v:NV):Prop:=match v with| .slc _ _ n _ kc=>n<=kc|_=>True
structure Cb where
 (r q:D4)
 w:NV
structure CoC (j:Nat) (f:fg) (m:NH) (mp:D4) (b:Cb) (id:Int) (c:Co):Prop where
 g:Ob (10+3*j) f m b.r (.cells true (bS mp id c.pc c.st c.X b.w b.q))
 q:Ob (11+3*j) f m b.q (.map [])
 w:OwC (12+3*j) f m b.w 3 (nJ c.w)
 x:c.X.length=33
 wa:∀y∈c.w,y.a<64
 wl:c.w.length<=1000
 kc:wi b.w
structure Mb where
 (p:D4)
 (n k v:NV)
structure MeC (f:fg) (m:NH) (b:Mb) (now kept ver:List Int) (N:Nat):Prop where
 g:Ob 1 f m b.p (.cells true [b.n,b.k,b.v])
 n:OwC 2 f m b.n 1 (pA now)
 k:OwC 3 f m b.k 1 (pA kept)
 v:OwC 4 f m b.v 1 (ip ver)
 l:kept.length=now.length/\ver.length=now.length/\now.length<=64
 b:∀z∈ver,0<=z/\z<=N
section
variable {T:Nat->Prop} {f f':fg} {m m':NH} {mp:D4} {j N:Nat} {b:Cb} {mb:Mb} {id:Int} {c:Co} {now kept ver:List Int}
theorem CoC.kp (h:CoC j f m mp b id c) (k:Kp T f m f' m') (ht:¬T (10+3*j)/\¬T (11+3*j)/\¬T (12+3*j)):CoC j f' m' mp b id c:=
 ⟨h.g.kp k ht.1,h.q.kp k ht.2.1,h.w.kp k ht.2.2,h.x,h.wa,h.wl,h.kc⟩
theorem MeC.kp (h:MeC f m mb now kept ver N) (k:Kp T f m f' m') (ht:¬T 1/\¬T 2/\¬T 3/\¬T 4):MeC f' m' mb now kept ver N:=
 ⟨h.g.kp k ht.1,h.n.kp k ht.2.1,h.k.kp k ht.2.2.1,h.v.kp k ht.2.2.2,h.l,h.b⟩
theorem MeC.more (h:MeC f m mb now kept ver N) (hN:N<=N'):MeC f m mb now kept ver N':=⟨h.g,h.n,h.k,h.v,h.l,fun z hz=>⟨(h.b z hz).1,by have:=(h.b z hz).2;omega⟩⟩
end
def Tc (j:Nat):Nat->Prop:=fun a=>a=10+3*j∨a=11+3*j∨a=12+3*j
def lw:Nat->Prop:=fun a=>1<=a/\a<=4
section
variable {f f':fg} {m m' M:NH} {mp:D4} {j:Nat} {b:Cb} {id:Int} {c:Co} {sb q:D4} {v:NV} {C:List (List NV)}
theorem GV (hv:cellsOf v=some [v]):∃m',rT 74 [v] m (.fn 100 [.ptr (na m 0) 0]) m'/\m'=hp [(.n 0,.cells true [v])] 1 m:=by
 refine WF.ex1 fun K hK=> ?_
 refine WF.of_wpG (fun _=>rfl) rC (L:= [(.e,v)]) rfl ?_
 unfold AO
 simp (config:={maxSteps:=1000000}) (disch:=first|assumption|omega|(apply ah;omega)|(apply ab;assumption)|(simp only[aJ]<;>omega)) only[go_sem,seval,hv]
 exact hK _ rfl
theorem Dl  (I:Nat->NH->Prop) (Z:NH->Prop) (h0:I 0 m) (hl:C.length<=100000)
 (hI:∀k M,I k M->M.get sb=some (.cells w [v])/\aP M sb/\Sl M v 3 C) (hg:∀k M M',I k M->Chg [] M M'->I k M')
 (hr:∀k M x,I k M->C[k]? =some x->∃r M',lq Tryz.prog S0 q [ii k,.agg x] M (.bool r) M'/\(if r=true then I (k+1) M' else Z M')):
 ∃m',rT 100 [.yld q,.ptr sb 0] m (.tup []) m'/\(I C.length m'∨Z m'):=by
 refine WF.ex1 fun K hK=> ?_
 refine WF.of_wpG (fun _=>rfl) oE (L:= [(.a .e,.ptr sb 0),(.e,.yld q)]) rfl ?_
 unfold xi
 obtain ⟨g1,g2,g3⟩:=hI 0 m h0
 have hlen:=g3.len
 rw[am]
 simp (config:={maxSteps:=1000000}) (disch:=first|assumption|omega|(apply ah;omega)|(apply ab;assumption)|(simp only[aJ]<;>omega)) only[go_sem,seval,g1,hlen]
 refine W.loop (fun n d=>∃t k M,d=⟨t, [],none,M⟩/\NT.get D4.e t=some (.yld q)/\NT.get D4.e.a.a t=some v/\NT.get D4.e.a.b t=some (ii (C.length:Nat))/\NT.get D4.e.a.c t=some (ii (k:Nat))/\k+n=C.length/\I k M) ?_ C.length _ ⟨_,0,m,rfl,by simp only[go_sem,seval],by simp only[go_sem,seval],by simp only[go_sem,seval],by simp only[go_sem,seval]<;>rfl,by omega,h0⟩
 rintro n d ⟨t,k,M,rfl,t1,t2,t3,t4,hk,hM⟩
 apply bz
 unfold nU
 change wp _ _ _ _ ⟨aw [] t, [],none,M⟩ _
 by_cases hkn:k<C.length
 ·obtain ⟨e1,e2,e3⟩:=hI k M hM
  obtain ⟨i,off,wr,cs,a1,a2,a3,a4,a5⟩:=e3.at k hkn
  have hx3:C[k].length=3:=e3.1 _ (List.getElem_mem hkn)
  have hC1:Chg [] M (hp [(.n 0,.cells true C[k]),(.n 0,.cells true [ii 0,iu 0,.bool false])] 1 M):=dC rfl
  obtain ⟨r,M',hy,hq⟩:=hr k _ C[k] (hg k M _ hM hC1) (List.getElem?_eq_getElem hkn)
  have htk:C[k].take 3=C[k]:=List.take_of_length_le (by omega)
  have ha4:off+3<=cs.length:=a4
  rw[←am M]
  cases r with
  |true=>
   simp (config:={maxSteps:=1000000}) (disch:=first|assumption|omega|(apply ah;omega)|(apply ab;assumption)|(simp only[aJ]<;>omega)) only[go_sem,seval,t1,t2,t3,t4,a1,a2,a5,hx3,htk,hy.wy]
   exact ⟨n - 1,by omega,_,k+1,M',by rw[am],by simp only[go_sem,seval,t1],by simp only[go_sem,seval,t2],by simp only[go_sem,seval,t3],by simp only[go_sem,seval]<;>rfl,by omega,hq⟩
  |false=>
   simp (config:={maxSteps:=1000000}) (disch:=first|assumption|omega|(apply ah;omega)|(apply ab;assumption)|(simp only[aJ]<;>omega)) only[go_sem,seval,t1,t2,t3,t4,a1,a2,a5,hx3,htk,hy.wy]
   rw[am]
   exact hK _ (Or.inr hq)
 ·simp (config:={maxSteps:=1000000}) (disch:=first|assumption|omega|(apply ah;omega)|(apply ab;assumption)|(simp only[aJ]<;>omega)) only[go_sem,seval,t1,t2,t3,t4]
  have e:k=C.length:=by omega
  subst e
  exact hK _ (Or.inl hM)
theorem w5 (h:CoC j f m mp b id c):rT 50 [.ptr b.r 549] m (.fn 100 [.ptr (na m 0) 0]) (hp [(.n 0,.cells true [b.w])] 1 m):=by
 suffices hh:∃m',rT 50 [.ptr b.r 549] m (.fn 100 [.ptr (na m 0) 0]) m'/\m'=hp [(.n 0,.cells true [b.w])] 1 m by
  obtain ⟨m',h1,rfl⟩:=hh;exact h1
 refine WF.ex1 fun K hK=> ?_
 refine WF.of_wpG (fun _=>rfl) sA (L:= [(.e,.ptr b.r 549)]) rfl ?_
 unfold D2
 have g:=h.g.g
 have hx:=h.x
 obtain ⟨m1,r1,rfl⟩:=GV (m:=m) (v:=b.w) h.w.o.sl.one
 rw[am]
 simp (config:={maxSteps:=1000000}) (disch:=first|assumption|omega|(apply ah;omega)|(apply ab;assumption)|(simp only[aJ]<;>omega)) only[go_sem,seval,g,rD,r1.wf']
 exact hK _ rfl
theorem sM  {fx:NOpd} {ps:List D4} {a1 b1:NC} {dfs:List Dfr} {T:List D4} (hf:ρ t fx=some (.fn 100 [.ptr sb 0])) (hl:C.length<=100000)
 (gs:m.get sb=some (.cells w [v])) (os:aP m sb) (hv:Sl m v 3 C) (hT:∀i∈T,aP m i/\i≠sb/\i∉ids v) (J:NH->Nat->NH->Prop) (Z:Jump->NH->Prop)
 (h0:∀M1,Chg [] m M1->J M1 0 M1) (hg:∀M1 k N N',J M1 k N->Chg [] N N'->J M1 k N')
 (hr:∀M1 k N x,Chg [] m M1->aP M1 (na m 1)->Chg (na m 1::T) M1 N->N.get (na m 1)=some (.loop 0 .none t ps a1 b1)->J M1 k N->C[k]? =some x->∃r M',lq Tryz.prog S0 (na m 1) [ii k,.agg x] N (.bool r) M'/\Chg (na m 1::T) M1 M'/\(if r=true then M'.get (na m 1)=some (.loop 0 .none t ps a1 b1)/\J M1 (k+1) M' else ∃p,M'.get (na m 1)=some (.loop 2 p t ps a1 b1)/\Z p M'))
 (hQ:∀M1 N p,Chg [] m M1->aP M1 (na m 0)->aP M1 (na m 1)->(p= .none/\J M1 C.length N)∨Z p N->N.get (na m 0)=some (.defd true)->aP N (na m 0)->aP N (na m 1)->Chg T m N->Q (ic p) ⟨t,.mark (na m 0)::dfs,none,hp [(.o (na m 1),.loop 3 p t ps a1 b1)] 0 N⟩):
 W Tryz.prog S0 none (.rangeFunc fx ps a1 b1) ⟨t,dfs,none,m⟩ Q:=by
 generalize hM1:hp [(.n 1,.loop 0 .none t ps a1 b1),(.n 0,.defd true)] 2 m=M1
 have hG:Chg [] m M1:=aR hM1 rfl
 have oq:aP M1 (na m 1):=bj hM1 (by omega)
 have om:aP M1 (na m 0):=bj hM1 (by omega)
 have gq:M1.get (na m 1)=some (.loop 0 .none t ps a1 b1):=ba hM1
 have gm:M1.get (na m 0)=some (.defd true):=ba hM1
 have nT:∀{i},aP m i->i∉T->i∉na m 1::T:=fun ho hi=>by simp only[IS,not_or];exact ⟨ho.ne 1,hi⟩
 have hsT:sb∉T:=fun q=>(hT sb q).2.1 rfl
 obtain ⟨m',h1,h2⟩:=Dl (m:=M1) (q:=na m 1) (sb:=sb) (v:=v) (C:=C) (w:=w) (fun k N=>Chg (na m 1::T) M1 N/\N.get (na m 1)=some (.loop 0 .none t ps a1 b1)/\J M1 k N) (fun N=>Chg (na m 1::T) M1 N/\∃p,N.get (na m 1)=some (.loop 2 p t ps a1 b1)/\Z p N)
  ⟨(Chg.refl M1).weak (by simp),gq,h0 _ hG⟩ hl
  (fun k N ⟨hC,_,_⟩=>⟨(hC.get (hG.old os) (nT os hsT)).trans ((hG.get os (by simp)).trans gs),hC.old (hG.old os),(hv.chg hG fun _ _=>by simp).chg hC fun i hi=>nT (hv.old i hi) fun q=>(hT i q).2.2 hi⟩)
  (fun k N N' ⟨hC,hq,hJ⟩ hC'=>⟨hC.trans hC' (by simp),(hC'.get (hC.old oq) (by simp)).trans hq,hg M1 k N N' hJ hC'⟩)
  (fun k N x ⟨hC,hq,hJ⟩ hx=>by
   obtain ⟨r,M',a,b,c⟩:=hr M1 k N x hG oq hC hq hJ hx
   refine ⟨r,M',a, ?_⟩
   cases r with
   |true=>exact ⟨b,c.1,c.2⟩
   |false=>exact ⟨b,c⟩)
 have fin:∀{N st p},Chg (na m 1::T) M1 N->N.get (na m 1)=some (.loop st p t ps a1 b1)->st≠1->rT 100 [.yld (na m 1),.ptr sb 0] M1 (.tup []) N->((p= .none/\J M1 C.length N)∨Z p N)->W Tryz.prog S0 none (.rangeFunc fx ps a1 b1) ⟨t,dfs,none,m⟩ Q:=by
  intro N st p hC hq hst hr hJ
  refine W.rangeJ hf (hM1▸hr) hq hst ?_ (hC.old oq)
  refine hQ M1 N p hG om oq hJ ((hC.get om ?_).trans gm) (hC.old om) (hC.old oq) ?_
  ·simp only[IS,not_or]
   exact ⟨fun e=>by have:=dM e;omega,fun q=>aD (hT _ q).1⟩
  ·refine (hG.weak (T:=T) (by simp)).trans hC fun i hi ho=> ?_
   rcases List.mem_cons.1 hi with rfl|hi
   ·exact IL ho aD
   ·exact hi
 rcases h2 with ⟨hC,hq,hJ⟩|⟨hC,p,hq,hZ⟩
 ·exact fin hC hq (by simp) h1 (Or.inl ⟨rfl,hJ⟩)
 ·exact fin hC hq (by simp) h1 (Or.inr hZ)
theorem mC (h:CoC j f m mp b id c):∃v m',rT 28 [.ptr b.r 0] m v m'/\bC m m' v 3 (nJ c.w)/\Chg [] m m':=by
 refine WF.ex fun K hK=> ?_
 refine WF.of_wpM (fun _=>rfl) rN (L:= [(.e,.ptr b.r 0)]) rfl ?_
 unfold AZ
 have hl:=h.wl
 generalize hm1:hp [(.n 0,.cells true [.nils])] 1 m=m1
 have hC1:Chg [] m m1:=aR hm1 rfl
 have k1:Kp (fun _=>False) f m f m1:=Kp.grow hC1
 have h1:=h.kp k1 (by simp)
 have go1:m1.get (na m 0)=some (.cells true [.nils]):=ba hm1
 have oo1:aP m1 (na m 0):=bj hm1 (by omega)
 have r1:=w5 h1
 simp (config:={maxSteps:=1000000}) (disch:=first|assumption|omega|(apply ah;omega)|(apply ab;assumption)|(simp only[aJ]<;>omega)) only[go_sem,seval,hm1,r1.wf']
 generalize hm2:hp [(.n 0,.cells true [b.w])] 1 m1=m2
 have hC2:Chg [] m1 m2:=aR hm2 rfl
 have gz:m2.get (na m1 0)=some (.cells true [b.w]):=ba hm2
 have oz:aP m2 (na m1 0):=bj hm2 (by omega)
 have go2:=(hC2.get oo1 (by simp)).trans go1
 have oo2:=hC2.old oo1
 have hw2:=((h1.w.kp (Kp.grow (T:=fun _=>False) hC2) (by simp)).o).sl
 generalize ht:aw _ NT.leaf=t
 have t1:NT.get D4.e.c t=some (.ptr (na m 0) 0):=by rw[←ht];simp (config:={maxSteps:=1000000}) (disch:=first|assumption|omega|(apply ah;omega)|(apply ab;assumption)|(simp only[aJ]<;>omega)) only[go_sem,seval]
 have t2:NT.get D4.e.b.a t=some (.fn 100 [.ptr (na m1 0) 0]):=by rw[←ht];simp (config:={maxSteps:=1000000}) (disch:=first|assumption|omega|(apply ah;omega)|(apply ab;assumption)|(simp only[aJ]<;>omega)) only[go_sem,seval]
 clear ht
 have nzo:na m 0≠na m1 0:=oo1.ne 0
 refine sM (sb:=na m1 0) (v:=b.w) (C:=nJ c.w) (T:= [na m 0]) t2 (by rw[List.length_map];omega) gz oz hw2 ?_ (fun M1 k N=>∃u,N.get (na m 0)=some (.cells true [u])/\aP N (na m 0)/\bC M1 N u 3 ((nJ c.w).take k)) (fun _ _=>False) ?_ ?_ ?_ ?_
 ·intro i hi
  have:=one hi;subst this
  exact ⟨oo2,nzo,fun hi=>aD (h.w.o.sl.old _ hi)⟩
 ·intro M1 hC
  exact ⟨.nils,(hC.get oo2 (by simp)).trans go2,hC.old oo2,bC.nil⟩
 ·rintro M1 k N N' ⟨u,e1,e2,e3⟩ hC
  exact ⟨u,(hC.get e2 (by simp)).trans e1,hC.old e2,e3.chg hC (by simp)⟩
 ·rintro M1 k N x hG oq1 hC hq ⟨u,e1,e2,e3⟩ hx
  have oqN:=hC.old oq1
  have oM:aP M1 (na m 0):=hG.old oo2
  have nu:na m2 1∉ids u:=fun hi=>e3.new _ hi oq1
  have nu0:na m 0∉ids u:=fun hi=>e3.new _ hi oM
  have nq0:na m 0≠na m2 1:=oo2.ne 1
  have hkl:k<(nJ c.w).length:=by
   rcases Nat.lt_or_ge k (nJ c.w).length with hlt|hge
   ·exact hlt
   ·rw[List.getElem?_eq_none hge] at hx;cases hx
  obtain ⟨y,hy,rfl⟩:∃y:Wr,c.w[k]? =some y/\x= [ii (4096+8*(y.a:Int)),iu y.v,.bool false]:=by
   rw[List.getElem?_map] at hx
   cases hh:c.w[k]? with
   |none=>rw[hh] at hx;cases hx
   |some y=>rw[hh] at hx;cases hx;exact ⟨y,rfl,rfl⟩
  suffices hh:∃r M',lq Tryz.prog S0 (na m2 1) [ii (k:Nat),.agg [ii (4096+8*(y.a:Int)),iu y.v,.bool false]] N r M'/\r= .bool true/\Chg (na m2 1::na m 0::ids u) N M'/\M'.get (na m2 1)=some (.loop 0 .none t [D4.e.b.b,D4.e.b.c] jS jT)/\∃u',M'.get (na m 0)=some (.cells true [u'])/\bC M1 M' u' 3 ((nJ c.w).take k++ [[ii (4096+8*(y.a:Int)),iu y.v,.bool false]]) by
   obtain ⟨r,M',q1,rfl,q2,q3,u',q4,q5⟩:=hh
   refine ⟨true,M',q1,hC.trans q2 fun i hi ho=> ?_, ?_⟩
   ·simp only[IS,IR,or_false] at hi ⊢
    rcases hi with rfl|rfl|hi
    ·exact Or.inl rfl
    ·exact Or.inr rfl
    ·exact IL ho (e3.new i hi)
   ·rw[IN rfl]
    refine ⟨q3,u',q4,q2.old e2, ?_⟩
    rw[List.take_add_one,hx];exact q5
  refine WY.ex fun K' hK'=> ?_
  refine WY.of_wp hq rfl jS.eq_1 jT.eq_1 ?_
  change wp _ _ _ _ ⟨aw [(D4.e.b.c,.agg [ii (4096+8*(y.a:Int)),iu y.v,.bool false]),(D4.e.b.b,ii (k:Nat))] t, [],none,hp [] 0 N⟩ _
  simp (config:={maxSteps:=1000000}) (disch:=first|assumption|omega|(apply ah;omega)|(apply ab;assumption)|(simp only[aJ]<;>omega)) only[go_sem,seval,t1,hq,e1]
  generalize hN1:hp _ 2 N=N1
  have hCn:Chg [na m2 1] N N1:=aR hN1 rfl
  have gn1:N1.get (na N 1)=some (.cells true [ii (4096+8*(y.a:Int)),iu y.v,.bool false]):=ba hN1
  have on1:aP N1 (na N 1):=bj hN1 (by omega)
  have gq1:N1.get (na m2 1)=some (.loop 1 .none t [D4.e.b.b,D4.e.b.c] jS jT):=by rw[←hN1];exact (bh oqN).trans (ib.trans aN)
  have go1:=(hCn.get e2 (by simpa using nq0)).trans e1
  refine wY (e3.chg hCn fun i hi=>by simp;rintro rfl;exact nu hi) gn1 on1 rfl (fun i hi=>hCn.old (hC.old hi)) (by simp only[List.length_take,List.length_map];omega) (by simp only[List.length_take,List.length_map];omega) ?_
  intro u' N2 hu' hC2'
  have gq2:=(hC2'.get (hCn.old oqN) nu).trans gq1
  have go2':=(hC2'.get (hCn.old e2) nu0).trans go1
  have oq2:=hC2'.old (hCn.old oqN)
  have oo2':=hC2'.old (hCn.old e2)
  have nq0':=nq0.symm
  simp (config:={maxSteps:=1000000}) (disch:=first|assumption|omega|(apply ah;omega)|(apply ab;assumption)|(simp only[aJ]<;>omega)) only[go_sem,seval,t1,go2',gq2,hu'.sl.one]
  generalize hN3:hp _ 0 N2=N3
  have hC3:Chg [na m2 1,na m 0] N2 N3:=aR hN3 rfl
  have nq':na m2 1∉ids u':=fun hi=>hu'.new _ hi oq1
  have no':na m 0∉ids u':=fun hi=>hu'.new _ hi oM
  refine hK' _ _ ⟨rfl,((hCn.weak (T:=na m2 1::na m 0::ids u) (by simp)).trans hC2' fun i hi _=> ?_).trans hC3 fun i hi _=> ?_, ?_,u', ?_, ?_⟩
  ·exact List.mem_cons_of_mem _ (List.mem_cons_of_mem _ hi)
  ·simp only[IS,IR,or_false] at hi ⊢;rcases hi with rfl|rfl<;>simp
  ·rw[←hN3];exact (bh oq2).trans aN
  ·rw[←hN3];exact (bh oo2').trans ((di nq0).trans aN)
  ·refine hu'.chg hC3 fun i hi=> ?_
   simp only[IS,IR,or_false,not_or]
   exact ⟨fun e=>nq' (e▸hi),fun e=>no' (e▸hi)⟩
 ·rintro M1 N p hG oM0 oM1 hJ m1' m2' m3' hC
  rcases hJ with ⟨rfl,u,e1,e2,e3⟩|hZ
  ·change dv _ _ (ic .none) ⟨aw [] t,_,_,_⟩
   have nu:na m2 1∉ids u:=fun hi=>e3.new _ hi oM1
   have nu0:na m2 0∉ids u:=fun hi=>e3.new _ hi oM0
   have n01:na m2 0≠na m2 1:=fun e=>by have:=dM e;omega
   have n02:na m 0≠na m2 1:=oo2.ne 1
   have n03:na m 0≠na m2 0:=oo2.ne 0
   have n10:=n01.symm
   simp (config:={maxSteps:=1000000}) (disch:=first|assumption|omega|(apply ah;omega)|(apply ab;assumption)|(simp only[aJ]<;>omega)) only[go_sem,seval,ic,t1,e1,e2,m1']
   generalize hMe:hp _ 0 N=Me
   have hCe:Chg [na m2 0,na m2 1] N Me:=aR hMe rfl
   have e4:=e3.chg hCe fun i hi=>by
    simp only[IS,IR,or_false,not_or]
    exact ⟨fun e=>nu0 (e▸hi),fun e=>nu (e▸hi)⟩
   rw[List.take_length] at e4
   have hC12:Chg [] m m2:=hC1.trans hC2 (by simp)
   refine hK _ _ ⟨e4.back fun i hi=>hG.old (hC12.old hi),((hC12.weak (T:= [na m 0,na m2 0,na m2 1]) (by simp)).trans hC (by simp)).trans hCe (by simp) |>.weak fun i hi ho=> ?_⟩
   simp only[IS,IR,or_false] at hi
   rcases hi with rfl|rfl|rfl
   ·exact IL ho aD
   ·exact IL (hC12.old ho) aD
   ·exact IL (hC12.old ho) aD
  ·exact hZ.elim
end
section
variable {f f':fg} {m m' M:NH} {mp:D4} {j:Nat} {b:Cb} {id:Int} {c:Co} {sb q:D4} {v:NV} {C:List (List NV)}
theorem GR {l:List Wr} {k:Nat} {x:List NV} (hx:(nJ l)[k]? =some x):∃y:Wr,l[k]? =some y/\x= [ii (4096+8*(y.a:Int)),iu y.v,.bool false]:=by
 rw[List.getElem?_map] at hx
 cases hh:l[k]? with
 |none=>rw[hh] at hx;cases hx
 |some y=>rw[hh] at hx;cases hx;exact ⟨y,rfl,rfl⟩
theorem Cq (h:CoC j f m mp b id c) {fn:Nat} {cap:List NV}
 (hcl:∀M (y:Wr),y∈c.w->Chg [] m M->∃r M',rT fn (.agg [ii (4096+8*(y.a:Int)),iu y.v,.bool false]::cap) M (.bool r) M'/\Chg [] M M'):
 ∃v m',rT 55 [.ptr b.r 0,.fn fn cap] m v m'/\(∃r,v= .bool r)/\Chg [] m m':=by
 refine WF.ex fun K hK=> ?_
 refine WF.of_wpM (fun _=>rfl) rP (L:= [(.a .e,.fn fn cap),(.e,.ptr b.r 0)]) rfl ?_
 unfold Eb
 have hl:=h.wl
 generalize hm1:hp [(.n 1,.cells true [.bool false]),(.n 0,.cells true [.fn fn cap])] 2 m=m1
 have hC1:Chg [] m m1:=aR hm1 rfl
 have k1:Kp (fun _=>False) f m f m1:=Kp.grow hC1
 have h1:=h.kp k1 (by simp)
 have gf1:m1.get (na m 0)=some (.cells true [.fn fn cap]):=ba hm1
 have of1:aP m1 (na m 0):=bj hm1 (by omega)
 have go1:m1.get (na m 1)=some (.cells true [.bool false]):=ba hm1
 have oo1:aP m1 (na m 1):=bj hm1 (by omega)
 have r1:=w5 h1
 simp (config:={maxSteps:=1000000}) (disch:=first|assumption|omega|(apply ah;omega)|(apply ab;assumption)|(simp only[aJ]<;>omega)) only[go_sem,seval,hm1,r1.wf']
 generalize hm2:hp [(.n 0,.cells true [b.w])] 1 m1=m2
 have hC2:Chg [] m1 m2:=aR hm2 rfl
 have gz:m2.get (na m1 0)=some (.cells true [b.w]):=ba hm2
 have oz:aP m2 (na m1 0):=bj hm2 (by omega)
 have go2:=(hC2.get oo1 (by simp)).trans go1
 have oo2:=hC2.old oo1
 have gf2:=(hC2.get of1 (by simp)).trans gf1
 have of2:=hC2.old of1
 have hw2:=((h1.w.kp (Kp.grow (T:=fun _=>False) hC2) (by simp)).o).sl
 generalize ht:aw _ NT.leaf=t
 have t1:NT.get D4.e.f t=some (.ptr (na m 1) 0):=by rw[←ht];simp (config:={maxSteps:=1000000}) (disch:=first|assumption|omega|(apply ah;omega)|(apply ab;assumption)|(simp only[aJ]<;>omega)) only[go_sem,seval]
 have t2:NT.get D4.e.b.b t=some (.fn 100 [.ptr (na m1 0) 0]):=by rw[←ht];simp (config:={maxSteps:=1000000}) (disch:=first|assumption|omega|(apply ah;omega)|(apply ab;assumption)|(simp only[aJ]<;>omega)) only[go_sem,seval]
 have t3:NT.get D4.e.c t=some (.ptr (na m 0) 0):=by rw[←ht];simp (config:={maxSteps:=1000000}) (disch:=first|assumption|omega|(apply ah;omega)|(apply ab;assumption)|(simp only[aJ]<;>omega)) only[go_sem,seval]
 clear ht
 have nzo:na m 1≠na m1 0:=oo1.ne 0
 have nfo:na m 0≠na m 1:=fun e=>by have:=dM e;omega
 have hC12:Chg [] m m2:=hC1.trans hC2 (by simp)
 refine sM (sb:=na m1 0) (v:=b.w) (C:=nJ c.w) (T:= [na m 1]) t2 (by rw[List.length_map];omega) gz oz hw2 ?_ (fun M1 k N=>N.get (na m 1)=some (.cells true [.bool false])/\aP N (na m 1)) (fun p N=>p= .ret/\N.get (na m 1)=some (.cells true [.bool true])/\aP N (na m 1)) ?_ ?_ ?_ ?_
 ·intro i hi
  have:=one hi;subst this
  exact ⟨oo2,nzo,fun hi=>aD (h.w.o.sl.old _ hi)⟩
 ·intro M1 hC
  exact ⟨(hC.get oo2 (by simp)).trans go2,hC.old oo2⟩
 ·rintro M1 k N N' ⟨e1,e2⟩ hC
  exact ⟨(hC.get e2 (by simp)).trans e1,hC.old e2⟩
 ·rintro M1 k N x hG oq1 hC hq ⟨e1,e2⟩ hx
  have oqN:=hC.old oq1
  have nq0:na m 1≠na m2 1:=oo2.ne 1
  have nqf:na m 0≠na m2 1:=of2.ne 1
  have gfN:N.get (na m 0)=some (.cells true [.fn fn cap]):=(hC.get (hG.old of2) (by simp only[IS,IR,or_false,not_or];exact ⟨nqf,nfo⟩)).trans ((hG.get of2 (by simp)).trans gf2)
  have ofN:=hC.old (hG.old of2)
  obtain ⟨y,hy,rfl⟩:=GR hx
  suffices hh:∃r M',lq Tryz.prog S0 (na m2 1) [ii (k:Nat),.agg [ii (4096+8*(y.a:Int)),iu y.v,.bool false]] N r M'/\∃q,r= .bool q/\Chg [na m2 1,na m 1] N M'/\(if q=true then M'.get (na m2 1)=some (.loop 0 .none t [D4.e.b.c,D4.e.b.f] ge gc)/\M'.get (na m 1)=some (.cells true [.bool false]) else M'.get (na m2 1)=some (.loop 2 .ret t [D4.e.b.c,D4.e.b.f] ge gc)/\M'.get (na m 1)=some (.cells true [.bool true])) by
   obtain ⟨r,M',q1,q,rfl,q2,q3⟩:=hh
   refine ⟨q,M',q1,hC.trans q2 fun i hi ho=>hi, ?_⟩
   cases q with
   |true=>exact ⟨q3.1,q3.2,q2.old e2⟩
   |false=>exact ⟨_,q3.1,rfl,q3.2,q2.old e2⟩
  refine WY.ex fun K' hK'=> ?_
  refine WY.of_wp hq rfl ge.eq_1 gc.eq_1 ?_
  change wp _ _ _ _ ⟨aw [(D4.e.b.f,.agg [ii (4096+8*(y.a:Int)),iu y.v,.bool false]),(D4.e.b.c,ii (k:Nat))] t, [],none,hp [] 0 N⟩ _
  generalize hN1:hp [(.o (na m2 1),.loop 1 .none t [D4.e.b.c,D4.e.b.f] ge gc),(.n 0,.cells true [ii (4096+8*(y.a:Int)),iu y.v,.bool false]),(.n 0,.cells true [ii 0,iu 0,.bool false])] 1 N=N1
  have hCn:Chg [na m2 1] N N1:=aR hN1 rfl
  have gn1:N1.get (na N 0)=some (.cells true [ii (4096+8*(y.a:Int)),iu y.v,.bool false]):=ba hN1
  have gq1:N1.get (na m2 1)=some (.loop 1 .none t [D4.e.b.c,D4.e.b.f] ge gc):=by rw[←hN1];exact (bh oqN).trans aN
  have gf1':=(hCn.get ofN (by simpa using nqf)).trans gfN
  have go1':=(hCn.get e2 (by simpa using nq0)).trans e1
  have hm1N:Chg [] m N:=by
   refine ((hC12.trans hG (by simp)).weak (T:= [na m2 1,na m 1]) (by simp)).trans hC (fun i hi _=>hi) |>.weak fun i hi ho=> ?_
   simp only[IS,IR,or_false] at hi
   rcases hi with rfl|rfl
   ·exact IL (hC12.old ho) aD
   ·exact IL ho aD
  have hmN1:Chg [] m N1:=(hm1N.weak (T:= [na m2 1]) (by simp)).trans hCn (fun i hi _=>hi) |>.weak fun i hi ho=>by
   have:=one hi;subst this;exact IL (hC12.old ho) aD
  obtain ⟨r,N2,rr,hC2'⟩:=hcl N1 y (List.mem_of_getElem? hy) hmN1
  have gq2:=(hC2'.get (hCn.old oqN) (by simp)).trans gq1
  have go2':=(hC2'.get (hCn.old e2) (by simp)).trans go1'
  have oq2:=hC2'.old (hCn.old oqN)
  have oo2':=hC2'.old (hCn.old e2)
  have nq0':=nq0.symm
  have hCN2:Chg [na m2 1,na m 1] N N2:=(hCn.weak (T:= [na m2 1,na m 1]) (by simp)).trans hC2' (by simp)
  cases r with
  |true=>
   simp (config:={maxSteps:=1000000}) (disch:=first|assumption|omega|(apply ah;omega)|(apply ab;assumption)|(simp only[aJ]<;>omega)) only[go_sem,seval,t1,t3,hq,hN1,gf1',gn1,rr.wf,go2',gq2]
   generalize hN3:hp _ 0 N2=N3
   have hC3:Chg [na m2 1,na m 1] N2 N3:=aR hN3 rfl
   refine hK' _ _ ⟨false,rfl,hCN2.trans hC3 fun i hi _=>hi, ?_, ?_⟩
   ·rw[←hN3];exact (bh oq2).trans aN
   ·rw[←hN3];exact (bh oo2').trans ((di nq0).trans aN)
  |false=>
   simp (config:={maxSteps:=1000000}) (disch:=first|assumption|omega|(apply ah;omega)|(apply ab;assumption)|(simp only[aJ]<;>omega)) only[go_sem,seval,t1,t3,hq,hN1,gf1',gn1,rr.wf,go2',gq2]
   generalize hN3:hp _ 0 N2=N3
   have hC3:Chg [na m2 1] N2 N3:=aR hN3 rfl
   refine hK' _ _ ⟨true,rfl,hCN2.trans hC3 (by simp), ?_, ?_⟩
   ·rw[←hN3];exact (bh oq2).trans aN
   ·exact (hC3.get oo2' (by simpa using nq0)).trans go2'
 ·rintro M1 N p hG oM0 oM1 hJ m1' m2' m3' hC
  have n01:na m2 0≠na m2 1:=fun e=>by have:=dM e;omega
  have n10:=n01.symm
  have n02:na m 1≠na m2 1:=oo2.ne 1
  have n03:na m 1≠na m2 0:=oo2.ne 0
  have n30:=n03.symm
  have n20:=n02.symm
  have fin:∀{S:List D4} {Me:NH},Chg S N Me->(∀i∈S,i∈ [na m2 1,na m2 0,na m 1])->Chg [] m Me:=by
   intro S Me hCe hS
   refine ((hC12.weak (T:= [na m2 1,na m2 0,na m 1]) (by simp)).trans hC (by simp)).trans hCe (fun i hi _=>hS i hi) |>.weak fun i hi ho=> ?_
   simp only[IS,IR,or_false] at hi
   rcases hi with rfl|rfl|rfl
   ·exact IL (hC12.old ho) aD
   ·exact IL (hC12.old ho) aD
   ·exact IL ho aD
  rcases hJ with ⟨rfl,e1,e2⟩|⟨rfl,e1,e2⟩
  ·change dv _ _ (ic .none) ⟨aw [] t,_,_,_⟩
   simp (config:={maxSteps:=1000000}) (disch:=first|assumption|omega|(apply ah;omega)|(apply ab;assumption)|(simp only[aJ]<;>omega)) only[go_sem,seval,ic,t1,e1,m1']
   refine lr ?_
   rw[kK]
   simp (config:={maxSteps:=1000000}) (disch:=first|assumption|omega|(apply ah;omega)|(apply ab;assumption)|(simp only[aJ]<;>omega)) only[go_sem,seval,ic,t1,e1,m1']
   generalize hMe:hp _ 0 N=Me
   have hCe:Chg [na m2 0,na m 1,na m2 1] N Me:=aR hMe rfl
   exact hK _ _ ⟨⟨_,rfl⟩,fin hCe (by simp)⟩
  ·change dv _ _ (ic .ret) ⟨aw [] t,_,_,_⟩
   simp (config:={maxSteps:=1000000}) (disch:=first|assumption|omega|(apply ah;omega)|(apply ab;assumption)|(simp only[aJ]<;>omega)) only[go_sem,seval,ic,t1,e1,m1']
   refine lr ?_
   rw[kK]
   simp (config:={maxSteps:=1000000}) (disch:=first|assumption|omega|(apply ah;omega)|(apply ab;assumption)|(simp only[aJ]<;>omega)) only[go_sem,seval,ic,t1,e1,m1']
   generalize hMe:hp _ 0 N=Me
   have hCe:Chg [na m2 0,na m2 1] N Me:=aR hMe rfl
   exact hK _ _ ⟨⟨_,rfl⟩,fin hCe (by simp)⟩
end
theorem pi {a b:Int} (h0:0<=a) (h1:a<9223372036854775808) (hb:0<b):cz .num .quo (ii a) (ii b)=some (ii (a / b)):=by
 obtain ⟨n,rfl⟩:=IU h0
 obtain ⟨k,rfl⟩:=IU (show 0<=b by omega)
 obtain ⟨k,rfl⟩:∃i,k=i+1:=⟨k - 1,by omega⟩
 refine (gU rfl).trans ?_
 rw[←Int.natCast_ediv]
 have hd:n / (k+1)<=n:=Nat.div_le_self _ _
 show bD .i64 (bp .i64 (.ofNat (n / (k+1))))=_
 generalize n / (k+1)=z at hd ⊢
 rw[Nm.wrap_small (by show -9223372036854775808<=(z:Int);omega) (by show (z:Int)<9223372036854775808;omega),aH]
 rfl
theorem Ee {a b:Int} (h0:0<=a) (h1:a<9223372036854775808) (hb:0<b):cz .num .rem (ii a) (ii b)=some (ii (a % b)):=by
 obtain ⟨n,rfl⟩:=IU h0
 obtain ⟨k,rfl⟩:=IU (show 0<=b by omega)
 obtain ⟨k,rfl⟩:∃i,k=i+1:=⟨k - 1,by omega⟩
 refine (gU rfl).trans ?_
 show bD .i64 (.ofNat (Nat.mod n (k+1)))=_
 rw[aH];rfl
section
variable {f f':fg} {m m' M:NH} {mp:D4} {j:Nat} {b:Cb} {id:Int} {c:Co} {sb q:D4} {v:NV} {C:List (List NV)}
theorem tT {lb:D4} {line:Int} {wr:Bool} (g:m.get lb=some (.cells wr [ii line])) (y:Wr) (o:aP m lb) (hy:y.a<1000):∃v m',rT 56 [.agg [ii (4096+8*(y.a:Int)),iu y.v,.bool false],.ptr lb 0] m v m'/\(∃r,v= .bool r)/\Chg [] m m':=by
 have r1:∃m',rT 57 [ii (4096+8*(y.a:Int))] (hp [(.n 0,.cells true [ii (4096+8*(y.a:Int)),iu y.v,.bool false])] 1 m) (ii ((8*(y.a:Int)) / 64)) m'/\m'=hp [(.n 0,.cells true [ii (4096+8*(y.a:Int)),iu y.v,.bool false])] 1 m:=by
  refine WF.ex1 fun K hK=> ?_
  refine WF.of_wpG (fun _=>rfl) sx (L:= [(.e,ii (4096+8*(y.a:Int)))]) rfl ?_
  unfold BK
  have e1:(4096+8*(y.a:Int)) - 4096=8*(y.a:Int):=by omega
  have hq:=pi (a:=8*(y.a:Int)) (b:=64) (by omega) (by omega) (by omega)
  rw[am]
  simp (config:={maxSteps:=1000000}) (disch:=first|assumption|omega|(apply ah;omega)|(apply ab;assumption)|(simp only[aJ]<;>omega)) only[go_sem,seval,e1,hq]
  exact hK _ rfl
 obtain ⟨m1,r1,rfl⟩:=r1
 refine WF.ex fun K hK=> ?_
 refine WF.of_wpG (fun _=>rfl) sg (L:= [(.a .e,.ptr lb 0),(.e,.agg [ii (4096+8*(y.a:Int)),iu y.v,.bool false])]) rfl ?_
 unfold Dy
 simp (config:={maxSteps:=1000000}) (disch:=first|assumption|omega|(apply ah;omega)|(apply ab;assumption)|(simp only[aJ]<;>omega)) only[go_sem,seval,g,r1.wf']
 exact hK _ _ ⟨⟨_,rfl⟩,dC rfl⟩
theorem CoC.put (h:CoC j f m mp b id c) {pc:Nat} {st:Int} {X:List Int} (hX:X.length=33) {k:Nat} (hM:hp [(.o b.r,.cells true (bS mp id pc st X b.w b.q))] k m=M):CoC j f M mp b id ⟨pc,st,X,c.w⟩/\Kp (Tc j) f m f M:=by
 have hC:Chg [b.r] m M:=aR hM rfl
 have hk:Kp (fun a=>a=10+3*j) f m f M:=Kp.same hC fun i hi _=>by rw[one hi];exact h.g.c
 refine ⟨⟨⟨?_,hC.old h.g.o,h.g.c⟩,h.q.kp hk (by omega),h.w.kp hk (by omega),hX,h.wa,h.wl,h.kc⟩,hk.weak fun a ha=>Or.inl ha⟩
 rw[←hM];exact (bh h.g.o).trans aN
theorem CoC.kpN (h:CoC j f m mp b id c) (hC:Chg [] m m'):CoC j f m' mp b id c:=h.kp (Kp.grow (T:=fun _=>False) hC) (by simp)
theorem rM (h:CoC j f m mp b id c):∃m',rT 27 [.ptr b.r 0] m (ii c.st) m'/\m'=m:=by
 refine WF.ex1 fun K hK=> ?_
 refine WF.of_wpG (fun _=>rfl) qZ (L:= [(.e,.ptr b.r 0)]) rfl ?_
 unfold D3
 have g:=h.g.g
 rw[am]
 simp (config:={maxSteps:=1000000}) (disch:=first|assumption|omega|(apply ah;omega)|(apply ab;assumption)|(simp only[aJ]<;>omega)) only[go_sem,seval,g,Gy]
 exact hK _ rfl
def HM (m m':NH) (v:NV) (l:List Ev):Prop:=Sl m' v 4 (nI l)/\Chg [] m m'/\∀i∈ids v,¬aP m i
theorem iK (h:CoC j f m mp b id c) (k a v:Int):∃w m',rT 48 [.ptr b.r 0,ii k,ii a,iu v] m w m'/\HM m m' w [⟨k,id,a,v⟩]:=by
 refine WF.ex fun K hK=> ?_
 refine WF.of_wpG (fun _=>rfl) rA (L:= [(.c .e,iu v),(.b .e,ii a),(.a .e,ii k),(.e,.ptr b.r 0)]) rfl ?_
 unfold DX
 have g:=h.g.g
 simp (config:={maxSteps:=1000000}) (disch:=first|assumption|omega|(apply ah;omega)|(apply ab;assumption)|(simp only[aJ]<;>omega)) only[go_sem,seval,g,IK]
 refine hK _ _ ⟨⟨by simp,Or.inr ⟨na m 0,0,1,true,_,rfl,jh,ah (by omega),by simp,by simp⟩⟩,dC rfl,fun i hi=> ?_⟩
 rw[one hi];exact aD
theorem qC (h:CoC j f m mp b id c) (hpc:c.pc<100000) (v:NV) (hv:cellsOf v=some [v]):∃m',rT 68 [.ptr b.r 0,v] m (.tup [v,.bool true]) m'/\CoC j f m' mp b id ⟨c.pc+1,c.st,c.X,c.w⟩/\Kp (Tc j) f m f m':=by
 refine WF.ex1 fun K hK=> ?_
 refine WF.of_wpG (fun _=>rfl) s7 (L:= [(.a .e,v),(.e,.ptr b.r 0)]) rfl ?_
 unfold DP
 have g:=h.g.g
 have o:=h.g.o
 have hx:=h.x
 have hl:(bS mp id c.pc c.st c.X b.w b.q).length=554:=gX hx
 simp (config:={maxSteps:=1000000}) (disch:=first|assumption|omega|(apply ah;omega)|(apply ab;assumption)|(simp only[aJ]<;>omega)) only[go_sem,seval,g,EH,hl,z9]
 generalize hM:hp _ 0 m=M
 exact hK _ (h.put (pc:=c.pc+1) hx (by push_cast;exact hM))
theorem zI (h:CoC j f m mp b id c):∃v m',rT 41 [.ptr b.r 0] m v m'/\∃w,v= .tup [w,.bool true]/\Sl m' w 4 (nI [⟨11,id,0,0⟩])/\(∀i∈ids w,¬aP m i)/\CoC j f m' mp b id ⟨c.pc,2,c.X,c.w⟩/\Kp (Tc j) f m f m':=by
 refine WF.ex fun K hK=> ?_
 refine WF.of_wpG (fun _=>rfl) su (L:= [(.e,.ptr b.r 0)]) rfl ?_
 unfold CG
 have g:=h.g.g
 have o:=h.g.o
 have hx:=h.x
 have hl:(bS mp id c.pc c.st c.X b.w b.q).length=554:=gX hx
 generalize hM:hp [(.o b.r,.cells true (bS mp id c.pc 2 c.X b.w b.q))] 0 m=M
 obtain ⟨h1,k1⟩:=h.put (pc:=c.pc) (st:=2) hx hM
 obtain ⟨w,m',r2,e1,e2,e3⟩:=iK h1 11 0 0
 simp (config:={maxSteps:=1000000}) (disch:=first|assumption|omega|(apply ah;omega)|(apply ab;assumption)|(simp only[aJ]<;>omega)) only[go_sem,seval,g,EH,hl,z6,hM,r2.wf]
 rw[am]
 exact hK _ _ ⟨w,rfl,e1,fun i hi ho=>e3 i hi (k1.old ho),h1.kpN e2,k1.trans (Kp.grow e2)⟩
theorem uY (h:CoC j f m mp b id c) (line:Int):∃m',rT 38 [.ptr b.r 0,ii line] m (.tup []) m'/\CoC j f m' mp b id c/\Kp (Tc j) f m f m':=by
 refine WF.ex1 fun K hK=> ?_
 refine WF.of_wpG (fun _=>rfl) se (L:= [(.a .e,ii line),(.e,.ptr b.r 0)]) rfl ?_
 unfold Do
 generalize hM:hp [(.n 0,.cells true [ii line])] 1 m=M
 have hC:Chg [] m M:=aR hM rfl
 have gl:M.get (na m 0)=some (.cells true [ii line]):=ba hM
 have ol:aP M (na m 0):=bj hM (by omega)
 have h1:=h.kpN hC
 obtain ⟨v,M2,r2,⟨r,rfl⟩,hC2⟩:=Cq h1 (fn:=56) (cap:= [.ptr (na m 0) 0]) (fun N y hy hN=>by
  obtain ⟨v,M',a1,⟨r,rfl⟩,a3⟩:=tT (m:=N) ((hN.get ol (by simp)).trans gl) y (hN.old ol) (by have:=h.wa y hy;omega)
  exact ⟨r,M',a1,a3⟩)
 have h2:=h1.kpN hC2
 have g:=h2.g.g
 have gq:=h2.q.g
 have oq:=h2.q.o
 have gl2:=(hC2.get ol (by simp)).trans gl
 have ol2:=hC2.old ol
 have hx:=h.x
 have k2:Kp (Tc j) f m f M2:=Kp.grow (hC.trans hC2 (by simp))
 cases r with
 |true=>
  simp (config:={maxSteps:=1000000}) (disch:=first|assumption|omega|(apply ah;omega)|(apply ab;assumption)|(simp only[aJ]<;>omega)) only[go_sem,seval,hM,r2.wf]
  rw[am]
  exact hK _ ⟨h2,k2⟩
 |false=>
  simp (config:={maxSteps:=1000000}) (disch:=first|assumption|omega|(apply ah;omega)|(apply ab;assumption)|(simp only[aJ]<;>omega)) only[go_sem,seval,hM,r2.wf,g,F6,gl2,FO,FQ,gq,zd]
  generalize hM3:hp _ 0 M2=M3
  have hC3:Chg [b.q] M2 M3:=aR hM3 rfl
  have k3:Kp (fun a=>a=11+3*j) f M2 f M3:=Kp.same hC3 fun i hi _=>by rw[one hi];exact h2.q.c
  refine hK _ ⟨⟨h2.g.kp k3 (by omega),⟨?_,hC3.old oq,h2.q.c⟩,h2.w.kp k3 (by omega),h2.x,h2.wa,h2.wl,h2.kc⟩,k2.trans (k3.weak fun a ha=>Or.inr (Or.inl ha))⟩
  rw[←hM3];exact (bh oq).trans aN
theorem sB (h:CoC j f m mp b id c):∃m',rT 31 [.ptr b.r 0] m (.bool (cW c)) m'/\Chg [] m m':=by
 refine WF.ex1 fun K hK=> ?_
 refine WF.of_wpG (fun _=>rfl) sm (L:= [(.e,.ptr b.r 0)]) rfl ?_
 unfold DT
 obtain ⟨m1,r1,rfl⟩:=rM h
 obtain ⟨v,m2,r2,e1,e2⟩:=mC h
 have hlen:=e1.sl.len
 rw[List.length_map] at hlen
 rw[am]
 by_cases h1:c.st=1
 ·have e:cW c=decide ((c.w.length:Int)=0):=by unfold cW;rw[h1];simp
  simp (config:={maxSteps:=1000000}) (disch:=first|assumption|omega|(apply ah;omega)|(apply ab;assumption)|(simp only[aJ]<;>omega)) only[go_sem,seval,r1.wf',h1,r2.wf',hlen]
  rw[←e];exact hK _ e2
 ·have e:cW c=false:=by unfold cW;rw[IP h1];rfl
  simp (config:={maxSteps:=1000000}) (disch:=first|assumption|omega|(apply ah;omega)|(apply ab;assumption)|(simp only[aJ]<;>omega)) only[go_sem,seval,r1.wf',h1]
  rw[e] at hK;exact hK _ (Chg.refl _)
end
def be:In->List NV
 | .movz d n=> [ii 0,ii (d:Nat),ii 0,ii 0,ii 0,ii 0,ii (n:Nat)]
 | .ldr d a=> [ii 12,ii (d:Nat),ii (a:Nat),ii 0,ii 0,ii 0,ii 0]
 | .str d a=> [ii 13,ii (d:Nat),ii (a:Nat),ii 0,ii 0,ii 0,ii 0]
 | .dmb=> [ii 18,ii 0,ii 0,ii 0,ii 0,ii 0,ii 0]
 | .hlt=> [ii 22,ii 0,ii 0,ii 0,ii 0,ii 0,ii 0]
 | .svc=> [ii 23,ii 0,ii 0,ii 0,ii 0,ii 0,ii 0]
theorem dd (d n:Nat):be (.movz d n)= [ii 0,ii (d:Nat),ii 0,ii 0,ii 0,ii 0,ii (n:Nat)]:=rfl
theorem io (i:In):(be i).length=7:=by cases i<;>rfl
theorem CP {a:Int} (h0:0<=a) (h1:a<18446744073709551616):cz .num .shl (iu a) (ii 0)=some (iu a):=by
 obtain ⟨n,rfl⟩:=IU h0
 show zn .u64 (n:Int) (Int.ofNat 0)=_
 show bD .u64 (bp .u64 (mR (n:Int) 1))=_
 rw[eQ,Int.mul_one]
 show bD .u64 (bp .u64 (.ofNat n))=_
 rw[wrap_u64,aH,show Int.ofNat n % 18446744073709551616=n from Int.emod_eq_of_lt h0 h1]
section
variable {f f':fg} {m m' M:NH} {mp:D4} {j:Nat} {b:Cb} {id:Int} {c:Co} {sb q:D4} {v:NV} {X:List Int}
theorem iU (h:X.length=33):(X.map iu).length=33:=by rw[List.length_map,h]
theorem jJ (h:X.length=33):(X.map iu).take 33=X.map iu:=List.take_of_length_le (by rw[List.length_map,h];omega)
theorem Hj {n:Nat} (h:X.length=33) (hn:n<33):(X.map iu)[n]? =some (iu (eL X n)):=by
 unfold eL
 rw[List.getElem?_map,List.getElem?_eq_getElem (by omega)];rfl
theorem kx (h:X.length=33) {n:Nat} (hn:n<31):∃m',rT 65 [.agg (X.map iu),ii (n:Nat)] m (iu (eL X n)) m'/\Chg [] m m':=by
 refine WF.ex1 fun K hK=> ?_
 refine WF.of_wpG (fun _=>rfl) rv (L:= [(.a .e,ii (n:Nat)),(.e,.agg (X.map iu))]) rfl ?_
 unfold CO
 have e:=Hj h (show n<33 by omega)
 have hix:wR 1 31 (.ptr (na m 0) 0) (ii (n:Nat))= .val (.ptr (na m 0) n):=by rw[z5 (by omega) (by omega)];simp
 simp (config:={maxSteps:=1000000}) (disch:=first|assumption|omega|(apply ah;omega)|(apply ab;assumption)|(simp only[aJ]<;>omega)) only[go_sem,seval,AB,hix,e]
 exact hK _ (dC rfl)
theorem pB (h:X.length=33) {n:Nat} (hn:n<31) (z:Int):∃m',rT 58 [.agg (X.map iu),ii (n:Nat),iu z] m (.agg ((X.set n z).map iu)) m'/\Chg [] m m':=by
 refine WF.ex1 fun K hK=> ?_
 refine WF.of_wpG (fun _=>rfl) rz (L:= [(.b .e,iu z),(.a .e,ii (n:Nat)),(.e,.agg (X.map iu))]) rfl ?_
 unfold BG
 have hix:wR 1 31 (.ptr (na m 0) 0) (ii (n:Nat))= .val (.ptr (na m 0) n):=by rw[z5 (by omega) (by omega)];simp
 have h1:n<(X.map iu).length:=by rw[iU h];omega
 have h2:((X.map iu).set n (iu z)).length=33:=by rw[List.length_set,iU h]
 have h3:((X.map iu).set n (iu z)).take 33=(X.map iu).set n (iu z):=List.take_of_length_le (by omega)
 have h4:(X.set n z).map iu=(X.map iu).set n (iu z):=by rw[List.map_set]
 rw[h4] at hK
 simp (config:={maxSteps:=1000000}) (disch:=first|assumption|omega|(apply ah;omega)|(apply ab;assumption)|(simp only[aJ]<;>omega)) only[go_sem,seval,AB,hix,h1,h2,h3]
 exact hK _ (dC rfl)
def yA (i:In):Prop:=match i with
 | .movz d n=>d<31/\n<65536
 | .ldr d a=>d<31/\a<31
 | .str d a=>d<31/\a<31
 |_=>True
theorem xT (h:X.length=33) {n:Nat}:∃m',rT 64 [.agg (X.map iu),.agg (be (.movz d n))] m (.bool false) m'/\Chg [] m m':=by
 refine WF.ex1 fun K hK=> ?_
 refine WF.of_wpG (fun _=>rfl) rb (L:= [(.a .e,.agg (be (.movz d n))),(.e,.agg (X.map iu))]) rfl ?_
 unfold Df
 simp (config:={maxSteps:=1000000}) (disch:=first|assumption|omega|(apply ah;omega)|(apply ab;assumption)|(simp only[aJ]<;>omega)) only[go_sem,seval,dd]
 exact hK _ (dC rfl)
theorem uv (h:X.length=33) {n:Nat} (hn:n<65536):∃m',rT 66 [.agg (X.map iu),.agg (be (.movz d n))] m (iu (n:Nat)) m'/\Chg [] m m':=by
 refine WF.ex1 fun K hK=> ?_
 refine WF.of_wpG (fun _=>rfl) rL (L:= [(.a .e,.agg (be (.movz d n))),(.e,.agg (X.map iu))]) rfl ?_
 unfold DB
 generalize hM:hp [(.n 1,.cells true (be (.movz d n))),(.n 0,.cells true (X.map iu))] 2 m=M
 have hM':=hM
 rw[dd] at hM'
 have hC:Chg [] m M:=aR hM rfl
 have g0:M.get (na m 0)=some (.cells true (X.map iu)):=ba hM
 have g1:M.get (na m 1)=some (.cells true (be (.movz d n))):=ba hM
 have o0:aP M (na m 0):=bj hM (by omega)
 have o1:aP M (na m 1):=bj hM (by omega)
 obtain ⟨m1,r1,hC1⟩:=kx (m:=M) h (n:=0) (by omega)
 obtain ⟨m2,r2,hC2⟩:=kx (m:=m1) h (n:=0) (by omega)
 have hl:=iU h
 have ht:=jJ h
 have f0:=(hC1.get o0 (by simp)).trans g0
 have f1:=(hC1.get o1 (by simp)).trans g1
 have e0:=(hC2.get (hC1.old o0) (by simp)).trans f0
 have e1:=(hC2.get (hC1.old o1) (by simp)).trans f1
 have hsh:=CP (a:=(n:Int)) (by omega) (by omega)
 rw[dd] at g1 f1 e1
 rw[show ((0:Nat):Int)=0 from rfl] at r1 r2
 have hs:bo 4 (.agg (X.map iu)) (.agg (X.map iu))=true:=dU fun v hv=>by obtain ⟨z,-,rfl⟩:=List.mem_map.1 hv;trivial
 have hmul:cz .num .mul (ii 16) (ii 0)=some (ii 0):=vO (by omega) (by omega)
 have hmod:(n:Int) % 18446744073709551616=n:=by omega
 simp (config:={maxSteps:=1000000}) (disch:=first|assumption|omega|(apply ah;omega)|(apply ab;assumption)|(simp only[aJ]<;>omega)) only[go_sem,seval,hs,hmul,hmod,dd,hM',g0,g1,f0,f1,e0,e1,hl,ht,r1.wf',r2.wf',hsh]
 exact hK _ ((hC.trans hC1 (by simp)).trans hC2 (by simp))
structure Kept (w:Int) (i:In):Prop where
 d:S0 42 [iw w]=some (.tup [.agg (be i),ii 0])
 r:S0 63 [.agg (be i)]=some (.bool true)
theorem yH (h:X.length=33) {n:Nat} (hd:d<31) (hn:n<65536) (hr:S0 63 [.agg (be (.movz d n))]=some (.bool true)):
 ∃m',rT 43 [.agg (X.map iu),.agg (be (.movz d n))] m (.tup [.agg ((X.set d n).map iu),ii 1,.bool true]) m'/\Chg [] m m':=by
 refine WF.ex1 fun K hK=> ?_
 refine WF.of_wpG (fun _=>rfl) mK (L:= [(.a .e,.agg (be (.movz d n))),(.e,.agg (X.map iu))]) rfl ?_
 unfold zy
 generalize hM:hp [(.n 2,.cells true (List.replicate 33 (iu 0))),(.n 1,.cells true (be (.movz d n))),(.n 0,.cells true (X.map iu))] 3 m=M
 have hM':=hM
 rw[dd] at hM'
 simp only[List.replicate_succ,List.replicate_zero] at hM'
 have hC:Chg [] m M:=aR hM rfl
 have g0:M.get (na m 0)=some (.cells true (X.map iu)):=ba hM
 have g1:M.get (na m 1)=some (.cells true (be (.movz d n))):=ba hM
 have g2:M.get (na m 2)=some (.cells true (List.replicate 33 (iu 0))):=ba hM
 have o0:aP M (na m 0):=bj hM (by omega)
 have o1:aP M (na m 1):=bj hM (by omega)
 have o2:aP M (na m 2):=bj hM (by omega)
 have r0:∀m,rT 63 [.agg (be (.movz d n))] m (.bool true) m:=fun m=>nG.kept hr m
 obtain ⟨m1,r1,hC1⟩:=xT (m:=M) h (d:=d) (n:=n)
 obtain ⟨m2,r2,hC2⟩:=uv (m:=m1) h (d:=d) hn
 obtain ⟨m3,r3,hC3⟩:=pB (m:=m2) h (n:=d) hd (n:Int)
 have hl:=iU h
 have ht:=jJ h
 have q0:=(hC1.get o0 (by simp)).trans g0
 have q1:=(hC1.get o1 (by simp)).trans g1
 have e0:=(hC2.get (hC1.old o0) (by simp)).trans q0
 have e1:=(hC2.get (hC1.old o1) (by simp)).trans q1
 have hC13:=(hC1.trans hC2 (by simp)).trans hC3 (by simp)
 have f0:=(hC13.get o0 (by simp)).trans g0
 have f1:=(hC13.get o1 (by simp)).trans g1
 have f2:=(hC13.get o2 (by simp)).trans g2
 have p2:=hC13.old o2
 rw[dd] at g1 q1 e1 f1 r0 r1 r2
 have hs:bo 4 (.agg (X.map iu)) (.agg (X.map iu))=true:=dU fun v hv=>by obtain ⟨z,-,rfl⟩:=List.mem_map.1 hv;trivial
 have hl2:((X.set d (n:Int)).map iu).length=33:=by simp[h]
 have ht2:((X.set d (n:Int)).map iu).take 33=(X.set d (n:Int)).map iu:=List.take_of_length_le (by omega)
 have hrep:(List.replicate 33 (iu 0)).length=33:=List.length_replicate
 have hrd:(List.replicate 33 (iu 0)).drop 33= []:=by rw[List.drop_eq_nil_of_le (by rw[List.length_replicate];omega)]
 simp (config:={maxSteps:=1000000}) (disch:=first|assumption|omega|(apply ah;omega)|(apply ab;assumption)|(simp only[aJ]<;>omega)) only[go_sem,seval,hs,dd,hM',g0,g1,q0,q1,e0,e1,f0,f1,f2,hl,ht,(r0 _).wf',r1.wf',r2.wf',r3.wf,hl2,ht2,hrep,hrd]
 generalize hMe:hp _ 0 m3=Me
 have hCe:Chg [na m 2] m3 Me:=aR hMe rfl
 exact hK _ (((hC.weak (T:= [na m 2]) (by simp)).trans hC13 (by simp)).trans hCe (fun i hi _=>hi) |>.weak fun i hi ho=>by rw[one hi] at ho;exact IL ho aD)
theorem zp (h:X.length=33) {i:In} (hi:∀d n,i≠.movz d n) (hr:S0 63 [.agg (be i)]=some (.bool true)):
 ∃m',rT 43 [.agg (X.map iu),.agg (be i)] m (.tup [.agg (X.map iu),ii 0,.bool false]) m'/\Chg [] m m':=by
 obtain ⟨k,a1,a2,a3,a4,a5,a6,e,hk,hk'⟩:∃k a1 a2 a3 a4 a5 a6:Int,be i= [ii k,ii a1,ii a2,ii a3,ii a4,ii a5,ii a6]/\11<k/\k≠21:=by
  cases i with
  |movz d n=>exact IL rfl (hi d n)
  |_=>exact ⟨_,_,_,_,_,_,_,rfl,by omega,by omega⟩
 rw[e] at hr ⊢
 have r0:∀m,rT 63 [.agg [ii k,ii a1,ii a2,ii a3,ii a4,ii a5,ii a6]] m (.bool true) m:=fun m=>nG.kept hr m
 refine WF.ex1 fun K hK=> ?_
 refine WF.of_wpG (fun _=>rfl) mK (L:= [(.a .e,.agg [ii k,ii a1,ii a2,ii a3,ii a4,ii a5,ii a6]),(.e,.agg (X.map iu))]) rfl ?_
 unfold zy
 have hl:=iU h
 have ht:=jJ h
 generalize hM:hp [(.n 2,.cells true (List.replicate 33 (iu 0))),(.n 1,.cells true [ii k,ii a1,ii a2,ii a3,ii a4,ii a5,ii a6]),(.n 0,.cells true (X.map iu))] 3 m=M
 have hM':=hM
 simp only[List.replicate_succ,List.replicate_zero] at hM'
 have hC:Chg [] m M:=aR hM rfl
 have g0:M.get (na m 0)=some (.cells true (X.map iu)):=ba hM
 have g1:M.get (na m 1)=some (.cells true [ii k,ii a1,ii a2,ii a3,ii a4,ii a5,ii a6]):=ba hM
 have g2:M.get (na m 2)=some (.cells true (List.replicate 33 (iu 0))):=ba hM
 have o2:aP M (na m 2):=bj hM (by omega)
 have hrep:(List.replicate 33 (iu 0)).length=33:=List.length_replicate
 have hrd:(List.replicate 33 (iu 0)).drop 33= []:=by rw[List.drop_eq_nil_of_le (by rw[List.length_replicate];omega)]
 simp (config:={maxSteps:=1000000}) (disch:=first|assumption|omega|(apply ah;omega)|(apply ab;assumption)|(simp only[aJ]<;>omega)) only[go_sem,seval,hM',g0,g1,g2,hl,ht,(r0 _).wf,hrep,hrd]
 generalize hMe:hp _ 0 M=Me
 have hCe:Chg [na m 2] M Me:=aR hMe rfl
 exact hK _ ((hC.weak (T:= [na m 2]) (by simp)).trans hCe (fun i hi _=>hi) |>.weak fun i hi ho=>by rw[one hi] at ho;exact IL ho aD)
end
noncomputable def zV (n:Nat) (m:NH) (d s:NV):NR:=eo n m s fun k l=>match d with
 | .nils=> .val (ii 0)
 | .slc id off len e _=>cond (Nat.beq e n) ((fun k=>Nat.rec (motive:=fun _=>NR) (.val (ii 0)) (fun _ _=>aC (dY (Nat.mul k n) l) fun l=>storeAt m id off l fun h=> .mem (ii (k:Nat)) h) k) (Bool.rec len k (Nat.ble k len))) .fail
 |_=> .fail
theorem qp {n:Nat} {x y:NOpd}:ae (.copy n x y) t m=oN (ρ t x) fun d=>oN (ρ t y) fun s=>zV n m d s:=by
 show wV t x _=_
 rw[bv]
 congr 1
 funext d
 rw[bv]
 congr 1
theorem mf  {id:D4} {cs:List NV} {K:NH->NR} (hg:m.get id=some (.cells true c)) (hl:off+cs.length<=c.length):storeAt m id off cs K=K (m.put id (.cells true (c.take off++cs++c.drop (off+cs.length)))):=by
 unfold storeAt cE
 rw[hg]
 show aC (b8 cs off c) (fun c=>m.set id (.cells true c) K)=_
 rw[cT,IN hl]
 exact NH.set_eq m id _ K
theorem qA  {F W:List NV} {a n:Nat} (hle:off+n<=c.length) (hf:(c.drop off).take n=F) (ha:a+W.length<=n):
 (c.take (off+a)++W++c.drop (off+a+W.length)).length=c.length/\((c.take (off+a)++W++c.drop (off+a+W.length)).drop off).take n=F.take a++W++F.drop (a+W.length):=by
 constructor
 ·simp only[List.length_append,List.length_take,List.length_drop];omega
 ·subst hf
  have e1:c.take (off+a)=c.take off++(c.drop off).take a:=by rw[List.take_add]
  have l1:(c.take off).length=off:=by rw[List.length_take];omega
  have e2:(c.take (off+a)++W++c.drop (off+a+W.length)).drop off=(c.drop off).take a++W++c.drop (off+a+W.length):=by
   rw[e1,List.append_assoc,List.append_assoc]
   have:=List.drop_left (l₁:=c.take off) (l₂:=(c.drop off).take a++(W++c.drop (off+a+W.length)))
   rw[l1] at this
   rw[this,List.append_assoc]
  have hX:((c.drop off).take a++W).length=a+W.length:=by simp only[List.length_append,List.length_take,List.length_drop];omega
  rw[e2,List.take_append,hX,List.take_of_length_le (by omega),List.take_take,Nat.min_eq_left (by omega),List.drop_take,List.drop_drop]
  rw[show off+(a+W.length)=off+a+W.length by omega]
theorem bC.copy  {B:NH} {id:D4} {n kc kc' a k:Nat} {x:NV} {D:List (List NV)} (h:bC B m (.slc id off n 1 kc) 1 C) (hx:Sl m x 1 D) (hk:0<k) (hak:a+k<=n) (hkD:k<=D.length):
 ∃m',zV 1 m (.slc id (off+a*1) k 1 kc') x= .mem (ii (k:Nat)) m'/\bC B m' (.slc id off n 1 kc) 1 (C.take a++D.take k++C.drop (a+k))/\Chg [id] m m':=by
 obtain ⟨h0,⟨q,-⟩|⟨id',off',kc2,c,e,hb,h1,h2,h3,h3',h4⟩⟩:=h
 ·cases q
 injection e with e1 e2 e3 e4 e5
 subst e1 e2 e3 e5
 have fD:=cU hx.1
 have fC:=cU h0
 rw[Nat.mul_one] at fD fC h3 h4
 have hW:(D.flatten.take k).length=k:=by rw[List.length_take,fD];omega
 obtain ⟨o1,o2⟩:=qA (a:=a) (W:=D.flatten.take k) h3 h4 (by rw[hW];exact hak)
 rw[hW] at o1 o2
 have e:zV 1 m (.slc id (off+a*1) k 1 kc') x= .mem (ii (k:Nat)) (m.put id (.cells true (c.take (off+a)++D.flatten.take k++c.drop (off+a+k)))):=by
  unfold zV
  rw[eF hx]
  show Nat.rec (motive:=fun _=>NR) (.val (ii 0)) (fun _ _=>aC (dY (Nat.mul (Bool.rec k D.length (Nat.ble D.length k)) 1) D.flatten) fun l=>storeAt m id (off+a*1) l fun h=> .mem (ii ((Bool.rec k D.length (Nat.ble D.length k):Nat):Nat)) h) (Bool.rec k D.length (Nat.ble D.length k):Nat)=_
  have hm:(Bool.rec k D.length (Nat.ble D.length k):Nat)=k:=by
   cases hb:Nat.ble D.length k with
   |false=>rfl
   |true=>have:=Nat.le_of_ble_eq_true hb;show D.length=k;omega
  rw[hm]
  obtain ⟨k,rfl⟩:∃i,k=i+1:=⟨k - 1,by omega⟩
  show aC (dY (Nat.mul (k+1) 1) D.flatten) _=_
  rw[show Nat.mul (k+1) 1=k+1 from Nat.mul_one _,eC,IN (by omega)]
  show storeAt m id (off+a*1) (D.flatten.take (k+1)) _=_
  rw[mf h1 (by rw[hW];omega),Nat.mul_one,hW]
 refine ⟨_,e,⟨?_,Or.inr ⟨id,off,kc,_, ?_,hb,NH.get_put_same m id _,h2, ?_, ?_, ?_⟩⟩,Chg.put m id _⟩
 ·intro y hy
  rcases List.mem_append.1 hy with hy|hy
  ·rcases List.mem_append.1 hy with hy|hy
   ·exact h0 y (List.mem_of_mem_take hy)
   ·exact hx.1 y (List.mem_of_mem_take hy)
  ·exact h0 y (List.mem_of_mem_drop hy)
 ·congr 1
  simp only[List.length_append,List.length_take,List.length_drop];omega
 ·simp only[List.length_append,List.length_take,List.length_drop,Nat.mul_one]
  simp only[List.length_append,List.length_take,List.length_drop] at o1
  omega
 ·rw[o1];exact h3'
 ·have el:(C.take a++D.take k++C.drop (a+k)).length=C.length:=by simp only[List.length_append,List.length_take,List.length_drop];omega
  have f1:∀(L:List (List NV)) (_:∀x∈L,x.length=1) (i:Nat),(L.take i).flatten=L.flatten.take i:=by
   intro L
   induction L with
   |nil=>intro _ i;simp
   |cons y L ih=>
    intro hL i
    have hy:=hL y (by simp)
    cases i with
    |zero=>simp
    |succ i=>
     match y,hy with
     | [z],_=>simp only[List.take_succ_cons,List.flatten_cons,List.singleton_append];rw[ih fun x hx=>hL x (List.mem_cons_of_mem _ hx)]
  have f2:∀(L:List (List NV)) (_:∀x∈L,x.length=1) (i:Nat),(L.drop i).flatten=L.flatten.drop i:=by
   intro L
   induction L with
   |nil=>intro _ i;simp
   |cons y L ih=>
    intro hL i
    have hy:=hL y (by simp)
    cases i with
    |zero=>simp
    |succ i=>
     match y,hy with
     | [z],_=>simp only[List.drop_succ_cons,List.flatten_cons,List.singleton_append];rw[ih fun x hx=>hL x (List.mem_cons_of_mem _ hx)]
  rw[el,Nat.mul_one,List.flatten_append,List.flatten_append,f1 _ h0,f1 _ hx.1,f2 _ h0]
  exact o2
section
variable {f f':fg} {m m' M:NH} {mb:Mb} {N:Nat} {now kept ver:List Int}
theorem MeC.kpN (h:MeC f m mb now kept ver N) (hC:Chg [] m m'):MeC f m' mb now kept ver N:=h.kp (Kp.grow (T:=fun _=>False) hC) (by simp)
def b9 (a:Nat):Int:=4096+8*(a:Int)
theorem ss (h:MeC f m mb now kept ver N) {a:Nat} (ha:a<now.length):∃m',rT 73 [.ptr mb.p 0,ii (b9 a)] m (.tup [ii (a:Nat),.bool true]) m'/\m'=m:=by
 refine WF.ex1 fun K hK=> ?_
 refine WF.of_wpG (fun _=>rfl) r9 (L:= [(.a .e,ii (b9 a)),(.e,.ptr mb.p 0)]) rfl ?_
 unfold Ep b9
 have hl:=h.l
 have g:=h.g.g
 have hlen:=h.n.o.sl.len
 rw[List.length_map] at hlen
 have e1:(4096+8*(a:Int)) - 4096=8*(a:Int):=by omega
 have hr:cz .num .rem (ii (8*(a:Int))) (ii 8)=some (ii 0):=by
  rw[Ee (by omega) (by omega) (by omega)];congr 3;omega
 have hq:cz .num .quo (ii (8*(a:Int))) (ii 8)=some (ii a):=by
  rw[pi (by omega) (by omega) (by omega)];congr 3;omega
 rw[am]
 simp (config:={maxSteps:=1000000}) (disch:=first|assumption|omega|(apply ah;omega)|(apply ab;assumption)|(simp only[aJ]<;>omega)) only[go_sem,seval,e1,hr,hq,g,hlen]
 exact hK _ rfl
theorem DI {l:List Int} (h:Sl m v 1 (pA l)) {i:Nat} (hi:i<l.length):∃id off w c,iy 1 v (ii (i:Nat))= .val (.ptr id off)/\m.get id=some (.cells w c)/\c[off]? =some (iu (eL l i)):=by
 obtain ⟨id,off,w,c,a1,a2,a3,a4,a5⟩:=h.at i (by simpa using hi)
 rw[List.getElem_map] at a5
 refine ⟨id,off,w,c,a1,a2, ?_⟩
 have:=fW a5 0 (by omega)
 rw[Nat.add_zero] at this
 rw[this];unfold eL;rw[List.getElem?_eq_getElem hi];rfl
theorem Cv (h:MeC f m mb now kept ver N) {a:Nat} (ha:a<now.length):∃m',rT 97 [.ptr mb.p 0,ii (b9 a)] m (.tup [iu (eL now a),.bool true]) m'/\m'=m:=by
 refine WF.ex1 fun K hK=> ?_
 refine WF.of_wpG (fun _=>rfl) rj (L:= [(.a .e,ii (b9 a)),(.e,.ptr mb.p 0)]) rfl ?_
 unfold Ei
 have g:=h.g.g
 obtain ⟨m1,r1,rfl⟩:=ss h ha
 obtain ⟨id,off,w,c,a1,a2,a3⟩:=DI h.n.o.sl ha
 rw[am]
 simp (config:={maxSteps:=1000000}) (disch:=first|assumption|omega|(apply ah;omega)|(apply ab;assumption)|(simp only[aJ]<;>omega)) only[go_sem,seval,r1.wf',g,a1,a2,a3]
 exact hK _ rfl
theorem sC {fv:Int->NV} {B:NH} {l:List Int} (h:bC B m v 1 (l.map fun z=> [fv z])) {n:Nat} (hn:n<l.length):∃id off c,iy 1 v (ii (n:Nat))= .val (.ptr id off)/\ids v= [id]/\m.get id=some (.cells true c)/\aP m id/\off+1<=c.length/\c[off]? =some (fv (eL l n))/\
 ∀(y:Int) (k:Nat) (M:NH),hp [(.o id,.cells true (c.set off (fv y)))] k m=M->bC B M v 1 ((l.set n y).map fun z=> [fv z])/\Chg [id] m M:=by
 obtain ⟨id,off,c,a1,a2,a3,a4,a5,a6,a7,a8⟩:=h.at n (by simpa using hn)
 rw[List.getElem_map] at a7 a8
 refine ⟨id,off,c,a1,a2,a4,a5,a6, ?_,fun y k M hM=> ?_⟩
 ·have:=fW a7 0 (by omega)
  rw[Nat.add_zero] at this
  rw[this];unfold eL;rw[List.getElem?_eq_getElem hn];rfl
 have hC:Chg [id] m M:=aR hM rfl
 have ho:=a8 [(0,fv y)] M (by simp) (by rw[←hM];exact (bh a5).trans aN) (hC.old a5)
 have ho:bC B M v 1 ((l.map fun z=> [fv z]).set n [fv y]):=ho
 rw[←List.map_set (f:=fun z=> [fv z])] at ho
 exact ⟨ho,hC⟩
theorem xq (h:MeC f m mb now kept ver N) (hN:N<=100000) {a:Nat} (ha:a<now.length) (z:Int):∃m',rT 47 [.ptr mb.p 0,ii (b9 a),iu z] m (.bool true) m'/\(∃ver',MeC f m' mb (now.set a z) kept ver' (N+1))/\Kp lw f m f m':=by
 refine WF.ex1 fun K hK=> ?_
 refine WF.of_wpG (fun _=>rfl) sv (L:= [(.b .e,iu z),(.a .e,ii (b9 a)),(.e,.ptr mb.p 0)]) rfl ?_
 unfold CZ
 have g:=h.g.g
 have hl:=h.l
 obtain ⟨m1,r1,rfl⟩:=ss h ha
 obtain ⟨id,off,c,a1,a2,a3,a4,a5,a6,a7⟩:=sC (fv:=iu) h.n.o ha
 have cid:f id=2:=h.n.c id (by rw[a2];simp)
 generalize hM1:hp [(.o id,.cells true (c.set off (iu z)))] 0 m1=M1
 obtain ⟨p1,p2⟩:=a7 z 0 M1 hM1
 have k1:Kp (fun a=>a=2) f m1 f M1:=Kp.same p2 fun i hi _=>by rw[one hi];exact cid
 have h1g:=h.g.kp k1 (by omega)
 have h1k:=h.k.kp k1 (by omega)
 have h1v:=h.v.kp k1 (by omega)
 have g1:=h1g.g
 obtain ⟨id2,off2,c2,b1,b2,b3,b4,b5,b6,b7⟩:=sC (fv:=fun z=>ii z) h1v.o (n:=a) (by omega)
 have cid2:f id2=4:=h1v.c id2 (by rw[b2];simp)
 have hv:=h.b (eL ver a) (by unfold eL;rw[List.getElem?_eq_getElem (by omega)];exact List.getElem_mem _)
 rw[am]
 simp (config:={maxSteps:=1000000}) (disch:=first|assumption|omega|(apply ah;omega)|(apply ab;assumption)|(simp only[aJ]<;>omega)) only[go_sem,seval,r1.wf,g,a1,a3,hM1,g1,b1,b3,b6]
 rw[←am M1]
 simp (config:={maxSteps:=1000000}) (disch:=first|assumption|omega|(apply ah;omega)|(apply ab;assumption)|(simp only[aJ]<;>omega)) only[go_sem,seval,b3,b1]
 generalize hM2:hp _ 0 M1=M2
 obtain ⟨q1,q2⟩:=b7 (eL ver a+1) 0 M2 hM2
 have k2:Kp (fun a=>a=4) f M1 f M2:=Kp.same q2 fun i hi _=>by rw[one hi];exact cid2
 refine hK _ ⟨⟨ver.set a (eL ver a+1),h1g.kp k2 (by omega),⟨?_,h.n.c⟩,h1k.kp k2 (by omega),⟨q1,h.v.c⟩,by simp only[List.length_set];exact hl,fun y hy=> ?_⟩,(k1.weak fun a ha=> ?_).trans (k2.weak fun a ha=> ?_)⟩
 ·exact ((⟨p1,h.n.c⟩:OwC 2 f M1 mb.n 1 (pA (now.set a z))).kp k2 (by omega)).o
 ·rcases List.mem_or_eq_of_mem_set hy with hy|rfl
  ·have:=h.b y hy;omega
  ·omega
 ·unfold lw;omega
 ·unfold lw;omega
theorem DV (h:MeC f m mb now kept ver N) (n:Int):∃m',rT 37 [.ptr mb.p 0,ii n] m (.bool (decide (0<=n/\n*8<now.length))) m'/\MeC f m' mb now (if 0<=n/\n*8<now.length then jA n.toNat now kept else kept) ver N/\Kp (fun a=>a=3) f m f m':=by
 refine WF.ex1 fun K hK=> ?_
 refine WF.of_wpG (fun _=>rfl) rx (L:= [(.a .e,ii n),(.e,.ptr mb.p 0)]) rfl ?_
 unfold DM
 have g:=h.g.g
 have hl:=h.l
 have hlen:=h.n.o.sl.len
 rw[List.length_map] at hlen
 have hlenk:=h.k.o.sl.len
 rw[List.length_map] at hlenk
 have hq:cz .num .quo (ii (now.length:Nat)) (ii 8)=some (ii ((now.length:Nat) / 8)):=pi (by omega) (by omega) (by omega)
 by_cases h0:n<0
 ·rw[IP (by omega),IM (by omega)] at hK
  rw[am]
  simp (config:={maxSteps:=1000000}) (disch:=first|assumption|omega|(apply ah;omega)|(apply ab;assumption)|(simp only[aJ]<;>omega)) only[go_sem,seval,g,hlen,hq]
  exact hK _ ⟨h,Kp.refl⟩
 by_cases h1:((now.length:Nat):Int) / 8<n
 ·rw[IP (by omega),IM (by omega)] at hK
  rw[am]
  simp (config:={maxSteps:=1000000}) (disch:=first|assumption|omega|(apply ah;omega)|(apply ab;assumption)|(simp only[aJ]<;>omega)) only[go_sem,seval,g,hlen,hq]
  exact hK _ ⟨h,Kp.refl⟩
 have hmul:cz .num .mul (ii n) (ii 8)=some (ii (n*8)):=vO (by omega) (by omega)
 by_cases h2:(now.length:Int)<=n*8
 ·rw[IP (by omega),IM (by omega)] at hK
  rw[am]
  simp (config:={maxSteps:=1000000}) (disch:=first|assumption|omega|(apply ah;omega)|(apply ab;assumption)|(simp only[aJ]<;>omega)) only[go_sem,seval,g,hlen,hq,hmul]
  exact hK _ ⟨h,Kp.refl⟩
 rw[IQ (show 0<=n/\n*8<now.length by omega),IN (show 0<=n/\n*8<now.length by omega)] at hK
 obtain ⟨i,rfl⟩:=IU (show 0<=n by omega)
 have hk0:=h.k.o
 obtain ⟨w0,⟨e,e'⟩|⟨idk,offk,kck,ck,ek,-⟩⟩:=id hk0
 ·have:=congrArg List.length e';rw[List.length_map,List.length_nil] at this;omega
 rw[List.length_map] at ek
 obtain ⟨w1,⟨e,e'⟩|⟨idn,offn,kcn,cn,en,-⟩⟩:=id h.n.o
 ·have:=congrArg List.length e';rw[List.length_map,List.length_nil] at this;omega
 rw[List.length_map] at en
 rw[ek] at hk0
 obtain ⟨L,hL⟩:∃L,now.length=L:=⟨_,rfl⟩
 have hLk:kept.length=L:=by omega
 have ea:((i:Int)*8).toNat=i*8:=by omega
 have eb:(min ((i:Int)*8+8) (L:Nat)).toNat=i*8+min 8 (L - i*8):=by omega
 have ec:i*8+min 8 (L - i*8) - i*8=min 8 (L - i*8):=by omega
 rw[hL] at hlen hq en
 rw[hLk] at hlenk ek hk0
 have hnn:Sl m (.slc idn (offn+i*8*1) (L - i*8) 1 (kcn - i*8)) 1 (pA (now.drop (i*8))):=by
  obtain ⟨v',q1,q2,-⟩:=h.n.o.sl.ssl (t:= .leaf) (lo:=some (.const (ii (i*8:Nat)))) (hi:=none) (a:=i*8) (b:=L) (by omega) (by rw[List.length_map];omega) (fun K=>rfl) (fun d K hd=>by rw[hd,List.length_map,hL];rfl)
  rw[en,qy] at q1
  change pL 1 idn offn L 1 kcn (i*8) L=_ at q1
  rw[vZ (by omega) (Nat.le_refl _)] at q1
  cases q1
  rw[List.take_of_length_le (by rw[List.length_drop,List.length_map];omega),←List.map_drop] at q2
  exact q2
 obtain ⟨M,c1,c2,c3⟩:=bC.copy (kc':=kck - i*8) hk0 hnn (a:=i*8) (k:=min 8 (L - i*8)) (by omega) (by omega) (by rw[List.length_map,List.length_drop];omega)
 rw[ek,en] at g
 have idk3:f idk=3:=h.k.c idk (by rw[ek];simp[ids])
 have hkp:Kp (fun a=>a=3) f m f M:=Kp.same c3 fun x hx _=>by rw[one hx];exact idk3
 have eln:jA i now kept=kept.take (i*8)++(now.drop (i*8)).take (min 8 (L - i*8))++kept.drop (i*8+min 8 (L - i*8)):=by
  unfold jA
  rw[show 8*i=i*8 by omega]
  congr 1
  ·congr 1
   rcases Nat.le_total 8 (L - i*8) with q|q
   ·rw[Nat.min_eq_left q]
   ·rw[Nat.min_eq_right q,List.take_of_length_le (by rw[List.length_drop];omega),List.take_of_length_le (by rw[List.length_drop];omega)]
  ·rcases Nat.le_total 8 (L - i*8) with q|q
   ·rw[Nat.min_eq_left q]
   ·rw[List.drop_eq_nil_of_le (by omega),List.drop_eq_nil_of_le (by omega)]
 rw[am]
 simp (config:={maxSteps:=1000000}) (disch:=first|assumption|omega|(apply ah;omega)|(apply ab;assumption)|(simp only[aJ]<;>omega)) only[go_sem,seval,g,hlen,hlenk,hq,hmul,ea,eb,ec,qp,c1]
 refine hK _ ⟨⟨h.g.kp hkp (by omega),h.n.kp hkp (by omega),⟨?_,h.k.c⟩,h.v.kp hkp (by omega), ?_,h.b⟩,hkp⟩
 ·rw[Int.toNat_natCast,eln,ek]
  simpa only[List.map_append,List.map_take,List.map_drop] using c2
 ·rw[Int.toNat_natCast,v7 i now kept (by omega) (by omega)];exact hl
theorem yq (h:MeC f m mb now kept ver N):∃m',rT 39 [.ptr mb.p 0] m (.tup []) m'/\MeC f m' mb kept kept ver N/\Kp (fun a=>a=2) f m f m':=by
 refine WF.ex1 fun K hK=> ?_
 refine WF.of_wpG (fun _=>rfl) sj (L:= [(.e,.ptr mb.p 0)]) rfl ?_
 unfold Dq
 have hl:=h.l
 have g:=h.g.g
 have hvk:=h.k.o.sl.same (n:=3)
 have hvn:=h.n.o.sl.same (n:=3)
 have key:∃v M,zV 1 m mb.n mb.k= .mem v M/\MeC f M mb kept kept ver N/\Kp (fun a=>a=2) f m f M∨zV 1 m mb.n mb.k= .val v/\kept= []/\now= []:=by
  obtain ⟨w1,⟨e,e'⟩|⟨idn,offn,kcn,cn,en,-⟩⟩:=id h.n.o
  ·have h0:=congrArg List.length e'
   rw[List.length_map,List.length_nil] at h0
   have hk0:kept= []:=List.eq_nil_of_length_eq_zero (by omega)
   refine ⟨ii 0,m,Or.inr ⟨?_,hk0,List.eq_nil_of_length_eq_zero h0⟩⟩
   unfold zV
   rw[eF h.k.o.sl,e]
  ·rw[List.length_map] at en
   by_cases hz:now.length=0
   ·have hk0:kept= []:=List.eq_nil_of_length_eq_zero (by omega)
    refine ⟨ii 0,m,Or.inr ⟨?_,hk0,List.eq_nil_of_length_eq_zero hz⟩⟩
    unfold zV
    rw[eF h.k.o.sl,en,hz,hk0];rfl
   ·have hn0:=h.n.o
    rw[en] at hn0
    obtain ⟨M,c1,c2,c3⟩:=bC.copy (kc':=kcn) hn0 h.k.o.sl (a:=0) (k:=now.length) (by omega) (by omega) (by rw[List.length_map];omega)
    rw[Nat.zero_mul,Nat.add_zero,←en] at c1
    have hkp:Kp (fun a=>a=2) f m f M:=Kp.same c3 fun x hx _=>by rw[one hx];exact h.n.c idn (by rw[en];simp[ids])
    refine ⟨_,M,Or.inl ⟨c1,⟨h.g.kp hkp (by omega),⟨?_,h.n.c⟩,h.k.kp hkp (by omega),h.v.kp hkp (by omega),by omega,h.b⟩,hkp⟩⟩
    rw[en]
    rw[List.take_zero,List.nil_append,Nat.zero_add,List.drop_eq_nil_of_le (by rw[List.length_map];omega),List.append_nil,List.take_of_length_le (by rw[List.length_map];omega)] at c2
    exact c2
 obtain ⟨v,M,⟨c1,c2,c3⟩|⟨c1,rfl,rfl⟩⟩:=key
 ·rw[am]
  simp (config:={maxSteps:=1000000}) (disch:=first|assumption|omega|(apply ah;omega)|(apply ab;assumption)|(simp only[aJ]<;>omega)) only[go_sem,seval,g,qp,c1]
  exact hK _ ⟨c2,c3⟩
 ·rw[am]
  simp (config:={maxSteps:=1000000}) (disch:=first|assumption|omega|(apply ah;omega)|(apply ab;assumption)|(simp only[aJ]<;>omega)) only[go_sem,seval,g,qp,c1]
  exact hK _ ⟨h,Kp.refl⟩
end
noncomputable def yS (n:Nat) (id:D4) (off len e kc a b m:Nat):NR:=cond (Nat.ble a b) (cond (Nat.ble b m) (cond (Nat.ble m (Bool.rec kc len (Nat.ble kc len))) (cond (Nat.beq e n)
 (.val (.slc id (off+a*n) (b - a) n (m - a))) .fail) .fail) .fail) .fail
noncomputable def Fs (n:Nat) (v lo hi mx:NV):NR:=match v with
 | .slc id off len e kc=>aC (bO lo) fun a=>aC (bO hi) fun b=>aC (bO mx) fun m=>yS n id off len e kc a b m
 |_=> .fail
theorem EW {n:Nat} {x lo hi mx:NOpd}:ae (.sliceMax n x lo hi mx) t m=oN (ρ t x) fun v=>oN (ρ t lo) fun a=>oN (ρ t hi) fun b=>oN (ρ t mx) fun c=>Fs n v a b c:=by
 show wV t x (fun v=>match v with
  | .slc id off len e kc=>cJ t lo fun a=>cJ t hi fun b=>cJ t mx fun m=>cond (Nat.ble a b) (cond (Nat.ble b m) (cond (Nat.ble m (Bool.rec kc len (Nat.ble kc len))) (cond (Nat.beq e n)
   (an (Nat.add off (Nat.mul a n)) fun o=>an (Nat.sub m a) fun k=>an (Nat.sub b a) fun m=> .val (.slc id o m n k)) .fail) .fail) .fail) .fail
  |_=> .fail)=_
 rw[bv]
 congr 1;funext v
 cases v with
 |slc id off len e kc=>
  dsimp only
  unfold cJ
  rw[bv]
  cases ρ t lo with
  |none=>rfl
  |some a=>
   show aC (bO a) _=_
   simp only[bv]
   cases ρ t hi with
   |none=>show aC (bO a) (fun _=> .fail)= .fail;cases bO a<;>rfl
   |some b=>
    cases ρ t mx with
    |none=>show aC (bO a) (fun _=>aC (bO b) fun _=> .fail)= .fail;cases bO a<;>cases bO b<;>rfl
    |some c=>
     show aC (bO a) (fun a=>aC (bO b) fun b=>aC (bO c) fun c=>_)=aC (bO a) (fun a=>aC (bO b) fun b=>aC (bO c) fun c=>_)
     congr 1;funext a;congr 1;funext b;congr 1;funext c
     unfold yS
     congr 4
     rw[aa,aa,aa];rfl
 |_=>cases ρ t lo<;>first|rfl|(cases ρ t hi<;>first|rfl|(cases ρ t mx<;>rfl))
noncomputable def Gu (z:List NV) (m:NH) (v:NV):NR:=match v with
 | .nils=> .val aA
 | .slc id off len _ _=>Nat.rec (.val aA) (fun _ _=>nB len z fun l=>storeAt m id off l fun h=> .mem aA h) len
 |_=> .fail
theorem G5 {z:List NV} {x:NOpd}:ae (.clearSlc z x) t m=oN (ρ t x) (Gu z m):=by
 show wV t x _=_
 rw[bv]
 congr 1
theorem GX {e bytes:Nat} {m':NH} {x v':NV} (h:oB e bytes m v x= .mem v' m'):wi v':=by
 have key:∀(k:Nat) (nw:List NV),cP e bytes m v k nw= .mem v' m'->wi v':=by
  intro k nw h
  cases v with
  |nils=>
   cases k with
   |zero=>cases h
   |succ k=>
    obtain ⟨-,h⟩:=ay (show cond (room (k+1) bytes) (m.new (.cells true nw) fun id h=>NR.mem (.slc id 0 (k+1) e (k+1)) h) .fail=_ from h) (by simp)
    rw[NH.new_eq] at h;cases h;exact Nat.le_refl _
  |slc id off len e' kc=>
   cases k with
   |zero=>
    obtain ⟨-,h⟩:=ay (show cond (Nat.beq e' e) (NR.val (.slc id off len e' kc)) .fail=_ from h) (by simp)
    cases h
   |succ k=>
    obtain ⟨-,h⟩:=ay (show cond (Nat.beq e' e) (cE m id fun c=>an (Nat.add len (k+1)) fun n=>cond (Nat.ble n kc)
     (aC (b8 nw (Nat.add off (Nat.mul len e)) c) fun c=>m.set id (.cells true c) fun h=>NR.mem (.slc id off n e kc) h)
     (aC (cR off c) fun c=>aC (dY (Nat.mul len e) c) fun old=>cond (room n bytes)
      (eZ old nw fun l=>m.set id .dead fun h=>h.new (.cells true l) fun id h=>NR.mem (.slc id 0 n e n) h) .fail)) .fail=_ from h) (by simp)
    obtain ⟨c,-,h⟩:=cL h (by simp)
    rw[aa] at h
    cases hb:Nat.ble (Nat.add len (k+1)) kc with
    |true=>
     rw[hb] at h
     obtain ⟨c',-,h⟩:=ax h (by simp)
     rw[NH.set_eq] at h
     cases h
     exact Nat.le_of_ble_eq_true hb
    |false=>
     rw[hb] at h
     obtain ⟨c',-,h⟩:=ax h (by simp)
     obtain ⟨c'',-,h⟩:=ax h (by simp)
     obtain ⟨-,h⟩:=ay h (by simp)
     rw[de,NH.set_eq,NH.new_eq] at h
     cases h
     exact Nat.le_refl _
  |_=>cases h
 unfold oB at h
 cases x with
 |nils=>exact key 0 [] h
 |slc id off len esz kc=>
  obtain ⟨-,h⟩:=ay (show cond (Nat.beq esz e) (bm m id (fun c=>aC (dz c off (Nat.mul len e)) fun l=>cP e bytes m v len l)) .fail=_ from h) (by simp)
  unfold bm at h
  split at h
  ·obtain ⟨l,-,h⟩:=ax h (by simp)
   exact key _ _ h
  ·cases h
 |_=>cases h
section
variable {f f':fg} {m m' M:NH} {v:NV} {B:NH} {x:List NV}
theorem Ef (h:bC B m v 3 [x]) (hkc:wi v):∃w m',rT 72 [v,ii 0,ii 1] m w m'/\bC B m' w 3 []/\wi w/\(∀i∈ids w,i∈ids v)/\Chg (ids v) m m':=by
 refine WF.ex fun K hK=> ?_
 refine WF.of_wpG (fun _=>rfl) s6 (L:= [(.b .e,ii 1),(.a .e,ii 0),(.e,v)]) rfl ?_
 unfold AC
 obtain ⟨h0,⟨q,q'⟩|⟨id,off,kc,c,rfl,hb,h1,h2,h3,h3',h4⟩⟩:=h
 ·cases q'
 have hx3:x.length=3:=h0 x (by simp)
 simp only[List.length_singleton,Nat.one_mul] at h3 h4
 have hkc1:1<=kc:=hkc
 have hs1:Fs 3 (.slc id off 1 3 kc) (ii 0) (ii 1) (ii 1)= .val (.slc id (off+0*3) 1 3 1):=by
  show yS 3 id off 1 3 kc 0 1 1=_
  unfold yS
  have e:Nat.ble 1 (Bool.rec kc 1 (Nat.ble kc 1))=true:=by
   cases hk:Nat.ble kc 1 with
   |true=>rfl
   |false=>exact Nat.ble_eq_true_of_le hkc1
  rw[e];rfl
 rw[am]
 have hw0:Sl m (.slc id off 0 3 kc) 3 []:=⟨by simp,Or.inr ⟨id,off,kc,true,c,rfl,h1,h2,by simp;omega,by simp⟩⟩
 have hw1:Sl m (.slc id (off+3) 0 3 (kc - 1)) 3 []:=⟨by simp,Or.inr ⟨id,off+3,kc - 1,true,c,rfl,h1,h2,by simp;omega,by simp⟩⟩
 have hap:=hw0.appNil (bytes:=24) hw1
 have hss:pL 3 id off 0 3 kc 0 1= .val (.slc id off 1 3 kc):=by
  unfold pL
  have e:Nat.ble 1 (Bool.rec kc 0 (Nat.ble kc 0))=true:=by
   cases hk:Nat.ble kc 0 with
   |true=>have:=Nat.le_of_ble_eq_true hk;omega
   |false=>exact Nat.ble_eq_true_of_le hkc1
  rw[e]
  show NR.val (.slc id (off+0*3) 1 3 kc)=_
  rw[Nat.zero_mul,Nat.add_zero]
 have hcl:Gu [ii 0,iu 0,.bool false] m (.slc id off 1 3 kc)= .mem aA (m.put id (.cells true (c.take off++ [ii 0,iu 0,.bool false]++c.drop (off+3)))):=by
  show nB 1 [ii 0,iu 0,.bool false] (fun l=>storeAt m id off l fun h=> .mem aA h)=_
  rw[dD,pI,show (List.replicate 1 [ii 0,iu 0,.bool false]).flatten= [ii 0,iu 0,.bool false] by rfl,mf h1 (by simpa using h3)];rfl
 simp (config:={maxSteps:=1000000}) (disch:=first|assumption|omega|(apply ah;omega)|(apply ab;assumption)|(simp only[aJ]<;>omega)) only[go_sem,seval,EW,hs1,hap,Nat.add_zero,hss,G5,hcl]
 exact hK _ _ ⟨⟨by simp,Or.inr ⟨id,off,kc,_,rfl,hb,NH.get_put_same m id _,h2,by simp only[List.length_append,List.length_take,List.length_drop];simp;omega,by simp only[List.length_append,List.length_take,List.length_drop];simp;omega,by simp⟩⟩,Nat.zero_le _,fun i hi=>by simpa [ids] using hi,by simpa [ids] using Chg.put m id _⟩
section
variable {mp:D4} {j:Nat} {b:Cb} {id:Int} {c:Co}
theorem GB (h:CoC j f m mp b id c) (y:Wr) (hy:y.a<64) (hl:c.w.length<1000):∃m',rT 106 [.ptr b.r 549,.agg [ii (b9 y.a),iu y.v,.bool false]] m (.tup []) m'/\
 ∃f' w,CoC j f' m' mp ⟨b.r,b.q,w⟩ id ⟨c.pc,c.st,c.X,c.w++ [y]⟩/\Kp (Tc j) f m f' m':=by
 refine WF.ex1 fun K hK=> ?_
 refine WF.of_wpG (fun _=>rfl) oX (L:= [(.a .e,.agg [ii (b9 y.a),iu y.v,.bool false]),(.e,.ptr b.r 549)]) rfl ?_
 unfold w9
 have g:=h.g.g
 have o:=h.g.o
 have hx:=h.x
 generalize hM:hp [(.n 1,.cells true [ii (b9 y.a),iu y.v,.bool false]),(.n 0,.cells true [ii (b9 y.a),iu y.v,.bool false])] 2 m=M
 have hC:Chg [] m M:=aR hM rfl
 have h1:=h.kpN hC
 have g1:M.get (na m 1)=some (.cells true [ii (b9 y.a),iu y.v,.bool false]):=ba hM
 have o1:aP M (na m 1):=bj hM (by omega)
 obtain ⟨w,M2,p1,p2,p3,p4⟩:=h1.w.o.app2 (bytes:=24) (kc:=1) g1 o1 rfl mr (by rw[List.length_map];omega) (by rw[List.length_map];omega)
 have pk:=GX p1
 rw[←am M2] at p1
 have cw:∀i∈ids b.w,f i=12+3*j:=h1.w.c
 have k1:Kp (fun a=>a=12+3*j) f M (aG f M (12+3*j)) M2:=Kp.of p3 (fun i hi _=>cw i hi) _
 have hg2:=h1.g.kp k1 (by omega)
 have hq2:=h1.q.kp k1 (by omega)
 have g2:=hg2.g
 have o2:=hg2.o
 have hl2:(bS mp id c.pc c.st c.X b.w b.q).length=554:=gX hx
 have hws:=p2.sl.one
 simp (config:={maxSteps:=1000000}) (disch:=first|assumption|omega|(apply ah;omega)|(apply ab;assumption)|(simp only[aJ]<;>omega)) only[go_sem,seval,hM,g,rD,p1,g2,o2,hl2,sD,hws]
 generalize hM3:hp _ 0 M2=M3
 have hC3:Chg [b.r] M2 M3:=aR hM3 rfl
 have k3:Kp (fun a=>a=10+3*j) (aG f M (12+3*j)) M2 (aG f M (12+3*j)) M3:=Kp.same hC3 fun i hi _=>by rw[one hi];exact hg2.c
 have nr:∀i∈ids w,aG f M (12+3*j) i=12+3*j:=fun i hi=>by
  unfold aG
  split
  ·rename_i ho
   rcases p4 i hi with q|q
   ·exact cw i q
   ·exact IL ho q
  ·rfl
 have hw3:OwC (12+3*j) (aG f M (12+3*j)) M3 w 3 (nJ (c.w++ [y])):=(⟨by rw[show nJ (c.w++ [y])=nJ c.w++ [[ii (b9 y.a),iu y.v,.bool false]] by simp[b9]];exact p2,nr⟩:OwC (12+3*j) (aG f M (12+3*j)) M2 w 3 (nJ (c.w++ [y]))).kp k3 (by omega)
 refine hK _ ⟨aG f M (12+3*j),w,⟨⟨?_,hC3.old o2,hg2.c⟩,hq2.kp k3 (by omega),hw3,hx,fun z hz=> ?_,by simp;omega,pk⟩,(Kp.grow hC).trans ((k1.weak fun a ha=> ?_).trans (k3.weak fun a ha=> ?_))⟩
 ·rw[←hM3];exact (bh o2).trans aN
 ·rcases List.mem_append.1 hz with hz|hz
  ·exact h.wa z hz
  ·rw[List.mem_singleton] at hz;subst hz;exact hy
 ·exact Or.inr (Or.inr ha)
 ·exact Or.inl ha
theorem E4 (h:CoC j f m mp b id c) {y:Wr} (hw:c.w= [y]):∃m',rT 46 [.ptr b.r 549,ii 0] m (.tup [.agg [ii (b9 y.a),iu y.v,.bool false],.bool true]) m'/\
 ∃w,CoC j f m' mp ⟨b.r,b.q,w⟩ id ⟨c.pc,c.st,c.X, []⟩/\Kp (Tc j) f m f m':=by
 refine WF.ex1 fun K hK=> ?_
 refine WF.of_wpG (fun _=>rfl) rO (L:= [(.a .e,ii 0),(.e,.ptr b.r 549)]) rfl ?_
 unfold D5
 have g:=h.g.g
 have o:=h.g.o
 have hx:=h.x
 have hww:=h.w.o
 rw[hw] at hww
 change bC E0 m b.w 3 [[ii (b9 y.a),iu y.v,.bool false]] at hww
 have hlen:=hww.sl.len
 obtain ⟨i,off,wr,cs,a1,a2,a3,a4,a5⟩:=hww.sl.at 0 (by simp)
 have a1':iy 3 b.w (ii 0)= .val (.ptr i off):=a1
 have a5':(cs.drop off).take 3= [ii (b9 y.a),iu y.v,.bool false]:=a5
 generalize hM:hp [(.n 2,.cells true [ii (b9 y.a),iu y.v,.bool false]),(.n 2,.cells true [ii 0,iu 0,.bool false]),(.n 1,.cells true [ii 0,iu 0,.bool false]),(.n 0,.cells true [ii 0,iu 0,.bool false])] 3 m=M
 have hC:Chg [] m M:=aR hM rfl
 have h1:=h.kpN hC
 have hw1:=hww.chg hC (by simp)
 have gr0:M.get (na m 0)=some (.cells true [ii 0,iu 0,.bool false]):=ba hM
 have gr2:M.get (na m 2)=some (.cells true [ii (b9 y.a),iu y.v,.bool false]):=ba hM
 have or0:aP M (na m 0):=bj hM (by omega)
 have or2:aP M (na m 2):=bj hM (by omega)
 obtain ⟨w,M2,r2,p2,p3,p4,p5⟩:=Ef hw1 h.kc
 have cw:∀i∈ids b.w,f i=12+3*j:=h.w.c
 have k2:Kp (fun a=>a=12+3*j) f M f M2:=Kp.same p5 fun i hi _=>cw i hi
 have hg2:=h1.g.kp k2 (by omega)
 have hq2:=h1.q.kp k2 (by omega)
 have g1:=h1.g.g
 have g2:=hg2.g
 have o2:=hg2.o
 have hwo:∀i∈ids b.w,aP m i:=h.w.o.sl.old
 have nw0:na m 0∉ids b.w:=fun hi=>aD (hwo _ hi)
 have nw2:na m 2∉ids b.w:=fun hi=>aD (hwo _ hi)
 have gs0:=(p5.get or0 nw0).trans gr0
 have gs2:=(p5.get or2 nw2).trans gr2
 have os0:=p5.old or0
 have os2:=p5.old or2
 have hl2:(bS mp id c.pc c.st c.X b.w b.q).length=554:=gX hx
 have hws:=p2.sl.one
 have nr0:na m 0≠b.r:=fun e=>aD (e▸o)
 have nr2:na m 2≠b.r:=fun e=>aD (e▸o)
 simp (config:={maxSteps:=1000000}) (disch:=first|assumption|omega|(apply ah;omega)|(apply ab;assumption)|(simp only[aJ]<;>omega)) only[go_sem,seval,g,rD,hlen,a1',a2,a5',hM,g1,r2.wf,g2,hl2,sD,hws,gs0,gs2]
 generalize hM3:hp _ 0 M2=M3
 have hC3:Chg [na m 0,b.r] M2 M3:=aR hM3 rfl
 have hCA:Chg (b.r::ids b.w) m M3:=((hC.weak (T:=b.r::ids b.w) (by simp)).trans p5 fun i hi _=>List.mem_cons_of_mem _ hi).trans hC3 fun i hi ho=>by
  simp only[IS,IR,or_false] at hi
  rcases hi with rfl|rfl
  ·exact IL ho aD
  ·exact List.mem_cons_self ..
 have hkp:Kp (Tc j) f m f M3:=Kp.same hCA fun i hi _=>by
  rcases List.mem_cons.1 hi with rfl|hi
  ·exact Or.inl h.g.c
  ·exact Or.inr (Or.inr (cw i hi))
 have oq:=h.q.o
 have nqr:b.q≠b.r:=fun e=>by have h1:=h.q.c;have h2:=h.g.c;rw[e] at h1;omega
 refine hK _ ⟨w,⟨⟨?_,hC3.old o2,h.g.c⟩,⟨?_,hC3.old hq2.o,h.q.c⟩,⟨p2.chg hC3 fun i hi=> ?_,fun i hi=>cw i (p4 i hi)⟩,hx,by simp,by simp,p3⟩,hkp⟩
 ·rw[←hM3];exact (bh o2).trans ((di nr0.symm).trans aN)
 ·refine (hC3.get hq2.o ?_).trans hq2.g
  simp only[IS,IR,or_false,not_or]
  exact ⟨fun e=>aD (e▸oq),nqr⟩
 ·simp only[IS,IR,or_false,not_or]
  exact ⟨fun e=>nw0 (e▸p4 i hi),fun e=>by have h1:=cw i (p4 i hi);have h2:=h.g.c;rw[←e] at h2;omega⟩
theorem Cr  {fv:NV} (hl:o9 v= .val (ii 0)):∃m',rT 99 [v,fv] m (ii (-1)) m'/\m'=m:=by
 refine WF.ex1 fun K hK=> ?_
 refine WF.of_wpG (fun _=>rfl) rZ (L:= [(.a .e,fv),(.e,v)]) rfl ?_
 unfold D0
 rw[am]
 simp (config:={maxSteps:=1000000}) (disch:=first|assumption|omega|(apply ah;omega)|(apply ab;assumption)|(simp only[aJ]<;>omega)) only[go_sem,seval,hl]
 refine W.loop (fun n d=>∃t,d=⟨t, [],none,m⟩/\NT.get D4.e.a.c t=some (ii 0)/\NT.get D4.e.a.f t=some (ii 0)) ?_ 0 _ ⟨_,rfl,by simp only[go_sem,seval],by simp only[go_sem,seval]⟩
 rintro n d ⟨t,rfl,t1,t2⟩
 apply bz
 unfold sS
 change wp _ _ _ _ ⟨aw [] t, [],none,m⟩ _
 simp (config:={maxSteps:=1000000}) (disch:=first|assumption|omega|(apply ah;omega)|(apply ab;assumption)|(simp only[aJ]<;>omega)) only[go_sem,seval,t1,t2]
 exact hK _ rfl
theorem yJ  {fv:NV} (hl:o9 v= .val (ii 0)):∃m',rT 70 [v,fv] m (.bool false) m'/\m'=m:=by
 refine WF.ex1 fun K hK=> ?_
 refine WF.of_wpG (fun _=>rfl) rW (L:= [(.a .e,fv),(.e,v)]) rfl ?_
 unfold Es
 obtain ⟨m1,r1,rfl⟩:=Cr (m:=m) (fv:=fv) hl
 rw[am]
 simp (config:={maxSteps:=1000000}) (disch:=first|assumption|omega|(apply ah;omega)|(apply ab;assumption)|(simp only[aJ]<;>omega)) only[go_sem,seval,r1.wf']
 exact hK _ rfl
theorem E8 {C:List Wr} (hv:bC E0 m v 3 (nJ C)) (hC:C.length<=1) (n:Int):∃m',rT 45 [v,ii n] m (.bool (decide (n=0/\C.length=1))) m'/\Chg [] m m':=by
 refine WF.ex1 fun K hK=> ?_
 refine WF.of_wpG (fun _=>rfl) sG (L:= [(.a .e,ii n),(.e,v)]) rfl ?_
 unfold DE
 have hlen:=hv.sl.len
 rw[List.length_map] at hlen
 have h1v:=hv.sl.one
 by_cases h0:n<0
 ·rw[IP (by omega)] at hK
  simp (config:={maxSteps:=1000000}) (disch:=first|assumption|omega|(apply ah;omega)|(apply ab;assumption)|(simp only[aJ]<;>omega)) only[go_sem,seval,h1v]
  exact hK _ (dC rfl)
 by_cases h1:(C.length:Int)<=n
 ·rw[IP (by omega)] at hK
  simp (config:={maxSteps:=1000000}) (disch:=first|assumption|omega|(apply ah;omega)|(apply ab;assumption)|(simp only[aJ]<;>omega)) only[go_sem,seval,h1v,hlen]
  exact hK _ (dC rfl)
 have hn:n=0:=by omega
 subst hn
 have hc1:C.length=1:=by omega
 obtain ⟨y,rfl⟩:=List.length_eq_one_iff.1 hc1
 rw[IQ ⟨rfl,rfl⟩] at hK
 obtain ⟨i,off,wr,cs,a1,a2,a3,a4,a5⟩:=hv.sl.at 0 (by simp)
 have a1':iy 3 v (ii 0)= .val (.ptr i off):=a1
 have a5':cs[off+2]? =some (.bool false):=fW a5 2 (by omega)
 obtain ⟨h0,⟨q,q'⟩|⟨id,off',kc,c,rfl,-⟩⟩:=hv
 ·cases q'
 simp only[List.length_map,List.length_singleton] at h1v hlen a1' hK ⊢
 obtain ⟨m1,r1,e1⟩:=yJ (m:=hp [(.n 1,.cells true [ii 0]),(.n 0,.cells true [.slc id off' 1 3 kc])] 2 m) (v:= .slc id off' 0 3 kc) (fv:= .fn 71 [.ptr (na m 0) 0,.ptr (na m 1) 0]) rfl
 subst e1
 simp (config:={maxSteps:=1000000}) (disch:=first|assumption|omega|(apply ah;omega)|(apply ab;assumption)|(simp only[aJ]<;>omega)) only[go_sem,seval,h1v,hlen,a1',a2,a5',Nat.add_zero,r1.wf']
 exact hK _ (dC rfl)
theorem Ez (h:CoC j f m mp b id c) {mb:Mb} {ver:List Int} {N:Nat} (hm:MeC f m mb now kept ver N) (hmp:mb.p=mp) (hN:N<=100000) (hw:c.w.length<=1) (hwn:∀y∈c.w,y.a<now.length) (n:Int):
 ∃v m',rT 21 [.ptr b.r 0,ii n] m v m'/\∃u w ver' f',v= .tup [u,.bool (cX id n now c).1]/\CoC j f' m' mp ⟨b.r,b.q,w⟩ id (cX id n now c).2.2.1/\MeC f' m' mb (cX id n now c).2.2.2 kept ver' (N+1)/\
  Sl m' u 4 (nI (cX id n now c).2.1)/\(∀i∈ids u,¬aP m i)/\Kp (fun a=>Tc j a∨lw a) f m f' m':=by
 refine WF.ex fun K hK=> ?_
 refine WF.of_wpG (fun _=>rfl) sy (L:= [(.a .e,ii n),(.e,.ptr b.r 0)]) rfl ?_
 unfold DN
 rw[am]
 obtain ⟨v1,m1,r1,o1,hC1⟩:=mC h
 obtain ⟨m2,r2,hC2⟩:=E8 (o1.back fun i hi=>IL hi qu) hw n
 have hC12:=hC1.trans hC2 (by simp)
 have h2:=h.kpN hC12
 have hm2:=hm.kpN hC12
 by_cases hq:n=0/\c.w.length=1
 ·obtain ⟨rfl,hq⟩:=hq
  obtain ⟨y,hy⟩:=List.length_eq_one_iff.1 hq
  rw[IQ ⟨rfl,hq⟩] at r2
  have e:cX id 0 now c=(true, [⟨3,id,4096+8*(y.a:Int),y.v⟩],⟨c.pc,c.st,c.X, []⟩,now.set y.a y.v):=by unfold cX;rw[hy];rfl
  rw[e] at hK
  obtain ⟨m3,r3,w,h3,k3⟩:=E4 h2 hy
  have hm3:=hm2.kp k3 (by unfold Tc;omega)
  generalize hM:hp [(.n 0,.cells true [ii (b9 y.a),iu y.v,.bool false]),(.n 0,.cells true [ii 0,iu 0,.bool false])] 1 m3=M
  have hCM:Chg [] m3 M:=aR hM rfl
  have kM:Kp (fun _=>False) f m3 (aG f m3 9) M:=Kp.of hCM (by simp) 9
  have h4:=h3.kp kM (by simp)
  have hm4:=hm3.kp kM (by simp)
  have ct:aG f m3 9 (na m3 0)=9:=IM aD
  have gt:M.get (na m3 0)=some (.cells true [ii (b9 y.a),iu y.v,.bool false]):=ba hM
  have ot:aP M (na m3 0):=bj hM (by omega)
  obtain ⟨m5,r5,⟨ver',hm5⟩,k5⟩:=xq hm4 hN (hwn y (by rw[hy];simp)) y.v
  have g4:=h4.g.g
  have hx:=h4.x
  have h5:=h4.kp k5 (by unfold lw;omega)
  obtain ⟨u,m6,r6,e6,hC6,n6⟩:=iK h5 3 (b9 y.a) y.v
  have gt5:m5.get (na m3 0)=some (.cells true [ii (b9 y.a),iu y.v,.bool false]):=(k5.g ot (by rw[ct];unfold lw;omega)).trans gt
  rw[hmp] at r5
  simp (config:={maxSteps:=1000000}) (disch:=first|assumption|omega|(apply ah;omega)|(apply ab;assumption)|(simp only[aJ]<;>omega)) only[go_sem,seval,r1.wf',r2.wf',r3.wf,hM,g4,IF,gt,r5.wf',gt5,r6.wf']
  have kk:=(Kp.grow hC12).trans ((k3.weak (T':=fun a=>Tc j a∨lw a) fun a ha=>Or.inl ha).trans ((kM.weak (by simp)).trans ((k5.weak fun a ha=>Or.inr ha).trans (Kp.grow hC6))))
  exact hK _ _ ⟨u,w,ver',_,rfl,h5.kpN hC6,hm5.kpN hC6,e6,fun i hi ho=>n6 i hi (k5.old (kM.old (k3.old (hC12.old ho)))),kk⟩
 ·rw[IP hq] at r2
  have e:cX id n now c=(false, [],c,now):=by
   unfold cX
   cases hcw:c.w with
   |nil=>rfl
   |cons y l=>
    have:c.w.length=1:=by rw[hcw] at hw ⊢;simp at hw ⊢;omega
    dsimp only
    rw[IM (fun q=>hq ⟨q,this⟩)]
  rw[e] at hK
  simp (config:={maxSteps:=1000000}) (disch:=first|assumption|omega|(apply ah;omega)|(apply ab;assumption)|(simp only[aJ]<;>omega)) only[go_sem,seval,r1.wf',r2.wf']
  exact hK _ _ ⟨.nils,b.w,ver,f,rfl,h2,hm2.more (by omega),Sl.nil,by simp[ids],Kp.grow hC12⟩
end
end
section
variable {f f':fg} {m m' M:NH} {mp:D4} {j:Nat} {b:Cb} {id:Int} {c:Co} {sb q:D4} {v:NV} {C:List (List NV)} {y:Wr}
theorem Gs (hv:cellsOf v=some [v]):∃m',rT 113 [v] m (.fn 114 [.ptr (na m 0) 0]) m'/\m'=hp [(.n 0,.cells true [v])] 1 m:=by
 refine WF.ex1 fun K hK=> ?_
 refine WF.of_wpG (fun _=>rfl) od (L:= [(.e,v)]) rfl ?_
 unfold vg
 simp (config:={maxSteps:=1000000}) (disch:=first|assumption|omega|(apply ah;omega)|(apply ab;assumption)|(simp only[aJ]<;>omega)) only[go_sem,seval,hv]
 exact hK _ rfl
theorem uw  {x:List NV} (hC:C= []∨C= [x]) (g1:m.get sb=some (.cells w [v])) (g2:aP m sb) (g3:Sl m v 3 C) (R:Bool->NH->Prop)
 (hr:∀M,Chg [] m M->M.get sb=some (.cells w [v])->C= [x]->∃r M',lq Tryz.prog S0 q [ii 0,.agg x] M (.bool r) M'/\R r M'/\M'.get sb=some (.cells w [v])):
 ∃m',rT 114 [.yld q,.ptr sb 0] m (.tup []) m'/\((C= []/\Chg [] m m')∨∃r,C= [x]/\R r m'):=by
 refine WF.ex1 fun K hK=> ?_
 refine WF.of_wpG (fun _=>rfl) nN (L:= [(.a .e,.ptr sb 0),(.e,.yld q)]) rfl ?_
 unfold vX
 have hlen:=g3.len
 have hCl:C.length<=1:=by rcases hC with rfl|rfl<;>simp
 rw[am]
 simp (config:={maxSteps:=1000000}) (disch:=first|assumption|omega|(apply ah;omega)|(apply ab;assumption)|(simp only[aJ]<;>omega)) only[go_sem,seval,g1,hlen]
 refine W.loop (fun n d=>∃t M,d=⟨t, [],none,M⟩/\NT.get D4.e t=some (.yld q)/\NT.get D4.e.a t=some (.ptr sb 0)/\((n=1/\M=m/\NT.get D4.e.c t=some (ii 0)/\C= [x])∨(n=0/\NT.get D4.e.c t=some (ii (-1))/\((C= []/\Chg [] m M)∨∃r,C= [x]/\R r M)))) ?_ C.length _ ⟨_,m,rfl,by simp only[go_sem,seval],by simp only[go_sem,seval], ?_⟩
 ·rintro n d ⟨t,M,rfl,t1,t2,⟨rfl,rfl,t3,rfl⟩|⟨rfl,t3,hM⟩⟩
  ·apply bz
   unfold lg
   change wp _ _ _ _ ⟨aw [] t, [],none,M⟩ _
   obtain ⟨i,off,wr,cs,a1,a2,a3,a4,a5⟩:=g3.at 0 (by simp)
   have a1':iy 3 v (ii 0)= .val (.ptr i off):=a1
   have a5':(cs.drop off).take 3=x:=a5
   obtain ⟨r,M',hy,hR,hg⟩:=hr M (Chg.refl M) g1 rfl
   cases r with
   |true=>
    simp (config:={maxSteps:=1000000}) (disch:=first|assumption|omega|(apply ah;omega)|(apply ab;assumption)|(simp only[aJ]<;>omega)) only[go_sem,seval,t1,t2,t3,g1,a1',a2,a5',hy.wy]
    exact ⟨0,by omega,_,M',by rw[am],by simp only[go_sem,seval,t1],by simp only[go_sem,seval,t2],Or.inr ⟨rfl,by simp only[go_sem,seval]<;>rfl,Or.inr ⟨true,hR⟩⟩⟩
   |false=>
    simp (config:={maxSteps:=1000000}) (disch:=first|assumption|omega|(apply ah;omega)|(apply ab;assumption)|(simp only[aJ]<;>omega)) only[go_sem,seval,t1,t2,t3,g1,a1',a2,a5',hy.wy]
    rw[am]
    exact hK _ (Or.inr ⟨false,rfl,hR⟩)
  ·apply bz
   unfold lg
   change wp _ _ _ _ ⟨aw [] t, [],none,M⟩ _
   simp (config:={maxSteps:=1000000}) (disch:=first|assumption|omega|(apply ah;omega)|(apply ab;assumption)|(simp only[aJ]<;>omega)) only[go_sem,seval,t1,t2,t3]
   exact hK _ hM
 ·rcases hC with rfl|rfl
  ·exact Or.inr ⟨rfl,by simp only[go_sem,seval]<;>rfl,Or.inl ⟨rfl,Chg.refl m⟩⟩
  ·exact Or.inl ⟨rfl,rfl,by simp only[go_sem,seval]<;>rfl,rfl⟩
theorem D7 {l:List Wr} (hl:l.length<=1) (hv:bC E0 m v 3 (nJ l)) (a:Nat) (z0:Int):∃w m',rT 112 [v,ii (b9 a)] m w m'/\(∃z ok,w= .tup [iu z,.bool ok]/\cN l a z0=(if ok=true then z else z0))/\Chg [] m m':=by
 refine WF.ex fun K hK=> ?_
 refine WF.of_wpM (fun _=>rfl) oL (L:= [(.a .e,ii (b9 a)),(.e,v)]) rfl ?_
 unfold wI
 generalize hm1:hp [(.n 2,.cells true [.bool false]),(.n 1,.cells true [iu 0]),(.n 0,.cells true [ii (b9 a)])] 3 m=m1
 have hC1:Chg [] m m1:=aR hm1 rfl
 have ga:m1.get (na m 0)=some (.cells true [ii (b9 a)]):=ba hm1
 have gv:m1.get (na m 1)=some (.cells true [iu 0]):=ba hm1
 have go:m1.get (na m 2)=some (.cells true [.bool false]):=ba hm1
 have oa:aP m1 (na m 0):=bj hm1 (by omega)
 have ov:aP m1 (na m 1):=bj hm1 (by omega)
 have oo:aP m1 (na m 2):=bj hm1 (by omega)
 obtain ⟨m2,r2,hm2⟩:=Gs (m:=m1) hv.sl.one
 have hC2:Chg [] m1 m2:=aR hm2.symm rfl
 simp (config:={maxSteps:=1000000}) (disch:=first|assumption|omega|(apply ah;omega)|(apply ab;assumption)|(simp only[aJ]<;>omega)) only[go_sem,seval,hm1,r2.wf']
 generalize ht:aw _ NT.leaf=t
 have t1:NT.get D4.e.f t=some (.ptr (na m 1) 0):=by rw[←ht];simp (config:={maxSteps:=1000000}) (disch:=first|assumption|omega|(apply ah;omega)|(apply ab;assumption)|(simp only[aJ]<;>omega)) only[go_sem,seval]
 have t2:NT.get D4.e.a.a t=some (.ptr (na m 2) 0):=by rw[←ht];simp (config:={maxSteps:=1000000}) (disch:=first|assumption|omega|(apply ah;omega)|(apply ab;assumption)|(simp only[aJ]<;>omega)) only[go_sem,seval]
 have t3:NT.get D4.e.c t=some (.ptr (na m 0) 0):=by rw[←ht];simp (config:={maxSteps:=1000000}) (disch:=first|assumption|omega|(apply ah;omega)|(apply ab;assumption)|(simp only[aJ]<;>omega)) only[go_sem,seval]
 have t4:NT.get D4.e.b.a t=some (.fn 114 [.ptr (na m1 0) 0]):=by rw[←ht];simp (config:={maxSteps:=1000000}) (disch:=first|assumption|omega|(apply ah;omega)|(apply ab;assumption)|(simp only[aJ]<;>omega)) only[go_sem,seval]
 clear ht
 have gz:m2.get (na m1 0)=some (.cells true [v]):=ba hm2.symm
 have oz:aP m2 (na m1 0):=bj hm2.symm (by omega)
 have hC12:Chg [] m m2:=hC1.trans hC2 (by simp)
 generalize hM1:hp [(.n 1,.loop 0 .none t [D4.e.b.b,D4.e.b.c] cp cA),(.n 0,.defd true)] 2 m2=M1
 have hG:Chg [] m2 M1:=aR hM1 rfl
 have oq:aP M1 (na m2 1):=bj hM1 (by omega)
 have om:aP M1 (na m2 0):=bj hM1 (by omega)
 have gq:M1.get (na m2 1)=some (.loop 0 .none t [D4.e.b.b,D4.e.b.c] cp cA):=ba hM1
 have gm:M1.get (na m2 0)=some (.defd true):=ba hM1
 have hGm:Chg [] m1 M1:=hC2.trans hG (by simp)
 have gvM:=(hGm.get ov (by simp)).trans gv
 have goM:=(hGm.get oo (by simp)).trans go
 have gaM:=(hGm.get oa (by simp)).trans ga
 have nvq:na m 1≠na m2 1:=(hC2.old ov).ne 1
 have noq:na m 2≠na m2 1:=(hC2.old oo).ne 1
 have naq:na m 0≠na m2 1:=(hC2.old oa).ne 1
 have nvo:na m 1≠na m 2:=fun e=>by have:=dM e;omega
 have nav:na m 0≠na m 1:=fun e=>by have:=dM e;omega
 have nao:na m 0≠na m 2:=fun e=>by have:=dM e;omega
 have hvM:=(hv.sl.chg hC1 (by simp)).chg hGm (by simp)
 have hC0:nJ l= []∨∃y:Wr,l= [y]:=by
  rcases l with _|⟨y,l⟩
  ·exact Or.inl rfl
  ·have:l= []:=List.eq_nil_of_length_eq_zero (by simpa using hl)
   subst this;exact Or.inr ⟨y,rfl⟩
 have tail:∀(N:NH) (st:Nat) (p:Jump) (z:Int) (ok:Bool),rT 114 [.yld (na m2 1),.ptr (na m1 0) 0] M1 (.tup []) N->Chg [na m2 1,na m 1,na m 2] M1 N->N.get (na m2 1)=some (.loop st p t [D4.e.b.b,D4.e.b.c] cp cA)->st≠1->
  (p= .none/\ok=false∨p= .ret/\ok=true)->N.get (na m 1)=some (.cells true [iu z])->N.get (na m 2)=some (.cells true [.bool ok])->cN l a z0=(if ok=true then z else z0)->
  W Tryz.prog S0 none (.rangeFunc (.tmp D4.e.b.a) [D4.e.b.b,D4.e.b.c] cp cA) ⟨t, [],none,m2⟩ (dv 0 (fu (EP Tryz.prog S0 none ((NC.reg [C.q (NOp.store 1 (C.t D4.e.f) (C.ku 0)) 0,C.q (NOp.store 1 (C.t D4.e.a.a) C.kf) 1]).seq NC.ret) (wW [NRes.cell1 D4.e.f,NRes.cell1 D4.e.a.a] K)) (wW [NRes.cell1 D4.e.f,NRes.cell1 D4.e.a.a] K))):=by
  intro N st p z ok hr hC hq hst hp gvN goN hlw
  refine W.rangeJ t4 (hM1▸hr) hq hst ?_ (hC.old oq)
  have omv:na m2 0≠na m 1:=((hC2.old ov).ne 0).symm
  have omo:na m2 0≠na m 2:=((hC2.old oo).ne 0).symm
  have omq:na m2 0≠na m2 1:=fun e=>by have:=dM e;omega
  have gmN:N.get (na m2 0)=some (.defd true):=(hC.get om (by simp only[IS,IR,or_false,not_or];exact ⟨omq,omv,omo⟩)).trans gm
  have omN:=hC.old om
  have oqN:=hC.old oq
  have ovN:=hC.old (hGm.old ov)
  have ooN:=hC.old (hGm.old oo)
  have nvq':=nvq.symm
  have noq':=noq.symm
  have nvo':=nvo.symm
  have omv':=omv.symm
  have omo':=omo.symm
  have omq':=omq.symm
  have fin:∀{S:List D4} {Me:NH},Chg S N Me->(∀i∈S,i∈ [na m2 1,na m2 0,na m 1,na m 2])->Chg [] m Me:=by
   intro S Me hCe hS
   refine (((hC12.trans hG (by simp)).weak (T:= [na m2 1,na m2 0,na m 1,na m 2]) (by simp)).trans hC (by simp)).trans hCe (fun i hi _=>hS i hi) |>.weak fun i hi ho=> ?_
   simp only[IS,IR,or_false] at hi
   rcases hi with rfl|rfl|rfl|rfl
   ·exact IL (hC12.old ho) aD
   ·exact IL (hC12.old ho) aD
   ·exact IL ho aD
   ·exact IL ho aD
  rcases hp with ⟨rfl,rfl⟩|⟨rfl,rfl⟩
  ·change dv _ _ (ic .none) ⟨aw [] t,_,_,_⟩
   simp (config:={maxSteps:=1000000}) (disch:=first|assumption|omega|(apply ah;omega)|(apply ab;assumption)|(simp only[aJ]<;>omega)) only[go_sem,seval,ic,t1,t2,gvN,goN,gmN]
   refine lr ?_
   rw[kK]
   simp (config:={maxSteps:=1000000}) (disch:=first|assumption|omega|(apply ah;omega)|(apply ab;assumption)|(simp only[aJ]<;>omega)) only[go_sem,seval,t1,t2,gvN,goN,gmN]
   generalize hMe:hp _ 0 N=Me
   have hCe:Chg [na m2 0,na m 2,na m 1,na m2 1] N Me:=aR hMe rfl
   exact hK _ _ ⟨⟨0,false,rfl,by simpa using hlw⟩,fin hCe (by simp)⟩
  ·change dv _ _ (ic .ret) ⟨aw [] t,_,_,_⟩
   simp (config:={maxSteps:=1000000}) (disch:=first|assumption|omega|(apply ah;omega)|(apply ab;assumption)|(simp only[aJ]<;>omega)) only[go_sem,seval,ic,t1,t2,gvN,goN,gmN]
   refine lr ?_
   rw[kK]
   simp (config:={maxSteps:=1000000}) (disch:=first|assumption|omega|(apply ah;omega)|(apply ab;assumption)|(simp only[aJ]<;>omega)) only[go_sem,seval,t1,t2,gvN,goN,gmN]
   generalize hMe:hp _ 0 N=Me
   have hCe:Chg [na m2 0,na m2 1] N Me:=aR hMe rfl
   exact hK _ _ ⟨⟨z,true,rfl,by simpa using hlw⟩,fin hCe (by simp)⟩
 rcases hC0 with hl0|⟨y,rfl⟩
 ·obtain ⟨N,hr,hN⟩:=uw (q:=na m2 1) (x:= []) (Or.inl hl0) ((hG.get oz (by simp)).trans gz) (hG.old oz) hvM (fun _ _=>True) (fun M _ _ h=>by rw[hl0] at h;cases h)
  have hl0':l= []:=List.map_eq_nil_iff.1 hl0
  rcases hN with ⟨-,hN⟩|⟨r,h,-⟩
  ·exact tail N 0 .none 0 false hr (hN.weak (by simp)) ((hN.get oq (by simp)).trans gq) (by simp) (Or.inl ⟨rfl,rfl⟩) ((hN.get (hGm.old ov) (by simp)).trans gvM) ((hN.get (hGm.old oo) (by simp)).trans goM) (by rw[hl0'];rfl)
  ·rw[hl0] at h;cases h
 ·obtain ⟨N,hr,hN⟩:=uw (q:=na m2 1) (x:= [ii (b9 y.a),iu y.v,.bool false]) (Or.inr rfl) ((hG.get oz (by simp)).trans gz) (hG.old oz) hvM (fun r N=>Chg [na m2 1,na m 1,na m 2] M1 N/\(if y.a=a then r=false/\N.get (na m2 1)=some (.loop 2 .ret t [D4.e.b.b,D4.e.b.c] cp cA)/\N.get (na m 1)=some (.cells true [iu y.v])/\N.get (na m 2)=some (.cells true [.bool true]) else r=true/\N.get (na m2 1)=some (.loop 0 .none t [D4.e.b.b,D4.e.b.c] cp cA)/\N.get (na m 1)=some (.cells true [iu 0])/\N.get (na m 2)=some (.cells true [.bool false]))) (fun N hCN _ _=>by
   have gqN:=(hCN.get oq (by simp)).trans gq
   have gvN:=(hCN.get (hGm.old ov) (by simp)).trans gvM
   have goN:=(hCN.get (hGm.old oo) (by simp)).trans goM
   have gaN:=(hCN.get (hGm.old oa) (by simp)).trans gaM
   have oqN:=hCN.old oq
   have ovN:=hCN.old (hGm.old ov)
   have ooN:=hCN.old (hGm.old oo)
   have oaN:=hCN.old (hGm.old oa)
   have nvq':=nvq.symm
   have noq':=noq.symm
   have nvo':=nvo.symm
   have gzN:N.get (na m1 0)=some (.cells true [v]):=(hCN.get (hG.old oz) (by simp)).trans ((hG.get oz (by simp)).trans gz)
   have nz1:na m1 0≠na m 1:=(ov.ne 0).symm
   have nz2:na m1 0≠na m 2:=(oo.ne 0).symm
   have nzq:na m1 0≠na m2 1:=oz.ne 1
   suffices hh:∃r M',lq Tryz.prog S0 (na m2 1) [ii 0,.agg [ii (b9 y.a),iu y.v,.bool false]] N r M'/\∃q,r= .bool q/\Chg [na m2 1,na m 1,na m 2] N M'/\(if y.a=a then q=false/\M'.get (na m2 1)=some (.loop 2 .ret t [D4.e.b.b,D4.e.b.c] cp cA)/\M'.get (na m 1)=some (.cells true [iu y.v])/\M'.get (na m 2)=some (.cells true [.bool true]) else q=true/\M'.get (na m2 1)=some (.loop 0 .none t [D4.e.b.b,D4.e.b.c] cp cA)/\M'.get (na m 1)=some (.cells true [iu 0])/\M'.get (na m 2)=some (.cells true [.bool false])) by
    obtain ⟨r,M',q1,q,rfl,q2,q3⟩:=hh
    exact ⟨q,M',q1,⟨(hCN.weak (by simp)).trans q2 fun i hi _=>hi,q3⟩,(q2.get (hCN.old (hG.old oz)) (by simp only[IS,IR,or_false,not_or];exact ⟨nzq,nz1,nz2⟩)).trans gzN⟩
   refine WY.ex fun K' hK'=> ?_
   refine WY.of_wp gqN rfl cp.eq_1 cA.eq_1 ?_
   change wp _ _ _ _ ⟨aw [(D4.e.b.c,.agg [ii (b9 y.a),iu y.v,.bool false]),(D4.e.b.b,ii 0)] t, [],none,hp [] 0 N⟩ _
   by_cases hya:y.a=a
   ·have e:b9 y.a=b9 a:=by rw[hya]
    simp (config:={maxSteps:=1000000}) (disch:=first|assumption|omega|(apply ah;omega)|(apply ab;assumption)|(simp only[aJ]<;>omega)) only[go_sem,seval,t1,t2,t3,gqN,gaN,gvN,goN,e]
    generalize hN3:hp _ 1 N=N3
    have hC3:Chg [na m2 1,na m 2,na m 1,na m2 1] N N3:=aR hN3 rfl
    refine hK' _ _ ⟨false,rfl,hC3.weak (by simp), ?_⟩
    rw[IN hya]
    refine ⟨rfl, ?_, ?_, ?_⟩
    ·rw[←hN3];exact (bh oqN).trans aN
    ·rw[←hN3];exact (bh ovN).trans ((di nvq).trans ((di nvo).trans aN))
    ·rw[←hN3];exact (bh ooN).trans ((di noq).trans aN)
   ·have e:b9 y.a≠b9 a:=by unfold b9;omega
    simp (config:={maxSteps:=1000000}) (disch:=first|assumption|omega|(apply ah;omega)|(apply ab;assumption)|(simp only[aJ]<;>omega)) only[go_sem,seval,t1,t2,t3,gqN,gaN,gvN,goN,e]
    generalize hN3:hp _ 1 N=N3
    have hC3:Chg [na m2 1,na m2 1] N N3:=aR hN3 rfl
    refine hK' _ _ ⟨true,rfl,hC3.weak (by simp), ?_⟩
    rw[IM hya]
    refine ⟨rfl, ?_,(hC3.get ovN (by simpa using nvq)).trans gvN,(hC3.get ooN (by simpa using noq)).trans goN⟩
    rw[←hN3];exact (bh oqN).trans aN)
  rcases hN with ⟨h,-⟩|⟨r,-,hC3,h⟩
  ·cases h
  ·by_cases hya:y.a=a
   ·rw[IN hya] at h
    obtain ⟨rfl,h1,h2,h3⟩:=h
    exact tail N 2 .ret y.v true hr hC3 h1 (by simp) (Or.inr ⟨rfl,rfl⟩) h2 h3 (by simp[cN,hya])
   ·rw[IM hya] at h
    obtain ⟨rfl,h1,h2,h3⟩:=h
    exact tail N 0 .none 0 false hr hC3 h1 (by simp) (Or.inl ⟨rfl,rfl⟩) h2 h3 (by simp[cN,hya])
end
section
variable {f f':fg} {m m' M:NH} {mp:D4} {j:Nat} {b:Cb} {id:Int} {c:Co} {v:NV} {mb:Mb} {now kept ver:List Int} {N:Nat}
theorem dV (h:CoC j f m mp b id c):(bS mp id c.pc c.st c.X b.w b.q).length=554:=gX h.x
theorem GW (h:CoC j f m mp b id c) {n:Nat} (hn:n<31) (z:Int):∃m',rT 105 [.ptr b.r 0,ii (n:Nat),iu z] m (.tup []) m'/\CoC j f m' mp b id ⟨c.pc,c.st,c.X.set n z,c.w⟩/\Kp (Tc j) f m f m':=by
 refine WF.ex1 fun K hK=> ?_
 refine WF.of_wpG (fun _=>rfl) ou (L:= [(.b .e,iu z),(.a .e,ii (n:Nat)),(.e,.ptr b.r 0)]) rfl ?_
 unfold vW
 have g:=h.g.g
 have hx:=h.x
 have hl:=dV h
 have hX:=pj (mp:=mp) (id:=id) (pc:=c.pc) (st:=c.st) (vw:=b.w) (q:=b.q) hx
 obtain ⟨m1,r1,hC1⟩:=pB (m:=m) hx hn z
 have h1:=h.kpN hC1
 have g1:=h1.g.g
 have o1:=h1.g.o
 have hl2:(List.map iu (c.X.set n z)).length=33:=by simp[hx]
 have hy:(c.X.set n z).length=33:=by simp[hx]
 have hsX:=zZ (mp:=mp) (id:=id) (pc:=c.pc) (st:=c.st) (vw:=b.w) (q:=b.q) hx hy
 rw[am]
 simp (config:={maxSteps:=1000000}) (disch:=first|assumption|omega|(apply ah;omega)|(apply ab;assumption)|(simp only[aJ]<;>omega)) only[go_sem,seval,g,hl,hX,r1.wf,g1,hl2,hsX]
 generalize hM:hp _ 0 m1=M
 obtain ⟨p1,p2⟩:=h1.put (pc:=c.pc) (st:=c.st) (X:=c.X.set n z) hy hM
 exact hK _ ⟨p1,(Kp.grow hC1).trans p2⟩
theorem Dd {k:Nat} (hk:k<64):∃m',rT 95 [iu (b9 k)] m (.tup [ii 0,.bool false]) m'/\m'=m:=by
 refine WF.ex1 fun K hK=> ?_
 refine WF.of_wpG (fun _=>rfl) re (L:= [(.e,iu (b9 k))]) rfl ?_
 unfold DA
 have e:b9 k<1048576:=by unfold b9;omega
 rw[am]
 simp (config:={maxSteps:=1000000}) (disch:=first|assumption|omega|(apply ah;omega)|(apply ab;assumption)|(simp only[aJ]<;>omega)) only[go_sem,seval,e]
 exact hK _ rfl
def d8 (j:Nat) (f:fg) (m m':NH) (mp:D4) (b:Cb) (id:Int) (v:NV) (z:Bool×List Ev×Co):Prop:=∃u w f',v= .tup [u,.bool z.1]/\CoC j f' m' mp ⟨b.r,b.q,w⟩ id z.2.2/\Sl m' u 4 (nI z.2.1)/\(∀i∈ids u,¬aP m i)/\Kp (Tc j) f m f' m'
theorem d8.pre {z:Bool×List Ev×Co} (hC:Chg [] m M) (h:d8 j f M m' mp b id v z):d8 j f m m' mp b id v z:=by
 obtain ⟨u,w,f',e,a1,a2,a3,a4⟩:=h
 exact ⟨u,w,f',e,a1,a2,fun i hi ho=>a3 i hi (hC.old ho),(Kp.grow hC).trans a4⟩
theorem j8 (d a:Nat):be (.ldr d a)= [ii 12,ii (d:Nat),ii (a:Nat),ii 0,ii 0,ii 0,ii 0]:=rfl
theorem oF (d a:Nat):be (.str d a)= [ii 13,ii (d:Nat),ii (a:Nat),ii 0,ii 0,ii 0,ii 0]:=rfl
theorem pm (h:CoC j f m mp b id c) (hpc:c.pc<100000) {l:List Ev} (hu:Sl m u 4 (nI l)) {m0:NH} {f0:fg} (k0:Kp (Tc j) f0 m0 f m) (hn:∀i∈ids u,¬aP m0 i) (hc:∀i∈ids u,f i=9):∃m',rT 68 [.ptr b.r 0,u] m (.tup [u,.bool true]) m'/\d8 j f0 m0 m' mp b id (.tup [u,.bool true]) (true,l,⟨c.pc+1,c.st,c.X,c.w⟩):=by
 obtain ⟨m',r,h1,k1⟩:=qC h hpc u hu.one
 refine ⟨m',r,u,b.w,f,rfl,h1, ?_,hn,k0.trans k1⟩
 exact ((⟨hu,hc⟩:SlC 9 f m u 4 (nI l)).kp k1 (by unfold Tc;omega)).o
theorem BR (h:CoC j f m mp b id c) (hpc:c.pc<100000) (hw:c.w.length<=1) {a k:Nat} (hd:d<31) (z:Int):∃v m',rT 108 [.ptr b.r 0,.agg (be (.ldr d a)),ii (b9 k),iu z] m v m'/\
 d8 j f m m' mp b id v (true, [⟨1,id,b9 k,cN c.w k z⟩],⟨c.pc+1,c.st,c.X.set d (cN c.w k z),c.w⟩):=by
 refine WF.ex fun K hK=> ?_
 refine WF.of_wpG (fun _=>rfl) nY (L:= [(.c .e,iu z),(.b .e,ii (b9 k)),(.a .e,.agg (be (.ldr d a))),(.e,.ptr b.r 0)]) rfl ?_
 unfold v9
 rw[j8]
 generalize hM:hp [(.n 0,.cells true [ii 12,ii (d:Nat),ii (a:Nat),ii 0,ii 0,ii 0,ii 0])] 1 m=M
 have hC:Chg [] m M:=aR hM rfl
 have kM:Kp (fun _=>False) f m (aG f m 9) M:=Kp.of hC (by simp) 9
 have gi:M.get (na m 0)=some (.cells true [ii 12,ii (d:Nat),ii (a:Nat),ii 0,ii 0,ii 0,ii 0]):=ba hM
 have oi:aP M (na m 0):=bj hM (by omega)
 have ci:aG f m 9 (na m 0)=9:=IM aD
 have h1:=h.kp kM (by simp)
 obtain ⟨v1,m1,r1,o1,hC1⟩:=mC h1
 obtain ⟨w2,m2,r2,⟨z2,ok,rfl,hlw⟩,hC2⟩:=D7 hw (o1.back fun i hi=>IL hi qu) k z
 have hC12:=hC1.trans hC2 (by simp)
 have h2:=h1.kpN hC12
 have gi2:=(hC12.get oi (by simp)).trans gi
 obtain ⟨m3,r3,h3,k3⟩:=GW h2 hd (cN c.w k z)
 have gi3:=(k3.g (hC12.old oi) (by rw[ci];unfold Tc;omega)).trans gi2
 have h3':=h3
 obtain ⟨u,m4,r4,e4,hC4,n4⟩:=iK h3' 1 (b9 k) (cN c.w k z)
 have k34:Kp (Tc j) (aG f m 9) m2 (aG (aG f m 9) m3 9) m4:=k3.trans (Kp.of hC4 (by simp) 9)
 have h4:=h3.kp (Kp.of hC4 (by simp) 9 (T:=fun _=>False)) (by simp)
 have kall:Kp (Tc j) f m (aG (aG f m 9) m3 9) m4:=(kM.weak (by simp)).trans ((Kp.grow hC12).trans k34)
 obtain ⟨m5,r5,hA⟩:=pm h4 hpc e4 kall (fun i hi ho=>n4 i hi (k3.old (hC12.old (hC.old ho)))) (fun i hi=>IM (n4 i hi))
 cases ok with
 |true=>
  rw[IN rfl] at hlw
  rw[hlw] at r3 r4 hA hK
  simp (config:={maxSteps:=1000000}) (disch:=first|assumption|omega|(apply ah;omega)|(apply ab;assumption)|(simp only[aJ]<;>omega)) only[go_sem,seval,hM,gi,r1.wf',r2.wf',gi2,r3.wf',gi3,r4.wf',r5.wf']
  exact hK _ _ hA
 |false=>
  rw[IM (by simp)] at hlw
  rw[hlw] at r3 r4 hA hK
  simp (config:={maxSteps:=1000000}) (disch:=first|assumption|omega|(apply ah;omega)|(apply ab;assumption)|(simp only[aJ]<;>omega)) only[go_sem,seval,hM,gi,r1.wf',r2.wf',gi2,r3.wf',gi3,r4.wf',r5.wf']
  exact hK _ _ hA
theorem zw (h:CoC j f m mp b id c) (hpc:c.pc<100000) (hw:c.w.length<=1) {a k:Nat} (hd:d<31) (z:Int):∃v m',rT 98 [.ptr b.r 0,.agg (be (.ldr d a)),ii (b9 k),iu z] m v m'/\
 d8 j f m m' mp b id v (true, [⟨1,id,b9 k,cN c.w k z⟩],⟨c.pc+1,c.st,c.X.set d (cN c.w k z),c.w⟩):=by
 refine WF.ex fun K hK=> ?_
 refine WF.of_wpG (fun _=>rfl) mJ (L:= [(.c .e,iu z),(.b .e,ii (b9 k)),(.a .e,.agg (be (.ldr d a))),(.e,.ptr b.r 0)]) rfl ?_
 unfold zk
 generalize hM:hp [(.n 0,.cells true (be (.ldr d a)))] 1 m=M
 have hC:Chg [] m M:=aR hM rfl
 have gi:M.get (na m 0)=some (.cells true (be (.ldr d a))):=ba hM
 have h1:=h.kpN hC
 obtain ⟨v,m1,r1,u,w,f',hv,a1,a2,a3,a4⟩:=BR h1 hpc hw (a:=a) (k:=k) hd z
 subst hv
 rw[j8] at hM gi r1 ⊢
 simp (config:={maxSteps:=1000000}) (disch:=first|assumption|omega|(apply ah;omega)|(apply ab;assumption)|(simp only[aJ]<;>omega)) only[go_sem,seval,hM,gi,r1.wf']
 exact hK _ _ ⟨u,w,f',rfl,a1,a2,fun i hi ho=>a3 i hi (hC.old ho),(Kp.grow hC).trans a4⟩
theorem y0 (h:CoC j f m mp b id c) (hpc:c.pc<100000) (hw:c.w.length<1000) {a k:Nat} (hd:d<31) (hk:k<64) (z:Int):∃v m',rT 98 [.ptr b.r 0,.agg (be (.str d a)),ii (b9 k),iu z] m v m'/\
 d8 j f m m' mp b id v (true, [],⟨c.pc+1,c.st,c.X,c.w++ [⟨k,eL c.X d⟩]⟩):=by
 refine WF.ex fun K hK=> ?_
 refine WF.of_wpG (fun _=>rfl) mJ (L:= [(.c .e,iu z),(.b .e,ii (b9 k)),(.a .e,.agg (be (.str d a))),(.e,.ptr b.r 0)]) rfl ?_
 unfold zk
 rw[oF]
 generalize hM:hp [(.n 0,.cells true [ii 13,ii (d:Nat),ii (a:Nat),ii 0,ii 0,ii 0,ii 0])] 1 m=M
 have hC:Chg [] m M:=aR hM rfl
 have gi:M.get (na m 0)=some (.cells true [ii 13,ii (d:Nat),ii (a:Nat),ii 0,ii 0,ii 0,ii 0]):=ba hM
 have oi:aP M (na m 0):=bj hM (by omega)
 have h1:=h.kpN hC
 have g1:=h1.g.g
 have hl:=dV h
 have hX:=pj (mp:=mp) (id:=id) (pc:=c.pc) (st:=c.st) (vw:=b.w) (q:=b.q) h.x
 obtain ⟨m1,r1,hC1⟩:=kx (m:=M) h.x hd
 have h2:=h1.kpN hC1
 have gi1:=(hC1.get oi (by simp)).trans gi
 have g2:=h2.g.g
 obtain ⟨m2,r2,f',w,h3,k3⟩:=GB h2 ⟨k,eL c.X d⟩ hk hw
 obtain ⟨m3,r3,h4,k4⟩:=qC h3 hpc .nils rfl
 have hs:bo 4 (.agg (c.X.map iu)) (.agg (c.X.map iu))=true:=dU fun v hv=>by obtain ⟨z,-,rfl⟩:=List.mem_map.1 hv;trivial
 have eadr:4096+8*(k:Int)=b9 k:=rfl
 simp (config:={maxSteps:=1000000}) (disch:=first|assumption|omega|(apply ah;omega)|(apply ab;assumption)|(simp only[aJ]<;>omega)) only[go_sem,seval,hM,gi,g1,hl,hX,r1.wf',gi1,g2,hs,r2.wf',r3.wf']
 exact hK _ _ ⟨.nils,w,f',rfl,h4,Sl.nil,by simp[ids],(Kp.grow (hC.trans hC1 (by simp))).trans (k3.trans k4)⟩
theorem zS (h:CoC j f m mp b id c) (hm:MeC f m mb now kept ver N) (hmp:mb.p=mp) (hpc:c.pc<100000) (hw:c.w.length<=1) {a k:Nat} (hd:d<31) (ha:a<31) (hk:k<now.length) (hak:eL c.X a=b9 k):
 (∃v m',rT 69 [.ptr b.r 0,.agg (be (.ldr d a))] m v m'/\d8 j f m m' mp b id v (true, [⟨1,id,b9 k,cN c.w k (eL now k)⟩],⟨c.pc+1,c.st,c.X.set d (cN c.w k (eL now k)),c.w⟩))/\
 (∃v m',rT 69 [.ptr b.r 0,.agg (be (.str d a))] m v m'/\d8 j f m m' mp b id v (true, [],⟨c.pc+1,c.st,c.X,c.w++ [⟨k,eL c.X d⟩]⟩)):=by
 have key:∀(kd:Int) (Z:NV->NH->Prop),(∀M,Chg [] m M->∃v m',rT 98 [.ptr b.r 0,.agg [ii kd,ii (d:Nat),ii (a:Nat),ii 0,ii 0,ii 0,ii 0],ii (b9 k),iu (eL now k)] M (.tup [v,.bool true]) m'/\Z v m')->
  ∃w m',rT 69 [.ptr b.r 0,.agg [ii kd,ii (d:Nat),ii (a:Nat),ii 0,ii 0,ii 0,ii 0]] m w m'/\∃v,w= .tup [v,.bool true]/\Z v m':=by
  intro kd Z hZ
  refine WF.ex fun K hK=> ?_
  refine WF.of_wpG (fun _=>rfl) rB (L:= [(.a .e,.agg [ii kd,ii (d:Nat),ii (a:Nat),ii 0,ii 0,ii 0,ii 0]),(.e,.ptr b.r 0)]) rfl ?_
  unfold BE
  generalize hM:hp [(.n 0,.cells true [ii kd,ii (d:Nat),ii (a:Nat),ii 0,ii 0,ii 0,ii 0])] 1 m=M
  have hC:Chg [] m M:=aR hM rfl
  have gi:M.get (na m 0)=some (.cells true [ii kd,ii (d:Nat),ii (a:Nat),ii 0,ii 0,ii 0,ii 0]):=ba hM
  have oi:aP M (na m 0):=bj hM (by omega)
  have h1:=h.kpN hC
  have g1:=h1.g.g
  have hl:=dV h
  have hX:=pj (mp:=mp) (id:=id) (pc:=c.pc) (st:=c.st) (vw:=b.w) (q:=b.q) h.x
  obtain ⟨m1,r1,hC1⟩:=kx (m:=M) h.x ha
  rw[hak] at r1
  have gi1:=(hC1.get oi (by simp)).trans gi
  have h2:=h1.kpN hC1
  have g2:=h2.g.g
  have hm2:=(hm.kpN hC).kpN hC1
  have hk64:k<64:=by have:=hm.l;omega
  obtain ⟨m2,r2,rfl⟩:=Dd (m:=m1) hk64
  obtain ⟨m3,r3,rfl⟩:=Cv hm2 hk
  rw[hmp] at r3
  obtain ⟨v,m4,r4,hz⟩:=hZ m3 (hC.trans hC1 (by simp))
  have hs:bo 4 (.agg (c.X.map iu)) (.agg (c.X.map iu))=true:=dU fun v hv=>by obtain ⟨z,-,rfl⟩:=List.mem_map.1 hv;trivial
  have hmod:(b9 k+0) % 18446744073709551616=b9 k:=by unfold b9;omega
  have hmod2:b9 k % 18446744073709551616=b9 k:=by unfold b9;omega
  have hb:¬9223372036854775807<b9 k:=by unfold b9;omega
  have hti:b9 k<9223372036854775808:=by unfold b9;omega
  have h0:0<=b9 k:=by unfold b9;omega
  simp (config:={maxSteps:=1000000}) (disch:=first|assumption|omega|(apply ah;omega)|(apply ab;assumption)|(simp only[aJ]<;>omega)) only[go_sem,seval,hM,gi,g1,hl,hX,r1.wf',gi1,g2,hs,hmod,r2.wf',hb,IF,r3.wf',r4.wf']
  exact hK _ _ ⟨v,rfl,hz⟩
 have hk64:k<64:=by have:=hm.l;omega
 constructor
 ·obtain ⟨w,m',r,v,rfl,hz⟩:=key 12 (fun v m'=>d8 j f m m' mp b id (.tup [v,.bool true]) (true, [⟨1,id,b9 k,cN c.w k (eL now k)⟩],⟨c.pc+1,c.st,c.X.set d (cN c.w k (eL now k)),c.w⟩)) fun M hC=>by
   obtain ⟨v,m',r,hA⟩:=zw (h.kpN hC) hpc hw (a:=a) (k:=k) hd (eL now k)
   obtain ⟨u,w,f',rfl,rest⟩:=_root_.id hA
   exact ⟨u,m',r,d8.pre hC hA⟩
  exact ⟨_,m',r,hz⟩
 ·obtain ⟨w,m',r,v,rfl,hz⟩:=key 13 (fun v m'=>d8 j f m m' mp b id (.tup [v,.bool true]) (true, [],⟨c.pc+1,c.st,c.X,c.w++ [⟨k,eL c.X d⟩]⟩)) fun M hC=>by
   obtain ⟨v,m',r,hA⟩:=y0 (h.kpN hC) hpc (by omega) (a:=a) (k:=k) hd hk64 (eL now k)
   obtain ⟨u,w,f',rfl,rest⟩:=_root_.id hA
   exact ⟨u,m',r,d8.pre hC hA⟩
  exact ⟨_,m',r,hz⟩
theorem Db (h:CoC j f m mp b id c):∃m',rT 94 [.ptr b.r 549] m (ii (c.w.length:Nat)) m'/\m'=m:=by
 refine WF.ex1 fun K hK=> ?_
 refine WF.of_wpG (fun _=>rfl) sL (L:= [(.e,.ptr b.r 549)]) rfl ?_
 unfold Ek
 have g:=h.g.g
 have hx:=h.x
 have hlen:=h.w.o.sl.len
 rw[List.length_map] at hlen
 rw[am]
 simp (config:={maxSteps:=1000000}) (disch:=first|assumption|omega|(apply ah;omega)|(apply ab;assumption)|(simp only[aJ]<;>omega)) only[go_sem,seval,g,rD,hlen]
 exact hK _ rfl
theorem DC (h:CoC j f m mp b id c) (hpc:c.pc<100000):∃v m',rT 67 [.ptr b.r 0,ii 18] m v m'/\d8 j f m m' mp b id v (cK id .dmb now c):=by
 refine WF.ex fun K hK=> ?_
 refine WF.of_wpG (fun _=>rfl) sw (L:= [(.a .e,ii 18),(.e,.ptr b.r 0)]) rfl ?_
 unfold CY
 have g:=h.g.g
 obtain ⟨m1,r1,rfl⟩:=Db h
 by_cases h0:c.w.length=0
 ·have e:cK id .dmb now c=(true, [],⟨c.pc+1,c.st,c.X,c.w⟩):=IN h0
  rw[e] at hK
  rw[h0] at r1
  obtain ⟨m2,r2,h2,k2⟩:=qC h hpc .nils rfl
  rw[am]
  simp (config:={maxSteps:=1000000}) (disch:=first|assumption|omega|(apply ah;omega)|(apply ab;assumption)|(simp only[aJ]<;>omega)) only[go_sem,seval,r1.wf',r2.wf']
  exact hK _ _ ⟨.nils,b.w,f,rfl,h2,Sl.nil,by simp[ids],k2⟩
 ·have e:cK id .dmb now c=(false, [],c):=IM h0
  rw[e] at hK
  rw[am]
  simp (config:={maxSteps:=1000000}) (disch:=first|assumption|omega|(apply ah;omega)|(apply ab;assumption)|(simp only[aJ]<;>omega)) only[go_sem,seval,r1.wf',h0]
  exact hK _ _ ⟨.nils,b.w,f,rfl,h,Sl.nil,by simp[ids],Kp.refl⟩
def sX (i:In) (c:Co) (n:Nat):Prop:=match i with
 | .ldr _ a=>∃k,k<n/\eL c.X a=b9 k
 | .str _ a=>∃k,k<n/\eL c.X a=b9 k
 |_=>True
theorem sn (k:Nat):EB (b9 k)=k:=by unfold EB b9;omega
theorem IA (h:CoC j f m mp b id c) (hm:MeC f m mb now kept ver N) (hmp:mb.p=mp) (hpc:c.pc<100000) (hw:c.w.length<=1) {i:In} (hi:∀d n,i≠.movz d n) (ho:yA i) (ha:sX i c now.length):
 ∃v m',rT 44 [.ptr b.r 0,.agg (be i)] m v m'/\d8 j f m m' mp b id v (cK id i now c):=by
 refine WF.ex fun K hK=> ?_
 refine WF.of_wpG (fun _=>rfl) sN (L:= [(.a .e,.agg (be i)),(.e,.ptr b.r 0)]) rfl ?_
 unfold Em
 generalize hM:hp [(.n 0,.cells true (be i))] 1 m=M
 have hC:Chg [] m M:=aR hM rfl
 have gi:M.get (na m 0)=some (.cells true (be i)):=ba hM
 have oi:aP M (na m 0):=bj hM (by omega)
 have h1:=h.kpN hC
 have hm1:=hm.kpN hC
 have g1:=h1.g.g
 have o1:=h1.g.o
 cases i with
 |movz d n=>exact IL rfl (hi d n)
 |ldr d a=>
  obtain ⟨k,hk,hak⟩:=ha
  obtain ⟨⟨v,m2,r2,hA⟩,-⟩:=zS h1 hm1 hmp hpc hw ho.1 ho.2 hk hak
  have e:cK id (.ldr d a) now c=(true, [⟨1,id,b9 k,cN c.w k (eL now k)⟩],⟨c.pc+1,c.st,c.X.set d (cN c.w k (eL now k)),c.w⟩):=by simp only[cK];rw[hak,sn]
  rw[e] at hK
  obtain ⟨u,w,f',rfl,rest⟩:=_root_.id hA
  rw[j8] at hM gi r2 ⊢
  simp (config:={maxSteps:=1000000}) (disch:=first|assumption|omega|(apply ah;omega)|(apply ab;assumption)|(simp only[aJ]<;>omega)) only[go_sem,seval,hM,gi,r2.wf']
  exact hK _ _ (d8.pre hC hA)
 |str d a=>
  obtain ⟨k,hk,hak⟩:=ha
  obtain ⟨-,v,m2,r2,hA⟩:=zS h1 hm1 hmp hpc hw ho.1 ho.2 hk hak
  have e:cK id (.str d a) now c=(true, [],⟨c.pc+1,c.st,c.X,c.w++ [⟨k,eL c.X d⟩]⟩):=by simp only[cK];rw[hak,sn]
  rw[e] at hK
  obtain ⟨u,w,f',rfl,rest⟩:=_root_.id hA
  rw[oF] at hM gi r2 ⊢
  simp (config:={maxSteps:=1000000}) (disch:=first|assumption|omega|(apply ah;omega)|(apply ab;assumption)|(simp only[aJ]<;>omega)) only[go_sem,seval,hM,gi,r2.wf']
  exact hK _ _ (d8.pre hC hA)
 |dmb=>
  obtain ⟨v,m2,r2,hA⟩:=DC (now:=now) h1 hpc
  obtain ⟨u,w,f',rfl,rest⟩:=_root_.id hA
  change hp [(.n 0,.cells true [ii 18,ii 0,ii 0,ii 0,ii 0,ii 0,ii 0])] 1 m=M at hM
  change M.get (na m 0)=some (.cells true [ii 18,ii 0,ii 0,ii 0,ii 0,ii 0,ii 0]) at gi
  rw[show be .dmb= [ii 18,ii 0,ii 0,ii 0,ii 0,ii 0,ii 0] from rfl]
  simp (config:={maxSteps:=1000000}) (disch:=first|assumption|omega|(apply ah;omega)|(apply ab;assumption)|(simp only[aJ]<;>omega)) only[go_sem,seval,hM,gi,r2.wf']
  exact hK _ _ (d8.pre hC hA)
 |hlt=>
  change hp [(.n 0,.cells true [ii 22,ii 0,ii 0,ii 0,ii 0,ii 0,ii 0])] 1 m=M at hM
  change M.get (na m 0)=some (.cells true [ii 22,ii 0,ii 0,ii 0,ii 0,ii 0,ii 0]) at gi
  rw[show be .hlt= [ii 22,ii 0,ii 0,ii 0,ii 0,ii 0,ii 0] from rfl]
  have hl:=dV h
  obtain ⟨M1,hM1⟩:∃M1,hp [(.o b.r,.cells true (bS mp id c.pc 1 c.X b.w b.q))] 0 M=M1:=⟨_,rfl⟩
  obtain ⟨h2,k2⟩:=h1.put (pc:=c.pc) (st:=1) h.x hM1
  obtain ⟨u,m3,r3,e3,hC3,n3⟩:=iK h2 10 0 0
  have k3:Kp (fun _=>False) f M1 (aG f M1 9) m3:=Kp.of hC3 (by simp) 9
  have h3:=h2.kp k3 (by simp)
  obtain ⟨m4,r4,hA⟩:=pm h3 hpc e3 (k2.trans (k3.weak (by simp))) (fun i hi ho=>n3 i hi (k2.old ho)) (fun i hi=>IM (n3 i hi))
  have hM1':M.put b.r (.cells true (bS mp id c.pc 1 c.X b.w b.q))=M1:=by rw[←hM1,←qO o1,am]
  simp (config:={maxSteps:=1000000}) (disch:=first|assumption|omega|(apply ah;omega)|(apply ab;assumption)|(simp only[aJ]<;>omega)) only[go_sem,seval,hM,gi,g1,hl,z6,hM1',r3.wf',r4.wf']
  exact hK _ _ (d8.pre hC hA)
 |svc=>
  change hp [(.n 0,.cells true [ii 23,ii 0,ii 0,ii 0,ii 0,ii 0,ii 0])] 1 m=M at hM
  change M.get (na m 0)=some (.cells true [ii 23,ii 0,ii 0,ii 0,ii 0,ii 0,ii 0]) at gi
  rw[show be .svc= [ii 23,ii 0,ii 0,ii 0,ii 0,ii 0,ii 0] from rfl]
  have hl:=dV h
  have hX:=pj (mp:=mp) (id:=id) (pc:=c.pc) (st:=c.st) (vw:=b.w) (q:=b.q) h.x
  obtain ⟨m2,r2,hC2⟩:=kx (m:=M) h.x (n:=0) (by omega)
  have h2:=h1.kpN hC2
  obtain ⟨u,m3,r3,e3,hC3,n3⟩:=iK h2 4 0 (eL c.X 0)
  have k3:Kp (fun _=>False) f m2 (aG f m2 9) m3:=Kp.of hC3 (by simp) 9
  have h3:=h2.kp k3 (by simp)
  obtain ⟨m4,r4,hA⟩:=pm h3 hpc e3 ((Kp.grow hC2).trans (k3.weak (by simp))) (fun i hi ho=>n3 i hi (hC2.old ho)) (fun i hi=>IM (n3 i hi))
  rw[show ((0:Nat):Int)=0 from rfl] at r2
  simp (config:={maxSteps:=1000000}) (disch:=first|assumption|omega|(apply ah;omega)|(apply ab;assumption)|(simp only[aJ]<;>omega)) only[go_sem,seval,hM,gi,g1,hl,hX,r2.wf',r3.wf',r4.wf']
  exact hK _ _ (d8.pre hC hA)
end
structure CdOk (W:List Int) (code:List In):Prop where
 l:W.length=code.length
 k:∀(n:Nat) i,code[n]? =some i->∃w,W[n]? =some w/\Kept w i/\yA i
 s:code.length<100000
section
variable {f f':fg} {m m' M:NH} {mp:D4} {j:Nat} {b:Cb} {id:Int} {c:Co} {v vc:NV} {mb:Mb} {now kept ver W:List Int} {code:List In} {N:Nat}
theorem CQ (h:CoC j f m mp b id c) (hm:MeC f m mb now kept ver N) (hmp:mb.p=mp) (hc:SlC 8 f m vc 1 (mu W)) (hW:CdOk W code) (hw:c.w.length<=1) (ha:∀i,code[c.pc]? =some i->sX i c now.length) (hpc:c.pc<=code.length):
 ∃v m',rT 20 [.ptr b.r 0,vc] m v m'/\d8 j f m m' mp b id v (dO id code now c):=by
 refine WF.ex fun K hK=> ?_
 refine WF.of_wpG (fun _=>rfl) rF (L:= [(.a .e,vc),(.e,.ptr b.r 0)]) rfl ?_
 unfold De
 have g:=h.g.g
 have o:=h.g.o
 have hx:=h.x
 have hl:=dV h
 have hX:=pj (mp:=mp) (id:=id) (pc:=c.pc) (st:=c.st) (vw:=b.w) (q:=b.q) h.x
 have hl0:(bS mp id c.pc 0 c.X b.w b.q).length=554:=gX hx
 have hX0:=pj (mp:=mp) (id:=id) (pc:=c.pc) (st:=0) (vw:=b.w) (q:=b.q) h.x
 have hlen:=hc.o.len
 rw[List.length_map,hW.l] at hlen
 have hs8:=hW.s
 by_cases hst:c.st≠0
 ·have e:dO id code now c=(false, [],c):=IN hst
  rw[e] at hK
  rw[am]
  simp (config:={maxSteps:=1000000}) (disch:=first|assumption|omega|(apply ah;omega)|(apply ab;assumption)|(simp only[aJ]<;>omega)) only[go_sem,seval,g,Gy,hst]
  exact hK _ _ ⟨.nils,b.w,f,rfl,h,Sl.nil,by simp[ids],Kp.refl⟩
 have hst0:c.st=0:=by omega
 by_cases hq:code.length<=c.pc
 ·have e:dO id code now c=(true, [⟨11,id,0,0⟩],⟨c.pc,2,c.X,c.w⟩):=by unfold dO;rw[IM hst,List.getElem?_eq_none hq]
  rw[e] at hK
  obtain ⟨v,m1,r1,w,rfl,e1,e2,h2,k2⟩:=zI h
  rw[am]
  simp (config:={maxSteps:=1000000}) (disch:=first|assumption|omega|(apply ah;omega)|(apply ab;assumption)|(simp only[aJ]<;>omega)) only[go_sem,seval,g,Gy,hst0,EH,hlen,r1.wf']
  exact hK _ _ ⟨w,b.w,f,rfl,h2,e1,e2,k2⟩
 have hlt:c.pc<code.length:=by omega
 obtain ⟨w,hwn,hkp,hio⟩:=hW.k c.pc code[c.pc] (List.getElem?_eq_getElem hlt)
 have hai:=ha code[c.pc] (List.getElem?_eq_getElem hlt)
 have hee:dO id code now c=cK id code[c.pc] now c:=by unfold dO;rw[IM hst,List.getElem?_eq_getElem hlt]
 rw[hee] at hK
 generalize hi:code[c.pc]=i at *
 obtain ⟨id1,off,wr,cs,a1,a2,a3,a4,a5⟩:=hc.o.at c.pc (by rw[List.length_map,hW.l];exact hlt)
 have a5':cs[off]? =some (iw w):=by
  have:=fW a5 0 (by omega)
  rw[Nat.add_zero] at this
  rw[this,List.getElem_map,(List.getElem?_eq_some_iff.1 hwn).2];rfl
 have hil:=io i
 have rd:∀m,rT 42 [iw w] m (.tup [.agg (be i),ii 0]) m:=fun m=>nG.kept hkp.d m
 have hit:(be i).take 7=be i:=List.take_of_length_le (by omega)
 generalize hM:hp [(.n 0,.cells true (be i))] 1 m=M
 have hC:Chg [] m M:=aR hM rfl
 have gi:M.get (na m 0)=some (.cells true (be i)):=ba hM
 have h1:=h.kpN hC
 have hm1:=hm.kpN hC
 have g1:=h1.g.g
 have o1:=h1.g.o
 generalize hM2:hp [(.n 1,.cells true (List.replicate 33 (iu 0))),(.n 0,.cells true (be i)),(.n 0,.cells true [ii 0,ii 0,ii 0,ii 0,ii 0,ii 0,ii 0])] 2 m=M2
 have hC2:Chg [] m M2:=aR hM2 rfl
 have h2:=h.kpN hC2
 have hm2:=hm.kpN hC2
 have g2:=h2.g.g
 have gi2:M2.get (na m 0)=some (.cells true (be i)):=ba hM2
 have gr2:M2.get (na m 1)=some (.cells true (List.replicate 33 (iu 0))):=ba hM2
 have oi2:aP M2 (na m 0):=bj hM2 (by omega)
 have or2:aP M2 (na m 1):=bj hM2 (by omega)
 have hM2':=hM2
 simp only[List.replicate_succ,List.replicate_zero] at hM2'
 have hs:bo 4 (.agg (c.X.map iu)) (.agg (c.X.map iu))=true:=dU fun v hv=>by obtain ⟨z,-,rfl⟩:=List.mem_map.1 hv;trivial
 have hst1:bo 4 (.agg (be i)) (.agg (be i))=true:=dU fun v hv=>by cases i<;>simp[be] at hv<;>(rcases hv with rfl|rfl|rfl|rfl|rfl|rfl|rfl)<;>trivial
 have hrep:(List.replicate 33 (iu 0)).length=33:=List.length_replicate
 have hrd:(List.replicate 33 (iu 0)).drop 33= []:=by rw[List.drop_eq_nil_of_le (by rw[List.length_replicate];omega)]
 have hl33:=iU hx
 have ht33:=jJ hx
 by_cases hmv:∃d n,i= .movz d n
 ·obtain ⟨d,n,rfl⟩:=hmv
  obtain ⟨m3,r3,hC3⟩:=yH (m:=M2) hx hio.1 hio.2 hkp.r
  have gi3:=(hC3.get oi2 (by simp)).trans gi2
  have gr3:=(hC3.get or2 (by simp)).trans gr2
  have or3:=hC3.old or2
  have hC23:=hC2.trans hC3 (by simp)
  have h3:=h.kpN hC23
  have g3:=h3.g.g
  have o3:=h3.g.o
  have hl2:((c.X.set d (n:Int)).map iu).length=33:=by simp[hx]
  have ht2:((c.X.set d (n:Int)).map iu).take 33=(c.X.set d (n:Int)).map iu:=List.take_of_length_le (by omega)
  have hy:(c.X.set d (n:Int)).length=33:=by simp[hx]
  have hsX:=zZ (mp:=mp) (id:=id) (pc:=c.pc) (st:=0) (vw:=b.w) (q:=b.q) hx hy
  have hl4:(bS mp id c.pc 0 (c.X.set d n) b.w b.q).length=554:=gX hy
  have nr:b.r≠na m 1:=fun e=>aD (e▸o)
  have nr':=nr.symm
  rw[am]
  simp (config:={maxSteps:=1000000}) (disch:=first|assumption|omega|(apply ah;omega)|(apply ab;assumption)|(simp only[aJ]<;>omega)) only[go_sem,seval,g,Gy,hst0,EH,hlen,a1,a2,a5',(rd _).wf,hl0,hX0,hil,hit,hs,hst1,hM2',r3.wf,g3,gi3,gr3,hrep,hrd,hl2,ht2,hsX,hl4,z9]
  generalize hM3:hp _ 0 m3=M3
  have hC4:Chg [b.r,b.r,na m 1] m3 M3:=aR hM3 rfl
  have hCA:Chg [b.r] m M3:=(hC23.weak (T:= [b.r,na m 1]) (by simp)).trans hC4 (by simp) |>.weak fun i hi ho=>by
   simp only[IS,IR,or_false] at hi ⊢
   rcases hi with rfl|rfl
   ·rfl
   ·exact IL ho aD
  have hkpA:Kp (Tc j) f m f M3:=Kp.same hCA fun i hi _=>by rw[one hi];exact Or.inl h.g.c
  have k10:Kp (fun a=>a=10+3*j) f m f M3:=Kp.same hCA fun i hi _=>by rw[one hi];exact h.g.c
  refine hK _ _ ⟨.nils,b.w,f,rfl,⟨⟨?_,hC4.old o3,h.g.c⟩,h.q.kp k10 (by omega),h.w.kp k10 (by omega),hy,h.wa,h.wl,h.kc⟩,Sl.nil,by simp[ids],hkpA⟩
  rw[←hM3]
  have e:cK id (.movz d n) now c=(true, [],⟨c.pc+1,c.st,c.X.set d n,c.w⟩):=rfl
  rw[e,hst0]
  push_cast
  exact (bh o3).trans aN
 ·obtain ⟨m3,r3,hC3⟩:=zp (m:=M2) hx (i:=i) (fun d n e=>hmv ⟨d,n,e⟩) hkp.r
  have gi3:=(hC3.get oi2 (by simp)).trans gi2
  have gr3:=(hC3.get or2 (by simp)).trans gr2
  have or3:=hC3.old or2
  have oi3:=hC3.old oi2
  have hC23:=hC2.trans hC3 (by simp)
  have h3:=h.kpN hC23
  have g3:=h3.g.g
  have o3:=h3.g.o
  generalize hM4:hp [(.o (na m 1),.cells true (c.X.map iu))] 0 m3=M4
  have hC4:Chg [na m 1] m3 M4:=aR hM4 rfl
  have hCA:Chg [] m M4:=(hC23.weak (T:= [na m 1]) (by simp)).trans hC4 (fun i hi _=>hi) |>.weak fun i hi ho=>by rw[one hi] at ho;exact IL ho aD
  have h4:=h.kpN hCA
  have hm4:=hm.kpN hCA
  have nio:na m 0≠na m 1:=fun e=>by have:=dM e;omega
  have gi4:M4.get (na m 0)=some (.cells true (be i)):=(hC4.get oi3 (by simpa using nio)).trans gi3
  obtain ⟨v,m5,r5,hA⟩:=IA h4 hm4 hmp (by omega) hw (fun d n e=>hmv ⟨d,n,e⟩) hio hai
  obtain ⟨u,w',f',rfl,rest⟩:=_root_.id hA
  rw[am]
  simp (config:={maxSteps:=1000000}) (disch:=first|assumption|omega|(apply ah;omega)|(apply ab;assumption)|(simp only[aJ]<;>omega)) only[go_sem,seval,g,Gy,hst0,EH,hlen,a1,a2,a5',(rd _).wf,hl0,hX0,hil,hit,hs,hst1,hM2',r3.wf,g3,gi3,gr3,hrep,hrd,hl33,ht33,hM4,gi4,r5.wf']
  exact hK _ _ (d8.pre hCA hA)
end
section
variable {f f':fg} {m m' M:NH} {mp:D4} {j:Nat} {b:Cb} {id:Int} {c:Co} {v vc:NV} {mb:Mb} {now kept ver W:List Int} {code:List In} {N:Nat}
theorem wc {i:D4} {o:Nat}:cz .ptr .eql (.ptr i o) .nilp=some (.bool false):=_root_.id rfl
theorem Gk {i:D4} {o:Nat}:cz .ptr .neq (.ptr i o) .nilp=some (.bool true):=_root_.id rfl
noncomputable def vR:List NV:= [.nilp,ii 0,ii 0,ii 0]++List.replicate 545 (iu 0)++ [.nils,.nilm,ii 0,ii 0,.bool false]
theorem GT:([.nilp,.int .i64 (.lit 0),.int .i64 (.lit 0),.int .i64 (.lit 0)]++List.replicate 545 (.int .u64 (.lit 0))++ [.nils,.nilm,.int .i64 (.lit 0),.int .i64 (.lit 0),.bool false]:List NV)=vR:=rfl
theorem vV:vR.length=554:=by unfold vR;rw[List.length_append,List.length_append,List.length_replicate];rfl
theorem CX (mp q:D4) (id pc:Int) (X:List Int) (hX:X.length=33):(List.take 4 (((vR.set 0 (.ptr mp 0)).set 1 (ii id)).set 2 (ii pc))++X.map iu++List.drop 37 (((vR.set 0 (.ptr mp 0)).set 1 (ii id)).set 2 (ii pc))).length=554/\
 (List.take 4 (((vR.set 0 (.ptr mp 0)).set 1 (ii id)).set 2 (ii pc))++X.map iu++List.drop 37 (((vR.set 0 (.ptr mp 0)).set 1 (ii id)).set 2 (ii pc))).set 550 (.map q)=bS mp id pc 0 X .nils q:=by
 have e1:((vR.set 0 (.ptr mp 0)).set 1 (ii id)).set 2 (ii pc)= [.ptr mp 0,ii id,ii pc,ii 0]++(List.replicate 545 (iu 0)++ [.nils,.nilm,ii 0,ii 0,.bool false]):=by
  unfold vR
  simp only[List.cons_append,List.nil_append,List.set_cons_zero,List.set_cons_succ]
 have e2:List.drop 37 ([.ptr mp 0,ii id,ii pc,ii 0]++(List.replicate 545 (iu 0)++ [.nils,.nilm,ii 0,ii 0,.bool false]))=vB++ [.nils,.nilm,ii 0,ii 0,.bool false]:=by
  show List.drop 33 (List.replicate 545 (iu 0)++ [.nils,.nilm,ii 0,ii 0,.bool false])=_
  rw[List.drop_append_of_le_length (by rw[List.length_replicate];omega),List.drop_replicate];rfl
 have e3:List.take 4 ([.ptr mp 0,ii id,ii pc,ii 0]++(List.replicate 545 (iu 0)++ [.nils,.nilm,ii 0,ii 0,.bool false]))= [.ptr mp 0,ii id,ii pc,ii 0]:=rfl
 rw[e1,e2,e3]
 constructor
 ·simp only[List.length_append,List.length_map,List.length_cons,List.length_nil,dp,hX]
 ·have hx:(X.map iu).length=33:=by rw[List.length_map,hX]
  rw[List.append_assoc,List.set_append_right _ _ (by simp),List.set_append_right _ _ (by rw[hx];simp),hx,List.set_append_right _ _ (by rw[dp];simp),dp]
  simp only[List.length_cons,List.length_nil,Nat.reduceAdd,Nat.reduceSub,List.set_cons_succ,List.set_cons_zero]
  unfold bS
  generalize vB=z
  rfl
theorem u6 (j:Nat) (id:Int) (pc:Nat):∃v m',rT 40 [.ptr mp 0,ii id,ii (pc:Nat)] m v m'/\∃b f',v= .ptr b.r 0/\CoC j f' m' mp b id (jD pc)/\Kp (fun _=>False) f m f' m'/\¬aP m b.r:=by
 refine WF.ex fun K hK=> ?_
 refine WF.of_wpG (fun _=>rfl) rg (L:= [(.b .e,ii (pc:Nat)),(.a .e,ii id),(.e,.ptr mp 0)]) rfl ?_
 unfold BA
 have hz:(List.replicate 33 (0:Int)).length=33:=List.length_replicate
 have r1:∃m1,rT 58 [.agg (List.replicate 33 (iu 0)),ii 28,iu 1048576] m (.agg (x0.map iu)) m1/\Chg [] m m1:=by
  obtain ⟨m1,r1,hC1⟩:=pB (m:=m) hz (n:=28) (by omega) 1048576
  rw[List.map_replicate] at r1
  exact ⟨m1,r1,hC1⟩
 obtain ⟨m1,r1,hC1⟩:=r1
 simp only[List.replicate_succ,List.replicate_zero] at r1
 have hcz:=vV
 have hx0:(x0.map iu).length=33:=by rw[List.length_map];rfl
 rw[GT,am]
 have hx33:x0.length=33:=rfl
 obtain ⟨hA,hB⟩:=CX mp (na m1 0) id (pc:Int) x0 hx33
 have h550:550<(List.take 4 (((vR.set 0 (.ptr mp 0)).set 1 (ii id)).set 2 (ii (pc:Int)))++x0.map iu++List.drop 37 (((vR.set 0 (.ptr mp 0)).set 1 (ii id)).set 2 (ii (pc:Int)))).length:=by rw[hA];omega
 simp (config:={maxSteps:=1000000}) (disch:=first|assumption|omega|(apply ah;omega)|(apply ab;assumption)|(simp only[aJ]<;>omega)) only[go_sem,seval,wc,r1.wf,hx0,vV,List.length_set,hA,hB]
 generalize hM:hp _ 2 m1=M
 have hC2:Chg [] m1 M:=aR hM rfl
 have hC:=hC1.trans hC2 (by simp)
 have n01:na m1 0≠na m1 1:=fun e=>by have:=dM e;omega
 refine hK _ _ ⟨⟨na m1 1,na m1 0,.nils⟩,fun i=>if aP m i then f i else @ite _ (i=na m1 1) (Classical.propDecidable _) (10+3*j) (11+3*j),rfl,⟨⟨ba hM,bj hM (by omega), ?_⟩,⟨ba hM,bj hM (by omega), ?_⟩,⟨bC.nil,by simp[ids]⟩,rfl,by simp[jD],by simp[jD],trivial⟩,⟨hC.next,fun ho=>IN ho,fun ho _=>hC.get ho (by simp)⟩,fun ho=>aD (hC1.old ho)⟩
 ·rw[IM (fun ho=>aD (hC1.old ho)),IN rfl]
 ·rw[IM (fun ho=>aD (hC1.old ho)),IM n01]
end
structure Mq where
 mb:Mb
 (vcs vt ve vc:NV)
 bs:List Cb
abbrev jK (w st:Int) (q:Mq) (on:Bool):List NV:= [ii w,ii st,q.ve,q.vc,.ptr q.mb.p 0,q.vcs,.bool on,q.vt]
structure MaC (im:Im) (W:List Int) (w:Int) (N:Nat) (f:fg) (m:NH) (p:D4) (q:Mq) (M:Mm):Prop where
 g:Ob 5 f m p (.cells true (jK w im.start q M.on))
 me:∃ver,MeC f m q.mb M.now M.kept ver N
 cs:OwC 6 f m q.vcs 1 (q.bs.map fun b=> [.ptr b.r 0])
 len:q.bs.length=M.cs.length/\M.cs.length<=4
 co:∀(j:Nat) b c,q.bs[j]? =some b->M.cs[j]? =some c->CoC j f m q.mb.p b j c
 t:OwC 7 f m q.vt 4 (nI M.tr)
 e:SlC 8 f m q.ve 1 (ip (im.entry.map Int.ofNat))
 c:SlC 8 f m q.vc 1 (mu W)
 W:CdOk W im.code
 tl:M.tr.length<=3*N/\N<=10000
 el:im.entry.length<=4
def TM:Nat->Prop:=fun a=>1<=a/\a≠8
section
variable {f f':fg} {m m':NH} {p:D4} {q:Mq} {M:Mm} {im:Im} {W:List Int} {w:Int} {N:Nat}
theorem sI (h:MaC im W w N f m p q M):∃m',rT 35 [.ptr p 0] m (.tup []) m'/\∃f' q',MaC im W w N f' m' p q' (qP im M)/\Kp TM f m f' m':=by
 refine WF.ex1 fun K hK=> ?_
 refine WF.of_wpG (fun _=>rfl) sV (L:= [(.e,.ptr p 0)]) rfl ?_
 unfold Et
 have g:=h.g.g
 have o:=h.g.o
 generalize hM1:hp [(.o p,.cells true (jK w im.start q false))] 0 m=m1
 have hM1':=hM1
 unfold jK at hM1'
 have hC1:Chg [p] m m1:=aR hM1 rfl
 have k1:Kp (fun a=>a=5) f m f m1:=Kp.same hC1 fun i hi _=>by rw[one hi];exact h.g.c
 have g1:m1.get p=some (.cells true (jK w im.start q false)):=by rw[←hM1];exact (bh o).trans aN
 have o1:=hC1.old o
 obtain ⟨v,m2,r2,b,f2,rfl,h2,k2,n2⟩:=u6 (f:=f) (m:=m1) (mp:=q.mb.p) 0 0 im.start
 have c2:f2 p=5:=(k2.c o1).trans h.g.c
 have g2:m2.get p=some (.cells true (jK w im.start q false)):=(k2.g o1 (by simp)).trans g1
 have o2:=k2.old o1
 simp (config:={maxSteps:=1000000}) (disch:=first|assumption|omega|(apply ah;omega)|(apply ab;assumption)|(simp only[aJ]<;>omega)) only[go_sem,seval,g,hM1',g1,r2.wf,g2]
 generalize hM3:hp _ 1 m2=m3
 have hC3:Chg [p] m2 m3:=aR hM3 rfl
 have k3:Kp (fun a=>a=5) f2 m2 (aG f2 m2 6) m3:=Kp.of hC3 (fun i hi _=>by rw[one hi];exact c2) 6
 have k5:Kp (fun a=>a=5) f m (aG f2 m2 6) m3:=k1.trans ((k2.weak (by simp)).trans k3)
 have h3:=h2.kp k3 (by omega)
 obtain ⟨ver,hme⟩:=h.me
 refine hK _ ⟨aG f2 m2 6,⟨q.mb,.slc (na m2 0) 0 1 1 1,q.vt,q.ve,q.vc, [b]⟩,⟨⟨?_,hC3.old o2,(k3.c o2).trans c2⟩,⟨ver,hme.kp k5 (by omega)⟩,⟨bC.of (by simp) qu ?_ (bj hM3 (by omega)) rfl rfl rfl,fun i hi=> ?_⟩,⟨rfl,by simp[qP]⟩, ?_,h.t.kp k5 (by omega),h.e.kp k5 (by omega),h.c.kp k5 (by omega),h.W,h.tl,h.el⟩,k5.weak fun a ha=>by unfold TM;omega⟩
 ·rw[←hM3];exact (bh o2).trans aN
 ·rw[ba hM3];rfl
 ·rw[one hi];exact IM aD
 ·intro j b' c hb hc
  match j,hb,hc with
  |0,hb,hc=>cases hb;cases hc;exact h3
  |j+1,hb,hc=>simp at hb
theorem MaC.trc (h:MaC im W w N f m p q M) {l:List Ev} (hN:N<=N') (hN':N'<=10000) (hl:M.tr.length+l.length<=3*N') {vt':NV} {m1 m2:NH} {k:Nat} (ho:bC E0 m1 vt' 4 (nI M.tr++nI l)) (hC:Chg (ids q.vt) m m1)
 (hi:∀i∈ids vt',i∈ids q.vt∨¬aP m i) (hm2:hp [(.o p,.cells true (jK w im.start ⟨q.mb,q.vcs,vt',q.ve,q.vc,q.bs⟩ M.on))] k m1=m2):
 MaC im W w N' (aG f m 7) m2 p ⟨q.mb,q.vcs,vt',q.ve,q.vc,q.bs⟩ ⟨M.now,M.kept,M.cs,M.on,M.tr++l⟩/\Kp (fun a=>a=5∨a=7) f m (aG f m 7) m2:=by
 have ct:∀i∈ids q.vt,f i=7:=h.t.c
 have k1:Kp (fun a=>a=7) f m (aG f m 7) m1:=Kp.of hC (fun i hi _=>ct i hi) 7
 have o1:=k1.old h.g.o
 have c1:aG f m 7 p=5:=(k1.c h.g.o).trans h.g.c
 have hC2:Chg [p] m1 m2:=aR hm2 rfl
 have k2:Kp (fun a=>a=5) (aG f m 7) m1 (aG f m 7) m2:=Kp.same hC2 fun i hi _=>by rw[one hi];exact c1
 have kk:Kp (fun a=>a=5∨a=7) f m (aG f m 7) m2:=(k1.weak fun a ha=>Or.inr ha).trans (k2.weak fun a ha=>Or.inl ha)
 obtain ⟨ver,hme⟩:=h.me
 refine ⟨⟨⟨?_,hC2.old o1,c1⟩,⟨ver,(hme.more hN).kp kk (by omega)⟩,h.cs.kp kk (by omega),h.len,fun j b c hb hc=>(h.co j b c hb hc).kp kk (by omega), ?_,h.e.kp kk (by omega),h.c.kp kk (by omega),h.W,⟨by rw[List.length_append];exact hl,hN'⟩,h.el⟩,kk⟩
 ·rw[←hm2];exact (bh o1).trans aN
 ·refine (⟨by rw[show nI (M.tr++l)=nI M.tr++nI l by simp];exact ho,fun i q'=> ?_⟩:OwC 7 (aG f m 7) m1 vt' 4 (nI (M.tr++l))).kp k2 (by omega)
  rcases hi i q' with u|u
  ·exact (k1.c (h.t.o.sl.old i u)).trans (ct i u)
  ·exact IM u
theorem MaC.core (h:MaC im W w N f m p q M) {m1 m2 m3 m4:NH} {f1:fg} {b:Cb} {pc:Nat} {vcs':NV} {k:Nat} (hj:M.cs.length<4) (hb:CoC M.cs.length f1 m1 q.mb.p b (M.cs.length:Nat) (jD pc)) (k1:Kp (fun _=>False) f m f1 m1)
 (hC2:Chg [] m1 m2) (ho:bC E0 m3 vcs' 1 ((q.bs++ [b]).map fun b=> [.ptr b.r 0])) (hC3:Chg (ids q.vcs) m2 m3) (hi:∀i∈ids vcs',i∈ids q.vcs∨¬aP m2 i)
 (hm4:hp [(.o p,.cells true (jK w im.start ⟨q.mb,vcs',q.vt,q.ve,q.vc,q.bs++ [b]⟩ M.on))] k m3=m4):
 MaC im W w N (aG f1 m2 6) m4 p ⟨q.mb,vcs',q.vt,q.ve,q.vc,q.bs++ [b]⟩ ⟨M.now,M.kept,M.cs++ [jD pc],M.on,M.tr⟩/\Kp (fun a=>a=5∨a=6) f m (aG f1 m2 6) m4:=by
 have ct:∀i∈ids q.vcs,aP m i/\f i=6:=fun i hi=>⟨h.cs.o.sl.old i hi,h.cs.c i hi⟩
 have k12:Kp (fun _=>False) f m f1 m2:=k1.trans (Kp.grow hC2)
 have k3:Kp (fun a=>a=6) f1 m2 (aG f1 m2 6) m3:=Kp.of hC3 (fun i hi _=>(k12.c (ct i hi).1).trans (ct i hi).2) 6
 have k13:Kp (fun a=>a=6) f m (aG f1 m2 6) m3:=(k12.weak (by simp)).trans k3
 have o3:=k13.old h.g.o
 have c3:aG f1 m2 6 p=5:=(k13.c h.g.o).trans h.g.c
 have hC4:Chg [p] m3 m4:=aR hm4 rfl
 have k4:Kp (fun a=>a=5) (aG f1 m2 6) m3 (aG f1 m2 6) m4:=Kp.same hC4 fun i hi _=>by rw[one hi];exact c3
 have kk:Kp (fun a=>a=5∨a=6) f m (aG f1 m2 6) m4:=(k13.weak fun a ha=>Or.inr ha).trans (k4.weak fun a ha=>Or.inl ha)
 obtain ⟨ver,hme⟩:=h.me
 refine ⟨⟨⟨?_,hC4.old o3,c3⟩,⟨ver,hme.kp kk (by omega)⟩, ?_,⟨by simp[h.len.1],by simp;omega⟩,fun j b' c hb' hc'=> ?_,h.t.kp kk (by omega),h.e.kp kk (by omega),h.c.kp kk (by omega),h.W,h.tl,h.el⟩,kk⟩
 ·rw[←hm4];exact (bh o3).trans aN
 ·refine (⟨ho,fun i q'=> ?_⟩:OwC 6 (aG f1 m2 6) m3 vcs' 1 ((q.bs++ [b]).map fun b=> [.ptr b.r 0])).kp k4 (by omega)
  rcases hi i q' with u|u
  ·exact (k13.c (ct i u).1).trans (ct i u).2
  ·exact IM u
 ·by_cases hjl:j<M.cs.length
  ·rw[List.getElem?_append_left (by rw[h.len.1];exact hjl)] at hb'
   simp only at hc'
   rw[List.getElem?_append_left hjl] at hc'
   exact (h.co j b' c hb' hc').kp kk (by omega)
  ·rw[List.getElem?_append_right (by rw[h.len.1];omega)] at hb'
   simp only at hc'
   rw[List.getElem?_append_right (by omega)] at hc'
   have hl:=(List.getElem?_eq_some_iff.1 hc').1
   simp only[List.length_singleton] at hl
   have e:j=M.cs.length:=by omega
   subst e
   rw[h.len.1,Nat.sub_self] at hb'
   rw[Nat.sub_self] at hc'
   cases hb';cases hc'
   exact (hb.kp ((Kp.grow (T:=fun a=>a=5∨a=6) hC2).trans ((k3.weak fun a ha=>Or.inr ha).trans (k4.weak fun a ha=>Or.inl ha))) (by omega))
end
section
variable {f f':fg} {m m':NH} {p:D4} {q:Mq} {M:Mm} {im:Im} {W:List Int} {w:Int} {N:Nat}
theorem vq {a:Nat} (h:a=5∨a=7):TM a:=by unfold TM;omega
theorem HR {a:Nat} (h:a=5∨a=6):TM a:=by unfold TM;omega
theorem MaC.ap (h:MaC im W w N f m p q M) {l:List Ev} (hl:l.length<=10) (hu:Sl m u 4 (nI l)):∃r vt' m',oB 4 32 m q.vt u=r/\(r= .mem vt' m'∨(r= .val vt'/\m'=m))/\bC E0 m' vt' 4 (nI M.tr++nI l)/\Chg (ids q.vt) m m'/\(∀i∈ids vt',i∈ids q.vt∨¬aP m i):=by
 have htl:=h.tl
 by_cases h0:l= []
 ·subst h0
  refine ⟨_,q.vt,m,h.t.o.sl.appNil hu,Or.inr ⟨rfl,rfl⟩,by simpa using h.t.o,(Chg.refl m).weak (by simp),fun i hi=>Or.inl hi⟩
 ·obtain ⟨v',m',e1,e2,e3⟩:=h.t.o.app (bytes:=32) hu (by simpa using h0) mr (by simp only[List.length_map];omega) (by simp only[List.length_map];omega)
  exact ⟨_,v',m',e1,Or.inl rfl,e2,e3,qJ e1⟩
theorem MaC.seton (h:MaC im W w N f m p q M) (hC:Chg [p] m m') (hg:m'.get p=some (.cells true (jK w im.start q true))):MaC im W w N f m' p q ⟨M.now,M.kept,M.cs,true,M.tr⟩/\Kp (fun a=>a=5) f m f m':=by
 have k:Kp (fun a=>a=5) f m f m':=Kp.same hC fun i hi _=>by rw[one hi];exact h.g.c
 obtain ⟨ver,hme⟩:=h.me
 exact ⟨⟨⟨hg,hC.old h.g.o,h.g.c⟩,⟨ver,hme.kp k (by omega)⟩,h.cs.kp k (by omega),h.len,fun j b c hb hc=>(h.co j b c hb hc).kp k (by omega),h.t.kp k (by omega),h.e.kp k (by omega),h.c.kp k (by omega),h.W,h.tl,h.el⟩,k⟩
theorem MaC.nocs (h:MaC im W w N f m p q M) (hon:M.on=true) (hC:Chg [p] m m') (hg:m'.get p=some (.cells true (jK w im.start ⟨q.mb,.nils,q.vt,q.ve,q.vc, []⟩ true))):MaC im W w N f m' p ⟨q.mb,.nils,q.vt,q.ve,q.vc, []⟩ ⟨M.now,M.kept, [],true,M.tr⟩/\Kp (fun a=>a=5) f m f m':=by
 have k:Kp (fun a=>a=5) f m f m':=Kp.same hC fun i hi _=>by rw[one hi];exact h.g.c
 obtain ⟨ver,hme⟩:=h.me
 exact ⟨⟨⟨hg,hC.old h.g.o,h.g.c⟩,⟨ver,hme.kp k (by omega)⟩,⟨bC.nil,by simp[ids]⟩,⟨rfl,by simp⟩,fun j b c hb=>by simp at hb,h.t.kp k (by omega),h.e.kp k (by omega),h.c.kp k (by omega),h.W,h.tl,h.el⟩,k⟩
theorem MaC.kp0 (h:MaC im W w N f m p q M) (k:Kp (fun _=>False) f m f' m'):MaC im W w N f' m' p q M:=by
 obtain ⟨ver,hme⟩:=h.me
 exact ⟨h.g.kp k (by simp),⟨ver,hme.kp k (by simp)⟩,h.cs.kp k (by simp),h.len,fun j b c hb hc=>(h.co j b c hb hc).kp k (by simp),h.t.kp k (by simp),h.e.kp k (by simp),h.c.kp k (by simp),h.W,h.tl,h.el⟩
theorem MaC.grow (h:MaC im W w N f m p q M) (hC:Chg [] m m'):MaC im W w N f m' p q M:=h.kp0 (Kp.grow hC)
theorem MaC.at (h:MaC im W w N f m p q M) {j:Nat} (hj:j<M.cs.length):∃(b:Cb) (c:Co),q.bs[j]? =some b/\M.cs[j]? =some c/\CoC j f m q.mb.p b j c/\∃id off wr cs,iy 1 q.vcs (ii (j:Nat))= .val (.ptr id off)/\m.get id=some (.cells wr cs)/\aP m id/\cs[off]? =some (.ptr b.r 0):=by
 have hb:j<q.bs.length:=by rw[h.len.1];exact hj
 refine ⟨q.bs[j],M.cs[j],List.getElem?_eq_getElem hb,List.getElem?_eq_getElem hj,h.co j _ _ (List.getElem?_eq_getElem hb) (List.getElem?_eq_getElem hj), ?_⟩
 obtain ⟨id,off,wr,cs,a1,a2,a3,a4,a5⟩:=h.cs.o.sl.at j (by simpa using hb)
 rw[List.getElem_map] at a5
 exact ⟨id,off,wr,cs,a1,a2,a3,fW a5 0 (by omega)⟩
theorem uZ (h:MaC im W w N f m p q M) (hne:M.on=false->1<=M.cs.length) (hN:N<10000) {l:List Ev} (hl:l.length<=2) (hu:Sl m u 4 (nI l)) (ok:Bool):
 ∃m',rT 19 [.ptr p 0,u,.bool ok] m (.bool ok) m'/\∃f' q',MaC im W w (N+1) f' m' p q' (fi im l M)/\Kp TM f m f' m':=by
 refine WF.ex1 fun K hK=> ?_
 refine WF.of_wpG (fun _=>rfl) rq (L:= [(.b .e,.bool ok),(.a .e,u),(.e,.ptr p 0)]) rfl ?_
 unfold AU
 have g:=h.g.g
 have o:=h.g.o
 have htl:=h.tl
 obtain ⟨r,vt',m1,er,hr,ho,hC1,hi⟩:=h.ap (by omega) hu
 obtain ⟨m2,hm2⟩:∃m2,hp [(.o p,.cells true (jK w im.start ⟨q.mb,q.vcs,vt',q.ve,q.vc,q.bs⟩ M.on))] 0 m1=m2:=⟨_,rfl⟩
 obtain ⟨h2,k2⟩:=h.trc (l:=l) (N':=N+1) (by omega) (by omega) (by omega) ho hC1 hi hm2
 have g1:m1.get p=some (.cells true (jK w im.start q M.on)):=by
  refine (hC1.get o fun hq=> ?_).trans g
  have:=h.t.c p hq
  have:=h.g.c
  omega
 have o1:=hC1.old o
 have hvo:=ho.sl.one
 have hm2':=hm2
 unfold jK at hm2'
 have er2:r= .mem vt' (hp [] 0 m1)∨(r= .val vt'/\m1=m):=by rw[am];exact hr
 refine H4 (fun d=>∃T,d=⟨T, [],none,m2⟩/\NT.get D4.e T=some (.ptr p 0)/\NT.get D4.e.b T=some (.bool ok)) (fun R hR=> ?_) ?_
 ·rcases er2 with er2|⟨er2,hmm⟩
  ·rw[er2] at er
   rw[am]
   simp (config:={maxSteps:=1000000}) (disch:=first|assumption|omega|(apply ah;omega)|(apply ab;assumption)|(simp only[aJ]<;>omega)) only[go_sem,seval,g,er,g1,hvo,hm2']
   exact hR _ ⟨_,rfl,by simp only[go_sem,seval],by simp only[go_sem,seval]⟩
  ·rw[er2] at er
   subst hmm
   rw[am]
   simp (config:={maxSteps:=1000000}) (disch:=first|assumption|omega|(apply ah;omega)|(apply ab;assumption)|(simp only[aJ]<;>omega)) only[go_sem,seval,g,er]
   rw[←am m1]
   simp (config:={maxSteps:=1000000}) (disch:=first|assumption|omega|(apply ah;omega)|(apply ab;assumption)|(simp only[aJ]<;>omega)) only[go_sem,seval,g,er,g1,hvo,hm2']
   exact hR _ ⟨_,rfl,by simp only[go_sem,seval],by simp only[go_sem,seval]⟩
 clear er2 er hr
 rintro d ⟨T,rfl,t1,t2⟩
 change wp _ _ _ _ ⟨aw [] T, [],none,m2⟩ _
 have g2:=h2.g.g
 have kk2:Kp TM f m (aG f m 7) m2:=k2.weak fun a=>vq
 cases hon:M.on with
 |true=>
  have e:fi im l M=⟨M.now,M.kept,M.cs,M.on,M.tr++l⟩:=by unfold fi;rw[IN (Or.inl hon)]
  rw[e] at hK
  simp only[hon] at g2
  simp (config:={maxSteps:=1000000}) (disch:=first|assumption|omega|(apply ah;omega)|(apply ab;assumption)|(simp only[aJ]<;>omega)) only[go_sem,seval,t1,t2,g2]
  exact hK _ ⟨_,_,h2,kk2⟩
 |false=>
  simp only[hon] at g2
  obtain ⟨b,c,hb,hc,hco,id,off,wr,cs,a1,a2,a3,a4⟩:=h2.at (j:=0) (hne hon)
  have hc':M.cs[0]? =some c:=hc
  have hhead:M.cs.head? =some c:=by rw[List.head?_eq_getElem?];exact hc'
  have a1':iy 1 q.vcs (ii 0)= .val (.ptr id off):=a1
  obtain ⟨m3,r3,hC3⟩:=sB hco
  cases hqu:cW c with
  |false=>
   have e:fi im l M=⟨M.now,M.kept,M.cs,M.on,M.tr++l⟩:=by unfold fi;rw[IN (Or.inr (by rw[hhead];simp[hqu]))]
   rw[e] at hK
   rw[hqu] at r3
   simp (config:={maxSteps:=1000000}) (disch:=first|assumption|omega|(apply ah;omega)|(apply ab;assumption)|(simp only[aJ]<;>omega)) only[go_sem,seval,t1,t2,g2,a1',a2,a4,r3.wf']
   exact hK _ ⟨_,_,h2.grow hC3,kk2.trans (Kp.grow hC3)⟩
  |true=>
   rw[hqu] at r3
   have h3:=h2.grow hC3
   have g3:=h3.g.g
   have o3:=h3.g.o
   simp only[hon] at g3
   have e:fi im l M=⟨M.now,M.kept,im.entry.map jD,true,M.tr++l++ [⟨9,0,0,0⟩]⟩:=by unfold fi;rw[IM (by rw[hon,hhead];simp[hqu])]
   rw[e] at hK
   generalize hm4:hp [(.n 0,.cells true [ii 9,ii 0,ii 0,iu 0]),(.o p,.cells true (jK w im.start ⟨q.mb,q.vcs,vt',q.ve,q.vc,q.bs⟩ true))] 1 m3=m4
   have hC4:Chg [p] m3 m4:=aR hm4 rfl
   obtain ⟨h4,k4⟩:=h3.seton hC4 (by rw[←hm4];exact (bh o3).trans (ib.trans aN))
   have gn4:m4.get (na m3 0)=some (.cells true [ii 9,ii 0,ii 0,iu 0]):=ba hm4
   have on4:aP m4 (na m3 0):=bj hm4 (by omega)
   obtain ⟨vt2,m5,q1,q2,q3,q4⟩:=h4.t.o.app2 (bytes:=32) (kc:=1) gn4 on4 rfl mr (by simp only[List.length_map,List.length_append];omega) (by simp only[List.length_map,List.length_append];omega)
   obtain ⟨m6,hm6⟩:∃m6,hp [(.o p,.cells true (jK w im.start ⟨q.mb,q.vcs,vt2,q.ve,q.vc,q.bs⟩ true))] 0 m5=m6:=⟨_,rfl⟩
   obtain ⟨h6,k6⟩:=h4.trc (l:= [⟨9,0,0,0⟩]) (N':=N+1) (by omega) (by omega) (by simp only[List.length_append,List.length_singleton];omega) q2 q3 q4 hm6
   have o5:=q3.old h4.g.o
   have g6:=h6.g.g
   have o6:=h6.g.o
   obtain ⟨m7,hm7⟩:∃m7,m6.put p (.cells true (jK w im.start ⟨q.mb,.nils,vt2,q.ve,q.vc, []⟩ true))=m7:=⟨_,rfl⟩
   obtain ⟨h7,k7⟩:=h6.nocs rfl (m':=m7) (by rw[←hm7];exact Chg.put m6 p _) (by rw[←hm7];exact NH.get_put_same _ _ _)
   have g5:m5.get p=some (.cells true (jK w im.start ⟨q.mb,q.vcs,vt',q.ve,q.vc,q.bs⟩ true)):=by
    refine (q3.get h4.g.o fun hq=> ?_).trans h4.g.g
    have u1:=h4.t.c p hq
    have u2:=h4.g.c
    omega
   have g7:=h7.g.g
   have hlen:=h7.e.o.len
   rw[List.length_map,List.length_map] at hlen
   rw[←am m5] at q1
   have hm4':=hm4
   have hm6':=hm6
   unfold jK at hm4' hm6' hm7
   have hv2:=q2.sl.one
   have kk7:Kp TM f m _ m7:=kk2.trans ((Kp.grow hC3).trans ((k4.weak fun a ha=>vq (Or.inl ha)).trans ((k6.weak fun a=>vq).trans (k7.weak fun a ha=>vq (Or.inl ha)))))
   simp (config:={maxSteps:=1000000}) (disch:=first|assumption|omega|(apply ah;omega)|(apply ab;assumption)|(simp only[aJ]<;>omega)) only[go_sem,seval,t1,t2,g2,a1',a2,a4,r3.wf,g3,hm4',q1,g5,hv2,hm6',g6,hm7,g7,hlen]
   refine Nm.W.loop (fun n d=>∃T m' i f' q',d=⟨T, [],none,m'⟩/\NT.get D4.e T=some (.ptr p 0)/\NT.get D4.e.b T=some (.bool ok)/\NT.get D4.e.c.a.a T=some q'.ve/\NT.get D4.e.c.a.b T=some (ii (im.entry.length:Nat))/\NT.get D4.e.c.a.c T=some (ii (i:Nat))/\i+n=im.entry.length/\
    MaC im W w (N+1) f' m' p q' ⟨M.now,M.kept,(im.entry.take i).map jD,true,M.tr++l++ [⟨9,0,0,0⟩]⟩/\Kp TM f m f' m') ?_ im.entry.length _ ⟨_,m7,0,_,_,rfl,by simp only[go_sem,seval,t1],by simp only[go_sem,seval,t2],by simp only[go_sem,seval],by simp only[go_sem,seval],by simp only[go_sem,seval]<;>rfl,by omega,h7,kk7⟩
   clear h7 h6 h4 h3 h2 h kk7 k7 k6 k4 kk2 k2
   rintro n d ⟨T,mm,i,ff,qq,rfl,t1,t2,t3,t4,t5,hin,hI,hK8⟩
   apply bz
   unfold sh
   change wp _ _ _ _ ⟨aw [] T, [],none,mm⟩ _
   by_cases hlt:i<im.entry.length
   ·have hlen4:=hI.el
    obtain ⟨ide,offe,wre,cse,b1,b2,b3,b4,b5⟩:=hI.e.o.at i (by simpa using hlt)
    rw[List.getElem_map,List.getElem_map] at b5
    have b5':cse[offe]? =some (ii (im.entry[i]:Nat)):=fW b5 0 (by omega)
    have gI:=hI.g.g
    have oI:=hI.g.o
    have hcl:((im.entry.take i).map jD).length=i:=by rw[List.length_map,List.length_take];omega
    obtain ⟨v,x1,r1,b,f1,rfl,hb,kb,nb⟩:=u6 (f:=ff) (m:=mm) (mp:=qq.mb.p) i (i:Nat) im.entry[i]
    have gx1:x1.get p=some (.cells true (jK w im.start qq true)):=(kb.g oI (by simp)).trans gI
    have ox1:=kb.old oI
    generalize hx2:hp [(.n 0,.cells true [.ptr b.r 0])] 1 x1=x2
    have hCx2:Chg [] x1 x2:=aR hx2 rfl
    have gx2:x2.get p=some (.cells true (jK w im.start qq true)):=(hCx2.get ox1 (by simp)).trans gx1
    have gn2:x2.get (na x1 0)=some (.cells true [.ptr b.r 0]):=ba hx2
    have on2:aP x2 (na x1 0):=bj hx2 (by omega)
    have hcs2:=((hI.cs.kp kb (by simp)).kp (Kp.grow (T:=fun _=>False) hCx2) (by simp)).o
    obtain ⟨vcs',x3,p1,p2,p3,p4⟩:=hcs2.app2 (bytes:=8) (kc:=1) gn2 on2 rfl mr (by simp only[List.length_map];have:=hI.len;simp only[hcl] at this;omega) (by simp only[List.length_map];have:=hI.len;simp only[hcl] at this;omega)
    have ox2:=hCx2.old ox1
    have ox3:=p3.old ox2
    have gx3:x3.get p=some (.cells true (jK w im.start qq true)):=by
     refine (p3.get ox2 fun hq=> ?_).trans gx2
     have u1:=hI.cs.c p hq
     have u2:=hI.g.c
     omega
    have hvs:=p2.sl.one
    have hvss:=hI.cs.o.sl.same (n:=3)
    rw[←am x3] at p1
    simp (config:={maxSteps:=1000000}) (disch:=first|assumption|omega|(apply ah;omega)|(apply ab;assumption)|(simp only[aJ]<;>omega)) only[go_sem,seval,t1,t2,t3,t4,t5,b1,b2,b5',gI,r1.wf,gx1,hx2,gx2,p1,gx3,hvs,hvss]
    generalize hx4:hp _ 0 x3=x4
    have hbb:CoC ((im.entry.take i).map jD).length f1 x1 qq.mb.p b (((im.entry.take i).map jD).length:Nat) (jD im.entry[i]):=by rw[hcl];exact hb
    obtain ⟨hn,kn⟩:=hI.core (by show ((im.entry.take i).map jD).length<4;rw[hcl];omega) hbb kb hCx2 (by rw[List.map_append];exact p2) p3 p4 hx4
    refine ⟨n - 1,by omega,_,x4,i+1,_,⟨qq.mb,vcs',qq.vt,qq.ve,qq.vc,qq.bs++ [b]⟩,by rfl,by simp only[go_sem,seval,t1],by simp only[go_sem,seval,t2],by simp only[go_sem,seval,t3],by simp only[go_sem,seval,t4],by simp only[go_sem,seval]<;>rfl,by omega, ?_,hK8.trans (kn.weak fun a=>HR)⟩
    rw[List.take_add_one,List.getElem?_eq_getElem hlt,List.map_append]
    exact hn
   ·simp (config:={maxSteps:=1000000}) (disch:=first|assumption|omega|(apply ah;omega)|(apply ab;assumption)|(simp only[aJ]<;>omega)) only[go_sem,seval,t1,t2,t3,t4,t5]
    have e2:i=im.entry.length:=by omega
    subst e2
    rw[List.take_length] at hI
    exact hK _ ⟨_,_,hI,hK8⟩
end
section
variable {f f':fg} {m m':NH} {p:D4} {q:Mq} {M:Mm} {im:Im} {W:List Int} {w:Int} {N:Nat}
theorem MaC.upd (h:MaC im W w N f m p q M) {j:Nat} {b b':Cb} {c':Co} (hj:j<M.cs.length) (hb:q.bs[j]? =some b) (hr:b'.r=b.r) (hc:CoC j f' m' q.mb.p b' j c') (hme:∃ver,MeC f' m' q.mb now kept ver N') (hk:Kp (fun a=>Tc j a∨lw a) f m f' m') (hN:N<=N') (hN':N'<=10000):
 MaC im W w N' f' m' p ⟨q.mb,q.vcs,q.vt,q.ve,q.vc,q.bs.set j b'⟩ ⟨now,kept,M.cs.set j c',M.on,M.tr⟩:=by
 have T5:∀{a},5<=a->a<=9->¬(Tc j a∨lw a):=by unfold Tc lw;omega
 refine ⟨h.g.kp hk (T5 (by omega) (by omega)),hme, ?_,⟨by simp only[List.length_set];exact h.len.1,by simp only[List.length_set];exact h.len.2⟩,fun k b0 c0 h1 h2=> ?_,h.t.kp hk (T5 (by omega) (by omega)),h.e.kp hk (T5 (by omega) (by omega)),h.c.kp hk (T5 (by omega) (by omega)),h.W,⟨by have:=h.tl;show M.tr.length<=3*N';omega,hN'⟩,h.el⟩
 ·have e:(q.bs.set j b').map (fun b=> [NV.ptr b.r 0])=q.bs.map fun b=> [NV.ptr b.r 0]:=by
   apply List.ext_getElem?
   intro k
   rw[List.getElem?_map,List.getElem?_map,List.getElem?_set]
   by_cases e:j=k
   ·subst e
    have hl:j<q.bs.length:=(List.getElem?_eq_some_iff.1 hb).1
    rw[IN rfl,IN hl,hb]
    simp[hr]
   ·rw[IM e]
  show OwC 6 f' m' q.vcs 1 ((q.bs.set j b').map fun b=> [.ptr b.r 0])
  rw[e];exact h.cs.kp hk (T5 (by omega) (by omega))
 ·simp only at h1 h2
  rw[List.getElem?_set] at h1 h2
  by_cases e:j=k
  ·subst e
   have hl:j<q.bs.length:=by rw[h.len.1];exact hj
   rw[IN rfl,IN hl] at h1
   rw[IN rfl,IN hj] at h2
   cases h1;cases h2;exact hc
  ·rw[IM e] at h1 h2
   exact (h.co k b0 c0 h1 h2).kp hk (by unfold Tc lw;omega)
theorem MaC.mem (h:MaC im W w N f m p q M) (hme:∃ver,MeC f' m' q.mb now kept ver N) (hk:Kp lw f m f' m'):MaC im W w N f' m' p q ⟨now,kept,M.cs,M.on,M.tr⟩:=by
 have T5:∀{a},5<=a->¬lw a:=by unfold lw;omega
 exact ⟨h.g.kp hk (T5 (by omega)),hme,h.cs.kp hk (T5 (by omega)),h.len,fun j b c h1 h2=>(h.co j b c h1 h2).kp hk ⟨T5 (by omega),T5 (by omega),T5 (by omega)⟩,h.t.kp hk (T5 (by omega)),h.e.kp hk (T5 (by omega)),h.c.kp hk (T5 (by omega)),h.W,h.tl,h.el⟩
theorem MaC.more (h:MaC im W w N f m p q M) (hN:N<=N') (hN':N'<=10000):MaC im W w N' f m p q M:=by
 obtain ⟨ver,hme⟩:=h.me
 exact ⟨h.g,⟨ver,hme.more hN⟩,h.cs,h.len,h.co,h.t,h.e,h.c,h.W,⟨by have:=h.tl;omega,hN'⟩,h.el⟩
theorem MaC.ev1 (h:MaC im W w N f m p q M) (hN:N<10000) {x:Ev} {n:D4} (gn:m.get n=some (.cells true [ii x.k,ii x.c,ii x.a,iu x.v])) (on:aP m n):
 ∃vt' m1 m2,oB 4 32 m q.vt (.slc n 0 1 4 1)= .mem vt' (hp [] 0 m1)/\hp [(.o p,.cells true [ii w,ii im.start,q.ve,q.vc,.ptr q.mb.p 0,q.vcs,.bool M.on,vt'])] 0 m1=m2/\m1.get p=some (.cells true (jK w im.start q M.on))/\aP m1 p/\cellsOf vt'=some [vt']/\
  MaC im W w (N+1) (aG f m 7) m2 p ⟨q.mb,q.vcs,vt',q.ve,q.vc,q.bs⟩ ⟨M.now,M.kept,M.cs,M.on,M.tr++ [x]⟩/\Kp TM f m (aG f m 7) m2:=by
 have htl:=h.tl
 obtain ⟨vt',m1,q1,q2,q3,q4⟩:=h.t.o.app2 (bytes:=32) (kc:=1) gn on rfl mr (by simp only[List.length_map];omega) (by simp only[List.length_map];omega)
 obtain ⟨m2,hm2⟩:∃m2,hp [(.o p,.cells true (jK w im.start ⟨q.mb,q.vcs,vt',q.ve,q.vc,q.bs⟩ M.on))] 0 m1=m2:=⟨_,rfl⟩
 obtain ⟨h2,k2⟩:=h.trc (l:= [x]) (N':=N+1) (by omega) (by omega) (by simp only[List.length_singleton];omega) q2 q3 q4 hm2
 refine ⟨vt',m1,m2,by rw[am];exact q1,hm2,(q3.get h.g.o fun hq=> ?_).trans h.g.g,q3.old h.g.o,q2.sl.one,h2,k2.weak fun a=>vq⟩
 have u1:=h.t.c p hq
 have u2:=h.g.c
 omega
theorem uF (h:MaC im W w N f m p q M) (hN:N<10000):∃m',rT 18 [.ptr p 0] m (.bool true) m'/\∃f' q',MaC im W w (N+1) f' m' p q' (qz im M)/\Kp TM f m f' m':=by
 refine WF.ex1 fun K hK=> ?_
 refine WF.of_wpG (fun _=>rfl) rX (L:= [(.e,.ptr p 0)]) rfl ?_
 unfold AR
 have g:=h.g.g
 obtain ⟨ver,hme⟩:=h.me
 obtain ⟨m1,r1,hme1,k1⟩:=yq hme
 have k1':Kp lw f m f m1:=k1.weak fun a ha=>by unfold lw;omega
 have h1:=h.mem ⟨ver,hme1⟩ k1'
 have g1:=h1.g.g
 have o1:=h1.g.o
 generalize hm2:hp [(.n 0,.cells true [ii 8,ii 0,ii 0,iu 0])] 1 m1=m2
 have hC2:Chg [] m1 m2:=aR hm2 rfl
 have h2:=h1.grow hC2
 obtain ⟨vt',m3,m4,q1,hm4,g3,o3,hv,h4,k4⟩:=h2.ev1 hN (x:=⟨8,0,0,0⟩) (n:=na m1 0) (ba hm2) (bj hm2 (by omega))
 obtain ⟨m5,r5,f5,q5,h5,k5⟩:=sI h4
 rw[am]
 simp (config:={maxSteps:=1000000}) (disch:=first|assumption|omega|(apply ah;omega)|(apply ab;assumption)|(simp only[aJ]<;>omega)) only[go_sem,seval,g,r1.wf,g1,hm2,q1,g3,hv,hm4,r5.wf']
 exact hK _ ⟨f5,q5,h5,(k1'.weak fun a ha=>by unfold lw at ha;unfold TM;omega).trans ((Kp.grow hC2).trans (k4.trans k5))⟩
theorem yM (h:MaC im W w N f m p q M) (hN:N<10000) (n:Int):∃m',rT 17 [.ptr p 0,ii n] m (.bool (ir n M).1) m'/\∃f' q',MaC im W w (N+1) f' m' p q' (ir n M).2/\Kp TM f m f' m':=by
 refine WF.ex1 fun K hK=> ?_
 refine WF.of_wpG (fun _=>rfl) sE (L:= [(.a .e,ii n),(.e,.ptr p 0)]) rfl ?_
 unfold DL
 have g:=h.g.g
 obtain ⟨ver,hme⟩:=h.me
 obtain ⟨m1,r1,hme1,k1⟩:=DV hme n
 have k1':Kp lw f m f m1:=k1.weak fun a ha=>by unfold lw;omega
 have h1:=h.mem ⟨ver,hme1⟩ k1'
 have kT:Kp TM f m f m1:=k1'.weak fun a ha=>by unfold lw at ha;unfold TM;omega
 by_cases hb:0<=n/\n*8<M.now.length
 ·rw[IN hb] at h1
  rw[IQ hb] at r1
  have e:ir n M=(true,⟨M.now,jA n.toNat M.now M.kept,M.cs,M.on,M.tr++ [⟨7,0,n,0⟩]⟩):=by unfold ir;rw[IM (by omega)]
  rw[e] at hK
  have g1:=h1.g.g
  generalize hm2:hp [(.n 0,.cells true [ii 7,ii 0,ii n,iu 0])] 1 m1=m2
  have hC2:Chg [] m1 m2:=aR hm2 rfl
  have h2:=h1.grow hC2
  obtain ⟨vt',m3,m4,q1,hm4,g3,o3,hv,h4,k4⟩:=h2.ev1 hN (x:=⟨7,0,n,0⟩) (n:=na m1 0) (ba hm2) (bj hm2 (by omega))
  have g4:=h4.g.g
  have hlen:=h4.cs.o.sl.len
  rw[List.length_map,h4.len.1] at hlen
  have kk4:Kp TM f m (aG f m2 7) m4:=kT.trans ((Kp.grow hC2).trans k4)
  rw[am]
  simp (config:={maxSteps:=1000000}) (disch:=first|assumption|omega|(apply ah;omega)|(apply ab;assumption)|(simp only[aJ]<;>omega)) only[go_sem,seval,g,r1.wf,g1,hm2,q1,g3,hv,hm4,g4,hlen]
  refine Nm.W.loop (fun k d=>∃T m' i f',d=⟨T, [],none,m'⟩/\NT.get D4.e.a T=some (ii n)/\NT.get D4.e.a.b.f T=some q.vcs/\NT.get D4.e.a.c.a T=some (ii (M.cs.length:Nat))/\NT.get D4.e.a.c.b T=some (ii (i:Nat))/\i+k=M.cs.length/\
   MaC im W w (N+1) f' m' p ⟨q.mb,q.vcs,vt',q.ve,q.vc,q.bs⟩ ⟨M.now,jA n.toNat M.now M.kept,M.cs,M.on,M.tr++ [⟨7,0,n,0⟩]⟩/\Kp TM f m f' m') ?_ M.cs.length _ ⟨_,m4,0,_,rfl,by simp only[go_sem,seval],by simp only[go_sem,seval],by simp only[go_sem,seval],by simp only[go_sem,seval]<;>rfl,by omega,h4,kk4⟩
  clear h4 h2 h1 kk4 k4 hme hme1
  rintro k d ⟨T,mm,i,ff,rfl,t1,t2,t3,t4,hik,hI,hK8⟩
  apply bz
  unfold sJ
  change wp _ _ _ _ ⟨aw [] T, [],none,mm⟩ _
  have hl4:M.cs.length<=4:=hI.len.2
  by_cases hlt:i<M.cs.length
  ·obtain ⟨b,c,b1,b2,hco,id,off,wr,cs,a1,a2,a3,a4⟩:=hI.at (j:=i) hlt
   have a1':iy 1 q.vcs (ii (i:Nat))= .val (.ptr id off):=a1
   obtain ⟨m5,r5,h5,k5⟩:=uY hco n
   simp (config:={maxSteps:=1000000}) (disch:=first|assumption|omega|(apply ah;omega)|(apply ab;assumption)|(simp only[aJ]<;>omega)) only[go_sem,seval,t1,t2,t3,t4,a1',a2,a4,r5.wf']
   obtain ⟨ver,hme⟩:=hI.me
   have hu:=hI.upd (j:=i) hlt b1 rfl h5 ⟨ver,hme.kp k5 (by unfold Tc;omega)⟩ (k5.weak fun a=>Or.inl) (Nat.le_refl _) hI.tl.2
   have e1:q.bs.set i b=q.bs:=by
    have:=(List.getElem?_eq_some_iff.1 b1).2
    rw[←this];exact List.set_getElem_self _
   have e2:M.cs.set i c=M.cs:=by
    have:=(List.getElem?_eq_some_iff.1 b2).2
    rw[←this];exact List.set_getElem_self _
   refine ⟨k - 1,by omega,_,m5,i+1,ff,by rfl,by simp only[go_sem,seval,t1],by simp only[go_sem,seval,t2],by simp only[go_sem,seval,t3],by simp only[go_sem,seval]<;>rfl,by omega, ?_,hK8.trans (k5.weak fun a ha=>by unfold Tc at ha;unfold TM;omega)⟩
   simp only[e1,e2] at hu
   exact hu
  ·simp (config:={maxSteps:=1000000}) (disch:=first|assumption|omega|(apply ah;omega)|(apply ab;assumption)|(simp only[aJ]<;>omega)) only[go_sem,seval,t1,t2,t3,t4]
   exact hK _ ⟨_,_,hI,hK8⟩
 ·rw[IM hb] at h1
  rw[IP hb] at r1
  have e:ir n M=(false,M):=by unfold ir;rw[IN (by omega)]
  rw[e] at hK
  rw[am]
  simp (config:={maxSteps:=1000000}) (disch:=first|assumption|omega|(apply ah;omega)|(apply ab;assumption)|(simp only[aJ]<;>omega)) only[go_sem,seval,g,r1.wf']
  exact hK _ ⟨f,q,h1.more (by omega) (by omega),kT⟩
def EQ (im:Im) (M:Mm):Prop:=(M.on=false->1<=M.cs.length)/\∀c∈M.cs,c.w.length<=1/\(∀y∈c.w,y.a<M.now.length)/\c.pc<=im.code.length/\∀i,im.code[c.pc]? =some i->sX i c M.now.length
theorem ye (id:Int) (code:List In) (now:List Int) (c:Co):(dO id code now c).2.1.length<=1:=by
 unfold dO
 split
 ·simp
 ·split
  ·simp
  ·rename_i i _
   cases i<;>simp only[cK]<;>(try split)<;>simp
theorem zE (id n:Int) (now:List Int) (c:Co):(cX id n now c).2.1.length<=1:=by
 unfold cX
 split
 ·simp
 ·split<;>simp
theorem DZ (h:MaC im W w N f m p q M) (hN:N+2<=10000) (hS:EQ im M) (k core n:Int):∃m',rT 7 [.ptr p 0,.agg [ii k,ii core,ii n]] m (.bool (cY im k core n M).1) m'/\∃f' q',MaC im W w (N+2) f' m' p q' (cY im k core n M).2/\Kp TM f m f' m':=by
 refine WF.ex1 fun K hK=> ?_
 refine WF.of_wpG (fun _=>rfl) vY (L:= [(.a .e,.agg [ii k,ii core,ii n]),(.e,.ptr p 0)]) rfl ?_
 unfold Io
 generalize hm1:hp [(.n 0,.cells true [ii k,ii core,ii n])] 1 m=m1
 have hC1:Chg [] m m1:=aR hm1 rfl
 have gx:m1.get (na m 0)=some (.cells true [ii k,ii core,ii n]):=ba hm1
 have ox:aP m1 (na m 0):=bj hm1 (by omega)
 have k9:Kp (fun _=>False) f m (aG f m 9) m1:=Kp.of hC1 (by simp) 9
 have c9:aG f m 9 (na m 0)=9:=IM aD
 have h1:=h.kp0 k9
 have k9':Kp TM f m (aG f m 9) m1:=k9.weak (by simp)
 by_cases k2:k=2
 ·obtain ⟨m2,r2,f2,q2,h2,kk2⟩:=yM h1 (by omega) n
  have e:cY im k core n M=ir n M:=by unfold cY;rw[IN k2]
  rw[e] at hK
  subst k2
  simp (config:={maxSteps:=1000000}) (disch:=first|assumption|omega|(apply ah;omega)|(apply ab;assumption)|(simp only[aJ]<;>omega)) only[go_sem,seval,hm1,gx,r2.wf']
  exact hK _ ⟨f2,q2,h2.more (by omega) (by omega),k9'.trans kk2⟩
 by_cases k3:k=3
 ·obtain ⟨m2,r2,f2,q2,h2,kk2⟩:=uF h1 (by omega)
  have e:cY im k core n M=(true,qz im M):=by unfold cY;rw[IM k2,IN k3]
  rw[e] at hK
  subst k3
  simp (config:={maxSteps:=1000000}) (disch:=first|assumption|omega|(apply ah;omega)|(apply ab;assumption)|(simp only[aJ]<;>omega)) only[go_sem,seval,hm1,gx,r2.wf']
  exact hK _ ⟨f2,q2,h2.more (by omega) (by omega),k9'.trans kk2⟩
 have g1:=h1.g.g
 have hlen:=h1.cs.o.sl.len
 rw[List.length_map,h1.len.1] at hlen
 by_cases c0:core<0
 ·have e:cY im k core n M=(false,M):=by unfold cY;rw[IM k2,IM k3,IN c0]
  rw[e] at hK
  simp (config:={maxSteps:=1000000}) (disch:=first|assumption|omega|(apply ah;omega)|(apply ab;assumption)|(simp only[aJ]<;>omega)) only[go_sem,seval,hm1,gx,k2,k3,c0]
  exact hK _ ⟨_,q,h1.more (by omega) (by omega),k9'⟩
 by_cases c1:(M.cs.length:Int)<=core
 ·have e:cY im k core n M=(false,M):=by unfold cY;rw[IM k2,IM k3,IM c0,List.getElem?_eq_none (by omega)]
  rw[e] at hK
  simp (config:={maxSteps:=1000000}) (disch:=first|assumption|omega|(apply ah;omega)|(apply ab;assumption)|(simp only[aJ]<;>omega)) only[go_sem,seval,hm1,gx,k2,k3,c0,g1,hlen]
  exact hK _ ⟨_,q,h1.more (by omega) (by omega),k9'⟩
 obtain ⟨j,rfl⟩:=IU (show 0<=core by omega)
 have hj:j<M.cs.length:=by omega
 obtain ⟨b,c,b1,b2,hco,id,off,wr,cs,a1,a2,a3,a4⟩:=h1.at hj
 have e:cY im k j n M=hU im k n j c M:=by unfold cY;rw[IM k2,IM k3,IM c0,Int.toNat_natCast,b2]
 rw[e] at hK
 obtain ⟨s1,s2,s3,s4⟩:=hS.2 c (List.mem_of_getElem? b2)
 obtain ⟨ver,hme⟩:=h1.me
 have hvs:=h1.cs.o.sl.same (n:=3)
 by_cases k0:k=0
 ·subst k0
  obtain ⟨v,m2,r2,u,w',f2,rfl,a5,a6,a7,a8⟩:=CQ hco hme rfl h1.c h1.W s1 s4 s3
  have h2:=h1.upd (b':=⟨b.r,b.q,w'⟩) hj b1 rfl a5 ⟨ver,hme.kp a8 (by unfold Tc;omega)⟩ (a8.weak fun a=>Or.inl) (Nat.le_refl _) (by omega)
  have hlE:=ye j im.code M.now c
  obtain ⟨m3,r3,f3,q3,h3,k3'⟩:=uZ h2 (by simp only[List.length_set];exact hS.1) (by omega) (by omega) a6 (dO j im.code M.now c).1
  have e2:hU im 0 n j c M=((dO j im.code M.now c).1,fi im (dO j im.code M.now c).2.1 ⟨M.now,M.kept,M.cs.set j (dO j im.code M.now c).2.2,M.on,M.tr⟩):=by unfold hU;rw[IN rfl]
  rw[e2] at hK
  have gx2:m2.get (na m 0)=some (.cells true [ii 0,ii (j:Nat),ii n]):=(a8.g ox (by rw[c9];unfold Tc;omega)).trans gx
  simp (config:={maxSteps:=1000000}) (disch:=first|assumption|omega|(apply ah;omega)|(apply ab;assumption)|(simp only[aJ]<;>omega)) only[go_sem,seval,hm1,gx,g1,hlen,a1,a2,a4,hvs,r2.wf',gx2,r3.wf']
  exact hK _ ⟨f3,q3,h3.more (by omega) (by omega),k9'.trans ((a8.weak fun a ha=>by unfold Tc at ha;unfold TM;omega).trans k3')⟩
 by_cases kk1:k=1
 ·subst kk1
  obtain ⟨v,m2,r2,u,w',ver',f2,rfl,a5,a6,a7,a8,a9⟩:=Ez hco hme rfl (by omega) s1 s2 n
  have h2:=h1.upd (b':=⟨b.r,b.q,w'⟩) hj b1 rfl a5 ⟨ver',a6⟩ a9 (by omega) (by omega)
  have hlE:=zE j n M.now c
  obtain ⟨m3,r3,f3,q3,h3,k3'⟩:=uZ h2 (by simp only[List.length_set];exact hS.1) (by omega) (by omega) a7 (cX j n M.now c).1
  have e2:hU im 1 n j c M=((cX j n M.now c).1,fi im (cX j n M.now c).2.1 ⟨(cX j n M.now c).2.2.2,M.kept,M.cs.set j (cX j n M.now c).2.2.1,M.on,M.tr⟩):=by unfold hU;rw[IM k0,IN rfl]
  rw[e2] at hK
  have gx2:m2.get (na m 0)=some (.cells true [ii 1,ii (j:Nat),ii n]):=(a9.g ox (by rw[c9];unfold Tc lw;omega)).trans gx
  simp (config:={maxSteps:=1000000}) (disch:=first|assumption|omega|(apply ah;omega)|(apply ab;assumption)|(simp only[aJ]<;>omega)) only[go_sem,seval,hm1,gx,g1,hlen,a1,a2,a4,hvs,r2.wf',gx2,r3.wf']
  exact hK _ ⟨f3,q3,h3.more (by omega) (by omega),k9'.trans ((a9.weak fun a ha=>by unfold Tc lw at ha;unfold TM;omega).trans k3')⟩
 ·have e2:hU im k n j c M=(false,M):=by unfold hU;rw[IM k0,IM kk1]
  rw[e2] at hK
  simp (config:={maxSteps:=1000000}) (disch:=first|assumption|omega|(apply ah;omega)|(apply ab;assumption)|(simp only[aJ]<;>omega)) only[go_sem,seval,hm1,gx,k2,k3,k0,kk1,g1,hlen,a1,a2,a4,hvs]
  exact hK _ ⟨_,q,h1.more (by omega) (by omega),k9'⟩
end
def xG (f:fg) (m:NH) (l:List Nat):fg:=fun i=>if aP m i then f i else (l[i.toNat - m.next.toNat]?).getD 9
theorem jO (f:fg) (m:NH) (l:List Nat) (j:Nat):xG f m l (na m j)=(l[j]?).getD 9:=by
 unfold xG
 rw[IM aD]
 unfold na;rw[D4.toNat_of,Nat.add_sub_cancel_left]
theorem xg:cz .slc .eql .nils .nils=some (.bool true):=_root_.id rfl
theorem uR {id:D4} {n e k:Nat}:cz .slc .eql (.slc id off n e k) .nils=some (.bool false):=_root_.id rfl
section
variable {f f':fg} {m m':NH} {p:D4} {q:Mq} {M:Mm} {im:Im} {W:List Int} {w:Int} {N:Nat}
theorem Gg  (h:Sl m v 1 C) (hl:C.length<=1000001):∃v' m',rT 32 [v] m v' m'/\bC m m' v' 1 C/\Chg [] m m':=by
 refine WF.ex fun K hK=> ?_
 refine WF.of_wpG (fun _=>rfl) rk (L:= [(.e,v)]) rfl ?_
 unfold CE
 have h':=h
 obtain ⟨h0,⟨rfl,rfl⟩|⟨id,off,kc,w,c,rfl,h1,h2,h3,h4⟩⟩:=h'
 ·simp (config:={maxSteps:=1000000}) (disch:=first|assumption|omega|(apply ah;omega)|(apply ab;assumption)|(simp only[aJ]<;>omega)) only[go_sem,seval,xg]
  exact hK _ _ ⟨bC.nil,dC rfl⟩
 ·simp (config:={maxSteps:=1000000}) (disch:=first|assumption|omega|(apply ah;omega)|(apply ab;assumption)|(simp only[aJ]<;>omega)) only[go_sem,seval,uR]
  have hC1:Chg [] m (hp [(.n 0,.cells true [])] 1 m):=dC rfl
  have ho:bC m (hp [(.n 0,.cells true [])] 1 m) (.slc (na m 0) 0 0 1 0) 1 []:=bC.of (by simp) aD jh (ah (by omega)) rfl rfl rfl
  by_cases hC:C= []
  ·subst hC
   rw[ho.sl.appNil (h.grew hC1)]
   simp (config:={maxSteps:=1000000}) (disch:=first|assumption|omega|(apply ah;omega)|(apply ab;assumption)|(simp only[aJ]<;>omega)) only[go_sem,seval]
   exact hK _ _ ⟨ho,hC1⟩
  ·obtain ⟨v',m',e1,e2,e3⟩:=ho.app (bytes:=8) (h.grew hC1) hC (fun i hi=>hC1.old hi) (by simp;omega) (by simp;omega)
   rw[e1]
   simp (config:={maxSteps:=1000000}) (disch:=first|assumption|omega|(apply ah;omega)|(apply ab;assumption)|(simp only[aJ]<;>omega)) only[go_sem,seval]
   refine hK _ _ ⟨by simpa using e2,hC1.trans e3 fun i hi q=> ?_⟩
   simp only[ids,IS,IR,or_false] at hi
   subst hi;exact IL q aD
theorem EX  (h:Sl m v 1 C) (hl:C.length<=1000001):∃v' m',rT 33 [v] m v' m'/\bC m m' v' 1 C/\Chg [] m m':=by
 refine WF.ex fun K hK=> ?_
 refine WF.of_wpG (fun _=>rfl) ri (L:= [(.e,v)]) rfl ?_
 unfold BM
 have h':=h
 obtain ⟨h0,⟨rfl,rfl⟩|⟨id,off,kc,w,c,rfl,h1,h2,h3,h4⟩⟩:=h'
 ·simp (config:={maxSteps:=1000000}) (disch:=first|assumption|omega|(apply ah;omega)|(apply ab;assumption)|(simp only[aJ]<;>omega)) only[go_sem,seval,xg]
  exact hK _ _ ⟨bC.nil,dC rfl⟩
 ·simp (config:={maxSteps:=1000000}) (disch:=first|assumption|omega|(apply ah;omega)|(apply ab;assumption)|(simp only[aJ]<;>omega)) only[go_sem,seval,uR]
  have hC1:Chg [] m (hp [(.n 0,.cells true [])] 1 m):=dC rfl
  have ho:bC m (hp [(.n 0,.cells true [])] 1 m) (.slc (na m 0) 0 0 1 0) 1 []:=bC.of (by simp) aD jh (ah (by omega)) rfl rfl rfl
  by_cases hC:C= []
  ·subst hC
   rw[ho.sl.appNil (h.grew hC1)]
   simp (config:={maxSteps:=1000000}) (disch:=first|assumption|omega|(apply ah;omega)|(apply ab;assumption)|(simp only[aJ]<;>omega)) only[go_sem,seval]
   exact hK _ _ ⟨ho,hC1⟩
  ·obtain ⟨v',m',e1,e2,e3⟩:=ho.app (bytes:=4) (h.grew hC1) hC (fun i hi=>hC1.old hi) (by simp;omega) (by simp;omega)
   rw[e1]
   simp (config:={maxSteps:=1000000}) (disch:=first|assumption|omega|(apply ah;omega)|(apply ab;assumption)|(simp only[aJ]<;>omega)) only[go_sem,seval]
   refine hK _ _ ⟨by simpa using e2,hC1.trans e3 fun i hi q=> ?_⟩
   simp only[ids,IS,IR,or_false] at hi
   subst hi;exact IL q aD
theorem Fc (n:Nat) (x:NV):rep n [x]=List.replicate n x:=by
 rw[pI];induction n with
 |zero=>rfl
 |succ n ih=>rw[List.replicate_succ,List.flatten_cons,ih,List.replicate_succ];rfl
theorem BS (f:fg) {n:Nat} (hn:n<=64):∃v m',rT 34 [ii (n:Nat)] m v m'/\∃b f',v= .ptr b.p 0/\MeC f' m' b (List.replicate n 0) (List.replicate n 0) (List.replicate n 0) 0/\Kp (fun _=>False) f m f' m':=by
 refine WF.ex fun K hK=> ?_
 refine WF.of_wpG (fun _=>rfl) rY (L:= [(.e,ii (n:Nat))]) rfl ?_
 unfold BY
 have e1:min (n:Int) 64=n:=by omega
 have e2:max 0 (n:Int)=n:=by omega
 simp (config:={maxSteps:=1000000}) (disch:=first|assumption|omega|(apply ah;omega)|(apply ab;assumption)|(simp only[aJ]<;>omega)) only[go_sem,seval,e1,e2,Fc]
 generalize hM:hp _ 4 m=M
 have hC:Chg [] m M:=aR hM rfl
 have g0:M.get (na m 0)=some (.cells true (List.replicate n (iu 0))):=ba hM
 have g1:M.get (na m 1)=some (.cells true (List.replicate n (iu 0))):=ba hM
 have g2:M.get (na m 2)=some (.cells true (List.replicate n (ii 0))):=ba hM
 have g3:M.get (na m 3)=some (.cells true [.slc (na m 0) 0 n 1 n,.slc (na m 1) 0 n 1 n,.slc (na m 2) 0 n 1 n]):=ba hM
 have fl:∀x:NV,List.replicate n x=(List.replicate n [x]).flatten:=fun x=>by
  have:=Fc n x;rw[pI] at this;exact this.symm
 have hk:Kp (fun _=>False) f m (xG f m [2,3,4,1]) M:=⟨hC.next,fun ho=>IN ho,fun ho _=>hC.get ho (by simp)⟩
 refine hK _ _ ⟨⟨na m 3,.slc (na m 0) 0 n 1 n,.slc (na m 1) 0 n 1 n,.slc (na m 2) 0 n 1 n⟩,xG f m [2,3,4,1],rfl,⟨⟨g3,bj hM (by omega),jO f m _ 3⟩,⟨?_, ?_⟩,⟨?_, ?_⟩,⟨?_, ?_⟩,⟨by simp,by simp,by simpa using hn⟩,fun z hz=>by rw[(List.mem_replicate.1 hz).2];omega⟩,hk⟩
 ·rw[show pA (List.replicate n 0)=List.replicate n [iu 0] by simp]
  exact bC.of (by simp) qu g0 (bj hM (by omega)) (fl _) (by simp) (by simp)
 ·intro i hi;rw[one hi];exact jO f m _ 0
 ·rw[show pA (List.replicate n 0)=List.replicate n [iu 0] by simp]
  exact bC.of (by simp) qu g1 (bj hM (by omega)) (fl _) (by simp) (by simp)
 ·intro i hi;rw[one hi];exact jO f m _ 1
 ·rw[show ip (List.replicate n 0)=List.replicate n [ii 0] by simp]
  exact bC.of (by simp) qu g2 (bj hM (by omega)) (fl _) (by simp) (by simp)
 ·intro i hi;rw[one hi];exact jO f m _ 2
def xn (im:Im) (w:Nat):Mm:=⟨List.replicate w 0,List.replicate w 0, [jD im.start],false, []⟩
def fz:fg:=fun _=>0
theorem FI {n:Nat} (hn:n<=64) {ve vc:NV} (he:Sl m ve 1 (ip (im.entry.map Int.ofNat))) (hc:Sl m vc 1 (mu W)) (hW:CdOk W im.code) (hel:im.entry.length<=4):
 ∃v m',rT 15 [.agg [ii (n:Nat),ii (im.start:Nat),ve,vc]] m v m'/\∃p f' q,v= .ptr p 0/\MaC im W (n:Nat) 0 f' m' p q (xn im n)/\Kp (fun _=>False) fz m f' m':=by
 generalize hfz:fz=f
 refine WF.ex fun K hK=> ?_
 refine WF.of_wpG (fun _=>rfl) sF (L:= [(.e,.agg [ii (n:Nat),ii (im.start:Nat),ve,vc])]) rfl ?_
 unfold AF
 generalize hm1:hp [(.n 0,.cells true [ii (n:Nat),ii (im.start:Nat),ve,vc])] 1 m=m1
 have hC1:Chg [] m m1:=aR hm1 rfl
 have g1:m1.get (na m 0)=some (.cells true [ii (n:Nat),ii (im.start:Nat),ve,vc]):=ba hm1
 have o1:aP m1 (na m 0):=bj hm1 (by omega)
 have he1:=he.chg hC1 (by simp)
 have hc1:=hc.chg hC1 (by simp)
 have hlen:=he1.len
 simp only[List.length_map] at hlen
 have emin:min (im.entry.length:Int) 4=im.entry.length:=by omega
 simp (config:={maxSteps:=1000000}) (disch:=first|assumption|omega|(apply ah;omega)|(apply ab;assumption)|(simp only[aJ]<;>omega)) only[go_sem,seval,hm1,g1,hlen,emin]
 refine xS he1 (a:=0) (b:=im.entry.length) (by omega) (by simp) (fun K=>by simp only[go_sem,seval]) (fun d K _=>by simp only[go_sem,seval]<;>rfl) ?_
 intro v1 hv1 _
 rw[List.drop_zero,Nat.sub_zero,List.take_of_length_le (by simp)] at hv1
 obtain ⟨ve2,m2,r2,a2,hC2⟩:=Gg hv1 (by simp only[List.length_map];omega)
 have k12:Kp (fun _=>False) f m (aG f m1 8) m2:=(Kp.grow hC1).trans (Kp.of hC2 (by simp) 8)
 have hse:SlC 8 (aG f m1 8) m2 ve2 1 (ip (im.entry.map Int.ofNat)):=⟨a2.sl,fun i hi=>IM (a2.new i hi)⟩
 have o2:=hC2.old o1
 generalize hm3:hp [(.o (na m 0),.cells true [ii (n:Nat),ii (im.start:Nat),ve2,vc])] 0 m2=m3
 have hC3:Chg [na m 0] m2 m3:=aR hm3 rfl
 have g2:=(hC2.get o1 (by simp)).trans g1
 have g3:m3.get (na m 0)=some (.cells true [ii (n:Nat),ii (im.start:Nat),ve2,vc]):=by rw[←hm3];exact (bh o2).trans aN
 have o3:=hC3.old o2
 have nve:na m 0∉ids ve2:=fun hi=>a2.new _ hi o1
 have nvc:∀i∈ids vc,i≠na m 0:=fun i hi e=>aD (e▸hc.old i hi)
 have hC13:Chg [] m m3:=((hC1.trans hC2 (by simp)).weak (T:= [na m 0]) (by simp)).trans hC3 (fun i hi _=>hi) |>.weak fun i hi ho=>by rw[one hi] at ho;exact IL ho aD
 have hse3:SlC 8 (aG f m1 8) m3 ve2 1 (ip (im.entry.map Int.ofNat)):=⟨hse.o.chg hC3 fun i hi=>by simp;rintro rfl;exact nve hi,hse.c⟩
 have hc3:=hc.chg hC13 (by simp)
 have hve2:=a2.sl.one
 obtain ⟨vc2,m4,r4,a4,hC4⟩:=EX hc3 (by rw[List.length_map,hW.l];have:=hW.s;omega)
 have k34:Kp (fun _=>False) (aG f m1 8) m3 (aG (aG f m1 8) m3 8) m4:=Kp.of hC4 (by simp) 8
 have hsc:SlC 8 (aG (aG f m1 8) m3 8) m4 vc2 1 (mu W):=⟨a4.sl,fun i hi=>IM (a4.new i hi)⟩
 have hse4:=hse3.kp k34 (by simp)
 have o4:=hC4.old o3
 generalize hm5:hp [(.o (na m 0),.cells true [ii (n:Nat),ii (im.start:Nat),ve2,vc2])] 0 m4=m5
 have hC5:Chg [na m 0] m4 m5:=aR hm5 rfl
 have g4:=(hC4.get o3 (by simp)).trans g3
 have g5:m5.get (na m 0)=some (.cells true [ii (n:Nat),ii (im.start:Nat),ve2,vc2]):=by rw[←hm5];exact (bh o4).trans aN
 have o5:=hC5.old o4
 have nvc2:na m 0∉ids vc2:=fun hi=>a4.new _ hi o3
 have hC15:Chg [] m m5:=((hC13.trans hC4 (by simp)).weak (T:= [na m 0]) (by simp)).trans hC5 (fun i hi _=>hi) |>.weak fun i hi ho=>by rw[one hi] at ho;exact IL ho aD
 have hse5:SlC 8 (aG (aG f m1 8) m3 8) m5 ve2 1 (ip (im.entry.map Int.ofNat)):=⟨hse4.o.chg hC5 fun i hi=>by simp;rintro rfl;exact nve hi,hse4.c⟩
 have hsc5:SlC 8 (aG (aG f m1 8) m3 8) m5 vc2 1 (mu W):=⟨hsc.o.chg hC5 fun i hi=>by simp;rintro rfl;exact nvc2 hi,hsc.c⟩
 have hvc2:=a4.sl.one
 generalize hF:aG (aG f m1 8) m3 8=F at *
 have kF:Kp (fun _=>False) f m F m5:=⟨hC15.next,fun ho=>by
  rw[←hF]
  have h1:aP m1 _:=hC1.old ho
  have h3:aP m3 _:=hC13.old ho
  exact (IN h3).trans (IN h1),fun ho _=>hC15.get ho (by simp)⟩
 obtain ⟨v6,m6,r6,mb,F2,rfl,hme,k6⟩:=BS (m:=m5) F hn
 have g6:=(k6.g o5 (by simp)).trans g5
 have kc2:=hse5.o.same (n:=3)
 have kc3:=hsc5.o.same (n:=3)
 have hs4:bo 4 (.agg [ii (n:Nat),ii (im.start:Nat),ve2,vc2]) (.agg [ii (n:Nat),ii (im.start:Nat),ve2,vc2])=true:=dU fun v hv=>by
  simp only[IS,IR,or_false] at hv
  rcases hv with rfl|rfl|rfl|rfl
  ·trivial
  ·trivial
  ·exact hse5.o.flat
  ·exact hsc5.o.flat
 generalize hm7:hp [(.n 0,.cells true (jK n im.start ⟨mb,.nils,.nils,ve2,vc2, []⟩ false))] 1 m6=m7
 have hC7:Chg [] m6 m7:=aR hm7 rfl
 have k7:Kp (fun _=>False) F2 m6 (aG F2 m6 5) m7:=Kp.of hC7 (by simp) 5
 have h7:MaC im W n 0 (aG F2 m6 5) m7 (na m6 0) ⟨mb,.nils,.nils,ve2,vc2, []⟩ ⟨List.replicate n 0,List.replicate n 0, [],false, []⟩:=
  ⟨⟨ba hm7,bj hm7 (by omega),IM aD⟩,⟨_,hme.kp k7 (by simp)⟩,⟨bC.nil,by simp[ids]⟩,⟨rfl,by simp⟩,fun j b c hb=>by simp at hb,⟨bC.nil,by simp[ids]⟩,(hse5.kp k6 (by simp)).kp k7 (by simp),(hsc5.kp k6 (by simp)).kp k7 (by simp),hW,by simp,hel⟩
 obtain ⟨m8,r8,f8,q8,h8,k8⟩:=sI h7
 have hm7':=hm7
 unfold jK at hm7'
 simp (config:={maxSteps:=1000000}) (disch:=first|assumption|omega|(apply ah;omega)|(apply ab;assumption)|(simp only[aJ]<;>omega)) only[go_sem,seval,r2.wf,g2,hve2,hm3,r4.wf,g4,hvc2,hm5,g5,r6.wf,g6,hs4,g3,kc2,kc3,hm7',r8.wf']
 refine hK _ _ ⟨_,f8,q8,rfl,h8, ?_⟩
 have k57:=kF.trans (k6.trans k7)
 exact ⟨Nat.le_trans k57.n k8.n,fun ho=>(k8.c (k57.old ho)).trans (k57.c ho),fun ho _=>(k8.g (k57.old ho) (by rw[k57.c ho,←hfz];unfold TM fz;omega)).trans (k57.g ho (by simp))⟩
end
section
variable {f f':fg} {m m':NH} {p:D4} {q:Mq} {M:Mm} {im:Im} {W:List Int} {w:Int} {N:Nat}
theorem FH (h:MaC im W w N f m p q M):∃v m',rT 51 [q.vcs,.fn 30 []] m v m'/\(∃z,v=ii z/\(0<=z↔M.cs.all cW=false))/\Chg [] m m':=by
 refine WF.ex fun K hK=> ?_
 refine WF.of_wpG (fun _=>rfl) sr (L:= [(.a .e,.fn 30 []),(.e,q.vcs)]) rfl ?_
 unfold CN
 have hlen:=h.cs.o.sl.len
 rw[List.length_map,h.len.1] at hlen
 have hl4:=h.len.2
 rw[am]
 simp (config:={maxSteps:=1000000}) (disch:=first|assumption|omega|(apply ah;omega)|(apply ab;assumption)|(simp only[aJ]<;>omega)) only[go_sem,seval,hlen]
 refine Nm.W.loop (fun n d=>∃T M' i,d=⟨T, [],none,M'⟩/\NT.get D4.e T=some q.vcs/\NT.get D4.e.a T=some (.fn 30 [])/\NT.get D4.e.a.c T=some (ii (M.cs.length:Nat))/\NT.get D4.e.a.f T=some (ii (i:Nat))/\i+n=M.cs.length/\(M.cs.take i).all cW=true/\Chg [] m M') ?_ M.cs.length _ ⟨_,m,0,rfl,by simp only[go_sem,seval],by simp only[go_sem,seval],by simp only[go_sem,seval],by simp only[go_sem,seval]<;>rfl,by omega,rfl,Chg.refl m⟩
 rintro n d ⟨T,m1,i,rfl,t1,t2,t3,t4,hin,hq,hC⟩
 apply bz
 unfold qY
 change wp _ _ _ _ ⟨aw [] T, [],none,m1⟩ _
 by_cases hi:i<M.cs.length
 ·obtain ⟨b,c,b1,b2,hco,id,off,wr,cs,a1,a2,a3,a4⟩:=(h.grow hC).at hi
  have hci:M.cs[i]=c:=(List.getElem?_eq_some_iff.1 b2).2
  have r1:∃m',rT 30 [.ptr b.r 0] m1 (.bool (!cW c)) m'/\Chg [] m1 m':=by
   refine WF.ex1 fun K hK=> ?_
   refine WF.of_wpG (fun _=>rfl) rp (L:= [(.e,.ptr b.r 0)]) rfl ?_
   unfold Dk
   obtain ⟨m2,r2,hC2⟩:=sB hco
   rw[am]
   simp (config:={maxSteps:=1000000}) (disch:=first|assumption|omega|(apply ah;omega)|(apply ab;assumption)|(simp only[aJ]<;>omega)) only[go_sem,seval,r2.wf']
   exact hK _ hC2
  obtain ⟨m2,r2,hC2⟩:=r1
  cases hqc:cW c with
  |true=>
   rw[hqc] at r2
   simp (config:={maxSteps:=1000000}) (disch:=first|assumption|omega|(apply ah;omega)|(apply ab;assumption)|(simp only[aJ]<;>omega)) only[go_sem,seval,t1,t2,t3,t4,a1,a2,a4,r2.wf']
   refine ⟨n - 1,by omega,_,m2,i+1,by rfl,by simp only[go_sem,seval,t1],by simp only[go_sem,seval,t2],by simp only[go_sem,seval,t3],by simp only[go_sem,seval]<;>rfl,by omega, ?_,hC.trans hC2 (by simp)⟩
   rw[List.take_add_one,b2,List.all_append,hq]
   simp[hqc]
  |false=>
   rw[hqc] at r2
   simp (config:={maxSteps:=1000000}) (disch:=first|assumption|omega|(apply ah;omega)|(apply ab;assumption)|(simp only[aJ]<;>omega)) only[go_sem,seval,t1,t2,t3,t4,a1,a2,a4,r2.wf']
   refine hK _ _ ⟨⟨i,rfl,fun _=> ?_,fun _=>by omega⟩,hC.trans hC2 (by simp)⟩
   rw[List.all_eq_false]
   exact ⟨c,List.mem_of_getElem? b2,by rw[hqc];simp⟩
 ·simp (config:={maxSteps:=1000000}) (disch:=first|assumption|omega|(apply ah;omega)|(apply ab;assumption)|(simp only[aJ]<;>omega)) only[go_sem,seval,t1,t2,t3,t4]
  rw[List.take_of_length_le (by omega)] at hq
  exact hK _ _ ⟨⟨-1,rfl,fun h=>by omega,fun h=>by rw[hq] at h;cases h⟩,hC⟩
def zN (M:Mm):Bool:=M.on&&M.cs.all cW
theorem xt (h:MaC im W w N f m p q M):∃m',rT 14 [.ptr p 0] m (.bool (zN M)) m'/\Chg [] m m':=by
 refine WF.ex1 fun K hK=> ?_
 refine WF.of_wpG (fun _=>rfl) rh (L:= [(.e,.ptr p 0)]) rfl ?_
 unfold BB
 have g:=h.g.g
 unfold zN at hK
 cases hon:M.on with
 |false=>
  simp only[hon] at g
  rw[hon] at hK
  rw[am]
  simp (config:={maxSteps:=1000000}) (disch:=first|assumption|omega|(apply ah;omega)|(apply ab;assumption)|(simp only[aJ]<;>omega)) only[go_sem,seval,g]
  exact hK _ (Chg.refl m)
 |true=>
  simp only[hon] at g
  rw[hon] at hK
  obtain ⟨v,m1,r1,⟨z,rfl,hz⟩,hC1⟩:=FH h
  have r2:∃m',rT 29 [q.vcs,.fn 30 []] m (.bool (!M.cs.all cW)) m'/\Chg [] m m':=by
   refine WF.ex1 fun K hK=> ?_
   refine WF.of_wpG (fun _=>rfl) rE (L:= [(.a .e,.fn 30 []),(.e,q.vcs)]) rfl ?_
   unfold Eh
   rw[am]
   cases hall:M.cs.all cW with
   |true=>
    rw[hall] at hz hK
    have:¬0<=z:=fun h=>by have:=hz.1 h;cases this
    simp (config:={maxSteps:=1000000}) (disch:=first|assumption|omega|(apply ah;omega)|(apply ab;assumption)|(simp only[aJ]<;>omega)) only[go_sem,seval,r1.wf',this]
    exact hK _ hC1
   |false=>
    rw[hall] at hz hK
    have:0<=z:=hz.2 rfl
    simp (config:={maxSteps:=1000000}) (disch:=first|assumption|omega|(apply ah;omega)|(apply ab;assumption)|(simp only[aJ]<;>omega)) only[go_sem,seval,r1.wf',this]
    exact hK _ hC1
  obtain ⟨m2,r2,hC2⟩:=r2
  rw[am]
  simp (config:={maxSteps:=1000000}) (disch:=first|assumption|omega|(apply ah;omega)|(apply ab;assumption)|(simp only[aJ]<;>omega)) only[go_sem,seval,g,r2.wf',Bool.not_not]
  exact hK _ hC2
end
abbrev eW (l:List In):List (List NV):=l.map be
def u3 (w:Int) (i:In):Prop:=S0 36 [.agg (be i)]=some (.tup [iw w,ii 0])
section
variable {m m':NH}
theorem xM {l:List In} {W:List Int} (hv:Sl m v 7 (eW l)) (hl:l.length<=1000) (hW:W.length=l.length) (hE:∀n (hn:n<l.length),u3 (W[n]'(by omega)) l[n]):
 ∃u m',rT 16 [v] m u m'/\bC m m' u 1 (mu W)/\Chg [] m m':=by
 refine WF.ex fun K hK=> ?_
 refine WF.of_wpG (fun _=>rfl) sa (L:= [(.e,v)]) rfl ?_
 unfold Dt
 have hlen:=hv.len
 rw[List.length_map] at hlen
 rw[am]
 simp (config:={maxSteps:=1000000}) (disch:=first|assumption|omega|(apply ah;omega)|(apply ab;assumption)|(simp only[aJ]<;>omega)) only[go_sem,seval,hlen]
 refine Nm.W.loop (fun n d=>∃T M' i u,d=⟨T, [],none,M'⟩/\NT.get D4.e T=some v/\NT.get D4.e.c T=some u/\NT.get D4.e.f T=some (ii (i:Nat))/\i+n=l.length/\bC m M' u 1 (mu (W.take i))/\Chg [] m M') ?_ l.length _ ⟨_,m,0,.nils,rfl,by simp only[go_sem,seval],by simp only[go_sem,seval],by simp only[go_sem,seval]<;>rfl,by omega,bC.nil,Chg.refl m⟩
 rintro n d ⟨T,m1,i,u,rfl,t1,t2,t3,hin,ho,hC⟩
 apply bz
 unfold rS
 change wp _ _ _ _ ⟨aw [] T, [],none,m1⟩ _
 have hlen1:=(hv.chg hC (by simp)).len
 rw[List.length_map] at hlen1
 by_cases hi:i<l.length
 ·obtain ⟨id,off,wr,cs,a1,a2,a3,a4,a5⟩:=(hv.chg hC (by simp)).at i (by simpa using hi)
  rw[List.getElem_map] at a5
  have a4':off+7<=cs.length:=a4
  have r1:∀m,rT 36 [.agg (be l[i])] m (.tup [iw W[i],ii 0]) m:=fun m=>nG.kept (hE i hi) m
  have hil:=io l[i]
  generalize hm2:hp [(.n 0,.cells true [iw W[i]])] 1 m1=m2
  have hC2:Chg [] m1 m2:=aR hm2 rfl
  obtain ⟨u',m4,q1,q2,q3⟩:=(ho.chg hC2 (by simp)).app1 (bytes:=4) (kc:=1) (x:=na m1 0) (cs:= [iw W[i]]) (ba hm2) (bj hm2 (by omega)) rfl (fun i hi=>hC2.old (hC.old hi)) (by simp only[List.length_map,List.length_take];omega) (by simp only[List.length_map,List.length_take];omega)
  simp (config:={maxSteps:=1000000}) (disch:=first|assumption|omega|(apply ah;omega)|(apply ab;assumption)|(simp only[aJ]<;>omega)) only[go_sem,seval,t1,t2,t3,hlen1,a1,a2,a5,(r1 _).wf,hm2,q1]
  refine ⟨n - 1,by omega,_,m4,i+1,u',by rfl,by simp only[go_sem,seval,t1],by simp only[go_sem,seval],by simp only[go_sem,seval]<;>rfl,by omega, ?_,(hC.trans hC2 (by simp)).trans q3 fun j hj hjo=>IL hjo (ho.new j hj)⟩
  rw[List.take_add_one,List.getElem?_eq_getElem (by omega)]
  have e:mu (W.take i++(some W[i]).toList)=mu (W.take i)++ [[iw W[i]]]:=List.map_append
  rw[e];exact q2
 ·simp (config:={maxSteps:=1000000}) (disch:=first|assumption|omega|(apply ah;omega)|(apply ab;assumption)|(simp only[aJ]<;>omega)) only[go_sem,seval,t1,t2,t3,hlen1]
  rw[List.take_of_length_le (by omega)] at ho
  exact hK _ _ ⟨ho,hC⟩
theorem ni {B:NH} {l l2:List In} (hv:bC B m v 7 (eW l)) (hu:Sl m u 7 (eW l2)) (h2:l2≠ []) (hB:∀id,aP B id->aP m id) (hl:l.length+l2.length<=1000):
 ∃v' m',oB 7 56 m v u= .mem v' m'/\bC B m' v' 7 (eW (l++l2))/\Chg (ids v) m m'/\∀i∈ids v',i∈ids v∨¬aP m i:=by
 obtain ⟨v',m',a,b,c⟩:=hv.app (bytes:=56) hu (by simpa using h2) hB (by simp only[List.length_map];omega) (by simp only[List.length_map];omega)
 exact ⟨v',m',a,by rw[show eW (l++l2)=eW l++eW l2 by simp];exact b,c,qJ a⟩
def uu (b:Bool):Nat->List In
 |0=> [.hlt]
 |1=> [.hlt]++jX b 0
 |_=> [.hlt]++jX b 0++jX b 1
def sU (b:Bool):Nat->List Int
 |0=> []
 |1=> [1]
 |_=> [1,if b then 9 else 8]
def zo (b:Bool):List In:=if b then [.dmb] else []
theorem wM (b:Bool) (i:Nat) (hi:i<2):(uu b i).length=1+i*(7+dT b):=by
 match i,hi with
 |0,_=>simp[uu]
 |1,_=>cases b<;>rfl
theorem CB (b:Bool) (i:Nat):(sU b i).length<=2:=by
 match i with
 |0=>simp[sU]
 |1=>simp[sU]
 |i+2=>simp[sU]
def xp (i:Nat):List In:= [.movz 1 (4096+8*i),.movz 2 (4104 - 8*i),.movz 3 1,.str 3 1]
def DF:List In:= [.ldr 0 2,.svc,.hlt]
theorem x9 (b:Bool) {i:Nat} (hi:i<2):uu b i++xp i++zo b++DF=uu b (i+1):=by
 match i,hi with
 |0,_=>cases b<;>rfl
 |1,_=>cases b<;>rfl
theorem zc (b:Bool) {i:Nat} (hi:i<2):sU b i++ [((1+i*(7+dT b):Nat):Int)]=sU b (i+1):=by
 match i,hi with
 |0,_=>simp[sU]
 |1,_=>cases b<;>rfl
theorem xf {b:Bool} {bt:NV} (hb:Sl m bt 7 (eW (zo b))) {T0:Tm} (t1:NT.get D4.e T0=some bt) {vc0:NV} {m0:NH} (hC0:Chg [] m m0) (t2:NT.get D4.e.c T0=some vc0) (hc0:bC m m0 vc0 7 (eW [.hlt])) (t3:NT.get D4.e.f T0=some .nils) (t4:NT.get D4.e.a.a T0=some (ii 0)) (hQ:∀T M vc ve,NT.get D4.e.c T=some vc->NT.get D4.e.f T=some ve->bC m M vc 7 (eW (uu b 2))->bC m M ve 1 (ip (sU b 2))->Chg [] m M->Q (.exit 0) ⟨T, [],none,M⟩):
 W Tryz.prog S0 none qL.loop ⟨T0, [],none,m0⟩ Q:=by
 refine W.loop (fun n d=>∃T M' i vc ve,d=⟨T, [],none,M'⟩/\NT.get D4.e T=some bt/\NT.get D4.e.c T=some vc/\NT.get D4.e.f T=some ve/\NT.get D4.e.a.a T=some (ii (i:Nat))/\i+n=2/\bC m M' vc 7 (eW (uu b i))/\bC m M' ve 1 (ip (sU b i))/\(∀i∈ids vc,i∉ids ve)/\Chg [] m M') ?_ 2 _ ⟨T0,m0,0,vc0,.nils,rfl,t1,t2,t3,t4,by omega,hc0,bC.nil,by simp[ids],hC0⟩
 rintro n d ⟨T,M,i,vc,ve,rfl,t1,t2,t3,t4,hin,hvc,hve,hdis,hC⟩
 apply bz
 unfold qL
 change wp _ _ _ _ ⟨aw [] T, [],none,M⟩ _
 by_cases hi:i<2
 ·have hlen:=hvc.sl.len
  rw[List.length_map,wM b i hi] at hlen
  generalize hm1:hp [(.n 0,.cells true [ii ((1+i*(7+dT b):Nat):Int)])] 1 M=m1
  have hC1:Chg [] M m1:=aR hm1 rfl
  have hcd:=wM b i hi
  have hen:=CB b i
  have hdt:dT b<=1:=by cases b<;>simp[dT]
  have hi7:i*(7+dT b)<=8:=by have:=Nat.mul_le_mul (show i<=1 by omega) (show 7+dT b<=8 by omega);omega
  obtain ⟨ve',m2,q1,q2,q3,q4⟩:=(hve.chg hC1 (by simp)).app2 (bytes:=8) (kc:=1) (x:=na M 0) (cs:= [ii ((1+i*(7+dT b):Nat):Int)]) (ba hm1) (bj hm1 (by omega)) rfl (fun i hi=>hC1.old (hC.old hi)) (by simp only[List.length_map];omega) (by simp only[List.length_map];omega)
  rw[←am m2] at q1
  have hmul:cz .num .mul (ii 8) (ii (i:Nat))=some (ii (8*(i:Nat))):=vO (by omega) (by omega)
  have eA:4096+8*(i:Int)=((4096+8*i:Nat):Int):=by omega
  have eB:4104 - 8*(i:Int)=((4104 - 8*i:Nat):Int):=by omega
  have hvc2:bC m m2 vc 7 (eW (uu b i)):=(hvc.chg hC1 (by simp)).chg q3 fun j hj hj2=>hdis j hj hj2
  have hC2:Chg [] m m2:=(hC.trans hC1 (by simp)).trans q3 fun j hj hjo=>IL hjo (hve.new j hj)
  generalize hm3:hp [(.n 0,.cells true ((eW (xp i)).flatten))] 1 m2=m3
  have hC3:Chg [] m2 m3:=aR hm3 rfl
  have hu3:Sl m3 (.slc (na m2 0) 0 4 7 4) 7 (eW (xp i)):=⟨fun x hx=>by obtain ⟨y,-,rfl⟩:=List.mem_map.1 hx;exact io y,Or.inr ⟨na m2 0,0,4,true,_,rfl,ba hm3,bj hm3 (by omega),by simp[xp,be],by simp[xp,be]⟩⟩
  obtain ⟨w1,m4,x1,x2,x3,x4⟩:=ni (hvc2.chg hC3 (by simp)) hu3 (by simp[xp]) (fun i hi=>hC3.old (hC2.old hi)) (by rw[hcd];simp[xp];omega)
  have hC4:Chg [] m m4:=(hC2.trans hC3 (by simp)).trans x3 fun j hj hjo=>IL hjo (hvc.new j hj)
  have hm3':hp [(.n 0,.cells true [ii 0,ii 1,ii 0,ii 0,ii 0,ii 0,ii ((4096+8*i:Nat):Int),ii 0,ii 2,ii 0,ii 0,ii 0,ii 0,ii ((4104 - 8*i:Nat):Int),ii 0,ii 3,ii 0,ii 0,ii 0,ii 0,ii 1,ii 13,ii 3,ii 1,ii 0,ii 0,ii 0,ii 0])] 1 m2=m3:=hm3
  rw[←am m4] at x1
  have d0:∀j∈ids vc,j∉ids ve':=fun j hj hj2=>(q4 j hj2).elim (hdis j hj) fun u=>u (hC1.old (hvc.sl.old j hj))
  have ov2:∀j∈ids ve',aP m2 j:=q2.sl.old
  have d1:∀j∈ids w1,j∉ids ve':=fun j hj hj2=>(x4 j hj).elim (fun u=>d0 j u hj2) fun u=>u (hC3.old (ov2 j hj2))
  have e4:=(q2.chg hC3 (by simp)).chg x3 fun j hj hj2=>d0 j hj2 hj
  have mid:∃r w2 m5,oB 7 56 m4 w1 bt=r/\(r= .mem w2 (hp [] 0 m5)∨(r= .val w2/\m5=m4))/\bC m m5 w2 7 (eW (uu b i++xp i++zo b))/\Chg [] m m5/\(∀j∈ids w2,j∉ids ve')/\bC m m5 ve' 1 (ip (sU b i)++ [[ii ((1+i*(7+dT b):Nat):Int)]]):=by
   cases b with
   |false=>
    refine ⟨_,w1,m4,x2.sl.appNil (hb.chg hC4 (by simp)),Or.inr ⟨rfl,rfl⟩, ?_,hC4,d1,e4⟩
    simpa [zo] using x2
   |true=>
    obtain ⟨w2,m5,y1,y2,y3,y4⟩:=ni x2 (hb.chg hC4 (by simp)) (by simp[zo]) (fun i hi=>hC4.old hi) (by rw[List.length_append,hcd];simp[xp,zo];omega)
    exact ⟨_,w2,m5,y1,Or.inl (by rw[am]),y2,hC4.trans y3 fun j hj hjo=>IL hjo (x2.new j hj),fun j hj hj2=>(y4 j hj).elim (fun u=>d1 j u hj2) fun u=>u (e4.sl.old j hj2),e4.chg y3 fun j hj hj2=>d1 j hj2 hj⟩
  obtain ⟨r,w2,m5,y1,y2,y3,hC5,d2,e5⟩:=mid
  rw[show m4=hp [] 0 m4 from (am m4).symm] at y1
  generalize hm6:hp [(.n 0,.cells true ((eW DF).flatten))] 1 m5=m6
  have hC6:Chg [] m5 m6:=aR hm6 rfl
  have hu6:Sl m6 (.slc (na m5 0) 0 3 7 3) 7 (eW DF):=⟨fun x hx=>by obtain ⟨y,-,rfl⟩:=List.mem_map.1 hx;exact io y,Or.inr ⟨na m5 0,0,3,true,_,rfl,ba hm6,bj hm6 (by omega),by simp[DF,be],by simp[DF,be]⟩⟩
  obtain ⟨w3,m7,z1,z2,z3,z4⟩:=ni (y3.chg hC6 (by simp)) hu6 (by simp[DF]) (fun i hi=>hC6.old (hC5.old hi)) (by simp only[List.length_append];rw[hcd];simp[xp,DF,zo];cases b<;>simp<;>omega)
  have hC7:Chg [] m m7:=(hC5.trans hC6 (by simp)).trans z3 fun j hj hjo=>IL hjo (y3.new j hj)
  have e6:=e5.chg hC6 (by simp)
  have d3:∀j∈ids w3,j∉ids ve':=fun j hj hj2=>(z4 j hj).elim (fun u=>d2 j u hj2) fun u=>u (e6.sl.old j hj2)
  have e7:=e6.chg z3 fun j hj hj2=>d2 j hj2 hj
  have e7':bC m m7 ve' 1 (ip (sU b (i+1))):=by rw[←zc b hi,show ip (sU b i++ [((1+i*(7+dT b):Nat):Int)])=ip (sU b i)++ [[ii ((1+i*(7+dT b):Nat):Int)]] from List.map_append];exact e7
  rw[x9 b hi] at z2
  have hm6':hp [(.n 0,.cells true [ii 12,ii 0,ii 2,ii 0,ii 0,ii 0,ii 0,ii 23,ii 0,ii 0,ii 0,ii 0,ii 0,ii 0,ii 22,ii 0,ii 0,ii 0,ii 0,ii 0,ii 0])] 1 m5=m6:=hm6
  rw[←am M]
  rcases y2 with rfl|⟨rfl,rfl⟩
  ·simp (config:={maxSteps:=1000000}) (disch:=first|assumption|omega|(apply ah;omega)|(apply ab;assumption)|(simp only[aJ]<;>omega)) only[go_sem,seval,t1,t2,t3,t4,hlen,hm1,q1,hmul,eA,eB,hm3',x1,y1,hm6',z1]
   exact ⟨n - 1,by omega,_,m7,i+1,w3,ve',by rfl,by simp only[go_sem,seval,t1],by simp only[go_sem,seval],by simp only[go_sem,seval],by simp only[go_sem,seval]<;>rfl,by omega,z2,e7',d3,hC7⟩
  ·simp (config:={maxSteps:=1000000}) (disch:=first|assumption|omega|(apply ah;omega)|(apply ab;assumption)|(simp only[aJ]<;>omega)) only[go_sem,seval,t1,t2,t3,t4,hlen,hm1,q1,hmul,eA,eB,hm3',x1,y1,hm6',z1]
   exact ⟨n - 1,by omega,_,m7,i+1,w3,ve',by rfl,by simp only[go_sem,seval,t1],by simp only[go_sem,seval],by simp only[go_sem,seval],by simp only[go_sem,seval]<;>rfl,by omega,z2,e7',d3,hC7⟩
 ·simp (config:={maxSteps:=1000000}) (disch:=first|assumption|omega|(apply ah;omega)|(apply ab;assumption)|(simp only[aJ]<;>omega)) only[go_sem,seval,t1,t2,t3,t4]
  have e:i=2:=by omega
  subst e
  exact hQ _ _ _ _ (by simp only[go_sem,seval,t2]) (by simp only[go_sem,seval,t3]) hvc hve hC
end
def lU:List Int->List In->Prop
 | [], []=>True
 |w::ws,i::is=>(Kept w i/\yA i/\u3 w i)/\lU ws is
 |_,_=>False
theorem lU.len:∀{W:List Int} {l:List In},lU W l->W.length=l.length
 | [], [],_=>rfl
 |_::_,_::_,h=>by simp[lU.len h.2]
 | [],_::_,h=>h.elim
 |_::_, [],h=>h.elim
theorem lU.at:∀{W:List Int} {l:List In},lU W l->∀(n:Nat) (h1:n<W.length) (h2:n<l.length),Kept W[n] l[n]/\yA l[n]/\u3 W[n] l[n]
 |w::ws,i::is,h,0,_,_=>h.1
 |w::ws,i::is,h,n+1,h1,h2=>lU.at h.2 n (by simpa using h1) (by simpa using h2)
 | [], [],_,n,h1,_=>by simp at h1
 | [],_::_,h,_,_,_=>h.elim
 |_::_, [],h,_,_,_=>h.elim
theorem lU.cd {W:List Int} {l:List In} (h:lU W l) (hs:l.length<100000):CdOk W l:=
 ⟨h.len,fun n i hi=>by
  obtain ⟨h1,h2⟩:=List.getElem?_eq_some_iff.1 hi
  have hw:n<W.length:=by rw[h.len];exact h1
  obtain ⟨a,b,-⟩:=h.at n hw h1
  rw[h2] at a b
  exact ⟨W[n],List.getElem?_eq_getElem hw,a,b⟩,hs⟩
def WT (b:Bool):List Int:=if b then [3560964096,3531735041,3531735298,3531604003,4177526819,3573758911,4181721152,3556769793,3560964096,3531735297,3531735042,3531604003,4177526819,3573758911,4181721152,3556769793,3560964096] else [3560964096,3531735041,3531735298,3531604003,4177526819,4181721152,3556769793,3560964096,3531735297,3531735042,3531604003,4177526819,4181721152,3556769793,3560964096]
theorem rf (b:Bool):lU (WT b) (uu b 2):=by
 cases b
 ·exact ⟨⟨⟨rfl,rfl⟩,trivial,rfl⟩,⟨⟨⟨rfl,rfl⟩,⟨by omega,by omega⟩,rfl⟩,⟨⟨⟨rfl,rfl⟩,⟨by omega,by omega⟩,rfl⟩,⟨⟨⟨rfl,rfl⟩,⟨by omega,by omega⟩,rfl⟩,⟨⟨⟨rfl,rfl⟩,⟨by omega,by omega⟩,rfl⟩,⟨⟨⟨rfl,rfl⟩,⟨by omega,by omega⟩,rfl⟩,⟨⟨⟨rfl,rfl⟩,trivial,rfl⟩,⟨⟨⟨rfl,rfl⟩,trivial,rfl⟩,⟨⟨⟨rfl,rfl⟩,⟨by omega,by omega⟩,rfl⟩,⟨⟨⟨rfl,rfl⟩,⟨by omega,by omega⟩,rfl⟩,⟨⟨⟨rfl,rfl⟩,⟨by omega,by omega⟩,rfl⟩,⟨⟨⟨rfl,rfl⟩,⟨by omega,by omega⟩,rfl⟩,⟨⟨⟨rfl,rfl⟩,⟨by omega,by omega⟩,rfl⟩,⟨⟨⟨rfl,rfl⟩,trivial,rfl⟩,⟨⟨⟨rfl,rfl⟩,trivial,rfl⟩,trivial⟩⟩⟩⟩⟩⟩⟩⟩⟩⟩⟩⟩⟩⟩⟩
 ·exact ⟨⟨⟨rfl,rfl⟩,trivial,rfl⟩,⟨⟨⟨rfl,rfl⟩,⟨by omega,by omega⟩,rfl⟩,⟨⟨⟨rfl,rfl⟩,⟨by omega,by omega⟩,rfl⟩,⟨⟨⟨rfl,rfl⟩,⟨by omega,by omega⟩,rfl⟩,⟨⟨⟨rfl,rfl⟩,⟨by omega,by omega⟩,rfl⟩,⟨⟨⟨rfl,rfl⟩,trivial,rfl⟩,⟨⟨⟨rfl,rfl⟩,⟨by omega,by omega⟩,rfl⟩,⟨⟨⟨rfl,rfl⟩,trivial,rfl⟩,⟨⟨⟨rfl,rfl⟩,trivial,rfl⟩,⟨⟨⟨rfl,rfl⟩,⟨by omega,by omega⟩,rfl⟩,⟨⟨⟨rfl,rfl⟩,⟨by omega,by omega⟩,rfl⟩,⟨⟨⟨rfl,rfl⟩,⟨by omega,by omega⟩,rfl⟩,⟨⟨⟨rfl,rfl⟩,⟨by omega,by omega⟩,rfl⟩,⟨⟨⟨rfl,rfl⟩,trivial,rfl⟩,⟨⟨⟨rfl,rfl⟩,⟨by omega,by omega⟩,rfl⟩,⟨⟨⟨rfl,rfl⟩,trivial,rfl⟩,⟨⟨⟨rfl,rfl⟩,trivial,rfl⟩,trivial⟩⟩⟩⟩⟩⟩⟩⟩⟩⟩⟩⟩⟩⟩⟩⟩⟩
theorem Il (b:Bool):(jE b).entry.map Int.ofNat=sU b 2:=by cases b<;>rfl
theorem Ib (b:Bool):(jE b).code=uu b 2:=by cases b<;>rfl
section
variable {m m':NH}
theorem F4 {b:Bool} {bt:NV} (hb:Sl m bt 7 (eW (zo b))):∃v m',rT 6 [bt] m v m'/\∃p f' q,v= .ptr p 0/\MaC (jE b) (WT b) 2 0 f' m' p q (xn (jE b) 2)/\Kp (fun _=>False) fz m f' m':=by
 refine WF.ex fun K hK=> ?_
 refine WF.of_wpG (fun _=>rfl) vk (L:= [(.e,bt)]) rfl ?_
 unfold Ia
 generalize hm1:hp [(.n 0,.cells true [ii 22,ii 0,ii 0,ii 0,ii 0,ii 0,ii 0])] 1 m=m1
 have hC1:Chg [] m m1:=aR hm1 rfl
 have hc0:bC m m1 (.slc (na m 0) 0 1 7 1) 7 (eW [.hlt]):=bC.of (by simp[be]) aD (ba hm1) (bj hm1 (by omega)) rfl rfl rfl
 simp (config:={maxSteps:=1000000}) (disch:=first|assumption|omega|(apply ah;omega)|(apply ab;assumption)|(simp only[aJ]<;>omega)) only[go_sem,seval,hm1]
 refine xf hb ?_ hC1 ?_ hc0 ?_ ?_ ?_
 ·simp (config:={maxSteps:=1000000}) (disch:=first|assumption|omega|(apply ah;omega)|(apply ab;assumption)|(simp only[aJ]<;>omega)) only[go_sem,seval]
 ·simp (config:={maxSteps:=1000000}) (disch:=first|assumption|omega|(apply ah;omega)|(apply ab;assumption)|(simp only[aJ]<;>omega)) only[go_sem,seval]
 ·simp (config:={maxSteps:=1000000}) (disch:=first|assumption|omega|(apply ah;omega)|(apply ab;assumption)|(simp only[aJ]<;>omega)) only[go_sem,seval]
 ·simp (config:={maxSteps:=1000000}) (disch:=first|assumption|omega|(apply ah;omega)|(apply ab;assumption)|(simp only[aJ]<;>omega)) only[go_sem,seval]
 intro T M vc ve t1 t2 hvc hve hC
 change dv _ _ _ ⟨aw [] T,_,_,_⟩
 obtain ⟨u,m2,r2,a2,hC2⟩:=xM (W:=WT b) hvc.sl (by cases b<;>simp[uu,jX]) (rf b).len (fun n hn=>((rf b).at n (by rw[(rf b).len];exact hn) hn).2.2)
 have hvt:Sl m2 ve 1 (ip ((jE b).entry.map Int.ofNat)):=by rw[Il];exact hve.sl.chg hC2 (by simp)
 have hcd:CdOk (WT b) (jE b).code:=by rw[Ib];exact (rf b).cd (by cases b<;>simp[uu,jX])
 obtain ⟨v,m3,r3,p,f',q,rfl,h3,k3⟩:=FI (im:=jE b) (n:=2) (by omega) hvt a2.sl hcd (by simp[jE])
 have e0:((jE b).start:Int)=0:=rfl
 rw[e0,show ((2:Nat):Int)=2 from rfl] at r3
 have cve:=hve.sl.one
 have cu:=a2.sl.one
 simp (config:={maxSteps:=1000000}) (disch:=first|assumption|omega|(apply ah;omega)|(apply ab;assumption)|(simp only[aJ]<;>omega)) only[go_sem,seval,t1,t2,cve,cu,r2.wf',r3.wf']
 exact hK _ _ ⟨p,f',q,rfl,h3,(Kp.grow (hC.trans hC2 (by simp))).trans k3⟩
end
theorem rc (b:Bool) {i:Nat} (hi:i=0∨i=1) {c:Co} {s:Nat} {v:Int} {w:List Wr} (h:InC b i c s v w) {n:Nat} (hn:n=2):c.w.length<=1/\(∀y∈c.w,y.a<n)/\c.pc<=(jE b).code.length/\∀x,(jE b).code[c.pc]? =some x->sX x c n:=by
 subst hn
 obtain ⟨rfl,h8,h5,h3,hw,hb⟩:=h
 have e:∀w,(Iz b i v w s).w=w:=by intro w;unfold Iz;split<;>rfl
 rw[e]
 refine ⟨by rcases hw with rfl|rfl<;>simp,fun y hy=> ?_, ?_,fun x hx=> ?_⟩
 ·rcases hw with rfl|rfl
  ·simp at hy
  ·rw[List.mem_singleton] at hy;subst hy;dsimp only;omega
 ·have hs:s=0∨s=1∨s=2∨s=3∨s=4∨s=5∨s=6∨s=7∨s=8:=by omega
  rcases hs with rfl|rfl|rfl|rfl|rfl|rfl|rfl|rfl|rfl<;>rcases hi with rfl|rfl<;>cases b<;>exact Nat.le_of_ble_eq_true rfl
 ·have hs:s=0∨s=1∨s=2∨s=3∨s=4∨s=5∨s=6∨s=7∨s=8:=by omega
  rcases hs with rfl|rfl|rfl|rfl|rfl|rfl|rfl|rfl|rfl<;>rcases hi with rfl|rfl<;>cases b<;>first
   |(exact IL rfl (h5 rfl))
   |(cases hx<;>first|trivial|exact ⟨0,by omega,rfl⟩|exact ⟨1,by omega,rfl⟩)
theorem Fu {b:Bool} {M:Mm} (h:InT b M):EQ (jE b) M:=by
 obtain ⟨hn,hk,hc⟩:=h
 rcases hc with ⟨h1,h2⟩|⟨h1,c0,c1,h2,⟨s0,v0,w0,i0⟩,s1,v1,w1,i1⟩
 ·refine ⟨fun _=>by rw[h2];simp,fun c hc=> ?_⟩
  rw[h2,List.mem_singleton] at hc
  subst hc
  refine ⟨by simp[jD],by simp[jD],by cases b<;>simp[jD],fun x hx=> ?_⟩
  have:(jE b).code[(jD 0).pc]? =some .hlt:=by cases b<;>rfl
  rw[this] at hx;cases hx;trivial
 ·refine ⟨fun e=>(by rw[h1] at e;cases e),fun c hc=> ?_⟩
  rw[h2] at hc
  simp only[IS,IR,or_false] at hc
  rcases hc with rfl|rfl
  ·exact rc b (Or.inl rfl) i0 hn
  ·exact rc b (Or.inr rfl) i1 hn
theorem HG (b:Bool):InT b (xn (jE b) 2):=⟨rfl,rfl,Or.inl ⟨rfl,rfl⟩⟩
section
variable {f f':fg} {m m':NH} {p:D4} {q:Mq} {M:Mm} {im:Im} {W:List Int} {w:Int} {N:Nat}
theorem Gd  (h:Sl m v 4 C) (hl:C.length<=1000001):∃v' m',rT 23 [v] m v' m'/\bC m m' v' 4 C/\Chg [] m m':=by
 refine WF.ex fun K hK=> ?_
 refine WF.of_wpG (fun _=>rfl) rJ (L:= [(.e,v)]) rfl ?_
 unfold AN
 have h':=h
 obtain ⟨h0,⟨rfl,rfl⟩|⟨id,off,kc,w,c,rfl,h1,h2,h3,h4⟩⟩:=h'
 ·simp (config:={maxSteps:=1000000}) (disch:=first|assumption|omega|(apply ah;omega)|(apply ab;assumption)|(simp only[aJ]<;>omega)) only[go_sem,seval,xg]
  exact hK _ _ ⟨bC.nil,dC rfl⟩
 ·simp (config:={maxSteps:=1000000}) (disch:=first|assumption|omega|(apply ah;omega)|(apply ab;assumption)|(simp only[aJ]<;>omega)) only[go_sem,seval,uR]
  have hC1:Chg [] m (hp [(.n 0,.cells true [])] 1 m):=dC rfl
  have ho:bC m (hp [(.n 0,.cells true [])] 1 m) (.slc (na m 0) 0 0 4 0) 4 []:=bC.of (by simp) aD jh (ah (by omega)) rfl rfl rfl
  by_cases hC:C= []
  ·subst hC
   rw[ho.sl.appNil (h.grew hC1)]
   simp (config:={maxSteps:=1000000}) (disch:=first|assumption|omega|(apply ah;omega)|(apply ab;assumption)|(simp only[aJ]<;>omega)) only[go_sem,seval]
   exact hK _ _ ⟨ho,hC1⟩
  ·obtain ⟨v',m',e1,e2,e3⟩:=ho.app (bytes:=32) (h.grew hC1) hC (fun i hi=>hC1.old hi) (by simp;omega) (by simp;omega)
   rw[e1]
   simp (config:={maxSteps:=1000000}) (disch:=first|assumption|omega|(apply ah;omega)|(apply ab;assumption)|(simp only[aJ]<;>omega)) only[go_sem,seval]
   refine hK _ _ ⟨by simpa using e2,hC1.trans e3 fun i hi q=> ?_⟩
   simp only[ids,IS,IR,or_false] at hi
   subst hi;exact IL q aD
theorem yo (h:MaC im W w N f m p q M):∃v m',rT 11 [.ptr p 0] m v m'/\bC m m' v 4 (nI M.tr)/\Chg [] m m':=by
 have htl:=h.tl
 obtain ⟨v,m1,r1,o1,c1⟩:=Gd h.t.o.sl (by simp only[List.length_map];omega)
 refine WF.ex fun K hK=> ?_
 refine WF.of_wpG (fun _=>rfl) sO (L:= [(.e,.ptr p 0)]) rfl ?_
 unfold BT
 have g:=h.g.g
 rw[am]
 simp (config:={maxSteps:=1000000}) (disch:=first|assumption|omega|(apply ah;omega)|(apply ab;assumption)|(simp only[aJ]<;>omega)) only[go_sem,seval,g,r1.wf']
 exact hK _ _ ⟨o1,c1⟩
end
structure Ch where
 (k c n:Int)
abbrev GJ (l:List Ch):List (List NV):=l.map fun x=> [ii x.k,ii x.c,ii x.n]
theorem D9  {l:List NV} (h:Ty Tryz.prog m 22 l):∃v b,l= [v]/\Sl m v 3 (GJ b):=by
 obtain ⟨v,C,rfl,hS,hm,hall⟩:=h.inv_slc Tryz.underlying22
 have key:∀C:List (List NV),(∀c∈C,Ty Tryz.prog m 29 c)->∃sp:List Ch,C=GJ sp:=by
  intro C
  induction C with
  |nil=>intro _;exact ⟨[],rfl⟩
  |cons c C ih=>
   intro h
   have h1:TyL Tryz.prog m [3,3,3] c:=(h c (List.mem_cons_self ..)).inv_struct Tryz.underlying29
   obtain ⟨a1,b1,rfl,h2,h1⟩:=h1.inv
   obtain ⟨a2,b2,rfl,h3,h1⟩:=h1.inv
   obtain ⟨a3,b3,rfl,h4,h1⟩:=h1.inv
   obtain rfl:=h1.inv0
   obtain ⟨z1,rfl,_⟩:=h2.inv_int Tryz.underlying3
   obtain ⟨z2,rfl,_⟩:=h3.inv_int Tryz.underlying3
   obtain ⟨z3,rfl,_⟩:=h4.inv_int Tryz.underlying3
   obtain ⟨l,rfl⟩:=ih fun x hx=>h x (List.mem_cons_of_mem _ hx)
   exact ⟨⟨z1,z2,z3⟩::l,rfl⟩
 obtain ⟨b,rfl⟩:=key C hall
 have hc:Tryz.prog.cellsOf 29=3:=by kernel_rfl
 rw[hc] at hS
 exact ⟨v,b,rfl,hS⟩
set_option maxHeartbeats 1000000 in
theorem GG (x:Int) {c:Nat} (hc:c=4∨c=8):∃z:Int,cz .num .or (ii x) (ii (c:Nat))=some (ii z)/\(z<0∨(c:Int)<=z):=by
 have hc64:c % 2 ^ 64=c:=by rcases hc with rfl|rfl<;>rfl
 have hB:∃z:Int,fQ .or .i64 x (.ofNat c)=some (ii z)/\(z<0∨(c:Int)<=z):=by
  refine ⟨IntKind.wrap .i64 ((BitVec.ofInt 64 x|||BitVec.ofInt 64 (.ofNat c)).toNat:Int), ?_, ?_⟩
  ·show bD .i64 (IntKind.wrap .i64 ((BitVec.ofInt 64 x|||BitVec.ofInt 64 (.ofNat c)).toNat:Int))=_
   rw[aH]
  have hlt:=(BitVec.ofInt 64 x|||BitVec.ofInt 64 (.ofNat c)).isLt
  have hge:c<=(BitVec.ofInt 64 x|||BitVec.ofInt 64 (.ofNat c)).toNat:=by
   rw[BitVec.toNat_or]
   have:(BitVec.ofInt 64 (.ofNat c)).toNat=c:=by rcases hc with rfl|rfl<;>rfl
   rw[this]
   exact Nat.right_le_or
  generalize (BitVec.ofInt 64 x|||BitVec.ofInt 64 (.ofNat c)).toNat=r at hlt hge
  have hw:IntKind.wrap .i64 (r:Int)=if (9223372036854775808:Int)<=(r:Int) % 18446744073709551616 then (r:Int) % 18446744073709551616 - 18446744073709551616 else (r:Int) % 18446744073709551616:=by
   unfold IntKind.wrap
   simp[IntKind.bits,IntKind.signed]
  rw[hw]
  split<;>omega
 obtain ⟨z,hB,hz⟩:=hB
 cases x with
 |negSucc n=>exact ⟨z,(gU rfl).trans hB,hz⟩
 |ofNat a=>
  have e:ee .or .i64 (.ofNat a) (.ofNat c)=cond (Nat.ble (Nat.succ a) 9223372036854775808) (cond (Nat.ble (Nat.succ c) 9223372036854775808) (bD .i64 (.ofNat (Nat.lor a c))) (fQ .or .i64 (.ofNat a) (.ofNat c))) (fQ .or .i64 (.ofNat a) (.ofNat c)):=rfl
  have h2:Nat.ble (Nat.succ c) 9223372036854775808=true:=by rcases hc with rfl|rfl<;>rfl
  cases hh:Nat.ble (Nat.succ a) 9223372036854775808 with
  |true=>
   refine ⟨(Nat.lor a c:Nat),(gU rfl).trans (e.trans ?_),Or.inr (Int.ofNat_le.2 Nat.right_le_or)⟩
   rw[hh,h2]
   show bD .i64 (.ofNat (Nat.lor a c))=_
   rw[aH];rfl
  |false=>
   refine ⟨z,(gU rfl).trans (e.trans ?_),hz⟩
   rw[hh]
   exact hB
theorem iQ {k core n:Int} (h:(k=0/\(core<0∨4<=core))∨(k=1/\n=-1)∨(k=2/\(n<0∨8<=n))∨(k≠0/\k≠1/\k≠2/\k≠3)):cY (jE false) k core n (xn (jE false) 2)=(false,xn (jE false) 2):=by
 have hc:∀{j:Nat} {c:Co},(xn (jE false) 2).cs[j]? =some c->c=jD 0:=by
  intro j c hj
  cases j with
  |zero=>cases hj;rfl
  |succ j=>cases hj
 rcases h with ⟨rfl,h⟩|⟨rfl,rfl⟩|⟨rfl,h⟩|⟨h0,h1,h2,h3⟩
 ·unfold cY
  rw[IM (by decide),IM (by decide)]
  by_cases h0:core<0
  ·rw[IN h0]
  ·rw[IM h0]
   have:(xn (jE false) 2).cs[core.toNat]? =none:=List.getElem?_eq_none (by show 1<=_;omega)
   rw[this]
 ·unfold cY
  rw[IM (by decide),IM (by decide)]
  by_cases h0:core<0
  ·rw[IN h0]
  ·rw[IM h0]
   cases hg:(xn (jE false) 2).cs[core.toNat]? with
   |none=>rfl
   |some c=>
    have h0:core.toNat=0:=by
     have:=(List.getElem?_eq_some_iff.1 hg).1
     have:core.toNat<1:=this
     omega
    obtain rfl:=hc hg
    rw[h0]
    rfl
 ·unfold cY ir
  rw[IN rfl,IN]
  show n<0∨(2:Int)<=n*8
  omega
 ·unfold cY
  rw[IM h2,IM h3]
  by_cases hn:core<0
  ·rw[IN hn]
  ·rw[IM hn]
   cases hg:(xn (jE false) 2).cs[core.toNat]? with
   |none=>rfl
   |some c=>simp only[hU,IM h0,IM h1]
section
variable {f f':fg} {m m':NH} {p mp:D4} {q:Mq} {M:Mm} {im:Im} {W:List Int} {w:Int} {N j:Nat} {b:Cb} {id:Int} {c:Co}
theorem HZ (h:CoC j f m mp b id c):∃m',rT 26 [.ptr b.r 0] m (ii c.pc) m'/\m'=m:=by
 refine WF.ex1 fun K hK=> ?_
 refine WF.of_wpG (fun _=>rfl) sc (L:= [(.e,.ptr b.r 0)]) rfl ?_
 unfold CK
 have g:=h.g.g
 rw[am]
 simp (config:={maxSteps:=1000000}) (disch:=first|assumption|omega|(apply ah;omega)|(apply ab;assumption)|(simp only[aJ]<;>omega)) only[go_sem,seval,g,EH]
 exact hK _ rfl
theorem Dn (h:CoC j f m mp b id c):∃m',rT 25 [.ptr b.r 0] m (.agg (c.X.map iu)) m'/\Chg [] m m':=by
 refine WF.ex1 fun K hK=> ?_
 refine WF.of_wpG (fun _=>rfl) rG (L:= [(.e,.ptr b.r 0)]) rfl ?_
 unfold Dx
 have hx:=h.x
 have hl:=dV h
 have hX:=pj (mp:=mp) (id:=id) (pc:=c.pc) (st:=c.st) (vw:=b.w) (q:=b.q) hx
 generalize hm1:hp [(.n 0,.cells true (List.replicate 33 (iu 0)))] 1 m=m1
 have hm1':=hm1
 simp only[List.replicate] at hm1'
 have hC1:Chg [] m m1:=aR hm1 rfl
 have g:=(h.kpN hC1).g.g
 have gz:m1.get (na m 0)=some (.cells true (List.replicate 33 (iu 0))):=ba hm1
 have oz:aP m1 (na m 0):=bj hm1 (by omega)
 have hlX:(List.map iu c.X).length=33:=by simp[hx]
 have hlz:(List.replicate 33 (iu 0)).length=33:=rfl
 have hsz:List.take 0 (List.replicate 33 (iu 0))++List.map iu c.X++List.drop 33 (List.replicate 33 (iu 0))=List.map iu c.X:=by
  rw[show List.drop 33 (List.replicate 33 (iu 0))= [] from rfl];simp
 have hsr:List.take 33 (List.map iu c.X)=List.map iu c.X:=List.take_of_length_le (by omega)
 obtain ⟨m2,hp2⟩:∃m2,m1.put (na m 0) (.cells true (List.map iu c.X))=m2:=⟨_,rfl⟩
 have gz2:m2.get (na m 0)=some (.cells true (List.map iu c.X)):=by rw[←hp2];exact NH.get_put_same _ _ _
 have hC2:Chg [na m 0] m1 m2:=by rw[←hp2];exact Chg.put m1 _ _
 simp (config:={maxSteps:=1000000}) (disch:=first|assumption|omega|(apply ah;omega)|(apply ab;assumption)|(simp only[aJ]<;>omega)) only[go_sem,seval,hm1',g,hl,hX,gz,hlX,hlz,hsz,hsr,hp2,gz2]
 refine hK _ (hC1.trans hC2 fun i hi ho=> ?_)
 rw[one hi] at ho;exact IL ho aD
theorem AD (h:MaC im W w N f m p q M) {c:Co} (hM:M.cs= [c]):∃u m',rT 13 [.ptr p 0,ii 0] m (.tup [.agg (c.X.map iu),ii c.pc,ii c.st,u]) m'/\bC E0 m' u 3 (nJ c.w)/\Chg [] m m':=by
 suffices hh:∃v m',rT 13 [.ptr p 0,ii 0] m v m'/\∃u,v= .tup [.agg (c.X.map iu),ii c.pc,ii c.st,u]/\bC E0 m' u 3 (nJ c.w)/\Chg [] m m' by
  obtain ⟨v,m',r,u,rfl,h1,h2⟩:=hh
  exact ⟨u,m',r,h1,h2⟩
 refine WF.ex fun K hK=> ?_
 refine WF.of_wpG (fun _=>rfl) ra (L:= [(.a .e,ii 0),(.e,.ptr p 0)]) rfl ?_
 unfold DO
 generalize hm1:hp [(.n 0,.cells true (List.replicate 33 (iu 0)))] 1 m=m1
 have hm1':=hm1
 simp only[List.replicate] at hm1'
 have hC1:Chg [] m m1:=aR hm1 rfl
 have h1:=h.grow hC1
 have gz:m1.get (na m 0)=some (.cells true (List.replicate 33 (iu 0))):=ba hm1
 have oz:aP m1 (na m 0):=bj hm1 (by omega)
 have g:=h1.g.g
 have hlen:=h1.cs.o.sl.len
 rw[List.length_map,h1.len.1,hM] at hlen
 have hlen:o9 q.vcs= .val (ii 1):=hlen
 obtain ⟨b,c',b1,b2,hco,id,off,wr,cs,a1,a2,a3,a4⟩:=h1.at (j:=0) (by rw[hM];simp)
 have e:c'=c:=by rw[hM] at b2;cases b2;rfl
 subst e
 have a1':iy 1 q.vcs (ii 0)= .val (.ptr id off):=a1
 obtain ⟨m2,r2,hC2⟩:=Dn hco
 have hco2:=hco.kpN hC2
 obtain ⟨_,r3,rfl⟩:=HZ hco2
 obtain ⟨_,r4,rfl⟩:=rM hco2
 obtain ⟨u,m3,r5,o3,hC3⟩:=mC hco2
 have oz3:=hC3.old (hC2.old oz)
 have gz3:=(hC3.get (hC2.old oz) (by simp)).trans ((hC2.get oz (by simp)).trans gz)
 have hlX:(List.map iu c'.X).length=33:=by simp[hco.x]
 have hlz:(List.replicate 33 (iu 0)).length=33:=rfl
 have hsz:List.take 0 (List.replicate 33 (iu 0))++List.map iu c'.X++List.drop 33 (List.replicate 33 (iu 0))=List.map iu c'.X:=by
  rw[show List.drop 33 (List.replicate 33 (iu 0))= [] from rfl];simp
 have hsr:List.take 33 (List.map iu c'.X)=List.map iu c'.X:=List.take_of_length_le (by omega)
 obtain ⟨m4,hp4⟩:∃m4,m3.put (na m 0) (.cells true (List.map iu c'.X))=m4:=⟨_,rfl⟩
 have gz4:m4.get (na m 0)=some (.cells true (List.map iu c'.X)):=by rw[←hp4];exact NH.get_put_same _ _ _
 have hC4:Chg [na m 0] m3 m4:=by rw[←hp4];exact Chg.put m3 _ _
 simp (config:={maxSteps:=1000000}) (disch:=first|assumption|omega|(apply ah;omega)|(apply ab;assumption)|(simp only[aJ]<;>omega)) only[go_sem,seval,hm1',g,hlen,a1',a2,a4,r2.wf',r3.wf',r4.wf',r5.wf',gz3,hlX,hlz,hsz,hsr,hp4,gz4]
 refine hK _ _ ⟨u,rfl,(o3.chg hC4 fun i hi q=> ?_).back ?_,((hC1.trans hC2 (by simp)).trans hC3 (by simp)).trans hC4 fun i hi ho=> ?_⟩
 ·rw[one q] at hi
  exact o3.new _ hi (hC2.old oz)
 ·exact mr
 ·rw[one hi] at ho;exact IL ho aD
end
abbrev M0:Mm:=xn (jE false) 2
set_option maxHeartbeats 2000000 in
set_option maxRecDepth 8000 in
theorem parmStill (m:NH) (l:List NV) (h:TyA Tryz.prog m [22] l):∃m',rT 4 l m (.bool true) m':=by
 obtain ⟨x2,r2,rfl,h2,h⟩:=h.inv1 (by intro fs q;rw[Tryz.underlying22] at q;simp at q)
 obtain rfl:=h.inv0
 obtain ⟨vl,ch,hx2,hl⟩:=D9 h2
 have hxv2:vl=x2:=by simpa using hx2.symm
 subst hxv2
 have hal:∀m,rT 5 [] m (.bool true) m:=fun m=>nG.kept rfl m
 have h:∃v' m',rT 4 [vl] m v' m'/\v'= .bool true:=by
  refine WF.ex fun K hK=> ?_
  refine WF.of_wpG (fun _=>rfl) qT (L:= [(.e,vl)]) rfl ?_
  unfold HE
  have hlen:=hl.len
  rw[List.length_map] at hlen
  obtain ⟨v,m1,r1,p,f,q,rfl,hM,k1⟩:=F4 (b:=false) (m:=m) (bt:= .nils) ⟨by simp[zo],Or.inl ⟨rfl,rfl⟩⟩
  have hlc:SlC 0 fz m vl 3 (GJ ch):=⟨hl,fun _ _=>rfl⟩
  by_cases hn:100<ch.length
  ·simp (config:={maxSteps:=1000000}) (disch:=first|assumption|omega|(apply ah;omega)|(apply ab;assumption)|(simp only[aJ]<;>omega)) only[go_sem,seval,am,(hal _).wf',r1.wf',wc,Gk,hlen]
   exact hK _ _ rfl
  simp (config:={maxSteps:=1000000}) (disch:=first|assumption|omega|(apply ah;omega)|(apply ab;assumption)|(simp only[aJ]<;>omega)) only[go_sem,seval,am,(hal _).wf',r1.wf',wc,hlen]
  refine W.loop (fun n d=>∃T M i f q,d=⟨T, [],none,M⟩/\NT.get D4.e.f T=some (.ptr p 0)/\NT.get D4.e T=some vl/\NT.get D4.e.a.a T=some (ii (i:Nat))/\i+n=ch.length/\MaC (jE false) (WT false) 2 (2*i) f M p q M0/\SlC 0 f M vl 3 (GJ ch)) ?_ ch.length _
   ⟨_,m1,0,f,q,rfl,by simp only[go_sem,seval],by simp only[go_sem,seval],by simp only[go_sem,seval]<;>rfl,by omega,hM,hlc.kp k1 (by simp)⟩
  rintro n d ⟨T,M,i,f3,q3,rfl,t1,t2,t3,hin,hI,hv⟩
  apply bz
  unfold wh
  change wp _ _ _ _ ⟨aw [] T, [],none,M⟩ _
  have hlen2:=hv.o.len
  rw[List.length_map] at hlen2
  by_cases hi:i<ch.length
  ·obtain ⟨id,off,wr,cs,a1,a2,a3,a4,a5⟩:=hv.o.at i (by simpa using hi)
   rw[List.getElem_map] at a5
   have fin:∀k' c' n':Int,cY (jE false) k' c' n' M0=(false,M0)->∀l,pT l= []->∃m5,rT 7 [.ptr p 0,.agg [ii k',ii c',ii n']] (hp ((.n 0,.cells true [ii k',ii c',ii n'])::l) 1 M) (.bool false) m5/\∃f' q',MaC (jE false) (WT false) 2 (2*(i+1)) f' m5 p q' M0/\SlC 0 f' m5 vl 3 (GJ ch):=by
    intro k' c' n' hs l hl
    generalize hm4:hp ((.n 0,.cells true [ii k',ii c',ii n'])::l) 1 M=m4
    have hC4:Chg [] M m4:=aR hm4 hl
    have k4:Kp (fun _=>False) f3 M (aG f3 M 9) m4:=Kp.of hC4 (by simp) 9
    have h4:=hI.kp0 k4
    obtain ⟨m5,r5,f5,q5,h5,k5⟩:=DZ h4 (by omega) (Fu (HG false)) k' c' n'
    rw[hs] at r5 h5
    exact ⟨m5,r5,f5,q5,h5,(hv.kp k4 (by simp)).kp k5 (by unfold TM;omega)⟩
   by_cases k0:ch[i].k=0
   ·obtain ⟨z,hz,hz2⟩:=GG ch[i].c (c:=4) (Or.inl rfl)
    obtain ⟨m4,hm4⟩:∃m4,hp [(.n 0,.cells true [ii 0,ii z,ii ch[i].n])] 1 M=m4:=⟨_,rfl⟩
    obtain ⟨m5,r5,f5,q5,h5,hv5⟩:=fin 0 z ch[i].n (iQ (Or.inl ⟨rfl,hz2⟩)) [(.n 0,.cells true [ii 0,ii ch[i].c,ii ch[i].n]),(.n 0,.cells true [ii 0,ii 0,ii 0])] rfl
    have hz':cz .num .or (ii ch[i].c) (ii 4)=some (ii z):=hz
    rw[k0] at a5
    rw[←am M]
    simp (config:={maxSteps:=1000000}) (disch:=first|assumption|omega|(apply ah;omega)|(apply ab;assumption)|(simp only[aJ]<;>omega)) only[go_sem,seval,t1,t2,t3,hlen2,a1,a2,Nat.add_zero,a5,hz',r5.wf']
    exact ⟨n - 1,by omega,_,m5,i+1,f5,q5,by rfl,by simp only[go_sem,seval,t1],by simp only[go_sem,seval,t2],by simp only[go_sem,seval]<;>rfl,by omega,h5,hv5⟩
   by_cases k1:ch[i].k=1
   ·obtain ⟨m4,hm4⟩:∃m4,hp [(.n 0,.cells true [ii 1,ii ch[i].c,ii (-1)])] 1 M=m4:=⟨_,rfl⟩
    obtain ⟨m5,r5,f5,q5,h5,hv5⟩:=fin 1 ch[i].c (-1) (iQ (Or.inr (Or.inl ⟨rfl,rfl⟩))) [(.n 0,.cells true [ii 1,ii ch[i].c,ii ch[i].n]),(.n 0,.cells true [ii 0,ii 0,ii 0])] rfl
    rw[k1] at a5
    rw[←am M]
    simp (config:={maxSteps:=1000000}) (disch:=first|assumption|omega|(apply ah;omega)|(apply ab;assumption)|(simp only[aJ]<;>omega)) only[go_sem,seval,t1,t2,t3,hlen2,a1,a2,Nat.add_zero,a5,r5.wf']
    exact ⟨n - 1,by omega,_,m5,i+1,f5,q5,by rfl,by simp only[go_sem,seval,t1],by simp only[go_sem,seval,t2],by simp only[go_sem,seval]<;>rfl,by omega,h5,hv5⟩
   by_cases k2:ch[i].k=2
   ·obtain ⟨z,hz,hz2⟩:=GG ch[i].n (c:=8) (Or.inr rfl)
    obtain ⟨m4,hm4⟩:∃m4,hp [(.n 0,.cells true [ii 2,ii ch[i].c,ii z])] 1 M=m4:=⟨_,rfl⟩
    obtain ⟨m5,r5,f5,q5,h5,hv5⟩:=fin 2 ch[i].c z (iQ (Or.inr (Or.inr (Or.inl ⟨rfl,hz2⟩)))) [(.n 0,.cells true [ii 2,ii ch[i].c,ii ch[i].n]),(.n 0,.cells true [ii 0,ii 0,ii 0])] rfl
    have hz':cz .num .or (ii ch[i].n) (ii 8)=some (ii z):=hz
    rw[k2] at a5
    rw[←am M]
    simp (config:={maxSteps:=1000000}) (disch:=first|assumption|omega|(apply ah;omega)|(apply ab;assumption)|(simp only[aJ]<;>omega)) only[go_sem,seval,t1,t2,t3,hlen2,a1,a2,Nat.add_zero,a5,hz',r5.wf']
    exact ⟨n - 1,by omega,_,m5,i+1,f5,q5,by rfl,by simp only[go_sem,seval,t1],by simp only[go_sem,seval,t2],by simp only[go_sem,seval]<;>rfl,by omega,h5,hv5⟩
   by_cases k3:ch[i].k=3
   ·obtain ⟨m4,hm4⟩:∃m4,hp [(.n 0,.cells true [ii 9,ii ch[i].c,ii ch[i].n])] 1 M=m4:=⟨_,rfl⟩
    obtain ⟨m5,r5,f5,q5,h5,hv5⟩:=fin 9 ch[i].c ch[i].n (iQ (Or.inr (Or.inr (Or.inr (by omega))))) [(.n 0,.cells true [ii 3,ii ch[i].c,ii ch[i].n]),(.n 0,.cells true [ii 0,ii 0,ii 0])] rfl
    rw[k3] at a5
    rw[←am M]
    simp (config:={maxSteps:=1000000}) (disch:=first|assumption|omega|(apply ah;omega)|(apply ab;assumption)|(simp only[aJ]<;>omega)) only[go_sem,seval,t1,t2,t3,hlen2,a1,a2,Nat.add_zero,a5,r5.wf']
    exact ⟨n - 1,by omega,_,m5,i+1,f5,q5,by rfl,by simp only[go_sem,seval,t1],by simp only[go_sem,seval,t2],by simp only[go_sem,seval]<;>rfl,by omega,h5,hv5⟩
   ·obtain ⟨m4,hm4⟩:∃m4,hp [(.n 0,.cells true [ii ch[i].k,ii ch[i].c,ii ch[i].n])] 1 M=m4:=⟨_,rfl⟩
    obtain ⟨m5,r5,f5,q5,h5,hv5⟩:=fin ch[i].k ch[i].c ch[i].n (iQ (Or.inr (Or.inr (Or.inr ⟨k0,k1,k2,k3⟩)))) [(.n 0,.cells true [ii 0,ii 0,ii 0])] rfl
    rw[←am M]
    simp (config:={maxSteps:=1000000}) (disch:=first|assumption|omega|(apply ah;omega)|(apply ab;assumption)|(simp only[aJ]<;>omega)) only[go_sem,seval,t1,t2,t3,hlen2,a1,a2,Nat.add_zero,a5,k0,k1,k2,k3,r5.wf']
    exact ⟨n - 1,by omega,_,m5,i+1,f5,q5,by rfl,by simp only[go_sem,seval,t1],by simp only[go_sem,seval,t2],by simp only[go_sem,seval]<;>rfl,by omega,h5,hv5⟩
  ·obtain ⟨u,m4,r4,o4,hC4⟩:=AD hI (c:=jD 0) rfl
   have hu:=o4.sl.len
   have hu:o9 u= .val (ii 0):=hu
   obtain ⟨mz,hmz⟩:∃mz,hp [(.n 0,.cells true (List.replicate 33 (iu 0)))] 1 m4=mz:=⟨_,rfl⟩
   obtain ⟨m5,e5⟩:∃m5,mz.put (na m4 0) (.cells true (List.map iu (jD 0).X))=m5:=⟨_,rfl⟩
   have hCz:Chg [] m4 mz:=aR hmz rfl
   have hC5:Chg [] m4 m5:=hCz.trans (by rw[←e5];exact Chg.put mz _ _) fun i hi ho=>by rw[one hi] at ho;exact IL ho aD
   have h5:=(hI.grow hC4).grow hC5
   obtain ⟨tv,m6,r6,o6,hC6⟩:=yo h5
   have ht:o9 tv= .val (ii 0):=o6.sl.len
   obtain ⟨m7,r7,hC7⟩:=xt (h5.grow hC6)
   have r7:rT 14 [.ptr p 0] m6 (.bool false) m7:=r7
   have r4:rT 13 [.ptr p 0,ii 0] M (.tup [.agg (List.map iu (jD 0).X),ii 0,ii 0,u]) m4:=r4
   generalize hL:List.map iu (jD 0).X=L at r4 e5
   have hL33:L.length=33:=by rw[←hL];rfl
   have hmz':=hmz
   simp only[List.replicate] at hmz'
   have gz:mz.get (na m4 0)=some (.cells true (List.replicate 33 (iu 0))):=ba hmz
   have hlz:(List.replicate 33 (iu 0)).length=33:=rfl
   have hsz:List.take 0 (List.replicate 33 (iu 0))++L++List.drop 33 (List.replicate 33 (iu 0))=L:=by
    rw[show List.drop 33 (List.replicate 33 (iu 0))= [] from rfl];simp
   simp (config:={maxSteps:=1000000}) (disch:=first|assumption|omega|(apply ah;omega)|(apply ab;assumption)|(simp only[aJ]<;>omega)) only[go_sem,seval,t1,t2,t3,hlen2,r4.wf,hmz',gz,hlz,hL33,hsz,e5,r6.wf',ht,r7.wf',hu]
   exact hK _ _ rfl
 obtain ⟨v',m',h,rfl⟩:=h
 exact ⟨m',h⟩
end FR
