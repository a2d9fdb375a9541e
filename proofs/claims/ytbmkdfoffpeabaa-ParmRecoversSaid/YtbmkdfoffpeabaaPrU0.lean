/- Contracts of functions that the law ParmRecovers reaches, part 0. -/
import Derived.Test.YtbmkdfoffpeabaaPrc
set_option linter.unusedSimpArgs false
set_option linter.unusedVariables false
open Go Nm Go.Proofs
namespace FR
variable {m:NH} {v u:NV} {T:D4->Prop} {d N' off:Nat} {c:List NV} {C:List (List NV)} {t:Tm} {now kept:List Int} {S:List D4} {w:Bool} {Q:Out->Dyn->Prop}
theorem gq {k:D4} {L:List (D4×NV)} {v:Option NV} (h:du k L (NT.get k t)=v):NT.get k (aw L t)=v:=(dP k L t).trans h
theorem one {a b:D4} (h:a∈ [b]):a=b:=by simpa using h
section
variable {l:List (AK×NO)} {k j:Nat} {m M:NH} {id:D4} {o:NO} {S:List D4}
theorem aQ (h:hp l k m=M) (hs:tG l=S):Chg S m M:=by rw[←h];exact ef hs
theorem bn (h:hp l k m=M) (hj:j<k):aN M (na m j):=by rw[←h];exact ah hj
theorem ba (h:hp l k m=M):M.get (na m j)=gu j l (m.get (na m j)):=by rw[←h];exact kW
end
abbrev u8 (c:Nat):NV:= .int .u8 (.lit (c:Int))
abbrev u64 (n:Nat):NV:= .int .u64 (.lit (n:Int))
inductive Ex where
 |mk (k:Int) (n o:Nat) (s:List Nat) (ks:List Ex)
inductive Stm where
 |mk (k a:Int) (nm ce:List Nat) (i x y:Ex) (b e:List Stm)
inductive RE (m:NH) (T:D4->Prop):Ex->List NV->Prop
 |mk {k:Int} {n o:Nat} {s:List Nat} {ks:List Ex} {v:NV} {C:List (List NV)} (hv:Sl m v 5 C) (hT:∀i∈ids v,T i) (hl:C.length=ks.length) (h:∀(i:Nat) (x:Ex) (c:List NV),ks[i]? =some x->C[i]? =some c->RE m T x c):
  RE m T (.mk k n o s ks) [ii k,u64 n,u8 o,.str s,v]
inductive RS (m:NH) (T:D4->Prop):Stm->List NV->Prop
 |mk {k a:Int} {nm ce:List Nat} {i x y:Ex} {b e:List Stm} {ci cx cy:List NV} {vb ve:NV} {B E:List (List NV)} (hi:RE m T i ci) (hx:RE m T x cx) (hy:RE m T y cy)
  (hb:Sl m vb 21 B) (hbT:∀i∈ids vb,T i) (hbl:B.length=b.length) (hbR:∀(j:Nat) (s:Stm) (c:List NV),b[j]? =some s->B[j]? =some c->RS m T s c)
  (he:Sl m ve 21 E) (heT:∀i∈ids ve,T i) (hel:E.length=e.length) (heR:∀(j:Nat) (s:Stm) (c:List NV),e[j]? =some s->E[j]? =some c->RS m T s c):
  RS m T (.mk k a nm ce i x y b e) ([ii k,ii a,.str nm,.str ce]++ci++cx++cy++ [vb,ve])
def BA (T:D4->Prop) (m m':NH):Prop:=∀i,T i->aN m i->m'.get i=m.get i/\aN m' i
theorem BA.of  {m':NH} (h:Chg S m m') (hT:∀i,T i->i∉S):BA T m m':=fun i hi ho=>⟨h.get ho (hT i hi),h.old ho⟩
theorem RE.weak  {T':D4->Prop} (hT':∀i,T i->T' i) {x:Ex} (h:RE m T x c):RE m T' x c:=by
 induction h with
 |mk hv hT hl h ih=>exact .mk hv (fun i hi=>hT' i (hT i hi)) hl ih
theorem RS.weak  {T':D4->Prop} (hT':∀i,T i->T' i) {x:Stm} (h:RS m T x c):RS m T' x c:=by
 induction h with
 |mk hi hx hy hb hbT hbl hbR he heT hel heR ih1 ih2=>exact .mk (hi.weak hT') (hx.weak hT') (hy.weak hT') hb (fun i q=>hT' i (hbT i q)) hbl ih1 he (fun i q=>hT' i (heT i q)) hel ih2
structure SE (m:NH) (T:D4->Prop) (v:NV) (l:List Ex) (C:List (List NV)):Prop where
 sl:Sl m v 5 C
 hT:∀i∈ids v,T i
 len:C.length=l.length
 R:∀(i:Nat) (x:Ex) (c:List NV),l[i]? =some x->C[i]? =some c->RE m T x c
structure SS (m:NH) (T:D4->Prop) (v:NV) (l:List Stm) (C:List (List NV)):Prop where
 sl:Sl m v 21 C
 hT:∀i∈ids v,T i
 len:C.length=l.length
 R:∀(i:Nat) (x:Stm) (c:List NV),l[i]? =some x->C[i]? =some c->RS m T x c
theorem RE.of  {k:Int} {n o:Nat} {s:List Nat} {ks:List Ex} (h:SE m T v ks C):RE m T (.mk k n o s ks) [ii k,u64 n,u8 o,.str s,v]:= .mk h.sl h.hT h.len h.R
theorem RE.len  {x:Ex} (h:RE m T x c):c.length=5:=by cases h;rfl
theorem RS.len  {x:Stm} (h:RS m T x c):c.length=21:=by
 cases h with
 |mk hi hx hy=>simp[hi.len,hx.len,hy.len]
def Ex.k:Ex->Int| .mk k _ _ _ _=>k
def Ex.n:Ex->Nat| .mk _ n _ _ _=>n
def Ex.o:Ex->Nat| .mk _ _ o _ _=>o
def Ex.s:Ex->List Nat| .mk _ _ _ s _=>s
abbrev Ex.l (x:Ex) (v:NV):List NV:= [ii x.k,u64 x.n,u8 x.o,.str x.s,v]
theorem SE.at  {l:List Ex} (h:SE m T v l C) (i:Nat) (hi:i<l.length):∃c,C[i]? =some c/\RE m T l[i] c:=by
 have hc:i<C.length:=by rw[h.len];exact hi
 exact ⟨C[i],List.getElem?_eq_getElem hc,h.R i _ _ (List.getElem?_eq_getElem hi) (List.getElem?_eq_getElem hc)⟩
theorem SS.at  {l:List Stm} (h:SS m T v l C) (i:Nat) (hi:i<l.length):∃c,C[i]? =some c/\RS m T l[i] c:=by
 have hc:i<C.length:=by rw[h.len];exact hi
 exact ⟨C[i],List.getElem?_eq_getElem hc,h.R i _ _ (List.getElem?_eq_getElem hi) (List.getElem?_eq_getElem hc)⟩
structure SV where
 (vi vx vy vb ve:NV)
def Stm.k:Stm->Int| .mk k _ _ _ _ _ _ _ _=>k
def Stm.a:Stm->Int| .mk _ a _ _ _ _ _ _ _=>a
def Stm.nm:Stm->List Nat| .mk _ _ s _ _ _ _ _ _=>s
def Stm.ce:Stm->List Nat| .mk _ _ _ s _ _ _ _ _=>s
def Stm.i:Stm->Ex| .mk _ _ _ _ x _ _ _ _=>x
def Stm.x:Stm->Ex| .mk _ _ _ _ _ x _ _ _=>x
def Stm.y:Stm->Ex| .mk _ _ _ _ _ _ x _ _=>x
def Stm.b:Stm->List Stm| .mk _ _ _ _ _ _ _ b _=>b
def Stm.e:Stm->List Stm| .mk _ _ _ _ _ _ _ _ e=>e
abbrev Stm.l (s:Stm) (w:SV):List NV:= [ii s.k,ii s.a,.str s.nm,.str s.ce,ii s.i.k,u64 s.i.n,u8 s.i.o,.str s.i.s,w.vi,ii s.x.k,u64 s.x.n,u8 s.x.o,.str s.x.s,w.vx,ii s.y.k,u64 s.y.n,u8 s.y.o,.str s.y.s,w.vy,w.vb,w.ve]
noncomputable def S0:Nat->List NV->Option NV:=bA 39 [.int .u32 (.lit 3560964096)] (.tup [.agg [.int .i64 (.lit 22),.int .i64 (.lit 0),.int .i64 (.lit 0),.int .i64 (.lit 0),.int .i64 (.lit 0),.int .i64 (.lit 0),.int .i64 (.lit 0)],.int .i64 (.lit 0)])<|bA 67 [.agg [.int .i64 (.lit 22),.int .i64 (.lit 0),.int .i64 (.lit 0),.int .i64 (.lit 0),.int .i64 (.lit 0),.int .i64 (.lit 0),.int .i64 (.lit 0)]] (.bool true)<|bA 27 [.agg [.int .i64 (.lit 22),.int .i64 (.lit 0),.int .i64 (.lit 0),.int .i64 (.lit 0),.int .i64 (.lit 0),.int .i64 (.lit 0),.int .i64 (.lit 0)]] (.tup [.int .u32 (.lit 3560964096),.int .i64 (.lit 0)])<|bA 39 [.int .u32 (.lit 3556769793)] (.tup [.agg [.int .i64 (.lit 23),.int .i64 (.lit 0),.int .i64 (.lit 0),.int .i64 (.lit 0),.int .i64 (.lit 0),.int .i64 (.lit 0),.int .i64 (.lit 0)],.int .i64 (.lit 0)])<|bA 67 [.agg [.int .i64 (.lit 23),.int .i64 (.lit 0),.int .i64 (.lit 0),.int .i64 (.lit 0),.int .i64 (.lit 0),.int .i64 (.lit 0),.int .i64 (.lit 0)]] (.bool true)<|bA 27 [.agg [.int .i64 (.lit 23),.int .i64 (.lit 0),.int .i64 (.lit 0),.int .i64 (.lit 0),.int .i64 (.lit 0),.int .i64 (.lit 0),.int .i64 (.lit 0)]] (.tup [.int .u32 (.lit 3556769793),.int .i64 (.lit 0)])<|bA 39 [.int .u32 (.lit 3531606432)] (.tup [.agg [.int .i64 (.lit 0),.int .i64 (.lit 0),.int .i64 (.lit 0),.int .i64 (.lit 0),.int .i64 (.lit 0),.int .i64 (.lit 0),.int .i64 (.lit 77)],.int .i64 (.lit 0)])<|bA 67 [.agg [.int .i64 (.lit 0),.int .i64 (.lit 0),.int .i64 (.lit 0),.int .i64 (.lit 0),.int .i64 (.lit 0),.int .i64 (.lit 0),.int .i64 (.lit 77)]] (.bool true)<|bA 27 [.agg [.int .i64 (.lit 0),.int .i64 (.lit 0),.int .i64 (.lit 0),.int .i64 (.lit 0),.int .i64 (.lit 0),.int .i64 (.lit 0),.int .i64 (.lit 77)]] (.tup [.int .u32 (.lit 3531606432),.int .i64 (.lit 0)])<|bA 39 [.int .u32 (.lit 3531603968)] (.tup [.agg [.int .i64 (.lit 0),.int .i64 (.lit 0),.int .i64 (.lit 0),.int .i64 (.lit 0),.int .i64 (.lit 0),.int .i64 (.lit 0),.int .i64 (.lit 0)],.int .i64 (.lit 0)])<|bA 67 [.agg [.int .i64 (.lit 0),.int .i64 (.lit 0),.int .i64 (.lit 0),.int .i64 (.lit 0),.int .i64 (.lit 0),.int .i64 (.lit 0),.int .i64 (.lit 0)]] (.bool true)<|bA 27 [.agg [.int .i64 (.lit 0),.int .i64 (.lit 0),.int .i64 (.lit 0),.int .i64 (.lit 0),.int .i64 (.lit 0),.int .i64 (.lit 0),.int .i64 (.lit 0)]] (.tup [.int .u32 (.lit 3531603968),.int .i64 (.lit 0)])<|bA 39 [.int .u32 (.lit 3531604000)] (.tup [.agg [.int .i64 (.lit 0),.int .i64 (.lit 0),.int .i64 (.lit 0),.int .i64 (.lit 0),.int .i64 (.lit 0),.int .i64 (.lit 0),.int .i64 (.lit 1)],.int .i64 (.lit 0)])<|bA 67 [.agg [.int .i64 (.lit 0),.int .i64 (.lit 0),.int .i64 (.lit 0),.int .i64 (.lit 0),.int .i64 (.lit 0),.int .i64 (.lit 0),.int .i64 (.lit 1)]] (.bool true)<|bA 27 [.agg [.int .i64 (.lit 0),.int .i64 (.lit 0),.int .i64 (.lit 0),.int .i64 (.lit 0),.int .i64 (.lit 0),.int .i64 (.lit 0),.int .i64 (.lit 1)]] (.tup [.int .u32 (.lit 3531604000),.int .i64 (.lit 0)])<|bA 39 [.int .u32 (.lit 3531604032)] (.tup [.agg [.int .i64 (.lit 0),.int .i64 (.lit 0),.int .i64 (.lit 0),.int .i64 (.lit 0),.int .i64 (.lit 0),.int .i64 (.lit 0),.int .i64 (.lit 2)],.int .i64 (.lit 0)])<|bA 67 [.agg [.int .i64 (.lit 0),.int .i64 (.lit 0),.int .i64 (.lit 0),.int .i64 (.lit 0),.int .i64 (.lit 0),.int .i64 (.lit 0),.int .i64 (.lit 2)]] (.bool true)<|bA 27 [.agg [.int .i64 (.lit 0),.int .i64 (.lit 0),.int .i64 (.lit 0),.int .i64 (.lit 0),.int .i64 (.lit 0),.int .i64 (.lit 0),.int .i64 (.lit 2)]] (.tup [.int .u32 (.lit 3531604032),.int .i64 (.lit 0)])<|bA 39 [.int .u32 (.lit 3531604064)] (.tup [.agg [.int .i64 (.lit 0),.int .i64 (.lit 0),.int .i64 (.lit 0),.int .i64 (.lit 0),.int .i64 (.lit 0),.int .i64 (.lit 0),.int .i64 (.lit 3)],.int .i64 (.lit 0)])<|bA 67 [.agg [.int .i64 (.lit 0),.int .i64 (.lit 0),.int .i64 (.lit 0),.int .i64 (.lit 0),.int .i64 (.lit 0),.int .i64 (.lit 0),.int .i64 (.lit 3)]] (.bool true)<|bA 27 [.agg [.int .i64 (.lit 0),.int .i64 (.lit 0),.int .i64 (.lit 0),.int .i64 (.lit 0),.int .i64 (.lit 0),.int .i64 (.lit 0),.int .i64 (.lit 3)]] (.tup [.int .u32 (.lit 3531604064),.int .i64 (.lit 0)])<|bA 8 [] (.bool true)<|HQ
abbrev rT:=lN Try.prog S0
structure EvF (F F':List D4) (m m':NH):Prop where
 c:Chg F m m'
 f:∀j∈F',j∈F∨¬aN m j
section
variable {m m' m'':NH} {F F' F'':List D4}
theorem EvF.trans (h:EvF F F' m m') (h':EvF F' F'' m' m''):EvF F F'' m m'':=
 ⟨h.c.trans h'.c fun i hi ho=>(h.f i hi).elim id fun q=>I5 ho q,fun j hj=>(h'.f j hj).elim (h.f j) fun q=>Or.inr fun ho=>q (h.c.old ho)⟩
theorem EvF.refl (m:NH):EvF F F m m:=⟨(Chg.refl m).weak (by simp),fun j hj=>Or.inl hj⟩
theorem EvF.grow (hC:Chg [] m m'):EvF F F m m':=⟨hC.weak (by simp),fun j hj=>Or.inl hj⟩
theorem EvF.pre (hC:Chg [] m m') (h:EvF F F' m' m''):EvF F F' m m'':=(EvF.grow hC).trans h
theorem EvF.get (h:EvF F F' m m') {i:D4} (ho:aN m i) (hi:i∉F):m'.get i=m.get i:=h.c.get ho hi
end
inductive In where
 |movz (d n:Nat)
 |ldr (d a:Nat)
 |str (d a:Nat)
 |dmb
 |hlt
 |svc
structure Wr where
 a:Nat
 v:Int
structure Co where
 pc:Nat
 st:Int
 X:List Int
 w:List Wr
structure Ev where
 (k c a v:Int)
structure Mm where
 now:List Int
 kept:List Int
 cs:List Co
 on:Bool
 tr:List Ev
structure Im where
 start:Nat
 entry:List Nat
 code:List In
def ew (X:List Int) (i:Nat):Int:=(X[i]?).getD 0
def Dz (z:Int):Nat:=((z - 4096) / 8).toNat
def cR:List Wr->Nat->Int->Int
 | [],_,v=>v
 |x::l,j,v=>cR l j (if x.a=j then x.v else v)
def cN (id:Int) (i:In) (now:List Int) (c:Co):Bool×List Ev×Co:=match i with
 | .movz d n=>(true, [],⟨c.pc+1,c.st,c.X.set d n,c.w⟩)
 | .ldr d a=>(true, [⟨1,id,ew c.X a,cR c.w (Dz (ew c.X a)) (ew now (Dz (ew c.X a)))⟩],⟨c.pc+1,c.st,c.X.set d (cR c.w (Dz (ew c.X a)) (ew now (Dz (ew c.X a)))),c.w⟩)
 | .str d a=>(true, [],⟨c.pc+1,c.st,c.X,c.w++ [⟨Dz (ew c.X a),ew c.X d⟩]⟩)
 | .dmb=>if c.w.length=0 then (true, [],⟨c.pc+1,c.st,c.X,c.w⟩) else (false, [],c)
 | .hlt=>(true, [⟨10,id,0,0⟩],⟨c.pc+1,1,c.X,c.w⟩)
 | .svc=>(true, [⟨4,id,0,ew c.X 0⟩],⟨c.pc+1,c.st,c.X,c.w⟩)
def cS (id:Int) (code:List In) (now:List Int) (c:Co):Bool×List Ev×Co:=
 if c.st≠0 then (false, [],c) else match code[c.pc]? with
  |none=>(true, [⟨11,id,0,0⟩],⟨c.pc,2,c.X,c.w⟩)
  |some i=>cN id i now c
def cD (id:Int) (n:Int) (now:List Int) (c:Co):Bool×List Ev×Co×List Int:=match c.w with
 | []=>(false, [],c,now)
 |x::l=>if n=0 then (true, [⟨3,id,4096+8*(x.a:Int),x.v⟩],⟨c.pc,c.st,c.X,l⟩,now.set x.a x.v) else (false, [],c,now)
def x0:List Int:=(List.replicate 33 0).set 28 1048576
def nM (pc:Nat):Co:=⟨pc,0,x0, []⟩
def g9 (im:Im) (M:Mm):Mm:=⟨M.now,M.kept, [nM im.start],false,M.tr⟩
def bX (c:Co):Bool:=decide (c.st=1)&&decide (c.w.length=0)
def dC (im:Im) (l:List Ev) (M:Mm):Mm:=
 if M.on=true∨(M.cs.head?.map bX).getD false=false then ⟨M.now,M.kept,M.cs,M.on,M.tr++l⟩
 else ⟨M.now,M.kept,im.entry.map nM,true,M.tr++l++ [⟨9,0,0,0⟩]⟩
def js (n:Nat) (now kept:List Int):List Int:=kept.take (8*n)++(now.drop (8*n)).take 8++kept.drop (8*n+8)
def iQ (n:Int) (M:Mm):Bool×Mm:=
 if n<0∨(M.now.length:Int)<=n*8 then (false,M) else (true,⟨M.now,js n.toNat M.now M.kept,M.cs,M.on,M.tr++ [⟨7,0,n,0⟩]⟩)
def ft (im:Im) (M:Mm):Mm:=g9 im ⟨M.kept,M.kept,M.cs,M.on,M.tr++ [⟨8,0,0,0⟩]⟩
def fB (im:Im) (k n:Int) (j:Nat) (c:Co) (M:Mm):Bool×Mm:=
 if k=0 then ((cS j im.code M.now c).1,dC im (cS j im.code M.now c).2.1 ⟨M.now,M.kept,M.cs.set j (cS j im.code M.now c).2.2,M.on,M.tr⟩)
 else if k=1 then ((cD j n M.now c).1,dC im (cD j n M.now c).2.1 ⟨(cD j n M.now c).2.2.2,M.kept,M.cs.set j (cD j n M.now c).2.2.1,M.on,M.tr⟩)
 else (false,M)
def bM (im:Im) (k core n:Int) (M:Mm):Bool×Mm:=
 if k=2 then iQ n M
 else if k=3 then (true,ft im M)
 else if core<0 then (false,M)
 else match M.cs[core.toNat]? with
  |none=>(false,M)
  |some c=>fB im k n core.toNat c M
theorem vJ (n:Nat) (now kept:List Int) (h:now.length=kept.length) (hn:8*n<now.length):(js n now kept).length=kept.length:=by
 unfold js
 simp only[List.length_append,List.length_take,List.length_drop]
 omega
def eI (l:List Ev):List Int:=(l.filter fun e=>decide (e.k=4)).map (·.v)
theorem kB (a b:List Ev):eI (a++b)=eI a++eI b:=by simp[eI]
abbrev iu (z:Int):NV:= .int .u64 (.lit z)
abbrev iw (z:Int):NV:= .int .u32 (.lit z)
abbrev lu (l:List Int):List (List NV):=l.map fun z=> [iu z]
abbrev jd (l:List Int):List (List NV):=l.map fun z=> [ii z]
abbrev mM (l:List Int):List (List NV):=l.map fun z=> [iw z]
abbrev pw (l:List Wr):List (List NV):=l.map fun w=> [ii (4096+8*(w.a:Int)),iu w.v,.bool false]
abbrev n5 (l:List Ev):List (List NV):=l.map fun e=> [ii e.k,ii e.c,ii e.a,iu e.v]
noncomputable def E0:NH:=⟨.leaf,.e⟩
theorem qk {i:D4}:¬aN E0 i:=fun h=>Nat.not_lt_zero _ h
theorem n0 :∀i,aN E0 i->aN m i:=fun i h=>I5 h qk
abbrev fO:=D4->Nat
def aF (f:fO) (m:NH) (a:Nat):fO:=fun i=>if aN m i then f i else a
structure Kp (T:Nat->Prop) (f:fO) (m:NH) (f':fO) (m':NH):Prop where
 n:m.next.toNat<=m'.next.toNat
 c:∀{i},aN m i->f' i=f i
 g:∀{i},aN m i->¬T (f i)->m'.get i=m.get i
section
variable {T T':Nat->Prop} {f f' f'':fO} {m m' m'':NH} {a e:Nat} {r:D4} {o:NO} {v:NV} {C:List (List NV)}
theorem Kp.old (h:Kp T f m f' m') {i:D4} (ho:aN m i):aN m' i:=Nat.lt_of_lt_of_le ho h.n
theorem Kp.refl:Kp T f m f m:=⟨Nat.le_refl _,fun _=>rfl,fun _ _=>rfl⟩
theorem Kp.weak (h:Kp T f m f' m') (hT:∀a,T a->T' a):Kp T' f m f' m':=⟨h.n,h.c,fun ho ht=>h.g ho fun q=>ht (hT _ q)⟩
theorem Kp.trans (h:Kp T f m f' m') (h':Kp T f' m' f'' m''):Kp T f m f'' m'':=
 ⟨Nat.le_trans h.n h'.n,fun ho=>(h'.c (h.old ho)).trans (h.c ho),fun ho ht=>(h'.g (h.old ho) (by rw[h.c ho];exact ht)).trans (h.g ho ht)⟩
theorem Kp.of  (h:Chg S m m') (hS:∀i∈S,aN m i->T (f i)) (a:Nat):Kp T f m (aF f m a) m':=
 ⟨h.next,fun ho=>I7 ho,fun ho ht=>h.get ho fun q=>ht (hS _ q ho)⟩
theorem Kp.same  (h:Chg S m m') (hS:∀i∈S,aN m i->T (f i)):Kp T f m f m':=
 ⟨h.next,fun ho=>rfl,fun ho ht=>h.get ho fun q=>ht (hS _ q ho)⟩
theorem Kp.grow (h:Chg [] m m'):Kp T f m f m':=Kp.same h (by simp)
structure Ob (a:Nat) (f:fO) (m:NH) (r:D4) (o:NO):Prop where
 g:m.get r=some o
 o:aN m r
 c:f r=a
theorem Ob.kp (h:Ob a f m r o) (k:Kp T f m f' m') (ht:¬T a):Ob a f' m' r o:=⟨(k.g h.o (by rw[h.c];exact ht)).trans h.g,k.old h.o,(k.c h.o).trans h.c⟩
structure OwC (a:Nat) (f:fO) (m:NH) (v:NV) (e:Nat) (C:List (List NV)):Prop where
 o:bG E0 m v e C
 c:∀i∈ids v,f i=a
theorem OwC.kp (h:OwC a f m v e C) (k:Kp T f m f' m') (ht:¬T a):OwC a f' m' v e C:=by
 refine ⟨?_,fun i hi=>(k.c (h.o.sl.old i hi)).trans (h.c i hi)⟩
 obtain ⟨⟨h0,⟨rfl,rfl⟩|⟨id,off,kc,c,rfl,hb,h1,h2,h3⟩⟩,hc⟩:=h
 ·exact ⟨h0,Or.inl ⟨rfl,rfl⟩⟩
 ·exact ⟨h0,Or.inr ⟨id,off,kc,c,rfl,hb,(k.g h2 (by rw[hc id (by simp[ids])];exact ht)).trans h1,k.old h2,h3⟩⟩
structure SlC (a:Nat) (f:fO) (m:NH) (v:NV) (e:Nat) (C:List (List NV)):Prop where
 o:Sl m v e C
 c:∀i∈ids v,f i=a
theorem SlC.kp (h:SlC a f m v e C) (k:Kp T f m f' m') (ht:¬T a):SlC a f' m' v e C:=by
 refine ⟨?_,fun i hi=>(k.c (h.o.old i hi)).trans (h.c i hi)⟩
 obtain ⟨⟨h0,⟨rfl,rfl⟩|⟨id,off,kc,w,c,rfl,h1,h2,h3⟩⟩,hc⟩:=h
 ·exact ⟨h0,Or.inl ⟨rfl,rfl⟩⟩
 ·exact ⟨h0,Or.inr ⟨id,off,kc,w,c,rfl,(k.g h2 (by rw[hc id (by simp[ids])];exact ht)).trans h1,k.old h2,h3⟩⟩
theorem OwC.sl (h:OwC a f m v e C):SlC a f m v e C:=⟨h.o.sl,h.c⟩
end
noncomputable def xM:List NV:=List.replicate 512 (iu 0)
theorem dj:xM.length=512:=List.length_replicate
noncomputable def bS (mp:D4) (id pc st:Int) (X:List Int) (vw:NV) (q:D4):List NV:= .ptr mp 0::ii id::ii pc::ii st::(X.map iu++(xM++ [vw,.map q,ii 0,ii 0,.bool false]))
section
variable {mp q:D4} {id pc st p:Int} {X Y:List Int} {vw w:NV}
theorem I0:(bS mp id pc st X vw q)[0]? =some (.ptr mp 0):=rfl
theorem I4:(bS mp id pc st X vw q)[1]? =some (ii id):=rfl
theorem Hl:(bS mp id pc st X vw q)[2]? =some (ii pc):=rfl
theorem HH:(bS mp id pc st X vw q)[3]? =some (ii st):=rfl
theorem AU:(bS mp id pc st X vw q).set 2 (ii p)=bS mp id p st X vw q:=rfl
theorem AM:(bS mp id pc st X vw q).set 3 (ii p)=bS mp id pc p X vw q:=rfl
theorem gK (h:X.length=33):(bS mp id pc st X vw q).length=554:=by simp[bS,h,dj]
theorem Gm (h:X.length=33) (n:Nat):(bS mp id pc st X vw q).drop (549+n)= [vw,.map q,ii 0,ii 0,.bool false].drop n:=by
 unfold bS
 rw[show 549+n=n+512+33+4 by omega]
 simp only[List.drop_succ_cons]
 rw[List.drop_append,List.length_map,h,List.drop_eq_nil_of_le (by rw[List.length_map,h];omega),List.nil_append,show n+512+33 - 33=n+512 by omega,List.drop_append,dj,List.drop_eq_nil_of_le (by rw[dj];omega),List.nil_append,Nat.add_sub_cancel]
theorem AL (h:X.length=33) (n:Nat):(bS mp id pc st X vw q)[549+n]? = [vw,.map q,ii 0,ii 0,.bool false][n]? :=by
 have:=congrArg (fun l=>l[0]?) (Gm (mp:=mp) (id:=id) (pc:=pc) (st:=st) (vw:=vw) (q:=q) h n)
 simpa only[List.getElem?_drop,Nat.add_zero] using this
theorem rW (h:X.length=33):(bS mp id pc st X vw q)[549]? =some vw:=AL h 0
theorem Hv (h:X.length=33):(bS mp id pc st X vw q)[550]? =some (.map q):=AL h 1
theorem ue (h:X.length=33):((bS mp id pc st X vw q).drop 4).take 33=X.map iu:=by
 show (X.map iu++_).take 33=_
 rw[List.take_append_of_le_length (by rw[List.length_map,h];omega),List.take_of_length_le (by rw[List.length_map,h];omega)]
theorem AI (h:X.length=33) (hY:Y.length=33):(bS mp id pc st X vw q).take 4++Y.map iu++(bS mp id pc st X vw q).drop 37=bS mp id pc st Y vw q:=by
 have e:(bS mp id pc st X vw q).drop 37=xM++ [vw,.map q,ii 0,ii 0,.bool false]:=by
  show (X.map iu++_).drop 33=_
  rw[List.drop_append,List.drop_eq_nil_of_le (by rw[List.length_map,h];omega),List.length_map,h];rfl
 rw[e];simp[bS]
theorem rJ (h:X.length=33):(bS mp id pc st X vw q).set 549 w=bS mp id pc st X w q:=by
 unfold bS
 rw[show (549:Nat)=545+1+1+1+1 by rfl]
 simp only[List.set_cons_succ]
 rw[List.set_append_right _ _ (by rw[List.length_map,h];omega),List.length_map,h,List.set_append_right _ _ (by rw[dj];omega),dj];rfl
end
def vV (v:NV):Prop:=match v with| .slc _ _ n _ kc=>n<=kc|_=>True
structure Cb where
 (r q:D4)
 w:NV
structure CoC (j:Nat) (f:fO) (m:NH) (mp:D4) (b:Cb) (id:Int) (c:Co):Prop where
 g:Ob (10+3*j) f m b.r (.cells true (bS mp id c.pc c.st c.X b.w b.q))
 q:Ob (11+3*j) f m b.q (.map [])
 w:OwC (12+3*j) f m b.w 3 (pw c.w)
 x:c.X.length=33
 wa:∀y∈c.w,y.a<64
 wl:c.w.length<=1000
 kc:vV b.w
structure Mb where
 (p:D4)
 (n k v:NV)
structure MeC (f:fO) (m:NH) (b:Mb) (now kept ver:List Int) (N:Nat):Prop where
 g:Ob 1 f m b.p (.cells true [b.n,b.k,b.v])
 n:OwC 2 f m b.n 1 (lu now)
 k:OwC 3 f m b.k 1 (lu kept)
 v:OwC 4 f m b.v 1 (jd ver)
 l:kept.length=now.length/\ver.length=now.length/\now.length<=64
 b:∀z∈ver,0<=z/\z<=N
section
variable {T:Nat->Prop} {f f':fO} {m m':NH} {mp:D4} {j N:Nat} {b:Cb} {mb:Mb} {id:Int} {c:Co} {now kept ver:List Int}
theorem CoC.kp (h:CoC j f m mp b id c) (k:Kp T f m f' m') (ht:¬T (10+3*j)/\¬T (11+3*j)/\¬T (12+3*j)):CoC j f' m' mp b id c:=
 ⟨h.g.kp k ht.1,h.q.kp k ht.2.1,h.w.kp k ht.2.2,h.x,h.wa,h.wl,h.kc⟩
theorem MeC.kp (h:MeC f m mb now kept ver N) (k:Kp T f m f' m') (ht:¬T 1/\¬T 2/\¬T 3/\¬T 4):MeC f' m' mb now kept ver N:=
 ⟨h.g.kp k ht.1,h.n.kp k ht.2.1,h.k.kp k ht.2.2.1,h.v.kp k ht.2.2.2,h.l,h.b⟩
theorem MeC.more (h:MeC f m mb now kept ver N) (hN:N<=N'):MeC f m mb now kept ver N':=⟨h.g,h.n,h.k,h.v,h.l,fun z hz=>⟨(h.b z hz).1,by have:=(h.b z hz).2;omega⟩⟩
end
def Tc (j:Nat):Nat->Prop:=fun a=>a=10+3*j∨a=11+3*j∨a=12+3*j
def lD:Nat->Prop:=fun a=>1<=a/\a<=4
section
variable {f f':fO} {m m' M:NH} {mp:D4} {j:Nat} {b:Cb} {id:Int} {c:Co} {sb q:D4} {v:NV} {C:List (List NV)}
theorem GV (hv:cellsOf v=some [v]):∃m',rT 111 [v] m (.fn 134 [.ptr (na m 0) 0]) m'/\m'=hp [(.n 0,.cells true [v])] 1 m:=by
 refine WF.ex1 fun K hK=> ?_
 refine WF.of_wpG (fun _=>rfl) o9 (L:= [(.e,v)]) rfl ?_
 unfold uT
 simp (config:={maxSteps:=1000000}) (disch:=first|assumption|omega|(apply ah;omega)|(apply aa;assumption)|(simp only[aJ]<;>omega)) only[go_sem,seval,hv]
 exact hK _ rfl
theorem Ds  (I:Nat->NH->Prop) (Z:NH->Prop) (h0:I 0 m) (hl:C.length<=100000)
 (hI:∀k M,I k M->M.get sb=some (.cells w [v])/\aN M sb/\Sl M v 3 C) (hg:∀k M M',I k M->Chg [] M M'->I k M')
 (hr:∀k M x,I k M->C[k]? =some x->∃r M',lj Try.prog S0 q [ii k,.agg x] M (.bool r) M'/\(if r=true then I (k+1) M' else Z M')):
 ∃m',rT 134 [.yld q,.ptr sb 0] m (.tup []) m'/\(I C.length m'∨Z m'):=by
 refine WF.ex1 fun K hK=> ?_
 refine WF.of_wpG (fun _=>rfl) oK (L:= [(.a .e,.ptr sb 0),(.e,.yld q)]) rfl ?_
 unfold vp
 obtain ⟨g1,g2,g3⟩:=hI 0 m h0
 have hlen:=g3.len
 rw[an]
 simp (config:={maxSteps:=1000000}) (disch:=first|assumption|omega|(apply ah;omega)|(apply aa;assumption)|(simp only[aJ]<;>omega)) only[go_sem,seval,g1,hlen]
 refine W.loop (fun n d=>∃t k M,d=⟨t, [],none,M⟩/\NT.get D4.e t=some (.yld q)/\NT.get D4.e.a.a t=some v/\NT.get D4.e.a.b t=some (ii (C.length:Nat))/\NT.get D4.e.a.c t=some (ii (k:Nat))/\k+n=C.length/\I k M) ?_ C.length _ ⟨_,0,m,rfl,by simp only[go_sem,seval],by simp only[go_sem,seval],by simp only[go_sem,seval],by simp only[go_sem,seval]<;>rfl,by omega,h0⟩
 rintro n d ⟨t,k,M,rfl,t1,t2,t3,t4,hk,hM⟩
 apply aT
 unfold nV
 change wp _ _ _ _ ⟨aw [] t, [],none,M⟩ _
 by_cases hkn:k<C.length
 ·obtain ⟨e1,e2,e3⟩:=hI k M hM
  obtain ⟨i,off,wr,cs,a1,a2,a3,a4,a5⟩:=e3.at k hkn
  have hx3:C[k].length=3:=e3.1 _ (List.getElem_mem hkn)
  have hC1:Chg [] M (hp [(.n 0,.cells true C[k]),(.n 0,.cells true [ii 0,iu 0,.bool false])] 1 M):=ef rfl
  obtain ⟨r,M',hy,hq⟩:=hr k _ C[k] (hg k M _ hM hC1) (List.getElem?_eq_getElem hkn)
  have htk:C[k].take 3=C[k]:=List.take_of_length_le (by omega)
  have ha4:off+3<=cs.length:=a4
  rw[←an M]
  cases r with
  |true=>
   simp (config:={maxSteps:=1000000}) (disch:=first|assumption|omega|(apply ah;omega)|(apply aa;assumption)|(simp only[aJ]<;>omega)) only[go_sem,seval,t1,t2,t3,t4,a1,a2,a5,hx3,htk,hy.wy]
   exact ⟨n - 1,by omega,_,k+1,M',by rw[an],by simp only[go_sem,seval,t1],by simp only[go_sem,seval,t2],by simp only[go_sem,seval,t3],by simp only[go_sem,seval]<;>rfl,by omega,hq⟩
  |false=>
   simp (config:={maxSteps:=1000000}) (disch:=first|assumption|omega|(apply ah;omega)|(apply aa;assumption)|(simp only[aJ]<;>omega)) only[go_sem,seval,t1,t2,t3,t4,a1,a2,a5,hx3,htk,hy.wy]
   rw[an]
   exact hK _ (Or.inr hq)
 ·simp (config:={maxSteps:=1000000}) (disch:=first|assumption|omega|(apply ah;omega)|(apply aa;assumption)|(simp only[aJ]<;>omega)) only[go_sem,seval,t1,t2,t3,t4]
  have e:k=C.length:=by omega
  subst e
  exact hK _ (Or.inl hM)
theorem wA (h:CoC j f m mp b id c):rT 76 [.ptr b.r 549] m (.fn 134 [.ptr (na m 0) 0]) (hp [(.n 0,.cells true [b.w])] 1 m):=by
 suffices hh:∃m',rT 76 [.ptr b.r 549] m (.fn 134 [.ptr (na m 0) 0]) m'/\m'=hp [(.n 0,.cells true [b.w])] 1 m by
  obtain ⟨m',h1,rfl⟩:=hh;exact h1
 refine WF.ex1 fun K hK=> ?_
 refine WF.of_wpG (fun _=>rfl) sq (L:= [(.e,.ptr b.r 549)]) rfl ?_
 unfold BB
 have g:=h.g.g
 have hx:=h.x
 obtain ⟨m1,r1,rfl⟩:=GV (m:=m) (v:=b.w) h.w.o.sl.one
 rw[an]
 simp (config:={maxSteps:=1000000}) (disch:=first|assumption|omega|(apply ah;omega)|(apply aa;assumption)|(simp only[aJ]<;>omega)) only[go_sem,seval,g,rW,r1.wf']
 exact hK _ rfl
theorem sQ  {fx:NOpd} {ps:List D4} {a1 b1:NC} {dfs:List Dfr} {T:List D4} (hf:ρ t fx=some (.fn 134 [.ptr sb 0])) (hl:C.length<=100000)
 (gs:m.get sb=some (.cells w [v])) (os:aN m sb) (hv:Sl m v 3 C) (hT:∀i∈T,aN m i/\i≠sb/\i∉ids v) (J:NH->Nat->NH->Prop) (Z:Jump->NH->Prop)
 (h0:∀M1,Chg [] m M1->J M1 0 M1) (hg:∀M1 k N N',J M1 k N->Chg [] N N'->J M1 k N')
 (hr:∀M1 k N x,Chg [] m M1->aN M1 (na m 1)->Chg (na m 1::T) M1 N->N.get (na m 1)=some (.loop 0 .none t ps a1 b1)->J M1 k N->C[k]? =some x->∃r M',lj Try.prog S0 (na m 1) [ii k,.agg x] N (.bool r) M'/\Chg (na m 1::T) M1 M'/\(if r=true then M'.get (na m 1)=some (.loop 0 .none t ps a1 b1)/\J M1 (k+1) M' else ∃p,M'.get (na m 1)=some (.loop 2 p t ps a1 b1)/\Z p M'))
 (hQ:∀M1 N p,Chg [] m M1->aN M1 (na m 0)->aN M1 (na m 1)->(p= .none/\J M1 C.length N)∨Z p N->N.get (na m 0)=some (.defd true)->aN N (na m 0)->aN N (na m 1)->Chg T m N->Q (iU p) ⟨t,.mark (na m 0)::dfs,none,hp [(.o (na m 1),.loop 3 p t ps a1 b1)] 0 N⟩):
 W Try.prog S0 none (.rangeFunc fx ps a1 b1) ⟨t,dfs,none,m⟩ Q:=by
 generalize hM1:hp [(.n 1,.loop 0 .none t ps a1 b1),(.n 0,.defd true)] 2 m=M1
 have hG:Chg [] m M1:=aQ hM1 rfl
 have oq:aN M1 (na m 1):=bn hM1 (by omega)
 have om:aN M1 (na m 0):=bn hM1 (by omega)
 have gq:M1.get (na m 1)=some (.loop 0 .none t ps a1 b1):=ba hM1
 have gm:M1.get (na m 0)=some (.defd true):=ba hM1
 have nT:∀{i},aN m i->i∉T->i∉na m 1::T:=fun ho hi=>by simp only[Jb,not_or];exact ⟨ho.ne 1,hi⟩
 have hsT:sb∉T:=fun q=>(hT sb q).2.1 rfl
 obtain ⟨m',h1,h2⟩:=Ds (m:=M1) (q:=na m 1) (sb:=sb) (v:=v) (C:=C) (w:=w) (fun k N=>Chg (na m 1::T) M1 N/\N.get (na m 1)=some (.loop 0 .none t ps a1 b1)/\J M1 k N) (fun N=>Chg (na m 1::T) M1 N/\∃p,N.get (na m 1)=some (.loop 2 p t ps a1 b1)/\Z p N)
  ⟨(Chg.refl M1).weak (by simp),gq,h0 _ hG⟩ hl
  (fun k N ⟨hC,_,_⟩=>⟨(hC.get (hG.old os) (nT os hsT)).trans ((hG.get os (by simp)).trans gs),hC.old (hG.old os),(hv.chg hG fun _ _=>by simp).chg hC fun i hi=>nT (hv.old i hi) fun q=>(hT i q).2.2 hi⟩)
  (fun k N N' ⟨hC,hq,hJ⟩ hC'=>⟨hC.trans hC' (by simp),(hC'.get (hC.old oq) (by simp)).trans hq,hg M1 k N N' hJ hC'⟩)
  (fun k N x ⟨hC,hq,hJ⟩ hx=>by
   obtain ⟨r,M',a,b,c⟩:=hr M1 k N x hG oq hC hq hJ hx
   refine ⟨r,M',a, ?_⟩
   cases r with
   |true=>exact ⟨b,c.1,c.2⟩
   |false=>exact ⟨b,c⟩)
 have fin:∀{N st p},Chg (na m 1::T) M1 N->N.get (na m 1)=some (.loop st p t ps a1 b1)->st≠1->rT 134 [.yld (na m 1),.ptr sb 0] M1 (.tup []) N->((p= .none/\J M1 C.length N)∨Z p N)->W Try.prog S0 none (.rangeFunc fx ps a1 b1) ⟨t,dfs,none,m⟩ Q:=by
  intro N st p hC hq hst hr hJ
  refine W.rangeJ hf (hM1▸hr) hq hst ?_ (hC.old oq)
  refine hQ M1 N p hG om oq hJ ((hC.get om ?_).trans gm) (hC.old om) (hC.old oq) ?_
  ·simp only[Jb,not_or]
   exact ⟨fun e=>by have:=dR e;omega,fun q=>aG (hT _ q).1⟩
  ·refine (hG.weak (T:=T) (by simp)).trans hC fun i hi ho=> ?_
   rcases List.mem_cons.1 hi with rfl|hi
   ·exact I5 ho aG
   ·exact hi
 rcases h2 with ⟨hC,hq,hJ⟩|⟨hC,p,hq,hZ⟩
 ·exact fin hC hq (by simp) h1 (Or.inl ⟨rfl,hJ⟩)
 ·exact fin hC hq (by simp) h1 (Or.inr hZ)
theorem qC (h:CoC j f m mp b id c):∃v m',rT 43 [.ptr b.r 0] m v m'/\bG m m' v 3 (pw c.w)/\Chg [] m m':=by
 refine WF.ex fun K hK=> ?_
 refine WF.of_wpM (fun _=>rfl) rU (L:= [(.e,.ptr b.r 0)]) rfl ?_
 unfold EI
 have hl:=h.wl
 generalize hm1:hp [(.n 0,.cells true [.nils])] 1 m=m1
 have hC1:Chg [] m m1:=aQ hm1 rfl
 have k1:Kp (fun _=>False) f m f m1:=Kp.grow hC1
 have h1:=h.kp k1 (by simp)
 have go1:m1.get (na m 0)=some (.cells true [.nils]):=ba hm1
 have oo1:aN m1 (na m 0):=bn hm1 (by omega)
 have r1:=wA h1
 simp (config:={maxSteps:=1000000}) (disch:=first|assumption|omega|(apply ah;omega)|(apply aa;assumption)|(simp only[aJ]<;>omega)) only[go_sem,seval,hm1,r1.wf']
 generalize hm2:hp [(.n 0,.cells true [b.w])] 1 m1=m2
 have hC2:Chg [] m1 m2:=aQ hm2 rfl
 have gz:m2.get (na m1 0)=some (.cells true [b.w]):=ba hm2
 have oz:aN m2 (na m1 0):=bn hm2 (by omega)
 have go2:=(hC2.get oo1 (by simp)).trans go1
 have oo2:=hC2.old oo1
 have hw2:=((h1.w.kp (Kp.grow (T:=fun _=>False) hC2) (by simp)).o).sl
 generalize ht:aw _ NT.leaf=t
 have t1:NT.get D4.e.c t=some (.ptr (na m 0) 0):=by rw[←ht];simp (config:={maxSteps:=1000000}) (disch:=first|assumption|omega|(apply ah;omega)|(apply aa;assumption)|(simp only[aJ]<;>omega)) only[go_sem,seval]
 have t2:NT.get D4.e.b.a t=some (.fn 134 [.ptr (na m1 0) 0]):=by rw[←ht];simp (config:={maxSteps:=1000000}) (disch:=first|assumption|omega|(apply ah;omega)|(apply aa;assumption)|(simp only[aJ]<;>omega)) only[go_sem,seval]
 clear ht
 have nzo:na m 0≠na m1 0:=oo1.ne 0
 refine sQ (sb:=na m1 0) (v:=b.w) (C:=pw c.w) (T:= [na m 0]) t2 (by rw[List.length_map];omega) gz oz hw2 ?_ (fun M1 k N=>∃u,N.get (na m 0)=some (.cells true [u])/\aN N (na m 0)/\bG M1 N u 3 ((pw c.w).take k)) (fun _ _=>False) ?_ ?_ ?_ ?_
 ·intro i hi
  have:=one hi;subst this
  exact ⟨oo2,nzo,fun hi=>aG (h.w.o.sl.old _ hi)⟩
 ·intro M1 hC
  exact ⟨.nils,(hC.get oo2 (by simp)).trans go2,hC.old oo2,bG.nil⟩
 ·rintro M1 k N N' ⟨u,e1,e2,e3⟩ hC
  exact ⟨u,(hC.get e2 (by simp)).trans e1,hC.old e2,e3.chg hC (by simp)⟩
 ·rintro M1 k N x hG oq1 hC hq ⟨u,e1,e2,e3⟩ hx
  have oqN:=hC.old oq1
  have oM:aN M1 (na m 0):=hG.old oo2
  have nu:na m2 1∉ids u:=fun hi=>e3.new _ hi oq1
  have nu0:na m 0∉ids u:=fun hi=>e3.new _ hi oM
  have nq0:na m 0≠na m2 1:=oo2.ne 1
  have hkl:k<(pw c.w).length:=by
   rcases Nat.lt_or_ge k (pw c.w).length with hlt|hge
   ·exact hlt
   ·rw[List.getElem?_eq_none hge] at hx;cases hx
  obtain ⟨y,hy,rfl⟩:∃y:Wr,c.w[k]? =some y/\x= [ii (4096+8*(y.a:Int)),iu y.v,.bool false]:=by
   rw[List.getElem?_map] at hx
   cases hh:c.w[k]? with
   |none=>rw[hh] at hx;cases hx
   |some y=>rw[hh] at hx;cases hx;exact ⟨y,rfl,rfl⟩
  suffices hh:∃r M',lj Try.prog S0 (na m2 1) [ii (k:Nat),.agg [ii (4096+8*(y.a:Int)),iu y.v,.bool false]] N r M'/\r= .bool true/\Chg (na m2 1::na m 0::ids u) N M'/\M'.get (na m2 1)=some (.loop 0 .none t [D4.e.b.b,D4.e.b.c] jO jS)/\∃u',M'.get (na m 0)=some (.cells true [u'])/\bG M1 M' u' 3 ((pw c.w).take k++ [[ii (4096+8*(y.a:Int)),iu y.v,.bool false]]) by
   obtain ⟨r,M',q1,rfl,q2,q3,u',q4,q5⟩:=hh
   refine ⟨true,M',q1,hC.trans q2 fun i hi ho=> ?_, ?_⟩
   ·simp only[Jb,Ja,or_false] at hi ⊢
    rcases hi with rfl|rfl|hi
    ·exact Or.inl rfl
    ·exact Or.inr rfl
    ·exact I5 ho (e3.new i hi)
   ·rw[I7 rfl]
    refine ⟨q3,u',q4,q2.old e2, ?_⟩
    rw[List.take_add_one,hx];exact q5
  refine WY.ex fun K' hK'=> ?_
  refine WY.of_wp hq rfl jO.eq_1 jS.eq_1 ?_
  change wp _ _ _ _ ⟨aw [(D4.e.b.c,.agg [ii (4096+8*(y.a:Int)),iu y.v,.bool false]),(D4.e.b.b,ii (k:Nat))] t, [],none,hp [] 0 N⟩ _
  simp (config:={maxSteps:=1000000}) (disch:=first|assumption|omega|(apply ah;omega)|(apply aa;assumption)|(simp only[aJ]<;>omega)) only[go_sem,seval,t1,hq,e1]
  generalize hN1:hp _ 2 N=N1
  have hCn:Chg [na m2 1] N N1:=aQ hN1 rfl
  have gn1:N1.get (na N 1)=some (.cells true [ii (4096+8*(y.a:Int)),iu y.v,.bool false]):=ba hN1
  have on1:aN N1 (na N 1):=bn hN1 (by omega)
  have gq1:N1.get (na m2 1)=some (.loop 1 .none t [D4.e.b.b,D4.e.b.c] jO jS):=by rw[←hN1];exact (bf oqN).trans (iv.trans aL)
  have go1:=(hCn.get e2 (by simpa using nq0)).trans e1
  refine wH (e3.chg hCn fun i hi=>by simp;rintro rfl;exact nu hi) gn1 on1 rfl (fun i hi=>hCn.old (hC.old hi)) (by simp only[List.length_take,List.length_map];omega) (by simp only[List.length_take,List.length_map];omega) ?_
  intro u' N2 hu' hC2'
  have gq2:=(hC2'.get (hCn.old oqN) nu).trans gq1
  have go2':=(hC2'.get (hCn.old e2) nu0).trans go1
  have oq2:=hC2'.old (hCn.old oqN)
  have oo2':=hC2'.old (hCn.old e2)
  have nq0':=nq0.symm
  simp (config:={maxSteps:=1000000}) (disch:=first|assumption|omega|(apply ah;omega)|(apply aa;assumption)|(simp only[aJ]<;>omega)) only[go_sem,seval,t1,go2',gq2,hu'.sl.one]
  generalize hN3:hp _ 0 N2=N3
  have hC3:Chg [na m2 1,na m 0] N2 N3:=aQ hN3 rfl
  have nq':na m2 1∉ids u':=fun hi=>hu'.new _ hi oq1
  have no':na m 0∉ids u':=fun hi=>hu'.new _ hi oM
  refine hK' _ _ ⟨rfl,((hCn.weak (T:=na m2 1::na m 0::ids u) (by simp)).trans hC2' fun i hi _=> ?_).trans hC3 fun i hi _=> ?_, ?_,u', ?_, ?_⟩
  ·exact List.mem_cons_of_mem _ (List.mem_cons_of_mem _ hi)
  ·simp only[Jb,Ja,or_false] at hi ⊢;rcases hi with rfl|rfl<;>simp
  ·rw[←hN3];exact (bf oq2).trans aL
  ·rw[←hN3];exact (bf oo2').trans ((dq nq0).trans aL)
  ·refine hu'.chg hC3 fun i hi=> ?_
   simp only[Jb,Ja,or_false,not_or]
   exact ⟨fun e=>nq' (e▸hi),fun e=>no' (e▸hi)⟩
 ·rintro M1 N p hG oM0 oM1 hJ m1' m2' m3' hC
  rcases hJ with ⟨rfl,u,e1,e2,e3⟩|hZ
  ·change dx _ _ (iU .none) ⟨aw [] t,_,_,_⟩
   have nu:na m2 1∉ids u:=fun hi=>e3.new _ hi oM1
   have nu0:na m2 0∉ids u:=fun hi=>e3.new _ hi oM0
   have n01:na m2 0≠na m2 1:=fun e=>by have:=dR e;omega
   have n02:na m 0≠na m2 1:=oo2.ne 1
   have n03:na m 0≠na m2 0:=oo2.ne 0
   have n10:=n01.symm
   simp (config:={maxSteps:=1000000}) (disch:=first|assumption|omega|(apply ah;omega)|(apply aa;assumption)|(simp only[aJ]<;>omega)) only[go_sem,seval,iU,t1,e1,e2,m1']
   generalize hMe:hp _ 0 N=Me
   have hCe:Chg [na m2 0,na m2 1] N Me:=aQ hMe rfl
   have e4:=e3.chg hCe fun i hi=>by
    simp only[Jb,Ja,or_false,not_or]
    exact ⟨fun e=>nu0 (e▸hi),fun e=>nu (e▸hi)⟩
   rw[List.take_length] at e4
   have hC12:Chg [] m m2:=hC1.trans hC2 (by simp)
   refine hK _ _ ⟨e4.back fun i hi=>hG.old (hC12.old hi),((hC12.weak (T:= [na m 0,na m2 0,na m2 1]) (by simp)).trans hC (by simp)).trans hCe (by simp) |>.weak fun i hi ho=> ?_⟩
   simp only[Jb,Ja,or_false] at hi
   rcases hi with rfl|rfl|rfl
   ·exact I5 ho aG
   ·exact I5 (hC12.old ho) aG
   ·exact I5 (hC12.old ho) aG
  ·exact hZ.elim
end
section
variable {f f':fO} {m m' M:NH} {mp:D4} {j:Nat} {b:Cb} {id:Int} {c:Co} {sb q:D4} {v:NV} {C:List (List NV)}
theorem FO {l:List Wr} {k:Nat} {x:List NV} (hx:(pw l)[k]? =some x):∃y:Wr,l[k]? =some y/\x= [ii (4096+8*(y.a:Int)),iu y.v,.bool false]:=by
 rw[List.getElem?_map] at hx
 cases hh:l[k]? with
 |none=>rw[hh] at hx;cases hx
 |some y=>rw[hh] at hx;cases hx;exact ⟨y,rfl,rfl⟩
theorem BO (h:CoC j f m mp b id c) {fn:Nat} {cap:List NV}
 (hcl:∀M (y:Wr),y∈c.w->Chg [] m M->∃r M',rT fn (.agg [ii (4096+8*(y.a:Int)),iu y.v,.bool false]::cap) M (.bool r) M'/\Chg [] M M'):
 ∃v m',rT 59 [.ptr b.r 0,.fn fn cap] m v m'/\(∃r,v= .bool r)/\Chg [] m m':=by
 refine WF.ex fun K hK=> ?_
 refine WF.of_wpM (fun _=>rfl) sN (L:= [(.a .e,.fn fn cap),(.e,.ptr b.r 0)]) rfl ?_
 unfold DN
 have hl:=h.wl
 generalize hm1:hp [(.n 1,.cells true [.bool false]),(.n 0,.cells true [.fn fn cap])] 2 m=m1
 have hC1:Chg [] m m1:=aQ hm1 rfl
 have k1:Kp (fun _=>False) f m f m1:=Kp.grow hC1
 have h1:=h.kp k1 (by simp)
 have gf1:m1.get (na m 0)=some (.cells true [.fn fn cap]):=ba hm1
 have of1:aN m1 (na m 0):=bn hm1 (by omega)
 have go1:m1.get (na m 1)=some (.cells true [.bool false]):=ba hm1
 have oo1:aN m1 (na m 1):=bn hm1 (by omega)
 have r1:=wA h1
 simp (config:={maxSteps:=1000000}) (disch:=first|assumption|omega|(apply ah;omega)|(apply aa;assumption)|(simp only[aJ]<;>omega)) only[go_sem,seval,hm1,r1.wf']
 generalize hm2:hp [(.n 0,.cells true [b.w])] 1 m1=m2
 have hC2:Chg [] m1 m2:=aQ hm2 rfl
 have gz:m2.get (na m1 0)=some (.cells true [b.w]):=ba hm2
 have oz:aN m2 (na m1 0):=bn hm2 (by omega)
 have go2:=(hC2.get oo1 (by simp)).trans go1
 have oo2:=hC2.old oo1
 have gf2:=(hC2.get of1 (by simp)).trans gf1
 have of2:=hC2.old of1
 have hw2:=((h1.w.kp (Kp.grow (T:=fun _=>False) hC2) (by simp)).o).sl
 generalize ht:aw _ NT.leaf=t
 have t1:NT.get D4.e.f t=some (.ptr (na m 1) 0):=by rw[←ht];simp (config:={maxSteps:=1000000}) (disch:=first|assumption|omega|(apply ah;omega)|(apply aa;assumption)|(simp only[aJ]<;>omega)) only[go_sem,seval]
 have t2:NT.get D4.e.b.b t=some (.fn 134 [.ptr (na m1 0) 0]):=by rw[←ht];simp (config:={maxSteps:=1000000}) (disch:=first|assumption|omega|(apply ah;omega)|(apply aa;assumption)|(simp only[aJ]<;>omega)) only[go_sem,seval]
 have t3:NT.get D4.e.c t=some (.ptr (na m 0) 0):=by rw[←ht];simp (config:={maxSteps:=1000000}) (disch:=first|assumption|omega|(apply ah;omega)|(apply aa;assumption)|(simp only[aJ]<;>omega)) only[go_sem,seval]
 clear ht
 have nzo:na m 1≠na m1 0:=oo1.ne 0
 have nfo:na m 0≠na m 1:=fun e=>by have:=dR e;omega
 have hC12:Chg [] m m2:=hC1.trans hC2 (by simp)
 refine sQ (sb:=na m1 0) (v:=b.w) (C:=pw c.w) (T:= [na m 1]) t2 (by rw[List.length_map];omega) gz oz hw2 ?_ (fun M1 k N=>N.get (na m 1)=some (.cells true [.bool false])/\aN N (na m 1)) (fun p N=>p= .ret/\N.get (na m 1)=some (.cells true [.bool true])/\aN N (na m 1)) ?_ ?_ ?_ ?_
 ·intro i hi
  have:=one hi;subst this
  exact ⟨oo2,nzo,fun hi=>aG (h.w.o.sl.old _ hi)⟩
 ·intro M1 hC
  exact ⟨(hC.get oo2 (by simp)).trans go2,hC.old oo2⟩
 ·rintro M1 k N N' ⟨e1,e2⟩ hC
  exact ⟨(hC.get e2 (by simp)).trans e1,hC.old e2⟩
 ·rintro M1 k N x hG oq1 hC hq ⟨e1,e2⟩ hx
  have oqN:=hC.old oq1
  have nq0:na m 1≠na m2 1:=oo2.ne 1
  have nqf:na m 0≠na m2 1:=of2.ne 1
  have gfN:N.get (na m 0)=some (.cells true [.fn fn cap]):=(hC.get (hG.old of2) (by simp only[Jb,Ja,or_false,not_or];exact ⟨nqf,nfo⟩)).trans ((hG.get of2 (by simp)).trans gf2)
  have ofN:=hC.old (hG.old of2)
  obtain ⟨y,hy,rfl⟩:=FO hx
  suffices hh:∃r M',lj Try.prog S0 (na m2 1) [ii (k:Nat),.agg [ii (4096+8*(y.a:Int)),iu y.v,.bool false]] N r M'/\∃q,r= .bool q/\Chg [na m2 1,na m 1] N M'/\(if q=true then M'.get (na m2 1)=some (.loop 0 .none t [D4.e.b.c,D4.e.b.f] gk fZ)/\M'.get (na m 1)=some (.cells true [.bool false]) else M'.get (na m2 1)=some (.loop 2 .ret t [D4.e.b.c,D4.e.b.f] gk fZ)/\M'.get (na m 1)=some (.cells true [.bool true])) by
   obtain ⟨r,M',q1,q,rfl,q2,q3⟩:=hh
   refine ⟨q,M',q1,hC.trans q2 fun i hi ho=>hi, ?_⟩
   cases q with
   |true=>exact ⟨q3.1,q3.2,q2.old e2⟩
   |false=>exact ⟨_,q3.1,rfl,q3.2,q2.old e2⟩
  refine WY.ex fun K' hK'=> ?_
  refine WY.of_wp hq rfl gk.eq_1 fZ.eq_1 ?_
  change wp _ _ _ _ ⟨aw [(D4.e.b.f,.agg [ii (4096+8*(y.a:Int)),iu y.v,.bool false]),(D4.e.b.c,ii (k:Nat))] t, [],none,hp [] 0 N⟩ _
  generalize hN1:hp [(.o (na m2 1),.loop 1 .none t [D4.e.b.c,D4.e.b.f] gk fZ),(.n 0,.cells true [ii (4096+8*(y.a:Int)),iu y.v,.bool false]),(.n 0,.cells true [ii 0,iu 0,.bool false])] 1 N=N1
  have hCn:Chg [na m2 1] N N1:=aQ hN1 rfl
  have gn1:N1.get (na N 0)=some (.cells true [ii (4096+8*(y.a:Int)),iu y.v,.bool false]):=ba hN1
  have gq1:N1.get (na m2 1)=some (.loop 1 .none t [D4.e.b.c,D4.e.b.f] gk fZ):=by rw[←hN1];exact (bf oqN).trans aL
  have gf1':=(hCn.get ofN (by simpa using nqf)).trans gfN
  have go1':=(hCn.get e2 (by simpa using nq0)).trans e1
  have hm1N:Chg [] m N:=by
   refine ((hC12.trans hG (by simp)).weak (T:= [na m2 1,na m 1]) (by simp)).trans hC (fun i hi _=>hi) |>.weak fun i hi ho=> ?_
   simp only[Jb,Ja,or_false] at hi
   rcases hi with rfl|rfl
   ·exact I5 (hC12.old ho) aG
   ·exact I5 ho aG
  have hmN1:Chg [] m N1:=(hm1N.weak (T:= [na m2 1]) (by simp)).trans hCn (fun i hi _=>hi) |>.weak fun i hi ho=>by
   have:=one hi;subst this;exact I5 (hC12.old ho) aG
  obtain ⟨r,N2,rr,hC2'⟩:=hcl N1 y (List.mem_of_getElem? hy) hmN1
  have gq2:=(hC2'.get (hCn.old oqN) (by simp)).trans gq1
  have go2':=(hC2'.get (hCn.old e2) (by simp)).trans go1'
  have oq2:=hC2'.old (hCn.old oqN)
  have oo2':=hC2'.old (hCn.old e2)
  have nq0':=nq0.symm
  have hCN2:Chg [na m2 1,na m 1] N N2:=(hCn.weak (T:= [na m2 1,na m 1]) (by simp)).trans hC2' (by simp)
  cases r with
  |true=>
   simp (config:={maxSteps:=1000000}) (disch:=first|assumption|omega|(apply ah;omega)|(apply aa;assumption)|(simp only[aJ]<;>omega)) only[go_sem,seval,t1,t3,hq,hN1,gf1',gn1,rr.wf,go2',gq2]
   generalize hN3:hp _ 0 N2=N3
   have hC3:Chg [na m2 1,na m 1] N2 N3:=aQ hN3 rfl
   refine hK' _ _ ⟨false,rfl,hCN2.trans hC3 fun i hi _=>hi, ?_, ?_⟩
   ·rw[←hN3];exact (bf oq2).trans aL
   ·rw[←hN3];exact (bf oo2').trans ((dq nq0).trans aL)
  |false=>
   simp (config:={maxSteps:=1000000}) (disch:=first|assumption|omega|(apply ah;omega)|(apply aa;assumption)|(simp only[aJ]<;>omega)) only[go_sem,seval,t1,t3,hq,hN1,gf1',gn1,rr.wf,go2',gq2]
   generalize hN3:hp _ 0 N2=N3
   have hC3:Chg [na m2 1] N2 N3:=aQ hN3 rfl
   refine hK' _ _ ⟨true,rfl,hCN2.trans hC3 (by simp), ?_, ?_⟩
   ·rw[←hN3];exact (bf oq2).trans aL
   ·exact (hC3.get oo2' (by simpa using nq0)).trans go2'
 ·rintro M1 N p hG oM0 oM1 hJ m1' m2' m3' hC
  have n01:na m2 0≠na m2 1:=fun e=>by have:=dR e;omega
  have n10:=n01.symm
  have n02:na m 1≠na m2 1:=oo2.ne 1
  have n03:na m 1≠na m2 0:=oo2.ne 0
  have n30:=n03.symm
  have n20:=n02.symm
  have fin:∀{S:List D4} {Me:NH},Chg S N Me->(∀i∈S,i∈ [na m2 1,na m2 0,na m 1])->Chg [] m Me:=by
   intro S Me hCe hS
   refine ((hC12.weak (T:= [na m2 1,na m2 0,na m 1]) (by simp)).trans hC (by simp)).trans hCe (fun i hi _=>hS i hi) |>.weak fun i hi ho=> ?_
   simp only[Jb,Ja,or_false] at hi
   rcases hi with rfl|rfl|rfl
   ·exact I5 (hC12.old ho) aG
   ·exact I5 (hC12.old ho) aG
   ·exact I5 ho aG
  rcases hJ with ⟨rfl,e1,e2⟩|⟨rfl,e1,e2⟩
  ·change dx _ _ (iU .none) ⟨aw [] t,_,_,_⟩
   simp (config:={maxSteps:=1000000}) (disch:=first|assumption|omega|(apply ah;omega)|(apply aa;assumption)|(simp only[aJ]<;>omega)) only[go_sem,seval,iU,t1,e1,m1']
   refine kI ?_
   rw[kR]
   simp (config:={maxSteps:=1000000}) (disch:=first|assumption|omega|(apply ah;omega)|(apply aa;assumption)|(simp only[aJ]<;>omega)) only[go_sem,seval,iU,t1,e1,m1']
   generalize hMe:hp _ 0 N=Me
   have hCe:Chg [na m2 0,na m 1,na m2 1] N Me:=aQ hMe rfl
   exact hK _ _ ⟨⟨_,rfl⟩,fin hCe (by simp)⟩
  ·change dx _ _ (iU .ret) ⟨aw [] t,_,_,_⟩
   simp (config:={maxSteps:=1000000}) (disch:=first|assumption|omega|(apply ah;omega)|(apply aa;assumption)|(simp only[aJ]<;>omega)) only[go_sem,seval,iU,t1,e1,m1']
   refine kI ?_
   rw[kR]
   simp (config:={maxSteps:=1000000}) (disch:=first|assumption|omega|(apply ah;omega)|(apply aa;assumption)|(simp only[aJ]<;>omega)) only[go_sem,seval,iU,t1,e1,m1']
   generalize hMe:hp _ 0 N=Me
   have hCe:Chg [na m2 0,na m2 1] N Me:=aQ hMe rfl
   exact hK _ _ ⟨⟨_,rfl⟩,fin hCe (by simp)⟩
end
theorem pV {a b:Int} (h0:0<=a) (h1:a<9223372036854775808) (hb:0<b):cP .num .quo (ii a) (ii b)=some (ii (a / b)):=by
 obtain ⟨n,rfl⟩:=Jd h0
 obtain ⟨k,rfl⟩:=Jd (show 0<=b by omega)
 obtain ⟨k,rfl⟩:∃i,k=i+1:=⟨k - 1,by omega⟩
 refine (iW rfl).trans ?_
 rw[←Int.natCast_ediv]
 have hd:n / (k+1)<=n:=Nat.div_le_self _ _
 show bH .i64 (bm .i64 (.ofNat (n / (k+1))))=_
 generalize n / (k+1)=z at hd ⊢
 rw[Nm.wrap_small (by show -9223372036854775808<=(z:Int);omega) (by show (z:Int)<9223372036854775808;omega),aI]
 rfl
theorem v9 {a b:Int} (h0:0<=a) (h1:a<9223372036854775808) (hb:0<b):cP .num .rem (ii a) (ii b)=some (ii (a % b)):=by
 obtain ⟨n,rfl⟩:=Jd h0
 obtain ⟨k,rfl⟩:=Jd (show 0<=b by omega)
 obtain ⟨k,rfl⟩:∃i,k=i+1:=⟨k - 1,by omega⟩
 refine (iW rfl).trans ?_
 show bH .i64 (.ofNat (Nat.mod n (k+1)))=_
 rw[aI];rfl
section
variable {f f':fO} {m m' M:NH} {mp:D4} {j:Nat} {b:Cb} {id:Int} {c:Co} {sb q:D4} {v:NV} {C:List (List NV)}
theorem tP {lb:D4} {line:Int} {wr:Bool} (g:m.get lb=some (.cells wr [ii line])) (y:Wr) (o:aN m lb) (hy:y.a<1000):∃v m',rT 60 [.agg [ii (4096+8*(y.a:Int)),iu y.v,.bool false],.ptr lb 0] m v m'/\(∃r,v= .bool r)/\Chg [] m m':=by
 have r1:∃m',rT 61 [ii (4096+8*(y.a:Int))] (hp [(.n 0,.cells true [ii (4096+8*(y.a:Int)),iu y.v,.bool false])] 1 m) (ii ((8*(y.a:Int)) / 64)) m'/\m'=hp [(.n 0,.cells true [ii (4096+8*(y.a:Int)),iu y.v,.bool false])] 1 m:=by
  refine WF.ex1 fun K hK=> ?_
  refine WF.of_wpG (fun _=>rfl) rM (L:= [(.e,ii (4096+8*(y.a:Int)))]) rfl ?_
  unfold EZ
  have e1:(4096+8*(y.a:Int)) - 4096=8*(y.a:Int):=by omega
  have hq:=pV (a:=8*(y.a:Int)) (b:=64) (by omega) (by omega) (by omega)
  rw[an]
  simp (config:={maxSteps:=1000000}) (disch:=first|assumption|omega|(apply ah;omega)|(apply aa;assumption)|(simp only[aJ]<;>omega)) only[go_sem,seval,e1,hq]
  exact hK _ rfl
 obtain ⟨m1,r1,rfl⟩:=r1
 refine WF.ex fun K hK=> ?_
 refine WF.of_wpG (fun _=>rfl) sM (L:= [(.a .e,.ptr lb 0),(.e,.agg [ii (4096+8*(y.a:Int)),iu y.v,.bool false])]) rfl ?_
 unfold DS
 simp (config:={maxSteps:=1000000}) (disch:=first|assumption|omega|(apply ah;omega)|(apply aa;assumption)|(simp only[aJ]<;>omega)) only[go_sem,seval,g,r1.wf']
 exact hK _ _ ⟨⟨_,rfl⟩,ef rfl⟩
theorem CoC.put (h:CoC j f m mp b id c) {pc:Nat} {st:Int} {X:List Int} (hX:X.length=33) {k:Nat} (hM:hp [(.o b.r,.cells true (bS mp id pc st X b.w b.q))] k m=M):CoC j f M mp b id ⟨pc,st,X,c.w⟩/\Kp (Tc j) f m f M:=by
 have hC:Chg [b.r] m M:=aQ hM rfl
 have hk:Kp (fun a=>a=10+3*j) f m f M:=Kp.same hC fun i hi _=>by rw[one hi];exact h.g.c
 refine ⟨⟨⟨?_,hC.old h.g.o,h.g.c⟩,h.q.kp hk (by omega),h.w.kp hk (by omega),hX,h.wa,h.wl,h.kc⟩,hk.weak fun a ha=>Or.inl ha⟩
 rw[←hM];exact (bf h.g.o).trans aL
theorem CoC.kpN (h:CoC j f m mp b id c) (hC:Chg [] m m'):CoC j f m' mp b id c:=h.kp (Kp.grow (T:=fun _=>False) hC) (by simp)
theorem xU (h:CoC j f m mp b id c):∃m',rT 51 [.ptr b.r 0] m (ii c.st) m'/\m'=m:=by
 refine WF.ex1 fun K hK=> ?_
 refine WF.of_wpG (fun _=>rfl) sR (L:= [(.e,.ptr b.r 0)]) rfl ?_
 unfold Eu
 have g:=h.g.g
 rw[an]
 simp (config:={maxSteps:=1000000}) (disch:=first|assumption|omega|(apply ah;omega)|(apply aa;assumption)|(simp only[aJ]<;>omega)) only[go_sem,seval,g,HH]
 exact hK _ rfl
def II (m m':NH) (v:NV) (l:List Ev):Prop:=Sl m' v 4 (n5 l)/\Chg [] m m'/\∀i∈ids v,¬aN m i
theorem iE (h:CoC j f m mp b id c) (k a v:Int):∃w m',rT 46 [.ptr b.r 0,ii k,ii a,iu v] m w m'/\II m m' w [⟨k,id,a,v⟩]:=by
 refine WF.ex fun K hK=> ?_
 refine WF.of_wpG (fun _=>rfl) rL (L:= [(.c .e,iu v),(.b .e,ii a),(.a .e,ii k),(.e,.ptr b.r 0)]) rfl ?_
 unfold BY
 have g:=h.g.g
 simp (config:={maxSteps:=1000000}) (disch:=first|assumption|omega|(apply ah;omega)|(apply aa;assumption)|(simp only[aJ]<;>omega)) only[go_sem,seval,g,I4]
 refine hK _ _ ⟨⟨by simp,Or.inr ⟨na m 0,0,1,true,_,rfl,kW,ah (by omega),by simp,by simp⟩⟩,ef rfl,fun i hi=> ?_⟩
 rw[one hi];exact aG
theorem qI (h:CoC j f m mp b id c) (hpc:c.pc<100000) (v:NV) (hv:cellsOf v=some [v]):∃m',rT 72 [.ptr b.r 0,v] m (.tup [v,.bool true]) m'/\CoC j f m' mp b id ⟨c.pc+1,c.st,c.X,c.w⟩/\Kp (Tc j) f m f m':=by
 refine WF.ex1 fun K hK=> ?_
 refine WF.of_wpG (fun _=>rfl) sh (L:= [(.a .e,v),(.e,.ptr b.r 0)]) rfl ?_
 unfold Dp
 have g:=h.g.g
 have o:=h.g.o
 have hx:=h.x
 have hl:(bS mp id c.pc c.st c.X b.w b.q).length=554:=gK hx
 simp (config:={maxSteps:=1000000}) (disch:=first|assumption|omega|(apply ah;omega)|(apply aa;assumption)|(simp only[aJ]<;>omega)) only[go_sem,seval,g,Hl,hl,AU]
 generalize hM:hp _ 0 m=M
 exact hK _ (h.put (pc:=c.pc+1) hx (by push_cast;exact hM))
theorem zB (h:CoC j f m mp b id c):∃v m',rT 38 [.ptr b.r 0] m v m'/\∃w,v= .tup [w,.bool true]/\Sl m' w 4 (n5 [⟨11,id,0,0⟩])/\(∀i∈ids w,¬aN m i)/\CoC j f m' mp b id ⟨c.pc,2,c.X,c.w⟩/\Kp (Tc j) f m f m':=by
 refine WF.ex fun K hK=> ?_
 refine WF.of_wpG (fun _=>rfl) sw (L:= [(.e,.ptr b.r 0)]) rfl ?_
 unfold BW
 have g:=h.g.g
 have o:=h.g.o
 have hx:=h.x
 have hl:(bS mp id c.pc c.st c.X b.w b.q).length=554:=gK hx
 generalize hM:hp [(.o b.r,.cells true (bS mp id c.pc 2 c.X b.w b.q))] 0 m=M
 obtain ⟨h1,k1⟩:=h.put (pc:=c.pc) (st:=2) hx hM
 obtain ⟨w,m',r2,e1,e2,e3⟩:=iE h1 11 0 0
 simp (config:={maxSteps:=1000000}) (disch:=first|assumption|omega|(apply ah;omega)|(apply aa;assumption)|(simp only[aJ]<;>omega)) only[go_sem,seval,g,Hl,hl,AM,hM,r2.wf]
 rw[an]
 exact hK _ _ ⟨w,rfl,e1,fun i hi ho=>e3 i hi (k1.old ho),h1.kpN e2,k1.trans (Kp.grow e2)⟩
theorem xe (h:CoC j f m mp b id c) (line:Int):∃m',rT 35 [.ptr b.r 0,ii line] m (.tup []) m'/\CoC j f m' mp b id c/\Kp (Tc j) f m f m':=by
 refine WF.ex1 fun K hK=> ?_
 refine WF.of_wpG (fun _=>rfl) s0 (L:= [(.a .e,ii line),(.e,.ptr b.r 0)]) rfl ?_
 unfold Ea
 generalize hM:hp [(.n 0,.cells true [ii line])] 1 m=M
 have hC:Chg [] m M:=aQ hM rfl
 have gl:M.get (na m 0)=some (.cells true [ii line]):=ba hM
 have ol:aN M (na m 0):=bn hM (by omega)
 have h1:=h.kpN hC
 obtain ⟨v,M2,r2,⟨r,rfl⟩,hC2⟩:=BO h1 (fn:=60) (cap:= [.ptr (na m 0) 0]) (fun N y hy hN=>by
  obtain ⟨v,M',a1,⟨r,rfl⟩,a3⟩:=tP (m:=N) ((hN.get ol (by simp)).trans gl) y (hN.old ol) (by have:=h.wa y hy;omega)
  exact ⟨r,M',a1,a3⟩)
 have h2:=h1.kpN hC2
 have g:=h2.g.g
 have gq:=h2.q.g
 have oq:=h2.q.o
 have gl2:=(hC2.get ol (by simp)).trans gl
 have ol2:=hC2.old ol
 have hx:=h.x
 have k2:Kp (Tc j) f m f M2:=Kp.grow (hC.trans hC2 (by simp))
 cases r with
 |true=>
  simp (config:={maxSteps:=1000000}) (disch:=first|assumption|omega|(apply ah;omega)|(apply aa;assumption)|(simp only[aJ]<;>omega)) only[go_sem,seval,hM,r2.wf]
  rw[an]
  exact hK _ ⟨h2,k2⟩
 |false=>
  simp (config:={maxSteps:=1000000}) (disch:=first|assumption|omega|(apply ah;omega)|(apply aa;assumption)|(simp only[aJ]<;>omega)) only[go_sem,seval,hM,r2.wf,g,Hv,gl2,GT,FW,gq,zE]
  generalize hM3:hp _ 0 M2=M3
  have hC3:Chg [b.q] M2 M3:=aQ hM3 rfl
  have k3:Kp (fun a=>a=11+3*j) f M2 f M3:=Kp.same hC3 fun i hi _=>by rw[one hi];exact h2.q.c
  refine hK _ ⟨⟨h2.g.kp k3 (by omega),⟨?_,hC3.old oq,h2.q.c⟩,h2.w.kp k3 (by omega),h2.x,h2.wa,h2.wl,h2.kc⟩,k2.trans (k3.weak fun a ha=>Or.inr (Or.inl ha))⟩
  rw[←hM3];exact (bf oq).trans aL
theorem rS (h:CoC j f m mp b id c):∃m',rT 30 [.ptr b.r 0] m (.bool (bX c)) m'/\Chg [] m m':=by
 refine WF.ex1 fun K hK=> ?_
 refine WF.of_wpG (fun _=>rfl) ry (L:= [(.e,.ptr b.r 0)]) rfl ?_
 unfold Ey
 obtain ⟨m1,r1,rfl⟩:=xU h
 obtain ⟨v,m2,r2,e1,e2⟩:=qC h
 have hlen:=e1.sl.len
 rw[List.length_map] at hlen
 rw[an]
 by_cases h1:c.st=1
 ·have e:bX c=decide ((c.w.length:Int)=0):=by unfold bX;rw[h1];simp
  simp (config:={maxSteps:=1000000}) (disch:=first|assumption|omega|(apply ah;omega)|(apply aa;assumption)|(simp only[aJ]<;>omega)) only[go_sem,seval,r1.wf',h1,r2.wf',hlen]
  rw[←e];exact hK _ e2
 ·have e:bX c=false:=by unfold bX;rw[I8 h1];rfl
  simp (config:={maxSteps:=1000000}) (disch:=first|assumption|omega|(apply ah;omega)|(apply aa;assumption)|(simp only[aJ]<;>omega)) only[go_sem,seval,r1.wf',h1]
  rw[e] at hK;exact hK _ (Chg.refl _)
end
def be:In->List NV
 | .movz d n=> [ii 0,ii (d:Nat),ii 0,ii 0,ii 0,ii 0,ii (n:Nat)]
 | .ldr d a=> [ii 12,ii (d:Nat),ii (a:Nat),ii 0,ii 0,ii 0,ii 0]
 | .str d a=> [ii 13,ii (d:Nat),ii (a:Nat),ii 0,ii 0,ii 0,ii 0]
 | .dmb=> [ii 18,ii 0,ii 0,ii 0,ii 0,ii 0,ii 0]
 | .hlt=> [ii 22,ii 0,ii 0,ii 0,ii 0,ii 0,ii 0]
 | .svc=> [ii 23,ii 0,ii 0,ii 0,ii 0,ii 0,ii 0]
theorem c8 (d n:Nat):be (.movz d n)= [ii 0,ii (d:Nat),ii 0,ii 0,ii 0,ii 0,ii (n:Nat)]:=rfl
theorem ic (i:In):(be i).length=7:=by cases i<;>rfl
theorem CN {a:Int} (h0:0<=a) (h1:a<18446744073709551616):cP .num .shl (iu a) (ii 0)=some (iu a):=by
 obtain ⟨n,rfl⟩:=Jd h0
 show zj .u64 (n:Int) (Int.ofNat 0)=_
 show bH .u64 (bm .u64 (mZ (n:Int) 1))=_
 rw[e9,Int.mul_one]
 show bH .u64 (bm .u64 (.ofNat n))=_
 rw[wrap_u64,aI,show Int.ofNat n % 18446744073709551616=n from Int.emod_eq_of_lt h0 h1]
section
variable {f f':fO} {m m' M:NH} {mp:D4} {j:Nat} {b:Cb} {id:Int} {c:Co} {sb q:D4} {v:NV} {X:List Int}
theorem jj (h:X.length=33):(X.map iu).length=33:=by rw[List.length_map,h]
theorem jW (h:X.length=33):(X.map iu).take 33=X.map iu:=List.take_of_length_le (by rw[List.length_map,h];omega)
theorem Hw {n:Nat} (h:X.length=33) (hn:n<33):(X.map iu)[n]? =some (iu (ew X n)):=by
 unfold ew
 rw[List.getElem?_map,List.getElem?_eq_getElem (by omega)];rfl
theorem kD (h:X.length=33) {n:Nat} (hn:n<31):∃m',rT 69 [.agg (X.map iu),ii (n:Nat)] m (iu (ew X n)) m'/\Chg [] m m':=by
 refine WF.ex1 fun K hK=> ?_
 refine WF.of_wpG (fun _=>rfl) sA (L:= [(.a .e,ii (n:Nat)),(.e,.agg (X.map iu))]) rfl ?_
 unfold BF
 have e:=Hw h (show n<33 by omega)
 have hix:wE 1 31 (.ptr (na m 0) 0) (ii (n:Nat))= .val (.ptr (na m 0) n):=by rw[AT (by omega) (by omega)];simp
 simp (config:={maxSteps:=1000000}) (disch:=first|assumption|omega|(apply ah;omega)|(apply aa;assumption)|(simp only[aJ]<;>omega)) only[go_sem,seval,z8,hix,e]
 exact hK _ (ef rfl)
theorem p6 (h:X.length=33) {n:Nat} (hn:n<31) (z:Int):∃m',rT 62 [.agg (X.map iu),ii (n:Nat),iu z] m (.agg ((X.set n z).map iu)) m'/\Chg [] m m':=by
 refine WF.ex1 fun K hK=> ?_
 refine WF.of_wpG (fun _=>rfl) sj (L:= [(.b .e,iu z),(.a .e,ii (n:Nat)),(.e,.agg (X.map iu))]) rfl ?_
 unfold CE
 have hix:wE 1 31 (.ptr (na m 0) 0) (ii (n:Nat))= .val (.ptr (na m 0) n):=by rw[AT (by omega) (by omega)];simp
 have h1:n<(X.map iu).length:=by rw[jj h];omega
 have h2:((X.map iu).set n (iu z)).length=33:=by rw[List.length_set,jj h]
 have h3:((X.map iu).set n (iu z)).take 33=(X.map iu).set n (iu z):=List.take_of_length_le (by omega)
 have h4:(X.set n z).map iu=(X.map iu).set n (iu z):=by rw[List.map_set]
 rw[h4] at hK
 simp (config:={maxSteps:=1000000}) (disch:=first|assumption|omega|(apply ah;omega)|(apply aa;assumption)|(simp only[aJ]<;>omega)) only[go_sem,seval,z8,hix,h1,h2,h3]
 exact hK _ (ef rfl)
def y6 (i:In):Prop:=match i with
 | .movz d n=>d<31/\n<65536
 | .ldr d a=>d<31/\a<31
 | .str d a=>d<31/\a<31
 |_=>True
theorem y9 (h:X.length=33) {n:Nat}:∃m',rT 68 [.agg (X.map iu),.agg (be (.movz d n))] m (.bool false) m'/\Chg [] m m':=by
 refine WF.ex1 fun K hK=> ?_
 refine WF.of_wpG (fun _=>rfl) sS (L:= [(.a .e,.agg (be (.movz d n))),(.e,.agg (X.map iu))]) rfl ?_
 unfold EF
 simp (config:={maxSteps:=1000000}) (disch:=first|assumption|omega|(apply ah;omega)|(apply aa;assumption)|(simp only[aJ]<;>omega)) only[go_sem,seval,c8]
 exact hK _ (ef rfl)
theorem wI (h:X.length=33) {n:Nat} (hn:n<65536):∃m',rT 70 [.agg (X.map iu),.agg (be (.movz d n))] m (iu (n:Nat)) m'/\Chg [] m m':=by
 refine WF.ex1 fun K hK=> ?_
 refine WF.of_wpG (fun _=>rfl) sI (L:= [(.a .e,.agg (be (.movz d n))),(.e,.agg (X.map iu))]) rfl ?_
 unfold DD
 generalize hM:hp [(.n 1,.cells true (be (.movz d n))),(.n 0,.cells true (X.map iu))] 2 m=M
 have hM':=hM
 rw[c8] at hM'
 have hC:Chg [] m M:=aQ hM rfl
 have g0:M.get (na m 0)=some (.cells true (X.map iu)):=ba hM
 have g1:M.get (na m 1)=some (.cells true (be (.movz d n))):=ba hM
 have o0:aN M (na m 0):=bn hM (by omega)
 have o1:aN M (na m 1):=bn hM (by omega)
 obtain ⟨m1,r1,hC1⟩:=kD (m:=M) h (n:=0) (by omega)
 obtain ⟨m2,r2,hC2⟩:=kD (m:=m1) h (n:=0) (by omega)
 have hl:=jj h
 have ht:=jW h
 have f0:=(hC1.get o0 (by simp)).trans g0
 have f1:=(hC1.get o1 (by simp)).trans g1
 have e0:=(hC2.get (hC1.old o0) (by simp)).trans f0
 have e1:=(hC2.get (hC1.old o1) (by simp)).trans f1
 have hsh:=CN (a:=(n:Int)) (by omega) (by omega)
 rw[c8] at g1 f1 e1
 rw[show ((0:Nat):Int)=0 from rfl] at r1 r2
 have hs:bi 4 (.agg (X.map iu)) (.agg (X.map iu))=true:=d6 fun v hv=>by obtain ⟨z,-,rfl⟩:=List.mem_map.1 hv;trivial
 have hmul:cP .num .mul (ii 16) (ii 0)=some (ii 0):=vU (by omega) (by omega)
 have hmod:(n:Int) % 18446744073709551616=n:=by omega
 simp (config:={maxSteps:=1000000}) (disch:=first|assumption|omega|(apply ah;omega)|(apply aa;assumption)|(simp only[aJ]<;>omega)) only[go_sem,seval,hs,hmul,hmod,c8,hM',g0,g1,f0,f1,e0,e1,hl,ht,r1.wf',r2.wf',hsh]
 exact hK _ ((hC.trans hC1 (by simp)).trans hC2 (by simp))
structure Kept (w:Int) (i:In):Prop where
 d:S0 39 [iw w]=some (.tup [.agg (be i),ii 0])
 r:S0 67 [.agg (be i)]=some (.bool true)
theorem zC (h:X.length=33) {n:Nat} (hd:d<31) (hn:n<65536) (hr:S0 67 [.agg (be (.movz d n))]=some (.bool true)):
 ∃m',rT 40 [.agg (X.map iu),.agg (be (.movz d n))] m (.tup [.agg ((X.set d n).map iu),ii 1,.bool true]) m'/\Chg [] m m':=by
 refine WF.ex1 fun K hK=> ?_
 refine WF.of_wpG (fun _=>rfl) m9 (L:= [(.a .e,.agg (be (.movz d n))),(.e,.agg (X.map iu))]) rfl ?_
 unfold zD
 generalize hM:hp [(.n 2,.cells true (List.replicate 33 (iu 0))),(.n 1,.cells true (be (.movz d n))),(.n 0,.cells true (X.map iu))] 3 m=M
 have hM':=hM
 rw[c8] at hM'
 simp only[List.replicate_succ,List.replicate_zero] at hM'
 have hC:Chg [] m M:=aQ hM rfl
 have g0:M.get (na m 0)=some (.cells true (X.map iu)):=ba hM
 have g1:M.get (na m 1)=some (.cells true (be (.movz d n))):=ba hM
 have g2:M.get (na m 2)=some (.cells true (List.replicate 33 (iu 0))):=ba hM
 have o0:aN M (na m 0):=bn hM (by omega)
 have o1:aN M (na m 1):=bn hM (by omega)
 have o2:aN M (na m 2):=bn hM (by omega)
 have r0:∀m,rT 67 [.agg (be (.movz d n))] m (.bool true) m:=fun m=>lN.kept hr m
 obtain ⟨m1,r1,hC1⟩:=y9 (m:=M) h (d:=d) (n:=n)
 obtain ⟨m2,r2,hC2⟩:=wI (m:=m1) h (d:=d) hn
 obtain ⟨m3,r3,hC3⟩:=p6 (m:=m2) h (n:=d) hd (n:Int)
 have hl:=jj h
 have ht:=jW h
 have q0:=(hC1.get o0 (by simp)).trans g0
 have q1:=(hC1.get o1 (by simp)).trans g1
 have e0:=(hC2.get (hC1.old o0) (by simp)).trans q0
 have e1:=(hC2.get (hC1.old o1) (by simp)).trans q1
 have hC13:=(hC1.trans hC2 (by simp)).trans hC3 (by simp)
 have f0:=(hC13.get o0 (by simp)).trans g0
 have f1:=(hC13.get o1 (by simp)).trans g1
 have f2:=(hC13.get o2 (by simp)).trans g2
 have p2:=hC13.old o2
 rw[c8] at g1 q1 e1 f1 r0 r1 r2
 have hs:bi 4 (.agg (X.map iu)) (.agg (X.map iu))=true:=d6 fun v hv=>by obtain ⟨z,-,rfl⟩:=List.mem_map.1 hv;trivial
 have hl2:((X.set d (n:Int)).map iu).length=33:=by simp[h]
 have ht2:((X.set d (n:Int)).map iu).take 33=(X.set d (n:Int)).map iu:=List.take_of_length_le (by omega)
 have hrep:(List.replicate 33 (iu 0)).length=33:=List.length_replicate
 have hrd:(List.replicate 33 (iu 0)).drop 33= []:=by rw[List.drop_eq_nil_of_le (by rw[List.length_replicate];omega)]
 simp (config:={maxSteps:=1000000}) (disch:=first|assumption|omega|(apply ah;omega)|(apply aa;assumption)|(simp only[aJ]<;>omega)) only[go_sem,seval,hs,c8,hM',g0,g1,q0,q1,e0,e1,f0,f1,f2,hl,ht,(r0 _).wf',r1.wf',r2.wf',r3.wf,hl2,ht2,hrep,hrd]
 generalize hMe:hp _ 0 m3=Me
 have hCe:Chg [na m 2] m3 Me:=aQ hMe rfl
 exact hK _ (((hC.weak (T:= [na m 2]) (by simp)).trans hC13 (by simp)).trans hCe (fun i hi _=>hi) |>.weak fun i hi ho=>by rw[one hi] at ho;exact I5 ho aG)
theorem yr (h:X.length=33) {i:In} (hi:∀d n,i≠.movz d n) (hr:S0 67 [.agg (be i)]=some (.bool true)):
 ∃m',rT 40 [.agg (X.map iu),.agg (be i)] m (.tup [.agg (X.map iu),ii 0,.bool false]) m'/\Chg [] m m':=by
 obtain ⟨k,a1,a2,a3,a4,a5,a6,e,hk,hk'⟩:∃k a1 a2 a3 a4 a5 a6:Int,be i= [ii k,ii a1,ii a2,ii a3,ii a4,ii a5,ii a6]/\11<k/\k≠21:=by
  cases i with
  |movz d n=>exact I5 rfl (hi d n)
  |_=>exact ⟨_,_,_,_,_,_,_,rfl,by omega,by omega⟩
 rw[e] at hr ⊢
 have r0:∀m,rT 67 [.agg [ii k,ii a1,ii a2,ii a3,ii a4,ii a5,ii a6]] m (.bool true) m:=fun m=>lN.kept hr m
 refine WF.ex1 fun K hK=> ?_
 refine WF.of_wpG (fun _=>rfl) m9 (L:= [(.a .e,.agg [ii k,ii a1,ii a2,ii a3,ii a4,ii a5,ii a6]),(.e,.agg (X.map iu))]) rfl ?_
 unfold zD
 have hl:=jj h
 have ht:=jW h
 generalize hM:hp [(.n 2,.cells true (List.replicate 33 (iu 0))),(.n 1,.cells true [ii k,ii a1,ii a2,ii a3,ii a4,ii a5,ii a6]),(.n 0,.cells true (X.map iu))] 3 m=M
 have hM':=hM
 simp only[List.replicate_succ,List.replicate_zero] at hM'
 have hC:Chg [] m M:=aQ hM rfl
 have g0:M.get (na m 0)=some (.cells true (X.map iu)):=ba hM
 have g1:M.get (na m 1)=some (.cells true [ii k,ii a1,ii a2,ii a3,ii a4,ii a5,ii a6]):=ba hM
 have g2:M.get (na m 2)=some (.cells true (List.replicate 33 (iu 0))):=ba hM
 have o2:aN M (na m 2):=bn hM (by omega)
 have hrep:(List.replicate 33 (iu 0)).length=33:=List.length_replicate
 have hrd:(List.replicate 33 (iu 0)).drop 33= []:=by rw[List.drop_eq_nil_of_le (by rw[List.length_replicate];omega)]
 simp (config:={maxSteps:=1000000}) (disch:=first|assumption|omega|(apply ah;omega)|(apply aa;assumption)|(simp only[aJ]<;>omega)) only[go_sem,seval,hM',g0,g1,g2,hl,ht,(r0 _).wf,hrep,hrd]
 generalize hMe:hp _ 0 M=Me
 have hCe:Chg [na m 2] M Me:=aQ hMe rfl
 exact hK _ ((hC.weak (T:= [na m 2]) (by simp)).trans hCe (fun i hi _=>hi) |>.weak fun i hi ho=>by rw[one hi] at ho;exact I5 ho aG)
end
noncomputable def AN (n:Nat) (m:NH) (d s:NV):NR:=eu n m s fun k l=>match d with
 | .nils=> .val (ii 0)
 | .slc id off len e _=>cond (Nat.beq e n) ((fun k=>Nat.rec (motive:=fun _=>NR) (.val (ii 0)) (fun _ _=>aC (dY (Nat.mul k n) l) fun l=>storeAt m id off l fun h=> .mem (ii (k:Nat)) h) k) (Bool.rec len k (Nat.ble k len))) .fail
 |_=> .fail
theorem rh {n:Nat} {x y:NOpd}:ae (.copy n x y) t m=oN (ρ t x) fun d=>oN (ρ t y) fun s=>AN n m d s:=by
 show wV t x _=_
 rw[bt]
 congr 1
 funext d
 rw[bt]
 congr 1
theorem mg  {id:D4} {cs:List NV} {K:NH->NR} (hg:m.get id=some (.cells true c)) (hl:off+cs.length<=c.length):storeAt m id off cs K=K (m.put id (.cells true (c.take off++cs++c.drop (off+cs.length)))):=by
 unfold storeAt cE
 rw[hg]
 show aC (bW cs off c) (fun c=>m.set id (.cells true c) K)=_
 rw[cY,I7 hl]
 exact NH.set_eq m id _ K
theorem pH  {F W:List NV} {a n:Nat} (hle:off+n<=c.length) (hf:(c.drop off).take n=F) (ha:a+W.length<=n):
 (c.take (off+a)++W++c.drop (off+a+W.length)).length=c.length/\((c.take (off+a)++W++c.drop (off+a+W.length)).drop off).take n=F.take a++W++F.drop (a+W.length):=by
 constructor
 ·simp only[List.length_append,List.length_take,List.length_drop];omega
 ·subst hf
  have e1:c.take (off+a)=c.take off++(c.drop off).take a:=by rw[List.take_add]
  have l1:(c.take off).length=off:=by rw[List.length_take];omega
  have e2:(c.take (off+a)++W++c.drop (off+a+W.length)).drop off=(c.drop off).take a++W++c.drop (off+a+W.length):=by
   rw[e1,List.append_assoc,List.append_assoc]
   have:=List.drop_left (l₁:=c.take off) (l₂:=(c.drop off).take a++(W++c.drop (off+a+W.length)))
   rw[l1] at this
   rw[this,List.append_assoc]
  have hX:((c.drop off).take a++W).length=a+W.length:=by simp only[List.length_append,List.length_take,List.length_drop];omega
  rw[e2,List.take_append,hX,List.take_of_length_le (by omega),List.take_take,Nat.min_eq_left (by omega),List.drop_take,List.drop_drop]
  rw[show off+(a+W.length)=off+a+W.length by omega]
theorem bG.copy  {B:NH} {id:D4} {n kc kc' a k:Nat} {x:NV} {D:List (List NV)} (h:bG B m (.slc id off n 1 kc) 1 C) (hx:Sl m x 1 D) (hk:0<k) (hak:a+k<=n) (hkD:k<=D.length):
 ∃m',AN 1 m (.slc id (off+a*1) k 1 kc') x= .mem (ii (k:Nat)) m'/\bG B m' (.slc id off n 1 kc) 1 (C.take a++D.take k++C.drop (a+k))/\Chg [id] m m':=by
 obtain ⟨h0,⟨q,-⟩|⟨id',off',kc2,c,e,hb,h1,h2,h3,h3',h4⟩⟩:=h
 ·cases q
 injection e with e1 e2 e3 e4 e5
 subst e1 e2 e3 e5
 have fD:=cQ hx.1
 have fC:=cQ h0
 rw[Nat.mul_one] at fD fC h3 h4
 have hW:(D.flatten.take k).length=k:=by rw[List.length_take,fD];omega
 obtain ⟨o1,o2⟩:=pH (a:=a) (W:=D.flatten.take k) h3 h4 (by rw[hW];exact hak)
 rw[hW] at o1 o2
 have e:AN 1 m (.slc id (off+a*1) k 1 kc') x= .mem (ii (k:Nat)) (m.put id (.cells true (c.take (off+a)++D.flatten.take k++c.drop (off+a+k)))):=by
  unfold AN
  rw[eA hx]
  show Nat.rec (motive:=fun _=>NR) (.val (ii 0)) (fun _ _=>aC (dY (Nat.mul (Bool.rec k D.length (Nat.ble D.length k)) 1) D.flatten) fun l=>storeAt m id (off+a*1) l fun h=> .mem (ii ((Bool.rec k D.length (Nat.ble D.length k):Nat):Nat)) h) (Bool.rec k D.length (Nat.ble D.length k):Nat)=_
  have hm:(Bool.rec k D.length (Nat.ble D.length k):Nat)=k:=by
   cases hb:Nat.ble D.length k with
   |false=>rfl
   |true=>have:=Nat.le_of_ble_eq_true hb;show D.length=k;omega
  rw[hm]
  obtain ⟨k,rfl⟩:∃i,k=i+1:=⟨k - 1,by omega⟩
  show aC (dY (Nat.mul (k+1) 1) D.flatten) _=_
  rw[show Nat.mul (k+1) 1=k+1 from Nat.mul_one _,eN,I7 (by omega)]
  show storeAt m id (off+a*1) (D.flatten.take (k+1)) _=_
  rw[mg h1 (by rw[hW];omega),Nat.mul_one,hW]
 refine ⟨_,e,⟨?_,Or.inr ⟨id,off,kc,_, ?_,hb,NH.get_put_same m id _,h2, ?_, ?_, ?_⟩⟩,Chg.put m id _⟩
 ·intro y hy
  rcases List.mem_append.1 hy with hy|hy
  ·rcases List.mem_append.1 hy with hy|hy
   ·exact h0 y (List.mem_of_mem_take hy)
   ·exact hx.1 y (List.mem_of_mem_take hy)
  ·exact h0 y (List.mem_of_mem_drop hy)
 ·congr 1
  simp only[List.length_append,List.length_take,List.length_drop];omega
 ·simp only[List.length_append,List.length_take,List.length_drop,Nat.mul_one]
  simp only[List.length_append,List.length_take,List.length_drop] at o1
  omega
 ·rw[o1];exact h3'
 ·have el:(C.take a++D.take k++C.drop (a+k)).length=C.length:=by simp only[List.length_append,List.length_take,List.length_drop];omega
  have f1:∀(L:List (List NV)) (_:∀x∈L,x.length=1) (i:Nat),(L.take i).flatten=L.flatten.take i:=by
   intro L
   induction L with
   |nil=>intro _ i;simp
   |cons y L ih=>
    intro hL i
    have hy:=hL y (by simp)
    cases i with
    |zero=>simp
    |succ i=>
     match y,hy with
     | [z],_=>simp only[List.take_succ_cons,List.flatten_cons,List.singleton_append];rw[ih fun x hx=>hL x (List.mem_cons_of_mem _ hx)]
  have f2:∀(L:List (List NV)) (_:∀x∈L,x.length=1) (i:Nat),(L.drop i).flatten=L.flatten.drop i:=by
   intro L
   induction L with
   |nil=>intro _ i;simp
   |cons y L ih=>
    intro hL i
    have hy:=hL y (by simp)
    cases i with
    |zero=>simp
    |succ i=>
     match y,hy with
     | [z],_=>simp only[List.drop_succ_cons,List.flatten_cons,List.singleton_append];rw[ih fun x hx=>hL x (List.mem_cons_of_mem _ hx)]
  rw[el,Nat.mul_one,List.flatten_append,List.flatten_append,f1 _ h0,f1 _ hx.1,f2 _ h0]
  exact o2
section
variable {f f':fO} {m m' M:NH} {mb:Mb} {N:Nat} {now kept ver:List Int}
theorem MeC.kpN (h:MeC f m mb now kept ver N) (hC:Chg [] m m'):MeC f m' mb now kept ver N:=h.kp (Kp.grow (T:=fun _=>False) hC) (by simp)
def cg (a:Nat):Int:=4096+8*(a:Int)
theorem rO (h:MeC f m mb now kept ver N) {a:Nat} (ha:a<now.length):∃m',rT 78 [.ptr mb.p 0,ii (cg a)] m (.tup [ii (a:Nat),.bool true]) m'/\m'=m:=by
 refine WF.ex1 fun K hK=> ?_
 refine WF.of_wpG (fun _=>rfl) rN (L:= [(.a .e,ii (cg a)),(.e,.ptr mb.p 0)]) rfl ?_
 unfold DT cg
 have hl:=h.l
 have g:=h.g.g
 have hlen:=h.n.o.sl.len
 rw[List.length_map] at hlen
 have e1:(4096+8*(a:Int)) - 4096=8*(a:Int):=by omega
 have hr:cP .num .rem (ii (8*(a:Int))) (ii 8)=some (ii 0):=by
  rw[v9 (by omega) (by omega) (by omega)];congr 3;omega
 have hq:cP .num .quo (ii (8*(a:Int))) (ii 8)=some (ii a):=by
  rw[pV (by omega) (by omega) (by omega)];congr 3;omega
 rw[an]
 simp (config:={maxSteps:=1000000}) (disch:=first|assumption|omega|(apply ah;omega)|(apply aa;assumption)|(simp only[aJ]<;>omega)) only[go_sem,seval,e1,hr,hq,g,hlen]
 exact hK _ rfl
theorem uG {l:List Int} (h:Sl m v 1 (lu l)) {i:Nat} (hi:i<l.length):∃id off w c,iA 1 v (ii (i:Nat))= .val (.ptr id off)/\m.get id=some (.cells w c)/\c[off]? =some (iu (ew l i)):=by
 obtain ⟨id,off,w,c,a1,a2,a3,a4,a5⟩:=h.at i (by simpa using hi)
 rw[List.getElem_map] at a5
 refine ⟨id,off,w,c,a1,a2, ?_⟩
 have:=gf a5 0 (by omega)
 rw[Nat.add_zero] at this
 rw[this];unfold ew;rw[List.getElem?_eq_getElem hi];rfl
theorem CS (h:MeC f m mb now kept ver N) {a:Nat} (ha:a<now.length):∃m',rT 108 [.ptr mb.p 0,ii (cg a)] m (.tup [iu (ew now a),.bool true]) m'/\m'=m:=by
 refine WF.ex1 fun K hK=> ?_
 refine WF.of_wpG (fun _=>rfl) nZ (L:= [(.a .e,ii (cg a)),(.e,.ptr mb.p 0)]) rfl ?_
 unfold we
 have g:=h.g.g
 obtain ⟨m1,r1,rfl⟩:=rO h ha
 obtain ⟨id,off,w,c,a1,a2,a3⟩:=uG h.n.o.sl ha
 rw[an]
 simp (config:={maxSteps:=1000000}) (disch:=first|assumption|omega|(apply ah;omega)|(apply aa;assumption)|(simp only[aJ]<;>omega)) only[go_sem,seval,r1.wf',g,a1,a2,a3]
 exact hK _ rfl
theorem rF {fv:Int->NV} {B:NH} {l:List Int} (h:bG B m v 1 (l.map fun z=> [fv z])) {n:Nat} (hn:n<l.length):∃id off c,iA 1 v (ii (n:Nat))= .val (.ptr id off)/\ids v= [id]/\m.get id=some (.cells true c)/\aN m id/\off+1<=c.length/\c[off]? =some (fv (ew l n))/\
 ∀(y:Int) (k:Nat) (M:NH),hp [(.o id,.cells true (c.set off (fv y)))] k m=M->bG B M v 1 ((l.set n y).map fun z=> [fv z])/\Chg [id] m M:=by
 obtain ⟨id,off,c,a1,a2,a3,a4,a5,a6,a7,a8⟩:=h.at n (by simpa using hn)
 rw[List.getElem_map] at a7 a8
 refine ⟨id,off,c,a1,a2,a4,a5,a6, ?_,fun y k M hM=> ?_⟩
 ·have:=gf a7 0 (by omega)
  rw[Nat.add_zero] at this
  rw[this];unfold ew;rw[List.getElem?_eq_getElem hn];rfl
 have hC:Chg [id] m M:=aQ hM rfl
 have ho:=a8 [(0,fv y)] M (by simp) (by rw[←hM];exact (bf a5).trans aL) (hC.old a5)
 have ho:bG B M v 1 ((l.map fun z=> [fv z]).set n [fv y]):=ho
 rw[←List.map_set (f:=fun z=> [fv z])] at ho
 exact ⟨ho,hC⟩
theorem yB (h:MeC f m mb now kept ver N) (hN:N<=100000) {a:Nat} (ha:a<now.length) (z:Int):∃m',rT 45 [.ptr mb.p 0,ii (cg a),iu z] m (.bool true) m'/\(∃ver',MeC f m' mb (now.set a z) kept ver' (N+1))/\Kp lD f m f m':=by
 refine WF.ex1 fun K hK=> ?_
 refine WF.of_wpG (fun _=>rfl) rQ (L:= [(.b .e,iu z),(.a .e,ii (cg a)),(.e,.ptr mb.p 0)]) rfl ?_
 unfold BT
 have g:=h.g.g
 have hl:=h.l
 obtain ⟨m1,r1,rfl⟩:=rO h ha
 obtain ⟨id,off,c,a1,a2,a3,a4,a5,a6,a7⟩:=rF (fv:=iu) h.n.o ha
 have cid:f id=2:=h.n.c id (by rw[a2];simp)
 generalize hM1:hp [(.o id,.cells true (c.set off (iu z)))] 0 m1=M1
 obtain ⟨p1,p2⟩:=a7 z 0 M1 hM1
 have k1:Kp (fun a=>a=2) f m1 f M1:=Kp.same p2 fun i hi _=>by rw[one hi];exact cid
 have h1g:=h.g.kp k1 (by omega)
 have h1k:=h.k.kp k1 (by omega)
 have h1v:=h.v.kp k1 (by omega)
 have g1:=h1g.g
 obtain ⟨id2,off2,c2,b1,b2,b3,b4,b5,b6,b7⟩:=rF (fv:=fun z=>ii z) h1v.o (n:=a) (by omega)
 have cid2:f id2=4:=h1v.c id2 (by rw[b2];simp)
 have hv:=h.b (ew ver a) (by unfold ew;rw[List.getElem?_eq_getElem (by omega)];exact List.getElem_mem _)
 rw[an]
 simp (config:={maxSteps:=1000000}) (disch:=first|assumption|omega|(apply ah;omega)|(apply aa;assumption)|(simp only[aJ]<;>omega)) only[go_sem,seval,r1.wf,g,a1,a3,hM1,g1,b1,b3,b6]
 rw[←an M1]
 simp (config:={maxSteps:=1000000}) (disch:=first|assumption|omega|(apply ah;omega)|(apply aa;assumption)|(simp only[aJ]<;>omega)) only[go_sem,seval,b3,b1]
 generalize hM2:hp _ 0 M1=M2
 obtain ⟨q1,q2⟩:=b7 (ew ver a+1) 0 M2 hM2
 have k2:Kp (fun a=>a=4) f M1 f M2:=Kp.same q2 fun i hi _=>by rw[one hi];exact cid2
 refine hK _ ⟨⟨ver.set a (ew ver a+1),h1g.kp k2 (by omega),⟨?_,h.n.c⟩,h1k.kp k2 (by omega),⟨q1,h.v.c⟩,by simp only[List.length_set];exact hl,fun y hy=> ?_⟩,(k1.weak fun a ha=> ?_).trans (k2.weak fun a ha=> ?_)⟩
 ·exact ((⟨p1,h.n.c⟩:OwC 2 f M1 mb.n 1 (lu (now.set a z))).kp k2 (by omega)).o
 ·rcases List.mem_or_eq_of_mem_set hy with hy|rfl
  ·have:=h.b y hy;omega
  ·omega
 ·unfold lD;omega
 ·unfold lD;omega
theorem CM (h:MeC f m mb now kept ver N) (n:Int):∃m',rT 34 [.ptr mb.p 0,ii n] m (.bool (decide (0<=n/\n*8<now.length))) m'/\MeC f m' mb now (if 0<=n/\n*8<now.length then js n.toNat now kept else kept) ver N/\Kp (fun a=>a=3) f m f m':=by
 refine WF.ex1 fun K hK=> ?_
 refine WF.of_wpG (fun _=>rfl) se (L:= [(.a .e,ii n),(.e,.ptr mb.p 0)]) rfl ?_
 unfold BP
 have g:=h.g.g
 have hl:=h.l
 have hlen:=h.n.o.sl.len
 rw[List.length_map] at hlen
 have hlenk:=h.k.o.sl.len
 rw[List.length_map] at hlenk
 have hq:cP .num .quo (ii (now.length:Nat)) (ii 8)=some (ii ((now.length:Nat) / 8)):=pV (by omega) (by omega) (by omega)
 by_cases h0:n<0
 ·rw[I8 (by omega),I6 (by omega)] at hK
  rw[an]
  simp (config:={maxSteps:=1000000}) (disch:=first|assumption|omega|(apply ah;omega)|(apply aa;assumption)|(simp only[aJ]<;>omega)) only[go_sem,seval,g,hlen,hq]
  exact hK _ ⟨h,Kp.refl⟩
 by_cases h1:((now.length:Nat):Int) / 8<n
 ·rw[I8 (by omega),I6 (by omega)] at hK
  rw[an]
  simp (config:={maxSteps:=1000000}) (disch:=first|assumption|omega|(apply ah;omega)|(apply aa;assumption)|(simp only[aJ]<;>omega)) only[go_sem,seval,g,hlen,hq]
  exact hK _ ⟨h,Kp.refl⟩
 have hmul:cP .num .mul (ii n) (ii 8)=some (ii (n*8)):=vU (by omega) (by omega)
 by_cases h2:(now.length:Int)<=n*8
 ·rw[I8 (by omega),I6 (by omega)] at hK
  rw[an]
  simp (config:={maxSteps:=1000000}) (disch:=first|assumption|omega|(apply ah;omega)|(apply aa;assumption)|(simp only[aJ]<;>omega)) only[go_sem,seval,g,hlen,hq,hmul]
  exact hK _ ⟨h,Kp.refl⟩
 rw[I9 (show 0<=n/\n*8<now.length by omega),I7 (show 0<=n/\n*8<now.length by omega)] at hK
 obtain ⟨i,rfl⟩:=Jd (show 0<=n by omega)
 have hk0:=h.k.o
 obtain ⟨w0,⟨e,e'⟩|⟨idk,offk,kck,ck,ek,-⟩⟩:=id hk0
 ·have:=congrArg List.length e';rw[List.length_map,List.length_nil] at this;omega
 rw[List.length_map] at ek
 obtain ⟨w1,⟨e,e'⟩|⟨idn,offn,kcn,cn,en,-⟩⟩:=id h.n.o
 ·have:=congrArg List.length e';rw[List.length_map,List.length_nil] at this;omega
 rw[List.length_map] at en
 rw[ek] at hk0
 obtain ⟨L,hL⟩:∃L,now.length=L:=⟨_,rfl⟩
 have hLk:kept.length=L:=by omega
 have ea:((i:Int)*8).toNat=i*8:=by omega
 have eb:(min ((i:Int)*8+8) (L:Nat)).toNat=i*8+min 8 (L - i*8):=by omega
 have ec:i*8+min 8 (L - i*8) - i*8=min 8 (L - i*8):=by omega
 rw[hL] at hlen hq en
 rw[hLk] at hlenk ek hk0
 have hnn:Sl m (.slc idn (offn+i*8*1) (L - i*8) 1 (kcn - i*8)) 1 (lu (now.drop (i*8))):=by
  obtain ⟨v',q1,q2,-⟩:=h.n.o.sl.ssl (t:= .leaf) (lo:=some (.const (ii (i*8:Nat)))) (hi:=none) (a:=i*8) (b:=L) (by omega) (by rw[List.length_map];omega) (fun K=>rfl) (fun d K hd=>by rw[hd,List.length_map,hL];rfl)
  rw[en,qv] at q1
  change pO 1 idn offn L 1 kcn (i*8) L=_ at q1
  rw[wK (by omega) (Nat.le_refl _)] at q1
  cases q1
  rw[List.take_of_length_le (by rw[List.length_drop,List.length_map];omega),←List.map_drop] at q2
  exact q2
 obtain ⟨M,c1,c2,c3⟩:=bG.copy (kc':=kck - i*8) hk0 hnn (a:=i*8) (k:=min 8 (L - i*8)) (by omega) (by omega) (by rw[List.length_map,List.length_drop];omega)
 rw[ek,en] at g
 have idk3:f idk=3:=h.k.c idk (by rw[ek];simp[ids])
 have hkp:Kp (fun a=>a=3) f m f M:=Kp.same c3 fun x hx _=>by rw[one hx];exact idk3
 have eln:js i now kept=kept.take (i*8)++(now.drop (i*8)).take (min 8 (L - i*8))++kept.drop (i*8+min 8 (L - i*8)):=by
  unfold js
  rw[show 8*i=i*8 by omega]
  congr 1
  ·congr 1
   rcases Nat.le_total 8 (L - i*8) with q|q
   ·rw[Nat.min_eq_left q]
   ·rw[Nat.min_eq_right q,List.take_of_length_le (by rw[List.length_drop];omega),List.take_of_length_le (by rw[List.length_drop];omega)]
  ·rcases Nat.le_total 8 (L - i*8) with q|q
   ·rw[Nat.min_eq_left q]
   ·rw[List.drop_eq_nil_of_le (by omega),List.drop_eq_nil_of_le (by omega)]
 rw[an]
 simp (config:={maxSteps:=1000000}) (disch:=first|assumption|omega|(apply ah;omega)|(apply aa;assumption)|(simp only[aJ]<;>omega)) only[go_sem,seval,g,hlen,hlenk,hq,hmul,ea,eb,ec,rh,c1]
 refine hK _ ⟨⟨h.g.kp hkp (by omega),h.n.kp hkp (by omega),⟨?_,h.k.c⟩,h.v.kp hkp (by omega), ?_,h.b⟩,hkp⟩
 ·rw[Int.toNat_natCast,eln,ek]
  simpa only[List.map_append,List.map_take,List.map_drop] using c2
 ·rw[Int.toNat_natCast,vJ i now kept (by omega) (by omega)];exact hl
theorem yJ (h:MeC f m mb now kept ver N):∃m',rT 36 [.ptr mb.p 0] m (.tup []) m'/\MeC f m' mb kept kept ver N/\Kp (fun a=>a=2) f m f m':=by
 refine WF.ex1 fun K hK=> ?_
 refine WF.of_wpG (fun _=>rfl) sv (L:= [(.e,.ptr mb.p 0)]) rfl ?_
 unfold BZ
 have hl:=h.l
 have g:=h.g.g
 have hvk:=h.k.o.sl.same (n:=3)
 have hvn:=h.n.o.sl.same (n:=3)
 have key:∃v M,AN 1 m mb.n mb.k= .mem v M/\MeC f M mb kept kept ver N/\Kp (fun a=>a=2) f m f M∨AN 1 m mb.n mb.k= .val v/\kept= []/\now= []:=by
  obtain ⟨w1,⟨e,e'⟩|⟨idn,offn,kcn,cn,en,-⟩⟩:=id h.n.o
  ·have h0:=congrArg List.length e'
   rw[List.length_map,List.length_nil] at h0
   have hk0:kept= []:=List.eq_nil_of_length_eq_zero (by omega)
   refine ⟨ii 0,m,Or.inr ⟨?_,hk0,List.eq_nil_of_length_eq_zero h0⟩⟩
   unfold AN
   rw[eA h.k.o.sl,e]
  ·rw[List.length_map] at en
   by_cases hz:now.length=0
   ·have hk0:kept= []:=List.eq_nil_of_length_eq_zero (by omega)
    refine ⟨ii 0,m,Or.inr ⟨?_,hk0,List.eq_nil_of_length_eq_zero hz⟩⟩
    unfold AN
    rw[eA h.k.o.sl,en,hz,hk0];rfl
   ·have hn0:=h.n.o
    rw[en] at hn0
    obtain ⟨M,c1,c2,c3⟩:=bG.copy (kc':=kcn) hn0 h.k.o.sl (a:=0) (k:=now.length) (by omega) (by omega) (by rw[List.length_map];omega)
    rw[Nat.zero_mul,Nat.add_zero,←en] at c1
    have hkp:Kp (fun a=>a=2) f m f M:=Kp.same c3 fun x hx _=>by rw[one hx];exact h.n.c idn (by rw[en];simp[ids])
    refine ⟨_,M,Or.inl ⟨c1,⟨h.g.kp hkp (by omega),⟨?_,h.n.c⟩,h.k.kp hkp (by omega),h.v.kp hkp (by omega),by omega,h.b⟩,hkp⟩⟩
    rw[en]
    rw[List.take_zero,List.nil_append,Nat.zero_add,List.drop_eq_nil_of_le (by rw[List.length_map];omega),List.append_nil,List.take_of_length_le (by rw[List.length_map];omega)] at c2
    exact c2
 obtain ⟨v,M,⟨c1,c2,c3⟩|⟨c1,rfl,rfl⟩⟩:=key
 ·rw[an]
  simp (config:={maxSteps:=1000000}) (disch:=first|assumption|omega|(apply ah;omega)|(apply aa;assumption)|(simp only[aJ]<;>omega)) only[go_sem,seval,g,rh,c1]
  exact hK _ ⟨c2,c3⟩
 ·rw[an]
  simp (config:={maxSteps:=1000000}) (disch:=first|assumption|omega|(apply ah;omega)|(apply aa;assumption)|(simp only[aJ]<;>omega)) only[go_sem,seval,g,rh,c1]
  exact hK _ ⟨h,Kp.refl⟩
end
noncomputable def yO (n:Nat) (id:D4) (off len e kc a b m:Nat):NR:=cond (Nat.ble a b) (cond (Nat.ble b m) (cond (Nat.ble m (Bool.rec kc len (Nat.ble kc len))) (cond (Nat.beq e n)
 (.val (.slc id (off+a*n) (b - a) n (m - a))) .fail) .fail) .fail) .fail
noncomputable def Gx (n:Nat) (v lo hi mx:NV):NR:=match v with
 | .slc id off len e kc=>aC (bN lo) fun a=>aC (bN hi) fun b=>aC (bN mx) fun m=>yO n id off len e kc a b m
 |_=> .fail
theorem Hm {n:Nat} {x lo hi mx:NOpd}:ae (.sliceMax n x lo hi mx) t m=oN (ρ t x) fun v=>oN (ρ t lo) fun a=>oN (ρ t hi) fun b=>oN (ρ t mx) fun c=>Gx n v a b c:=by
 show wV t x (fun v=>match v with
  | .slc id off len e kc=>cL t lo fun a=>cL t hi fun b=>cL t mx fun m=>cond (Nat.ble a b) (cond (Nat.ble b m) (cond (Nat.ble m (Bool.rec kc len (Nat.ble kc len))) (cond (Nat.beq e n)
   (ak (Nat.add off (Nat.mul a n)) fun o=>ak (Nat.sub m a) fun k=>ak (Nat.sub b a) fun m=> .val (.slc id o m n k)) .fail) .fail) .fail) .fail
  |_=> .fail)=_
 rw[bt]
 congr 1;funext v
 cases v with
 |slc id off len e kc=>
  dsimp only
  unfold cL
  rw[bt]
  cases ρ t lo with
  |none=>rfl
  |some a=>
   show aC (bN a) _=_
   simp only[bt]
   cases ρ t hi with
   |none=>show aC (bN a) (fun _=> .fail)= .fail;cases bN a<;>rfl
   |some b=>
    cases ρ t mx with
    |none=>show aC (bN a) (fun _=>aC (bN b) fun _=> .fail)= .fail;cases bN a<;>cases bN b<;>rfl
    |some c=>
     show aC (bN a) (fun a=>aC (bN b) fun b=>aC (bN c) fun c=>_)=aC (bN a) (fun a=>aC (bN b) fun b=>aC (bN c) fun c=>_)
     congr 1;funext a;congr 1;funext b;congr 1;funext c
     unfold yO
     congr 4
     rw[ab,ab,ab];rfl
 |_=>cases ρ t lo<;>first|rfl|(cases ρ t hi<;>first|rfl|(cases ρ t mx<;>rfl))
noncomputable def GK (z:List NV) (m:NH) (v:NV):NR:=match v with
 | .nils=> .val aA
 | .slc id off len _ _=>Nat.rec (.val aA) (fun _ _=>nh len z fun l=>storeAt m id off l fun h=> .mem aA h) len
 |_=> .fail
theorem Gw {z:List NV} {x:NOpd}:ae (.clearSlc z x) t m=oN (ρ t x) (GK z m):=by
 show wV t x _=_
 rw[bt]
 congr 1
theorem G1 {e bytes:Nat} {m':NH} {x v':NV} (h:pA e bytes m v x= .mem v' m'):vV v':=by
 have key:∀(k:Nat) (nw:List NV),cW e bytes m v k nw= .mem v' m'->vV v':=by
  intro k nw h
  cases v with
  |nils=>
   cases k with
   |zero=>cases h
   |succ k=>
    obtain ⟨-,h⟩:=ay (show cond (room (k+1) bytes) (m.new (.cells true nw) fun id h=>NR.mem (.slc id 0 (k+1) e (k+1)) h) .fail=_ from h) (by simp)
    rw[NH.new_eq] at h;cases h;exact Nat.le_refl _
  |slc id off len e' kc=>
   cases k with
   |zero=>
    obtain ⟨-,h⟩:=ay (show cond (Nat.beq e' e) (NR.val (.slc id off len e' kc)) .fail=_ from h) (by simp)
    cases h
   |succ k=>
    obtain ⟨-,h⟩:=ay (show cond (Nat.beq e' e) (cE m id fun c=>ak (Nat.add len (k+1)) fun n=>cond (Nat.ble n kc)
     (aC (bW nw (Nat.add off (Nat.mul len e)) c) fun c=>m.set id (.cells true c) fun h=>NR.mem (.slc id off n e kc) h)
     (aC (cV off c) fun c=>aC (dY (Nat.mul len e) c) fun old=>cond (room n bytes)
      (eX old nw fun l=>m.set id .dead fun h=>h.new (.cells true l) fun id h=>NR.mem (.slc id 0 n e n) h) .fail)) .fail=_ from h) (by simp)
    obtain ⟨c,-,h⟩:=cO h (by simp)
    rw[ab] at h
    cases hb:Nat.ble (Nat.add len (k+1)) kc with
    |true=>
     rw[hb] at h
     obtain ⟨c',-,h⟩:=ax h (by simp)
     rw[NH.set_eq] at h
     cases h
     exact Nat.le_of_ble_eq_true hb
    |false=>
     rw[hb] at h
     obtain ⟨c',-,h⟩:=ax h (by simp)
     obtain ⟨c'',-,h⟩:=ax h (by simp)
     obtain ⟨-,h⟩:=ay h (by simp)
     rw[di,NH.set_eq,NH.new_eq] at h
     cases h
     exact Nat.le_refl _
  |_=>cases h
 unfold pA at h
 cases x with
 |nils=>exact key 0 [] h
 |slc id off len esz kc=>
  obtain ⟨-,h⟩:=ay (show cond (Nat.beq esz e) (bh m id (fun c=>aC (dD c off (Nat.mul len e)) fun l=>cW e bytes m v len l)) .fail=_ from h) (by simp)
  unfold bh at h
  split at h
  ·obtain ⟨l,-,h⟩:=ax h (by simp)
   exact key _ _ h
  ·cases h
 |_=>cases h
section
variable {f f':fO} {m m' M:NH} {v:NV} {B:NH} {x:List NV}
theorem EC (h:bG B m v 3 [x]) (hkc:vV v):∃w m',rT 77 [v,ii 0,ii 1] m w m'/\bG B m' w 3 []/\vV w/\(∀i∈ids w,i∈ids v)/\Chg (ids v) m m':=by
 refine WF.ex fun K hK=> ?_
 refine WF.of_wpG (fun _=>rfl) rp (L:= [(.b .e,ii 1),(.a .e,ii 0),(.e,v)]) rfl ?_
 unfold DC
 obtain ⟨h0,⟨q,q'⟩|⟨id,off,kc,c,rfl,hb,h1,h2,h3,h3',h4⟩⟩:=h
 ·cases q'
 have hx3:x.length=3:=h0 x (by simp)
 simp only[List.length_singleton,Nat.one_mul] at h3 h4
 have hkc1:1<=kc:=hkc
 have hs1:Gx 3 (.slc id off 1 3 kc) (ii 0) (ii 1) (ii 1)= .val (.slc id (off+0*3) 1 3 1):=by
  show yO 3 id off 1 3 kc 0 1 1=_
  unfold yO
  have e:Nat.ble 1 (Bool.rec kc 1 (Nat.ble kc 1))=true:=by
   cases hk:Nat.ble kc 1 with
   |true=>rfl
   |false=>exact Nat.ble_eq_true_of_le hkc1
  rw[e];rfl
 rw[an]
 have hw0:Sl m (.slc id off 0 3 kc) 3 []:=⟨by simp,Or.inr ⟨id,off,kc,true,c,rfl,h1,h2,by simp;omega,by simp⟩⟩
 have hw1:Sl m (.slc id (off+3) 0 3 (kc - 1)) 3 []:=⟨by simp,Or.inr ⟨id,off+3,kc - 1,true,c,rfl,h1,h2,by simp;omega,by simp⟩⟩
 have hap:=hw0.appNil (bytes:=24) hw1
 have hss:pO 3 id off 0 3 kc 0 1= .val (.slc id off 1 3 kc):=by
  unfold pO
  have e:Nat.ble 1 (Bool.rec kc 0 (Nat.ble kc 0))=true:=by
   cases hk:Nat.ble kc 0 with
   |true=>have:=Nat.le_of_ble_eq_true hk;omega
   |false=>exact Nat.ble_eq_true_of_le hkc1
  rw[e]
  show NR.val (.slc id (off+0*3) 1 3 kc)=_
  rw[Nat.zero_mul,Nat.add_zero]
 have hcl:GK [ii 0,iu 0,.bool false] m (.slc id off 1 3 kc)= .mem aA (m.put id (.cells true (c.take off++ [ii 0,iu 0,.bool false]++c.drop (off+3)))):=by
  show nh 1 [ii 0,iu 0,.bool false] (fun l=>storeAt m id off l fun h=> .mem aA h)=_
  rw[dI,pU,show (List.replicate 1 [ii 0,iu 0,.bool false]).flatten= [ii 0,iu 0,.bool false] by rfl,mg h1 (by simpa using h3)];rfl
 simp (config:={maxSteps:=1000000}) (disch:=first|assumption|omega|(apply ah;omega)|(apply aa;assumption)|(simp only[aJ]<;>omega)) only[go_sem,seval,Hm,hs1,hap,Nat.add_zero,hss,Gw,hcl]
 exact hK _ _ ⟨⟨by simp,Or.inr ⟨id,off,kc,_,rfl,hb,NH.get_put_same m id _,h2,by simp only[List.length_append,List.length_take,List.length_drop];simp;omega,by simp only[List.length_append,List.length_take,List.length_drop];simp;omega,by simp⟩⟩,Nat.zero_le _,fun i hi=>by simpa [ids] using hi,by simpa [ids] using Chg.put m id _⟩
section
variable {mp:D4} {j:Nat} {b:Cb} {id:Int} {c:Co}
theorem GJ (h:CoC j f m mp b id c) (y:Wr) (hy:y.a<64) (hl:c.w.length<1000):∃m',rT 131 [.ptr b.r 549,.agg [ii (cg y.a),iu y.v,.bool false]] m (.tup []) m'/\
 ∃f' w,CoC j f' m' mp ⟨b.r,b.q,w⟩ id ⟨c.pc,c.st,c.X,c.w++ [y]⟩/\Kp (Tc j) f m f' m':=by
 refine WF.ex1 fun K hK=> ?_
 refine WF.of_wpG (fun _=>rfl) pe (L:= [(.a .e,.agg [ii (cg y.a),iu y.v,.bool false]),(.e,.ptr b.r 549)]) rfl ?_
 unfold xm
 have g:=h.g.g
 have o:=h.g.o
 have hx:=h.x
 generalize hM:hp [(.n 1,.cells true [ii (cg y.a),iu y.v,.bool false]),(.n 0,.cells true [ii (cg y.a),iu y.v,.bool false])] 2 m=M
 have hC:Chg [] m M:=aQ hM rfl
 have h1:=h.kpN hC
 have g1:M.get (na m 1)=some (.cells true [ii (cg y.a),iu y.v,.bool false]):=ba hM
 have o1:aN M (na m 1):=bn hM (by omega)
 obtain ⟨w,M2,p1,p2,p3,p4⟩:=h1.w.o.app2 (bytes:=24) (kc:=1) g1 o1 rfl n0 (by rw[List.length_map];omega) (by rw[List.length_map];omega)
 have pk:=G1 p1
 rw[←an M2] at p1
 have cw:∀i∈ids b.w,f i=12+3*j:=h1.w.c
 have k1:Kp (fun a=>a=12+3*j) f M (aF f M (12+3*j)) M2:=Kp.of p3 (fun i hi _=>cw i hi) _
 have hg2:=h1.g.kp k1 (by omega)
 have hq2:=h1.q.kp k1 (by omega)
 have g2:=hg2.g
 have o2:=hg2.o
 have hl2:(bS mp id c.pc c.st c.X b.w b.q).length=554:=gK hx
 have hws:=p2.sl.one
 simp (config:={maxSteps:=1000000}) (disch:=first|assumption|omega|(apply ah;omega)|(apply aa;assumption)|(simp only[aJ]<;>omega)) only[go_sem,seval,hM,g,rW,p1,g2,o2,hl2,rJ,hws]
 generalize hM3:hp _ 0 M2=M3
 have hC3:Chg [b.r] M2 M3:=aQ hM3 rfl
 have k3:Kp (fun a=>a=10+3*j) (aF f M (12+3*j)) M2 (aF f M (12+3*j)) M3:=Kp.same hC3 fun i hi _=>by rw[one hi];exact hg2.c
 have nr:∀i∈ids w,aF f M (12+3*j) i=12+3*j:=fun i hi=>by
  unfold aF
  split
  ·rename_i ho
   rcases p4 i hi with q|q
   ·exact cw i q
   ·exact I5 ho q
  ·rfl
 have hw3:OwC (12+3*j) (aF f M (12+3*j)) M3 w 3 (pw (c.w++ [y])):=(⟨by rw[show pw (c.w++ [y])=pw c.w++ [[ii (cg y.a),iu y.v,.bool false]] by simp[cg]];exact p2,nr⟩:OwC (12+3*j) (aF f M (12+3*j)) M2 w 3 (pw (c.w++ [y]))).kp k3 (by omega)
 refine hK _ ⟨aF f M (12+3*j),w,⟨⟨?_,hC3.old o2,hg2.c⟩,hq2.kp k3 (by omega),hw3,hx,fun z hz=> ?_,by simp;omega,pk⟩,(Kp.grow hC).trans ((k1.weak fun a ha=> ?_).trans (k3.weak fun a ha=> ?_))⟩
 ·rw[←hM3];exact (bf o2).trans aL
 ·rcases List.mem_append.1 hz with hz|hz
  ·exact h.wa z hz
  ·rw[List.mem_singleton] at hz;subst hz;exact hy
 ·exact Or.inr (Or.inr ha)
 ·exact Or.inl ha
theorem Gh (h:CoC j f m mp b id c) {y:Wr} (hw:c.w= [y]):∃m',rT 44 [.ptr b.r 549,ii 0] m (.tup [.agg [ii (cg y.a),iu y.v,.bool false],.bool true]) m'/\
 ∃w,CoC j f m' mp ⟨b.r,b.q,w⟩ id ⟨c.pc,c.st,c.X, []⟩/\Kp (Tc j) f m f m':=by
 refine WF.ex1 fun K hK=> ?_
 refine WF.of_wpG (fun _=>rfl) rH (L:= [(.a .e,ii 0),(.e,.ptr b.r 549)]) rfl ?_
 unfold BX
 have g:=h.g.g
 have o:=h.g.o
 have hx:=h.x
 have hww:=h.w.o
 rw[hw] at hww
 change bG E0 m b.w 3 [[ii (cg y.a),iu y.v,.bool false]] at hww
 have hlen:=hww.sl.len
 obtain ⟨i,off,wr,cs,a1,a2,a3,a4,a5⟩:=hww.sl.at 0 (by simp)
 have a1':iA 3 b.w (ii 0)= .val (.ptr i off):=a1
 have a5':(cs.drop off).take 3= [ii (cg y.a),iu y.v,.bool false]:=a5
 generalize hM:hp [(.n 2,.cells true [ii (cg y.a),iu y.v,.bool false]),(.n 2,.cells true [ii 0,iu 0,.bool false]),(.n 1,.cells true [ii 0,iu 0,.bool false]),(.n 0,.cells true [ii 0,iu 0,.bool false])] 3 m=M
 have hC:Chg [] m M:=aQ hM rfl
 have h1:=h.kpN hC
 have hw1:=hww.chg hC (by simp)
 have gr0:M.get (na m 0)=some (.cells true [ii 0,iu 0,.bool false]):=ba hM
 have gr2:M.get (na m 2)=some (.cells true [ii (cg y.a),iu y.v,.bool false]):=ba hM
 have or0:aN M (na m 0):=bn hM (by omega)
 have or2:aN M (na m 2):=bn hM (by omega)
 obtain ⟨w,M2,r2,p2,p3,p4,p5⟩:=EC hw1 h.kc
 have cw:∀i∈ids b.w,f i=12+3*j:=h.w.c
 have k2:Kp (fun a=>a=12+3*j) f M f M2:=Kp.same p5 fun i hi _=>cw i hi
 have hg2:=h1.g.kp k2 (by omega)
 have hq2:=h1.q.kp k2 (by omega)
 have g1:=h1.g.g
 have g2:=hg2.g
 have o2:=hg2.o
 have hwo:∀i∈ids b.w,aN m i:=h.w.o.sl.old
 have nw0:na m 0∉ids b.w:=fun hi=>aG (hwo _ hi)
 have nw2:na m 2∉ids b.w:=fun hi=>aG (hwo _ hi)
 have gs0:=(p5.get or0 nw0).trans gr0
 have gs2:=(p5.get or2 nw2).trans gr2
 have os0:=p5.old or0
 have os2:=p5.old or2
 have hl2:(bS mp id c.pc c.st c.X b.w b.q).length=554:=gK hx
 have hws:=p2.sl.one
 have nr0:na m 0≠b.r:=fun e=>aG (e▸o)
 have nr2:na m 2≠b.r:=fun e=>aG (e▸o)
 simp (config:={maxSteps:=1000000}) (disch:=first|assumption|omega|(apply ah;omega)|(apply aa;assumption)|(simp only[aJ]<;>omega)) only[go_sem,seval,g,rW,hlen,a1',a2,a5',hM,g1,r2.wf,g2,hl2,rJ,hws,gs0,gs2]
 generalize hM3:hp _ 0 M2=M3
 have hC3:Chg [na m 0,b.r] M2 M3:=aQ hM3 rfl
 have hCA:Chg (b.r::ids b.w) m M3:=((hC.weak (T:=b.r::ids b.w) (by simp)).trans p5 fun i hi _=>List.mem_cons_of_mem _ hi).trans hC3 fun i hi ho=>by
  simp only[Jb,Ja,or_false] at hi
  rcases hi with rfl|rfl
  ·exact I5 ho aG
  ·exact List.mem_cons_self ..
 have hkp:Kp (Tc j) f m f M3:=Kp.same hCA fun i hi _=>by
  rcases List.mem_cons.1 hi with rfl|hi
  ·exact Or.inl h.g.c
  ·exact Or.inr (Or.inr (cw i hi))
 have oq:=h.q.o
 have nqr:b.q≠b.r:=fun e=>by have h1:=h.q.c;have h2:=h.g.c;rw[e] at h1;omega
 refine hK _ ⟨w,⟨⟨?_,hC3.old o2,h.g.c⟩,⟨?_,hC3.old hq2.o,h.q.c⟩,⟨p2.chg hC3 fun i hi=> ?_,fun i hi=>cw i (p4 i hi)⟩,hx,by simp,by simp,p3⟩,hkp⟩
 ·rw[←hM3];exact (bf o2).trans ((dq nr0.symm).trans aL)
 ·refine (hC3.get hq2.o ?_).trans hq2.g
  simp only[Jb,Ja,or_false,not_or]
  exact ⟨fun e=>aG (e▸oq),nqr⟩
 ·simp only[Jb,Ja,or_false,not_or]
  exact ⟨fun e=>nw0 (e▸p4 i hi),fun e=>by have h1:=cw i (p4 i hi);have h2:=h.g.c;rw[←e] at h2;omega⟩
theorem Du  {fv:NV} (hl:w8 v= .val (ii 0)):∃m',rT 110 [v,fv] m (ii (-1)) m'/\m'=m:=by
 refine WF.ex1 fun K hK=> ?_
 refine WF.of_wpG (fun _=>rfl) nR (L:= [(.a .e,fv),(.e,v)]) rfl ?_
 unfold uI
 rw[an]
 simp (config:={maxSteps:=1000000}) (disch:=first|assumption|omega|(apply ah;omega)|(apply aa;assumption)|(simp only[aJ]<;>omega)) only[go_sem,seval,hl]
 refine W.loop (fun n d=>∃t,d=⟨t, [],none,m⟩/\NT.get D4.e.a.c t=some (ii 0)/\NT.get D4.e.a.f t=some (ii 0)) ?_ 0 _ ⟨_,rfl,by simp only[go_sem,seval],by simp only[go_sem,seval]⟩
 rintro n d ⟨t,rfl,t1,t2⟩
 apply aT
 unfold oU
 change wp _ _ _ _ ⟨aw [] t, [],none,m⟩ _
 simp (config:={maxSteps:=1000000}) (disch:=first|assumption|omega|(apply ah;omega)|(apply aa;assumption)|(simp only[aJ]<;>omega)) only[go_sem,seval,t1,t2]
 exact hK _ rfl
theorem yW  {fv:NV} (hl:w8 v= .val (ii 0)):∃m',rT 74 [v,fv] m (.bool false) m'/\m'=m:=by
 refine WF.ex1 fun K hK=> ?_
 refine WF.of_wpG (fun _=>rfl) rG (L:= [(.a .e,fv),(.e,v)]) rfl ?_
 unfold BR
 obtain ⟨m1,r1,rfl⟩:=Du (m:=m) (fv:=fv) hl
 rw[an]
 simp (config:={maxSteps:=1000000}) (disch:=first|assumption|omega|(apply ah;omega)|(apply aa;assumption)|(simp only[aJ]<;>omega)) only[go_sem,seval,r1.wf']
 exact hK _ rfl
theorem HK {C:List Wr} (hv:bG E0 m v 3 (pw C)) (hC:C.length<=1) (n:Int):∃m',rT 42 [v,ii n] m (.bool (decide (n=0/\C.length=1))) m'/\Chg [] m m':=by
 refine WF.ex1 fun K hK=> ?_
 refine WF.of_wpG (fun _=>rfl) rV (L:= [(.a .e,ii n),(.e,v)]) rfl ?_
 unfold Er
 have hlen:=hv.sl.len
 rw[List.length_map] at hlen
 have h1v:=hv.sl.one
 by_cases h0:n<0
 ·rw[I8 (by omega)] at hK
  simp (config:={maxSteps:=1000000}) (disch:=first|assumption|omega|(apply ah;omega)|(apply aa;assumption)|(simp only[aJ]<;>omega)) only[go_sem,seval,h1v]
  exact hK _ (ef rfl)
 by_cases h1:(C.length:Int)<=n
 ·rw[I8 (by omega)] at hK
  simp (config:={maxSteps:=1000000}) (disch:=first|assumption|omega|(apply ah;omega)|(apply aa;assumption)|(simp only[aJ]<;>omega)) only[go_sem,seval,h1v,hlen]
  exact hK _ (ef rfl)
 have hn:n=0:=by omega
 subst hn
 have hc1:C.length=1:=by omega
 obtain ⟨y,rfl⟩:=List.length_eq_one_iff.1 hc1
 rw[I9 ⟨rfl,rfl⟩] at hK
 obtain ⟨i,off,wr,cs,a1,a2,a3,a4,a5⟩:=hv.sl.at 0 (by simp)
 have a1':iA 3 v (ii 0)= .val (.ptr i off):=a1
 have a5':cs[off+2]? =some (.bool false):=gf a5 2 (by omega)
 obtain ⟨h0,⟨q,q'⟩|⟨id,off',kc,c,rfl,-⟩⟩:=hv
 ·cases q'
 simp only[List.length_map,List.length_singleton] at h1v hlen a1' hK ⊢
 obtain ⟨m1,r1,e1⟩:=yW (m:=hp [(.n 1,.cells true [ii 0]),(.n 0,.cells true [.slc id off' 1 3 kc])] 2 m) (v:= .slc id off' 0 3 kc) (fv:= .fn 75 [.ptr (na m 0) 0,.ptr (na m 1) 0]) rfl
 subst e1
 simp (config:={maxSteps:=1000000}) (disch:=first|assumption|omega|(apply ah;omega)|(apply aa;assumption)|(simp only[aJ]<;>omega)) only[go_sem,seval,h1v,hlen,a1',a2,a5',Nat.add_zero,r1.wf']
 exact hK _ (ef rfl)
theorem Dt (h:CoC j f m mp b id c) {mb:Mb} {ver:List Int} {N:Nat} (hm:MeC f m mb now kept ver N) (hmp:mb.p=mp) (hN:N<=100000) (hw:c.w.length<=1) (hwn:∀y∈c.w,y.a<now.length) (n:Int):
 ∃v m',rT 22 [.ptr b.r 0,ii n] m v m'/\∃u w ver' f',v= .tup [u,.bool (cD id n now c).1]/\CoC j f' m' mp ⟨b.r,b.q,w⟩ id (cD id n now c).2.2.1/\MeC f' m' mb (cD id n now c).2.2.2 kept ver' (N+1)/\
  Sl m' u 4 (n5 (cD id n now c).2.1)/\(∀i∈ids u,¬aN m i)/\Kp (fun a=>Tc j a∨lD a) f m f' m':=by
 refine WF.ex fun K hK=> ?_
 refine WF.of_wpG (fun _=>rfl) sH (L:= [(.a .e,ii n),(.e,.ptr b.r 0)]) rfl ?_
 unfold DY
 rw[an]
 obtain ⟨v1,m1,r1,o1,hC1⟩:=qC h
 obtain ⟨m2,r2,hC2⟩:=HK (o1.back fun i hi=>I5 hi qk) hw n
 have hC12:=hC1.trans hC2 (by simp)
 have h2:=h.kpN hC12
 have hm2:=hm.kpN hC12
 by_cases hq:n=0/\c.w.length=1
 ·obtain ⟨rfl,hq⟩:=hq
  obtain ⟨y,hy⟩:=List.length_eq_one_iff.1 hq
  rw[I9 ⟨rfl,hq⟩] at r2
  have e:cD id 0 now c=(true, [⟨3,id,4096+8*(y.a:Int),y.v⟩],⟨c.pc,c.st,c.X, []⟩,now.set y.a y.v):=by unfold cD;rw[hy];rfl
  rw[e] at hK
  obtain ⟨m3,r3,w,h3,k3⟩:=Gh h2 hy
  have hm3:=hm2.kp k3 (by unfold Tc;omega)
  generalize hM:hp [(.n 0,.cells true [ii (cg y.a),iu y.v,.bool false]),(.n 0,.cells true [ii 0,iu 0,.bool false])] 1 m3=M
  have hCM:Chg [] m3 M:=aQ hM rfl
  have kM:Kp (fun _=>False) f m3 (aF f m3 9) M:=Kp.of hCM (by simp) 9
  have h4:=h3.kp kM (by simp)
  have hm4:=hm3.kp kM (by simp)
  have ct:aF f m3 9 (na m3 0)=9:=I6 aG
  have gt:M.get (na m3 0)=some (.cells true [ii (cg y.a),iu y.v,.bool false]):=ba hM
  have ot:aN M (na m3 0):=bn hM (by omega)
  obtain ⟨m5,r5,⟨ver',hm5⟩,k5⟩:=yB hm4 hN (hwn y (by rw[hy];simp)) y.v
  have g4:=h4.g.g
  have hx:=h4.x
  have h5:=h4.kp k5 (by unfold lD;omega)
  obtain ⟨u,m6,r6,e6,hC6,n6⟩:=iE h5 3 (cg y.a) y.v
  have gt5:m5.get (na m3 0)=some (.cells true [ii (cg y.a),iu y.v,.bool false]):=(k5.g ot (by rw[ct];unfold lD;omega)).trans gt
  rw[hmp] at r5
  simp (config:={maxSteps:=1000000}) (disch:=first|assumption|omega|(apply ah;omega)|(apply aa;assumption)|(simp only[aJ]<;>omega)) only[go_sem,seval,r1.wf',r2.wf',r3.wf,hM,g4,I0,gt,r5.wf',gt5,r6.wf']
  have kk:=(Kp.grow hC12).trans ((k3.weak (T':=fun a=>Tc j a∨lD a) fun a ha=>Or.inl ha).trans ((kM.weak (by simp)).trans ((k5.weak fun a ha=>Or.inr ha).trans (Kp.grow hC6))))
  exact hK _ _ ⟨u,w,ver',_,rfl,h5.kpN hC6,hm5.kpN hC6,e6,fun i hi ho=>n6 i hi (k5.old (kM.old (k3.old (hC12.old ho)))),kk⟩
 ·rw[I8 hq] at r2
  have e:cD id n now c=(false, [],c,now):=by
   unfold cD
   cases hcw:c.w with
   |nil=>rfl
   |cons y l=>
    have:c.w.length=1:=by rw[hcw] at hw ⊢;simp at hw ⊢;omega
    dsimp only
    rw[I6 (fun q=>hq ⟨q,this⟩)]
  rw[e] at hK
  simp (config:={maxSteps:=1000000}) (disch:=first|assumption|omega|(apply ah;omega)|(apply aa;assumption)|(simp only[aJ]<;>omega)) only[go_sem,seval,r1.wf',r2.wf']
  exact hK _ _ ⟨.nils,b.w,ver,f,rfl,h2,hm2.more (by omega),Sl.nil,by simp[ids],Kp.grow hC12⟩
end
end
section
variable {f f':fO} {m m' M:NH} {mp:D4} {j:Nat} {b:Cb} {id:Int} {c:Co} {sb q:D4} {v:NV} {C:List (List NV)} {y:Wr}
theorem Gu (hv:cellsOf v=some [v]):∃m',rT 156 [v] m (.fn 160 [.ptr (na m 0) 0]) m'/\m'=hp [(.n 0,.cells true [v])] 1 m:=by
 refine WF.ex1 fun K hK=> ?_
 refine WF.of_wpG (fun _=>rfl) nY (L:= [(.e,v)]) rfl ?_
 unfold uQ
 simp (config:={maxSteps:=1000000}) (disch:=first|assumption|omega|(apply ah;omega)|(apply aa;assumption)|(simp only[aJ]<;>omega)) only[go_sem,seval,hv]
 exact hK _ rfl
theorem xJ  {x:List NV} (hC:C= []∨C= [x]) (g1:m.get sb=some (.cells w [v])) (g2:aN m sb) (g3:Sl m v 3 C) (R:Bool->NH->Prop)
 (hr:∀M,Chg [] m M->M.get sb=some (.cells w [v])->C= [x]->∃r M',lj Try.prog S0 q [ii 0,.agg x] M (.bool r) M'/\R r M'/\M'.get sb=some (.cells w [v])):
 ∃m',rT 160 [.yld q,.ptr sb 0] m (.tup []) m'/\((C= []/\Chg [] m m')∨∃r,C= [x]/\R r m'):=by
 refine WF.ex1 fun K hK=> ?_
 refine WF.of_wpG (fun _=>rfl) nS (L:= [(.a .e,.ptr sb 0),(.e,.yld q)]) rfl ?_
 unfold wZ
 have hlen:=g3.len
 have hCl:C.length<=1:=by rcases hC with rfl|rfl<;>simp
 rw[an]
 simp (config:={maxSteps:=1000000}) (disch:=first|assumption|omega|(apply ah;omega)|(apply aa;assumption)|(simp only[aJ]<;>omega)) only[go_sem,seval,g1,hlen]
 refine W.loop (fun n d=>∃t M,d=⟨t, [],none,M⟩/\NT.get D4.e t=some (.yld q)/\NT.get D4.e.a t=some (.ptr sb 0)/\((n=1/\M=m/\NT.get D4.e.c t=some (ii 0)/\C= [x])∨(n=0/\NT.get D4.e.c t=some (ii (-1))/\((C= []/\Chg [] m M)∨∃r,C= [x]/\R r M)))) ?_ C.length _ ⟨_,m,rfl,by simp only[go_sem,seval],by simp only[go_sem,seval], ?_⟩
 ·rintro n d ⟨t,M,rfl,t1,t2,⟨rfl,rfl,t3,rfl⟩|⟨rfl,t3,hM⟩⟩
  ·apply aT
   unfold j6
   change wp _ _ _ _ ⟨aw [] t, [],none,M⟩ _
   obtain ⟨i,off,wr,cs,a1,a2,a3,a4,a5⟩:=g3.at 0 (by simp)
   have a1':iA 3 v (ii 0)= .val (.ptr i off):=a1
   have a5':(cs.drop off).take 3=x:=a5
   obtain ⟨r,M',hy,hR,hg⟩:=hr M (Chg.refl M) g1 rfl
   cases r with
   |true=>
    simp (config:={maxSteps:=1000000}) (disch:=first|assumption|omega|(apply ah;omega)|(apply aa;assumption)|(simp only[aJ]<;>omega)) only[go_sem,seval,t1,t2,t3,g1,a1',a2,a5',hy.wy]
    exact ⟨0,by omega,_,M',by rw[an],by simp only[go_sem,seval,t1],by simp only[go_sem,seval,t2],Or.inr ⟨rfl,by simp only[go_sem,seval]<;>rfl,Or.inr ⟨true,hR⟩⟩⟩
   |false=>
    simp (config:={maxSteps:=1000000}) (disch:=first|assumption|omega|(apply ah;omega)|(apply aa;assumption)|(simp only[aJ]<;>omega)) only[go_sem,seval,t1,t2,t3,g1,a1',a2,a5',hy.wy]
    rw[an]
    exact hK _ (Or.inr ⟨false,rfl,hR⟩)
  ·apply aT
   unfold j6
   change wp _ _ _ _ ⟨aw [] t, [],none,M⟩ _
   simp (config:={maxSteps:=1000000}) (disch:=first|assumption|omega|(apply ah;omega)|(apply aa;assumption)|(simp only[aJ]<;>omega)) only[go_sem,seval,t1,t2,t3]
   exact hK _ hM
 ·rcases hC with rfl|rfl
  ·exact Or.inr ⟨rfl,by simp only[go_sem,seval]<;>rfl,Or.inl ⟨rfl,Chg.refl m⟩⟩
  ·exact Or.inl ⟨rfl,rfl,by simp only[go_sem,seval]<;>rfl,rfl⟩
theorem Eb {l:List Wr} (hl:l.length<=1) (hv:bG E0 m v 3 (pw l)) (a:Nat) (z0:Int):∃w m',rT 145 [v,ii (cg a)] m w m'/\(∃z ok,w= .tup [iu z,.bool ok]/\cR l a z0=(if ok=true then z else z0))/\Chg [] m m':=by
 refine WF.ex fun K hK=> ?_
 refine WF.of_wpM (fun _=>rfl) pn (L:= [(.a .e,ii (cg a)),(.e,v)]) rfl ?_
 unfold vd
 generalize hm1:hp [(.n 2,.cells true [.bool false]),(.n 1,.cells true [iu 0]),(.n 0,.cells true [ii (cg a)])] 3 m=m1
 have hC1:Chg [] m m1:=aQ hm1 rfl
 have ga:m1.get (na m 0)=some (.cells true [ii (cg a)]):=ba hm1
 have gv:m1.get (na m 1)=some (.cells true [iu 0]):=ba hm1
 have go:m1.get (na m 2)=some (.cells true [.bool false]):=ba hm1
 have oa:aN m1 (na m 0):=bn hm1 (by omega)
 have ov:aN m1 (na m 1):=bn hm1 (by omega)
 have oo:aN m1 (na m 2):=bn hm1 (by omega)
 obtain ⟨m2,r2,hm2⟩:=Gu (m:=m1) hv.sl.one
 have hC2:Chg [] m1 m2:=aQ hm2.symm rfl
 simp (config:={maxSteps:=1000000}) (disch:=first|assumption|omega|(apply ah;omega)|(apply aa;assumption)|(simp only[aJ]<;>omega)) only[go_sem,seval,hm1,r2.wf']
 generalize ht:aw _ NT.leaf=t
 have t1:NT.get D4.e.f t=some (.ptr (na m 1) 0):=by rw[←ht];simp (config:={maxSteps:=1000000}) (disch:=first|assumption|omega|(apply ah;omega)|(apply aa;assumption)|(simp only[aJ]<;>omega)) only[go_sem,seval]
 have t2:NT.get D4.e.a.a t=some (.ptr (na m 2) 0):=by rw[←ht];simp (config:={maxSteps:=1000000}) (disch:=first|assumption|omega|(apply ah;omega)|(apply aa;assumption)|(simp only[aJ]<;>omega)) only[go_sem,seval]
 have t3:NT.get D4.e.c t=some (.ptr (na m 0) 0):=by rw[←ht];simp (config:={maxSteps:=1000000}) (disch:=first|assumption|omega|(apply ah;omega)|(apply aa;assumption)|(simp only[aJ]<;>omega)) only[go_sem,seval]
 have t4:NT.get D4.e.b.a t=some (.fn 160 [.ptr (na m1 0) 0]):=by rw[←ht];simp (config:={maxSteps:=1000000}) (disch:=first|assumption|omega|(apply ah;omega)|(apply aa;assumption)|(simp only[aJ]<;>omega)) only[go_sem,seval]
 clear ht
 have gz:m2.get (na m1 0)=some (.cells true [v]):=ba hm2.symm
 have oz:aN m2 (na m1 0):=bn hm2.symm (by omega)
 have hC12:Chg [] m m2:=hC1.trans hC2 (by simp)
 generalize hM1:hp [(.n 1,.loop 0 .none t [D4.e.b.b,D4.e.b.c] cq cB),(.n 0,.defd true)] 2 m2=M1
 have hG:Chg [] m2 M1:=aQ hM1 rfl
 have oq:aN M1 (na m2 1):=bn hM1 (by omega)
 have om:aN M1 (na m2 0):=bn hM1 (by omega)
 have gq:M1.get (na m2 1)=some (.loop 0 .none t [D4.e.b.b,D4.e.b.c] cq cB):=ba hM1
 have gm:M1.get (na m2 0)=some (.defd true):=ba hM1
 have hGm:Chg [] m1 M1:=hC2.trans hG (by simp)
 have gvM:=(hGm.get ov (by simp)).trans gv
 have goM:=(hGm.get oo (by simp)).trans go
 have gaM:=(hGm.get oa (by simp)).trans ga
 have nvq:na m 1≠na m2 1:=(hC2.old ov).ne 1
 have noq:na m 2≠na m2 1:=(hC2.old oo).ne 1
 have naq:na m 0≠na m2 1:=(hC2.old oa).ne 1
 have nvo:na m 1≠na m 2:=fun e=>by have:=dR e;omega
 have nav:na m 0≠na m 1:=fun e=>by have:=dR e;omega
 have nao:na m 0≠na m 2:=fun e=>by have:=dR e;omega
 have hvM:=(hv.sl.chg hC1 (by simp)).chg hGm (by simp)
 have hC0:pw l= []∨∃y:Wr,l= [y]:=by
  rcases l with _|⟨y,l⟩
  ·exact Or.inl rfl
  ·have:l= []:=List.eq_nil_of_length_eq_zero (by simpa using hl)
   subst this;exact Or.inr ⟨y,rfl⟩
 have tail:∀(N:NH) (st:Nat) (p:Jump) (z:Int) (ok:Bool),rT 160 [.yld (na m2 1),.ptr (na m1 0) 0] M1 (.tup []) N->Chg [na m2 1,na m 1,na m 2] M1 N->N.get (na m2 1)=some (.loop st p t [D4.e.b.b,D4.e.b.c] cq cB)->st≠1->
  (p= .none/\ok=false∨p= .ret/\ok=true)->N.get (na m 1)=some (.cells true [iu z])->N.get (na m 2)=some (.cells true [.bool ok])->cR l a z0=(if ok=true then z else z0)->
  W Try.prog S0 none (.rangeFunc (.tmp D4.e.b.a) [D4.e.b.b,D4.e.b.c] cq cB) ⟨t, [],none,m2⟩ (dx 0 (fN (Fo Try.prog S0 none ((NC.reg [C.q (NOp.store 1 (C.t D4.e.f) (C.ku 0)) 0,C.q (NOp.store 1 (C.t D4.e.a.a) C.kf) 1]).seq NC.ret) (xL [NRes.cell1 D4.e.f,NRes.cell1 D4.e.a.a] K)) (xL [NRes.cell1 D4.e.f,NRes.cell1 D4.e.a.a] K))):=by
  intro N st p z ok hr hC hq hst hp gvN goN hlw
  refine W.rangeJ t4 (hM1▸hr) hq hst ?_ (hC.old oq)
  have omv:na m2 0≠na m 1:=((hC2.old ov).ne 0).symm
  have omo:na m2 0≠na m 2:=((hC2.old oo).ne 0).symm
  have omq:na m2 0≠na m2 1:=fun e=>by have:=dR e;omega
  have gmN:N.get (na m2 0)=some (.defd true):=(hC.get om (by simp only[Jb,Ja,or_false,not_or];exact ⟨omq,omv,omo⟩)).trans gm
  have omN:=hC.old om
  have oqN:=hC.old oq
  have ovN:=hC.old (hGm.old ov)
  have ooN:=hC.old (hGm.old oo)
  have nvq':=nvq.symm
  have noq':=noq.symm
  have nvo':=nvo.symm
  have omv':=omv.symm
  have omo':=omo.symm
  have omq':=omq.symm
  have fin:∀{S:List D4} {Me:NH},Chg S N Me->(∀i∈S,i∈ [na m2 1,na m2 0,na m 1,na m 2])->Chg [] m Me:=by
   intro S Me hCe hS
   refine (((hC12.trans hG (by simp)).weak (T:= [na m2 1,na m2 0,na m 1,na m 2]) (by simp)).trans hC (by simp)).trans hCe (fun i hi _=>hS i hi) |>.weak fun i hi ho=> ?_
   simp only[Jb,Ja,or_false] at hi
   rcases hi with rfl|rfl|rfl|rfl
   ·exact I5 (hC12.old ho) aG
   ·exact I5 (hC12.old ho) aG
   ·exact I5 ho aG
   ·exact I5 ho aG
  rcases hp with ⟨rfl,rfl⟩|⟨rfl,rfl⟩
  ·change dx _ _ (iU .none) ⟨aw [] t,_,_,_⟩
   simp (config:={maxSteps:=1000000}) (disch:=first|assumption|omega|(apply ah;omega)|(apply aa;assumption)|(simp only[aJ]<;>omega)) only[go_sem,seval,iU,t1,t2,gvN,goN,gmN]
   refine kI ?_
   rw[kR]
   simp (config:={maxSteps:=1000000}) (disch:=first|assumption|omega|(apply ah;omega)|(apply aa;assumption)|(simp only[aJ]<;>omega)) only[go_sem,seval,t1,t2,gvN,goN,gmN]
   generalize hMe:hp _ 0 N=Me
   have hCe:Chg [na m2 0,na m 2,na m 1,na m2 1] N Me:=aQ hMe rfl
   exact hK _ _ ⟨⟨0,false,rfl,by simpa using hlw⟩,fin hCe (by simp)⟩
  ·change dx _ _ (iU .ret) ⟨aw [] t,_,_,_⟩
   simp (config:={maxSteps:=1000000}) (disch:=first|assumption|omega|(apply ah;omega)|(apply aa;assumption)|(simp only[aJ]<;>omega)) only[go_sem,seval,iU,t1,t2,gvN,goN,gmN]
   refine kI ?_
   rw[kR]
   simp (config:={maxSteps:=1000000}) (disch:=first|assumption|omega|(apply ah;omega)|(apply aa;assumption)|(simp only[aJ]<;>omega)) only[go_sem,seval,t1,t2,gvN,goN,gmN]
   generalize hMe:hp _ 0 N=Me
   have hCe:Chg [na m2 0,na m2 1] N Me:=aQ hMe rfl
   exact hK _ _ ⟨⟨z,true,rfl,by simpa using hlw⟩,fin hCe (by simp)⟩
 rcases hC0 with hl0|⟨y,rfl⟩
 ·obtain ⟨N,hr,hN⟩:=xJ (q:=na m2 1) (x:= []) (Or.inl hl0) ((hG.get oz (by simp)).trans gz) (hG.old oz) hvM (fun _ _=>True) (fun M _ _ h=>by rw[hl0] at h;cases h)
  have hl0':l= []:=List.map_eq_nil_iff.1 hl0
  rcases hN with ⟨-,hN⟩|⟨r,h,-⟩
  ·exact tail N 0 .none 0 false hr (hN.weak (by simp)) ((hN.get oq (by simp)).trans gq) (by simp) (Or.inl ⟨rfl,rfl⟩) ((hN.get (hGm.old ov) (by simp)).trans gvM) ((hN.get (hGm.old oo) (by simp)).trans goM) (by rw[hl0'];rfl)
  ·rw[hl0] at h;cases h
 ·obtain ⟨N,hr,hN⟩:=xJ (q:=na m2 1) (x:= [ii (cg y.a),iu y.v,.bool false]) (Or.inr rfl) ((hG.get oz (by simp)).trans gz) (hG.old oz) hvM (fun r N=>Chg [na m2 1,na m 1,na m 2] M1 N/\(if y.a=a then r=false/\N.get (na m2 1)=some (.loop 2 .ret t [D4.e.b.b,D4.e.b.c] cq cB)/\N.get (na m 1)=some (.cells true [iu y.v])/\N.get (na m 2)=some (.cells true [.bool true]) else r=true/\N.get (na m2 1)=some (.loop 0 .none t [D4.e.b.b,D4.e.b.c] cq cB)/\N.get (na m 1)=some (.cells true [iu 0])/\N.get (na m 2)=some (.cells true [.bool false]))) (fun N hCN _ _=>by
   have gqN:=(hCN.get oq (by simp)).trans gq
   have gvN:=(hCN.get (hGm.old ov) (by simp)).trans gvM
   have goN:=(hCN.get (hGm.old oo) (by simp)).trans goM
   have gaN:=(hCN.get (hGm.old oa) (by simp)).trans gaM
   have oqN:=hCN.old oq
   have ovN:=hCN.old (hGm.old ov)
   have ooN:=hCN.old (hGm.old oo)
   have oaN:=hCN.old (hGm.old oa)
   have nvq':=nvq.symm
   have noq':=noq.symm
   have nvo':=nvo.symm
   have gzN:N.get (na m1 0)=some (.cells true [v]):=(hCN.get (hG.old oz) (by simp)).trans ((hG.get oz (by simp)).trans gz)
   have nz1:na m1 0≠na m 1:=(ov.ne 0).symm
   have nz2:na m1 0≠na m 2:=(oo.ne 0).symm
   have nzq:na m1 0≠na m2 1:=oz.ne 1
   suffices hh:∃r M',lj Try.prog S0 (na m2 1) [ii 0,.agg [ii (cg y.a),iu y.v,.bool false]] N r M'/\∃q,r= .bool q/\Chg [na m2 1,na m 1,na m 2] N M'/\(if y.a=a then q=false/\M'.get (na m2 1)=some (.loop 2 .ret t [D4.e.b.b,D4.e.b.c] cq cB)/\M'.get (na m 1)=some (.cells true [iu y.v])/\M'.get (na m 2)=some (.cells true [.bool true]) else q=true/\M'.get (na m2 1)=some (.loop 0 .none t [D4.e.b.b,D4.e.b.c] cq cB)/\M'.get (na m 1)=some (.cells true [iu 0])/\M'.get (na m 2)=some (.cells true [.bool false])) by
    obtain ⟨r,M',q1,q,rfl,q2,q3⟩:=hh
    exact ⟨q,M',q1,⟨(hCN.weak (by simp)).trans q2 fun i hi _=>hi,q3⟩,(q2.get (hCN.old (hG.old oz)) (by simp only[Jb,Ja,or_false,not_or];exact ⟨nzq,nz1,nz2⟩)).trans gzN⟩
   refine WY.ex fun K' hK'=> ?_
   refine WY.of_wp gqN rfl cq.eq_1 cB.eq_1 ?_
   change wp _ _ _ _ ⟨aw [(D4.e.b.c,.agg [ii (cg y.a),iu y.v,.bool false]),(D4.e.b.b,ii 0)] t, [],none,hp [] 0 N⟩ _
   by_cases hya:y.a=a
   ·have e:cg y.a=cg a:=by rw[hya]
    simp (config:={maxSteps:=1000000}) (disch:=first|assumption|omega|(apply ah;omega)|(apply aa;assumption)|(simp only[aJ]<;>omega)) only[go_sem,seval,t1,t2,t3,gqN,gaN,gvN,goN,e]
    generalize hN3:hp _ 1 N=N3
    have hC3:Chg [na m2 1,na m 2,na m 1,na m2 1] N N3:=aQ hN3 rfl
    refine hK' _ _ ⟨false,rfl,hC3.weak (by simp), ?_⟩
    rw[I7 hya]
    refine ⟨rfl, ?_, ?_, ?_⟩
    ·rw[←hN3];exact (bf oqN).trans aL
    ·rw[←hN3];exact (bf ovN).trans ((dq nvq).trans ((dq nvo).trans aL))
    ·rw[←hN3];exact (bf ooN).trans ((dq noq).trans aL)
   ·have e:cg y.a≠cg a:=by unfold cg;omega
    simp (config:={maxSteps:=1000000}) (disch:=first|assumption|omega|(apply ah;omega)|(apply aa;assumption)|(simp only[aJ]<;>omega)) only[go_sem,seval,t1,t2,t3,gqN,gaN,gvN,goN,e]
    generalize hN3:hp _ 1 N=N3
    have hC3:Chg [na m2 1,na m2 1] N N3:=aQ hN3 rfl
    refine hK' _ _ ⟨true,rfl,hC3.weak (by simp), ?_⟩
    rw[I6 hya]
    refine ⟨rfl, ?_,(hC3.get ovN (by simpa using nvq)).trans gvN,(hC3.get ooN (by simpa using noq)).trans goN⟩
    rw[←hN3];exact (bf oqN).trans aL)
  rcases hN with ⟨h,-⟩|⟨r,-,hC3,h⟩
  ·cases h
  ·by_cases hya:y.a=a
   ·rw[I7 hya] at h
    obtain ⟨rfl,h1,h2,h3⟩:=h
    exact tail N 2 .ret y.v true hr hC3 h1 (by simp) (Or.inr ⟨rfl,rfl⟩) h2 h3 (by simp[cR,hya])
   ·rw[I6 hya] at h
    obtain ⟨rfl,h1,h2,h3⟩:=h
    exact tail N 0 .none 0 false hr hC3 h1 (by simp) (Or.inl ⟨rfl,rfl⟩) h2 h3 (by simp[cR,hya])
end
section
variable {f f':fO} {m m' M:NH} {mp:D4} {j:Nat} {b:Cb} {id:Int} {c:Co} {v:NV} {mb:Mb} {now kept ver:List Int} {N:Nat}
theorem eK (h:CoC j f m mp b id c):(bS mp id c.pc c.st c.X b.w b.q).length=554:=gK h.x
theorem Ho (h:CoC j f m mp b id c) {n:Nat} (hn:n<31) (z:Int):∃m',rT 130 [.ptr b.r 0,ii (n:Nat),iu z] m (.tup []) m'/\CoC j f m' mp b id ⟨c.pc,c.st,c.X.set n z,c.w⟩/\Kp (Tc j) f m f m':=by
 refine WF.ex1 fun K hK=> ?_
 refine WF.of_wpG (fun _=>rfl) pm (L:= [(.b .e,iu z),(.a .e,ii (n:Nat)),(.e,.ptr b.r 0)]) rfl ?_
 unfold vW
 have g:=h.g.g
 have hx:=h.x
 have hl:=eK h
 have hX:=ue (mp:=mp) (id:=id) (pc:=c.pc) (st:=c.st) (vw:=b.w) (q:=b.q) hx
 obtain ⟨m1,r1,hC1⟩:=p6 (m:=m) hx hn z
 have h1:=h.kpN hC1
 have g1:=h1.g.g
 have o1:=h1.g.o
 have hl2:(List.map iu (c.X.set n z)).length=33:=by simp[hx]
 have hy:(c.X.set n z).length=33:=by simp[hx]
 have hsX:=AI (mp:=mp) (id:=id) (pc:=c.pc) (st:=c.st) (vw:=b.w) (q:=b.q) hx hy
 rw[an]
 simp (config:={maxSteps:=1000000}) (disch:=first|assumption|omega|(apply ah;omega)|(apply aa;assumption)|(simp only[aJ]<;>omega)) only[go_sem,seval,g,hl,hX,r1.wf,g1,hl2,hsX]
 generalize hM:hp _ 0 m1=M
 obtain ⟨p1,p2⟩:=h1.put (pc:=c.pc) (st:=c.st) (X:=c.X.set n z) hy hM
 exact hK _ ⟨p1,(Kp.grow hC1).trans p2⟩
theorem Eo {k:Nat} (hk:k<64):∃m',rT 106 [iu (cg k)] m (.tup [ii 0,.bool false]) m'/\m'=m:=by
 refine WF.ex1 fun K hK=> ?_
 refine WF.of_wpG (fun _=>rfl) nU (L:= [(.e,iu (cg k))]) rfl ?_
 unfold vN
 have e:cg k<1048576:=by unfold cg;omega
 rw[an]
 simp (config:={maxSteps:=1000000}) (disch:=first|assumption|omega|(apply ah;omega)|(apply aa;assumption)|(simp only[aJ]<;>omega)) only[go_sem,seval,e]
 exact hK _ rfl
def d7 (j:Nat) (f:fO) (m m':NH) (mp:D4) (b:Cb) (id:Int) (v:NV) (z:Bool×List Ev×Co):Prop:=∃u w f',v= .tup [u,.bool z.1]/\CoC j f' m' mp ⟨b.r,b.q,w⟩ id z.2.2/\Sl m' u 4 (n5 z.2.1)/\(∀i∈ids u,¬aN m i)/\Kp (Tc j) f m f' m'
theorem d7.pre {z:Bool×List Ev×Co} (hC:Chg [] m M) (h:d7 j f M m' mp b id v z):d7 j f m m' mp b id v z:=by
 obtain ⟨u,w,f',e,a1,a2,a3,a4⟩:=h
 exact ⟨u,w,f',e,a1,a2,fun i hi ho=>a3 i hi (hC.old ho),(Kp.grow hC).trans a4⟩
theorem ly (d a:Nat):be (.ldr d a)= [ii 12,ii (d:Nat),ii (a:Nat),ii 0,ii 0,ii 0,ii 0]:=rfl
theorem oV (d a:Nat):be (.str d a)= [ii 13,ii (d:Nat),ii (a:Nat),ii 0,ii 0,ii 0,ii 0]:=rfl
theorem qA (h:CoC j f m mp b id c) (hpc:c.pc<100000) {l:List Ev} (hu:Sl m u 4 (n5 l)) {m0:NH} {f0:fO} (k0:Kp (Tc j) f0 m0 f m) (hn:∀i∈ids u,¬aN m0 i) (hc:∀i∈ids u,f i=9):∃m',rT 72 [.ptr b.r 0,u] m (.tup [u,.bool true]) m'/\d7 j f0 m0 m' mp b id (.tup [u,.bool true]) (true,l,⟨c.pc+1,c.st,c.X,c.w⟩):=by
 obtain ⟨m',r,h1,k1⟩:=qI h hpc u hu.one
 refine ⟨m',r,u,b.w,f,rfl,h1, ?_,hn,k0.trans k1⟩
 exact ((⟨hu,hc⟩:SlC 9 f m u 4 (n5 l)).kp k1 (by unfold Tc;omega)).o
theorem Fe (h:CoC j f m mp b id c) (hpc:c.pc<100000) (hw:c.w.length<=1) {a k:Nat} (hd:d<31) (z:Int):∃v m',rT 133 [.ptr b.r 0,.agg (be (.ldr d a)),ii (cg k),iu z] m v m'/\
 d7 j f m m' mp b id v (true, [⟨1,id,cg k,cR c.w k z⟩],⟨c.pc+1,c.st,c.X.set d (cR c.w k z),c.w⟩):=by
 refine WF.ex fun K hK=> ?_
 refine WF.of_wpG (fun _=>rfl) oH (L:= [(.c .e,iu z),(.b .e,ii (cg k)),(.a .e,.agg (be (.ldr d a))),(.e,.ptr b.r 0)]) rfl ?_
 unfold vS
 rw[ly]
 generalize hM:hp [(.n 0,.cells true [ii 12,ii (d:Nat),ii (a:Nat),ii 0,ii 0,ii 0,ii 0])] 1 m=M
 have hC:Chg [] m M:=aQ hM rfl
 have kM:Kp (fun _=>False) f m (aF f m 9) M:=Kp.of hC (by simp) 9
 have gi:M.get (na m 0)=some (.cells true [ii 12,ii (d:Nat),ii (a:Nat),ii 0,ii 0,ii 0,ii 0]):=ba hM
 have oi:aN M (na m 0):=bn hM (by omega)
 have ci:aF f m 9 (na m 0)=9:=I6 aG
 have h1:=h.kp kM (by simp)
 obtain ⟨v1,m1,r1,o1,hC1⟩:=qC h1
 obtain ⟨w2,m2,r2,⟨z2,ok,rfl,hlw⟩,hC2⟩:=Eb hw (o1.back fun i hi=>I5 hi qk) k z
 have hC12:=hC1.trans hC2 (by simp)
 have h2:=h1.kpN hC12
 have gi2:=(hC12.get oi (by simp)).trans gi
 obtain ⟨m3,r3,h3,k3⟩:=Ho h2 hd (cR c.w k z)
 have gi3:=(k3.g (hC12.old oi) (by rw[ci];unfold Tc;omega)).trans gi2
 have h3':=h3
 obtain ⟨u,m4,r4,e4,hC4,n4⟩:=iE h3' 1 (cg k) (cR c.w k z)
 have k34:Kp (Tc j) (aF f m 9) m2 (aF (aF f m 9) m3 9) m4:=k3.trans (Kp.of hC4 (by simp) 9)
 have h4:=h3.kp (Kp.of hC4 (by simp) 9 (T:=fun _=>False)) (by simp)
 have kall:Kp (Tc j) f m (aF (aF f m 9) m3 9) m4:=(kM.weak (by simp)).trans ((Kp.grow hC12).trans k34)
 obtain ⟨m5,r5,hA⟩:=qA h4 hpc e4 kall (fun i hi ho=>n4 i hi (k3.old (hC12.old (hC.old ho)))) (fun i hi=>I6 (n4 i hi))
 cases ok with
 |true=>
  rw[I7 rfl] at hlw
  rw[hlw] at r3 r4 hA hK
  simp (config:={maxSteps:=1000000}) (disch:=first|assumption|omega|(apply ah;omega)|(apply aa;assumption)|(simp only[aJ]<;>omega)) only[go_sem,seval,hM,gi,r1.wf',r2.wf',gi2,r3.wf',gi3,r4.wf',r5.wf']
  exact hK _ _ hA
 |false=>
  rw[I6 (by simp)] at hlw
  rw[hlw] at r3 r4 hA hK
  simp (config:={maxSteps:=1000000}) (disch:=first|assumption|omega|(apply ah;omega)|(apply aa;assumption)|(simp only[aJ]<;>omega)) only[go_sem,seval,hM,gi,r1.wf',r2.wf',gi2,r3.wf',gi3,r4.wf',r5.wf']
  exact hK _ _ hA
theorem yn (h:CoC j f m mp b id c) (hpc:c.pc<100000) (hw:c.w.length<=1) {a k:Nat} (hd:d<31) (z:Int):∃v m',rT 109 [.ptr b.r 0,.agg (be (.ldr d a)),ii (cg k),iu z] m v m'/\
 d7 j f m m' mp b id v (true, [⟨1,id,cg k,cR c.w k z⟩],⟨c.pc+1,c.st,c.X.set d (cR c.w k z),c.w⟩):=by
 refine WF.ex fun K hK=> ?_
 refine WF.of_wpG (fun _=>rfl) j4 (L:= [(.c .e,iu z),(.b .e,ii (cg k)),(.a .e,.agg (be (.ldr d a))),(.e,.ptr b.r 0)]) rfl ?_
 unfold rD
 generalize hM:hp [(.n 0,.cells true (be (.ldr d a)))] 1 m=M
 have hC:Chg [] m M:=aQ hM rfl
 have gi:M.get (na m 0)=some (.cells true (be (.ldr d a))):=ba hM
 have h1:=h.kpN hC
 obtain ⟨v,m1,r1,u,w,f',hv,a1,a2,a3,a4⟩:=Fe h1 hpc hw (a:=a) (k:=k) hd z
 subst hv
 rw[ly] at hM gi r1 ⊢
 simp (config:={maxSteps:=1000000}) (disch:=first|assumption|omega|(apply ah;omega)|(apply aa;assumption)|(simp only[aJ]<;>omega)) only[go_sem,seval,hM,gi,r1.wf']
 exact hK _ _ ⟨u,w,f',rfl,a1,a2,fun i hi ho=>a3 i hi (hC.old ho),(Kp.grow hC).trans a4⟩
theorem zo (h:CoC j f m mp b id c) (hpc:c.pc<100000) (hw:c.w.length<1000) {a k:Nat} (hd:d<31) (hk:k<64) (z:Int):∃v m',rT 109 [.ptr b.r 0,.agg (be (.str d a)),ii (cg k),iu z] m v m'/\
 d7 j f m m' mp b id v (true, [],⟨c.pc+1,c.st,c.X,c.w++ [⟨k,ew c.X d⟩]⟩):=by
 refine WF.ex fun K hK=> ?_
 refine WF.of_wpG (fun _=>rfl) j4 (L:= [(.c .e,iu z),(.b .e,ii (cg k)),(.a .e,.agg (be (.str d a))),(.e,.ptr b.r 0)]) rfl ?_
 unfold rD
 rw[oV]
 generalize hM:hp [(.n 0,.cells true [ii 13,ii (d:Nat),ii (a:Nat),ii 0,ii 0,ii 0,ii 0])] 1 m=M
 have hC:Chg [] m M:=aQ hM rfl
 have gi:M.get (na m 0)=some (.cells true [ii 13,ii (d:Nat),ii (a:Nat),ii 0,ii 0,ii 0,ii 0]):=ba hM
 have oi:aN M (na m 0):=bn hM (by omega)
 have h1:=h.kpN hC
 have g1:=h1.g.g
 have hl:=eK h
 have hX:=ue (mp:=mp) (id:=id) (pc:=c.pc) (st:=c.st) (vw:=b.w) (q:=b.q) h.x
 obtain ⟨m1,r1,hC1⟩:=kD (m:=M) h.x hd
 have h2:=h1.kpN hC1
 have gi1:=(hC1.get oi (by simp)).trans gi
 have g2:=h2.g.g
 obtain ⟨m2,r2,f',w,h3,k3⟩:=GJ h2 ⟨k,ew c.X d⟩ hk hw
 obtain ⟨m3,r3,h4,k4⟩:=qI h3 hpc .nils rfl
 have hs:bi 4 (.agg (c.X.map iu)) (.agg (c.X.map iu))=true:=d6 fun v hv=>by obtain ⟨z,-,rfl⟩:=List.mem_map.1 hv;trivial
 have eadr:4096+8*(k:Int)=cg k:=rfl
 simp (config:={maxSteps:=1000000}) (disch:=first|assumption|omega|(apply ah;omega)|(apply aa;assumption)|(simp only[aJ]<;>omega)) only[go_sem,seval,hM,gi,g1,hl,hX,r1.wf',gi1,g2,hs,r2.wf',r3.wf']
 exact hK _ _ ⟨.nils,w,f',rfl,h4,Sl.nil,by simp[ids],(Kp.grow (hC.trans hC1 (by simp))).trans (k3.trans k4)⟩
theorem AF (h:CoC j f m mp b id c) (hm:MeC f m mb now kept ver N) (hmp:mb.p=mp) (hpc:c.pc<100000) (hw:c.w.length<=1) {a k:Nat} (hd:d<31) (ha:a<31) (hk:k<now.length) (hak:ew c.X a=cg k):
 (∃v m',rT 73 [.ptr b.r 0,.agg (be (.ldr d a))] m v m'/\d7 j f m m' mp b id v (true, [⟨1,id,cg k,cR c.w k (ew now k)⟩],⟨c.pc+1,c.st,c.X.set d (cR c.w k (ew now k)),c.w⟩))/\
 (∃v m',rT 73 [.ptr b.r 0,.agg (be (.str d a))] m v m'/\d7 j f m m' mp b id v (true, [],⟨c.pc+1,c.st,c.X,c.w++ [⟨k,ew c.X d⟩]⟩)):=by
 have key:∀(kd:Int) (Z:NV->NH->Prop),(∀M,Chg [] m M->∃v m',rT 109 [.ptr b.r 0,.agg [ii kd,ii (d:Nat),ii (a:Nat),ii 0,ii 0,ii 0,ii 0],ii (cg k),iu (ew now k)] M (.tup [v,.bool true]) m'/\Z v m')->
  ∃w m',rT 73 [.ptr b.r 0,.agg [ii kd,ii (d:Nat),ii (a:Nat),ii 0,ii 0,ii 0,ii 0]] m w m'/\∃v,w= .tup [v,.bool true]/\Z v m':=by
  intro kd Z hZ
  refine WF.ex fun K hK=> ?_
  refine WF.of_wpG (fun _=>rfl) sy (L:= [(.a .e,.agg [ii kd,ii (d:Nat),ii (a:Nat),ii 0,ii 0,ii 0,ii 0]),(.e,.ptr b.r 0)]) rfl ?_
  unfold BU
  generalize hM:hp [(.n 0,.cells true [ii kd,ii (d:Nat),ii (a:Nat),ii 0,ii 0,ii 0,ii 0])] 1 m=M
  have hC:Chg [] m M:=aQ hM rfl
  have gi:M.get (na m 0)=some (.cells true [ii kd,ii (d:Nat),ii (a:Nat),ii 0,ii 0,ii 0,ii 0]):=ba hM
  have oi:aN M (na m 0):=bn hM (by omega)
  have h1:=h.kpN hC
  have g1:=h1.g.g
  have hl:=eK h
  have hX:=ue (mp:=mp) (id:=id) (pc:=c.pc) (st:=c.st) (vw:=b.w) (q:=b.q) h.x
  obtain ⟨m1,r1,hC1⟩:=kD (m:=M) h.x ha
  rw[hak] at r1
  have gi1:=(hC1.get oi (by simp)).trans gi
  have h2:=h1.kpN hC1
  have g2:=h2.g.g
  have hm2:=(hm.kpN hC).kpN hC1
  have hk64:k<64:=by have:=hm.l;omega
  obtain ⟨m2,r2,rfl⟩:=Eo (m:=m1) hk64
  obtain ⟨m3,r3,rfl⟩:=CS hm2 hk
  rw[hmp] at r3
  obtain ⟨v,m4,r4,hz⟩:=hZ m3 (hC.trans hC1 (by simp))
  have hs:bi 4 (.agg (c.X.map iu)) (.agg (c.X.map iu))=true:=d6 fun v hv=>by obtain ⟨z,-,rfl⟩:=List.mem_map.1 hv;trivial
  have hmod:(cg k+0) % 18446744073709551616=cg k:=by unfold cg;omega
  have hmod2:cg k % 18446744073709551616=cg k:=by unfold cg;omega
  have hb:¬9223372036854775807<cg k:=by unfold cg;omega
  have hti:cg k<9223372036854775808:=by unfold cg;omega
  have h0:0<=cg k:=by unfold cg;omega
  simp (config:={maxSteps:=1000000}) (disch:=first|assumption|omega|(apply ah;omega)|(apply aa;assumption)|(simp only[aJ]<;>omega)) only[go_sem,seval,hM,gi,g1,hl,hX,r1.wf',gi1,g2,hs,hmod,r2.wf',hb,I0,r3.wf',r4.wf']
  exact hK _ _ ⟨v,rfl,hz⟩
 have hk64:k<64:=by have:=hm.l;omega
 constructor
 ·obtain ⟨w,m',r,v,rfl,hz⟩:=key 12 (fun v m'=>d7 j f m m' mp b id (.tup [v,.bool true]) (true, [⟨1,id,cg k,cR c.w k (ew now k)⟩],⟨c.pc+1,c.st,c.X.set d (cR c.w k (ew now k)),c.w⟩)) fun M hC=>by
   obtain ⟨v,m',r,hA⟩:=yn (h.kpN hC) hpc hw (a:=a) (k:=k) hd (ew now k)
   obtain ⟨u,w,f',rfl,rest⟩:=_root_.id hA
   exact ⟨u,m',r,d7.pre hC hA⟩
  exact ⟨_,m',r,hz⟩
 ·obtain ⟨w,m',r,v,rfl,hz⟩:=key 13 (fun v m'=>d7 j f m m' mp b id (.tup [v,.bool true]) (true, [],⟨c.pc+1,c.st,c.X,c.w++ [⟨k,ew c.X d⟩]⟩)) fun M hC=>by
   obtain ⟨v,m',r,hA⟩:=zo (h.kpN hC) hpc (by omega) (a:=a) (k:=k) hd hk64 (ew now k)
   obtain ⟨u,w,f',rfl,rest⟩:=_root_.id hA
   exact ⟨u,m',r,d7.pre hC hA⟩
  exact ⟨_,m',r,hz⟩
theorem E7 (h:CoC j f m mp b id c):∃m',rT 105 [.ptr b.r 549] m (ii (c.w.length:Nat)) m'/\m'=m:=by
 refine WF.ex1 fun K hK=> ?_
 refine WF.of_wpG (fun _=>rfl) oc (L:= [(.e,.ptr b.r 549)]) rfl ?_
 unfold vA
 have g:=h.g.g
 have hx:=h.x
 have hlen:=h.w.o.sl.len
 rw[List.length_map] at hlen
 rw[an]
 simp (config:={maxSteps:=1000000}) (disch:=first|assumption|omega|(apply ah;omega)|(apply aa;assumption)|(simp only[aJ]<;>omega)) only[go_sem,seval,g,rW,hlen]
 exact hK _ rfl
theorem Eh (h:CoC j f m mp b id c) (hpc:c.pc<100000):∃v m',rT 71 [.ptr b.r 0,ii 18] m v m'/\d7 j f m m' mp b id v (cN id .dmb now c):=by
 refine WF.ex fun K hK=> ?_
 refine WF.of_wpG (fun _=>rfl) sO (L:= [(.a .e,ii 18),(.e,.ptr b.r 0)]) rfl ?_
 unfold CG
 have g:=h.g.g
 obtain ⟨m1,r1,rfl⟩:=E7 h
 by_cases h0:c.w.length=0
 ·have e:cN id .dmb now c=(true, [],⟨c.pc+1,c.st,c.X,c.w⟩):=I7 h0
  rw[e] at hK
  rw[h0] at r1
  obtain ⟨m2,r2,h2,k2⟩:=qI h hpc .nils rfl
  rw[an]
  simp (config:={maxSteps:=1000000}) (disch:=first|assumption|omega|(apply ah;omega)|(apply aa;assumption)|(simp only[aJ]<;>omega)) only[go_sem,seval,r1.wf',r2.wf']
  exact hK _ _ ⟨.nils,b.w,f,rfl,h2,Sl.nil,by simp[ids],k2⟩
 ·have e:cN id .dmb now c=(false, [],c):=I6 h0
  rw[e] at hK
  rw[an]
  simp (config:={maxSteps:=1000000}) (disch:=first|assumption|omega|(apply ah;omega)|(apply aa;assumption)|(simp only[aJ]<;>omega)) only[go_sem,seval,r1.wf',h0]
  exact hK _ _ ⟨.nils,b.w,f,rfl,h,Sl.nil,by simp[ids],Kp.refl⟩
def vT (i:In) (c:Co) (n:Nat):Prop:=match i with
 | .ldr _ a=>∃k,k<n/\ew c.X a=cg k
 | .str _ a=>∃k,k<n/\ew c.X a=cg k
 |_=>True
theorem su (k:Nat):Dz (cg k)=k:=by unfold Dz cg;omega
theorem Iq (h:CoC j f m mp b id c) (hm:MeC f m mb now kept ver N) (hmp:mb.p=mp) (hpc:c.pc<100000) (hw:c.w.length<=1) {i:In} (hi:∀d n,i≠.movz d n) (ho:y6 i) (ha:vT i c now.length):
 ∃v m',rT 41 [.ptr b.r 0,.agg (be i)] m v m'/\d7 j f m m' mp b id v (cN id i now c):=by
 refine WF.ex fun K hK=> ?_
 refine WF.of_wpG (fun _=>rfl) sJ (L:= [(.a .e,.agg (be i)),(.e,.ptr b.r 0)]) rfl ?_
 unfold Dl
 generalize hM:hp [(.n 0,.cells true (be i))] 1 m=M
 have hC:Chg [] m M:=aQ hM rfl
 have gi:M.get (na m 0)=some (.cells true (be i)):=ba hM
 have oi:aN M (na m 0):=bn hM (by omega)
 have h1:=h.kpN hC
 have hm1:=hm.kpN hC
 have g1:=h1.g.g
 have o1:=h1.g.o
 cases i with
 |movz d n=>exact I5 rfl (hi d n)
 |ldr d a=>
  obtain ⟨k,hk,hak⟩:=ha
  obtain ⟨⟨v,m2,r2,hA⟩,-⟩:=AF h1 hm1 hmp hpc hw ho.1 ho.2 hk hak
  have e:cN id (.ldr d a) now c=(true, [⟨1,id,cg k,cR c.w k (ew now k)⟩],⟨c.pc+1,c.st,c.X.set d (cR c.w k (ew now k)),c.w⟩):=by simp only[cN];rw[hak,su]
  rw[e] at hK
  obtain ⟨u,w,f',rfl,rest⟩:=_root_.id hA
  rw[ly] at hM gi r2 ⊢
  simp (config:={maxSteps:=1000000}) (disch:=first|assumption|omega|(apply ah;omega)|(apply aa;assumption)|(simp only[aJ]<;>omega)) only[go_sem,seval,hM,gi,r2.wf']
  exact hK _ _ (d7.pre hC hA)
 |str d a=>
  obtain ⟨k,hk,hak⟩:=ha
  obtain ⟨-,v,m2,r2,hA⟩:=AF h1 hm1 hmp hpc hw ho.1 ho.2 hk hak
  have e:cN id (.str d a) now c=(true, [],⟨c.pc+1,c.st,c.X,c.w++ [⟨k,ew c.X d⟩]⟩):=by simp only[cN];rw[hak,su]
  rw[e] at hK
  obtain ⟨u,w,f',rfl,rest⟩:=_root_.id hA
  rw[oV] at hM gi r2 ⊢
  simp (config:={maxSteps:=1000000}) (disch:=first|assumption|omega|(apply ah;omega)|(apply aa;assumption)|(simp only[aJ]<;>omega)) only[go_sem,seval,hM,gi,r2.wf']
  exact hK _ _ (d7.pre hC hA)
 |dmb=>
  obtain ⟨v,m2,r2,hA⟩:=Eh (now:=now) h1 hpc
  obtain ⟨u,w,f',rfl,rest⟩:=_root_.id hA
  change hp [(.n 0,.cells true [ii 18,ii 0,ii 0,ii 0,ii 0,ii 0,ii 0])] 1 m=M at hM
  change M.get (na m 0)=some (.cells true [ii 18,ii 0,ii 0,ii 0,ii 0,ii 0,ii 0]) at gi
  rw[show be .dmb= [ii 18,ii 0,ii 0,ii 0,ii 0,ii 0,ii 0] from rfl]
  simp (config:={maxSteps:=1000000}) (disch:=first|assumption|omega|(apply ah;omega)|(apply aa;assumption)|(simp only[aJ]<;>omega)) only[go_sem,seval,hM,gi,r2.wf']
  exact hK _ _ (d7.pre hC hA)
 |hlt=>
  change hp [(.n 0,.cells true [ii 22,ii 0,ii 0,ii 0,ii 0,ii 0,ii 0])] 1 m=M at hM
  change M.get (na m 0)=some (.cells true [ii 22,ii 0,ii 0,ii 0,ii 0,ii 0,ii 0]) at gi
  rw[show be .hlt= [ii 22,ii 0,ii 0,ii 0,ii 0,ii 0,ii 0] from rfl]
  have hl:=eK h
  obtain ⟨M1,hM1⟩:∃M1,hp [(.o b.r,.cells true (bS mp id c.pc 1 c.X b.w b.q))] 0 M=M1:=⟨_,rfl⟩
  obtain ⟨h2,k2⟩:=h1.put (pc:=c.pc) (st:=1) h.x hM1
  obtain ⟨u,m3,r3,e3,hC3,n3⟩:=iE h2 10 0 0
  have k3:Kp (fun _=>False) f M1 (aF f M1 9) m3:=Kp.of hC3 (by simp) 9
  have h3:=h2.kp k3 (by simp)
  obtain ⟨m4,r4,hA⟩:=qA h3 hpc e3 (k2.trans (k3.weak (by simp))) (fun i hi ho=>n3 i hi (k2.old ho)) (fun i hi=>I6 (n3 i hi))
  have hM1':M.put b.r (.cells true (bS mp id c.pc 1 c.X b.w b.q))=M1:=by rw[←hM1,←pN o1,an]
  simp (config:={maxSteps:=1000000}) (disch:=first|assumption|omega|(apply ah;omega)|(apply aa;assumption)|(simp only[aJ]<;>omega)) only[go_sem,seval,hM,gi,g1,hl,AM,hM1',r3.wf',r4.wf']
  exact hK _ _ (d7.pre hC hA)
 |svc=>
  change hp [(.n 0,.cells true [ii 23,ii 0,ii 0,ii 0,ii 0,ii 0,ii 0])] 1 m=M at hM
  change M.get (na m 0)=some (.cells true [ii 23,ii 0,ii 0,ii 0,ii 0,ii 0,ii 0]) at gi
  rw[show be .svc= [ii 23,ii 0,ii 0,ii 0,ii 0,ii 0,ii 0] from rfl]
  have hl:=eK h
  have hX:=ue (mp:=mp) (id:=id) (pc:=c.pc) (st:=c.st) (vw:=b.w) (q:=b.q) h.x
  obtain ⟨m2,r2,hC2⟩:=kD (m:=M) h.x (n:=0) (by omega)
  have h2:=h1.kpN hC2
  obtain ⟨u,m3,r3,e3,hC3,n3⟩:=iE h2 4 0 (ew c.X 0)
  have k3:Kp (fun _=>False) f m2 (aF f m2 9) m3:=Kp.of hC3 (by simp) 9
  have h3:=h2.kp k3 (by simp)
  obtain ⟨m4,r4,hA⟩:=qA h3 hpc e3 ((Kp.grow hC2).trans (k3.weak (by simp))) (fun i hi ho=>n3 i hi (hC2.old ho)) (fun i hi=>I6 (n3 i hi))
  rw[show ((0:Nat):Int)=0 from rfl] at r2
  simp (config:={maxSteps:=1000000}) (disch:=first|assumption|omega|(apply ah;omega)|(apply aa;assumption)|(simp only[aJ]<;>omega)) only[go_sem,seval,hM,gi,g1,hl,hX,r2.wf',r3.wf',r4.wf']
  exact hK _ _ (d7.pre hC hA)
end
structure CdOk (W:List Int) (code:List In):Prop where
 l:W.length=code.length
 k:∀(n:Nat) i,code[n]? =some i->∃w,W[n]? =some w/\Kept w i/\y6 i
 s:code.length<100000
section
variable {f f':fO} {m m' M:NH} {mp:D4} {j:Nat} {b:Cb} {id:Int} {c:Co} {v vc:NV} {mb:Mb} {now kept ver W:List Int} {code:List In} {N:Nat}
theorem Em (h:CoC j f m mp b id c) (hm:MeC f m mb now kept ver N) (hmp:mb.p=mp) (hc:SlC 8 f m vc 1 (mM W)) (hW:CdOk W code) (hw:c.w.length<=1) (ha:∀i,code[c.pc]? =some i->vT i c now.length) (hpc:c.pc<=code.length):
 ∃v m',rT 21 [.ptr b.r 0,vc] m v m'/\d7 j f m m' mp b id v (cS id code now c):=by
 refine WF.ex fun K hK=> ?_
 refine WF.of_wpG (fun _=>rfl) s7 (L:= [(.a .e,vc),(.e,.ptr b.r 0)]) rfl ?_
 unfold EP
 have g:=h.g.g
 have o:=h.g.o
 have hx:=h.x
 have hl:=eK h
 have hX:=ue (mp:=mp) (id:=id) (pc:=c.pc) (st:=c.st) (vw:=b.w) (q:=b.q) h.x
 have hl0:(bS mp id c.pc 0 c.X b.w b.q).length=554:=gK hx
 have hX0:=ue (mp:=mp) (id:=id) (pc:=c.pc) (st:=0) (vw:=b.w) (q:=b.q) h.x
 have hlen:=hc.o.len
 rw[List.length_map,hW.l] at hlen
 have hs8:=hW.s
 by_cases hst:c.st≠0
 ·have e:cS id code now c=(false, [],c):=I7 hst
  rw[e] at hK
  rw[an]
  simp (config:={maxSteps:=1000000}) (disch:=first|assumption|omega|(apply ah;omega)|(apply aa;assumption)|(simp only[aJ]<;>omega)) only[go_sem,seval,g,HH,hst]
  exact hK _ _ ⟨.nils,b.w,f,rfl,h,Sl.nil,by simp[ids],Kp.refl⟩
 have hst0:c.st=0:=by omega
 by_cases hq:code.length<=c.pc
 ·have e:cS id code now c=(true, [⟨11,id,0,0⟩],⟨c.pc,2,c.X,c.w⟩):=by unfold cS;rw[I6 hst,List.getElem?_eq_none hq]
  rw[e] at hK
  obtain ⟨v,m1,r1,w,rfl,e1,e2,h2,k2⟩:=zB h
  rw[an]
  simp (config:={maxSteps:=1000000}) (disch:=first|assumption|omega|(apply ah;omega)|(apply aa;assumption)|(simp only[aJ]<;>omega)) only[go_sem,seval,g,HH,hst0,Hl,hlen,r1.wf']
  exact hK _ _ ⟨w,b.w,f,rfl,h2,e1,e2,k2⟩
 have hlt:c.pc<code.length:=by omega
 obtain ⟨w,hwn,hkp,hio⟩:=hW.k c.pc code[c.pc] (List.getElem?_eq_getElem hlt)
 have hai:=ha code[c.pc] (List.getElem?_eq_getElem hlt)
 have hee:cS id code now c=cN id code[c.pc] now c:=by unfold cS;rw[I6 hst,List.getElem?_eq_getElem hlt]
 rw[hee] at hK
 generalize hi:code[c.pc]=i at *
 obtain ⟨id1,off,wr,cs,a1,a2,a3,a4,a5⟩:=hc.o.at c.pc (by rw[List.length_map,hW.l];exact hlt)
 have a5':cs[off]? =some (iw w):=by
  have:=gf a5 0 (by omega)
  rw[Nat.add_zero] at this
  rw[this,List.getElem_map,(List.getElem?_eq_some_iff.1 hwn).2];rfl
 have hil:=ic i
 have rd:∀m,rT 39 [iw w] m (.tup [.agg (be i),ii 0]) m:=fun m=>lN.kept hkp.d m
 have hit:(be i).take 7=be i:=List.take_of_length_le (by omega)
 generalize hM:hp [(.n 0,.cells true (be i))] 1 m=M
 have hC:Chg [] m M:=aQ hM rfl
 have gi:M.get (na m 0)=some (.cells true (be i)):=ba hM
 have h1:=h.kpN hC
 have hm1:=hm.kpN hC
 have g1:=h1.g.g
 have o1:=h1.g.o
 generalize hM2:hp [(.n 1,.cells true (List.replicate 33 (iu 0))),(.n 0,.cells true (be i)),(.n 0,.cells true [ii 0,ii 0,ii 0,ii 0,ii 0,ii 0,ii 0])] 2 m=M2
 have hC2:Chg [] m M2:=aQ hM2 rfl
 have h2:=h.kpN hC2
 have hm2:=hm.kpN hC2
 have g2:=h2.g.g
 have gi2:M2.get (na m 0)=some (.cells true (be i)):=ba hM2
 have gr2:M2.get (na m 1)=some (.cells true (List.replicate 33 (iu 0))):=ba hM2
 have oi2:aN M2 (na m 0):=bn hM2 (by omega)
 have or2:aN M2 (na m 1):=bn hM2 (by omega)
 have hM2':=hM2
 simp only[List.replicate_succ,List.replicate_zero] at hM2'
 have hs:bi 4 (.agg (c.X.map iu)) (.agg (c.X.map iu))=true:=d6 fun v hv=>by obtain ⟨z,-,rfl⟩:=List.mem_map.1 hv;trivial
 have hst1:bi 4 (.agg (be i)) (.agg (be i))=true:=d6 fun v hv=>by cases i<;>simp[be] at hv<;>(rcases hv with rfl|rfl|rfl|rfl|rfl|rfl|rfl)<;>trivial
 have hrep:(List.replicate 33 (iu 0)).length=33:=List.length_replicate
 have hrd:(List.replicate 33 (iu 0)).drop 33= []:=by rw[List.drop_eq_nil_of_le (by rw[List.length_replicate];omega)]
 have hl33:=jj hx
 have ht33:=jW hx
 by_cases hmv:∃d n,i= .movz d n
 ·obtain ⟨d,n,rfl⟩:=hmv
  obtain ⟨m3,r3,hC3⟩:=zC (m:=M2) hx hio.1 hio.2 hkp.r
  have gi3:=(hC3.get oi2 (by simp)).trans gi2
  have gr3:=(hC3.get or2 (by simp)).trans gr2
  have or3:=hC3.old or2
  have hC23:=hC2.trans hC3 (by simp)
  have h3:=h.kpN hC23
  have g3:=h3.g.g
  have o3:=h3.g.o
  have hl2:((c.X.set d (n:Int)).map iu).length=33:=by simp[hx]
  have ht2:((c.X.set d (n:Int)).map iu).take 33=(c.X.set d (n:Int)).map iu:=List.take_of_length_le (by omega)
  have hy:(c.X.set d (n:Int)).length=33:=by simp[hx]
  have hsX:=AI (mp:=mp) (id:=id) (pc:=c.pc) (st:=0) (vw:=b.w) (q:=b.q) hx hy
  have hl4:(bS mp id c.pc 0 (c.X.set d n) b.w b.q).length=554:=gK hy
  have nr:b.r≠na m 1:=fun e=>aG (e▸o)
  have nr':=nr.symm
  rw[an]
  simp (config:={maxSteps:=1000000}) (disch:=first|assumption|omega|(apply ah;omega)|(apply aa;assumption)|(simp only[aJ]<;>omega)) only[go_sem,seval,g,HH,hst0,Hl,hlen,a1,a2,a5',(rd _).wf,hl0,hX0,hil,hit,hs,hst1,hM2',r3.wf,g3,gi3,gr3,hrep,hrd,hl2,ht2,hsX,hl4,AU]
  generalize hM3:hp _ 0 m3=M3
  have hC4:Chg [b.r,b.r,na m 1] m3 M3:=aQ hM3 rfl
  have hCA:Chg [b.r] m M3:=(hC23.weak (T:= [b.r,na m 1]) (by simp)).trans hC4 (by simp) |>.weak fun i hi ho=>by
   simp only[Jb,Ja,or_false] at hi ⊢
   rcases hi with rfl|rfl
   ·rfl
   ·exact I5 ho aG
  have hkpA:Kp (Tc j) f m f M3:=Kp.same hCA fun i hi _=>by rw[one hi];exact Or.inl h.g.c
  have k10:Kp (fun a=>a=10+3*j) f m f M3:=Kp.same hCA fun i hi _=>by rw[one hi];exact h.g.c
  refine hK _ _ ⟨.nils,b.w,f,rfl,⟨⟨?_,hC4.old o3,h.g.c⟩,h.q.kp k10 (by omega),h.w.kp k10 (by omega),hy,h.wa,h.wl,h.kc⟩,Sl.nil,by simp[ids],hkpA⟩
  rw[←hM3]
  have e:cN id (.movz d n) now c=(true, [],⟨c.pc+1,c.st,c.X.set d n,c.w⟩):=rfl
  rw[e,hst0]
  push_cast
  exact (bf o3).trans aL
 ·obtain ⟨m3,r3,hC3⟩:=yr (m:=M2) hx (i:=i) (fun d n e=>hmv ⟨d,n,e⟩) hkp.r
  have gi3:=(hC3.get oi2 (by simp)).trans gi2
  have gr3:=(hC3.get or2 (by simp)).trans gr2
  have or3:=hC3.old or2
  have oi3:=hC3.old oi2
  have hC23:=hC2.trans hC3 (by simp)
  have h3:=h.kpN hC23
  have g3:=h3.g.g
  have o3:=h3.g.o
  generalize hM4:hp [(.o (na m 1),.cells true (c.X.map iu))] 0 m3=M4
  have hC4:Chg [na m 1] m3 M4:=aQ hM4 rfl
  have hCA:Chg [] m M4:=(hC23.weak (T:= [na m 1]) (by simp)).trans hC4 (fun i hi _=>hi) |>.weak fun i hi ho=>by rw[one hi] at ho;exact I5 ho aG
  have h4:=h.kpN hCA
  have hm4:=hm.kpN hCA
  have nio:na m 0≠na m 1:=fun e=>by have:=dR e;omega
  have gi4:M4.get (na m 0)=some (.cells true (be i)):=(hC4.get oi3 (by simpa using nio)).trans gi3
  obtain ⟨v,m5,r5,hA⟩:=Iq h4 hm4 hmp (by omega) hw (fun d n e=>hmv ⟨d,n,e⟩) hio hai
  obtain ⟨u,w',f',rfl,rest⟩:=_root_.id hA
  rw[an]
  simp (config:={maxSteps:=1000000}) (disch:=first|assumption|omega|(apply ah;omega)|(apply aa;assumption)|(simp only[aJ]<;>omega)) only[go_sem,seval,g,HH,hst0,Hl,hlen,a1,a2,a5',(rd _).wf,hl0,hX0,hil,hit,hs,hst1,hM2',r3.wf,g3,gi3,gr3,hrep,hrd,hl33,ht33,hM4,gi4,r5.wf']
  exact hK _ _ (d7.pre hCA hA)
end
section
variable {f f':fO} {m m' M:NH} {mp:D4} {j:Nat} {b:Cb} {id:Int} {c:Co} {v vc:NV} {mb:Mb} {now kept ver W:List Int} {code:List In} {N:Nat}
theorem AD {i:D4} {o:Nat}:cP .ptr .eql (.ptr i o) .nilp=some (.bool false):=_root_.id rfl
noncomputable def u3:List NV:= [.nilp,ii 0,ii 0,ii 0]++List.replicate 545 (iu 0)++ [.nils,.nilm,ii 0,ii 0,.bool false]
theorem He:([.nilp,.int .i64 (.lit 0),.int .i64 (.lit 0),.int .i64 (.lit 0)]++List.replicate 545 (.int .u64 (.lit 0))++ [.nils,.nilm,.int .i64 (.lit 0),.int .i64 (.lit 0),.bool false]:List NV)=u3:=rfl
theorem u5:u3.length=554:=by unfold u3;rw[List.length_append,List.length_append,List.length_replicate];rfl
theorem Dx (mp q:D4) (id pc:Int) (X:List Int) (hX:X.length=33):(List.take 4 (((u3.set 0 (.ptr mp 0)).set 1 (ii id)).set 2 (ii pc))++X.map iu++List.drop 37 (((u3.set 0 (.ptr mp 0)).set 1 (ii id)).set 2 (ii pc))).length=554/\
 (List.take 4 (((u3.set 0 (.ptr mp 0)).set 1 (ii id)).set 2 (ii pc))++X.map iu++List.drop 37 (((u3.set 0 (.ptr mp 0)).set 1 (ii id)).set 2 (ii pc))).set 550 (.map q)=bS mp id pc 0 X .nils q:=by
 have e1:((u3.set 0 (.ptr mp 0)).set 1 (ii id)).set 2 (ii pc)= [.ptr mp 0,ii id,ii pc,ii 0]++(List.replicate 545 (iu 0)++ [.nils,.nilm,ii 0,ii 0,.bool false]):=by
  unfold u3
  simp only[List.cons_append,List.nil_append,List.set_cons_zero,List.set_cons_succ]
 have e2:List.drop 37 ([.ptr mp 0,ii id,ii pc,ii 0]++(List.replicate 545 (iu 0)++ [.nils,.nilm,ii 0,ii 0,.bool false]))=xM++ [.nils,.nilm,ii 0,ii 0,.bool false]:=by
  show List.drop 33 (List.replicate 545 (iu 0)++ [.nils,.nilm,ii 0,ii 0,.bool false])=_
  rw[List.drop_append_of_le_length (by rw[List.length_replicate];omega),List.drop_replicate];rfl
 have e3:List.take 4 ([.ptr mp 0,ii id,ii pc,ii 0]++(List.replicate 545 (iu 0)++ [.nils,.nilm,ii 0,ii 0,.bool false]))= [.ptr mp 0,ii id,ii pc,ii 0]:=rfl
 rw[e1,e2,e3]
 constructor
 ·simp only[List.length_append,List.length_map,List.length_cons,List.length_nil,dj,hX]
 ·have hx:(X.map iu).length=33:=by rw[List.length_map,hX]
  rw[List.append_assoc,List.set_append_right _ _ (by simp),List.set_append_right _ _ (by rw[hx];simp),hx,List.set_append_right _ _ (by rw[dj];simp),dj]
  simp only[List.length_cons,List.length_nil,Nat.reduceAdd,Nat.reduceSub,List.set_cons_succ,List.set_cons_zero]
  unfold bS
  generalize xM=z
  rfl
theorem xB (j:Nat) (id:Int) (pc:Nat):∃v m',rT 37 [.ptr mp 0,ii id,ii (pc:Nat)] m v m'/\∃b f',v= .ptr b.r 0/\CoC j f' m' mp b id (nM pc)/\Kp (fun _=>False) f m f' m'/\¬aN m b.r:=by
 refine WF.ex fun K hK=> ?_
 refine WF.of_wpG (fun _=>rfl) sW (L:= [(.b .e,ii (pc:Nat)),(.a .e,ii id),(.e,.ptr mp 0)]) rfl ?_
 unfold DZ
 have hz:(List.replicate 33 (0:Int)).length=33:=List.length_replicate
 have r1:∃m1,rT 62 [.agg (List.replicate 33 (iu 0)),ii 28,iu 1048576] m (.agg (x0.map iu)) m1/\Chg [] m m1:=by
  obtain ⟨m1,r1,hC1⟩:=p6 (m:=m) hz (n:=28) (by omega) 1048576
  rw[List.map_replicate] at r1
  exact ⟨m1,r1,hC1⟩
 obtain ⟨m1,r1,hC1⟩:=r1
 simp only[List.replicate_succ,List.replicate_zero] at r1
 have hcz:=u5
 have hx0:(x0.map iu).length=33:=by rw[List.length_map];rfl
 rw[He,an]
 have hx33:x0.length=33:=rfl
 obtain ⟨hA,hB⟩:=Dx mp (na m1 0) id (pc:Int) x0 hx33
 have h550:550<(List.take 4 (((u3.set 0 (.ptr mp 0)).set 1 (ii id)).set 2 (ii (pc:Int)))++x0.map iu++List.drop 37 (((u3.set 0 (.ptr mp 0)).set 1 (ii id)).set 2 (ii (pc:Int)))).length:=by rw[hA];omega
 simp (config:={maxSteps:=1000000}) (disch:=first|assumption|omega|(apply ah;omega)|(apply aa;assumption)|(simp only[aJ]<;>omega)) only[go_sem,seval,AD,r1.wf,hx0,u5,List.length_set,hA,hB]
 generalize hM:hp _ 2 m1=M
 have hC2:Chg [] m1 M:=aQ hM rfl
 have hC:=hC1.trans hC2 (by simp)
 have n01:na m1 0≠na m1 1:=fun e=>by have:=dR e;omega
 refine hK _ _ ⟨⟨na m1 1,na m1 0,.nils⟩,fun i=>if aN m i then f i else @ite _ (i=na m1 1) (Classical.propDecidable _) (10+3*j) (11+3*j),rfl,⟨⟨ba hM,bn hM (by omega), ?_⟩,⟨ba hM,bn hM (by omega), ?_⟩,⟨bG.nil,by simp[ids]⟩,rfl,by simp[nM],by simp[nM],trivial⟩,⟨hC.next,fun ho=>I7 ho,fun ho _=>hC.get ho (by simp)⟩,fun ho=>aG (hC1.old ho)⟩
 ·rw[I6 (fun ho=>aG (hC1.old ho)),I7 rfl]
 ·rw[I6 (fun ho=>aG (hC1.old ho)),I6 n01]
end
structure Mq where
 mb:Mb
 (vcs vt ve vc:NV)
 bs:List Cb
abbrev jR (w st:Int) (q:Mq) (on:Bool):List NV:= [ii w,ii st,q.ve,q.vc,.ptr q.mb.p 0,q.vcs,.bool on,q.vt]
structure MaC (im:Im) (W:List Int) (w:Int) (N:Nat) (f:fO) (m:NH) (p:D4) (q:Mq) (M:Mm):Prop where
 g:Ob 5 f m p (.cells true (jR w im.start q M.on))
 me:∃ver,MeC f m q.mb M.now M.kept ver N
 cs:OwC 6 f m q.vcs 1 (q.bs.map fun b=> [.ptr b.r 0])
 len:q.bs.length=M.cs.length/\M.cs.length<=4
 co:∀(j:Nat) b c,q.bs[j]? =some b->M.cs[j]? =some c->CoC j f m q.mb.p b j c
 t:OwC 7 f m q.vt 4 (n5 M.tr)
 e:SlC 8 f m q.ve 1 (jd (im.entry.map Int.ofNat))
 c:SlC 8 f m q.vc 1 (mM W)
 W:CdOk W im.code
 tl:M.tr.length<=3*N/\N<=10000
 el:im.entry.length<=4
def TM:Nat->Prop:=fun a=>1<=a/\a≠8
section
variable {f f':fO} {m m':NH} {p:D4} {q:Mq} {M:Mm} {im:Im} {W:List Int} {w:Int} {N:Nat}
theorem sB (h:MaC im W w N f m p q M):∃m',rT 26 [.ptr p 0] m (.tup []) m'/\∃f' q',MaC im W w N f' m' p q' (g9 im M)/\Kp TM f m f' m':=by
 refine WF.ex1 fun K hK=> ?_
 refine WF.of_wpG (fun _=>rfl) s5 (L:= [(.e,.ptr p 0)]) rfl ?_
 unfold E5
 have g:=h.g.g
 have o:=h.g.o
 generalize hM1:hp [(.o p,.cells true (jR w im.start q false))] 0 m=m1
 have hM1':=hM1
 unfold jR at hM1'
 have hC1:Chg [p] m m1:=aQ hM1 rfl
 have k1:Kp (fun a=>a=5) f m f m1:=Kp.same hC1 fun i hi _=>by rw[one hi];exact h.g.c
 have g1:m1.get p=some (.cells true (jR w im.start q false)):=by rw[←hM1];exact (bf o).trans aL
 have o1:=hC1.old o
 obtain ⟨v,m2,r2,b,f2,rfl,h2,k2,n2⟩:=xB (f:=f) (m:=m1) (mp:=q.mb.p) 0 0 im.start
 have c2:f2 p=5:=(k2.c o1).trans h.g.c
 have g2:m2.get p=some (.cells true (jR w im.start q false)):=(k2.g o1 (by simp)).trans g1
 have o2:=k2.old o1
 simp (config:={maxSteps:=1000000}) (disch:=first|assumption|omega|(apply ah;omega)|(apply aa;assumption)|(simp only[aJ]<;>omega)) only[go_sem,seval,g,hM1',g1,r2.wf,g2]
 generalize hM3:hp _ 1 m2=m3
 have hC3:Chg [p] m2 m3:=aQ hM3 rfl
 have k3:Kp (fun a=>a=5) f2 m2 (aF f2 m2 6) m3:=Kp.of hC3 (fun i hi _=>by rw[one hi];exact c2) 6
 have k5:Kp (fun a=>a=5) f m (aF f2 m2 6) m3:=k1.trans ((k2.weak (by simp)).trans k3)
 have h3:=h2.kp k3 (by omega)
 obtain ⟨ver,hme⟩:=h.me
 refine hK _ ⟨aF f2 m2 6,⟨q.mb,.slc (na m2 0) 0 1 1 1,q.vt,q.ve,q.vc, [b]⟩,⟨⟨?_,hC3.old o2,(k3.c o2).trans c2⟩,⟨ver,hme.kp k5 (by omega)⟩,⟨bG.of (by simp) qk ?_ (bn hM3 (by omega)) rfl rfl rfl,fun i hi=> ?_⟩,⟨rfl,by simp[g9]⟩, ?_,h.t.kp k5 (by omega),h.e.kp k5 (by omega),h.c.kp k5 (by omega),h.W,h.tl,h.el⟩,k5.weak fun a ha=>by unfold TM;omega⟩
 ·rw[←hM3];exact (bf o2).trans aL
 ·rw[ba hM3];rfl
 ·rw[one hi];exact I6 aG
 ·intro j b' c hb hc
  match j,hb,hc with
  |0,hb,hc=>cases hb;cases hc;exact h3
  |j+1,hb,hc=>simp at hb
theorem MaC.trc (h:MaC im W w N f m p q M) {l:List Ev} (hN:N<=N') (hN':N'<=10000) (hl:M.tr.length+l.length<=3*N') {vt':NV} {m1 m2:NH} {k:Nat} (ho:bG E0 m1 vt' 4 (n5 M.tr++n5 l)) (hC:Chg (ids q.vt) m m1)
 (hi:∀i∈ids vt',i∈ids q.vt∨¬aN m i) (hm2:hp [(.o p,.cells true (jR w im.start ⟨q.mb,q.vcs,vt',q.ve,q.vc,q.bs⟩ M.on))] k m1=m2):
 MaC im W w N' (aF f m 7) m2 p ⟨q.mb,q.vcs,vt',q.ve,q.vc,q.bs⟩ ⟨M.now,M.kept,M.cs,M.on,M.tr++l⟩/\Kp (fun a=>a=5∨a=7) f m (aF f m 7) m2:=by
 have ct:∀i∈ids q.vt,f i=7:=h.t.c
 have k1:Kp (fun a=>a=7) f m (aF f m 7) m1:=Kp.of hC (fun i hi _=>ct i hi) 7
 have o1:=k1.old h.g.o
 have c1:aF f m 7 p=5:=(k1.c h.g.o).trans h.g.c
 have hC2:Chg [p] m1 m2:=aQ hm2 rfl
 have k2:Kp (fun a=>a=5) (aF f m 7) m1 (aF f m 7) m2:=Kp.same hC2 fun i hi _=>by rw[one hi];exact c1
 have kk:Kp (fun a=>a=5∨a=7) f m (aF f m 7) m2:=(k1.weak fun a ha=>Or.inr ha).trans (k2.weak fun a ha=>Or.inl ha)
 obtain ⟨ver,hme⟩:=h.me
 refine ⟨⟨⟨?_,hC2.old o1,c1⟩,⟨ver,(hme.more hN).kp kk (by omega)⟩,h.cs.kp kk (by omega),h.len,fun j b c hb hc=>(h.co j b c hb hc).kp kk (by omega), ?_,h.e.kp kk (by omega),h.c.kp kk (by omega),h.W,⟨by rw[List.length_append];exact hl,hN'⟩,h.el⟩,kk⟩
 ·rw[←hm2];exact (bf o1).trans aL
 ·refine (⟨by rw[show n5 (M.tr++l)=n5 M.tr++n5 l by simp];exact ho,fun i q'=> ?_⟩:OwC 7 (aF f m 7) m1 vt' 4 (n5 (M.tr++l))).kp k2 (by omega)
  rcases hi i q' with u|u
  ·exact (k1.c (h.t.o.sl.old i u)).trans (ct i u)
  ·exact I6 u
theorem MaC.core (h:MaC im W w N f m p q M) {m1 m2 m3 m4:NH} {f1:fO} {b:Cb} {pc:Nat} {vcs':NV} {k:Nat} (hj:M.cs.length<4) (hb:CoC M.cs.length f1 m1 q.mb.p b (M.cs.length:Nat) (nM pc)) (k1:Kp (fun _=>False) f m f1 m1)
 (hC2:Chg [] m1 m2) (ho:bG E0 m3 vcs' 1 ((q.bs++ [b]).map fun b=> [.ptr b.r 0])) (hC3:Chg (ids q.vcs) m2 m3) (hi:∀i∈ids vcs',i∈ids q.vcs∨¬aN m2 i)
 (hm4:hp [(.o p,.cells true (jR w im.start ⟨q.mb,vcs',q.vt,q.ve,q.vc,q.bs++ [b]⟩ M.on))] k m3=m4):
 MaC im W w N (aF f1 m2 6) m4 p ⟨q.mb,vcs',q.vt,q.ve,q.vc,q.bs++ [b]⟩ ⟨M.now,M.kept,M.cs++ [nM pc],M.on,M.tr⟩/\Kp (fun a=>a=5∨a=6) f m (aF f1 m2 6) m4:=by
 have ct:∀i∈ids q.vcs,aN m i/\f i=6:=fun i hi=>⟨h.cs.o.sl.old i hi,h.cs.c i hi⟩
 have k12:Kp (fun _=>False) f m f1 m2:=k1.trans (Kp.grow hC2)
 have k3:Kp (fun a=>a=6) f1 m2 (aF f1 m2 6) m3:=Kp.of hC3 (fun i hi _=>(k12.c (ct i hi).1).trans (ct i hi).2) 6
 have k13:Kp (fun a=>a=6) f m (aF f1 m2 6) m3:=(k12.weak (by simp)).trans k3
 have o3:=k13.old h.g.o
 have c3:aF f1 m2 6 p=5:=(k13.c h.g.o).trans h.g.c
 have hC4:Chg [p] m3 m4:=aQ hm4 rfl
 have k4:Kp (fun a=>a=5) (aF f1 m2 6) m3 (aF f1 m2 6) m4:=Kp.same hC4 fun i hi _=>by rw[one hi];exact c3
 have kk:Kp (fun a=>a=5∨a=6) f m (aF f1 m2 6) m4:=(k13.weak fun a ha=>Or.inr ha).trans (k4.weak fun a ha=>Or.inl ha)
 obtain ⟨ver,hme⟩:=h.me
 refine ⟨⟨⟨?_,hC4.old o3,c3⟩,⟨ver,hme.kp kk (by omega)⟩, ?_,⟨by simp[h.len.1],by simp;omega⟩,fun j b' c hb' hc'=> ?_,h.t.kp kk (by omega),h.e.kp kk (by omega),h.c.kp kk (by omega),h.W,h.tl,h.el⟩,kk⟩
 ·rw[←hm4];exact (bf o3).trans aL
 ·refine (⟨ho,fun i q'=> ?_⟩:OwC 6 (aF f1 m2 6) m3 vcs' 1 ((q.bs++ [b]).map fun b=> [.ptr b.r 0])).kp k4 (by omega)
  rcases hi i q' with u|u
  ·exact (k13.c (ct i u).1).trans (ct i u).2
  ·exact I6 u
 ·by_cases hjl:j<M.cs.length
  ·rw[List.getElem?_append_left (by rw[h.len.1];exact hjl)] at hb'
   simp only at hc'
   rw[List.getElem?_append_left hjl] at hc'
   exact (h.co j b' c hb' hc').kp kk (by omega)
  ·rw[List.getElem?_append_right (by rw[h.len.1];omega)] at hb'
   simp only at hc'
   rw[List.getElem?_append_right (by omega)] at hc'
   have hl:=(List.getElem?_eq_some_iff.1 hc').1
   simp only[List.length_singleton] at hl
   have e:j=M.cs.length:=by omega
   subst e
   rw[h.len.1,Nat.sub_self] at hb'
   rw[Nat.sub_self] at hc'
   cases hb';cases hc'
   exact (hb.kp ((Kp.grow (T:=fun a=>a=5∨a=6) hC2).trans ((k3.weak fun a ha=>Or.inr ha).trans (k4.weak fun a ha=>Or.inl ha))) (by omega))
end
section
variable {f f':fO} {m m':NH} {p:D4} {q:Mq} {M:Mm} {im:Im} {W:List Int} {w:Int} {N:Nat}
theorem uF {a:Nat} (h:a=5∨a=7):TM a:=by unfold TM;omega
theorem H6 {a:Nat} (h:a=5∨a=6):TM a:=by unfold TM;omega
theorem MaC.ap (h:MaC im W w N f m p q M) {l:List Ev} (hl:l.length<=10) (hu:Sl m u 4 (n5 l)):∃r vt' m',pA 4 32 m q.vt u=r/\(r= .mem vt' m'∨(r= .val vt'/\m'=m))/\bG E0 m' vt' 4 (n5 M.tr++n5 l)/\Chg (ids q.vt) m m'/\(∀i∈ids vt',i∈ids q.vt∨¬aN m i):=by
 have htl:=h.tl
 by_cases h0:l= []
 ·subst h0
  refine ⟨_,q.vt,m,h.t.o.sl.appNil hu,Or.inr ⟨rfl,rfl⟩,by simpa using h.t.o,(Chg.refl m).weak (by simp),fun i hi=>Or.inl hi⟩
 ·obtain ⟨v',m',e1,e2,e3⟩:=h.t.o.app (bytes:=32) hu (by simpa using h0) n0 (by simp only[List.length_map];omega) (by simp only[List.length_map];omega)
  exact ⟨_,v',m',e1,Or.inl rfl,e2,e3,ql e1⟩
theorem MaC.seton (h:MaC im W w N f m p q M) (hC:Chg [p] m m') (hg:m'.get p=some (.cells true (jR w im.start q true))):MaC im W w N f m' p q ⟨M.now,M.kept,M.cs,true,M.tr⟩/\Kp (fun a=>a=5) f m f m':=by
 have k:Kp (fun a=>a=5) f m f m':=Kp.same hC fun i hi _=>by rw[one hi];exact h.g.c
 obtain ⟨ver,hme⟩:=h.me
 exact ⟨⟨⟨hg,hC.old h.g.o,h.g.c⟩,⟨ver,hme.kp k (by omega)⟩,h.cs.kp k (by omega),h.len,fun j b c hb hc=>(h.co j b c hb hc).kp k (by omega),h.t.kp k (by omega),h.e.kp k (by omega),h.c.kp k (by omega),h.W,h.tl,h.el⟩,k⟩
theorem MaC.nocs (h:MaC im W w N f m p q M) (hon:M.on=true) (hC:Chg [p] m m') (hg:m'.get p=some (.cells true (jR w im.start ⟨q.mb,.nils,q.vt,q.ve,q.vc, []⟩ true))):MaC im W w N f m' p ⟨q.mb,.nils,q.vt,q.ve,q.vc, []⟩ ⟨M.now,M.kept, [],true,M.tr⟩/\Kp (fun a=>a=5) f m f m':=by
 have k:Kp (fun a=>a=5) f m f m':=Kp.same hC fun i hi _=>by rw[one hi];exact h.g.c
 obtain ⟨ver,hme⟩:=h.me
 exact ⟨⟨⟨hg,hC.old h.g.o,h.g.c⟩,⟨ver,hme.kp k (by omega)⟩,⟨bG.nil,by simp[ids]⟩,⟨rfl,by simp⟩,fun j b c hb=>by simp at hb,h.t.kp k (by omega),h.e.kp k (by omega),h.c.kp k (by omega),h.W,h.tl,h.el⟩,k⟩
theorem MaC.kp0 (h:MaC im W w N f m p q M) (k:Kp (fun _=>False) f m f' m'):MaC im W w N f' m' p q M:=by
 obtain ⟨ver,hme⟩:=h.me
 exact ⟨h.g.kp k (by simp),⟨ver,hme.kp k (by simp)⟩,h.cs.kp k (by simp),h.len,fun j b c hb hc=>(h.co j b c hb hc).kp k (by simp),h.t.kp k (by simp),h.e.kp k (by simp),h.c.kp k (by simp),h.W,h.tl,h.el⟩
theorem MaC.grow (h:MaC im W w N f m p q M) (hC:Chg [] m m'):MaC im W w N f m' p q M:=h.kp0 (Kp.grow hC)
theorem MaC.at (h:MaC im W w N f m p q M) {j:Nat} (hj:j<M.cs.length):∃(b:Cb) (c:Co),q.bs[j]? =some b/\M.cs[j]? =some c/\CoC j f m q.mb.p b j c/\∃id off wr cs,iA 1 q.vcs (ii (j:Nat))= .val (.ptr id off)/\m.get id=some (.cells wr cs)/\aN m id/\cs[off]? =some (.ptr b.r 0):=by
 have hb:j<q.bs.length:=by rw[h.len.1];exact hj
 refine ⟨q.bs[j],M.cs[j],List.getElem?_eq_getElem hb,List.getElem?_eq_getElem hj,h.co j _ _ (List.getElem?_eq_getElem hb) (List.getElem?_eq_getElem hj), ?_⟩
 obtain ⟨id,off,wr,cs,a1,a2,a3,a4,a5⟩:=h.cs.o.sl.at j (by simpa using hb)
 rw[List.getElem_map] at a5
 exact ⟨id,off,wr,cs,a1,a2,a3,gf a5 0 (by omega)⟩
theorem xH (h:MaC im W w N f m p q M) (hne:M.on=false->1<=M.cs.length) (hN:N<10000) {l:List Ev} (hl:l.length<=2) (hu:Sl m u 4 (n5 l)) (ok:Bool):
 ∃m',rT 20 [.ptr p 0,u,.bool ok] m (.bool ok) m'/\∃f' q',MaC im W w (N+1) f' m' p q' (dC im l M)/\Kp TM f m f' m':=by
 refine WF.ex1 fun K hK=> ?_
 refine WF.of_wpG (fun _=>rfl) rk (L:= [(.b .e,.bool ok),(.a .e,u),(.e,.ptr p 0)]) rfl ?_
 unfold Fc
 have g:=h.g.g
 have o:=h.g.o
 have htl:=h.tl
 obtain ⟨r,vt',m1,er,hr,ho,hC1,hi⟩:=h.ap (by omega) hu
 obtain ⟨m2,hm2⟩:∃m2,hp [(.o p,.cells true (jR w im.start ⟨q.mb,q.vcs,vt',q.ve,q.vc,q.bs⟩ M.on))] 0 m1=m2:=⟨_,rfl⟩
 obtain ⟨h2,k2⟩:=h.trc (l:=l) (N':=N+1) (by omega) (by omega) (by omega) ho hC1 hi hm2
 have g1:m1.get p=some (.cells true (jR w im.start q M.on)):=by
  refine (hC1.get o fun hq=> ?_).trans g
  have:=h.t.c p hq
  have:=h.g.c
  omega
 have o1:=hC1.old o
 have hvo:=ho.sl.one
 have hm2':=hm2
 unfold jR at hm2'
 have er2:r= .mem vt' (hp [] 0 m1)∨(r= .val vt'/\m1=m):=by rw[an];exact hr
 refine Iu (fun d=>∃T,d=⟨T, [],none,m2⟩/\NT.get D4.e T=some (.ptr p 0)/\NT.get D4.e.b T=some (.bool ok)) (fun R hR=> ?_) ?_
 ·rcases er2 with er2|⟨er2,hmm⟩
  ·rw[er2] at er
   rw[an]
   simp (config:={maxSteps:=1000000}) (disch:=first|assumption|omega|(apply ah;omega)|(apply aa;assumption)|(simp only[aJ]<;>omega)) only[go_sem,seval,g,er,g1,hvo,hm2']
   exact hR _ ⟨_,rfl,by simp only[go_sem,seval],by simp only[go_sem,seval]⟩
  ·rw[er2] at er
   subst hmm
   rw[an]
   simp (config:={maxSteps:=1000000}) (disch:=first|assumption|omega|(apply ah;omega)|(apply aa;assumption)|(simp only[aJ]<;>omega)) only[go_sem,seval,g,er]
   rw[←an m1]
   simp (config:={maxSteps:=1000000}) (disch:=first|assumption|omega|(apply ah;omega)|(apply aa;assumption)|(simp only[aJ]<;>omega)) only[go_sem,seval,g,er,g1,hvo,hm2']
   exact hR _ ⟨_,rfl,by simp only[go_sem,seval],by simp only[go_sem,seval]⟩
 clear er2 er hr
 rintro d ⟨T,rfl,t1,t2⟩
 change wp _ _ _ _ ⟨aw [] T, [],none,m2⟩ _
 have g2:=h2.g.g
 have kk2:Kp TM f m (aF f m 7) m2:=k2.weak fun a=>uF
 cases hon:M.on with
 |true=>
  have e:dC im l M=⟨M.now,M.kept,M.cs,M.on,M.tr++l⟩:=by unfold dC;rw[I7 (Or.inl hon)]
  rw[e] at hK
  simp only[hon] at g2
  simp (config:={maxSteps:=1000000}) (disch:=first|assumption|omega|(apply ah;omega)|(apply aa;assumption)|(simp only[aJ]<;>omega)) only[go_sem,seval,t1,t2,g2]
  exact hK _ ⟨_,_,h2,kk2⟩
 |false=>
  simp only[hon] at g2
  obtain ⟨b,c,hb,hc,hco,id,off,wr,cs,a1,a2,a3,a4⟩:=h2.at (j:=0) (hne hon)
  have hc':M.cs[0]? =some c:=hc
  have hhead:M.cs.head? =some c:=by rw[List.head?_eq_getElem?];exact hc'
  have a1':iA 1 q.vcs (ii 0)= .val (.ptr id off):=a1
  obtain ⟨m3,r3,hC3⟩:=rS hco
  cases hqu:bX c with
  |false=>
   have e:dC im l M=⟨M.now,M.kept,M.cs,M.on,M.tr++l⟩:=by unfold dC;rw[I7 (Or.inr (by rw[hhead];simp[hqu]))]
   rw[e] at hK
   rw[hqu] at r3
   simp (config:={maxSteps:=1000000}) (disch:=first|assumption|omega|(apply ah;omega)|(apply aa;assumption)|(simp only[aJ]<;>omega)) only[go_sem,seval,t1,t2,g2,a1',a2,a4,r3.wf']
   exact hK _ ⟨_,_,h2.grow hC3,kk2.trans (Kp.grow hC3)⟩
  |true=>
   rw[hqu] at r3
   have h3:=h2.grow hC3
   have g3:=h3.g.g
   have o3:=h3.g.o
   simp only[hon] at g3
   have e:dC im l M=⟨M.now,M.kept,im.entry.map nM,true,M.tr++l++ [⟨9,0,0,0⟩]⟩:=by unfold dC;rw[I6 (by rw[hon,hhead];simp[hqu])]
   rw[e] at hK
   generalize hm4:hp [(.n 0,.cells true [ii 9,ii 0,ii 0,iu 0]),(.o p,.cells true (jR w im.start ⟨q.mb,q.vcs,vt',q.ve,q.vc,q.bs⟩ true))] 1 m3=m4
   have hC4:Chg [p] m3 m4:=aQ hm4 rfl
   obtain ⟨h4,k4⟩:=h3.seton hC4 (by rw[←hm4];exact (bf o3).trans (iv.trans aL))
   have gn4:m4.get (na m3 0)=some (.cells true [ii 9,ii 0,ii 0,iu 0]):=ba hm4
   have on4:aN m4 (na m3 0):=bn hm4 (by omega)
   obtain ⟨vt2,m5,q1,q2,q3,q4⟩:=h4.t.o.app2 (bytes:=32) (kc:=1) gn4 on4 rfl n0 (by simp only[List.length_map,List.length_append];omega) (by simp only[List.length_map,List.length_append];omega)
   obtain ⟨m6,hm6⟩:∃m6,hp [(.o p,.cells true (jR w im.start ⟨q.mb,q.vcs,vt2,q.ve,q.vc,q.bs⟩ true))] 0 m5=m6:=⟨_,rfl⟩
   obtain ⟨h6,k6⟩:=h4.trc (l:= [⟨9,0,0,0⟩]) (N':=N+1) (by omega) (by omega) (by simp only[List.length_append,List.length_singleton];omega) q2 q3 q4 hm6
   have o5:=q3.old h4.g.o
   have g6:=h6.g.g
   have o6:=h6.g.o
   obtain ⟨m7,hm7⟩:∃m7,m6.put p (.cells true (jR w im.start ⟨q.mb,.nils,vt2,q.ve,q.vc, []⟩ true))=m7:=⟨_,rfl⟩
   obtain ⟨h7,k7⟩:=h6.nocs rfl (m':=m7) (by rw[←hm7];exact Chg.put m6 p _) (by rw[←hm7];exact NH.get_put_same _ _ _)
   have g5:m5.get p=some (.cells true (jR w im.start ⟨q.mb,q.vcs,vt',q.ve,q.vc,q.bs⟩ true)):=by
    refine (q3.get h4.g.o fun hq=> ?_).trans h4.g.g
    have u1:=h4.t.c p hq
    have u2:=h4.g.c
    omega
   have g7:=h7.g.g
   have hlen:=h7.e.o.len
   rw[List.length_map,List.length_map] at hlen
   rw[←an m5] at q1
   have hm4':=hm4
   have hm6':=hm6
   unfold jR at hm4' hm6' hm7
   have hv2:=q2.sl.one
   have kk7:Kp TM f m _ m7:=kk2.trans ((Kp.grow hC3).trans ((k4.weak fun a ha=>uF (Or.inl ha)).trans ((k6.weak fun a=>uF).trans (k7.weak fun a ha=>uF (Or.inl ha)))))
   simp (config:={maxSteps:=1000000}) (disch:=first|assumption|omega|(apply ah;omega)|(apply aa;assumption)|(simp only[aJ]<;>omega)) only[go_sem,seval,t1,t2,g2,a1',a2,a4,r3.wf,g3,hm4',q1,g5,hv2,hm6',g6,hm7,g7,hlen]
   refine Nm.W.loop (fun n d=>∃T m' i f' q',d=⟨T, [],none,m'⟩/\NT.get D4.e T=some (.ptr p 0)/\NT.get D4.e.b T=some (.bool ok)/\NT.get D4.e.c.a.a T=some q'.ve/\NT.get D4.e.c.a.b T=some (ii (im.entry.length:Nat))/\NT.get D4.e.c.a.c T=some (ii (i:Nat))/\i+n=im.entry.length/\
    MaC im W w (N+1) f' m' p q' ⟨M.now,M.kept,(im.entry.take i).map nM,true,M.tr++l++ [⟨9,0,0,0⟩]⟩/\Kp TM f m f' m') ?_ im.entry.length _ ⟨_,m7,0,_,_,rfl,by simp only[go_sem,seval,t1],by simp only[go_sem,seval,t2],by simp only[go_sem,seval],by simp only[go_sem,seval],by simp only[go_sem,seval]<;>rfl,by omega,h7,kk7⟩
   clear h7 h6 h4 h3 h2 h kk7 k7 k6 k4 kk2 k2
   rintro n d ⟨T,mm,i,ff,qq,rfl,t1,t2,t3,t4,t5,hin,hI,hK8⟩
   apply aT
   unfold s8
   change wp _ _ _ _ ⟨aw [] T, [],none,mm⟩ _
   by_cases hlt:i<im.entry.length
   ·have hlen4:=hI.el
    obtain ⟨ide,offe,wre,cse,b1,b2,b3,b4,b5⟩:=hI.e.o.at i (by simpa using hlt)
    rw[List.getElem_map,List.getElem_map] at b5
    have b5':cse[offe]? =some (ii (im.entry[i]:Nat)):=gf b5 0 (by omega)
    have gI:=hI.g.g
    have oI:=hI.g.o
    have hcl:((im.entry.take i).map nM).length=i:=by rw[List.length_map,List.length_take];omega
    obtain ⟨v,x1,r1,b,f1,rfl,hb,kb,nb⟩:=xB (f:=ff) (m:=mm) (mp:=qq.mb.p) i (i:Nat) im.entry[i]
    have gx1:x1.get p=some (.cells true (jR w im.start qq true)):=(kb.g oI (by simp)).trans gI
    have ox1:=kb.old oI
    generalize hx2:hp [(.n 0,.cells true [.ptr b.r 0])] 1 x1=x2
    have hCx2:Chg [] x1 x2:=aQ hx2 rfl
    have gx2:x2.get p=some (.cells true (jR w im.start qq true)):=(hCx2.get ox1 (by simp)).trans gx1
    have gn2:x2.get (na x1 0)=some (.cells true [.ptr b.r 0]):=ba hx2
    have on2:aN x2 (na x1 0):=bn hx2 (by omega)
    have hcs2:=((hI.cs.kp kb (by simp)).kp (Kp.grow (T:=fun _=>False) hCx2) (by simp)).o
    obtain ⟨vcs',x3,p1,p2,p3,p4⟩:=hcs2.app2 (bytes:=8) (kc:=1) gn2 on2 rfl n0 (by simp only[List.length_map];have:=hI.len;simp only[hcl] at this;omega) (by simp only[List.length_map];have:=hI.len;simp only[hcl] at this;omega)
    have ox2:=hCx2.old ox1
    have ox3:=p3.old ox2
    have gx3:x3.get p=some (.cells true (jR w im.start qq true)):=by
     refine (p3.get ox2 fun hq=> ?_).trans gx2
     have u1:=hI.cs.c p hq
     have u2:=hI.g.c
     omega
    have hvs:=p2.sl.one
    have hvss:=hI.cs.o.sl.same (n:=3)
    rw[←an x3] at p1
    simp (config:={maxSteps:=1000000}) (disch:=first|assumption|omega|(apply ah;omega)|(apply aa;assumption)|(simp only[aJ]<;>omega)) only[go_sem,seval,t1,t2,t3,t4,t5,b1,b2,b5',gI,r1.wf,gx1,hx2,gx2,p1,gx3,hvs,hvss]
    generalize hx4:hp _ 0 x3=x4
    have hbb:CoC ((im.entry.take i).map nM).length f1 x1 qq.mb.p b (((im.entry.take i).map nM).length:Nat) (nM im.entry[i]):=by rw[hcl];exact hb
    obtain ⟨hn,kn⟩:=hI.core (by show ((im.entry.take i).map nM).length<4;rw[hcl];omega) hbb kb hCx2 (by rw[List.map_append];exact p2) p3 p4 hx4
    refine ⟨n - 1,by omega,_,x4,i+1,_,⟨qq.mb,vcs',qq.vt,qq.ve,qq.vc,qq.bs++ [b]⟩,by rfl,by simp only[go_sem,seval,t1],by simp only[go_sem,seval,t2],by simp only[go_sem,seval,t3],by simp only[go_sem,seval,t4],by simp only[go_sem,seval]<;>rfl,by omega, ?_,hK8.trans (kn.weak fun a=>H6)⟩
    rw[List.take_add_one,List.getElem?_eq_getElem hlt,List.map_append]
    exact hn
   ·simp (config:={maxSteps:=1000000}) (disch:=first|assumption|omega|(apply ah;omega)|(apply aa;assumption)|(simp only[aJ]<;>omega)) only[go_sem,seval,t1,t2,t3,t4,t5]
    have e2:i=im.entry.length:=by omega
    subst e2
    rw[List.take_length] at hI
    exact hK _ ⟨_,_,hI,hK8⟩
end
section
variable {f f':fO} {m m':NH} {p:D4} {q:Mq} {M:Mm} {im:Im} {W:List Int} {w:Int} {N:Nat}
theorem MaC.upd (h:MaC im W w N f m p q M) {j:Nat} {b b':Cb} {c':Co} (hj:j<M.cs.length) (hb:q.bs[j]? =some b) (hr:b'.r=b.r) (hc:CoC j f' m' q.mb.p b' j c') (hme:∃ver,MeC f' m' q.mb now kept ver N') (hk:Kp (fun a=>Tc j a∨lD a) f m f' m') (hN:N<=N') (hN':N'<=10000):
 MaC im W w N' f' m' p ⟨q.mb,q.vcs,q.vt,q.ve,q.vc,q.bs.set j b'⟩ ⟨now,kept,M.cs.set j c',M.on,M.tr⟩:=by
 have T5:∀{a},5<=a->a<=9->¬(Tc j a∨lD a):=by unfold Tc lD;omega
 refine ⟨h.g.kp hk (T5 (by omega) (by omega)),hme, ?_,⟨by simp only[List.length_set];exact h.len.1,by simp only[List.length_set];exact h.len.2⟩,fun k b0 c0 h1 h2=> ?_,h.t.kp hk (T5 (by omega) (by omega)),h.e.kp hk (T5 (by omega) (by omega)),h.c.kp hk (T5 (by omega) (by omega)),h.W,⟨by have:=h.tl;show M.tr.length<=3*N';omega,hN'⟩,h.el⟩
 ·have e:(q.bs.set j b').map (fun b=> [NV.ptr b.r 0])=q.bs.map fun b=> [NV.ptr b.r 0]:=by
   apply List.ext_getElem?
   intro k
   rw[List.getElem?_map,List.getElem?_map,List.getElem?_set]
   by_cases e:j=k
   ·subst e
    have hl:j<q.bs.length:=(List.getElem?_eq_some_iff.1 hb).1
    rw[I7 rfl,I7 hl,hb]
    simp[hr]
   ·rw[I6 e]
  show OwC 6 f' m' q.vcs 1 ((q.bs.set j b').map fun b=> [.ptr b.r 0])
  rw[e];exact h.cs.kp hk (T5 (by omega) (by omega))
 ·simp only at h1 h2
  rw[List.getElem?_set] at h1 h2
  by_cases e:j=k
  ·subst e
   have hl:j<q.bs.length:=by rw[h.len.1];exact hj
   rw[I7 rfl,I7 hl] at h1
   rw[I7 rfl,I7 hj] at h2
   cases h1;cases h2;exact hc
  ·rw[I6 e] at h1 h2
   exact (h.co k b0 c0 h1 h2).kp hk (by unfold Tc lD;omega)
theorem MaC.mem (h:MaC im W w N f m p q M) (hme:∃ver,MeC f' m' q.mb now kept ver N) (hk:Kp lD f m f' m'):MaC im W w N f' m' p q ⟨now,kept,M.cs,M.on,M.tr⟩:=by
 have T5:∀{a},5<=a->¬lD a:=by unfold lD;omega
 exact ⟨h.g.kp hk (T5 (by omega)),hme,h.cs.kp hk (T5 (by omega)),h.len,fun j b c h1 h2=>(h.co j b c h1 h2).kp hk ⟨T5 (by omega),T5 (by omega),T5 (by omega)⟩,h.t.kp hk (T5 (by omega)),h.e.kp hk (T5 (by omega)),h.c.kp hk (T5 (by omega)),h.W,h.tl,h.el⟩
theorem MaC.more (h:MaC im W w N f m p q M) (hN:N<=N') (hN':N'<=10000):MaC im W w N' f m p q M:=by
 obtain ⟨ver,hme⟩:=h.me
 exact ⟨h.g,⟨ver,hme.more hN⟩,h.cs,h.len,h.co,h.t,h.e,h.c,h.W,⟨by have:=h.tl;omega,hN'⟩,h.el⟩
theorem MaC.ev1 (h:MaC im W w N f m p q M) (hN:N<10000) {x:Ev} {n:D4} (gn:m.get n=some (.cells true [ii x.k,ii x.c,ii x.a,iu x.v])) (on:aN m n):
 ∃vt' m1 m2,pA 4 32 m q.vt (.slc n 0 1 4 1)= .mem vt' (hp [] 0 m1)/\hp [(.o p,.cells true [ii w,ii im.start,q.ve,q.vc,.ptr q.mb.p 0,q.vcs,.bool M.on,vt'])] 0 m1=m2/\m1.get p=some (.cells true (jR w im.start q M.on))/\aN m1 p/\cellsOf vt'=some [vt']/\
  MaC im W w (N+1) (aF f m 7) m2 p ⟨q.mb,q.vcs,vt',q.ve,q.vc,q.bs⟩ ⟨M.now,M.kept,M.cs,M.on,M.tr++ [x]⟩/\Kp TM f m (aF f m 7) m2:=by
 have htl:=h.tl
 obtain ⟨vt',m1,q1,q2,q3,q4⟩:=h.t.o.app2 (bytes:=32) (kc:=1) gn on rfl n0 (by simp only[List.length_map];omega) (by simp only[List.length_map];omega)
 obtain ⟨m2,hm2⟩:∃m2,hp [(.o p,.cells true (jR w im.start ⟨q.mb,q.vcs,vt',q.ve,q.vc,q.bs⟩ M.on))] 0 m1=m2:=⟨_,rfl⟩
 obtain ⟨h2,k2⟩:=h.trc (l:= [x]) (N':=N+1) (by omega) (by omega) (by simp only[List.length_singleton];omega) q2 q3 q4 hm2
 refine ⟨vt',m1,m2,by rw[an];exact q1,hm2,(q3.get h.g.o fun hq=> ?_).trans h.g.g,q3.old h.g.o,q2.sl.one,h2,k2.weak fun a=>uF⟩
 have u1:=h.t.c p hq
 have u2:=h.g.c
 omega
theorem uW (h:MaC im W w N f m p q M) (hN:N<10000):∃m',rT 19 [.ptr p 0] m (.bool true) m'/\∃f' q',MaC im W w (N+1) f' m' p q' (ft im M)/\Kp TM f m f' m':=by
 refine WF.ex1 fun K hK=> ?_
 refine WF.of_wpG (fun _=>rfl) sD (L:= [(.e,.ptr p 0)]) rfl ?_
 unfold EL
 have g:=h.g.g
 obtain ⟨ver,hme⟩:=h.me
 obtain ⟨m1,r1,hme1,k1⟩:=yJ hme
 have k1':Kp lD f m f m1:=k1.weak fun a ha=>by unfold lD;omega
 have h1:=h.mem ⟨ver,hme1⟩ k1'
 have g1:=h1.g.g
 have o1:=h1.g.o
 generalize hm2:hp [(.n 0,.cells true [ii 8,ii 0,ii 0,iu 0])] 1 m1=m2
 have hC2:Chg [] m1 m2:=aQ hm2 rfl
 have h2:=h1.grow hC2
 obtain ⟨vt',m3,m4,q1,hm4,g3,o3,hv,h4,k4⟩:=h2.ev1 hN (x:=⟨8,0,0,0⟩) (n:=na m1 0) (ba hm2) (bn hm2 (by omega))
 obtain ⟨m5,r5,f5,q5,h5,k5⟩:=sB h4
 rw[an]
 simp (config:={maxSteps:=1000000}) (disch:=first|assumption|omega|(apply ah;omega)|(apply aa;assumption)|(simp only[aJ]<;>omega)) only[go_sem,seval,g,r1.wf,g1,hm2,q1,g3,hv,hm4,r5.wf']
 exact hK _ ⟨f5,q5,h5,(k1'.weak fun a ha=>by unfold lD at ha;unfold TM;omega).trans ((Kp.grow hC2).trans (k4.trans k5))⟩
theorem zi (h:MaC im W w N f m p q M) (hN:N<10000) (n:Int):∃m',rT 18 [.ptr p 0,ii n] m (.bool (iQ n M).1) m'/\∃f' q',MaC im W w (N+1) f' m' p q' (iQ n M).2/\Kp TM f m f' m':=by
 refine WF.ex1 fun K hK=> ?_
 refine WF.of_wpG (fun _=>rfl) sf (L:= [(.a .e,ii n),(.e,.ptr p 0)]) rfl ?_
 unfold EJ
 have g:=h.g.g
 obtain ⟨ver,hme⟩:=h.me
 obtain ⟨m1,r1,hme1,k1⟩:=CM hme n
 have k1':Kp lD f m f m1:=k1.weak fun a ha=>by unfold lD;omega
 have h1:=h.mem ⟨ver,hme1⟩ k1'
 have kT:Kp TM f m f m1:=k1'.weak fun a ha=>by unfold lD at ha;unfold TM;omega
 by_cases hb:0<=n/\n*8<M.now.length
 ·rw[I7 hb] at h1
  rw[I9 hb] at r1
  have e:iQ n M=(true,⟨M.now,js n.toNat M.now M.kept,M.cs,M.on,M.tr++ [⟨7,0,n,0⟩]⟩):=by unfold iQ;rw[I6 (by omega)]
  rw[e] at hK
  have g1:=h1.g.g
  generalize hm2:hp [(.n 0,.cells true [ii 7,ii 0,ii n,iu 0])] 1 m1=m2
  have hC2:Chg [] m1 m2:=aQ hm2 rfl
  have h2:=h1.grow hC2
  obtain ⟨vt',m3,m4,q1,hm4,g3,o3,hv,h4,k4⟩:=h2.ev1 hN (x:=⟨7,0,n,0⟩) (n:=na m1 0) (ba hm2) (bn hm2 (by omega))
  have g4:=h4.g.g
  have hlen:=h4.cs.o.sl.len
  rw[List.length_map,h4.len.1] at hlen
  have kk4:Kp TM f m (aF f m2 7) m4:=kT.trans ((Kp.grow hC2).trans k4)
  rw[an]
  simp (config:={maxSteps:=1000000}) (disch:=first|assumption|omega|(apply ah;omega)|(apply aa;assumption)|(simp only[aJ]<;>omega)) only[go_sem,seval,g,r1.wf,g1,hm2,q1,g3,hv,hm4,g4,hlen]
  refine Nm.W.loop (fun k d=>∃T m' i f',d=⟨T, [],none,m'⟩/\NT.get D4.e.a T=some (ii n)/\NT.get D4.e.a.b.f T=some q.vcs/\NT.get D4.e.a.c.a T=some (ii (M.cs.length:Nat))/\NT.get D4.e.a.c.b T=some (ii (i:Nat))/\i+k=M.cs.length/\
   MaC im W w (N+1) f' m' p ⟨q.mb,q.vcs,vt',q.ve,q.vc,q.bs⟩ ⟨M.now,js n.toNat M.now M.kept,M.cs,M.on,M.tr++ [⟨7,0,n,0⟩]⟩/\Kp TM f m f' m') ?_ M.cs.length _ ⟨_,m4,0,_,rfl,by simp only[go_sem,seval],by simp only[go_sem,seval],by simp only[go_sem,seval],by simp only[go_sem,seval]<;>rfl,by omega,h4,kk4⟩
  clear h4 h2 h1 kk4 k4 hme hme1
  rintro k d ⟨T,mm,i,ff,rfl,t1,t2,t3,t4,hik,hI,hK8⟩
  apply aT
  unfold sa
  change wp _ _ _ _ ⟨aw [] T, [],none,mm⟩ _
  have hl4:M.cs.length<=4:=hI.len.2
  by_cases hlt:i<M.cs.length
  ·obtain ⟨b,c,b1,b2,hco,id,off,wr,cs,a1,a2,a3,a4⟩:=hI.at (j:=i) hlt
   have a1':iA 1 q.vcs (ii (i:Nat))= .val (.ptr id off):=a1
   obtain ⟨m5,r5,h5,k5⟩:=xe hco n
   simp (config:={maxSteps:=1000000}) (disch:=first|assumption|omega|(apply ah;omega)|(apply aa;assumption)|(simp only[aJ]<;>omega)) only[go_sem,seval,t1,t2,t3,t4,a1',a2,a4,r5.wf']
   obtain ⟨ver,hme⟩:=hI.me
   have hu:=hI.upd (j:=i) hlt b1 rfl h5 ⟨ver,hme.kp k5 (by unfold Tc;omega)⟩ (k5.weak fun a=>Or.inl) (Nat.le_refl _) hI.tl.2
   have e1:q.bs.set i b=q.bs:=by
    have:=(List.getElem?_eq_some_iff.1 b1).2
    rw[←this];exact List.set_getElem_self _
   have e2:M.cs.set i c=M.cs:=by
    have:=(List.getElem?_eq_some_iff.1 b2).2
    rw[←this];exact List.set_getElem_self _
   refine ⟨k - 1,by omega,_,m5,i+1,ff,by rfl,by simp only[go_sem,seval,t1],by simp only[go_sem,seval,t2],by simp only[go_sem,seval,t3],by simp only[go_sem,seval]<;>rfl,by omega, ?_,hK8.trans (k5.weak fun a ha=>by unfold Tc at ha;unfold TM;omega)⟩
   simp only[e1,e2] at hu
   exact hu
  ·simp (config:={maxSteps:=1000000}) (disch:=first|assumption|omega|(apply ah;omega)|(apply aa;assumption)|(simp only[aJ]<;>omega)) only[go_sem,seval,t1,t2,t3,t4]
   exact hK _ ⟨_,_,hI,hK8⟩
 ·rw[I6 hb] at h1
  rw[I8 hb] at r1
  have e:iQ n M=(false,M):=by unfold iQ;rw[I7 (by omega)]
  rw[e] at hK
  rw[an]
  simp (config:={maxSteps:=1000000}) (disch:=first|assumption|omega|(apply ah;omega)|(apply aa;assumption)|(simp only[aJ]<;>omega)) only[go_sem,seval,g,r1.wf']
  exact hK _ ⟨f,q,h1.more (by omega) (by omega),kT⟩
def FA (im:Im) (M:Mm):Prop:=(M.on=false->1<=M.cs.length)/\∀c∈M.cs,c.w.length<=1/\(∀y∈c.w,y.a<M.now.length)/\c.pc<=im.code.length/\∀i,im.code[c.pc]? =some i->vT i c M.now.length
theorem yq (id:Int) (code:List In) (now:List Int) (c:Co):(cS id code now c).2.1.length<=1:=by
 unfold cS
 split
 ·simp
 ·split
  ·simp
  ·rename_i i _
   cases i<;>simp only[cN]<;>(try split)<;>simp
theorem zc (id n:Int) (now:List Int) (c:Co):(cD id n now c).2.1.length<=1:=by
 unfold cD
 split
 ·simp
 ·split<;>simp
theorem mW (h:MaC im W w N f m p q M) (hN:N+2<=10000) (hS:FA im M) (k core n:Int):∃m',rT 10 [.ptr p 0,.agg [ii k,ii core,ii n]] m (.bool (bM im k core n M).1) m'/\∃f' q',MaC im W w (N+2) f' m' p q' (bM im k core n M).2/\Kp TM f m f' m':=by
 refine WF.ex1 fun K hK=> ?_
 refine WF.of_wpG (fun _=>rfl) sL (L:= [(.a .e,.agg [ii k,ii core,ii n]),(.e,.ptr p 0)]) rfl ?_
 unfold ER
 generalize hm1:hp [(.n 0,.cells true [ii k,ii core,ii n])] 1 m=m1
 have hC1:Chg [] m m1:=aQ hm1 rfl
 have gx:m1.get (na m 0)=some (.cells true [ii k,ii core,ii n]):=ba hm1
 have ox:aN m1 (na m 0):=bn hm1 (by omega)
 have k9:Kp (fun _=>False) f m (aF f m 9) m1:=Kp.of hC1 (by simp) 9
 have c9:aF f m 9 (na m 0)=9:=I6 aG
 have h1:=h.kp0 k9
 have k9':Kp TM f m (aF f m 9) m1:=k9.weak (by simp)
 by_cases k2:k=2
 ·obtain ⟨m2,r2,f2,q2,h2,kk2⟩:=zi h1 (by omega) n
  have e:bM im k core n M=iQ n M:=by unfold bM;rw[I7 k2]
  rw[e] at hK
  subst k2
  simp (config:={maxSteps:=1000000}) (disch:=first|assumption|omega|(apply ah;omega)|(apply aa;assumption)|(simp only[aJ]<;>omega)) only[go_sem,seval,hm1,gx,r2.wf']
  exact hK _ ⟨f2,q2,h2.more (by omega) (by omega),k9'.trans kk2⟩
 by_cases k3:k=3
 ·obtain ⟨m2,r2,f2,q2,h2,kk2⟩:=uW h1 (by omega)
  have e:bM im k core n M=(true,ft im M):=by unfold bM;rw[I6 k2,I7 k3]
  rw[e] at hK
  subst k3
  simp (config:={maxSteps:=1000000}) (disch:=first|assumption|omega|(apply ah;omega)|(apply aa;assumption)|(simp only[aJ]<;>omega)) only[go_sem,seval,hm1,gx,r2.wf']
  exact hK _ ⟨f2,q2,h2.more (by omega) (by omega),k9'.trans kk2⟩
 have g1:=h1.g.g
 have hlen:=h1.cs.o.sl.len
 rw[List.length_map,h1.len.1] at hlen
 by_cases c0:core<0
 ·have e:bM im k core n M=(false,M):=by unfold bM;rw[I6 k2,I6 k3,I7 c0]
  rw[e] at hK
  simp (config:={maxSteps:=1000000}) (disch:=first|assumption|omega|(apply ah;omega)|(apply aa;assumption)|(simp only[aJ]<;>omega)) only[go_sem,seval,hm1,gx,k2,k3,c0]
  exact hK _ ⟨_,q,h1.more (by omega) (by omega),k9'⟩
 by_cases c1:(M.cs.length:Int)<=core
 ·have e:bM im k core n M=(false,M):=by unfold bM;rw[I6 k2,I6 k3,I6 c0,List.getElem?_eq_none (by omega)]
  rw[e] at hK
  simp (config:={maxSteps:=1000000}) (disch:=first|assumption|omega|(apply ah;omega)|(apply aa;assumption)|(simp only[aJ]<;>omega)) only[go_sem,seval,hm1,gx,k2,k3,c0,g1,hlen]
  exact hK _ ⟨_,q,h1.more (by omega) (by omega),k9'⟩
 obtain ⟨j,rfl⟩:=Jd (show 0<=core by omega)
 have hj:j<M.cs.length:=by omega
 obtain ⟨b,c,b1,b2,hco,id,off,wr,cs,a1,a2,a3,a4⟩:=h1.at hj
 have e:bM im k j n M=fB im k n j c M:=by unfold bM;rw[I6 k2,I6 k3,I6 c0,Int.toNat_natCast,b2]
 rw[e] at hK
 obtain ⟨s1,s2,s3,s4⟩:=hS.2 c (List.mem_of_getElem? b2)
 obtain ⟨ver,hme⟩:=h1.me
 have hvs:=h1.cs.o.sl.same (n:=3)
 by_cases k0:k=0
 ·subst k0
  obtain ⟨v,m2,r2,u,w',f2,rfl,a5,a6,a7,a8⟩:=Em hco hme rfl h1.c h1.W s1 s4 s3
  have h2:=h1.upd (b':=⟨b.r,b.q,w'⟩) hj b1 rfl a5 ⟨ver,hme.kp a8 (by unfold Tc;omega)⟩ (a8.weak fun a=>Or.inl) (Nat.le_refl _) (by omega)
  have hlE:=yq j im.code M.now c
  obtain ⟨m3,r3,f3,q3,h3,k3'⟩:=xH h2 (by simp only[List.length_set];exact hS.1) (by omega) (by omega) a6 (cS j im.code M.now c).1
  have e2:fB im 0 n j c M=((cS j im.code M.now c).1,dC im (cS j im.code M.now c).2.1 ⟨M.now,M.kept,M.cs.set j (cS j im.code M.now c).2.2,M.on,M.tr⟩):=by unfold fB;rw[I7 rfl]
  rw[e2] at hK
  have gx2:m2.get (na m 0)=some (.cells true [ii 0,ii (j:Nat),ii n]):=(a8.g ox (by rw[c9];unfold Tc;omega)).trans gx
  simp (config:={maxSteps:=1000000}) (disch:=first|assumption|omega|(apply ah;omega)|(apply aa;assumption)|(simp only[aJ]<;>omega)) only[go_sem,seval,hm1,gx,g1,hlen,a1,a2,a4,hvs,r2.wf',gx2,r3.wf']
  exact hK _ ⟨f3,q3,h3.more (by omega) (by omega),k9'.trans ((a8.weak fun a ha=>by unfold Tc at ha;unfold TM;omega).trans k3')⟩
 by_cases kk1:k=1
 ·subst kk1
  obtain ⟨v,m2,r2,u,w',ver',f2,rfl,a5,a6,a7,a8,a9⟩:=Dt hco hme rfl (by omega) s1 s2 n
  have h2:=h1.upd (b':=⟨b.r,b.q,w'⟩) hj b1 rfl a5 ⟨ver',a6⟩ a9 (by omega) (by omega)
  have hlE:=zc j n M.now c
  obtain ⟨m3,r3,f3,q3,h3,k3'⟩:=xH h2 (by simp only[List.length_set];exact hS.1) (by omega) (by omega) a7 (cD j n M.now c).1
  have e2:fB im 1 n j c M=((cD j n M.now c).1,dC im (cD j n M.now c).2.1 ⟨(cD j n M.now c).2.2.2,M.kept,M.cs.set j (cD j n M.now c).2.2.1,M.on,M.tr⟩):=by unfold fB;rw[I6 k0,I7 rfl]
  rw[e2] at hK
  have gx2:m2.get (na m 0)=some (.cells true [ii 1,ii (j:Nat),ii n]):=(a9.g ox (by rw[c9];unfold Tc lD;omega)).trans gx
  simp (config:={maxSteps:=1000000}) (disch:=first|assumption|omega|(apply ah;omega)|(apply aa;assumption)|(simp only[aJ]<;>omega)) only[go_sem,seval,hm1,gx,g1,hlen,a1,a2,a4,hvs,r2.wf',gx2,r3.wf']
  exact hK _ ⟨f3,q3,h3.more (by omega) (by omega),k9'.trans ((a9.weak fun a ha=>by unfold Tc lD at ha;unfold TM;omega).trans k3')⟩
 ·have e2:fB im k n j c M=(false,M):=by unfold fB;rw[I6 k0,I6 kk1]
  rw[e2] at hK
  simp (config:={maxSteps:=1000000}) (disch:=first|assumption|omega|(apply ah;omega)|(apply aa;assumption)|(simp only[aJ]<;>omega)) only[go_sem,seval,hm1,gx,k2,k3,k0,kk1,g1,hlen,a1,a2,a4,hvs]
  exact hK _ ⟨_,q,h1.more (by omega) (by omega),k9'⟩
end
def zm (f:fO) (m:NH) (l:List Nat):fO:=fun i=>if aN m i then f i else (l[i.toNat - m.next.toNat]?).getD 9
theorem jM (f:fO) (m:NH) (l:List Nat) (j:Nat):zm f m l (na m j)=(l[j]?).getD 9:=by
 unfold zm
 rw[I6 aG]
 unfold na;rw[D4.toNat_of,Nat.add_sub_cancel_left]
theorem z6:cP .slc .eql .nils .nils=some (.bool true):=_root_.id rfl
theorem zY {id:D4} {n e k:Nat}:cP .slc .eql (.slc id off n e k) .nils=some (.bool false):=_root_.id rfl
section
variable {f f':fO} {m m':NH} {p:D4} {q:Mq} {M:Mm} {im:Im} {W:List Int} {w:Int} {N:Nat}
theorem HE  (h:Sl m v 1 C) (hl:C.length<=1000001):∃v' m',rT 23 [v] m v' m'/\bG m m' v' 1 C/\Chg [] m m':=by
 refine WF.ex fun K hK=> ?_
 refine WF.of_wpG (fun _=>rfl) r9 (L:= [(.e,v)]) rfl ?_
 unfold BM
 have h':=h
 obtain ⟨h0,⟨rfl,rfl⟩|⟨id,off,kc,w,c,rfl,h1,h2,h3,h4⟩⟩:=h'
 ·simp (config:={maxSteps:=1000000}) (disch:=first|assumption|omega|(apply ah;omega)|(apply aa;assumption)|(simp only[aJ]<;>omega)) only[go_sem,seval,z6]
  exact hK _ _ ⟨bG.nil,ef rfl⟩
 ·simp (config:={maxSteps:=1000000}) (disch:=first|assumption|omega|(apply ah;omega)|(apply aa;assumption)|(simp only[aJ]<;>omega)) only[go_sem,seval,zY]
  have hC1:Chg [] m (hp [(.n 0,.cells true [])] 1 m):=ef rfl
  have ho:bG m (hp [(.n 0,.cells true [])] 1 m) (.slc (na m 0) 0 0 1 0) 1 []:=bG.of (by simp) aG kW (ah (by omega)) rfl rfl rfl
  by_cases hC:C= []
  ·subst hC
   rw[ho.sl.appNil (h.grew hC1)]
   simp (config:={maxSteps:=1000000}) (disch:=first|assumption|omega|(apply ah;omega)|(apply aa;assumption)|(simp only[aJ]<;>omega)) only[go_sem,seval]
   exact hK _ _ ⟨ho,hC1⟩
  ·obtain ⟨v',m',e1,e2,e3⟩:=ho.app (bytes:=8) (h.grew hC1) hC (fun i hi=>hC1.old hi) (by simp;omega) (by simp;omega)
   rw[e1]
   simp (config:={maxSteps:=1000000}) (disch:=first|assumption|omega|(apply ah;omega)|(apply aa;assumption)|(simp only[aJ]<;>omega)) only[go_sem,seval]
   refine hK _ _ ⟨by simpa using e2,hC1.trans e3 fun i hi q=> ?_⟩
   simp only[ids,Jb,Ja,or_false] at hi
   subst hi;exact I5 q aG
theorem FD  (h:Sl m v 1 C) (hl:C.length<=1000001):∃v' m',rT 24 [v] m v' m'/\bG m m' v' 1 C/\Chg [] m m':=by
 refine WF.ex fun K hK=> ?_
 refine WF.of_wpG (fun _=>rfl) sZ (L:= [(.e,v)]) rfl ?_
 unfold CX
 have h':=h
 obtain ⟨h0,⟨rfl,rfl⟩|⟨id,off,kc,w,c,rfl,h1,h2,h3,h4⟩⟩:=h'
 ·simp (config:={maxSteps:=1000000}) (disch:=first|assumption|omega|(apply ah;omega)|(apply aa;assumption)|(simp only[aJ]<;>omega)) only[go_sem,seval,z6]
  exact hK _ _ ⟨bG.nil,ef rfl⟩
 ·simp (config:={maxSteps:=1000000}) (disch:=first|assumption|omega|(apply ah;omega)|(apply aa;assumption)|(simp only[aJ]<;>omega)) only[go_sem,seval,zY]
  have hC1:Chg [] m (hp [(.n 0,.cells true [])] 1 m):=ef rfl
  have ho:bG m (hp [(.n 0,.cells true [])] 1 m) (.slc (na m 0) 0 0 1 0) 1 []:=bG.of (by simp) aG kW (ah (by omega)) rfl rfl rfl
  by_cases hC:C= []
  ·subst hC
   rw[ho.sl.appNil (h.grew hC1)]
   simp (config:={maxSteps:=1000000}) (disch:=first|assumption|omega|(apply ah;omega)|(apply aa;assumption)|(simp only[aJ]<;>omega)) only[go_sem,seval]
   exact hK _ _ ⟨ho,hC1⟩
  ·obtain ⟨v',m',e1,e2,e3⟩:=ho.app (bytes:=4) (h.grew hC1) hC (fun i hi=>hC1.old hi) (by simp;omega) (by simp;omega)
   rw[e1]
   simp (config:={maxSteps:=1000000}) (disch:=first|assumption|omega|(apply ah;omega)|(apply aa;assumption)|(simp only[aJ]<;>omega)) only[go_sem,seval]
   refine hK _ _ ⟨by simpa using e2,hC1.trans e3 fun i hi q=> ?_⟩
   simp only[ids,Jb,Ja,or_false] at hi
   subst hi;exact I5 q aG
theorem Hs (n:Nat) (x:NV):rep n [x]=List.replicate n x:=by
 rw[pU];induction n with
 |zero=>rfl
 |succ n ih=>rw[List.replicate_succ,List.flatten_cons,ih,List.replicate_succ];rfl
theorem Dn (f:fO) {n:Nat} (hn:n<=64):∃v m',rT 25 [ii (n:Nat)] m v m'/\∃b f',v= .ptr b.p 0/\MeC f' m' b (List.replicate n 0) (List.replicate n 0) (List.replicate n 0) 0/\Kp (fun _=>False) f m f' m':=by
 refine WF.ex fun K hK=> ?_
 refine WF.of_wpG (fun _=>rfl) sC (L:= [(.e,ii (n:Nat))]) rfl ?_
 unfold CL
 have e1:min (n:Int) 64=n:=by omega
 have e2:max 0 (n:Int)=n:=by omega
 simp (config:={maxSteps:=1000000}) (disch:=first|assumption|omega|(apply ah;omega)|(apply aa;assumption)|(simp only[aJ]<;>omega)) only[go_sem,seval,e1,e2,Hs]
 generalize hM:hp _ 4 m=M
 have hC:Chg [] m M:=aQ hM rfl
 have g0:M.get (na m 0)=some (.cells true (List.replicate n (iu 0))):=ba hM
 have g1:M.get (na m 1)=some (.cells true (List.replicate n (iu 0))):=ba hM
 have g2:M.get (na m 2)=some (.cells true (List.replicate n (ii 0))):=ba hM
 have g3:M.get (na m 3)=some (.cells true [.slc (na m 0) 0 n 1 n,.slc (na m 1) 0 n 1 n,.slc (na m 2) 0 n 1 n]):=ba hM
 have fl:∀x:NV,List.replicate n x=(List.replicate n [x]).flatten:=fun x=>by
  have:=Hs n x;rw[pU] at this;exact this.symm
 have hk:Kp (fun _=>False) f m (zm f m [2,3,4,1]) M:=⟨hC.next,fun ho=>I7 ho,fun ho _=>hC.get ho (by simp)⟩
 refine hK _ _ ⟨⟨na m 3,.slc (na m 0) 0 n 1 n,.slc (na m 1) 0 n 1 n,.slc (na m 2) 0 n 1 n⟩,zm f m [2,3,4,1],rfl,⟨⟨g3,bn hM (by omega),jM f m _ 3⟩,⟨?_, ?_⟩,⟨?_, ?_⟩,⟨?_, ?_⟩,⟨by simp,by simp,by simpa using hn⟩,fun z hz=>by rw[(List.mem_replicate.1 hz).2];omega⟩,hk⟩
 ·rw[show lu (List.replicate n 0)=List.replicate n [iu 0] by simp]
  exact bG.of (by simp) qk g0 (bn hM (by omega)) (fl _) (by simp) (by simp)
 ·intro i hi;rw[one hi];exact jM f m _ 0
 ·rw[show lu (List.replicate n 0)=List.replicate n [iu 0] by simp]
  exact bG.of (by simp) qk g1 (bn hM (by omega)) (fl _) (by simp) (by simp)
 ·intro i hi;rw[one hi];exact jM f m _ 1
 ·rw[show jd (List.replicate n 0)=List.replicate n [ii 0] by simp]
  exact bG.of (by simp) qk g2 (bn hM (by omega)) (fl _) (by simp) (by simp)
 ·intro i hi;rw[one hi];exact jM f m _ 2
def IX (im:Im) (w:Nat):Mm:=⟨List.replicate w 0,List.replicate w 0, [nM im.start],false, []⟩
def fz:fO:=fun _=>0
theorem FK {n:Nat} (hn:n<=64) {ve vc:NV} (he:Sl m ve 1 (jd (im.entry.map Int.ofNat))) (hc:Sl m vc 1 (mM W)) (hW:CdOk W im.code) (hel:im.entry.length<=4):
 ∃v m',rT 12 [.agg [ii (n:Nat),ii (im.start:Nat),ve,vc]] m v m'/\∃p f' q,v= .ptr p 0/\MaC im W (n:Nat) 0 f' m' p q (IX im n)/\Kp (fun _=>False) fz m f' m':=by
 generalize hfz:fz=f
 refine WF.ex fun K hK=> ?_
 refine WF.of_wpG (fun _=>rfl) s6 (L:= [(.e,.agg [ii (n:Nat),ii (im.start:Nat),ve,vc])]) rfl ?_
 unfold E3
 generalize hm1:hp [(.n 0,.cells true [ii (n:Nat),ii (im.start:Nat),ve,vc])] 1 m=m1
 have hC1:Chg [] m m1:=aQ hm1 rfl
 have g1:m1.get (na m 0)=some (.cells true [ii (n:Nat),ii (im.start:Nat),ve,vc]):=ba hm1
 have o1:aN m1 (na m 0):=bn hm1 (by omega)
 have he1:=he.chg hC1 (by simp)
 have hc1:=hc.chg hC1 (by simp)
 have hlen:=he1.len
 simp only[List.length_map] at hlen
 have emin:min (im.entry.length:Int) 4=im.entry.length:=by omega
 simp (config:={maxSteps:=1000000}) (disch:=first|assumption|omega|(apply ah;omega)|(apply aa;assumption)|(simp only[aJ]<;>omega)) only[go_sem,seval,hm1,g1,hlen,emin]
 refine yQ he1 (a:=0) (b:=im.entry.length) (by omega) (by simp) (fun K=>by simp only[go_sem,seval]) (fun d K _=>by simp only[go_sem,seval]<;>rfl) ?_
 intro v1 hv1 _
 rw[List.drop_zero,Nat.sub_zero,List.take_of_length_le (by simp)] at hv1
 obtain ⟨ve2,m2,r2,a2,hC2⟩:=HE hv1 (by simp only[List.length_map];omega)
 have k12:Kp (fun _=>False) f m (aF f m1 8) m2:=(Kp.grow hC1).trans (Kp.of hC2 (by simp) 8)
 have hse:SlC 8 (aF f m1 8) m2 ve2 1 (jd (im.entry.map Int.ofNat)):=⟨a2.sl,fun i hi=>I6 (a2.new i hi)⟩
 have o2:=hC2.old o1
 generalize hm3:hp [(.o (na m 0),.cells true [ii (n:Nat),ii (im.start:Nat),ve2,vc])] 0 m2=m3
 have hC3:Chg [na m 0] m2 m3:=aQ hm3 rfl
 have g2:=(hC2.get o1 (by simp)).trans g1
 have g3:m3.get (na m 0)=some (.cells true [ii (n:Nat),ii (im.start:Nat),ve2,vc]):=by rw[←hm3];exact (bf o2).trans aL
 have o3:=hC3.old o2
 have nve:na m 0∉ids ve2:=fun hi=>a2.new _ hi o1
 have nvc:∀i∈ids vc,i≠na m 0:=fun i hi e=>aG (e▸hc.old i hi)
 have hC13:Chg [] m m3:=((hC1.trans hC2 (by simp)).weak (T:= [na m 0]) (by simp)).trans hC3 (fun i hi _=>hi) |>.weak fun i hi ho=>by rw[one hi] at ho;exact I5 ho aG
 have hse3:SlC 8 (aF f m1 8) m3 ve2 1 (jd (im.entry.map Int.ofNat)):=⟨hse.o.chg hC3 fun i hi=>by simp;rintro rfl;exact nve hi,hse.c⟩
 have hc3:=hc.chg hC13 (by simp)
 have hve2:=a2.sl.one
 obtain ⟨vc2,m4,r4,a4,hC4⟩:=FD hc3 (by rw[List.length_map,hW.l];have:=hW.s;omega)
 have k34:Kp (fun _=>False) (aF f m1 8) m3 (aF (aF f m1 8) m3 8) m4:=Kp.of hC4 (by simp) 8
 have hsc:SlC 8 (aF (aF f m1 8) m3 8) m4 vc2 1 (mM W):=⟨a4.sl,fun i hi=>I6 (a4.new i hi)⟩
 have hse4:=hse3.kp k34 (by simp)
 have o4:=hC4.old o3
 generalize hm5:hp [(.o (na m 0),.cells true [ii (n:Nat),ii (im.start:Nat),ve2,vc2])] 0 m4=m5
 have hC5:Chg [na m 0] m4 m5:=aQ hm5 rfl
 have g4:=(hC4.get o3 (by simp)).trans g3
 have g5:m5.get (na m 0)=some (.cells true [ii (n:Nat),ii (im.start:Nat),ve2,vc2]):=by rw[←hm5];exact (bf o4).trans aL
 have o5:=hC5.old o4
 have nvc2:na m 0∉ids vc2:=fun hi=>a4.new _ hi o3
 have hC15:Chg [] m m5:=((hC13.trans hC4 (by simp)).weak (T:= [na m 0]) (by simp)).trans hC5 (fun i hi _=>hi) |>.weak fun i hi ho=>by rw[one hi] at ho;exact I5 ho aG
 have hse5:SlC 8 (aF (aF f m1 8) m3 8) m5 ve2 1 (jd (im.entry.map Int.ofNat)):=⟨hse4.o.chg hC5 fun i hi=>by simp;rintro rfl;exact nve hi,hse4.c⟩
 have hsc5:SlC 8 (aF (aF f m1 8) m3 8) m5 vc2 1 (mM W):=⟨hsc.o.chg hC5 fun i hi=>by simp;rintro rfl;exact nvc2 hi,hsc.c⟩
 have hvc2:=a4.sl.one
 generalize hF:aF (aF f m1 8) m3 8=F at *
 have kF:Kp (fun _=>False) f m F m5:=⟨hC15.next,fun ho=>by
  rw[←hF]
  have h1:aN m1 _:=hC1.old ho
  have h3:aN m3 _:=hC13.old ho
  exact (I7 h3).trans (I7 h1),fun ho _=>hC15.get ho (by simp)⟩
 obtain ⟨v6,m6,r6,mb,F2,rfl,hme,k6⟩:=Dn (m:=m5) F hn
 have g6:=(k6.g o5 (by simp)).trans g5
 have kc2:=hse5.o.same (n:=3)
 have kc3:=hsc5.o.same (n:=3)
 have hs4:bi 4 (.agg [ii (n:Nat),ii (im.start:Nat),ve2,vc2]) (.agg [ii (n:Nat),ii (im.start:Nat),ve2,vc2])=true:=d6 fun v hv=>by
  simp only[Jb,Ja,or_false] at hv
  rcases hv with rfl|rfl|rfl|rfl
  ·trivial
  ·trivial
  ·exact hse5.o.flat
  ·exact hsc5.o.flat
 generalize hm7:hp [(.n 0,.cells true (jR n im.start ⟨mb,.nils,.nils,ve2,vc2, []⟩ false))] 1 m6=m7
 have hC7:Chg [] m6 m7:=aQ hm7 rfl
 have k7:Kp (fun _=>False) F2 m6 (aF F2 m6 5) m7:=Kp.of hC7 (by simp) 5
 have h7:MaC im W n 0 (aF F2 m6 5) m7 (na m6 0) ⟨mb,.nils,.nils,ve2,vc2, []⟩ ⟨List.replicate n 0,List.replicate n 0, [],false, []⟩:=
  ⟨⟨ba hm7,bn hm7 (by omega),I6 aG⟩,⟨_,hme.kp k7 (by simp)⟩,⟨bG.nil,by simp[ids]⟩,⟨rfl,by simp⟩,fun j b c hb=>by simp at hb,⟨bG.nil,by simp[ids]⟩,(hse5.kp k6 (by simp)).kp k7 (by simp),(hsc5.kp k6 (by simp)).kp k7 (by simp),hW,by simp,hel⟩
 obtain ⟨m8,r8,f8,q8,h8,k8⟩:=sB h7
 have hm7':=hm7
 unfold jR at hm7'
 simp (config:={maxSteps:=1000000}) (disch:=first|assumption|omega|(apply ah;omega)|(apply aa;assumption)|(simp only[aJ]<;>omega)) only[go_sem,seval,r2.wf,g2,hve2,hm3,r4.wf,g4,hvc2,hm5,g5,r6.wf,g6,hs4,g3,kc2,kc3,hm7',r8.wf']
 refine hK _ _ ⟨_,f8,q8,rfl,h8, ?_⟩
 have k57:=kF.trans (k6.trans k7)
 exact ⟨Nat.le_trans k57.n k8.n,fun ho=>(k8.c (k57.old ho)).trans (k57.c ho),fun ho _=>(k8.g (k57.old ho) (by rw[k57.c ho,←hfz];unfold TM fz;omega)).trans (k57.g ho (by simp))⟩
end
section
variable {f f':fO} {m m':NH} {p:D4} {q:Mq} {M:Mm} {im:Im} {W:List Int} {w:Int} {N:Nat}
theorem uz (l:List Ev) {i:Nat} (hi:i<l.length):eI (l.take (i+1))=eI (l.take i)++(if l[i].k=4 then [l[i].v] else []):=by
 rw[List.take_add_one,List.getElem?_eq_getElem hi,kB]
 congr 1
 unfold eI
 by_cases h:l[i].k=4<;>simp[h]
theorem vZ (l:List Ev):(eI l).length<=l.length:=by
 unfold eI;rw[List.length_map];exact List.length_filter_le _ _
theorem G3 (h:MaC im W w N f m p q M):∃v m',rT 11 [.ptr p 0] m v m'/\bG m m' v 1 (lu (eI M.tr))/\Chg [] m m':=by
 refine WF.ex fun K hK=> ?_
 refine WF.of_wpG (fun _=>rfl) rq (L:= [(.e,.ptr p 0)]) rfl ?_
 unfold DU
 have g:=h.g.g
 have hlen:=h.t.o.sl.len
 rw[List.length_map] at hlen
 have htl:=h.tl
 rw[an]
 simp (config:={maxSteps:=1000000}) (disch:=first|assumption|omega|(apply ah;omega)|(apply aa;assumption)|(simp only[aJ]<;>omega)) only[go_sem,seval,g,hlen]
 refine Nm.W.loop (fun n d=>∃T M' i u,d=⟨T, [],none,M'⟩/\NT.get D4.e.c T=some u/\NT.get D4.e.b.a T=some q.vt/\NT.get D4.e.b.b T=some (ii (M.tr.length:Nat))/\NT.get D4.e.b.c T=some (ii (i:Nat))/\i+n=M.tr.length/\bG m M' u 1 (lu (eI (M.tr.take i)))/\Chg [] m M') ?_ M.tr.length _ ⟨_,m,0,.nils,rfl,by simp only[go_sem,seval],by simp only[go_sem,seval],by simp only[go_sem,seval],by simp only[go_sem,seval]<;>rfl,by omega,bG.nil,Chg.refl m⟩
 rintro n d ⟨T,m1,i,u,rfl,t1,t2,t3,t4,hin,ho,hC⟩
 apply aT
 unfold sg
 change wp _ _ _ _ ⟨aw [] T, [],none,m1⟩ _
 by_cases hi:i<M.tr.length
 ·obtain ⟨id,off,wr,cs,a1,a2,a3,a4,a5⟩:=h.t.o.sl.at i (by simpa using hi)
  rw[List.getElem_map] at a5
  have a2':=(hC.get a3 (by simp)).trans a2
  have et:=uz M.tr hi
  have hol:=vZ (M.tr.take i)
  rw[List.length_take] at hol
  generalize hm2:hp [(.n 0,.cells true [ii M.tr[i].k,ii M.tr[i].c,ii M.tr[i].a,iu M.tr[i].v]),(.n 0,.cells true [ii 0,ii 0,ii 0,iu 0])] 1 m1=m2
  have hC2:Chg [] m1 m2:=aQ hm2 rfl
  have g2:m2.get (na m1 0)=some (.cells true [ii M.tr[i].k,ii M.tr[i].c,ii M.tr[i].a,iu M.tr[i].v]):=ba hm2
  have a1':iA 4 q.vt (ii (i:Nat))= .val (.ptr id off):=a1
  by_cases h4:M.tr[i].k=4
  ·rw[I7 h4] at et
   rw[h4] at hm2 g2 a5
   generalize hm3:hp [(.n 0,.cells true [iu M.tr[i].v])] 1 m2=m3
   have hC3:Chg [] m2 m3:=aQ hm3 rfl
   obtain ⟨u',m4,q1,q2,q3⟩:=((ho.chg hC2 (by simp)).chg hC3 (by simp)).app1 (bytes:=8) (kc:=1) (x:=na m2 0) (cs:= [iu M.tr[i].v]) (ba hm3) (bn hm3 (by omega)) rfl (fun i hi=>hC3.old (hC2.old (hC.old hi))) (by simp only[List.length_map];omega) (by simp only[List.length_map];omega)
   rw[←an m1]
   simp (config:={maxSteps:=1000000}) (disch:=first|assumption|omega|(apply ah;omega)|(apply aa;assumption)|(simp only[aJ]<;>omega)) only[go_sem,seval,t1,t2,t3,t4,a1',a2',a5,hm2,g2]
   rw[←an m2]
   simp (config:={maxSteps:=1000000}) (disch:=first|assumption|omega|(apply ah;omega)|(apply aa;assumption)|(simp only[aJ]<;>omega)) only[go_sem,seval,hm3,q1,t4]
   refine ⟨n - 1,by omega,_,m4,i+1,u',by rfl,by simp only[go_sem,seval],by simp only[go_sem,seval,t2],by simp only[go_sem,seval,t3],by simp only[go_sem,seval]<;>rfl,by omega, ?_, ?_⟩
   ·rw[et,show lu (eI (M.tr.take i)++ [M.tr[i].v])=lu (eI (M.tr.take i))++ [[iu M.tr[i].v]] by simp];exact q2
   ·exact ((hC.trans hC2 (by simp)).trans hC3 (by simp)).trans q3 fun j hj hjo=>I5 hjo (ho.new j hj)
  ·rw[I6 h4,List.append_nil] at et
   rw[←an m1]
   simp (config:={maxSteps:=1000000}) (disch:=first|assumption|omega|(apply ah;omega)|(apply aa;assumption)|(simp only[aJ]<;>omega)) only[go_sem,seval,t1,t2,t3,t4,a1',a2',a5,hm2,g2,h4]
   refine ⟨n - 1,by omega,_,m2,i+1,u,by rfl,by simp only[go_sem,seval,t1],by simp only[go_sem,seval,t2],by simp only[go_sem,seval,t3],by simp only[go_sem,seval]<;>rfl,by omega, ?_,hC.trans hC2 (by simp)⟩
   rw[et];exact ho.chg hC2 (by simp)
 ·simp (config:={maxSteps:=1000000}) (disch:=first|assumption|omega|(apply ah;omega)|(apply aa;assumption)|(simp only[aJ]<;>omega)) only[go_sem,seval,t1,t2,t3,t4]
  rw[List.take_of_length_le (by omega)] at ho
  exact hK _ _ ⟨ho,hC⟩
theorem GI (h:MaC im W w N f m p q M):∃v m',rT 50 [q.vcs,.fn 29 []] m v m'/\(∃z,v=ii z/\(0<=z↔M.cs.all bX=false))/\Chg [] m m':=by
 refine WF.ex fun K hK=> ?_
 refine WF.of_wpG (fun _=>rfl) rm (L:= [(.a .e,.fn 29 []),(.e,q.vcs)]) rfl ?_
 unfold CU
 have hlen:=h.cs.o.sl.len
 rw[List.length_map,h.len.1] at hlen
 have hl4:=h.len.2
 rw[an]
 simp (config:={maxSteps:=1000000}) (disch:=first|assumption|omega|(apply ah;omega)|(apply aa;assumption)|(simp only[aJ]<;>omega)) only[go_sem,seval,hlen]
 refine Nm.W.loop (fun n d=>∃T M' i,d=⟨T, [],none,M'⟩/\NT.get D4.e T=some q.vcs/\NT.get D4.e.a T=some (.fn 29 [])/\NT.get D4.e.a.c T=some (ii (M.cs.length:Nat))/\NT.get D4.e.a.f T=some (ii (i:Nat))/\i+n=M.cs.length/\(M.cs.take i).all bX=true/\Chg [] m M') ?_ M.cs.length _ ⟨_,m,0,rfl,by simp only[go_sem,seval],by simp only[go_sem,seval],by simp only[go_sem,seval],by simp only[go_sem,seval]<;>rfl,by omega,rfl,Chg.refl m⟩
 rintro n d ⟨T,m1,i,rfl,t1,t2,t3,t4,hin,hq,hC⟩
 apply aT
 unfold sV
 change wp _ _ _ _ ⟨aw [] T, [],none,m1⟩ _
 by_cases hi:i<M.cs.length
 ·obtain ⟨b,c,b1,b2,hco,id,off,wr,cs,a1,a2,a3,a4⟩:=(h.grow hC).at hi
  have hci:M.cs[i]=c:=(List.getElem?_eq_some_iff.1 b2).2
  have r1:∃m',rT 29 [.ptr b.r 0] m1 (.bool (!bX c)) m'/\Chg [] m1 m':=by
   refine WF.ex1 fun K hK=> ?_
   refine WF.of_wpG (fun _=>rfl) rZ (L:= [(.e,.ptr b.r 0)]) rfl ?_
   unfold Do
   obtain ⟨m2,r2,hC2⟩:=rS hco
   rw[an]
   simp (config:={maxSteps:=1000000}) (disch:=first|assumption|omega|(apply ah;omega)|(apply aa;assumption)|(simp only[aJ]<;>omega)) only[go_sem,seval,r2.wf']
   exact hK _ hC2
  obtain ⟨m2,r2,hC2⟩:=r1
  cases hqc:bX c with
  |true=>
   rw[hqc] at r2
   simp (config:={maxSteps:=1000000}) (disch:=first|assumption|omega|(apply ah;omega)|(apply aa;assumption)|(simp only[aJ]<;>omega)) only[go_sem,seval,t1,t2,t3,t4,a1,a2,a4,r2.wf']
   refine ⟨n - 1,by omega,_,m2,i+1,by rfl,by simp only[go_sem,seval,t1],by simp only[go_sem,seval,t2],by simp only[go_sem,seval,t3],by simp only[go_sem,seval]<;>rfl,by omega, ?_,hC.trans hC2 (by simp)⟩
   rw[List.take_add_one,b2,List.all_append,hq]
   simp[hqc]
  |false=>
   rw[hqc] at r2
   simp (config:={maxSteps:=1000000}) (disch:=first|assumption|omega|(apply ah;omega)|(apply aa;assumption)|(simp only[aJ]<;>omega)) only[go_sem,seval,t1,t2,t3,t4,a1,a2,a4,r2.wf']
   refine hK _ _ ⟨⟨i,rfl,fun _=> ?_,fun _=>by omega⟩,hC.trans hC2 (by simp)⟩
   rw[List.all_eq_false]
   exact ⟨c,List.mem_of_getElem? b2,by rw[hqc];simp⟩
 ·simp (config:={maxSteps:=1000000}) (disch:=first|assumption|omega|(apply ah;omega)|(apply aa;assumption)|(simp only[aJ]<;>omega)) only[go_sem,seval,t1,t2,t3,t4]
  rw[List.take_of_length_le (by omega)] at hq
  exact hK _ _ ⟨⟨-1,rfl,fun h=>by omega,fun h=>by rw[hq] at h;cases h⟩,hC⟩
def rE (M:Mm):Bool:=M.on&&M.cs.all bX
theorem yp (h:MaC im W w N f m p q M):∃m',rT 14 [.ptr p 0] m (.bool (rE M)) m'/\Chg [] m m':=by
 refine WF.ex1 fun K hK=> ?_
 refine WF.of_wpG (fun _=>rfl) sX (L:= [(.e,.ptr p 0)]) rfl ?_
 unfold Dy
 have g:=h.g.g
 unfold rE at hK
 cases hon:M.on with
 |false=>
  simp only[hon] at g
  rw[hon] at hK
  rw[an]
  simp (config:={maxSteps:=1000000}) (disch:=first|assumption|omega|(apply ah;omega)|(apply aa;assumption)|(simp only[aJ]<;>omega)) only[go_sem,seval,g]
  exact hK _ (Chg.refl m)
 |true=>
  simp only[hon] at g
  rw[hon] at hK
  obtain ⟨v,m1,r1,⟨z,rfl,hz⟩,hC1⟩:=GI h
  have r2:∃m',rT 28 [q.vcs,.fn 29 []] m (.bool (!M.cs.all bX)) m'/\Chg [] m m':=by
   refine WF.ex1 fun K hK=> ?_
   refine WF.of_wpG (fun _=>rfl) sn (L:= [(.a .e,.fn 29 []),(.e,q.vcs)]) rfl ?_
   unfold EU
   rw[an]
   cases hall:M.cs.all bX with
   |true=>
    rw[hall] at hz hK
    have:¬0<=z:=fun h=>by have:=hz.1 h;cases this
    simp (config:={maxSteps:=1000000}) (disch:=first|assumption|omega|(apply ah;omega)|(apply aa;assumption)|(simp only[aJ]<;>omega)) only[go_sem,seval,r1.wf',this]
    exact hK _ hC1
   |false=>
    rw[hall] at hz hK
    have:0<=z:=hz.2 rfl
    simp (config:={maxSteps:=1000000}) (disch:=first|assumption|omega|(apply ah;omega)|(apply aa;assumption)|(simp only[aJ]<;>omega)) only[go_sem,seval,r1.wf',this]
    exact hK _ hC1
  obtain ⟨m2,r2,hC2⟩:=r2
  rw[an]
  simp (config:={maxSteps:=1000000}) (disch:=first|assumption|omega|(apply ah;omega)|(apply aa;assumption)|(simp only[aJ]<;>omega)) only[go_sem,seval,g,r2.wf',Bool.not_not]
  exact hK _ hC2
end
abbrev iV (l:List In):List (List NV):=l.map be
def vQ (w:Int) (i:In):Prop:=S0 27 [.agg (be i)]=some (.tup [iw w,ii 0])
section
variable {m m':NH}
theorem yz {l:List In} {W:List Int} (hv:Sl m v 7 (iV l)) (hl:l.length<=1000) (hW:W.length=l.length) (hE:∀n (hn:n<l.length),vQ (W[n]'(by omega)) l[n]):
 ∃u m',rT 13 [v] m u m'/\bG m m' u 1 (mM W)/\Chg [] m m':=by
 refine WF.ex fun K hK=> ?_
 refine WF.of_wpG (fun _=>rfl) s9 (L:= [(.e,v)]) rfl ?_
 unfold Ez
 have hlen:=hv.len
 rw[List.length_map] at hlen
 rw[an]
 simp (config:={maxSteps:=1000000}) (disch:=first|assumption|omega|(apply ah;omega)|(apply aa;assumption)|(simp only[aJ]<;>omega)) only[go_sem,seval,hlen]
 refine Nm.W.loop (fun n d=>∃T M' i u,d=⟨T, [],none,M'⟩/\NT.get D4.e T=some v/\NT.get D4.e.c T=some u/\NT.get D4.e.f T=some (ii (i:Nat))/\i+n=l.length/\bG m M' u 1 (mM (W.take i))/\Chg [] m M') ?_ l.length _ ⟨_,m,0,.nils,rfl,by simp only[go_sem,seval],by simp only[go_sem,seval],by simp only[go_sem,seval]<;>rfl,by omega,bG.nil,Chg.refl m⟩
 rintro n d ⟨T,m1,i,u,rfl,t1,t2,t3,hin,ho,hC⟩
 apply aT
 unfold sP
 change wp _ _ _ _ ⟨aw [] T, [],none,m1⟩ _
 have hlen1:=(hv.chg hC (by simp)).len
 rw[List.length_map] at hlen1
 by_cases hi:i<l.length
 ·obtain ⟨id,off,wr,cs,a1,a2,a3,a4,a5⟩:=(hv.chg hC (by simp)).at i (by simpa using hi)
  rw[List.getElem_map] at a5
  have a4':off+7<=cs.length:=a4
  have r1:∀m,rT 27 [.agg (be l[i])] m (.tup [iw W[i],ii 0]) m:=fun m=>lN.kept (hE i hi) m
  have hil:=ic l[i]
  generalize hm2:hp [(.n 0,.cells true [iw W[i]])] 1 m1=m2
  have hC2:Chg [] m1 m2:=aQ hm2 rfl
  obtain ⟨u',m4,q1,q2,q3⟩:=(ho.chg hC2 (by simp)).app1 (bytes:=4) (kc:=1) (x:=na m1 0) (cs:= [iw W[i]]) (ba hm2) (bn hm2 (by omega)) rfl (fun i hi=>hC2.old (hC.old hi)) (by simp only[List.length_map,List.length_take];omega) (by simp only[List.length_map,List.length_take];omega)
  simp (config:={maxSteps:=1000000}) (disch:=first|assumption|omega|(apply ah;omega)|(apply aa;assumption)|(simp only[aJ]<;>omega)) only[go_sem,seval,t1,t2,t3,hlen1,a1,a2,a5,(r1 _).wf,hm2,q1]
  refine ⟨n - 1,by omega,_,m4,i+1,u',by rfl,by simp only[go_sem,seval,t1],by simp only[go_sem,seval],by simp only[go_sem,seval]<;>rfl,by omega, ?_,(hC.trans hC2 (by simp)).trans q3 fun j hj hjo=>I5 hjo (ho.new j hj)⟩
  rw[List.take_add_one,List.getElem?_eq_getElem (by omega)]
  have e:mM (W.take i++(some W[i]).toList)=mM (W.take i)++ [[iw W[i]]]:=List.map_append
  rw[e];exact q2
 ·simp (config:={maxSteps:=1000000}) (disch:=first|assumption|omega|(apply ah;omega)|(apply aa;assumption)|(simp only[aJ]<;>omega)) only[go_sem,seval,t1,t2,t3,hlen1]
  rw[List.take_of_length_le (by omega)] at ho
  exact hK _ _ ⟨ho,hC⟩
theorem xW {B:NH} {l l2:List In} (hv:bG B m v 7 (iV l)) (hu:Sl m u 7 (iV l2)) (h2:l2≠ []) (hB:∀id,aN B id->aN m id) (hl:l.length+l2.length<=1000):
 ∃v' m',pA 7 56 m v u= .mem v' m'/\bG B m' v' 7 (iV (l++l2))/\Chg (ids v) m m'/\∀i∈ids v',i∈ids v∨¬aN m i:=by
 obtain ⟨v',m',a,b,c⟩:=hv.app (bytes:=56) hu (by simpa using h2) hB (by simp only[List.length_map];omega) (by simp only[List.length_map];omega)
 exact ⟨v',m',a,by rw[show iV (l++l2)=iV l++iV l2 by simp];exact b,c,ql a⟩
end
def lZ:List Int->List In->Prop
 | [], []=>True
 |w::ws,i::is=>(Kept w i/\y6 i/\vQ w i)/\lZ ws is
 |_,_=>False
theorem lZ.len:∀{W:List Int} {l:List In},lZ W l->W.length=l.length
 | [], [],_=>rfl
 |_::_,_::_,h=>by simp[lZ.len h.2]
 | [],_::_,h=>h.elim
 |_::_, [],h=>h.elim
theorem lZ.at:∀{W:List Int} {l:List In},lZ W l->∀(n:Nat) (h1:n<W.length) (h2:n<l.length),Kept W[n] l[n]/\y6 l[n]/\vQ W[n] l[n]
 |w::ws,i::is,h,0,_,_=>h.1
 |w::ws,i::is,h,n+1,h1,h2=>lZ.at h.2 n (by simpa using h1) (by simpa using h2)
 | [], [],_,n,h1,_=>by simp at h1
 | [],_::_,h,_,_,_=>h.elim
 |_::_, [],h,_,_,_=>h.elim
theorem lZ.cd {W:List Int} {l:List In} (h:lZ W l) (hs:l.length<100000):CdOk W l:=
 ⟨h.len,fun n i hi=>by
  obtain ⟨h1,h2⟩:=List.getElem?_eq_some_iff.1 hi
  have hw:n<W.length:=by rw[h.len];exact h1
  obtain ⟨a,b,-⟩:=h.at n hw h1
  rw[h2] at a b
  exact ⟨W[n],List.getElem?_eq_getElem hw,a,b⟩,hs⟩
section
variable {m m':NH}
end
def sU (i:Nat):List In:= [.movz 0 77,.svc,.hlt]++(List.range i).flatMap fun i=> [.movz 0 i,.svc,.hlt]
def tJ (i:Nat):List Nat:=(List.range i).map fun i=>3+3*i
def gb (n:Nat):Im:=⟨0,tJ n,sU n⟩
theorem nP (i:Nat):sU (i+1)=sU i++ [.movz 0 i,.svc,.hlt]:=by unfold sU;rw[List.range_succ,List.flatMap_append];simp
theorem jQ (i:Nat):(sU i).length=3+3*i:=by
 induction i with
 |zero=>rfl
 |succ i ih=>rw[nP,List.length_append,ih];simp;omega
theorem wq (i:Nat):tJ (i+1)=tJ i++ [3+3*i]:=by unfold tJ;rw[List.range_succ,List.map_append];rfl
theorem sE (i:Nat):(tJ i).length=i:=by unfold tJ;simp
structure InvR (im:Im) (M:Mm):Prop where
 c:∀c∈M.cs,c.w= []/\c.pc<=im.code.length
 o:M.on=false->1<=M.cs.length
theorem rP {n:Nat} {i:In} (h:i∈sU n):(∃d k,i= .movz d k)∨i= .svc∨i= .hlt:=by
 unfold sU at h
 rcases List.mem_append.1 h with h|h
 ·simp at h;rcases h with rfl|rfl|rfl<;>simp
 ·obtain ⟨j,-,h⟩:=List.mem_flatMap.1 h
  simp at h;rcases h with rfl|rfl|rfl<;>simp
theorem InvR.ok {n:Nat} {M:Mm} (h:InvR (gb n) M):FA (gb n) M:=by
 refine ⟨h.o,fun c hc=> ?_⟩
 obtain ⟨h1,h2⟩:=h.c c hc
 refine ⟨by rw[h1];simp,by rw[h1];simp,h2,fun i hi=> ?_⟩
 rcases rP (List.mem_of_getElem? hi) with ⟨d,k,rfl⟩|rfl|rfl<;>trivial
theorem CB {n:Nat} {id:Int} {c:Co} (h:c.w= []/\c.pc<=(gb n).code.length):(cS id (gb n).code now c).2.2.w= []/\(cS id (gb n).code now c).2.2.pc<=(gb n).code.length:=by
 unfold cS
 split
 ·exact h
 ·split
  ·exact h
  ·rename_i i hi
   have hl:=(List.getElem?_eq_some_iff.1 hi).1
   rcases rP (List.mem_of_getElem? hi) with ⟨d,k,rfl⟩|rfl|rfl<;>exact ⟨h.1,hl⟩
theorem Fg {n:Nat} {l:List Ev} {M:Mm} (h:InvR (gb n) M):InvR (gb n) (dC (gb n) l M):=by
 unfold dC
 split
 ·exact ⟨h.c,h.o⟩
 ·refine ⟨fun c hc=> ?_,fun e=>by cases e⟩
  obtain ⟨e,he,rfl⟩:=List.mem_map.1 hc
  refine ⟨rfl, ?_⟩
  show e<=(sU n).length
  obtain ⟨j,hj,rfl⟩:=List.mem_map.1 (show e∈tJ n from he)
  rw[jQ];have:=List.mem_range.1 hj;omega
theorem EO {n:Nat} {M:Mm} (h:InvR (gb n) M) (k c:Int) (hk:k=0∨k=3):InvR (gb n) (bM (gb n) k c 0 M).2:=by
 unfold bM
 rw[I6 (by omega)]
 by_cases k3:k=3
 ·rw[I7 k3]
  exact ⟨fun c hc=>by
   have:c=nM 0:=by simpa [ft,g9,gb] using hc
   subst this;exact ⟨rfl,Nat.zero_le _⟩,fun _=>by simp[ft,g9]⟩
 rw[I6 k3]
 split
 ·exact h
 ·split
  ·exact h
  ·rename_i cc hcc
   have h0:=h.c cc (List.mem_of_getElem? hcc)
   unfold fB
   rw[I7 (by omega)]
   refine Fg ⟨fun c' hc'=> ?_,fun e=>by simp only[List.length_set];exact h.o e⟩
   rcases List.mem_or_eq_of_mem_set hc' with hc'|rfl
   ·exact h.c c' hc'
   ·exact CB h0
def tF (tr:List Ev):Mm:=⟨[], [], [nM 0],false,tr⟩
def mG (p:Nat):Int:=if p<3 then 0 else ((p - 3) / 3:Nat)
def dy (n:Nat) (tr:List Ev):Nat->Mm
 |0=>tF tr
 |p+1=>(bM (gb n) 0 (mG p) 0 (dy n tr p)).2
theorem iI (n:Nat) (tr:List Ev):∀p,InvR (gb n) (dy n tr p)
 |0=>⟨fun c hc=>by
  have:c=nM 0:=by simpa [dy,tF] using hc
  subst this;exact ⟨rfl,Nat.zero_le _⟩,fun _=>by simp[dy,tF]⟩
 |p+1=>EO (iI n tr p) 0 _ (Or.inl rfl)
def eV (t:List Ev) (M:Mm):Mm:=⟨M.now,M.kept,M.cs,M.on,t++M.tr⟩
theorem wW (im:Im) (l:List Ev) (t:List Ev) (M:Mm):dC im l (eV t M)=eV t (dC im l M):=by
 unfold dC
 by_cases h:M.on=true∨(M.cs.head?.map bX).getD false=false
 ·rw[I7 h,I7 (show (eV t M).on=true∨((eV t M).cs.head?.map bX).getD false=false from h)]
  simp only[eV,List.append_assoc]
 ·rw[I6 h,I6 (show ¬((eV t M).on=true∨((eV t M).cs.head?.map bX).getD false=false) from h)]
  simp only[eV,List.append_assoc]
theorem u4 (im:Im) (k c n:Int) (t:List Ev) (M:Mm):bM im k c n (eV t M)=((bM im k c n M).1,eV t (bM im k c n M).2):=by
 unfold bM
 by_cases k2:k=2
 ·rw[I7 k2,I7 k2]
  unfold iQ
  by_cases h:n<0∨(M.now.length:Int)<=n*8
  ·rw[I7 h,I7 (show n<0∨((eV t M).now.length:Int)<=n*8 from h)]
  ·rw[I6 h,I6 (show ¬(n<0∨((eV t M).now.length:Int)<=n*8) from h)]
   simp only[eV,List.append_assoc]
 rw[I6 k2,I6 k2]
 by_cases k3:k=3
 ·rw[I7 k3,I7 k3]
  simp only[ft,g9,eV,List.append_assoc]
 rw[I6 k3,I6 k3]
 by_cases c0:c<0
 ·rw[I7 c0,I7 c0]
 rw[I6 c0,I6 c0]
 show (match M.cs[c.toNat]? with|none=>(false,eV t M)|some x=>fB im k n c.toNat x (eV t M))=_
 cases M.cs[c.toNat]? with
 |none=>rfl
 |some x=>
  dsimp only
  unfold fB
  by_cases k0:k=0
  ·rw[I7 k0,I7 k0]
   exact Prod.ext rfl (wW im _ t ⟨M.now,M.kept,M.cs.set c.toNat (cS c.toNat im.code M.now x).2.2,M.on,M.tr⟩)
  rw[I6 k0,I6 k0]
  by_cases k1:k=1
  ·rw[I7 k1,I7 k1]
   exact Prod.ext rfl (wW im _ t ⟨(cD c.toNat n M.now x).2.2.2,M.kept,M.cs.set c.toNat (cD c.toNat n M.now x).2.2.1,M.on,M.tr⟩)
  rw[I6 k1,I6 k1]
theorem H4 (tr:List Ev):tF tr=eV tr (tF []):=by unfold tF eV;rw[List.append_nil]
theorem oD (n:Nat) (tr:List Ev):∀p,dy n tr p=eV tr (dy n [] p)
 |0=>H4 tr
 |p+1=>by
  show (bM (gb n) 0 (mG p) 0 (dy n tr p)).2=_
  rw[oD n tr p,u4];rfl
theorem ze {n:Nat} (tr:List Ev):bM (gb n) 0 1 0 (tF tr)=(false,tF tr):=rfl
theorem ss:∀n<5,1<=n->((∀p<3+3*n,(bM (gb n) 0 (mG p) 0 (dy n [] p)).1=true)/\rE (dy n [] (3+3*n))=true/\eI (dy n [] (3+3*n)).tr=77::(List.range n).map Int.ofNat/\(dy n [] (3+3*n)).kept.length=0):=by decide+kernel
theorem E6 {n:Nat} (h1:1<=n) (h4:n<=4) (tr:List Ev) {p:Nat} (hp:p<3+3*n):(bM (gb n) 0 (mG p) 0 (dy n tr p)).1=true:=by
 rw[oD,u4]
 exact (ss n (by omega) h1).1 p hp
theorem Dw {n:Nat} (h1:1<=n) (h4:n<=4) (tr:List Ev):rE (dy n tr (3+3*n))=true:=by
 rw[oD]
 exact (ss n (by omega) h1).2.1
def u7 (n:Nat):List Int:=77::(List.range n).map Int.ofNat
def Fj (n:Nat) (tr:List Ev):List Ev:=(dy n tr (3+3*n)).tr++ [⟨8,0,0,0⟩]
theorem yC {n:Nat} (h1:1<=n) (h4:n<=4) (tr:List Ev):bM (gb n) 3 0 0 (dy n tr (3+3*n))=(true,tF (Fj n tr)):=by
 have hk:(dy n tr (3+3*n)).kept= []:=by
  rw[oD]
  exact List.eq_nil_of_length_eq_zero (ss n (by omega) h1).2.2.2
 show (true,ft (gb n) (dy n tr (3+3*n)))=_
 unfold ft g9 tF Fj
 simp only[hk];rfl
theorem DI {n:Nat} (h1:1<=n) (h4:n<=4) (tr:List Ev):eI (Fj n tr)=eI tr++u7 n:=by
 unfold Fj
 rw[kB,oD]
 show eI (tr++(dy n [] (3+3*n)).tr)++ []=_
 rw[List.append_nil,kB,(ss n (by omega) h1).2.2.1];rfl
theorem AV {n:Nat} (h4:n<=4):(u7 n).length=n+1:=by unfold u7;simp
theorem Dk {row:List Int} {r:Nat} (hr:row.length=r) (h0:0<r):∀(c i:Nat),i<c*r->((List.replicate c row).flatten)[i]? =row[i % r]? :=by
 intro c
 induction c with
 |zero=>intro i hi;omega
 |succ c ih=>
  intro i hi
  rw[List.replicate_succ,List.flatten_cons]
  by_cases h:i<r
  ·rw[List.getElem?_append_left (by omega),Nat.mod_eq_of_lt h]
  ·rw[List.getElem?_append_right (by omega),hr,ih (i - r) (by rw[Nat.succ_mul] at hi;omega),←Nat.mod_eq_sub_mod (by omega)]
def WR (n:Nat):List Int:= [3531606432,3556769793,3560964096]++(List.range n).flatMap fun (i:Nat)=> [3531603968+32*Int.ofNat i,3556769793,3560964096]
theorem yV {n:Nat} (h1:1<=n) (h4:n<=4):lZ (WR n) (sU n):=by
 have:n=1∨n=2∨n=3∨n=4:=by omega
 rcases this with rfl|rfl|rfl|rfl
 ·exact ⟨⟨⟨rfl,rfl⟩,⟨by decide,by decide⟩,rfl⟩,⟨⟨⟨rfl,rfl⟩,trivial,rfl⟩,⟨⟨⟨rfl,rfl⟩,trivial,rfl⟩,⟨⟨⟨rfl,rfl⟩,⟨by decide,by decide⟩,rfl⟩,⟨⟨⟨rfl,rfl⟩,trivial,rfl⟩,⟨⟨⟨rfl,rfl⟩,trivial,rfl⟩,trivial⟩⟩⟩⟩⟩⟩
 ·exact ⟨⟨⟨rfl,rfl⟩,⟨by decide,by decide⟩,rfl⟩,⟨⟨⟨rfl,rfl⟩,trivial,rfl⟩,⟨⟨⟨rfl,rfl⟩,trivial,rfl⟩,⟨⟨⟨rfl,rfl⟩,⟨by decide,by decide⟩,rfl⟩,⟨⟨⟨rfl,rfl⟩,trivial,rfl⟩,⟨⟨⟨rfl,rfl⟩,trivial,rfl⟩,⟨⟨⟨rfl,rfl⟩,⟨by decide,by decide⟩,rfl⟩,⟨⟨⟨rfl,rfl⟩,trivial,rfl⟩,⟨⟨⟨rfl,rfl⟩,trivial,rfl⟩,trivial⟩⟩⟩⟩⟩⟩⟩⟩⟩
 ·exact ⟨⟨⟨rfl,rfl⟩,⟨by decide,by decide⟩,rfl⟩,⟨⟨⟨rfl,rfl⟩,trivial,rfl⟩,⟨⟨⟨rfl,rfl⟩,trivial,rfl⟩,⟨⟨⟨rfl,rfl⟩,⟨by decide,by decide⟩,rfl⟩,⟨⟨⟨rfl,rfl⟩,trivial,rfl⟩,⟨⟨⟨rfl,rfl⟩,trivial,rfl⟩,⟨⟨⟨rfl,rfl⟩,⟨by decide,by decide⟩,rfl⟩,⟨⟨⟨rfl,rfl⟩,trivial,rfl⟩,⟨⟨⟨rfl,rfl⟩,trivial,rfl⟩,⟨⟨⟨rfl,rfl⟩,⟨by decide,by decide⟩,rfl⟩,⟨⟨⟨rfl,rfl⟩,trivial,rfl⟩,⟨⟨⟨rfl,rfl⟩,trivial,rfl⟩,trivial⟩⟩⟩⟩⟩⟩⟩⟩⟩⟩⟩⟩
 ·exact ⟨⟨⟨rfl,rfl⟩,⟨by decide,by decide⟩,rfl⟩,⟨⟨⟨rfl,rfl⟩,trivial,rfl⟩,⟨⟨⟨rfl,rfl⟩,trivial,rfl⟩,⟨⟨⟨rfl,rfl⟩,⟨by decide,by decide⟩,rfl⟩,⟨⟨⟨rfl,rfl⟩,trivial,rfl⟩,⟨⟨⟨rfl,rfl⟩,trivial,rfl⟩,⟨⟨⟨rfl,rfl⟩,⟨by decide,by decide⟩,rfl⟩,⟨⟨⟨rfl,rfl⟩,trivial,rfl⟩,⟨⟨⟨rfl,rfl⟩,trivial,rfl⟩,⟨⟨⟨rfl,rfl⟩,⟨by decide,by decide⟩,rfl⟩,⟨⟨⟨rfl,rfl⟩,trivial,rfl⟩,⟨⟨⟨rfl,rfl⟩,trivial,rfl⟩,⟨⟨⟨rfl,rfl⟩,⟨by decide,by decide⟩,rfl⟩,⟨⟨⟨rfl,rfl⟩,trivial,rfl⟩,⟨⟨⟨rfl,rfl⟩,trivial,rfl⟩,trivial⟩⟩⟩⟩⟩⟩⟩⟩⟩⟩⟩⟩⟩⟩⟩
section
variable {m m':NH}
theorem wh {n:Nat} (hn:n<=4) {T0:Tm} (t1:NT.get D4.e T0=some (ii (n:Nat))) {cr:Int} (t0:NT.get D4.e.a T0=some (ii cr)) {vc0:NV} {m0:NH} (hC0:Chg [] m m0) (t2:NT.get D4.e.a.b T0=some vc0) (hc0:bG m m0 vc0 7 (iV (sU 0))) (t3:NT.get D4.e.a.c T0=some .nils) (t4:NT.get D4.e.a.f T0=some (ii 0)) (hQ:∀T M vc ve,NT.get D4.e T=some (ii (n:Nat))->NT.get D4.e.a T=some (ii cr)->NT.get D4.e.a.b T=some vc->NT.get D4.e.a.c T=some ve->bG m M vc 7 (iV (sU n))->bG m M ve 1 (jd ((tJ n).map Int.ofNat))->Chg [] m M->Q (.exit 0) ⟨T, [],none,M⟩):
 W Try.prog S0 none qW.loop ⟨T0, [],none,m0⟩ Q:=by
 refine W.loop (fun k d=>∃T M' i vc ve,d=⟨T, [],none,M'⟩/\NT.get D4.e T=some (ii (n:Nat))/\NT.get D4.e.a T=some (ii cr)/\NT.get D4.e.a.b T=some vc/\NT.get D4.e.a.c T=some ve/\NT.get D4.e.a.f T=some (ii (i:Nat))/\i+k=n/\bG m M' vc 7 (iV (sU i))/\bG m M' ve 1 (jd ((tJ i).map Int.ofNat))/\(∀i∈ids vc,i∉ids ve)/\Chg [] m M') ?_ n _ ⟨T0,m0,0,vc0,.nils,rfl,t1,t0,t2,t3,t4,by omega,hc0,bG.nil,by simp[ids],hC0⟩
 rintro k d ⟨T,M,i,vc,ve,rfl,t1,t0,t2,t3,t4,hin,hvc,hve,hdis,hC⟩
 apply aT
 unfold qW
 change wp _ _ _ _ ⟨aw [] T, [],none,M⟩ _
 by_cases hi:i<n
 ·have hlen:=hvc.sl.len
  have hcd:=jQ i
  have hen:=sE i
  rw[List.length_map,hcd] at hlen
  generalize hm1:hp [(.n 0,.cells true [ii ((3+3*i:Nat):Int)])] 1 M=m1
  have hC1:Chg [] M m1:=aQ hm1 rfl
  obtain ⟨ve',m2,q1,q2,q3,q4⟩:=(hve.chg hC1 (by simp)).app2 (bytes:=8) (kc:=1) (x:=na M 0) (cs:= [ii ((3+3*i:Nat):Int)]) (ba hm1) (bn hm1 (by omega)) rfl (fun i hi=>hC1.old (hC.old hi)) (by simp only[List.length_map];omega) (by simp only[List.length_map];omega)
  rw[←an m2] at q1
  have hvc2:bG m m2 vc 7 (iV (sU i)):=(hvc.chg hC1 (by simp)).chg q3 fun j hj hj2=>hdis j hj hj2
  have hC2:Chg [] m m2:=(hC.trans hC1 (by simp)).trans q3 fun j hj hjo=>I5 hjo (hve.new j hj)
  generalize hm3:hp [(.n 0,.cells true ((iV [.movz 0 i,.svc,.hlt]).flatten))] 1 m2=m3
  have hC3:Chg [] m2 m3:=aQ hm3 rfl
  have hu3:Sl m3 (.slc (na m2 0) 0 3 7 3) 7 (iV [.movz 0 i,.svc,.hlt]):=⟨fun x hx=>by obtain ⟨y,-,rfl⟩:=List.mem_map.1 hx;exact ic y,Or.inr ⟨na m2 0,0,3,true,_,rfl,ba hm3,bn hm3 (by omega),by simp[be],by simp[be]⟩⟩
  obtain ⟨w1,m4,x1,x2,x3,x4⟩:=xW (hvc2.chg hC3 (by simp)) hu3 (by simp) (fun i hi=>hC3.old (hC2.old hi)) (by rw[hcd];simp;omega)
  have hC4:Chg [] m m4:=(hC2.trans hC3 (by simp)).trans x3 fun j hj hjo=>I5 hjo (hvc.new j hj)
  have hm3':hp [(.n 0,.cells true [ii 0,ii 0,ii 0,ii 0,ii 0,ii 0,ii (i:Nat),ii 23,ii 0,ii 0,ii 0,ii 0,ii 0,ii 0,ii 22,ii 0,ii 0,ii 0,ii 0,ii 0,ii 0])] 1 m2=m3:=hm3
  have d0:∀j∈ids vc,j∉ids ve':=fun j hj hj2=>(q4 j hj2).elim (hdis j hj) fun u=>u (hC1.old (hvc.sl.old j hj))
  have ov2:∀j∈ids ve',aN m2 j:=q2.sl.old
  have d1:∀j∈ids w1,j∉ids ve':=fun j hj hj2=>(x4 j hj).elim (fun u=>d0 j u hj2) fun u=>u (hC3.old (ov2 j hj2))
  have e4:=(q2.chg hC3 (by simp)).chg x3 fun j hj hj2=>d0 j hj2 hj
  rw[←nP] at x2
  have e4':bG m m4 ve' 1 (jd ((tJ (i+1)).map Int.ofNat)):=by
   rw[wq,List.map_append,show jd ((tJ i).map Int.ofNat++ [3+3*i].map Int.ofNat)=jd ((tJ i).map Int.ofNat)++ [[ii ((3+3*i:Nat):Int)]] from List.map_append];exact e4
  rw[←an M]
  simp (config:={maxSteps:=1000000}) (disch:=first|assumption|omega|(apply ah;omega)|(apply aa;assumption)|(simp only[aJ]<;>omega)) only[go_sem,seval,t1,t0,t2,t3,t4,hlen,hm1,q1,hm3',x1]
  exact ⟨k - 1,by omega,_,m4,i+1,w1,ve',by rfl,by simp only[go_sem,seval,t1],by simp only[go_sem,seval,t0],by simp only[go_sem,seval],by simp only[go_sem,seval],by simp only[go_sem,seval]<;>rfl,by omega,x2,e4',d1,hC4⟩
 ·simp (config:={maxSteps:=1000000}) (disch:=first|assumption|omega|(apply ah;omega)|(apply aa;assumption)|(simp only[aJ]<;>omega)) only[go_sem,seval,t1,t0,t2,t3,t4]
  have e:i=n:=by omega
  subst e
  exact hQ _ _ _ _ (by simp only[go_sem,seval,t1]) (by simp only[go_sem,seval,t0]) (by simp only[go_sem,seval,t2]) (by simp only[go_sem,seval,t3]) hvc hve hC
end
def kO (n c:Nat):List Int:=(List.replicate c (u7 n)).flatten
def fi (n:Nat):Nat->List Ev
 |0=> []
 |c+1=>Fj n (fi n c)
theorem oB {n:Nat} (h1:1<=n) (h4:n<=4):∀c,eI (fi n c)=kO n c
 |0=>rfl
 |c+1=>by
  show eI (Fj n (fi n c))=_
  rw[DI h1 h4,oB h1 h4 c]
  unfold kO
  rw[List.replicate_succ',List.flatten_append];simp
theorem mh {n:Nat} (h4:n<=4) (c:Nat):(kO n c).length=c*(n+1):=by
 unfold kO
 rw[List.length_flatten,List.map_replicate,List.sum_replicate_nat,AV h4]
theorem wm {n:Nat} (h4:n<=4) {c i:Nat} (hi:i<c*(n+1)):ew (kO n c) i=if i % (n+1)=0 then 77 else ((i % (n+1):Nat):Int) - 1:=by
 unfold ew kO
 rw[Dk (AV h4) (by omega) c i hi]
 have hm:=Nat.mod_lt i (show 0<n+1 by omega)
 generalize i % (n+1)=r at hm ⊢
 unfold u7
 cases r with
 |zero=>rfl
 |succ r=>
  rw[List.getElem?_cons_succ,List.getElem?_map,List.getElem?_range (by omega),I6 (by omega)]
  show Int.ofNat r=_
  simp
section
variable {m:NH}
set_option maxHeartbeats 2000000 in
theorem n9 (m:NH) (n cr:Nat) (h1:1<=n) (h4:n<=4) (hcr:cr<=10):∃v' m',rT 4 [ii (n:Nat),ii (cr:Nat)] m v' m'/\v'= .bool true:=by
 have hal:∀m,rT 8 [] m (.bool true) m:=fun m=>lN.kept rfl m
 refine WF.ex fun K hK=> ?_
 refine WF.of_wpG (fun _=>rfl) nH (L:= [(.a .e,ii (cr:Nat)),(.e,ii (n:Nat))]) rfl ?_
 unfold HR
 generalize hm1:hp [(.n 0,.cells true [ii 0,ii 0,ii 0,ii 0,ii 0,ii 0,ii 77,ii 23,ii 0,ii 0,ii 0,ii 0,ii 0,ii 0,ii 22,ii 0,ii 0,ii 0,ii 0,ii 0,ii 0])] 1 m=m1
 have hC1:Chg [] m m1:=aQ hm1 rfl
 have hc0:bG m m1 (.slc (na m 0) 0 3 7 3) 7 (iV (sU 0)):=bG.of (fun x hx=>by obtain ⟨y,-,rfl⟩:=List.mem_map.1 hx;exact ic y) aG (ba hm1) (bn hm1 (by omega)) rfl rfl rfl
 simp (config:={maxSteps:=1000000}) (disch:=first|assumption|omega|(apply ah;omega)|(apply aa;assumption)|(simp only[aJ]<;>omega)) only[go_sem,seval,(hal _).wf',hm1]
 refine wh (cr:=cr) h4 ?_ ?_ hC1 ?_ hc0 ?_ ?_ ?_
 ·simp (config:={maxSteps:=1000000}) (disch:=first|assumption|omega|(apply ah;omega)|(apply aa;assumption)|(simp only[aJ]<;>omega)) only[go_sem,seval]
 ·simp (config:={maxSteps:=1000000}) (disch:=first|assumption|omega|(apply ah;omega)|(apply aa;assumption)|(simp only[aJ]<;>omega)) only[go_sem,seval]
 ·simp (config:={maxSteps:=1000000}) (disch:=first|assumption|omega|(apply ah;omega)|(apply aa;assumption)|(simp only[aJ]<;>omega)) only[go_sem,seval]
 ·simp (config:={maxSteps:=1000000}) (disch:=first|assumption|omega|(apply ah;omega)|(apply aa;assumption)|(simp only[aJ]<;>omega)) only[go_sem,seval]
 ·simp (config:={maxSteps:=1000000}) (disch:=first|assumption|omega|(apply ah;omega)|(apply aa;assumption)|(simp only[aJ]<;>omega)) only[go_sem,seval]
 intro T M vc ve t1 t0 t2 t3 hvc hve hC
 change dx _ _ _ ⟨aw [] T,_,_,_⟩
 obtain ⟨u,m2,r2,a2,hC2⟩:=yz (W:=WR n) hvc.sl (by rw[jQ];omega) (yV h1 h4).len (fun i hi=>((yV h1 h4).at i (by rw[(yV h1 h4).len];exact hi) hi).2.2)
 have hvt:Sl m2 ve 1 (jd ((gb n).entry.map Int.ofNat)):=hve.sl.chg hC2 (by simp)
 have hcd:CdOk (WR n) (gb n).code:=(yV h1 h4).cd (by rw[jQ];omega)
 obtain ⟨v,m3,r3,p,f,q,rfl,h3,k3⟩:=FK (im:=gb n) (n:=0) (by omega) hvt a2.sl hcd (by show (tJ n).length<=4;rw[sE];exact h4)
 have e0:((gb n).start:Int)=0:=rfl
 rw[e0,show ((0:Nat):Int)=0 from rfl] at r3
 have cve:=hve.sl.one
 have cu:=a2.sl.one
 have hst:IX (gb n) 0=tF (fi n 0):=rfl
 rw[hst] at h3
 simp (config:={maxSteps:=1000000}) (disch:=first|assumption|omega|(apply ah;omega)|(apply aa;assumption)|(simp only[aJ]<;>omega)) only[go_sem,seval,t1,t0,t2,t3,cve,cu,r2.wf',r3.wf',AD]
 refine W.loop (fun k d=>∃T M c f q N,d=⟨T, [],none,M⟩/\NT.get D4.e T=some (ii (n:Nat))/\NT.get D4.e.a T=some (ii (cr:Nat))/\NT.get D4.e.b.a T=some (.ptr p 0)/\NT.get D4.e.b.b T=some (ii (c:Nat))/\c+k=cr+1/\N<=100*c/\MaC (gb n) (WR n) 0 N f M p q (tF (fi n c))) ?_ (cr+1) _ ⟨_,m3,0,f,q,0,rfl,by simp only[go_sem,seval,t1],by simp only[go_sem,seval,t0],by simp only[go_sem,seval],by simp only[go_sem,seval]<;>rfl,by omega,by omega,h3⟩
 clear h3 hm1 hC1 hc0
 rintro k0 d ⟨T,M,c,f,q,N,rfl,t1,t2,t3,t4,hck,hN,hI⟩
 apply aT
 unfold vu
 change wp _ _ _ _ ⟨aw [] T, [],none,M⟩ _
 by_cases hlt:c<=cr
 ·obtain ⟨m4,r4,f4,q4,h4',k4⟩:=mW hI (by omega) (iI n (fi n c) 0).ok 0 1 0
  rw[ze] at r4 h4'
  simp (config:={maxSteps:=1000000}) (disch:=first|assumption|omega|(apply ah;omega)|(apply aa;assumption)|(simp only[aJ]<;>omega)) only[go_sem,seval,t1,t2,t3,t4,r4.wf']
  refine W.loop (fun k d=>∃T M i f q N,d=⟨T, [],none,M⟩/\NT.get D4.e T=some (ii (n:Nat))/\NT.get D4.e.a T=some (ii (cr:Nat))/\NT.get D4.e.b.a T=some (.ptr p 0)/\NT.get D4.e.b.b T=some (ii (c:Nat))/\NT.get D4.e.b.c T=some (ii (i:Nat))/\i+k=3/\N<=100*c+2+2*i/\MaC (gb n) (WR n) 0 N f M p q (dy n (fi n c) i)) ?_ 3 _ ⟨_,m4,0,f4,q4,N+2,rfl,by simp only[go_sem,seval,t1],by simp only[go_sem,seval,t2],by simp only[go_sem,seval,t3],by simp only[go_sem,seval,t4],by simp only[go_sem,seval]<;>rfl,by omega,by omega,h4'⟩
  clear hI h4'
  rintro k1 d ⟨T,M,i,f,q,N,rfl,t1,t2,t3,t4,t5,hik,hN,hI⟩
  apply aT
  unfold uD
  change wp _ _ _ _ ⟨aw [] T, [],none,M⟩ _
  by_cases hi:i<3
  ·obtain ⟨m5,r5,f5,q5,h5,k5⟩:=mW hI (by omega) (iI n (fi n c) i).ok 0 0 0
   have es:mG i=0:=I7 hi
   have h5':MaC (gb n) (WR n) 0 (N+2) f5 m5 p q5 (dy n (fi n c) (i+1)):=by
    show MaC _ _ _ _ _ _ _ _ (bM (gb n) 0 (mG i) 0 (dy n (fi n c) i)).2
    rw[es];exact h5
   simp (config:={maxSteps:=1000000}) (disch:=first|assumption|omega|(apply ah;omega)|(apply aa;assumption)|(simp only[aJ]<;>omega)) only[go_sem,seval,t1,t2,t3,t4,t5,r5.wf']
   exact ⟨k1 - 1,by omega,_,m5,i+1,f5,q5,N+2,by rfl,by simp only[go_sem,seval,t1],by simp only[go_sem,seval,t2],by simp only[go_sem,seval,t3],by simp only[go_sem,seval,t4],by simp only[go_sem,seval]<;>rfl,by omega,by omega,h5'⟩
  have ei:i=3:=by omega
  subst ei
  simp (config:={maxSteps:=1000000}) (disch:=first|assumption|omega|(apply ah;omega)|(apply aa;assumption)|(simp only[aJ]<;>omega)) only[go_sem,seval,t1,t2,t3,t4,t5]
  refine W.loop (fun k d=>∃T M i f q N,d=⟨T, [],none,M⟩/\NT.get D4.e T=some (ii (n:Nat))/\NT.get D4.e.a T=some (ii (cr:Nat))/\NT.get D4.e.b.a T=some (.ptr p 0)/\NT.get D4.e.b.b T=some (ii (c:Nat))/\NT.get D4.e.b.f T=some (ii (i:Nat))/\i+k=n/\N<=100*c+8+6*i/\MaC (gb n) (WR n) 0 N f M p q (dy n (fi n c) (3+3*i))) ?_ n _ ⟨_,M,0,f,q,N,rfl,by simp only[go_sem,seval,t1],by simp only[go_sem,seval,t2],by simp only[go_sem,seval,t3],by simp only[go_sem,seval,t4],by simp only[go_sem,seval]<;>rfl,by omega,by omega,hI⟩
  clear hI
  rintro k2 d ⟨T,M,i,f,q,N,rfl,t1,t2,t3,t4,t5,hik,hN,hI⟩
  apply aT
  unfold u6
  change wp _ _ _ _ ⟨aw [] T, [],none,M⟩ _
  by_cases hi:i<n
  ·simp (config:={maxSteps:=1000000}) (disch:=first|assumption|omega|(apply ah;omega)|(apply aa;assumption)|(simp only[aJ]<;>omega)) only[go_sem,seval,t1,t2,t3,t4,t5]
   refine W.loop (fun k d=>∃T M j f q N,d=⟨T, [],none,M⟩/\NT.get D4.e T=some (ii (n:Nat))/\NT.get D4.e.a T=some (ii (cr:Nat))/\NT.get D4.e.b.a T=some (.ptr p 0)/\NT.get D4.e.b.b T=some (ii (c:Nat))/\NT.get D4.e.b.f T=some (ii (i:Nat))/\NT.get D4.e.c.a T=some (ii (j:Nat))/\j+k=3/\N<=100*c+8+6*i+2*j/\MaC (gb n) (WR n) 0 N f M p q (dy n (fi n c) (3+3*i+j))) ?_ 3 _ ⟨_,M,0,f,q,N,rfl,by simp only[go_sem,seval,t1],by simp only[go_sem,seval,t2],by simp only[go_sem,seval,t3],by simp only[go_sem,seval,t4],by simp only[go_sem,seval,t5],by simp only[go_sem,seval]<;>rfl,by omega,by omega,hI⟩
   clear hI
   rintro k3 d ⟨T,M,j,f,q,N,rfl,t1,t2,t3,t4,t5,t6,hjk,hN,hI⟩
   apply aT
   unfold wb
   change wp _ _ _ _ ⟨aw [] T, [],none,M⟩ _
   by_cases hj:j<3
   ·obtain ⟨m5,r5,f5,q5,h5,k5⟩:=mW hI (by omega) (iI n (fi n c) (3+3*i+j)).ok 0 (i:Nat) 0
    have es:mG (3+3*i+j)=(i:Nat):=by unfold mG;rw[I6 (by omega)];congr 1;omega
    have et:=E6 h1 h4 (fi n c) (p:=3+3*i+j) (by omega)
    rw[es] at et
    rw[et] at r5
    have h5':MaC (gb n) (WR n) 0 (N+2) f5 m5 p q5 (dy n (fi n c) (3+3*i+j+1)):=by
     show MaC _ _ _ _ _ _ _ _ (bM (gb n) 0 (mG (3+3*i+j)) 0 (dy n (fi n c) (3+3*i+j))).2
     rw[es];exact h5
    simp (config:={maxSteps:=1000000}) (disch:=first|assumption|omega|(apply ah;omega)|(apply aa;assumption)|(simp only[aJ]<;>omega)) only[go_sem,seval,t1,t2,t3,t4,t5,t6,r5.wf']
    exact ⟨k3 - 1,by omega,_,m5,j+1,f5,q5,N+2,by rfl,by simp only[go_sem,seval,t1],by simp only[go_sem,seval,t2],by simp only[go_sem,seval,t3],by simp only[go_sem,seval,t4],by simp only[go_sem,seval,t5],by simp only[go_sem,seval]<;>rfl,by omega,by omega,h5'⟩
   ·have ej:j=3:=by omega
    subst ej
    simp (config:={maxSteps:=1000000}) (disch:=first|assumption|omega|(apply ah;omega)|(apply aa;assumption)|(simp only[aJ]<;>omega)) only[go_sem,seval,t1,t2,t3,t4,t5,t6]
    exact ⟨k2 - 1,by omega,_,M,i+1,f,q,N,by rfl,by simp only[go_sem,seval,t1],by simp only[go_sem,seval,t2],by simp only[go_sem,seval,t3],by simp only[go_sem,seval,t4],by simp only[go_sem,seval]<;>rfl,by omega,by omega,hI⟩
  have ei:i=n:=by omega
  subst ei
  obtain ⟨m6,r6,hC6⟩:=yp hI
  rw[Dw h1 h4] at r6
  have h6:=hI.grow hC6
  obtain ⟨m7,r7,f7,q7,h7,k7⟩:=mW h6 (by omega) (iI i (fi i c) (3+3*i)).ok 3 0 0
  rw[yC h1 h4] at h7 r7
  simp (config:={maxSteps:=1000000}) (disch:=first|assumption|omega|(apply ah;omega)|(apply aa;assumption)|(simp only[aJ]<;>omega)) only[go_sem,seval,t1,t2,t3,t4,t5,r6.wf',r7.wf']
  exact ⟨k0 - 1,by omega,_,m7,c+1,f7,q7,N+2,by rfl,by simp only[go_sem,seval,t1],by simp only[go_sem,seval,t2],by simp only[go_sem,seval,t3],by simp only[go_sem,seval]<;>rfl,by omega,by omega,h7⟩
 ·have ec:c=cr+1:=by omega
  subst ec
  obtain ⟨o,m6,r6,o6,hC6⟩:=G3 hI
  have eo:eI (tF (fi n (cr+1))).tr=kO n (cr+1):=oB h1 h4 (cr+1)
  rw[eo] at o6
  have hlo:=o6.sl.len
  rw[List.length_map,mh h4] at hlo
  have hlt2:(cr+1)*(n+1)<=55:=by have:=Nat.mul_le_mul (show cr+1<=11 by omega) (show n+1<=5 by omega);omega
  have hmul:cP .num .mul (ii ((cr:Nat)+1)) (ii ((n:Nat)+1))=some (ii (((cr+1)*(n+1):Nat):Int)):=by
   have e:((cr:Int)+1)*((n:Int)+1)=(((cr+1)*(n+1):Nat):Int):=by push_cast;rfl
   rw[vU (by rw[e];omega) (by rw[e];omega),e]
  simp (config:={maxSteps:=1000000}) (disch:=first|assumption|omega|(apply ah;omega)|(apply aa;assumption)|(simp only[aJ]<;>omega)) only[go_sem,seval,t1,t2,t3,t4,r6.wf',hlo,hmul]
  refine W.loop (fun k d=>∃T i,d=⟨T, [],none,m6⟩/\NT.get D4.e T=some (ii (n:Nat))/\NT.get D4.e.c.b T=some o/\NT.get D4.e.c.c T=some (ii (i:Nat))/\i+k=(cr+1)*(n+1)) ?_ ((cr+1)*(n+1)) _ ⟨_,0,rfl,by simp only[go_sem,seval,t1],by simp only[go_sem,seval],by simp only[go_sem,seval]<;>rfl,by omega⟩
  rintro k9 d ⟨T,i,rfl,t1,t2,t3,hik⟩
  apply aT
  unfold vf
  change wp _ _ _ _ ⟨aw [] T, [],none,m6⟩ _
  by_cases hi:i<(cr+1)*(n+1)
  ·obtain ⟨id,off,wr,cs,a1,a2,a3⟩:=uG o6.sl (i:=i) (by rw[mh h4];exact hi)
   rw[wm h4 hi] at a3
   have hrem:cP .num .rem (ii (i:Nat)) (ii ((n:Nat)+1))=some (ii ((i % (n+1):Nat):Int)):=by
    rw[v9 (by omega) (by omega) (by omega)];congr 3
   have hm:=Nat.mod_lt i (show 0<n+1 by omega)
   generalize i % (n+1)=r at hm a3 hrem
   by_cases hr0:r=0
   ·rw[I7 hr0] at a3
    subst hr0
    rw[show ((0:Nat):Int)=0 from rfl] at hrem
    simp (config:={maxSteps:=1000000}) (disch:=first|assumption|omega|(apply ah;omega)|(apply aa;assumption)|(simp only[aJ]<;>omega)) only[go_sem,seval,t1,t2,t3,hlo,hrem,a1,a2,a3]
    exact ⟨k9 - 1,by omega,_,i+1,by rfl,by simp only[go_sem,seval,t1],by simp only[go_sem,seval,t2],by simp only[go_sem,seval]<;>rfl,by omega⟩
   ·rw[I6 hr0] at a3
    have hto:((r:Int) - 1) % 18446744073709551616=(r:Int) - 1:=by omega
    have hr1:0<r:=by omega
    simp (config:={maxSteps:=1000000}) (disch:=first|assumption|omega|(apply ah;omega)|(apply aa;assumption)|(simp only[aJ]<;>omega)) only[go_sem,seval,t1,t2,t3,hlo,hrem,hto,a1,a2,a3]
    exact ⟨k9 - 1,by omega,_,i+1,by rfl,by simp only[go_sem,seval,t1],by simp only[go_sem,seval,t2],by simp only[go_sem,seval]<;>rfl,by omega⟩
  ·simp (config:={maxSteps:=1000000}) (disch:=first|assumption|omega|(apply ah;omega)|(apply aa;assumption)|(simp only[aJ]<;>omega)) only[go_sem,seval,t1,t2,t3,hlo]
   exact hK _ _ rfl
end
theorem parmRecovers (m:NH) (l:List NV) (h:TyA Try.prog m [3,3] l):∃m',rT 4 l m (.bool true) m':=by
 obtain ⟨x,r,rfl,h1,h⟩:=h.inv1 (by intro fs q;rw[Try.underlying3] at q;simp at q)
 obtain ⟨x2,r2,rfl,h2,h⟩:=h.inv1 (by intro fs q;rw[Try.underlying3] at q;simp at q)
 obtain rfl:=h.inv0
 obtain ⟨n,hx,-⟩:=h1.inv_int Try.underlying3
 have hxv:x=ii n:=by simpa using hx
 subst hxv
 obtain ⟨cr,hx2,-⟩:=h2.inv_int Try.underlying3
 have hxv2:x2=ii cr:=by simpa using hx2
 subst hxv2
 have hal:∀m,rT 8 [] m (.bool true) m:=fun m=>lN.kept rfl m
 by_cases hg:1<=n/\n<=4/\0<=cr/\cr<=10
 ·obtain ⟨N,rfl⟩:=Jd (show 0<=n by omega)
  obtain ⟨C,rfl⟩:=Jd (show 0<=cr by omega)
  obtain ⟨v',m',h,rfl⟩:=n9 m N C (by omega) (by omega) (by omega)
  exact ⟨m',h⟩
 ·have h:∃v' m',rT 4 [ii n,ii cr] m v' m'/\v'= .bool true:=by
   refine WF.ex fun K hK=> ?_
   refine WF.of_wpG (fun _=>rfl) nH (L:= [(.a .e,ii cr),(.e,ii n)]) rfl ?_
   unfold HR
   by_cases c1:n<1
   ·simp (config:={maxSteps:=1000000}) (disch:=first|assumption|omega|(apply ah;omega)|(apply aa;assumption)|(simp only[aJ]<;>omega)) only[go_sem,seval,an,(hal _).wf']
    exact hK _ _ rfl
   by_cases c2:4<n
   ·simp (config:={maxSteps:=1000000}) (disch:=first|assumption|omega|(apply ah;omega)|(apply aa;assumption)|(simp only[aJ]<;>omega)) only[go_sem,seval,an,(hal _).wf']
    exact hK _ _ rfl
   by_cases c3:cr<0
   ·simp (config:={maxSteps:=1000000}) (disch:=first|assumption|omega|(apply ah;omega)|(apply aa;assumption)|(simp only[aJ]<;>omega)) only[go_sem,seval,an,(hal _).wf']
    exact hK _ _ rfl
   have c4:10<cr:=by omega
   simp (config:={maxSteps:=1000000}) (disch:=first|assumption|omega|(apply ah;omega)|(apply aa;assumption)|(simp only[aJ]<;>omega)) only[go_sem,seval,an,(hal _).wf']
   exact hK _ _ rfl
  obtain ⟨v',m',h,rfl⟩:=h
  exact ⟨m',h⟩
end FR
