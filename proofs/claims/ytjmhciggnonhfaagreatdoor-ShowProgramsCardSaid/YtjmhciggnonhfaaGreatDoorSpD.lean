/- A machine that runs the given program with memory and order of evaluation taken apart, and what it shows of the law ShowPrograms: part 4. -/
import Derived.Test.YtjmhciggnonhfaaGreatDoorSpC
set_option linter.unusedSimpArgs false
set_option linter.unusedVariables false
set_option linter.unusedSectionVars false
set_option linter.defProp false
open Go Nm Go.Proofs
namespace FR
theorem gq {k:D4} {L:List (D4×NV)} {t:Tm} {v:Option NV} (h:gP k L (NT.get k t)=v):NT.get k (am L t)=v:=(jK k L t).trans h
theorem one {a b:D4} (h:a∈ [b]):a=b:=by simpa using h
section
variable {l:List (AK×NO)} {k j:Nat} {m M:NH} {id:D4} {o:NO} {S:List D4}
theorem EJ (ho:aw m id) (h:hp ((.o id,o)::l) k m=M):M.get id=some o:=by rw[←h];exact (bF ho).trans a7
theorem bf (h:hp l k m=M) (hs:aF l=S):Chg S m M:=by rw[←h];exact aH hs
theorem bB (h:hp l k m=M) (hj:j<k):aw M (na m j):=by rw[←h];exact ai hj
theorem bu (h:hp l k m=M):M.get (na m j)=ko j l (m.get (na m j)):=by rw[←h];exact cI
end
abbrev u8 (c:Nat):NV:= .int .u8 (.lit (c:Int))
abbrev u64 (n:Nat):NV:= .int .u64 (.lit (n:Int))
inductive Ex where
 |mk (k:Int) (n o:Nat) (s:List Nat) (ks:List Ex)
inductive Stm where
 |mk (k a:Int) (nm ce:List Nat) (i x y:Ex) (b e:List Stm)
theorem Ex.ind {P:Ex->Prop} (h:∀k n o s ks,(∀x∈ks,P x)->P (.mk k n o s ks)):∀x,P x
 | .mk k n o s ks=>h k n o s ks fun x _=>Ex.ind h x
theorem Stm.ind {P:Stm->Prop} (h:∀k a nm ce i x y b e,(∀s∈b,P s)->(∀s∈e,P s)->P (.mk k a nm ce i x y b e)):∀s,P s
 | .mk k a nm ce i x y b e=>h k a nm ce i x y b e (fun s _=>Stm.ind h s) (fun s _=>Stm.ind h s)
inductive RE (m:NH) (T:D4->Prop):Ex->List NV->Prop
 |mk {k:Int} {n o:Nat} {s:List Nat} {ks:List Ex} {v:NV} {C:List (List NV)} (hv:Sl m v 5 C) (hT:∀i∈ids v,T i) (hl:C.length=ks.length) (h:∀(i:Nat) (x:Ex) (c:List NV),ks[i]? =some x->C[i]? =some c->RE m T x c):
  RE m T (.mk k n o s ks) [ii k,u64 n,u8 o,.str s,v]
inductive RS (m:NH) (T:D4->Prop):Stm->List NV->Prop
 |mk {k a:Int} {nm ce:List Nat} {i x y:Ex} {b e:List Stm} {ci cx cy:List NV} {vb ve:NV} {B E:List (List NV)} (hi:RE m T i ci) (hx:RE m T x cx) (hy:RE m T y cy)
  (hb:Sl m vb 21 B) (hbT:∀i∈ids vb,T i) (hbl:B.length=b.length) (hbR:∀(j:Nat) (s:Stm) (c:List NV),b[j]? =some s->B[j]? =some c->RS m T s c)
  (he:Sl m ve 21 E) (heT:∀i∈ids ve,T i) (hel:E.length=e.length) (heR:∀(j:Nat) (s:Stm) (c:List NV),e[j]? =some s->E[j]? =some c->RS m T s c):
  RS m T (.mk k a nm ce i x y b e) ([ii k,ii a,.str nm,.str ce]++ci++cx++cy++ [vb,ve])
def aE (T:D4->Prop) (m m':NH):Prop:=∀i,T i->aw m i->m'.get i=m.get i/\aw m' i
theorem iM {m m':NH} (h:Chg [] m m') (T:D4->Prop):aE T m m':=fun _ _ ho=>⟨h.get ho (by simp),h.old ho⟩
theorem aE.of {S:List D4} {m m':NH} {T:D4->Prop} (h:Chg S m m') (hT:∀i,T i->i∉S):aE T m m':=fun i hi ho=>⟨h.get ho (hT i hi),h.old ho⟩
theorem rP {m M:NH} {l:List (AK×NO)} {k:Nat} (h:Chg [] m M) (e:aF l= []):Chg [] m (hp l k M):=h.trans (aH e) (by simp)
theorem gc {m m':NH} {T:D4->Prop} {v:NV} {e:Nat} {C:List (List NV)} (h:Sl m v e C) (hT:∀i∈ids v,T i) (hs:aE T m m'):Sl m' v e C:=by
 obtain ⟨h0,⟨rfl,rfl⟩|⟨id,off,kc,w,c,rfl,h1,h2,h3,h4⟩⟩:=h
 ·exact ⟨h0,Or.inl ⟨rfl,rfl⟩⟩
 ·obtain ⟨g1,g2⟩:=hs id (hT id (List.mem_cons_self ..)) h2
  exact ⟨h0,Or.inr ⟨id,off,kc,w,c,rfl,g1.trans h1,g2,h3,h4⟩⟩
theorem RE.stays {m m':NH} {T:D4->Prop} (hs:aE T m m') {x:Ex} {c:List NV} (h:RE m T x c):RE m' T x c:=by
 induction h with
 |mk hv hT hl h ih=>exact .mk (gc hv hT hs) hT hl ih
theorem RE.weak {m:NH} {T T':D4->Prop} (hT':∀i,T i->T' i) {x:Ex} {c:List NV} (h:RE m T x c):RE m T' x c:=by
 induction h with
 |mk hv hT hl h ih=>exact .mk hv (fun i hi=>hT' i (hT i hi)) hl ih
theorem RS.stays {m m':NH} {T:D4->Prop} (hs:aE T m m') {x:Stm} {c:List NV} (h:RS m T x c):RS m' T x c:=by
 induction h with
 |mk hi hx hy hb hbT hbl hbR he heT hel heR ih1 ih2=>exact .mk (hi.stays hs) (hx.stays hs) (hy.stays hs) (gc hb hbT hs) hbT hbl ih1 (gc he heT hs) heT hel ih2
theorem RS.weak {m:NH} {T T':D4->Prop} (hT':∀i,T i->T' i) {x:Stm} {c:List NV} (h:RS m T x c):RS m T' x c:=by
 induction h with
 |mk hi hx hy hb hbT hbl hbR he heT hel heR ih1 ih2=>exact .mk (hi.weak hT') (hx.weak hT') (hy.weak hT') hb (fun i q=>hT' i (hbT i q)) hbl ih1 he (fun i q=>hT' i (heT i q)) hel ih2
structure SE (m:NH) (T:D4->Prop) (v:NV) (l:List Ex) (C:List (List NV)):Prop where
 sl:Sl m v 5 C
 hT:∀i∈ids v,T i
 len:C.length=l.length
 R:∀(i:Nat) (x:Ex) (c:List NV),l[i]? =some x->C[i]? =some c->RE m T x c
structure SS (m:NH) (T:D4->Prop) (v:NV) (l:List Stm) (C:List (List NV)):Prop where
 sl:Sl m v 21 C
 hT:∀i∈ids v,T i
 len:C.length=l.length
 R:∀(i:Nat) (x:Stm) (c:List NV),l[i]? =some x->C[i]? =some c->RS m T x c
theorem RE.inv {m:NH} {T:D4->Prop} {k:Int} {n o:Nat} {s:List Nat} {ks:List Ex} {c:List NV} (h:RE m T (.mk k n o s ks) c):∃v C,c= [ii k,u64 n,u8 o,.str s,v]/\SE m T v ks C:=by
 cases h with
 |mk hv hT hl h=>exact ⟨_,_,rfl,hv,hT,hl,h⟩
theorem RE.of {m:NH} {T:D4->Prop} {k:Int} {n o:Nat} {s:List Nat} {ks:List Ex} {v:NV} {C:List (List NV)} (h:SE m T v ks C):RE m T (.mk k n o s ks) [ii k,u64 n,u8 o,.str s,v]:= .mk h.sl h.hT h.len h.R
theorem RE.len {m:NH} {T:D4->Prop} {x:Ex} {c:List NV} (h:RE m T x c):c.length=5:=by cases h;rfl
theorem RS.len {m:NH} {T:D4->Prop} {x:Stm} {c:List NV} (h:RS m T x c):c.length=21:=by
 cases h with
 |mk hi hx hy=>simp[hi.len,hx.len,hy.len]
def Ex.k:Ex->Int| .mk k _ _ _ _=>k
def Ex.n:Ex->Nat| .mk _ n _ _ _=>n
def Ex.o:Ex->Nat| .mk _ _ o _ _=>o
def Ex.s:Ex->List Nat| .mk _ _ _ s _=>s
def Ex.ks:Ex->List Ex| .mk _ _ _ _ ks=>ks
abbrev Ex.l (x:Ex) (v:NV):List NV:= [ii x.k,u64 x.n,u8 x.o,.str x.s,v]
theorem RE.inv' {m:NH} {T:D4->Prop} {x:Ex} {c:List NV} (h:RE m T x c):∃v C,c=x.l v/\SE m T v x.ks C:=by
 cases x;exact h.inv
theorem RS.inv {m:NH} {T:D4->Prop} {k a:Int} {nm ce:List Nat} {i x y:Ex} {b e:List Stm} {c:List NV} (h:RS m T (.mk k a nm ce i x y b e) c):
 ∃vi vx vy vb ve B E,c= [ii k,ii a,.str nm,.str ce,ii i.k,u64 i.n,u8 i.o,.str i.s,vi,ii x.k,u64 x.n,u8 x.o,.str x.s,vx,ii y.k,u64 y.n,u8 y.o,.str y.s,vy,vb,ve]/\
  RE m T i (i.l vi)/\RE m T x (x.l vx)/\RE m T y (y.l vy)/\SS m T vb b B/\SS m T ve e E:=by
 cases h with
 |mk hi hx hy hb hbT hbl hbR he heT hel heR=>
  obtain ⟨vi,Ci,rfl,-⟩:=hi.inv'
  obtain ⟨vx,Cx,rfl,-⟩:=hx.inv'
  obtain ⟨vy,Cy,rfl,-⟩:=hy.inv'
  exact ⟨vi,vx,vy,_,_,_,_,rfl,hi,hx,hy,⟨hb,hbT,hbl,hbR⟩,⟨he,heT,hel,heR⟩⟩
theorem SE.stays {m m':NH} {T:D4->Prop} (hs:aE T m m') {v:NV} {l:List Ex} {C:List (List NV)} (h:SE m T v l C):SE m' T v l C:=⟨gc h.sl h.hT hs,h.hT,h.len,fun i x c a b=>(h.R i x c a b).stays hs⟩
theorem SS.stays {m m':NH} {T:D4->Prop} (hs:aE T m m') {v:NV} {l:List Stm} {C:List (List NV)} (h:SS m T v l C):SS m' T v l C:=⟨gc h.sl h.hT hs,h.hT,h.len,fun i x c a b=>(h.R i x c a b).stays hs⟩
theorem SE.at {m:NH} {T:D4->Prop} {v:NV} {l:List Ex} {C:List (List NV)} (h:SE m T v l C) (i:Nat) (hi:i<l.length):∃c,C[i]? =some c/\RE m T l[i] c:=by
 have hc:i<C.length:=by rw[h.len];exact hi
 exact ⟨C[i],List.getElem?_eq_getElem hc,h.R i _ _ (List.getElem?_eq_getElem hi) (List.getElem?_eq_getElem hc)⟩
theorem SS.at {m:NH} {T:D4->Prop} {v:NV} {l:List Stm} {C:List (List NV)} (h:SS m T v l C) (i:Nat) (hi:i<l.length):∃c,C[i]? =some c/\RS m T l[i] c:=by
 have hc:i<C.length:=by rw[h.len];exact hi
 exact ⟨C[i],List.getElem?_eq_getElem hc,h.R i _ _ (List.getElem?_eq_getElem hi) (List.getElem?_eq_getElem hc)⟩
def zE:Ex:= .mk 0 0 0 [] []
theorem Ax (m:NH) (T:D4->Prop) (k:Int) (n o:Nat) (s:List Nat):RE m T (.mk k n o s []) [ii k,u64 n,u8 o,.str s,.nils]:= .mk (C:= []) Sl.nil (by simp[ids]) rfl (by simp)
structure SV where
 (vi vx vy vb ve:NV)
def Stm.k:Stm->Int| .mk k _ _ _ _ _ _ _ _=>k
def Stm.a:Stm->Int| .mk _ a _ _ _ _ _ _ _=>a
def Stm.nm:Stm->List Nat| .mk _ _ s _ _ _ _ _ _=>s
def Stm.ce:Stm->List Nat| .mk _ _ _ s _ _ _ _ _=>s
def Stm.i:Stm->Ex| .mk _ _ _ _ x _ _ _ _=>x
def Stm.x:Stm->Ex| .mk _ _ _ _ _ x _ _ _=>x
def Stm.y:Stm->Ex| .mk _ _ _ _ _ _ x _ _=>x
def Stm.b:Stm->List Stm| .mk _ _ _ _ _ _ _ b _=>b
def Stm.e:Stm->List Stm| .mk _ _ _ _ _ _ _ _ e=>e
abbrev Stm.l (s:Stm) (w:SV):List NV:= [ii s.k,ii s.a,.str s.nm,.str s.ce,ii s.i.k,u64 s.i.n,u8 s.i.o,.str s.i.s,w.vi,ii s.x.k,u64 s.x.n,u8 s.x.o,.str s.x.s,w.vx,ii s.y.k,u64 s.y.n,u8 s.y.o,.str s.y.s,w.vy,w.vb,w.ve]
structure SP (m:NH) (T:D4->Prop) (s:Stm) (w:SV):Prop where
 i:RE m T s.i (s.i.l w.vi)
 x:RE m T s.x (s.x.l w.vx)
 y:RE m T s.y (s.y.l w.vy)
 b:∃B,SS m T w.vb s.b B
 e:∃E,SS m T w.ve s.e E
theorem RS.inv' {m:NH} {T:D4->Prop} {s:Stm} {c:List NV} (h:RS m T s c):∃w,c=s.l w/\SP m T s w:=by
 cases s
 obtain ⟨vi,vx,vy,vb,ve,B,E,rfl,h1,h2,h3,h4,h5⟩:=h.inv
 exact ⟨⟨vi,vx,vy,vb,ve⟩,rfl,h1,h2,h3,⟨B,h4⟩,⟨E,h5⟩⟩
end FR
open Go Nm Go.Proofs
namespace FR
mutual
def Stm.all:Stm->List Stm
 | .mk k a nm ce i x y b e=> .mk k a nm ce i x y b e::((if k=6∨k=7 then J1 b else [])++(if k=6 then J1 e else []))
def J1:List Stm->List Stm
 | []=> []
 |s::l=>s.all++J1 l
end
mutual
def Ex.sz:Ex->Nat
 | .mk _ _ _ _ ks=>1+nB ks
def nB:List Ex->Nat
 | []=>0
 |x::xs=>x.sz+nB xs
end
mutual
def Stm.sz:Stm->Nat
 | .mk _ _ _ _ i x y b e=>1+i.sz+x.sz+y.sz+fF b+fF e
def fF:List Stm->Nat
 | []=>0
 |s::l=>s.sz+fF l
end
theorem fQ (x:Ex):1<=x.sz:=by cases x;rw[Ex.sz];omega
theorem If (ks:List Ex):ks.length<=nB ks:=by
 induction ks with
 |nil=>simp
 |cons x ks ih=>have:=fQ x;rw[nB,List.length_cons];omega
theorem HF (x:Stm):1<=x.sz:=by cases x;rw[Stm.sz];omega
theorem Hv (ks:List Stm):ks.length<=fF ks:=by
 induction ks with
 |nil=>simp
 |cons x ks ih=>have:=HF x;rw[fF,List.length_cons];omega
end FR
open Go Nm Go.Proofs
namespace FR
noncomputable def S1:cR:=yM 35 (Lm 57 5)<|yM 18 (Ch 57 5)<|yM 36 I8<|yM 34 (rj 0)<|yM 26 (Im 0) QU
noncomputable def S0:cR:=OH 4 [] (.bool true) S1
abbrev ft (l:List (List Nat)):List (List NV):=l.map fun s=> [.str s]
end FR
open Go Nm Go.Proofs
namespace FR
def jd (c:Nat):Bool:=decide (97<=c/\c<=122)
def cu (c:Nat):Bool:=decide (48<=c/\c<=57)
def bT (c:Nat):Bool:=jd c||cu c||decide (c=95)
def j8 (c:Nat):Bool:=decide (c=32∨c=9∨c=10∨c=13)
theorem oM (m:NH) (c:Nat):a6 Tryz.prog S0 53 [u8 c] m (.bool (jd c)) m:=by
 have h:∃v m',a6 Tryz.prog S0 53 [u8 c] m v m'/\v= .bool (jd c)/\m'=m:=by
  refine WF.ex fun K hK=> ?_
  refine WF.of_wpG (fun _=>rfl) y6 (L:= [(.e,u8 c)]) rfl ?_
  unfold LC
  by_cases h1:97<=c
  ·by_cases h2:c<=122
   ·simp (disch:=first|assumption|omega) only[go_sem,seval]
    exact hK _ _ ⟨by simp[jd,h1,h2],ab m⟩
   ·simp (disch:=first|assumption|omega) only[go_sem,seval]
    exact hK _ _ ⟨by simp[jd,h2],ab m⟩
  ·simp (disch:=first|assumption|omega) only[go_sem,seval]
   exact hK _ _ ⟨by simp[jd,h1],ab m⟩
 obtain ⟨v,m',h,rfl,rfl⟩:=h
 exact h
theorem sI (m:NH) (c:Nat):a6 Tryz.prog S0 52 [u8 c] m (.bool (cu c)) m:=by
 have h:∃v m',a6 Tryz.prog S0 52 [u8 c] m v m'/\v= .bool (cu c)/\m'=m:=by
  refine WF.ex fun K hK=> ?_
  refine WF.of_wpG (fun _=>rfl) zT (L:= [(.e,u8 c)]) rfl ?_
  unfold KI
  by_cases h1:48<=c
  ·by_cases h2:c<=57
   ·simp (disch:=first|assumption|omega) only[go_sem,seval]
    exact hK _ _ ⟨by simp[cu,h1,h2],ab m⟩
   ·simp (disch:=first|assumption|omega) only[go_sem,seval]
    exact hK _ _ ⟨by simp[cu,h2],ab m⟩
  ·simp (disch:=first|assumption|omega) only[go_sem,seval]
   exact hK _ _ ⟨by simp[cu,h1],ab m⟩
 obtain ⟨v,m',h,rfl,rfl⟩:=h
 exact h
theorem CS (m:NH) (c:Nat):a6 Tryz.prog S0 51 [u8 c] m (.bool (bT c)) m:=by
 have h:∃v m',a6 Tryz.prog S0 51 [u8 c] m v m'/\v= .bool (bT c)/\m'=m:=by
  refine WF.ex fun K hK=> ?_
  refine WF.of_wpG (fun _=>rfl) Ai (L:= [(.e,u8 c)]) rfl ?_
  unfold Jw
  have a1:=oM m c
  have a2:=sI m c
  cases h1:jd c with
  |true=>
   rw[h1] at a1
   simp only[go_sem,seval,ab,a1.wf']
   exact hK _ _ ⟨by simp[bT,h1],rfl⟩
  |false=>
   rw[h1] at a1
   cases h2:cu c with
   |true=>
    rw[h2] at a2
    simp only[go_sem,seval,ab,a1.wf',a2.wf']
    exact hK _ _ ⟨by simp[bT,h2],rfl⟩
   |false=>
    rw[h2] at a2
    by_cases h3:c=95
    ·simp only[go_sem,seval,ab,a1.wf',a2.wf']
     exact hK _ _ ⟨by simp[bT,h3],rfl⟩
    ·simp (disch:=first|assumption|omega) only[go_sem,seval,ab,a1.wf',a2.wf']
     exact hK _ _ ⟨by simp[bT,h1,h2,h3],rfl⟩
 obtain ⟨v,m',h,rfl,rfl⟩:=h
 exact h
def aA (p:Nat->Bool) (s:List Nat) (a:Nat):Nat:=a+((s.drop a).takeWhile p).length
theorem cH {p:Nat->Bool} {s:List Nat} {a:Nat} (h:a<s.length) (hp:p s[a]=true):aA p s a=aA p s (a+1):=by
 unfold aA
 rw[List.drop_eq_getElem_cons h,List.takeWhile_cons,Q5 hp,List.length_cons]
 omega
theorem gE {p:Nat->Bool} {s:List Nat} {a:Nat} (h:a<s.length) (hp:p s[a]=false):aA p s a=a:=by
 unfold aA
 rw[List.drop_eq_getElem_cons h,List.takeWhile_cons,Q4 (by simp[hp])];rfl
theorem fZ {p:Nat->Bool} {s:List Nat} {a:Nat} (h:s.length<=a):aA p s a=a:=by
 unfold aA
 rw[List.drop_eq_nil_of_le h];rfl
theorem eT {p:Nat->Bool} {s:List Nat} {a:Nat}:a<=aA p s a:=by unfold aA;omega
theorem eh {p:Nat->Bool} {s:List Nat} {a:Nat} (h:a<=s.length):aA p s a<=s.length:=by
 unfold aA
 have:=(List.takeWhile_sublist (l:=s.drop a) p).length_le
 rw[List.length_drop] at this;omega
def wA:Bool->List Nat->Nat
 |_, []=>0
 |false,c::l=>if j8 c then 1+wA false l else if c=35 then 1+wA true l else 0
 |true,c::l=>if c=10 then 1+wA false l else 1+wA true l
def bc (s:List Nat) (a:Nat):Nat:=a+wA false (s.drop a)
theorem K6:∀(l:List Nat) (q:Bool),wA q l<=l.length:=by
 intro l
 induction l with
 |nil=>intro q;cases q<;>exact Nat.le_refl 0
 |cons c l ih=>
  intro q
  have h1:=ih false
  have h2:=ih true
  cases q with
  |false=>
   show (if j8 c then 1+wA false l else if c=35 then 1+wA true l else 0)<=l.length+1
   split
   ·omega
   ·split<;>omega
  |true=>
   show (if c=10 then 1+wA false l else 1+wA true l)<=l.length+1
   split<;>omega
def mW (s:List Nat) (a:Nat):Nat:=a+wA true (s.drop a)
theorem ej {s:List Nat} {a:Nat} (h:a<s.length):bc s a=if j8 s[a] then bc s (a+1) else if s[a]=35 then mW s (a+1) else a:=by
 unfold bc mW
 rw[List.drop_eq_getElem_cons h]
 show a+(if j8 s[a] then 1+wA false (s.drop (a+1)) else if s[a]=35 then 1+wA true (s.drop (a+1)) else 0)=_
 split
 ·omega
 ·split<;>omega
theorem pp {s:List Nat} {a:Nat} (h:a<s.length):mW s a=if s[a]=10 then bc s (a+1) else mW s (a+1):=by
 unfold bc mW
 rw[List.drop_eq_getElem_cons h]
 show a+(if s[a]=10 then 1+wA false (s.drop (a+1)) else 1+wA true (s.drop (a+1)))=_
 split<;>omega
theorem j6 {s:List Nat} {a:Nat} (h:s.length<=a):bc s a=a:=by
 unfold bc;rw[List.drop_eq_nil_of_le h];rfl
theorem BK {s:List Nat} {a:Nat} (h:s.length<=a):mW s a=a:=by
 unfold mW;rw[List.drop_eq_nil_of_le h];rfl
theorem g9 {s:List Nat} {a:Nat} (h:a<=s.length):bc s a<=s.length:=by
 have:=K6 (s.drop a) false
 rw[List.length_drop] at this
 unfold bc;omega
theorem oU {s:List Nat} {a:Nat}:a<=bc s a:=by unfold bc;omega
theorem GK (s:List Nat):∀(k a:Nat),k=s.length - a->mW s a=bc s (aA (fun c=>decide (c≠10)) s a):=by
 intro k
 induction k with
 |zero=>intro a hk;rw[fZ (by omega),BK (by omega),j6 (by omega)]
 |succ k ih=>
  intro a hk
  have ha:a<s.length:=by omega
  by_cases h:s[a]=10
  ·rw[gE ha (by simp[h]),pp ha,Q5 h,ej ha,Q5 (by simp[j8,h])]
  ·rw[cH ha (by simp[h]),pp ha,Q4 h];exact ih (a+1) (by omega)
theorem pF {s:List Nat} {a:Nat} (h:a<s.length) (hs:s[a]=35):bc s a=bc s (aA (fun c=>decide (c≠10)) s a):=by
 rw[cH h (by simp[hs]),ej h,Q4 (by simp[j8,hs]),Q5 hs,GK s _ _ rfl]
theorem rl {s:List Nat} {a:Nat} (h:a<s.length) (hb:j8 s[a]=false) (hs:s[a]≠35):bc s a=a:=by
 rw[ej h,Q4 (by simp[hb]),Q4 hs]
theorem G3 {m:NH} {vb:NV} {s:List Nat} (hs:s.length<=1000000) (hb:Sl m vb 1 (gi s)) {a:Nat} (ha:a<=s.length) {t:Tm} (g1:NT.get D4.e t=some vb) (g2:NT.get D4.e.a t=some (ii a))
 {Q:Out->Dyn->Prop} (hQ:∀t',NT.get D4.e t'=some vb->NT.get D4.e.a t'=some (ii (aA (fun c=>decide (c≠10)) s a))->Q (.exit 3) ⟨am [] t', [],none,m⟩):W Tryz.prog S0 none nM.loop ⟨t, [],none,m⟩ Q:=by
 have hlen:=hb.len
 rw[List.length_map] at hlen
 refine W.loop (fun k d=>∃t i,d=⟨t, [],none,m⟩/\NT.get D4.e t=some vb/\NT.get D4.e.a t=some (ii (i:Nat))/\aA (fun c=>decide (c≠10)) s i=aA (fun c=>decide (c≠10)) s a/\i+k=s.length) ?_ (s.length - a) _ ⟨_,a,rfl,g1,g2,rfl,by omega⟩
 rintro k d ⟨t,i,rfl,g1,g2,hr,hik⟩
 have hQ':=fun L t'=>hQ (am L t')
 simp only[CV] at hQ'
 apply aM
 unfold nM
 change wp _ _ _ _ ⟨am [] t, [],none,m⟩ _
 by_cases hi:i<s.length
 ·obtain ⟨id,off,w,c,a1,a2,a3,a4,a5⟩:=hb.at i (by simpa using hi)
  rw[List.getElem_map] at a5
  have c0:=cn a5 0 (by omega)
  rw[Nat.add_zero] at c0
  by_cases h10:s[i]=10
  ·simp (disch:=first|assumption|omega) only[go_sem,seval,g1,g2,hlen,a1,a2,c0]
   refine hQ' _ _ ?_ ?_
   ·simp only[go_sem,seval,g1]
   ·simp only[go_sem,seval,g2];rw[←hr,gE hi (by simp[h10])]
  ·simp (disch:=first|assumption|omega) only[go_sem,seval,g1,g2,hlen,a1,a2,c0]
   refine ⟨k - 1,by omega,_,i+1,rfl, ?_, ?_,by rw[←hr,cH hi (by simp[h10])],by omega⟩
   ·simp only[go_sem,seval,g1]
   ·simp only[go_sem,seval]<;>rfl
 ·simp (disch:=first|assumption|omega) only[go_sem,seval,g1,g2,hlen]
  refine hQ' _ _ ?_ ?_
  ·simp only[go_sem,seval,g1]
  ·simp only[go_sem,seval,g2];rw[←hr,fZ (by omega)]
theorem Gg (m:NH) {vb:NV} {s:List Nat} (hs:s.length<=1000000) (hb:Sl m vb 1 (gi s)) {a:Nat} (ha:a<=s.length):a6 Tryz.prog S0 27 [vb,ii a] m (ii (bc s a)) m:=by
 have h:∃v m',a6 Tryz.prog S0 27 [vb,ii a] m v m'/\v=ii (bc s a)/\m'=m:=by
  refine WF.ex fun K hK=> ?_
  refine WF.of_wpG (fun _=>rfl) AD (L:= [(.a .e,ii a),(.e,vb)]) rfl ?_
  unfold Lt
  have hlen:=hb.len
  rw[List.length_map] at hlen
  simp only[go_sem,seval,ab]
  refine W.loop (fun k d=>∃t i,d=⟨t, [],none,m⟩/\NT.get D4.e t=some vb/\NT.get D4.e.a t=some (ii (i:Nat))/\bc s i=bc s a/\i+k=s.length) ?_ (s.length - a) _ ⟨_,a,rfl,by exact gq rfl,by exact gq rfl,rfl,by omega⟩
  rintro k d ⟨t,i,rfl,g1,g2,hr,hik⟩
  apply aM
  unfold zj
  change wp _ _ _ _ ⟨am [] t, [],none,m⟩ _
  by_cases hi:i<s.length
  ·obtain ⟨id,off,w,c,a1,a2,a3,a4,a5⟩:=hb.at i (by simpa using hi)
   rw[List.getElem_map] at a5
   have c0:=cn a5 0 (by omega)
   rw[Nat.add_zero] at c0
   have blk:∀h:j8 s[i]=true,bc s (i+1)=bc s a:=fun h=>by rw[←hr,ej hi,Q5 h]
   by_cases h1:s[i]=32
   ·simp (disch:=first|assumption|omega) only[go_sem,seval,g1,g2,hlen,a1,a2,c0]
    refine ⟨k - 1,by omega,_,i+1,rfl, ?_, ?_,blk (by simp[j8,h1]),by omega⟩
    ·simp only[go_sem,seval,g1]
    ·simp only[go_sem,seval]<;>rfl
   ·by_cases h2:s[i]=9
    ·simp (disch:=first|assumption|omega) only[go_sem,seval,g1,g2,hlen,a1,a2,c0]
     refine ⟨k - 1,by omega,_,i+1,rfl, ?_, ?_,blk (by simp[j8,h2]),by omega⟩
     ·simp only[go_sem,seval,g1]
     ·simp only[go_sem,seval]<;>rfl
    ·by_cases h3:s[i]=10
     ·simp (disch:=first|assumption|omega) only[go_sem,seval,g1,g2,hlen,a1,a2,c0]
      refine ⟨k - 1,by omega,_,i+1,rfl, ?_, ?_,blk (by simp[j8,h3]),by omega⟩
      ·simp only[go_sem,seval,g1]
      ·simp only[go_sem,seval]<;>rfl
     ·by_cases h4:s[i]=13
      ·simp (disch:=first|assumption|omega) only[go_sem,seval,g1,g2,hlen,a1,a2,c0]
       refine ⟨k - 1,by omega,_,i+1,rfl, ?_, ?_,blk (by simp[j8,h4]),by omega⟩
       ·simp only[go_sem,seval,g1]
       ·simp only[go_sem,seval]<;>rfl
      ·have hnb:j8 s[i]=false:=by simp[j8,h1,h2,h3,h4]
       by_cases h5:s[i]=35
       ·simp (disch:=first|assumption|omega) only[go_sem,seval,g1,g2,hlen,a1,a2,c0]
        refine G3 hs hb (a:=i) (by omega) ?_ ?_ ?_
        ·simp only[go_sem,seval,g1]
        ·simp only[go_sem,seval,g2]
        intro t' g1 g2
        simp only[go_sem,seval]
        have hle:=eh (p:=fun c=>decide (c≠10)) (s:=s) (a:=i) (by omega)
        have hlt:i+1<=aA (fun c=>decide (c≠10)) s i:=by rw[cH hi (by simp[h5])];exact eT
        exact ⟨s.length - aA (fun c=>decide (c≠10)) s i,by omega,t',_,rfl,g1,g2,by rw[←pF hi h5];exact hr,by omega⟩
       ·simp (disch:=first|assumption|omega) only[go_sem,seval,g1,g2,hlen,a1,a2,c0]
        exact hK _ _ ⟨by rw[←hr,rl hi hnb h5],rfl⟩
  ·simp (disch:=first|assumption|omega) only[go_sem,seval,g1,g2,hlen]
   exact hK _ _ ⟨by rw[←hr,j6 (by omega)],rfl⟩
 obtain ⟨v,m',h,rfl,rfl⟩:=h
 exact h
def cA:List (List Nat):= [[99,101,108,108], [116,104,114,101,97,100], [114,101,99,111,118,101,114], [115,101,116], [108,111,97,100], [115,116,111,114,101], [99,97,115], [102,101,110,99,101], [111,117,116], [105,102], [101,108,115,101], [119,104,105,108,101]]
theorem JY (m:NH) (t:List Nat):∃v m',a6 Tryz.prog S0 54 [.str t] m v m'/\v= .bool (decide (t∈cA))/\Chg [] m m':=by
 refine WF.ex fun K hK=> ?_
 refine WF.of_wpG (fun _=>rfl) AV (L:= [(.e,.str t)]) rfl ?_
 unfold J8
 simp (disch:=first|assumption|omega|(simp only[ay]<;>omega)) only[go_sem,seval]
 generalize hM:hp _ 1 m=M
 have hC:Chg [] m M:=bf hM rfl
 have hv:Sl M (.slc (na m 0) 0 12 1 12) 1 (ft cA):=by
  rw[←hM]
  exact (dq.of (B:=m) (C:=ft cA) (by simp) aD cI (ai (by omega)) rfl rfl rfl).sl
 have hwl:cA.length=12:=rfl
 refine W.loop (fun k d=>∃t' i,d=⟨t', [],none,M⟩/\NT.get D4.e t'=some (.str t)/\NT.get D4.e.c t'=some (.slc (na m 0) 0 12 1 12)/\NT.get D4.e.f t'=some (ii (i:Nat))/\t∉cA.take i/\i+k=12) ?_ 12 _ ⟨_,0,rfl,by exact gq rfl,by exact gq rfl,by exact gq rfl,by simp,by omega⟩
 rintro k d ⟨t',i,rfl,g1,g2,g3,hno,hik⟩
 apply aM
 unfold A3
 change wp _ _ _ _ ⟨am [] t', [],none,M⟩ _
 by_cases hi:i<12
 ·obtain ⟨id,off,w,c,a1,a2,a3,a4,a5⟩:=hv.at i (by simpa [hwl] using hi)
  rw[List.getElem_map] at a5
  have c0:=cn a5 0 (by omega)
  rw[Nat.add_zero] at c0
  by_cases he:cA[i]=t
  ·simp (disch:=first|assumption|omega) only[go_sem,seval,g1,g2,g3,a1,a2,c0,he]
   exact hK _ _ ⟨by rw[Q7 (show t∈cA by rw[←he];exact List.getElem_mem _)],hC⟩
  ·simp (disch:=first|assumption|omega) only[go_sem,seval,g1,g2,g3,a1,a2,c0,he]
   refine ⟨k - 1,by omega,_,i+1,rfl, ?_, ?_, ?_, ?_,by omega⟩
   ·simp only[go_sem,seval,g1]
   ·simp only[go_sem,seval,g2]
   ·simp only[go_sem,seval]<;>rfl
   ·rw[List.take_add_one,List.getElem?_eq_getElem (by omega)]
    simp only[Option.toList_some,List.mem_append,List.mem_singleton,not_or]
    exact ⟨hno,fun q=>he q.symm⟩
 ·simp (disch:=first|assumption|omega) only[go_sem,seval,g1,g2,g3]
  have e:i=12:=by omega
  subst e
  rw[List.take_of_length_le (by rw[hwl];omega)] at hno
  exact hK _ _ ⟨by simp[hno],hC⟩
def eO:List Nat->Nat->Option Nat
 | [],n=>some n
 |c::l,n=>if 10*n+(c - 48)<18446744073709551616 then eO l (10*n+(c - 48)) else none
def ke (s:List Nat):Option Nat:=if 1<s.length/\s[0]? =some 48 then none else eO s 0
def ch:List Nat:= [123,125,40,41,91,93,59,43,45,42,38,61,60]
def cut (s:List Nat) (a e:Nat):List Nat:=(s.take e).drop a
def b8 (s:List Nat) (a:Nat):Option (Nat×List Nat×Nat×Nat):=
 match s[a]? with
 |none=>none
 |some c=>
  if jd c then (if cut s a (aA bT s a)∈cA then some (4,cut s a (aA bT s a),0,aA bT s a) else if (cut s a (aA bT s a)).length<=16 then some (1,cut s a (aA bT s a),0,aA bT s a) else none)
  else if cu c then (match ke (cut s a (aA cu s a)) with|some n=>if aA bT s a=aA cu s a then some (2, [],n,aA cu s a) else none|none=>none)
  else if c∈ch then some (3, [c],0,a+1) else none
theorem eZ {a n d:Int} {t:List Nat}:br 4 (.agg [.int .i64 (.lit a),.str t,.int .u64 (.lit n),.int .i64 (.lit d)]) (.agg [.int .i64 (.lit a),.str t,.int .u64 (.lit n),.int .i64 (.lit d)])=true:=by
 refine od ?_
 intro v hv
 simp only[Q9,Q8,or_false] at hv
 rcases hv with rfl|rfl|rfl|rfl<;>trivial
theorem lL (p:Nat->Bool) (s:List Nat) (a:Nat):cut s a (aA p s a)=(s.drop a).takeWhile p:=by
 unfold cut aA
 rw[List.drop_take,Nat.add_sub_cancel_left]
 exact (List.prefix_iff_eq_take.mp (List.takeWhile_prefix p)).symm
theorem xK {p:Nat->Bool} {s:List Nat} {a c:Nat} (hb:s[a]? =some c) (hp:p c=true):∃l,cut s a (aA p s a)=c::l:=by
 rw[lL]
 obtain ⟨ha,hc⟩:=List.getElem?_eq_some_iff.mp hb
 rw[List.drop_eq_getElem_cons ha,hc,List.takeWhile_cons,hp]
 exact ⟨_,rfl⟩
theorem xo (p:Nat->Bool) (l:List Nat):∀c∈l.takeWhile p,p c=true:=by
 induction l with
 |nil=>intro c h;simp at h
 |cons x l ih=>
  intro c h
  rw[List.takeWhile_cons] at h
  split at h
  ·rcases List.mem_cons.mp h with rfl|h
   ·assumption
   ·exact ih c h
  ·simp at h
theorem jX (p:Nat->Bool) (s:List Nat) (a:Nat):∀c∈cut s a (aA p s a),p c=true:=by rw[lL];exact xo p _
theorem nL (c:Nat) (h:cu c=true):bT c=true:=by unfold bT;rw[h];simp
structure Tok where
 k:Nat
 t:List Nat
 n:Nat
 p:Nat
def Tok.l (x:Tok):List NV:= [ii x.k,.str x.t,u64 x.n,ii x.p]
def bR (s:List Nat):Nat->Nat->List Tok×Option Nat
 |0,_=>([],none)
 |k+1,a=>if a<s.length then (match b8 s a with
  |none=>([],some a)
  |some (kd,t,n,e)=>(⟨kd,t,n,a⟩::(bR s k (bc s e)).1,(bR s k (bc s e)).2)) else ([⟨5, [],0,s.length⟩],none)
def bn (s:List Nat):List Tok×Option Nat:=bR s (s.length+1) (bc s 0)
theorem F2 {p:Nat->Bool} {s:List Nat} {a c:Nat} (hb:s[a]? =some c) (hp:p c=true):a<aA p s a:=by
 obtain ⟨ha,hc⟩:=List.getElem?_eq_some_iff.mp hb
 rw[cH ha (by rw[hc];exact hp)]
 exact eT
theorem wE {s:List Nat} {a kd n e:Nat} {t:List Nat} (h:b8 s a=some (kd,t,n,e)):a<e/\e<=s.length:=by
 unfold b8 at h
 cases hb:s[a]? with
 |none=>rw[hb] at h;cases h
 |some c=>
  rw[hb] at h
  obtain ⟨ha,hc⟩:=List.getElem?_eq_some_iff.mp hb
  dsimp only at h
  have g1:jd c=true->a<aA bT s a:=fun q=>F2 hb (by unfold bT;rw[q];rfl)
  have g2:cu c=true->a<aA cu s a:=fun q=>F2 hb q
  have l1:=eh (p:=bT) (s:=s) (a:=a) (by omega)
  have l2:=eh (p:=cu) (s:=s) (a:=a) (by omega)
  split at h
  ·rename_i hL
   split at h
   ·cases h;exact ⟨g1 hL,l1⟩
   ·split at h
    ·cases h;exact ⟨g1 hL,l1⟩
    ·cases h
  ·split at h
   ·rename_i hD
    split at h
    ·split at h
     ·cases h;exact ⟨g2 hD,l2⟩
     ·cases h
    ·cases h
   ·split at h
    ·cases h;exact ⟨by omega,by omega⟩
    ·cases h
theorem jW (s:List Nat):∀(k a:Nat),(bR s k a).1.length<=k:=by
 intro k
 induction k with
 |zero=>intro a;simp[bR]
 |succ k ih=>
  intro a
  unfold bR
  split
  ·split
   ·simp
   ·rename_i kd t n e _
    have:=ih (bc s e)
    simp only[List.length_cons];omega
  ·simp
def Mo (s:List Nat):Int->List Tok->Prop
 |_, []=>True
 |w,x::l=>w<x.p/\x.p<=s.length/\x.t.length<=s.length - x.p/\cut s x.p (x.p+x.t.length)=x.t/\(x.k=5↔l= [])/\Mo s x.p l
theorem lj {s:List Nat} {a e:Nat} (h:e<=s.length):(cut s a e).length=e - a:=by unfold cut;rw[List.length_drop,List.length_take];omega
theorem tD (s:List Nat) (a:Nat):cut s a a= []:=by unfold cut;exact List.drop_take_self
theorem GY {s:List Nat} {a e:Nat} (h:e<=s.length) (h':a<=e):cut s a (a+(cut s a e).length)=cut s a e:=by rw[lj h,Nat.add_sub_cancel' h']
theorem HT {s:List Nat} {a c:Nat} (hb:s[a]? =some c):cut s a (a+1)= [c]:=by
 obtain ⟨ha,hc⟩:=List.getElem?_eq_some_iff.mp hb
 unfold cut
 rw[List.take_add_one,hb]
 simp only[Option.toList_some]
 rw[List.drop_append_of_le_length (by rw[List.length_take];omega),List.drop_take_self];rfl
theorem KX {s:List Nat} {a kd n e:Nat} {t:List Nat} (h:b8 s a=some (kd,t,n,e)):kd≠5/\t.length<=s.length - a/\cut s a (a+t.length)=t:=by
 unfold b8 at h
 cases hb:s[a]? with
 |none=>rw[hb] at h;cases h
 |some c=>
  rw[hb] at h
  obtain ⟨ha,hc⟩:=List.getElem?_eq_some_iff.mp hb
  dsimp only at h
  have l1:=eh (p:=bT) (s:=s) (a:=a) (by omega)
  have l2:=eT (p:=bT) (s:=s) (a:=a)
  have c1:=GY l1 l2
  have c2:=lj (a:=a) l1
  split at h
  ·split at h
   ·cases h;exact ⟨by omega,by omega,c1⟩
   ·split at h
    ·cases h;exact ⟨by omega,by omega,c1⟩
    ·cases h
  ·split at h
   ·split at h
    ·split at h
     ·cases h;exact ⟨by omega,by simp,tD s a⟩
     ·cases h
    ·cases h
   ·split at h
    ·cases h;exact ⟨by omega,by simp;omega,HT hb⟩
    ·cases h
theorem DY (s:List Nat):∀(k a:Nat) (w:Int),s.length<=a+k->a<=s.length->w<a->(bR s (k+1) a).2=none->Mo s w (bR s (k+1) a).1/\(bR s (k+1) a).1≠ []:=by
 intro k
 induction k with
 |zero=>
  intro a w h1 h2 h3 h4
  rw[bR,Q4 (by omega)]
  exact ⟨⟨by simp;omega,Nat.le_refl _,by simp,tD s _,by simp,trivial⟩,by simp⟩
 |succ k ih=>
  intro a w h1 h2 h3 h4
  by_cases ha:a<s.length
  ·rw[bR,Q5 ha] at h4 ⊢
   cases hk:b8 s a with
   |none=>rw[hk] at h4;cases h4
   |some x=>
    obtain ⟨kd,t,n,e⟩:=x
    rw[hk] at h4
    obtain ⟨e1,e2⟩:=wE hk
    obtain ⟨t1,t2,t3⟩:=KX hk
    have g1:e<=bc s e:=oU
    obtain ⟨i1,i2⟩:=ih (bc s e) a (by omega) (g9 e2) (by omega) h4
    exact ⟨⟨h3,by simp;omega,t2,t3,⟨fun q=>Q3 q t1,fun q=>Q3 q i2⟩,i1⟩,by simp⟩
  ·rw[bR,Q4 ha]
   exact ⟨⟨by simp;omega,Nat.le_refl _,by simp,tD s _,by simp,trivial⟩,by simp⟩
theorem A0 {s:List Nat} (h:(bn s).2=none):Mo s (-1) (bn s).1/\(bn s).1≠ []:=by
 have:=g9 (s:=s) (a:=0) (Nat.zero_le _)
 exact DY s s.length (bc s 0) (-1) (by omega) this (by omega) h
theorem Ok {m:NH} {vb f:NV} {s:List Nat} (hs:s.length<=1000000) (hb:Sl m vb 1 (gi s)) {a:Nat} (ha:a<=s.length) {t:Tm} (g1:NT.get D4.e t=some vb) (g2:NT.get D4.e.a.c t=some (ii a)) (g3:NT.get D4.e.a t=some (ii a)) (g4:NT.get D4.e.f t=some f)
 {Q:Out->Dyn->Prop} (hQ:∀L t',NT.get D4.e (am L t')=some vb->NT.get D4.e.a (am L t')=some (ii a)->NT.get D4.e.f (am L t')=some f->NT.get D4.e.a.c (am L t')=some (ii ((aA bT s a:Nat):Int))->Q (.exit 0) ⟨am L t', [],none,m⟩):W Tryz.prog S0 none rv.loop ⟨t, [],none,m⟩ Q:=by
 have hlen:=hb.len
 rw[List.length_map] at hlen
 refine W.loop (fun k d=>∃t i,d=⟨t, [],none,m⟩/\NT.get D4.e t=some vb/\NT.get D4.e.a t=some (ii a)/\NT.get D4.e.f t=some f/\NT.get D4.e.a.c t=some (ii (i:Nat))/\aA bT s i=aA bT s a/\i+k=s.length) ?_ (s.length - a) _ ⟨_,a,rfl,g1,g3,g4,g2,rfl,by omega⟩
 rintro k d ⟨t,i,rfl,g1,g3,g4,g2,hr,hik⟩
 apply aM
 unfold rv
 change wp _ _ _ _ ⟨am [] t, [],none,m⟩ _
 by_cases hi:i<s.length
 ·obtain ⟨id,off,w,c,a1,a2,a3,a4,a5⟩:=hb.at i (by simpa using hi)
  rw[List.getElem_map] at a5
  have c0:=cn a5 0 (by omega)
  rw[Nat.add_zero] at c0
  have hI:=CS m s[i]
  cases h1:bT s[i] with
  |false=>
   rw[h1] at hI
   simp (disch:=first|assumption|omega) only[go_sem,seval,g1,g2,hlen,a1,a2,c0,hI.wf']
   refine hQ _ _ ?_ ?_ ?_ ?_
   ·simp only[go_sem,seval,g1]
   ·simp only[go_sem,seval,g3]
   ·simp only[go_sem,seval,g4]
   ·simp only[go_sem,seval,g2];rw[←hr,gE hi h1]
  |true=>
   rw[h1] at hI
   simp (disch:=first|assumption|omega) only[go_sem,seval,g1,g2,hlen,a1,a2,c0,hI.wf']
   refine ⟨k - 1,by omega,_,i+1,rfl, ?_, ?_, ?_, ?_,by rw[←hr,cH hi h1],by omega⟩
   ·simp only[go_sem,seval,g1]
   ·simp only[go_sem,seval,g3]
   ·simp only[go_sem,seval,g4]
   ·simp only[go_sem,seval]<;>rfl
 ·simp (disch:=first|assumption|omega) only[go_sem,seval,g1,g2,hlen]
  refine hQ _ _ ?_ ?_ ?_ ?_
  ·simp only[go_sem,seval,g1]
  ·simp only[go_sem,seval,g3]
  ·simp only[go_sem,seval,g4]
  ·simp only[go_sem,seval,g2];rw[←hr,fZ (by omega)]
theorem C8 {s:List Nat} {a:Nat} (h:∀c∈cut s a (aA bT s a),cu c=true):aA cu s a=aA bT s a:=by
 rw[lL] at h
 unfold aA
 congr 1
 generalize s.drop a=l at h ⊢
 induction l with
 |nil=>rfl
 |cons x l ih=>
  rw[List.takeWhile_cons] at h
  rw[List.takeWhile_cons,List.takeWhile_cons]
  cases hx:bT x with
  |false=>
   have:cu x=false:=by cases hd:cu x with
    |false=>rfl
    |true=>rw[nL x hd] at hx;cases hx
   simp[hx,this]
  |true=>
   rw[hx] at h
   have h0:=h x (by simp)
   rw[h0]
   simp only[if_true,List.length_cons]
   rw[ih fun c hc=>h c (by simp[hc])]
def wP (s:List Nat) (a:Nat):Prop:=aA bT s a≠aA cu s a∨eO (cut s a (aA cu s a)) 0=none
theorem Hg {s:List Nat} {a e i:Nat} (h1:a<=i) (h2:i<e) (h3:e<=s.length):(cut s a e).drop (i - a)=s[i]::(cut s a e).drop (i+1 - a):=by
 have hlt:i - a<(cut s a e).length:=by rw[lj h3];omega
 have hg:(cut s a e)[i - a]? =s[i]? :=by
  unfold cut
  rw[List.getElem?_drop,show a+(i - a)=i by omega,List.getElem?_take_of_lt h2]
 rw[List.getElem?_eq_getElem hlt,List.getElem?_eq_getElem (by omega),Option.some.injEq] at hg
 rw[List.drop_eq_getElem_cons hlt,show i - a+1=i+1 - a by omega,hg]
theorem Om {m:NH} {vb:NV} {s:List Nat} (hs:s.length<=1000000) (hb:Sl m vb 1 (gi s)) {a:Nat} (ha:a<=s.length) {t:Tm} {r tk:D4} {b0 b1 b2 b3 a0 a1 a2 a3 cc:NV}
 (hr:m.get r=some (.cells true [b0,b1,b2,b3])) (htk:m.get tk=some (.cells true [a0,a1,a2,a3])) (orr:aw m r) (otk:aw m tk)
 (g1:NT.get D4.e t=some vb) (g2:NT.get D4.e.a.c t=some (ii ((aA bT s a:Nat):Int))) (g3:NT.get D4.e.a t=some (ii a)) (g4:NT.get D4.e.f t=some (.ptr r 0)) (g5:NT.get D4.e.b.a t=some (.ptr tk 0)) (g6:NT.get D4.e.b.b t=some (u64 0)) (g7:NT.get D4.e.b.c t=some (ii a)) (g8:NT.get D4.e.a.f t=some cc)
 {Q:Out->Dyn->Prop}
 (hbad:wP s a->∀L t',NT.get D4.e.f (am L t')=some (.ptr r 0)->NT.get D4.e.a.a (am L t')=some (ii a)->NT.get D4.e.a.b (am L t')=some (ii 2)->Q .ret ⟨am L t', [],none,m.put r (.cells true [a0,a1,a2,a3])⟩)
 (hok:∀n,aA bT s a=aA cu s a->eO (cut s a (aA cu s a)) 0=some n->∀L t',NT.get D4.e.b.a (am L t')=some (.ptr tk 0)->NT.get D4.e.a.c (am L t')=some (ii ((aA bT s a:Nat):Int))->NT.get D4.e.a (am L t')=some (ii a)->NT.get D4.e.f (am L t')=some (.ptr r 0)->NT.get D4.e.b.b (am L t')=some (u64 n)->NT.get D4.e.a.f (am L t')=some cc->Q (.exit 3) ⟨am L t', [],none,m⟩):
 W Tryz.prog S0 none sy.loop ⟨t, [],none,m⟩ Q:=by
 have hlen:=hb.len
 rw[List.length_map] at hlen
 have hle:aA bT s a<=s.length:=eh ha
 have hge:a<=aA bT s a:=eT
 generalize hto:aA bT s a=toq at hle hge g2 hok
 refine W.loop (fun k d=>∃t i n,d=⟨t, [],none,m⟩/\NT.get D4.e t=some vb/\NT.get D4.e.a.c t=some (ii (toq:Nat))/\NT.get D4.e.a t=some (ii a)/\NT.get D4.e.f t=some (.ptr r 0)/\NT.get D4.e.b.a t=some (.ptr tk 0)/\NT.get D4.e.b.b t=some (u64 n)/\NT.get D4.e.b.c t=some (ii (i:Nat))/\NT.get D4.e.a.f t=some cc/\n<18446744073709551616/\a<=i/\(∀c∈(cut s a toq).take (i - a),cu c=true)/\eO ((cut s a toq).drop (i - a)) n=eO (cut s a toq) 0/\i+k=toq) ?_ (toq - a) _
  ⟨_,a,0,rfl,g1,g2,g3,g4,g5,g6,g7,g8,by omega,Nat.le_refl _,by simp,by simp,by omega⟩
 rintro k d ⟨t,i,n,rfl,g1,g2,g3,g4,g5,g6,g7,g8,hn,hai,hall,hv,hik⟩
 apply aM
 unfold sy
 change wp _ _ _ _ ⟨am [] t, [],none,m⟩ _
 by_cases hi:i<toq
 ·obtain ⟨id,off,w,c',x1,x2,x3,x4,x5⟩:=hb.at i (by simp;omega)
  rw[List.getElem_map] at x5
  have c0:=cn x5 0 (by omega)
  rw[Nat.add_zero] at c0
  have hcg:=Hg (s:=s) hai hi hle
  have hD:=sI m s[i]
  generalize hc:s[i]=c at c0 hcg hD
  rw[hcg] at hv
  have hmem:c∈cut s a toq:=by
   have:c∈(cut s a toq).drop (i - a):=by rw[hcg];simp
   exact List.mem_of_mem_drop this
  cases h1:cu c with
  |false=>
   rw[h1] at hD
   simp (disch:=first|assumption|omega|(simp only[ay]<;>omega)) only[go_sem,seval,ab,g1,g2,g3,g4,g5,g6,g7,hlen,x1,x2,c0,hD.wf',hr,htk]
   refine hbad (Or.inl fun h=> ?_) _ _ ?_ ?_ ?_
   ·rw[hto] at h
    have:=jX cu s a c (by rw[←h];exact hmem)
    rw[h1] at this;cases this
   ·simp only[go_sem,seval,g4]
   ·simp only[go_sem,seval]
   ·simp only[go_sem,seval]
  |true=>
   rw[h1] at hD
   have hdd:=h1
   unfold cu at hdd
   rw[decide_eq_true_eq] at hdd
   have e1:((c:Int) - 48) % 256=((c - 48:Nat):Int):=by omega
   have e2:((c - 48:Nat):Int) % 18446744073709551616=((c - 48:Nat):Int):=by omega
   have e3:(18446744073709551615 - ((c - 48:Nat):Int)) % 18446744073709551616=((18446744073709551615 - (c - 48):Nat):Int):=by omega
   have q10:∀x:Nat,x<18446744073709551616->ee .num .quo (.int .u64 (.lit (x:Int))) (.int .u64 (.lit 10))=some (.int .u64 (.lit ((x / 10:Nat):Int))):=by
    intro x hx
    have:=ww (a:=x) (b:=10) (by omega)
    rw[show x / 10 % 18446744073709551616=x / 10 by omega] at this
    exact this
   have q10:=q10 (18446744073709551615 - (c - 48)) (by omega)
   have hvn:eO (c::(cut s a toq).drop (i+1 - a)) n=if 10*n+(c - 48)<18446744073709551616 then eO ((cut s a toq).drop (i+1 - a)) (10*n+(c - 48)) else none:=rfl
   by_cases hlt:10*n+(c - 48)<18446744073709551616
   ·rw[hvn,Q5 hlt] at hv
    have hle10:n<=(18446744073709551615 - (c - 48)) / 10:=by omega
    have e4:(10*(n:Int) % 18446744073709551616+((c - 48:Nat):Int)) % 18446744073709551616=((10*n+(c - 48):Nat):Int):=by omega
    generalize hqq:(18446744073709551615 - (c - 48)) / 10=qq at q10 hle10
    simp (disch:=first|assumption|omega) only[go_sem,seval,ab,g1,g2,g3,g4,g5,g6,g7,hlen,x1,x2,c0,hD.wf',e1,e2,e3,q10,e4]
    refine ⟨k - 1,by omega,_,i+1,10*n+(c - 48),rfl, ?_, ?_, ?_, ?_, ?_, ?_, ?_, ?_,hlt,by omega, ?_,hv,by omega⟩
    ·simp only[go_sem,seval,g1]
    ·simp only[go_sem,seval,g2]
    ·simp only[go_sem,seval,g3]
    ·simp only[go_sem,seval,g4]
    ·simp only[go_sem,seval,g5]
    ·simp only[go_sem,seval]
    ·simp only[go_sem,seval]<;>rfl
    ·simp only[go_sem,seval,g8]
    ·intro x hx
     rw[show i+1 - a=i - a+1 by omega,List.take_add_one] at hx
     have hg:(cut s a toq)[i - a]? =some c:=by
      have:=congrArg (fun l=>l[0]?) hcg
      simpa using this
     rw[hg] at hx
     simp only[Option.toList_some,List.mem_append,List.mem_singleton] at hx
     rcases hx with hx|rfl
     ·exact hall x hx
     ·exact h1
   ·rw[hvn,Q4 hlt] at hv
    have hle10:(18446744073709551615 - (c - 48)) / 10<n:=by omega
    generalize hqq:(18446744073709551615 - (c - 48)) / 10=qq at q10 hle10
    simp (disch:=first|assumption|omega|(simp only[ay]<;>omega)) only[go_sem,seval,ab,g1,g2,g3,g4,g5,g6,g7,hlen,x1,x2,c0,hD.wf',e1,e2,e3,q10,hr,htk]
    refine hbad ?_ _ _ ?_ ?_ ?_
    ·unfold wP
     by_cases h:aA bT s a=aA cu s a
     ·right;rw[←h,hto];exact hv.symm
     ·exact Or.inl h
    ·simp only[go_sem,seval,g4]
    ·simp only[go_sem,seval]
    ·simp only[go_sem,seval]
 ·simp (disch:=first|assumption|omega) only[go_sem,seval,g1,g2,g7,hlen]
  have hia:i - a=(cut s a toq).length:=by rw[lj hle];omega
  rw[hia,List.take_length] at hall
  have he:aA cu s a=aA bT s a:=C8 (by rw[hto];exact hall)
  rw[hia,List.drop_length] at hv
  rw[hto] at he
  refine hok n he.symm ?_ _ _ ?_ ?_ ?_ ?_ ?_ ?_
  ·rw[he,←hv];rfl
  ·simp only[go_sem,seval,g5]
  ·simp only[go_sem,seval,g2]
  ·simp only[go_sem,seval,g3]
  ·simp only[go_sem,seval,g4]
  ·simp only[go_sem,seval,g6]
  ·simp only[go_sem,seval,g8]
theorem NM {m:NH} {t:Tm} {r tk:D4} {b0 b1 b2 b3 a0 a1 a2 a3:NV} {c a:Nat} (ha':a<=1000000)
 (hr:m.get r=some (.cells true [b0,b1,b2,b3])) (htk:m.get tk=some (.cells true [a0,a1,a2,a3])) (orr:aw m r) (otk:aw m tk) (hrt:r≠tk)
 (g1:NT.get D4.e.c.a t=some (.str ch)) (g2:NT.get D4.e.c.b t=some (ii 0)) (g3:NT.get D4.e.a t=some (ii a)) (g4:NT.get D4.e.f t=some (.ptr r 0)) (g5:NT.get D4.e.b.a t=some (.ptr tk 0)) (g6:NT.get D4.e.a.f t=some (u8 c))
 {Q:Out->Dyn->Prop}
 (hok:c∈ch->∀L t' m',m'.get r=some (.cells true [ii 3,.str [c],a2,a3])->Chg [r,tk] m m'->NT.get D4.e.f (am L t')=some (.ptr r 0)->NT.get D4.e.a.a (am L t')=some (ii ((a:Int)+1))->NT.get D4.e.a.b (am L t')=some (ii 0)->Q .ret ⟨am L t', [],none,m'⟩)
 (hbad:c∉ch->∀L t',NT.get D4.e.b.a (am L t')=some (.ptr tk 0)->NT.get D4.e.a (am L t')=some (ii a)->NT.get D4.e.f (am L t')=some (.ptr r 0)->Q (.exit 5) ⟨am L t', [],none,m⟩):
 W Tryz.prog S0 none tF.loop ⟨t, [],none,m⟩ Q:=by
 have hsl:ch.length=13:=rfl
 refine W.loop (fun k d=>∃t i,d=⟨t, [],none,m⟩/\NT.get D4.e.c.a t=some (.str ch)/\NT.get D4.e.c.b t=some (ii (i:Nat))/\NT.get D4.e.a t=some (ii a)/\NT.get D4.e.f t=some (.ptr r 0)/\NT.get D4.e.b.a t=some (.ptr tk 0)/\NT.get D4.e.a.f t=some (u8 c)/\c∉ch.take i/\i+k=13) ?_ 13 _ ⟨_,0,rfl,g1,g2,g3,g4,g5,g6,by simp,by omega⟩
 rintro k d ⟨t,i,rfl,g1,g2,g3,g4,g5,g6,hno,hik⟩
 apply aM
 unfold tF
 change wp _ _ _ _ ⟨am [] t, [],none,m⟩ _
 rw[←ab m]
 by_cases hi:i<13
 ·have hb:ch[i]? =some ch[i]:=List.getElem?_eq_getElem (by omega)
  by_cases he:ch[i]=c
  ·rw[he] at hb
   have e1:List.drop i (List.take ((i:Int)+1).toNat ch)= [c]:=by
    rw[show ((i:Int)+1).toNat=i+1 by omega,List.take_add_one,hb]
    simp only[Option.toList_some]
    rw[List.drop_append_of_le_length (by rw[List.length_take];omega),List.drop_take_self];rfl
   simp (disch:=first|assumption|omega|(simp only[ay]<;>omega)) only[go_sem,seval,g1,g2,g3,g4,g5,g6,hb,hsl,e1,hr,htk,eZ]
   refine hok (by rw[←he];exact List.getElem_mem _) _ _ _ ?_ ?_ ?_ ?_ ?_
   ·exact (bF orr).trans a7
   ·exact (aH rfl).weak (by simp[aF])
   ·simp only[go_sem,seval,g4]
   ·simp only[go_sem,seval]
   ·simp only[go_sem,seval]
  ·have hne:((ch[i]:Int)=(c:Int))=False:=by simp;omega
   simp (disch:=first|assumption|omega) only[go_sem,seval,g1,g2,g3,g4,g5,g6,hb,hsl]
   refine ⟨k - 1,by omega,_,i+1,by rw[ab], ?_, ?_, ?_, ?_, ?_, ?_, ?_,by omega⟩
   ·simp only[go_sem,seval,g1]
   ·simp only[go_sem,seval]<;>rfl
   ·simp only[go_sem,seval,g3]
   ·simp only[go_sem,seval,g4]
   ·simp only[go_sem,seval,g5]
   ·simp only[go_sem,seval,g6]
   ·rw[List.take_add_one,hb]
    simp only[Option.toList_some,List.mem_append,List.mem_singleton,not_or]
    exact ⟨hno,fun q=>he q.symm⟩
 ·simp (disch:=first|assumption|omega) only[go_sem,seval,g1,g2,hsl]
  rw[ab]
  refine hbad ?_ _ _ ?_ ?_ ?_
  ·have:i=13:=by omega
   subst this
   exact hno
  ·simp only[go_sem,seval,g5]
  ·simp only[go_sem,seval,g3]
  ·simp only[go_sem,seval,g4]
theorem CU (s:List Nat) (a e:Nat):((gi s).drop a).take (e - a)=gi (cut s a e):=by
 unfold cut
 rw[List.drop_take]
 simp[List.map_take,List.map_drop]
theorem lO {s:List Nat} {a c:Nat} (hbs:s[a]? =some c) (hD:cu c=true):ke (cut s a (aA cu s a))=if 1<aA cu s a - a/\c=48 then none else eO (cut s a (aA cu s a)) 0:=by
 have ha:=(List.getElem?_eq_some_iff.mp hbs).1
 obtain ⟨l,hl⟩:=xK hbs hD
 have hn:=lj (s:=s) (a:=a) (eh (p:=cu) (s:=s) (a:=a) (by omega))
 unfold ke
 rw[hn]
 have e:((cut s a (aA cu s a))[0]? =some 48)↔(c=48):=by rw[hl];simp
 by_cases h:1<aA cu s a - a/\c=48
 ·rw[Q5 h,Q5 ⟨h.1,e.mpr h.2⟩]
 ·rw[Q4 h,Q4 fun q=>h ⟨q.1,e.mp q.2⟩]
theorem lu {s:List Nat} {a c:Nat} (hbs:s[a]? =some c) (hD:cu c=true):b8 s a=(match ke (cut s a (aA cu s a)) with|some n=>if aA bT s a=aA cu s a then some (2, [],n,aA cu s a) else none|none=>none):=by
 have hL:jd c=false:=by
  unfold cu at hD;rw[decide_eq_true_eq] at hD
  unfold jd;rw[decide_eq_false_iff_not];omega
 unfold b8;rw[hbs];simp only[hL,hD];rfl
theorem uW {s:List Nat} {a c:Nat} (hbs:s[a]? =some c) (hD:cu c=true) (h:wP s a):b8 s a=none:=by
 rw[lu hbs hD,lO hbs hD]
 by_cases h1:1<aA cu s a - a/\c=48
 ·rw[Q5 h1]
 ·rw[Q4 h1]
  rcases h with h|h
  ·cases eO (cut s a (aA cu s a)) 0 with
   |none=>rfl
   |some n=>simp[h]
  ·rw[h]
theorem HI (m:NH) {vb:NV} {s:List Nat} (hs:s.length<=1000000) (h256:∀c∈s,c<256) (hb:Sl m vb 1 (gi s)) {a:Nat} (ha:a<s.length):
 ∃v m',a6 Tryz.prog S0 28 [vb,ii a] m v m'/\(∃(k0:Int) (t0:List Nat) (n0 p:Int),v= .tup [.agg [ii k0,.str t0,.int .u64 (.lit n0),ii a],ii p,ii (if (b8 s a).isSome then 0 else 2)]/\∀k t n e,b8 s a=some (k,t,n,e)->k0=k/\t0=t/\n0=n/\p=e)/\Chg [] m m':=by
 refine WF.ex fun K hK=> ?_
 refine WF.of_wpG (fun _=>rfl) y8 (L:= [(.a .e,ii a),(.e,vb)]) rfl ?_
 unfold JV
 simp only[go_sem,seval]
 generalize hM0:hp _ 1 m=M0
 have hC0:Chg [] m M0:=bf hM0 rfl
 have r0:M0.get (na m 0)=some (.cells true [ii 0,.str [],u64 0,ii 0]):=bu hM0
 have or0:aw M0 (na m 0):=bB hM0 (by omega)
 have hb0:=hb.chg hC0 fun _ _=>by simp
 refine Ok hs hb0 (Nat.le_of_lt ha) (by exact gq rfl) (by exact gq rfl) (by exact gq rfl) (f:= .ptr (na m 0) 0) (by exact gq rfl) ?_
 intro L t g1 g2 g3 g4
 rw[←ab M0]
 obtain ⟨id,off,w,c',x1,x2,x3,x4,x5⟩:=hb0.at a (by simpa using ha)
 rw[List.getElem_map] at x5
 have c0:=cn x5 0 (by omega)
 rw[Nat.add_zero] at c0
 have hbs:s[a]? =some s[a]:=List.getElem?_eq_getElem ha
 have hc256:=h256 s[a] (List.getElem_mem ha)
 generalize hc:s[a]=c at c0 hbs hc256
 have hd:∀m,a6 Tryz.prog S0 52 [u8 c] m (.bool (cu c)) m:=fun m=>sI m c
 have hl:∀m,a6 Tryz.prog S0 53 [u8 c] m (.bool (jd c)) m:=fun m=>oM m c
 generalize hT:am L t=T at g1 g2 g3 g4
 change wp _ _ _ _ ⟨am [] T, [],none,_⟩ _
 have na_ne:na m 0≠na M0 0:=or0.ne 0
 have na_ne':na M0 0≠na m 0:=fun e=>or0.ne 0 e.symm
 have chF:∀(M1:NH) {MF:NH} {T1 T2:List D4},Chg T1 M0 M1->Chg T2 M1 MF->(∀i∈T1++T2,i=na m 0∨i=na M0 0)->Chg [] m MF:=by
  intro M1 MF T1 T2 h1 h2 hi
  refine (hC0.weak (T:=T1++T2) (by simp)).trans ((h1.weak (T:=T1++T2) (by intro i hi _;simp[hi])).trans h2 (by intro i hi _;simp[hi])) (fun _ h _=>h) |>.weak ?_
  intro i hi' ho
  rcases hi i hi' with rfl|rfl
  ·exact Q3 ho aD
  ·exact Q3 (hC0.old ho) aD
 cases hD:cu c with
 |true=>
  rw[hD] at hd
  simp (disch:=first|assumption|omega|(simp only[ay]<;>omega)) only[go_sem,seval,g1,g2,g3,g4,x1,x2,c0,(hd _).wf']
  generalize hM1:hp _ 1 M0=M1
  have hC1:Chg [] M0 M1:=bf hM1 rfl
  have p0:=(hC1.get or0 (by simp)).trans r0
  have op0:=hC1.old or0
  have p1:M1.get (na M0 0)=some (.cells true [ii 0,.str [],u64 0,ii a]):=bu hM1
  have op1:aw M1 (na M0 0):=bB hM1 (by omega)
  have hb1:=hb0.chg hC1 fun _ _=>by simp
  refine Om hs hb1 (Nat.le_of_lt ha) p0 p1 op0 op1 (cc:=u8 c) ?_ ?_ ?_ ?_ ?_ ?_ ?_ ?_ ?_ ?_
  ·simp only[go_sem,seval,g1]
  ·simp only[go_sem,seval,g4]
  ·simp only[go_sem,seval,g2]
  ·simp only[go_sem,seval,g3]
  ·simp only[go_sem,seval]
  ·simp only[go_sem,seval]<;>rfl
  ·simp only[go_sem,seval,g2]
  ·simp only[go_sem,seval]
  ·intro hbn L' t' k1 k2 k3
   generalize am L' t'=T' at k1 k2 k3
   rw[show M1.put (na m 0) (.cells true [ii 0,.str [],u64 0,ii a])=hp [(.o (na m 0),.cells true [ii 0,.str [],u64 0,ii a])] 0 M1 from by rw[←oF op0,ab]]
   change wZ _ K .ret ⟨am [] T', [],none,_⟩
   have T:b8 s a=none:=uW hbs hD hbn
   simp (disch:=first|assumption|omega) only[go_sem,seval,k1,k2,k3]
   refine hK _ _ ⟨⟨_,_,_,_,by rw[T];rfl, ?_⟩,chF M1 hC1 (aH rfl) (by simp[aF])⟩
   intro k t n e he;rw[T] at he;cases he
  ·intro n hrr hv L' t' k1 k2 k3 k4 k5 k6
   generalize am L' t'=T' at k1 k2 k3 k4 k5 k6
   rw[←ab M1]
   change wp _ _ _ _ ⟨am [] T', [],none,_⟩ _
   have hge:a<=aA bT s a:=eT
   have hle:aA bT s a<=s.length:=eh (Nat.le_of_lt ha)
   by_cases h48:c=48
   ·by_cases hgt:a+1<aA bT s a
    ·have T:b8 s a=none:=by rw[lu hbs hD,lO hbs hD,Q5 ⟨by omega,h48⟩]
     simp (disch:=first|assumption|omega|(simp only[ay]<;>omega)) only[go_sem,seval,k1,k2,k3,k4,k5,k6,p0,p1]
     refine hK _ _ ⟨⟨_,_,_,_,by rw[T];rfl, ?_⟩,chF M1 hC1 (aH rfl) (by simp[aF])⟩
     intro k t n e he;rw[T] at he;cases he
    ·have T:b8 s a=some (2, [],n,aA cu s a):=by rw[lu hbs hD,lO hbs hD,Q4 (by omega),hv];simp[hrr]
     simp (disch:=first|assumption|omega|(simp only[ay]<;>omega)) only[go_sem,seval,k1,k2,k3,k4,k5,k6,p0,p1,na_ne]
     refine hK _ _ ⟨⟨_,_,_,_,by rw[T];rfl, ?_⟩,chF M1 hC1 (aH rfl) (by simp[aF])⟩
     intro k t n e he;rw[T] at he;cases he
     exact ⟨rfl,rfl,rfl,by rw[hrr]⟩
   ·have T:b8 s a=some (2, [],n,aA cu s a):=by rw[lu hbs hD,lO hbs hD,Q4 (by omega),hv];simp[hrr]
    simp (disch:=first|assumption|omega|(simp only[ay]<;>omega)) only[go_sem,seval,k1,k2,k3,k4,k5,k6,p0,p1,na_ne]
    refine hK _ _ ⟨⟨_,_,_,_,by rw[T];rfl, ?_⟩,chF M1 hC1 (aH rfl) (by simp[aF])⟩
    intro k t n e he;rw[T] at he;cases he
    exact ⟨rfl,rfl,rfl,by rw[hrr]⟩
 |false=>
  rw[hD] at hd
  cases hL:jd c with
  |true=>
   rw[hL] at hl
   simp (disch:=first|assumption|omega|(simp only[ay]<;>omega)) only[go_sem,seval,g1,g2,g3,g4,x1,x2,c0,(hd _).wf',(hl _).wf']
   generalize hM1:hp _ 1 M0=M1
   have hC1:Chg [] M0 M1:=bf hM1 rfl
   have op0:=hC1.old or0
   have p1:M1.get (na M0 0)=some (.cells true [ii 0,.str [],u64 0,ii a]):=bu hM1
   have op1:aw M1 (na M0 0):=bB hM1 (by omega)
   have hb1:=hb0.chg hC1 fun _ _=>by simp
   have p0:=(hC1.get or0 (by simp)).trans r0
   have hge:a<=aA bT s a:=eT
   have hle:aA bT s a<=s.length:=eh (Nat.le_of_lt ha)
   refine Hw (a:=a) (b:=aA bT s a) hb1 hge (by simpa using hle) ?_ ?_ ?_
   ·intro K;simp (disch:=first|assumption|omega) only[go_sem,seval]
   ·intro d K hd;simp (disch:=first|assumption|omega) only[go_sem,seval]
   intro v' hv' _
   rw[CU] at hv'
   have hbt:=hv'.bts (fun c hc=>h256 c (List.mem_of_mem_take (List.mem_of_mem_drop hc)))
   rw[←ab M1]
   have hbt:p9 (hp [] 0 M1) v'= .val (.str (cut s a (aA bT s a))):=by rw[ab];exact hbt
   simp (disch:=first|assumption|omega|(simp only[ay]<;>omega)) only[go_sem,seval,g1,g2,g3,g4,hbt,p1]
   generalize hM2:hp _ 0 M1=M2
   have hC2:Chg [na M0 0] M1 M2:=by rw[←hM2];exact (aH rfl).weak (by simp[aF])
   have s0:=(hC2.get op0 (by simpa using na_ne)).trans p0
   have s1:M2.get (na M0 0)=some (.cells true [ii 1,.str (cut s a (aA bT s a)),u64 0,ii a]):=by rw[←hM2];simp (config:={maxSteps:=1000000}) (disch:=first|assumption|omega|(apply ai;omega)|(apply ae;assumption)|(simp only[ay]<;>omega)) only[go_sem,seval]
   have os0:=hC2.old op0
   have os1:=hC2.old op1
   obtain ⟨wv,M3,hw,rfl,hC3⟩:=JY M2 (cut s a (aA bT s a))
   have y0:=(hC3.get os0 (by simp)).trans s0
   have y1:=(hC3.get os1 (by simp)).trans s1
   have oy0:=hC3.old os0
   have oy1:=hC3.old os1
   have hC13:Chg [na M0 0] M0 M3:=(hC1.weak (T:= [na M0 0]) (by simp)).trans ((hC2.weak (T:= [na M0 0]) (by simp)).trans (hC3.weak (T:= [na M0 0]) (by simp)) (fun _ h _=>h)) (fun _ h _=>h)
   have TT:b8 s a=(if cut s a (aA bT s a)∈cA then some (4,cut s a (aA bT s a),0,aA bT s a) else if (cut s a (aA bT s a)).length<=16 then some (1,cut s a (aA bT s a),0,aA bT s a) else none):=by
    unfold b8;rw[hbs];simp only[hL];rfl
   by_cases hwd:cut s a (aA bT s a)∈cA
   ·rw[Q7 hwd] at hw
    rw[Q5 hwd] at TT
    simp (config:={maxSteps:=1000000}) (disch:=first|assumption|omega|(apply ai;omega)|(apply ae;assumption)|(simp only[ay]<;>omega)) only[go_sem,seval,hw.wf,g1,g2,g3,g4,y0,y1]
    refine hK _ _ ⟨⟨_,_,_,_,by rw[TT];rfl, ?_⟩,chF M3 hC13 (aH rfl) (by simp[aF])⟩
    intro k t n e he;rw[TT] at he;cases he
    exact ⟨rfl,rfl,rfl,rfl⟩
   ·rw[Q6 hwd] at hw
    rw[Q4 hwd] at TT
    by_cases h16:(cut s a (aA bT s a)).length<=16
    ·rw[Q5 h16] at TT
     simp (config:={maxSteps:=1000000}) (disch:=first|assumption|omega|(apply ai;omega)|(apply ae;assumption)|(simp only[ay]<;>omega)) only[go_sem,seval,hw.wf,g1,g2,g3,g4,y0,y1]
     refine hK _ _ ⟨⟨_,_,_,_,by rw[TT];rfl, ?_⟩,chF M3 hC13 (aH rfl) (by simp[aF])⟩
     intro k t n e he;rw[TT] at he;cases he
     exact ⟨rfl,rfl,rfl,rfl⟩
    ·rw[Q4 h16] at TT
     simp (config:={maxSteps:=1000000}) (disch:=first|assumption|omega|(apply ai;omega)|(apply ae;assumption)|(simp only[ay]<;>omega)) only[go_sem,seval,hw.wf,g1,g2,g3,g4,y0,y1]
     refine hK _ _ ⟨⟨_,_,_,_,by rw[TT];rfl, ?_⟩,chF M3 hC13 (aH rfl) (by simp[aF])⟩
     intro k t n e he;rw[TT] at he;cases he
  |false=>
   rw[hL] at hl
   simp (disch:=first|assumption|omega|(simp only[ay]<;>omega)) only[go_sem,seval,g1,g2,g3,g4,x1,x2,c0,(hd _).wf',(hl _).wf']
   generalize hM1:hp _ 1 M0=M1
   have hC1:Chg [] M0 M1:=bf hM1 rfl
   have p0:=(hC1.get or0 (by simp)).trans r0
   have op0:=hC1.old or0
   have p1:M1.get (na M0 0)=some (.cells true [ii 0,.str [],u64 0,ii a]):=bu hM1
   have op1:aw M1 (na M0 0):=bB hM1 (by omega)
   have T:b8 s a=if c∈ch then some (3, [c],0,a+1) else none:=by unfold b8;rw[hbs];simp[hL,hD]
   refine NM (c:=c) (a:=a) (by omega) p0 p1 op0 op1 na_ne ?_ ?_ ?_ ?_ ?_ ?_ ?_ ?_
   ·simp only[go_sem,seval]<;>rfl
   ·simp only[go_sem,seval]
   ·simp only[go_sem,seval,g2]
   ·simp only[go_sem,seval,g3]
   ·simp only[go_sem,seval]
   ·simp only[go_sem,seval]
   ·intro hm L' t' m' q0 hCm k1 k2 k3
    rw[Q5 hm] at T
    generalize am L' t'=T' at k1 k2 k3
    change wZ _ K .ret ⟨am [] T', [],none,m'⟩
    simp only[go_sem,seval,k1,k2,k3,q0]
    refine hK _ _ ⟨⟨_,_,_,_,by rw[T];rfl, ?_⟩,chF M1 hC1 hCm (by simp)⟩
    intro k t n e he;rw[T] at he;cases he
    exact ⟨rfl,rfl,rfl,by omega⟩
   ·intro hm L' t' k1 k2 k3
    rw[Q4 hm] at T
    generalize am L' t'=T' at k1 k2 k3
    rw[←ab M1]
    change wp _ _ _ _ ⟨am [] T', [],none,_⟩ _
    simp (disch:=first|assumption|omega|(simp only[ay]<;>omega)) only[go_sem,seval,k1,k2,k3,p0,p1]
    refine hK _ _ ⟨⟨_,_,_,_,by rw[T];rfl, ?_⟩,chF M1 hC1 (aH rfl) (by simp[aF])⟩
    intro k t n e he;rw[T] at he;cases he
theorem H4 {m M0:NH} {vb:NV} {s:List Nat} (hs:s.length<=16384) (h256:∀c∈s,c<256) (hb:Sl m vb 1 (gi s)) (hCm:Chg [] m M0) {t:Tm}
 (g1:NT.get D4.e t=some vb) (g2:NT.get D4.e.a.a t=some .nils) (g3:NT.get D4.e.a.b t=some (ii ((bc s 0:Nat):Int))) {Q:Out->Dyn->Prop}
 (hbad:∀a,(bn s).2=some a->∀L t' M,Chg [] m M->NT.get D4.e.b (am L t')=some .nils->NT.get D4.e.c (am L t')=some (ii a)->NT.get D4.e.f (am L t')=some (ii 2)->Q .ret ⟨am L t', [],none,M⟩)
 (hok:∀T,bn s=(T++ [⟨5, [],0,s.length⟩],none)->∀L t' M u,Chg [] m M->dq m M u 4 (T.map Tok.l)->NT.get D4.e (am L t')=some vb->NT.get D4.e.a.a (am L t')=some u->Q (.exit 0) ⟨am L t', [],none,M⟩):
 W Tryz.prog S0 none sg.loop ⟨t, [],none,M0⟩ Q:=by
 have hsk0:bc s 0<=s.length:=g9 (Nat.zero_le _)
 refine W.loop (fun k d=>∃t M i L u,d=⟨t, [],none,M⟩/\NT.get D4.e t=some vb/\NT.get D4.e.a.a t=some u/\NT.get D4.e.a.b t=some (ii (i:Nat))/\i<=s.length/\s.length<=i+k/\Chg [] m M/\dq m M u 4 (L.map Tok.l)/\bn s=(L++(bR s (k+1) i).1,(bR s (k+1) i).2)) ?_ s.length _
  ⟨_,M0,bc s 0, [],.nils,rfl,g1,g2,g3,hsk0,by omega,hCm,dq.nil,rfl⟩
 rintro k d ⟨t,M,i,L,u,rfl,g1,g2,g3,hi,hik,hC,hu,hT⟩
 apply aM
 unfold sg
 change wp _ _ _ _ ⟨am [] t, [],none,M⟩ _
 rw[←ab M]
 have hLl:L.length<=s.length+1:=by
  have h:=jW s (s.length+1) (bc s 0)
  have h2:(bn s).1.length=_:=congrArg (fun x=>x.1.length) hT
  rw[List.length_append] at h2
  have h3:(bn s).1.length<=s.length+1:=h
  omega
 have hbM:=hb.chg hC fun _ _=>by simp
 have hlen:=hbM.len
 rw[show (gi s).length=s.length by simp] at hlen
 by_cases hlt:i<s.length
 ·obtain ⟨k,rfl⟩:∃k',k=k'+1:=⟨k - 1,by omega⟩
  have hTs:bR s (k+1+1) i=(match b8 s i with
   |none=>([],some i)
   |some (kd,t,n,e)=>(⟨kd,t,n,i⟩::(bR s (k+1) (bc s e)).1,(bR s (k+1) (bc s e)).2)):=by
   rw[bR,Q5 hlt]
  obtain ⟨v,M2,hr,⟨k0,t0,n0,p,rfl,htk⟩,hC2⟩:=HI (hp [] 0 M) (by omega) h256 (by rw[ab];exact hbM) hlt
  have hC2:Chg [] M M2:=by rw[ab] at hC2;exact hC2
  cases hk:b8 s i with
  |none=>
   rw[hk] at hr
   have hr:a6 Tryz.prog S0 28 [vb,ii i] (hp [] 0 M) (.tup [.agg [ii k0,.str t0,.int .u64 (.lit n0),ii i],ii p,ii 2]) M2:=hr
   rw[hTs,hk] at hT
   simp (disch:=first|assumption|omega|(simp only[ay]<;>omega)) only[go_sem,seval,g1,g2,g3,hlen,hr.wf]
   refine hbad i (by rw[hT]) _ _ _ ((hC.trans hC2 (by simp)).trans (aH rfl) (by simp[aF])) ?_ ?_ ?_
   ·simp only[go_sem,seval]
   ·simp only[go_sem,seval]
   ·simp only[go_sem,seval]
  |some x=>
   obtain ⟨kd,tx,n,e⟩:=x
   rw[hk] at hr
   obtain ⟨e0,e1,e2,e3⟩:=htk kd tx n e hk
   rw[e0,e1,e2,e3] at hr
   have hr:a6 Tryz.prog S0 28 [vb,ii i] (hp [] 0 M) (.tup [.agg [ii kd,.str tx,.int .u64 (.lit (n:Int)),ii i],ii e,ii 0]) M2:=hr
   obtain ⟨l1,l2⟩:=wE hk
   simp (disch:=first|assumption|omega|(simp only[ay]<;>omega)) only[go_sem,seval,g1,g2,g3,hlen,hr.wf]
   generalize hM3:hp _ 2 M2=M3
   have hC3:Chg [] M2 M3:=bf hM3 rfl
   have n1:M3.get (na M2 1)=some (.cells true (Tok.l ⟨kd,tx,n,i⟩)):=bu hM3
   have on1:aw M3 (na M2 1):=bB hM3 (by omega)
   have hCC:Chg [] m M3:=hC.trans (hC2.trans hC3 (by simp)) (by simp)
   refine pM (hu.chg (hC2.trans hC3 fun _ h _=>h) fun _ _=>by simp) n1 on1 rfl (fun i hi=>hCC.old hi) (by simp;omega) (by simp;omega) ?_
   intro u' M5 hu' hC5
   have hC6:Chg [] m M5:=(hCC.weak (T:=ids u) (by simp)).trans hC5 (fun _ h _=>h) |>.weak (by intro j hj ho;exact Q3 ho (hu.new j hj))
   have hsk:a6 Tryz.prog S0 27 [vb,ii e] (hp [] 0 M5) (ii ((bc s e:Nat):Int)) (hp [] 0 M5):=Gg _ (by omega) (by rw[ab];exact hb.chg hC6 fun _ _=>by simp) l2
   simp only[go_sem,seval,g1,g2,g3,hsk.wf']
   have hge:e<=bc s e:=oU
   refine ⟨k,by omega,_,M5,bc s e,L++ [⟨kd,tx,n,i⟩],u',by rw[ab], ?_, ?_, ?_,g9 l2,by omega,hC6, ?_, ?_⟩
   ·simp only[go_sem,seval,g1]
   ·simp only[go_sem,seval]
   ·simp only[go_sem,seval]
   ·rw[List.map_append];exact hu'
   ·rw[hT,hTs,hk];simp
 ·have hTs:bR s (k+1) i=([⟨5, [],0,s.length⟩],none):=by rw[bR,Q4 hlt]
  rw[hTs] at hT
  simp (disch:=first|assumption|omega) only[go_sem,seval,g1,g2,g3,hlen]
  rw[ab]
  refine hok L hT _ _ _ u hC hu ?_ ?_
  ·simp only[go_sem,seval,g1]
  ·simp only[go_sem,seval,g2]
theorem E3 (m:NH) {v:NV} {b:List Nat} (hv:Sl m v 1 (gi b)) (hb:∀c∈b,c<256):
 ∃r m',a6 Tryz.prog S0 12 [v] m r m'/\(if 16384<b.length then r= .tup [.nils,ii 0,ii 3] else (match (bn b).2 with|some a=>r= .tup [.nils,ii a,ii 2]|none=>∃u,r= .tup [u,ii b.length,ii 0]/\dq m m' u 4 ((bn b).1.map Tok.l)))/\Chg [] m m':=by
 refine WF.ex fun K hK=> ?_
 refine WF.of_wpG (fun _=>rfl) AN (L:= [(.e,v)]) rfl ?_
 unfold I7
 have hlen:=hv.len
 rw[show (gi b).length=b.length by simp] at hlen
 by_cases h1:16384<b.length
 ·simp (disch:=first|assumption|omega) only[go_sem,seval,hlen,ab]
  refine hK _ _ ⟨by rw[Q5 h1],Chg.refl m⟩
 ·have hs0:a6 Tryz.prog S0 27 [v,ii 0] m (ii ((bc b 0:Nat):Int)) m:=Gg m (by omega) hv (a:=0) (Nat.zero_le _)
  simp (disch:=first|assumption|omega) only[go_sem,seval,hlen,ab,hs0.wf']
  refine H4 (m:=m) (s:=b) (vb:=v) (by omega) hb hv (Chg.refl m) ?_ ?_ ?_ ?_ ?_
  ·simp only[go_sem,seval]
  ·simp only[go_sem,seval]
  ·simp only[go_sem,seval]
  ·intro a he L t M hC g1 g2 g3
   generalize am L t=T at g1 g2 g3
   change wZ _ K .ret ⟨am [] T, [],none,M⟩
   simp only[go_sem,seval,g1,g2,g3]
   refine hK _ _ ⟨by rw[Q4 h1,he],hC⟩
  ·intro Tl hT L t M u hC hu g1 g2
   generalize am L t=T at g1 g2
   change wp _ _ _ _ ⟨am [] T, [],none,M⟩ _
   rw[←ab M]
   have hlen:=(hv.chg hC fun _ _=>by simp).len
   rw[show (gi b).length=b.length by simp] at hlen
   have hTl:Tl.length<=b.length+1:=by
    have h:=jW b (b.length+1) (bc b 0)
    have h2:(bn b).1.length=_:=congrArg (fun x=>x.1.length) hT
    rw[List.length_append] at h2
    have h3:(bn b).1.length<=b.length+1:=h
    omega
   simp (disch:=first|assumption|omega|(simp only[ay]<;>omega)) only[go_sem,seval,g1,g2,hlen]
   generalize hM3:hp _ 1 M=M3
   have hC3:Chg [] M M3:=bf hM3 rfl
   have n1:M3.get (na M 0)=some (.cells true (Tok.l ⟨5, [],0,b.length⟩)):=bu hM3
   have on1:aw M3 (na M 0):=bB hM3 (by omega)
   have hCC:Chg [] m M3:=hC.trans hC3 (by simp)
   refine pM (hu.chg hC3 fun _ _=>by simp) n1 on1 rfl (fun i hi=>hCC.old hi) (by simp;omega) (by simp;omega) ?_
   intro u' M5 hu' hC5
   have hC6:Chg [] m M5:=(hCC.weak (T:=ids u) (by simp)).trans hC5 (fun _ h _=>h) |>.weak (by intro j hj ho;exact Q3 ho (hu.new j hj))
   have hlen5:=(hv.chg hC6 fun _ _=>by simp).len
   rw[show (gi b).length=b.length by simp] at hlen5
   simp only[go_sem,seval,g1,g2,hlen5]
   rw[ab]
   refine hK _ _ ⟨?_,hC6⟩
   rw[Q4 h1,hT]
   exact ⟨u',rfl,by rw[List.map_append];exact hu'⟩
end FR
open Go Nm Go.Proofs
namespace FR
structure Rs where
 (a e b:Nat)
def av (L:List Tok) (a:Nat):Tok:=(L[a]?).getD ⟨0, [],0,0⟩
def aV (e:Nat) (s:Rs):Rs:=if s.e=0 then ⟨s.a,e,s.a⟩ else s
def aa (s:Rs):Rs:=⟨s.a+1,s.e,s.b⟩
def eK:List Nat->Nat
 |c::_=>if jd c then 4 else 3
 | []=>3
def au (L:List Tok) (w:List Nat) (s:Rs):Bool:=decide (s.e=0/\(av L s.a).k=eK w/\(av L s.a).t=w)
def aT (L:List Tok) (w:List Nat) (s:Rs):Rs:=if au L w s then aa s else aV 2 s
def aJ (L:List Tok) (s:Rs):List Nat×Rs:=if s.e≠0∨(av L s.a).k≠1 then ([],aV 2 s) else ((av L s.a).t,aa s)
structure RD (m:NH) (r:D4) (vl:NV) (s:Rs) (rest:List NV):Prop where
 g:m.get r=some (.cells true (vl::ii s.a::ii s.e::ii s.b::rest))
 o:aw m r
structure RC (m0:NH) (L:List Tok) (vl:NV) (r:D4):Prop where
 sl:Sl m0 vl 4 (L.map Tok.l)
 len:L.length<=20000
 no:¬aw m0 r
theorem RD.chg {m m':NH} {r:D4} {vl:NV} {s:Rs} {rest:List NV} {S:List D4} (h:RD m r vl s rest) (hC:Chg S m m') (hr:r∉S):RD m' r vl s rest:=⟨(hC.get h.o hr).trans h.g,hC.old h.o⟩
theorem RC.chg {m0 m m':NH} {L:List Tok} {vl:NV} {r:D4} (h:RC m0 L vl r) (h0:Chg [] m0 m) (hC:Chg [r] m m'):Chg [] m0 m':=h0.trans hC fun i hi ho=>by
 have hi:=one hi;subst hi;exact Q3 ho h.no
theorem bE {L:List Tok} {w:List Nat} {s:Rs} (h:au L w s=true):s.e=0/\s.a<L.length:=by
 obtain ⟨h1,h2,h3⟩:=of_decide_eq_true h
 refine ⟨h1, ?_⟩
 rcases Nat.lt_or_ge s.a L.length with q|q
 ·exact q
 ·rw[av,List.getElem?_eq_none q] at h2
  have:eK w≠0:=by unfold eK;split;split<;>omega;omega
  exact Q3 h2.symm this
theorem qG {T:Tok}:T.l[0]? =some (ii T.k):=_root_.id rfl
theorem vP {T:Tok}:T.l[1]? =some (.str T.t):=_root_.id rfl
theorem Pb {T:Tok}:T.l[2]? =some (u64 T.n):=_root_.id rfl
section
variable {m0 m:NH} {L:List Tok} {vl:NV} {r:D4} {s:Rs} {rest:List NV}
theorem iq (hd:RD m r vl s rest) (e:Nat):∃m',a6 Tryz.prog S0 31 [.ptr r 0,ii e] m (.tup []) m'/\RD m' r vl (aV e s) rest/\Chg [r] m m':=by
 refine WF.ex1 fun K hK=> ?_
 refine WF.of_wpG (fun _=>rfl) AB (L:= [(.a .e,ii e),(.e,.ptr r 0)]) rfl ?_
 unfold Kf
 obtain ⟨g,o⟩:=hd
 by_cases h:s.e=0
 ·rw[h] at g
  simp (disch:=first|assumption|omega|(simp only[ay]<;>omega)) only[go_sem,seval,g]
  refine hK _ ⟨⟨?_,ae o⟩,(aH rfl).weak (by intro i hi _;simpa [aF] using hi)⟩
  rw[aV,Q5 h]
  exact (bF o).trans a7
 ·have hd:decide ((s.e:Int)=0)=false:=Q6 (by omega)
  simp only[go_sem,seval,g,hd,ab]
  refine hK _ ⟨⟨?_,o⟩,(Chg.refl m).weak (by simp)⟩
  rw[aV,Q4 h];exact g
theorem jF (hc:RC m0 L vl r) (h0:Chg [] m0 m) (hd:RD m r vl s rest):∃m',a6 Tryz.prog S0 13 [.ptr r 0] m (.agg (av L s.a).l) m'/\Chg [] m m':=by
 refine WF.ex1 fun K hK=> ?_
 refine WF.of_wpG (fun _=>rfl) zm (L:= [(.e,.ptr r 0)]) rfl ?_
 unfold Ld
 obtain ⟨g,o⟩:=hd
 have hs:=hc.sl.chg h0 fun _ _=>by simp
 have hlen:=hs.len
 have hll:=hc.len
 rw[List.length_map] at hlen
 have hvs:br 4 vl vl=true:=hs.same
 by_cases h:s.a<L.length
 ·obtain ⟨id,off,w,c,a1,a2,a3,a4,a5⟩:=hs.at s.a (by simpa using h)
  rw[List.getElem_map] at a5
  have hl:(Tok.l L[s.a]).length=4:=rfl
  have hl':(Tok.l L[s.a]).take 4=Tok.l L[s.a]:=rfl
  simp (disch:=first|assumption|omega|(simp only[ay]<;>omega)) only[go_sem,seval,g,hlen,a1,a2,a5,hl,hl',hvs]
  have e:av L s.a=L[s.a]:=by rw[av,List.getElem?_eq_getElem h];rfl
  rw[e] at hK
  exact hK _ (aH rfl)
 ·have e:av L s.a=⟨0, [],0,0⟩:=by rw[av,List.getElem?_eq_none (by omega)];rfl
  rw[e] at hK
  simp (disch:=first|assumption|omega|(simp only[ay]<;>omega)) only[go_sem,seval,g,hlen,hvs]
  exact hK _ (aH rfl)
theorem dS (hc:RC m0 L vl r) (h0:Chg [] m0 m) (hd:RD m r vl s rest) (w:List Nat) (hw:w≠ []) (ha:s.a<=100000):∃m',a6 Tryz.prog S0 29 [.ptr r 0,.str w] m (.bool (au L w s)) m'/\RD m' r vl (if au L w s then aa s else s) rest/\Chg [r] m m':=by
 refine WF.ex1 fun K hK=> ?_
 refine WF.of_wpG (fun _=>rfl) zq (L:= [(.a .e,.str w),(.e,.ptr r 0)]) rfl ?_
 unfold JH
 simp only[go_sem,seval,ab]
 refine WF.use1H (jF hc h0 hd) ?_
 intro m1 hC1
 have hd1:=hd.chg hC1 (by simp)
 generalize hT:av L s.a=T
 obtain ⟨c,w',rfl⟩:=List.exists_cons_of_ne_nil hw
 have hw0:(c::w')[0]? =some c:=rfl
 obtain ⟨g,o⟩:=hd1
 have hkw:eK (c::w')=if jd c then 4 else 3:=rfl
 have hl:(Tok.l T).length=4:=rfl
 have hlr:=oM
 have yes:∀M,au L (c::w') s=true->Chg [r] m M->M.get r=some (.cells true (vl::ii (s.a+1:Nat)::ii s.e::ii s.b::rest))->aw M r->K (.bool true) M:=fun M h1 h2 h3 h4=>by
  rw[h1,Q5 rfl] at hK
  exact hK M ⟨⟨h3,h4⟩,h2⟩
 have no:∀M,au L (c::w') s=false->Chg [] m M->K (.bool false) M:=fun M h1 h2=>by
  rw[h1,Q4 (by simp)] at hK
  exact hK M ⟨hd.chg h2 (by simp),h2.weak (by simp)⟩
 have tb:∀k,eK (c::w')=k->au L (c::w') s=decide (s.e=0/\T.k=k/\T.t=c::w'):=fun k hk=>by rw[au,hT,hk]
 have hC2:∀l,aF l= []->Chg [] m (hp l 1 m1):=fun l e=>hC1.trans (aH e) (by simp)
 cases hlt:jd c with
 |true=>
  have tb:=tb 4 (by rw[hkw,hlt];rfl)
  by_cases he:s.e=0
  ·by_cases hk:T.k=4
   ·by_cases ht:T.t=c::w'
    ·simp (disch:=first|assumption|omega|(simp only[ay]<;>omega)) only[go_sem,seval,hw0,hl,qG,vP,(hlr _ _).wf',hlt,g]
     refine yes _ (by rw[tb];simp[he,hk,ht]) ?_ ((bF o).trans a7) (ae o)
     exact (hC1.weak (by simp)).trans (aH rfl) (by simp[aF])
    ·simp (disch:=first|assumption|omega|(simp only[ay]<;>omega)) only[go_sem,seval,hw0,hl,qG,vP,(hlr _ _).wf',hlt,g]
     refine no _ (by rw[tb];simp[ht]) ?_;exact hC2 _ rfl
   ·simp (disch:=first|assumption|omega|(simp only[ay]<;>omega)) only[go_sem,seval,hw0,hl,qG,vP,(hlr _ _).wf',hlt,g]
    refine no _ (by rw[tb];simp[hk]) ?_;exact hC2 _ rfl
  ·simp (disch:=first|assumption|omega|(simp only[ay]<;>omega)) only[go_sem,seval,hw0,hl,qG,vP,(hlr _ _).wf',hlt,g]
   refine no _ (by rw[tb];simp[he]) ?_;exact hC2 _ rfl
 |false=>
  have tb:=tb 3 (by rw[hkw,hlt];rfl)
  by_cases he:s.e=0
  ·by_cases hk:T.k=3
   ·by_cases ht:T.t=c::w'
    ·simp (disch:=first|assumption|omega|(simp only[ay]<;>omega)) only[go_sem,seval,hw0,hl,qG,vP,(hlr _ _).wf',hlt,g]
     refine yes _ (by rw[tb];simp[he,hk,ht]) ?_ ((bF o).trans a7) (ae o)
     exact (hC1.weak (by simp)).trans (aH rfl) (by simp[aF])
    ·simp (disch:=first|assumption|omega|(simp only[ay]<;>omega)) only[go_sem,seval,hw0,hl,qG,vP,(hlr _ _).wf',hlt,g]
     refine no _ (by rw[tb];simp[ht]) ?_;exact hC2 _ rfl
   ·simp (disch:=first|assumption|omega|(simp only[ay]<;>omega)) only[go_sem,seval,hw0,hl,qG,vP,(hlr _ _).wf',hlt,g]
    refine no _ (by rw[tb];simp[hk]) ?_;exact hC2 _ rfl
  ·simp (disch:=first|assumption|omega|(simp only[ay]<;>omega)) only[go_sem,seval,hw0,hl,qG,vP,(hlr _ _).wf',hlt,g]
   refine no _ (by rw[tb];simp[he]) ?_;exact hC2 _ rfl
theorem gI (hc:RC m0 L vl r) (h0:Chg [] m0 m) (hd:RD m r vl s rest) (w:List Nat) (hw:w≠ []) (ha:s.a<=100000):∃m',a6 Tryz.prog S0 32 [.ptr r 0,.str w] m (.tup []) m'/\RD m' r vl (aT L w s) rest/\Chg [r] m m':=by
 refine WF.ex1 fun K hK=> ?_
 refine WF.of_wpG (fun _=>rfl) Aw (L:= [(.a .e,.str w),(.e,.ptr r 0)]) rfl ?_
 unfold JD
 simp only[go_sem,seval,ab]
 refine WF.use1 (dS hc h0 hd w hw ha) ?_
 rintro m1 ⟨hd1,hC1⟩
 unfold aT at hK
 cases hb:au L w s with
 |true=>
  rw[hb] at hd1 hK
  simp only[go_sem,seval]
  exact hK _ ⟨hd1,hC1⟩
 |false=>
  rw[hb] at hd1 hK
  simp only[go_sem,seval]
  refine WF.use1 (iq (s:=s) hd1 2) ?_
  rintro m2 ⟨hd2,hC2⟩
  simp only[go_sem,seval]
  exact hK _ ⟨hd2,hC1.trans hC2 fun _ h _=>h⟩
theorem mw (hc:RC m0 L vl r) (h0:Chg [] m0 m) (hd:RD m r vl s rest) (ha:s.a<=100000):∃m',a6 Tryz.prog S0 30 [.ptr r 0] m (.str (aJ L s).1) m'/\RD m' r vl (aJ L s).2 rest/\Chg [r] m m':=by
 refine WF.ex1 fun K hK=> ?_
 refine WF.of_wpG (fun _=>rfl) AA (L:= [(.e,.ptr r 0)]) rfl ?_
 unfold Lr
 simp only[go_sem,seval,ab]
 refine WF.use1H (jF hc h0 hd) ?_
 intro m1 hC1
 have hd1:=hd.chg hC1 (by simp)
 have hl:(Tok.l (av L s.a)).length=4:=rfl
 unfold aJ at hK
 generalize av L s.a=T at hK hl
 obtain ⟨g,o⟩:=hd1
 have bad:(s.e≠0∨T.k≠1)->∀M,Chg [] m M->∃m',a6 Tryz.prog S0 31 [.ptr r 0,ii 2] M (.tup []) m'/\K (.str []) m':=fun h M hC=>by
  rw[Q5 h] at hK
  obtain ⟨m2,h1,hd2,hC2⟩:=iq (hd.chg hC (by simp)) 2
  exact ⟨m2,h1,hK _ ⟨hd2,(hC.weak (by simp)).trans hC2 fun _ h _=>h⟩⟩
 by_cases he:s.e=0
 ·by_cases hk:T.k=1
  ·rw[Q4 (by omega)] at hK
   simp (disch:=first|assumption|omega|(simp only[ay]<;>omega)) only[go_sem,seval,hl,qG,vP,g]
   refine hK _ ⟨⟨(bF o).trans a7,ae o⟩,(hC1.weak (by simp)).trans (aH rfl) (by simp[aF])⟩
  ·simp (disch:=first|assumption|omega|(simp only[ay]<;>omega)) only[go_sem,seval,hl,qG,vP,g]
   refine WF.use1 (bad (Or.inr hk) _ (rP hC1 rfl)) ?_
   intro M h
   simp only[go_sem,seval]
   exact h
 ·simp (disch:=first|assumption|omega|(simp only[ay]<;>omega)) only[go_sem,seval,hl,qG,vP,g]
  refine WF.use1 (bad (Or.inl he) _ (rP hC1 rfl)) ?_
  intro M h
  simp only[go_sem,seval]
  exact h
end
end FR
open Go Nm Go.Proofs
namespace FR
abbrev me (n:Nat):Ex:= .mk 0 n 0 [] []
abbrev gR (s:List Nat):Ex:= .mk 1 0 0 s []
abbrev gQ (o:Nat) (x y:Ex):Ex:= .mk 2 0 o [] [x,y]
mutual
def Ex.depth:Ex->Nat
 | .mk _ _ _ _ ks=>bo ks+1
def bo:List Ex->Nat
 | []=>0
 |x::xs=>max x.depth (bo xs)
end
theorem qL (a b:List Ex):bo (a++b)=max (bo a) (bo b):=by
 induction a with
 |nil=>simp[bo]
 |cons x a ih=>rw[List.cons_append,bo,bo,ih];omega
section
variable (L:List Tok)
def bO (E:Rs->Ex×Rs) (d:Nat) (s:Rs):Ex×Rs:=
 if s.e≠0 then (zE,s) else if 29<d then (zE,aV 11 s) else if (av L s.a).k=2 then (me (av L s.a).n,aa s) else if (av L s.a).k=1 then (gR (av L s.a).t,aa s)
 else if au L [40] s=true then ((E (aa s)).1,aT L [41] (E (aa s)).2) else (zE,aV 2 s)
def da (T:Tok):Nat:=if T.k=3/\T.t.length=1 then T.t.headD 0 else 0
def fk (o:Nat):Bool:=decide (o=43∨o=45∨o=42∨o=38∨o=61∨o=60)
def cJ (P:Rs->Ex×Rs):Nat->Ex->Rs->Ex×Rs
 |0,x,s=>(x,s)
 |f+1,x,s=>if s.e≠0 then (x,s) else if fk (da (av L s.a))=false then (x,s) else
  if (P (aa s)).2.e≠0 then (x,(P (aa s)).2) else
   cJ P f (gQ (da (av L s.a)) x (P (aa s)).1) (if 30<(gQ (da (av L s.a)) x (P (aa s)).1).depth then aV 11 (P (aa s)).2 else (P (aa s)).2)
def dZ (E:Rs->Ex×Rs) (d:Nat) (s:Rs):Ex×Rs:=cJ L (bO L E d) (L.length+1) (bO L E d s).1 (bO L E d s).2
def dY:Nat->Rs->Ex×Rs
 |0,s=>dZ L (fun s=>(zE,s)) 30 s
 |n+1,s=>dZ L (dY n) (29 - n) s
end
structure St (L:List Tok) (s s':Rs):Prop where
 le:s.a<=s'.a
 lim:s.a<=L.length->s'.a<=L.length
 err:s.e≠0->s'=s
 lim2:∀{N:Nat},(∀a,1<=(av L a).k->(av L a).k<=4->a<N)->s.a<=N->s.b<=N->s'.a<=N/\s'.b<=N
theorem St.refl (L:List Tok) (s:Rs):St L s s:=⟨Nat.le_refl _,fun h=>h,fun _=>rfl,fun _ h1 h2=>⟨h1,h2⟩⟩
theorem St.trans {L:List Tok} {a b c:Rs} (h:St L a b) (h':St L b c):St L a c:=⟨Nat.le_trans h.le h'.le,fun q=>h'.lim (h.lim q),fun q=>by have:=h.err q;subst this;exact h'.err q,fun hN h1 h2=>let ⟨q1,q2⟩:=h.lim2 hN h1 h2;h'.lim2 hN q1 q2⟩
theorem St.zero {L:List Tok} {s s':Rs} (h:St L s s') (e:s'.e=0):s.e=0:=by
 rcases Nat.eq_zero_or_pos s.e with q|q
 ·exact q
 ·have:=h.err (by omega);subst this;exact e
theorem bS (L:List Tok) (e:Nat) (s:Rs):St L s (aV e s):=by
 unfold aV
 split
 ·exact ⟨Nat.le_refl _,fun h=>h,fun h=>Q3 ‹_› h,fun _ h1 _=>⟨h1,h1⟩⟩
 ·exact St.refl L s
theorem gk {L:List Tok} {s:Rs} (h:s.a<L.length) (he:s.e=0) (hk:1<=(av L s.a).k/\(av L s.a).k<=4):St L s (aa s):=⟨Nat.le_succ _,fun _=>h,fun q=>Q3 he q,fun hN _ h2=>⟨hN _ hk.1 hk.2,h2⟩⟩
theorem cF {L:List Tok} {w:List Nat} {s:Rs} (h:au L w s=true):St L s (aa s):=by
 obtain ⟨h1,h2,h3⟩:=of_decide_eq_true h
 refine gk (bE h).2 h1 ?_
 rw[h2]
 unfold eK
 split
 ·split<;>omega
 ·omega
theorem kG {L:List Tok} {a:Nat} (h:(av L a).k≠0):a<L.length:=by
 rcases Nat.lt_or_ge a L.length with q|q
 ·exact q
 ·rw[av,List.getElem?_eq_none q] at h;exact Q3 rfl h
theorem aZ (L:List Tok) (w:List Nat) (s:Rs):St L s (aT L w s):=by
 unfold aT
 split
 ·rename_i h;exact cF h
 ·exact bS _ _ _
theorem cw (L:List Tok) (s:Rs):St L s (aJ L s).2:=by
 unfold aJ
 split
 ·exact bS _ _ _
 ·rename_i h
  exact gk (kG (by omega)) (by omega) (by omega)
theorem fE {L:List Tok} {E:Rs->Ex×Rs} {d:Nat} (hE:∀s,St L s (E s).2) (s:Rs):St L s (bO L E d s).2:=by
 unfold bO
 split
 ·exact St.refl _ _
 ·split
  ·exact bS _ _ _
  ·split
   ·exact gk (kG (by omega)) (by omega) (by omega)
   ·split
    ·exact gk (kG (by omega)) (by omega) (by omega)
    ·split
     ·rename_i h;exact ((cF h).trans (hE _)).trans (aZ _ _ _)
     ·exact bS _ _ _
theorem rA {L:List Tok} {a:Nat} (h:fk (da (av L a))=true):a<L.length:=by
 refine kG fun q=> ?_
 unfold da at h
 rw[Q4 (by omega)] at h
 exact Q3 h (by decide)
theorem F3 {L:List Tok} {a:Nat} (h:fk (da (av L a))=true):1<=(av L a).k/\(av L a).k<=4:=by
 unfold da at h
 by_cases q:(av L a).k=3/\(av L a).t.length=1
 ·omega
 ·rw[Q4 q] at h;exact Q3 h (by decide)
theorem lB {L:List Tok} {P:Rs->Ex×Rs} (hP:∀s,St L s (P s).2):∀(f:Nat) (x:Ex) (s:Rs),St L s (cJ L P f x s).2:=by
 intro f
 induction f with
 |zero=>intro x s;exact St.refl _ _
 |succ f ih=>
  intro x s
  rw[cJ]
  split
  ·exact St.refl _ _
  ·split
   ·exact St.refl _ _
   ·rename_i h1 h2
    have h3:=(gk (rA (by simpa using h2)) (by omega:s.e=0) (F3 (by simpa using h2))).trans (hP (aa s))
    split
    ·exact h3
    ·refine (h3.trans ?_).trans (ih _ _)
     split
     ·exact bS _ _ _
     ·exact St.refl _ _
theorem uD {L:List Tok} {E:Rs->Ex×Rs} {d:Nat} (hE:∀s,St L s (E s).2) (s:Rs):St L s (dZ L E d s).2:=(fE hE s).trans (lB (fE hE) _ _ _)
theorem bi (L:List Tok):∀(n:Nat) (s:Rs),St L s (dY L n s).2:=by
 intro n
 induction n with
 |zero=>exact fun s=>uD (fun s=>St.refl _ s) s
 |succ n ih=>exact fun s=>uD ih s
def DD (E:Rs->Ex×Rs):Prop:=∀s,(E s).2.e=0->(E s).1.sz+s.a<=(E s).2.a
theorem sV {L:List Tok} {E:Rs->Ex×Rs} {d:Nat} (hS:∀s,St L s (E s).2) (hE:DD E):DD (bO L E d):=by
 intro s
 unfold bO
 have hf:∀e,e≠0->(aV e s).e≠0:=fun e he=>by unfold aV;split;exact he;assumption
 split
 ·intro h;exact Q3 h ‹_›
 ·split
  ·intro h;exact Q3 h (hf 11 (by omega))
  ·split
   ·intro _;simp[Ex.sz,nB,aa];omega
   ·split
    ·intro _;simp[Ex.sz,nB,aa];omega
    ·split
     ·intro h
      have h1:=aZ L [41] (E (aa s)).2
      have h2:=hE (aa s) (h1.zero h)
      have h3:=h1.le
      have h4:(aa s).a=s.a+1:=rfl
      dsimp only at h ⊢
      omega
     ·intro h;exact Q3 h (hf 2 (by omega))
theorem H8 {L:List Tok} {P:Rs->Ex×Rs} (hS:∀s,St L s (P s).2) (hP:DD P):∀(f:Nat) (x:Ex) (s:Rs) (a0:Nat),(s.e=0->x.sz+a0<=s.a)->(cJ L P f x s).2.e=0->(cJ L P f x s).1.sz+a0<=(cJ L P f x s).2.a:=by
 intro f
 induction f with
 |zero=>intro x s a0 h h2;exact h h2
 |succ f ih=>
  intro x s a0 h
  rw[cJ]
  split
  ·intro h2;exact Q3 h2 ‹_›
  ·split
   ·intro h2;exact h h2
   ·split
    ·intro h2;exact Q3 h2 ‹_›
    ·rename_i h1 h2 h3
     refine ih _ _ a0 fun h4=> ?_
     have h5:=hP (aa s) (by omega)
     have h6:=h (by omega)
     have h7:(aa s).a=s.a+1:=rfl
     have h8:(gQ (da (av L s.a)) x (P (aa s)).1).sz=1+(x.sz+((P (aa s)).1.sz+0)):=by simp[Ex.sz,nB]
     rw[h8]
     split
     ·unfold aV;split
      ·show _+a0<=(P (aa s)).2.a;omega
      ·omega
     ·omega
theorem uV {L:List Tok} {E:Rs->Ex×Rs} {d:Nat} (hS:∀s,St L s (E s).2) (hP:DD (bO L E d)):DD (dZ L E d):=by
 intro s h
 exact H8 (fE hS) hP _ _ _ s.a (fun h=>hP s h) h
theorem pX (L:List Tok) (E:Rs->Ex×Rs):DD (bO L E 30):=by
 intro s
 unfold bO
 split
 ·intro h;exact Q3 h ‹_›
 ·rw[Q5 (by omega)]
  intro h;unfold aV at h;split at h
  ·exact Q3 h (by show (11:Nat)≠0;omega)
  ·exact Q3 h ‹_›
theorem rT (L:List Tok):∀n:Nat,DD (dY L n):=by
 intro n
 induction n with
 |zero=>exact uV (fun s=>St.refl _ s) (pX L _)
 |succ n ih=>exact uV (bi L n) (sV (bi L n) ih)
abbrev eB (m:NH):D4->Prop:=fun i=>¬aw m i
theorem RE.chg {mc m m':NH} {x:Ex} {c:List NV} {S:List D4} (h:RE m (eB mc) x c) (hC:Chg S m m') (hS:∀i∈S,aw mc i):RE m' (eB mc) x c:=h.stays (aE.of hC fun i hi hs=>hi (hS i hs))
theorem RS.chg {mc m m':NH} {x:Stm} {c:List NV} {S:List D4} (h:RS m (eB mc) x c) (hC:Chg S m m') (hS:∀i∈S,aw mc i):RS m' (eB mc) x c:=h.stays (aE.of hC fun i hi hs=>hi (hS i hs))
theorem RE.new {mc mb m:NH} {x:Ex} {c:List NV} (h:RE m (eB mc) x c) (hC:∀i,aw mb i->aw mc i):RE m (eB mb) x c:=h.weak fun i hi ho=>hi (hC i ho)
theorem RS.new {mc mb m:NH} {x:Stm} {c:List NV} (h:RS m (eB mc) x c) (hC:∀i,aw mb i->aw mc i):RS m (eB mb) x c:=h.weak fun i hi ho=>hi (hC i ho)
theorem DJ (m:NH) (T:D4->Prop) (n:Nat):RE m T (me n) ((me n).l .nils):=Ax m T 0 n 0 []
theorem Ab (m:NH) (T:D4->Prop) (s:List Nat):RE m T (gR s) ((gR s).l .nils):=Ax m T 1 0 0 s
def P8 (x:Ex):Prop:=∀{m0 m:NH} {T:D4->Prop} {c:List NV},RE m0 T x c->aE T m0 m->x.sz<=100000000->∃m',a6 Tryz.prog S0 99 [.agg c] m (ii x.depth) m'/\Chg [] m m'
theorem Mk:∀x:Ex,x.depth<=x.sz:=by
 apply Ex.ind
 intro k n o s ks ih
 rw[Ex.depth,Ex.sz]
 have:∀ks:List Ex,(∀x∈ks,x.depth<=x.sz)->bo ks<=nB ks:=by
  intro ks
  induction ks with
  |nil=>intro _;simp[bo]
  |cons x xs ih=>
   intro h
   have h1:=h x (List.mem_cons_self ..)
   have h2:=ih fun y hy=>h y (List.mem_cons_of_mem _ hy)
   rw[bo,nB];omega
 have:=this ks ih
 omega
theorem HU {l:List Ex} {x:Ex} (hx:x∈l):x.sz<=nB l:=by
 induction l with
 |nil=>simp at hx
 |cons a l ih=>
  rw[nB]
  rcases List.mem_cons.mp hx with rfl|hx
  ·omega
  ·have:=ih hx;omega
theorem GU:∀x:Ex,P8 x:=by
 apply Ex.ind
 intro k n o s ks ih m0 m T c hR hst hsz
 obtain ⟨vk,C,rfl,hS⟩:=hR.inv
 rw[Ex.sz] at hsz
 refine WF.ex1 fun K hK=> ?_
 refine WF.of_wpG (fun _=>rfl) AE (L:= [(.e,.agg [ii k,u64 n,u8 o,.str s,vk])]) rfl ?_
 unfold LR
 simp only[go_sem,seval]
 generalize hM1:hp _ 1 m=M1
 have hC1:Chg [] m M1:=bf hM1 rfl
 have hg1:M1.get (na m 0)=some (.cells true [ii k,u64 n,u8 o,.str s,vk]):=bu hM1
 have ho1:aw M1 (na m 0):=bB hM1 (by omega)
 have hls:=If ks
 refine W.loop (fun j d=>∃t M i,d=⟨t, [],none,M⟩/\NT.get D4.e.a t=some (.ptr (na m 0) 0)/\NT.get D4.e.c t=some (ii (bo (ks.take i)))/\NT.get D4.e.f t=some (ii (i:Nat))/\i+j=ks.length/\Chg [] M1 M) ?_ ks.length _ ⟨_,M1,0,rfl,by exact gq rfl,by exact gq rfl,by exact gq rfl,by omega,Chg.refl M1⟩
 rintro j d ⟨t,M,i,rfl,g1,g2,g3,hij,hC⟩
 apply aM
 unfold zW
 change wp _ _ _ _ ⟨am [] t, [],none,M⟩ _
 have hstM:aE T m0 M:=fun i hi ho=>by
  obtain ⟨q1,q2⟩:=hst i hi ho
  have hCM:Chg [] m M:=hC1.trans hC (by simp)
  exact ⟨(hCM.get q2 (by simp)).trans q1,hCM.old q2⟩
 have hSM:=hS.stays hstM
 have hgM:=(hC.get ho1 (by simp)).trans hg1
 have hlen:=hSM.sl.len
 rw[hS.len] at hlen
 by_cases hi:i<ks.length
 ·obtain ⟨cx,hcx,hRx⟩:=hS.at i hi
  have hc:i<C.length:=by rw[hS.len];exact hi
  obtain ⟨id,off,wr,c,a1,a2,a3,a4,a5⟩:=hSM.sl.at i hc
  have ecx:C[i]=cx:=by rw[List.getElem?_eq_getElem hc] at hcx;injection hcx
  rw[ecx] at a5
  have hsx:=HU (List.getElem_mem hi)
  obtain ⟨m',hr,hC'⟩:=ih ks[i] (List.getElem_mem hi) hRx hstM (by omega)
  have htk:bo (ks.take (i+1))=max (bo (ks.take i)) ks[i].depth:=by
   rw[List.take_add_one,List.getElem?_eq_getElem hi,Option.toList_some,qL,bo,bo];omega
  simp (disch:=first|assumption|omega) only[go_sem,seval,g1,g2,g3,hgM,hlen,a1,a2,a5,hr.wf']
  by_cases hgt:bo (ks.take i)<ks[i].depth
  ·simp (disch:=first|assumption|omega) only[go_sem,seval,g1,g2,g3]
   refine ⟨j - 1,by omega,_,m',i+1,by rfl,by exact gq g1, ?_,by exact gq rfl,by omega,hC.trans hC' (by simp)⟩
   simp only[go_sem,seval,htk]
   rw[Nat.max_eq_right (by omega)]
  ·simp (disch:=first|assumption|omega) only[go_sem,seval,g1,g2,g3]
   refine ⟨j - 1,by omega,_,m',i+1,by rfl,by exact gq g1, ?_,by exact gq rfl,by omega,hC.trans hC' (by simp)⟩
   simp only[go_sem,seval,htk,g2]
   rw[Nat.max_eq_left (by omega)]
 ·have e:(ks.take i)=ks:=List.take_of_length_le (by omega)
  rw[e] at g2
  have hd:=Mk (.mk k n o s ks)
  rw[Ex.depth,Ex.sz] at hd
  rw[Ex.depth] at hK
  simp (disch:=first|assumption|omega) only[go_sem,seval,g1,g2,g3,hgM,hlen]
  exact hK _ (hC1.trans hC (by simp))
end FR
open Go Nm Go.Proofs
namespace FR
def K4 (f:Nat) (m0:NH) (L:List Tok) (vl:NV) (r:D4) (rest:List NV) (E:Rs->Ex×Rs) (d:Nat):Prop:=∀{m:NH} {s:Rs},Chg [] m0 m->RD m r vl s rest->s.a<=L.length->
 ∃v m',a6 Tryz.prog S0 f [.ptr r 0,ii d] m v m'/\(∃u,v= .agg ((E s).1.l u)/\RE m' (eB m) (E s).1 ((E s).1.l u))/\RD m' r vl (E s).2 rest/\Chg [r] m m'
theorem nO {S:List D4} {m M:NH} {l:List (AK×NO)} {k:Nat} (h:Chg S m M) (ho:∀i∈aF l,aw m i->i∈S):Chg S m (hp l k M):=h.trans (aH rfl) ho
section
variable {m0:NH} {L:List Tok} {vl:NV} {r:D4} {rest:List NV} {E:Rs->Ex×Rs}
theorem Ez (hc:RC m0 L vl r) {d:Nat} (hst:∀s,St L s (E s).2) (hE:d<=29->K4 72 m0 L vl r rest E (d+1)) (hd30:d<=30):K4 98 m0 L vl r rest (bO L E d) d:=by
 intro m s h0 hd ha
 refine WF.ex fun K hK=> ?_
 refine WF.of_wpG (fun _=>rfl) yX (L:= [(.a .e,ii d),(.e,.ptr r 0)]) rfl ?_
 unfold I9
 have hll:=hc.len
 simp only[go_sem,seval]
 generalize hM1:hp _ 1 m=M1
 have hC1:Chg [] m M1:=bf hM1 rfl
 have hg1:M1.get (na m 0)=some (.cells true [ii 0,u64 0,u8 0,.str [],.nils]):=bu hM1
 have ho1:aw M1 (na m 0):=bB hM1 (by omega)
 have hr0:r≠na m 0:=hd.o.ne 0
 have hr0':na m 0≠r:=fun e=>hr0 e.symm
 have hd1:=hd.chg hC1 (by simp)
 have hn1:∀i,aw m i->aw M1 i:=fun i hi=>hC1.old hi
 refine WF.use1H (jF hc (h0.trans hC1 (by simp)) hd1) ?_
 intro M2 hC2
 have hd2:=hd1.chg hC2 (by simp)
 have hg2:=(hC2.get ho1 (by simp)).trans hg1
 have ho2:=hC2.old ho1
 have hC02:=hC1.trans hC2 (by simp)
 have hl:(Tok.l (av L s.a)).length=4:=rfl
 have hpf:bO L E d s=if s.e≠0 then (zE,s) else if 29<d then (zE,aV 11 s) else if (av L s.a).k=2 then (me (av L s.a).n,aa s) else if (av L s.a).k=1 then (gR (av L s.a).t,aa s)
  else if au L [40] s=true then ((E (aa s)).1,aT L [41] (E (aa s)).2) else (zE,aV 2 s):=rfl
 rw[hpf] at hK
 clear hpf
 generalize hT:av L s.a=T at hK hl
 have hdg:=hd2.g
 have hdo:=hd2.o
 have hCr2:Chg [r] m M2:=hC02.weak (by simp)
 have fin:∀{M:NH} {s':Rs} {u:NV} {x:Ex} {l:List (AK×NO)} {k:Nat},RD M r vl s' rest->Chg [r] m M->RE M (eB m) x (x.l u)->(∀i∈aF l,i=na m 0)->(RE (hp l k M) (eB m) x (x.l u)->RD (hp l k M) r vl s' rest/\Chg [r] m (hp l k M)):=fun h1 h2 h3 h4 _=>
  ⟨h1.chg (aH rfl) fun hi=>hr0 (h4 _ hi),nO h2 fun i hi ho=>Q3 (h4 i hi▸ho) aD⟩
 by_cases he:s.e=0
 ·rw[Q4 (by omega)] at hK
  by_cases h29:29<d
  ·rw[Q5 h29] at hK
   simp (disch:=first|assumption|omega|(simp only[ay]<;>omega)) only[go_sem,seval,hl,hdg]
   generalize hM3:hp _ 1 M2=M3
   have hC3:Chg [] M2 M3:=bf hM3 rfl
   refine WF.use1H (iq (hd2.chg hC3 (by simp)) 11) ?_
   rintro M4 ⟨hd4,hC4⟩
   have hg4:=(hC4.get (hC3.old ho2) (by simpa using hr0.symm)).trans ((hC3.get ho2 (by simp)).trans hg2)
   have ho4:=hC4.old (hC3.old ho2)
   simp (disch:=first|assumption|omega|(simp only[ay]<;>omega)) only[go_sem,seval,hg4]
   exact hK _ _ ⟨⟨.nils,rfl,Ax _ _ _ _ _ _⟩,fin hd4 ((hCr2.trans hC3 (by simp)).trans hC4 fun _ h _=>h) (Ax _ _ 0 0 0 []) (by simp[aF]) (Ax _ _ _ _ _ _)⟩
  ·rw[Q4 h29] at hK
   by_cases h2:T.k=2
   ·rw[Q5 h2] at hK
    simp (disch:=first|assumption|omega|(simp only[ay]<;>omega)) only[go_sem,seval,hl,qG,Pb,hdg,hg2,hr0]
    refine hK _ _ ⟨⟨.nils,rfl,DJ _ _ _⟩,⟨?_,ae (by assumption)⟩, ?_⟩
    ·refine (bF hdo).trans ?_
     simp only[fU hr0,a7];rfl
    ·exact nO hCr2 (by simp[aF,aD])
   ·rw[Q4 h2] at hK
    by_cases h1:T.k=1
    ·rw[Q5 h1] at hK
     simp (disch:=first|assumption|omega|(simp only[ay]<;>omega)) only[go_sem,seval,hl,qG,vP,hdg,hg2,hr0]
     refine hK _ _ ⟨⟨.nils,rfl,Ab _ _ _⟩,⟨?_,ae (by assumption)⟩, ?_⟩
     ·refine (bF hdo).trans ?_
      simp only[fU hr0,a7];rfl
     ·exact nO hCr2 (by simp[aF,aD])
    ·rw[Q4 h1] at hK
     simp (disch:=first|assumption|omega|(simp only[ay]<;>omega)) only[go_sem,seval,hl,qG,hdg]
     generalize hM3:hp _ 1 M2=M3
     have hC3:Chg [] M2 M3:=bf hM3 rfl
     have hd3:=hd2.chg hC3 (by simp)
     refine WF.use1H (dS hc (h0.trans (hC02.trans hC3 (by simp)) (by simp)) hd3 [40] (by simp) (by omega)) ?_
     rintro M4 ⟨hd4,hC4⟩
     have hg4:=(hC4.get (hC3.old ho2) (by simpa using hr0.symm)).trans ((hC3.get ho2 (by simp)).trans hg2)
     have ho4:=hC4.old (hC3.old ho2)
     have hC04:Chg [r] m M4:=(hCr2.trans hC3 (by simp)).trans hC4 fun _ h _=>h
     cases hb:au L [40] s with
     |true=>
      rw[hb,Q5 rfl] at hK hd4
      dsimp only at hK
      generalize hEs:E (aa s)=Es at hK
      obtain ⟨-,hlt⟩:=bE hb
      simp (disch:=first|assumption|omega) only[go_sem,seval,ab]
      refine WF.useH (hE (by omega) (hc.chg h0 hC04) hd4 hlt) ?_
      rintro v5 M5 ⟨⟨u,rfl,hx5⟩,hd5,hC5⟩
      have hst5:=hst (aa s)
      rw[hEs] at hx5 hd5 hst5 ⊢
      have hg5:=(hC5.get ho4 (by simpa using hr0.symm)).trans hg4
      have ho5:=hC5.old ho4
      have hC05:Chg [r] m M5:=hC04.trans hC5 fun _ h _=>h
      have hx5l:(Es.1.l u).length=5:=rfl
      simp (disch:=first|assumption|omega|(simp only[ay]<;>omega)) only[go_sem,seval,hx5l]
      generalize hM6:hp _ 1 M5=M6
      have hC6:Chg [] M5 M6:=bf hM6 rfl
      have hg6:M6.get (na M5 0)=some (.cells true (Es.1.l u)):=bu hM6
      have ho6:aw M6 (na M5 0):=bB hM6 (by omega)
      have hlim:=hst5.lim hlt
      refine WF.use1H (gI hc (hc.chg h0 (hC05.trans hC6 (by simp))) (hd5.chg hC6 (by simp)) [41] (by simp) (by omega)) ?_
      rintro M7 ⟨hd7,hC7⟩
      have hg7:=(hC7.get (hC6.old ho5) (by simpa using hr0.symm)).trans ((hC6.get ho5 (by simp)).trans hg5)
      have ho7:=hC7.old (hC6.old ho5)
      have hr5:na M5 0≠r:=fun e=>(hd5.o.ne 0 e.symm)
      have hb7:=(hC7.get ho6 (by simpa using hr5)).trans hg6
      have hC07:Chg [r] m M7:=(hC05.trans hC6 (by simp)).trans hC7 fun _ h _=>h
      have hl5':(Es.1.l u).take 5=Es.1.l u:=rfl
      simp (disch:=first|assumption|omega|(simp only[ay]<;>omega)) only[go_sem,seval,hg7,hb7,hx5l,hl5']
      have hx7:RE M7 (eB M4) Es.1 (Es.1.l u):=(hx5.chg hC6 (by simp)).chg hC7 fun i hi=>by
       have hi:=one hi;subst hi;exact hd4.o
      generalize hM8:hp _ 0 M7=M8
      have hC8:Chg [na m 0] M7 M8:=bf hM8 rfl
      have hx8:RE M8 (eB M4) Es.1 (Es.1.l u):=hx7.chg hC8 fun i hi=>by
       have hi:=one hi;subst hi;exact ho4
      have hx9:RE M8 (eB m) Es.1 (Es.1.l u):=hx8.new fun i hi=>hC04.old hi
      have hd8:=hd7.chg hC8 (by simpa using hr0)
      have hC08:Chg [r] m M8:=hC07.trans hC8 fun i hi ho=>by
       have hi:=one hi;subst hi;exact Q3 ho aD
      exact hK _ _ ⟨⟨u,rfl,hx9⟩,hd8,hC08⟩
     |false=>
      rw[hb,Q4 Bool.false_ne_true] at hK hd4
      simp only[go_sem,seval,ab]
      refine WF.use1H (iq hd4 2) ?_
      rintro M5 ⟨hd5,hC5⟩
      have hg5:=(hC5.get ho4 (by simpa using hr0.symm)).trans hg4
      have ho5:=hC5.old ho4
      simp (disch:=first|assumption|omega|(simp only[ay]<;>omega)) only[go_sem,seval,hg5]
      exact hK _ _ ⟨⟨.nils,rfl,Ax _ _ _ _ _ _⟩,fin hd5 (hC04.trans hC5 fun _ h _=>h) (Ax _ _ 0 0 0 []) (by simp[aF]) (Ax _ _ _ _ _ _)⟩
 ·rw[Q5 he] at hK
  simp (disch:=first|assumption|omega|(simp only[ay]<;>omega)) only[go_sem,seval,hl,hdg,hg2]
  exact hK _ _ ⟨⟨.nils,rfl,Ax _ _ _ _ _ _⟩,fin hd2 hCr2 (Ax _ _ 0 0 0 []) (by simp[aF]) (Ax _ _ _ _ _ _)⟩
end
end FR
open Go Nm Go.Proofs
namespace FR
theorem RE.old {m:NH} {T:D4->Prop} {x:Ex} {c:List NV} (h:RE m T x c):RE m (fun i=>T i/\aw m i) x c:=by
 induction h with
 |mk hv hT hl h ih=>exact .mk hv (fun i hi=>⟨hT i hi,hv.old i hi⟩) hl ih
theorem RS.old {m:NH} {T:D4->Prop} {x:Stm} {c:List NV} (h:RS m T x c):RS m (fun i=>T i/\aw m i) x c:=by
 induction h with
 |mk hi hx hy hb hbT hbl hbR he heT hel heR ih1 ih2=>exact .mk hi.old hx.old hy.old hb (fun i q=>⟨hbT i q,hb.old i q⟩) hbl ih1 he (fun i q=>⟨heT i q,he.old i q⟩) hel ih2
theorem IS {m:NH} {T:D4->Prop} {o:Nat} {x y:Ex} {cx cy:List NV} (hx:RE m T x cx) (hy:RE m T y cy) {id:D4} (hT:T id) (hg:m.get id=some (.cells true (cx++cy))) (ho:aw m id):RE m T (gQ o x y) ((gQ o x y).l (.slc id 0 2 5 2)):=by
 refine .mk (C:= [cx,cy]) ⟨?_,Or.inr ⟨id,0,2,true,_,rfl,hg,ho, ?_, ?_⟩⟩ (by intro i hi;simp[ids] at hi;subst hi;exact hT) rfl ?_
 ·intro c hc;simp at hc;rcases hc with rfl|rfl
  ·exact hx.len
  ·exact hy.len
 ·simp[hx.len,hy.len]
 ·simp[hx.len,hy.len]
  rw[List.take_of_length_le (by simp[hx.len,hy.len])]
 ·intro i z c h1 h2
  match i with
  |0=>cases h1;cases h2;exact hx
  |1=>cases h1;cases h2;exact hy
  |i+2=>simp at h1
section
variable {m0:NH} {L:List Tok} {vl:NV} {r:D4} {rest:List NV}
theorem Cu (hc:RC m0 L vl r) {P:Rs->Ex×Rs} {d:Nat} (hst:∀s,St L s (P s).2) (hsz:DD P) (hP:K4 98 m0 L vl r rest P d) {m:NH} (h0:Chg [] m0 m) {b1 b2:D4} (hb1:¬aw m b1) (hb2:¬aw m b2) (hb12:b1≠b2) (horm:aw m r)
 {X:Ex} {S:Rs} {M:NH} {x:Ex} {s:Rs} {u:NV} (hd:RD M r vl s rest) (hx:RE M (fun i=>¬aw m i/\i≠b1/\i≠b2) x (x.l u)) (hg:M.get b2=some (.cells true (x.l u))) (hob:aw M b2) (hob1:aw M b1) {z1:List NV} (hg1:M.get b1=some (.cells true z1)) (ha:s.a<=L.length) (hxs:s.e=0->x.sz<=s.a) (hxz:x.sz<=100000) (hC:Chg [r] m M) (hE:cJ L P (L.length+1) x s=(X,S))
 {t:Tm} (g1:NT.get D4.e t=some (.ptr r 0)) (g2:NT.get D4.e.a t=some (ii d)) (g3:NT.get D4.e.f t=some (.ptr b1 0)) (g4:NT.get D4.e.a.a t=some (.ptr b2 0)) {Q:Out->Dyn->Prop}
 (hQ:∀t' M' u',NT.get D4.e.f t'=some (.ptr b1 0)->NT.get D4.e.a.a t'=some (.ptr b2 0)->RD M' r vl S rest->RE M' (fun i=>¬aw m i/\i≠b1/\i≠b2) X (X.l u')->M'.get b2=some (.cells true (X.l u'))->aw M' b2->aw M' b1->M'.get b1=some (.cells true z1)->Chg [r] m M'->Q (.exit 0) ⟨am [] t', [],none,M'⟩):
 W Tryz.prog S0 none rL.loop ⟨t, [],none,M⟩ Q:=by
 refine W.loop (fun k D=>∃t M x s u f,D=⟨t, [],none,M⟩/\NT.get D4.e t=some (.ptr r 0)/\NT.get D4.e.a t=some (ii d)/\NT.get D4.e.f t=some (.ptr b1 0)/\NT.get D4.e.a.a t=some (.ptr b2 0)/\RD M r vl s rest/\RE M (fun i=>¬aw m i/\i≠b1/\i≠b2) x (x.l u)/\M.get b2=some (.cells true (x.l u))/\aw M b2/\aw M b1/\M.get b1=some (.cells true z1)/\s.a<=L.length/\(s.e=0->x.sz<=s.a)/\x.sz<=100000/\Chg [r] m M/\cJ L P f x s=(X,S)/\L.length<f+s.a/\k=f) ?_ (L.length+1) _ ⟨t,M,x,s,u,L.length+1,rfl,g1,g2,g3,g4,hd,hx,hg,hob,hob1,hg1,ha,hxs,hxz,hC,hE,by omega,rfl⟩
 clear hd hx hg hob hob1 hg1 ha hxs hxz hC hE g1 g2 g3 g4
 rintro k D ⟨t,M,x,s,u,f,rfl,g1,g2,g3,g4,hd,hx,hg,hob,hob1,hg1,ha,hxs,hxz,hC,hE,hf,rfl⟩
 apply aM
 unfold rL
 change wp _ _ _ _ ⟨am [] t, [],none,M⟩ _
 have hll:=hc.len
 obtain ⟨f,rfl⟩:∃f',k=f'+1:=⟨k - 1,by omega⟩
 rw[cJ] at hE
 have hdg:=hd.g
 refine J4 (fun D=>s.e=0/\∃t',D=⟨t', [],none,M⟩/\NT.get D4.e t'=some (.ptr r 0)/\NT.get D4.e.a t'=some (ii d)/\NT.get D4.e.f t'=some (.ptr b1 0)/\NT.get D4.e.a.a t'=some (.ptr b2 0)) (fun R hR=> ?_) ?_
 ·by_cases he:s.e=0
  ·simp (disch:=first|assumption|omega) only[go_sem,seval,g1,g2,g3,g4,hdg]
   exact hR _ ⟨he,_,rfl,by simp only[go_sem,seval,g1],by simp only[go_sem,seval,g2],by simp only[go_sem,seval,g3],by simp only[go_sem,seval,g4]⟩
  ·rw[Q5 he] at hE
   injection hE with e1 e2
   subst e1 e2
   have hde:decide ((s.e:Int)=0)=false:=Q6 (by omega)
   simp only[go_sem,seval,g1,g2,g3,g4,hdg,hde]
   exact hQ _ M u (by simp only[go_sem,seval,g3]) (by simp only[go_sem,seval,g4]) hd hx hg hob hob1 hg1 hC
 clear g1 g2 g3 g4
 rintro D ⟨he,t,rfl,g1,g2,g3,g4⟩
 rw[Q4 (by omega)] at hE
 change wp _ _ _ _ ⟨am [] t, [],none,M⟩ _
 rw[sT]
 have hl:(Tok.l (av L s.a)).length=4:=rfl
 refine PN (fun D=>∃t' M2,D=⟨t', [],none,M2⟩/\Chg [] M M2/\fk (da (av L s.a))=true/\NT.get D4.e t'=some (.ptr r 0)/\NT.get D4.e.a t'=some (ii d)/\NT.get D4.e.f t'=some (.ptr b1 0)/\NT.get D4.e.a.a t'=some (.ptr b2 0)/\NT.get D4.e.a.c t'=some (u8 (da (av L s.a)))) (fun R hR=> ?_) ?_
 ·simp only[go_sem,seval,g1,g2,g3,g4,hdg]
  refine WF.use1H (jF hc (hc.chg h0 hC) hd) ?_
  intro M2 hC2
  generalize hT:av L s.a=T at hE hl hR
  have out:∀(l:List (AK×NO)) (k:Nat) (t':Tm),fk (da T)=false->NT.get D4.e.f t'=some (.ptr b1 0)->NT.get D4.e.a.a t'=some (.ptr b2 0)->aF l= []->Q (.exit 0) ⟨am [] t', [],none,hp l k M2⟩:=by
   intro l k t' hop q1 q2 ho
   rw[Q5 hop] at hE
   injection hE with e1 e2
   subst e1 e2
   have hC3:=rP (k:=k) hC2 ho
   exact hQ _ _ u q1 q2 (hd.chg hC3 (by simp)) (hx.stays (iM hC3 _)) ((hC3.get hob (by simp)).trans hg) (hC3.old hob) (hC3.old hob1) ((hC3.get hob1 (by simp)).trans hg1) (hC.trans hC3 (by simp))
  by_cases h3:T.k=3
  ·by_cases h1:T.t.length=1
   ·obtain ⟨c,hc1⟩:=List.length_eq_one_iff.mp h1
    have hopc:da T=c:=by unfold da;rw[Q5 ⟨h3,h1⟩,hc1];rfl
    have h00:T.t[0]? =some c:=by rw[hc1];rfl
    rw[hopc] at hR out
    by_cases hop:fk c=true
    ·have hcs:=of_decide_eq_true hop
     rcases hcs with rfl|rfl|rfl|rfl|rfl|rfl<;>simp (disch:=first|assumption|omega|(simp only[ay]<;>omega)) only[go_sem,seval,g1,g2,g3,g4,hl,qG,vP,h3,h1,h00]<;>exact hR _ ⟨_,_,rfl,rP hC2 rfl,hop,by simp only[go_sem,seval,g1],by simp only[go_sem,seval,g2],by simp only[go_sem,seval,g3],by simp only[go_sem,seval,g4],by simp only[go_sem,seval]<;>rfl⟩
    ·have hop':fk c=false:=by simpa using hop
     have hcs:=of_decide_eq_false hop'
     simp (disch:=first|assumption|omega|(simp only[ay]<;>omega)) only[go_sem,seval,g1,g2,g3,g4,hl,qG,vP,h3,h1,h00]
     exact out _ _ _ hop' (by simp only[go_sem,seval,g3]) (by simp only[go_sem,seval,g4]) rfl
   ·have hopc:da T=0:=by unfold da;rw[Q4 (fun h=>h1 h.2)]
    rw[hopc] at hR out
    simp (disch:=first|assumption|omega|(simp only[ay]<;>omega)) only[go_sem,seval,g1,g2,g3,g4,hl,qG,vP,h3]
    exact out _ _ _ rfl (by simp only[go_sem,seval,g3]) (by simp only[go_sem,seval,g4]) rfl
  ·have hopc:da T=0:=by unfold da;rw[Q4 (fun h=>h3 h.1)]
   rw[hopc] at hR out
   simp (disch:=first|assumption|omega|(simp only[ay]<;>omega)) only[go_sem,seval,g1,g2,g3,g4,hl,qG,vP]
   exact out _ _ _ rfl (by simp only[go_sem,seval,g3]) (by simp only[go_sem,seval,g4]) rfl
 clear g1 g2 g3 g4
 rintro D ⟨t,M2,rfl,hC2,hop,g1,g2,g3,g4,g5⟩
 have hlt:=rA hop
 rw[Q4 (by simp[hop])] at hE
 generalize da (av L s.a)=o at hE g5
 change wp _ _ _ _ ⟨am [] t, [],none,M2⟩ _
 rw[←ab M2]
 have hd2:=hd.chg hC2 (by simp)
 have hdg2:=hd2.g
 have hdo2:=hd2.o
 simp (disch:=first|assumption|omega|(simp only[ay]<;>omega)) only[go_sem,seval,g1,g2,g3,g4,g5,hdg2]
 generalize hM3:hp _ 0 M2=M3
 have hC3:Chg [r] M2 M3:=bf hM3 rfl
 have hd3:RD M3 r vl (aa s) rest:=⟨by rw[←hM3];exact (bF hdo2).trans a7,hC3.old hdo2⟩
 have hC03:Chg [r] m M3:=(hC.trans hC2 (by simp)).trans hC3 fun _ h _=>h
 have nb1:b1∉ [r]:=by simp;rintro rfl;exact hb1 horm
 have nb2:b2∉ [r]:=by simp;rintro rfl;exact hb2 horm
 have hCb:∀{M M':NH} {z:List NV} {b:D4},Chg [r] M M'->b∉ [r]->aw M b->M.get b=some (.cells true z)->M'.get b=some (.cells true z)/\aw M' b:=fun h hn ho hg=>⟨(h.get ho hn).trans hg,h.old ho⟩
 have hC23:Chg [r] M M3:=(hC2.weak (by simp)).trans hC3 fun _ h _=>h
 refine WF.use (hP (hc.chg h0 hC03) hd3 hlt) ?_
 rintro v4 M4 ⟨⟨w,rfl,hy4⟩,hd4,hC4⟩
 have hst4:=hst (aa s)
 have hsz4:=hsz (aa s)
 have hna:(aa s).a=s.a+1:=rfl
 have hlim:=hst4.lim hlt
 generalize hP4:P (aa s)=p4 at hy4 hd4 hE hst4 hsz4 hlim
 obtain ⟨y,s4⟩:=p4
 dsimp only at hy4 hd4 hE hst4 hsz4 hlim
 have hC24:Chg [r] M M4:=hC23.trans hC4 fun _ h _=>h
 obtain ⟨hg4,ho4⟩:=hCb hC24 nb2 hob hg
 obtain ⟨hg14,ho14⟩:=hCb hC24 nb1 hob1 hg1
 have hx4:RE M4 (fun i=>¬aw m i/\i≠b1/\i≠b2) x (x.l u):=hx.stays (aE.of hC24 fun i hi hs=>by
  have hs:=one hs;subst hs;exact hi.1 horm)
 have hC04:Chg [r] m M4:=hC03.trans hC4 fun _ h _=>h
 have hy4':RE M4 (fun i=>¬aw m i/\i≠b1/\i≠b2) y (y.l w):=hy4.weak fun i hi=>⟨fun h=>hi (hC03.old h),fun h=>hi (h▸hC23.old hob1),fun h=>hi (h▸hC23.old hob)⟩
 have hyl:(y.l w).length=5:=rfl
 have hxl:(x.l u).length=5:=rfl
 rw[←ab M4]
 by_cases he4:s4.e=0
 ·rw[Q4 (by omega)] at hE
  have hys:=hsz4 he4
  have hdg4:=hd4.g
  have hdo4:=hd4.o
  have hyl':(y.l w).take 5=y.l w:=rfl
  have hxl':(x.l u).take 5=x.l u:=rfl
  have hxd:(y.l w).drop 5= []:=rfl
  simp (disch:=first|assumption|omega|(simp only[ay]<;>omega)) only[go_sem,seval,g1,g2,g3,g4,g5,hyl,hdg4,hg4,hxl,hyl',hxl']
  generalize hM5:hp _ 2 M4=M5
  have hC5:Chg [b2] M4 M5:=bf hM5 rfl
  have hg5:M5.get b2=some (.cells true ((gQ o x y).l (.slc (na M4 1) 0 2 5 2))):=EJ ho4 hM5
  have hk5:M5.get (na M4 1)=some (.cells true (x.l u++y.l w)):=bu hM5
  have hko5:aw M5 (na M4 1):=bB hM5 (by omega)
  have hTk:¬aw m (na M4 1)/\na M4 1≠b1/\na M4 1≠b2:=⟨fun h=>aD (hC04.old h),fun h=>ho14.ne 1 h.symm,fun h=>ho4.ne 1 h.symm⟩
  have hs5:aE (fun i=>¬aw m i/\i≠b1/\i≠b2) M4 M5:=aE.of hC5 fun i hi hs=>by
   simp only[Q9,Q8,or_false] at hs;exact hi.2.2 hs
  have hxy5:RE M5 (fun i=>¬aw m i/\i≠b1/\i≠b2) (gQ o x y) ((gQ o x y).l (.slc (na M4 1) 0 2 5 2)):=IS (hx4.stays hs5) (hy4'.stays hs5) hTk hk5 hko5
  have hosz:(gQ o x y).sz=1+(x.sz+(y.sz+0)):=by simp[Ex.sz,nB]
  refine WF.use1H (GU (gQ o x y) hxy5 (fun i _ ho=>⟨rfl,ho⟩) (by omega)) ?_
  intro M6 hC6
  have hd5:RD M5 r vl s4 rest:=hd4.chg hC5 (by simp;rintro rfl;exact hb2 horm)
  have hd6:=hd5.chg hC6 (by simp)
  have hC56:Chg [b2] M4 M6:=hC5.trans hC6 (by simp)
  have hxy6:=hxy5.stays (iM hC6 _)
  have hg6:=(hC6.get (hC5.old ho4) (by simp)).trans hg5
  have ho6:=hC56.old ho4
  have ho16:=hC56.old ho14
  have hg16:=(hC56.get ho14 (by simpa using hb12)).trans hg14
  have hC06:Chg [r] m M6:=hC04.trans hC56 fun i hi ho=>by
   have hi:=one hi;subst hi;exact Q3 ho hb2
  have he0:=hxs he
  by_cases hdp:30<(gQ o x y).depth
  ·rw[Q5 hdp] at hE
   simp (disch:=first|assumption|omega) only[go_sem,seval,g1]
   rw[ab]
   refine WF.use1 (iq hd6 11) ?_
   rintro M7 ⟨hd7,hC7⟩
   obtain ⟨hg7,ho7⟩:=hCb hC7 nb2 ho6 hg6
   obtain ⟨hg17,ho17⟩:=hCb hC7 nb1 ho16 hg16
   have hxy7:=hxy6.stays (m':=M7) (aE.of hC7 fun i hi hs=>by
    have hs:=one hs;subst hs;exact hi.1 horm)
   have hfe:(aV 11 s4).e≠0/\(aV 11 s4).a=s4.a:=by unfold aV;rw[Q5 he4];exact ⟨by show (11:Nat)≠0;omega,rfl⟩
   simp only[go_sem,seval]
   refine ⟨f,by omega,_,M7,gQ o x y,_,_,f,by rfl,by simp only[go_sem,seval,g1],by simp only[go_sem,seval,g2],by simp only[go_sem,seval,g3],by simp only[go_sem,seval,g4],hd7,hxy7,hg7,ho7,ho17,hg17,by rw[hfe.2];exact hlim,fun h=>Q3 h hfe.1,by omega,hC06.trans hC7 fun _ h _=>h,hE, ?_,rfl⟩
   have:=hst4.le
   rw[hfe.2];omega
  ·rw[Q4 hdp] at hE
   simp (disch:=first|assumption|omega) only[go_sem,seval,g1]
   refine ⟨f,by omega,_,M6,gQ o x y,_,_,f,by rw[ab],by simp only[go_sem,seval,g1],by simp only[go_sem,seval,g2],by simp only[go_sem,seval,g3],by simp only[go_sem,seval,g4],hd6,hxy6,hg6,ho6,ho16,hg16,hlim,fun h=>by omega,by omega,hC06,hE, ?_,rfl⟩
   have:=hst4.le
   omega
 ·rw[Q5 he4] at hE
  injection hE with e1 e2
  subst e1 e2
  have hdg4:=hd4.g
  have hdo4:=hd4.o
  simp (disch:=first|assumption|omega|(simp only[ay]<;>omega)) only[go_sem,seval,g1,g2,g3,g4,g5,hyl,hdg4]
  generalize hM5:hp _ 1 M4=M5
  have hC5:Chg [] M4 M5:=bf hM5 rfl
  exact hQ _ M5 u (by simp only[go_sem,seval,g3]) (by simp only[go_sem,seval,g4]) (hd4.chg hC5 (by simp)) (hx4.stays (iM hC5 _)) ((hC5.get ho4 (by simp)).trans hg4) (hC5.old ho4) (hC5.old ho14) ((hC5.get ho14 (by simp)).trans hg14) (hC04.trans hC5 (by simp))
end
end FR
open Go Nm Go.Proofs
namespace FR
section
variable {m0:NH} {L:List Tok} {vl:NV} {r:D4} {rest:List NV}
theorem zV (hc:RC m0 L vl r) {E:Rs->Ex×Rs} {d:Nat} (hst:∀s,St L s (E s).2) (hP:K4 98 m0 L vl r rest (bO L E d) d) (hsz:DD (bO L E d)) (hsz1:∀s,s.a<=L.length->(bO L E d s).1.sz<=100000):K4 72 m0 L vl r rest (dZ L E d) d:=by
 intro m s h0 hd ha
 refine WF.ex fun K hK=> ?_
 refine WF.of_wpG (fun _=>rfl) zb (L:= [(.a .e,ii d),(.e,.ptr r 0)]) rfl ?_
 unfold KY
 have hll:=hc.len
 simp only[go_sem,seval]
 generalize hM1:hp _ 1 m=M1
 have hC1:Chg [] m M1:=bf hM1 rfl
 have hg1:M1.get (na m 0)=some (.cells true [ii 0,u64 0,u8 0,.str [],.nils]):=bu hM1
 have ho1:aw M1 (na m 0):=bB hM1 (by omega)
 have hr0:na m 0≠r:=fun e=>hd.o.ne 0 e.symm
 have hd1:=hd.chg hC1 (by simp)
 refine WF.useH (hP (h0.trans hC1 (by simp)) hd1 ha) ?_
 rintro v2 M2 ⟨⟨u,rfl,hx2⟩,hd2,hC2⟩
 have hst2:=fE (L:=L) (d:=d) hst s
 have hlim:=hst2.lim ha
 have hsz2:=hsz s
 have hszz:=hsz1 s ha
 have hXS:cJ L (bO L E d) (L.length+1) (bO L E d s).1 (bO L E d s).2=((dZ L E d s).1,(dZ L E d s).2):=rfl
 generalize (dZ L E d s).1=X at hXS hK
 generalize (dZ L E d s).2=S at hXS hK
 generalize bO L E d s=p at hx2 hd2 hlim hsz2 hszz hXS
 obtain ⟨x,s2⟩:=p
 dsimp only at hx2 hd2 hlim hsz2 hszz hXS
 have hg2:=(hC2.get ho1 (by simpa using hr0)).trans hg1
 have ho2:=hC2.old ho1
 have hxl:(x.l u).length=5:=rfl
 have hC02:Chg [r] m M2:=(hC1.weak (by simp)).trans hC2 fun _ h _=>h
 simp (disch:=first|assumption|omega|(simp only[ay]<;>omega)) only[go_sem,seval,hxl]
 generalize hM3:hp _ 1 M2=M3
 have hC3:Chg [] M2 M3:=bf hM3 rfl
 have hg3:M3.get (na M2 0)=some (.cells true (x.l u)):=bu hM3
 have ho3:aw M3 (na M2 0):=bB hM3 (by omega)
 have hx3:RE M3 (fun i=>¬aw m i/\i≠na m 0/\i≠na M2 0) x (x.l u):=(hx2.old.stays (iM hC3 _)).weak fun i hi=>⟨fun h=>hi.1 (hC1.old h),fun h=>hi.1 (h▸ho1),fun h=>aD (h▸hi.2)⟩
 refine Cu hc (fE hst) hsz hP h0 (b1:=na m 0) (b2:=na M2 0) aD (fun h=>aD (hC02.old h)) (fun e=>ho2.ne 0 e) hd.o (hd2.chg hC3 (by simp)) hx3 hg3 ho3 (hC3.old ho2) ((hC3.get ho2 (by simp)).trans hg2) hlim (fun h=>by have:=hsz2 h;omega) hszz (hC02.trans hC3 (by simp)) hXS (by exact gq rfl) (by exact gq rfl) (by exact gq rfl) (by exact gq rfl) ?_
 intro t' M' u' q1 q2 q3 q4 q5 q6 q7 q8 q9
 have hXl:(X.l u').length=5:=rfl
 have hXl':(X.l u').take 5=X.l u':=rfl
 rw[←ab M']
 simp (disch:=first|assumption|omega|(simp only[ay]<;>omega)) only[go_sem,seval,q1,q2,q5,q8,hXl,hXl']
 generalize hM5:hp _ 0 M'=M5
 have hC5:Chg [na m 0] M' M5:=bf hM5 rfl
 have hx5:RE M5 (eB m) X (X.l u'):=(q4.stays (m':=M5) (aE.of hC5 fun i hi hs=>by
  simp only[Q9,Q8,or_false] at hs;exact hi.2.1 hs)).weak fun i hi=>hi.1
 exact hK _ _ ⟨⟨u',rfl,hx5⟩,q3.chg hC5 (by simpa using hr0.symm),q9.trans hC5 fun i hi ho=>by
  have hi:=one hi;subst hi;exact Q3 ho aD⟩
theorem HG {P:Rs->Ex×Rs} (hst:∀s,St L s (P s).2) (hsz:DD P):∀(f:Nat) (x:Ex) (s:Rs),s.a<=L.length->(s.e=0->x.sz<=s.a)->x.sz<=L.length+1->(cJ L P f x s).1.sz<=L.length+1:=by
 intro f
 induction f with
 |zero=>intro x s _ _ h;exact h
 |succ f ih=>
  intro x s ha h1 h2
  rw[cJ]
  split
  ·exact h2
  ·split
   ·exact h2
   ·rename_i q1 q2
    have hlt:=rA (L:=L) (a:=s.a) (by simpa using q2)
    have h3:=(hst (aa s)).lim hlt
    split
    ·exact h2
    ·rename_i q3
     have h5:=hsz (aa s) (by omega)
     have h6:=h1 (by omega)
     have h7:(aa s).a=s.a+1:=rfl
     have h8:(gQ (da (av L s.a)) x (P (aa s)).1).sz=1+(x.sz+((P (aa s)).1.sz+0)):=by simp[Ex.sz,nB]
     have hfa:∀e,(aV e (P (aa s)).2).a=(P (aa s)).2.a:=fun e=>by unfold aV;split<;>rfl
     refine ih _ _ ?_ ?_ (by omega)
     ·split
      ·rw[hfa];exact h3
      ·exact h3
     ·split
      ·rw[hfa];omega
      ·omega
theorem um {E:Rs->Ex×Rs} {d:Nat} (hst:∀s,St L s (E s).2) (hsz:DD (bO L E d)) (hp1:∀s,s.a<=L.length->(bO L E d s).1.sz<=L.length+1) (s:Rs) (ha:s.a<=L.length):(dZ L E d s).1.sz<=L.length+1:=
 HG (fE hst) hsz _ _ _ ((fE (L:=L) (d:=d) hst s).lim ha) (fun h=>by have:=hsz s h;omega) (hp1 s ha)
theorem nE {E:Rs->Ex×Rs} {d:Nat} (hE:∀s,s.a<=L.length->(E s).1.sz<=L.length+1) (s:Rs) (ha:s.a<=L.length):(bO L E d s).1.sz<=L.length+1:=by
 unfold bO
 split
 ·simp[zE,Ex.sz,nB]
 ·split
  ·simp[zE,Ex.sz,nB]
  ·split
   ·simp[Ex.sz,nB]
   ·split
    ·simp[Ex.sz,nB]
    ·split
     ·rename_i h;exact hE _ (bE h).2
     ·simp[zE,Ex.sz,nB]
theorem CQ:∀(n:Nat) (s:Rs),s.a<=L.length->(dY L n s).1.sz<=L.length+1:=by
 intro n
 induction n with
 |zero=>exact fun s ha=>um (fun s=>St.refl _ s) (pX L _) (nE fun s _=>by simp[zE,Ex.sz,nB]) s ha
 |succ n ih=>exact fun s ha=>um (bi L n) (sV (bi L n) (rT L n)) (nE ih) s ha
theorem JG (hc:RC m0 L vl r):∀n,n<=30->K4 72 m0 L vl r rest (dY L n) (30 - n):=by
 have hll:=hc.len
 intro n
 induction n with
 |zero=>
  intro _
  have e2:dY L 0=dZ L (fun s=>(zE,s)) 30:=by funext s;rfl
  rw[e2]
  intro m s
  exact zV (E:=fun s=>(zE,s)) hc (fun s=>St.refl _ s) (Ez hc (fun s=>St.refl _ s) (fun h=>by omega) (by omega)) (pX L _) fun s ha=>by have:=nE (L:=L) (E:=fun s=>(zE,s)) (d:=30) (fun s _=>by simp[zE,Ex.sz,nB]) s ha;omega
 |succ n ih=>
  intro hn
  have e:30 - (n+1)=29 - n:=by omega
  have h1:29 - n+1=30 - n:=by omega
  have e2:dY L (n+1)=dZ L (dY L n) (29 - n):=by funext s;rfl
  rw[e,e2]
  intro m s
  exact zV hc (bi L n) (Ez hc (bi L n) (fun _=>by rw[h1];exact ih (by omega)) (by omega)) (sV (bi L n) (rT L n)) fun s ha=>by have:=nE (d:=29 - n) (CQ n) s ha;omega
end
end FR
open Go Nm Go.Proofs
namespace FR
section
variable (L:List Tok)
abbrev cD (s:Rs):Ex×Rs:=dY L 30 s
def aL (s:Rs):List Nat×Ex×Rs:=if au L [91] (aJ L s).2=true then ((aJ L s).1,(cD L (aa (aJ L s).2)).1,aT L [93] (cD L (aa (aJ L s).2)).2) else ((aJ L s).1,zE,(aJ L s).2)
def lI (x:Stm) (s:Rs):Stm×Rs:=(x,aT L [59] s)
def Jq (p:Int) (s:Rs):Stm×Rs:=lI L (.mk 0 p (aJ L s).1 [] zE (cD L (aJ L s).2).1 zE [] []) (cD L (aJ L s).2).2
def CM (p:Int) (s:Rs):Stm×Rs:=lI L (.mk 1 p (aJ L s).1 (aL L (aJ L s).2).1 (aL L (aJ L s).2).2.1 zE zE [] []) (aL L (aJ L s).2).2.2
def yq (p:Int) (s:Rs):Stm×Rs:=lI L (.mk 2 p [] (aL L s).1 (aL L s).2.1 (cD L (aL L s).2.2).1 zE [] []) (cD L (aL L s).2.2).2
def H6 (p:Int) (s:Rs):Stm×Rs:=lI L (.mk 3 p (aJ L s).1 (aL L (aJ L s).2).1 (aL L (aJ L s).2).2.1 (cD L (aL L (aJ L s).2).2.2).1 (cD L (cD L (aL L (aJ L s).2).2.2).2).1 [] []) (cD L (cD L (aL L (aJ L s).2).2.2).2).2
def Je (p:Int) (s:Rs):Stm×Rs:=lI L (.mk 5 p [] [] zE (cD L s).1 zE [] []) (cD L s).2
def DM (B:Rs->List Stm×Rs) (p:Int) (s:Rs):Stm×Rs:=
 if au L [101,108,115,101] (B (cD L s).2).2=true then (.mk 6 p [] [] zE (cD L s).1 zE (B (cD L s).2).1 (B (aa (B (cD L s).2).2)).1,(B (aa (B (cD L s).2).2)).2)
 else (.mk 6 p [] [] zE (cD L s).1 zE (B (cD L s).2).1 [],(B (cD L s).2).2)
def mt (B:Rs->List Stm×Rs) (p:Int) (s:Rs):Stm×Rs:=(.mk 7 p [] [] zE (cD L s).1 zE (B (cD L s).2).1 [],(B (cD L s).2).2)
def bD (B:Rs->List Stm×Rs) (s:Rs):Stm×Rs:=
 if au L [115,101,116] s=true then Jq L (av L s.a).p (aa s)
 else if au L [108,111,97,100] s=true then CM L (av L s.a).p (aa s)
 else if au L [115,116,111,114,101] s=true then yq L (av L s.a).p (aa s)
 else if au L [99,97,115] s=true then H6 L (av L s.a).p (aa s)
 else if au L [102,101,110,99,101] s=true then lI L (.mk 4 (av L s.a).p [] [] zE zE zE [] []) (aa s)
 else if au L [111,117,116] s=true then Je L (av L s.a).p (aa s)
 else if au L [105,102] s=true then DM L B (av L s.a).p (aa s)
 else if au L [119,104,105,108,101] s=true then mt L B (av L s.a).p (aa s)
 else lI L (.mk 0 (av L s.a).p [] [] zE zE zE [] []) (aV 2 s)
def c9 (S:Rs->Stm×Rs):Nat->List Stm->Rs->List Stm×Rs
 |0,l,s=>(l,s)
 |f+1,l,s=>if s.e≠0 then (l,s) else if au L [125] s=true then (l,aa s) else c9 S f (l++ [(S s).1]) (S s).2
def cp (d:Nat) (s:Rs):Rs:=if s.e=0/\29<d/\(av L s.a).k=3/\(av L s.a).t= [123] then aV 11 s else s
def dD (S:Rs->Stm×Rs) (d:Nat) (s:Rs):List Stm×Rs:=c9 L S (L.length+1) [] (aT L [123] (cp L d s))
def bC:Nat->Rs->List Stm×Rs
 |0,s=>dD L (fun s=>(.mk 0 0 [] [] zE zE zE [] [],aV 2 s)) 30 s
 |n+1,s=>dD L (bD L (bC n)) (29 - n) s
end
section
variable {m0:NH} {L:List Tok} {vl:NV} {r:D4} {rest:List NV}
theorem cY (s:Rs):St L s (aL L s).2.2:=by
 unfold aL
 split
 ·rename_i h;exact (((cw L s).trans (cF h)).trans (bi L 30 _)).trans (aZ _ _ _)
 ·exact cw L s
theorem IJ (hc:RC m0 L vl r):K4 72 m0 L vl r rest (cD L) 0:=by
 intro m s
 exact JG hc 30 (Nat.le_refl _)
theorem tf (hc:RC m0 L vl r) {m:NH} {s:Rs} (h0:Chg [] m0 m) (hd:RD m r vl s rest) (ha:s.a<=L.length) {pb:D4} (hpr:pb≠r) (hop:aw m pb) (hnp:¬aw m0 pb) {c0 c1 c2 c3:NV} {c:List NV} (hl:c.length=12)
 (hg:m.get pb=some (.cells true (c0::c1::c2::c3::ii 0::u64 0::u8 0:: .str []:: .nils::c))):
 ∃m',a6 Tryz.prog S0 73 [.ptr r 0,.ptr pb 0] m (.tup []) m'/\∃u,m'.get pb=some (.cells true (c0::c1::c2:: .str (aL L s).1::((aL L s).2.1.l u++c)))/\RE m' (eB m) (aL L s).2.1 ((aL L s).2.1.l u)/\RD m' r vl (aL L s).2.2 rest/\Chg [r,pb] m m':=by
 refine WF.ex1 fun K hK=> ?_
 refine WF.of_wpG (fun _=>rfl) Ar (L:= [(.a .e,.ptr pb 0),(.e,.ptr r 0)]) rfl ?_
 unfold Lj
 have hll:=hc.len
 have hrp:r≠pb:=fun e=>hpr e.symm
 simp only[go_sem,seval,ab]
 refine WF.use1H (mw hc h0 hd (by omega)) ?_
 rintro M1 ⟨hd1,hC1⟩
 have hst1:=cw L s
 unfold aL at hK
 generalize aJ L s=q at hK hd1 hst1
 obtain ⟨n,s1⟩:=q
 dsimp only at hK hd1 hst1
 have hg1:=(hC1.get hop (by simpa using hpr)).trans hg
 have ho1:=hC1.old hop
 simp (disch:=first|assumption|omega|(simp only[ay]<;>omega)) only[go_sem,seval,hg1]
 generalize hM2:hp _ 0 M1=M2
 have hC2:Chg [pb] M1 M2:=bf hM2 rfl
 have hg2:M2.get pb=some (.cells true (c0::c1::c2:: .str n::ii 0::u64 0::u8 0:: .str []:: .nils::c)):=EJ ho1 hM2
 have ho2:=hC2.old ho1
 have hd2:=hd1.chg hC2 (by simpa using hrp)
 have hC02:Chg [r,pb] m M2:=(hC1.weak (by simp)).trans hC2 (by simp)
 have hlim:=hst1.lim ha
 have hbase:∀{M},Chg [r,pb] m M->Chg [] m0 M:=fun h=>h0.trans h fun i hi ho=>by
  simp only[Q9,Q8,or_false] at hi
  rcases hi with rfl|rfl
  ·exact Q3 ho hc.no
  ·exact Q3 ho hnp
 refine WF.use1H (dS hc (hbase hC02) hd2 [91] (by simp) (by omega)) ?_
 rintro M3 ⟨hd3,hC3⟩
 have hg3:=(hC3.get ho2 (by simpa using hpr)).trans hg2
 have ho3:=hC3.old ho2
 have hC03:Chg [r,pb] m M3:=hC02.trans hC3 (by intro i hi _;simp at hi ⊢;exact Or.inl hi)
 cases hb:au L [91] s1 with
 |true=>
  rw[hb,Q5 rfl] at hK hd3
  have hlt:=(bE hb).2
  simp only[go_sem,seval,ab]
  refine WF.useH (IJ hc (hbase hC03) hd3 hlt) ?_
  rintro v4 M4 ⟨⟨u,rfl,hx4⟩,hd4,hC4⟩
  have hst4:=bi L 30 (aa s1)
  have hlim4:=hst4.lim hlt
  dsimp only at hK
  generalize hq:cD L (aa s1)=q at hK hx4 hd4
  have hq':dY L 30 (aa s1)=q:=hq
  rw[hq'] at hlim4
  obtain ⟨x,s4⟩:=q
  dsimp only at hK hx4 hd4 hlim4
  have hg4:=(hC4.get ho3 (by simpa using hpr)).trans hg3
  have ho4:=hC4.old ho3
  have hxl:(x.l u).length=5:=rfl
  simp (disch:=first|assumption|omega|(simp only[ay]<;>omega)) only[go_sem,seval,hg4,hxl,hl]
  generalize hM5:hp _ 0 M4=M5
  have hC5:Chg [pb] M4 M5:=bf hM5 rfl
  have hg5:M5.get pb=some (.cells true (c0::c1::c2:: .str n::(x.l u++c))):=EJ ho4 hM5
  have ho5:=hC5.old ho4
  have hC04:Chg [r,pb] m M4:=hC03.trans hC4 (by intro i hi _;simp at hi ⊢;exact Or.inl hi)
  have hC05:Chg [r,pb] m M5:=hC04.trans hC5 (by simp)
  refine WF.use1H (gI hc (hbase hC05) (hd4.chg hC5 (by simpa using hrp)) [93] (by simp) (by omega)) ?_
  rintro M6 ⟨hd6,hC6⟩
  simp only[go_sem,seval,ab]
  refine hK _ ⟨u,(hC6.get ho5 (by simpa using hpr)).trans hg5, ?_,hd6,hC05.trans hC6 (by intro i hi _;simp at hi ⊢;exact Or.inl hi)⟩
  refine ((hx4.chg hC5 ?_).chg hC6 ?_).new fun i hi=>hC03.old hi
  ·intro i hi;have hi:=one hi;subst hi;exact ho3
  ·intro i hi;have hi:=one hi;subst hi;exact hd3.o
 |false=>
  rw[hb,Q4 Bool.false_ne_true] at hK hd3
  simp only[go_sem,seval,ab]
  exact hK _ ⟨.nils,hg3,Ax _ _ 0 0 0 [],hd3,hC03⟩
end
end FR
open Go Nm Go.Proofs
namespace FR
def nq (m:NH) (v v':NV):Prop:=∀i∈ids v',i∈ids v∨¬aw m i
theorem nq.refl (m:NH) (v:NV):nq m v v:=fun _ h=>Or.inl h
theorem nq.trans {m m':NH} {v v' v'':NV} (h:nq m v v') (h':nq m' v' v'') (ho:∀i,aw m i->aw m' i):nq m v v'':=fun i hi=>by
 rcases h' i hi with q|q
 ·exact h i q
 ·exact Or.inr fun o=>q (ho i o)
theorem nq.chg {m m' m'':NH} {v v':NV} (h:nq m v v') (hC:Chg (ids v) m m') (hC':Chg (ids v') m' m''):Chg (ids v) m m'':=hC.trans hC' fun i hi ho=>(h i hi).elim _root_.id fun q=>Q3 ho q
end FR
open Go Nm Go.Proofs
namespace FR
def Qk (m0:NH) (L:List Tok) (vl:NV) (r:D4) (rest:List NV) (S:Rs->Stm×Rs) (d:Nat):Prop:=∀{m:NH} {s:Rs},Chg [] m0 m->RD m r vl s rest->s.a<=L.length->
 ∃v m',a6 Tryz.prog S0 55 [.ptr r 0,ii d] m v m'/\(∃w,v= .agg ((S s).1.l w)/\RS m' (eB m) (S s).1 ((S s).1.l w))/\RD m' r vl (S s).2 rest/\Chg [r] m m'
def Qw (m0:NH) (L:List Tok) (vl:NV) (r:D4) (rest:List NV) (B:Rs->List Stm×Rs) (d:Nat):Prop:=∀{m:NH} {s:Rs},Chg [] m0 m->RD m r vl s rest->s.a<=L.length->
 ∃v m',a6 Tryz.prog S0 33 [.ptr r 0,ii d] m v m'/\(∃C,SS m' (eB m) v (B s).1 C)/\RD m' r vl (B s).2 rest/\Chg [r] m m'
section
variable {m0:NH} {L:List Tok} {vl:NV} {r:D4} {rest:List NV}
theorem lE (d:Nat) (s:Rs):St L s (cp L d s):=by
 unfold cp
 split
 ·exact bS _ _ _
 ·exact St.refl _ _
theorem BM (hc:RC m0 L vl r) {S:Rs->Stm×Rs} {d:Nat} (hst:∀s,St L s (S s).2) (hpr:∀s,s.e=0->s.a<(S s).2.a∨(S s).2.e≠0) (hS:d<=29->Qk m0 L vl r rest S d) (hd29:∀s:Rs,d=30->True) {m:NH} (h0:Chg [] m0 m) (horm:aw m r)
 {X:List Stm} {Z:Rs} {M:NH} {s:Rs} (hde:s.e≠0∨d<=29) (hd:RD M r vl s rest) (ha:s.a<=L.length) (hC:Chg [r] m M) (hE:c9 L S (L.length+1) [] s=(X,Z))
 {t:Tm} (g1:NT.get D4.e t=some (.ptr r 0)) (g2:NT.get D4.e.a t=some (ii d)) (g3:NT.get D4.e.a.a t=some .nils) {Q:Out->Dyn->Prop}
 (hQ:∀t' M' v C,NT.get D4.e.a.a t'=some v->RD M' r vl Z rest->SS M' (eB m) v X C->Chg [r] m M'->Q (.exit 0) ⟨am [] t', [],none,M'⟩):
 W Tryz.prog S0 none sU.loop ⟨t, [],none,M⟩ Q:=by
 refine W.loop (fun k D=>∃t M l s v C,D=⟨t, [],none,M⟩/\NT.get D4.e t=some (.ptr r 0)/\NT.get D4.e.a t=some (ii d)/\NT.get D4.e.a.a t=some v/\(s.e≠0∨d<=29)/\RD M r vl s rest/\dq m M v 21 C/\C.length=l.length/\(∀(j:Nat) (x:Stm) (c:List NV),l[j]? =some x->C[j]? =some c->RS M (fun i=>¬aw m i/\i∉ids v) x c)/\s.a<=L.length/\Chg [r] m M/\c9 L S k l s=(X,Z)/\(L.length<k+s.a∨s.e≠0)/\l.length+k<=L.length+1) ?_ (L.length+1) _ ⟨t,M, [],s,.nils, [],rfl,g1,g2,g3,hde,hd,dq.nil,rfl,by simp,ha,hC,hE,Or.inl (by omega),by simp⟩
 clear hde hd ha hC hE g1 g2 g3
 rintro k D ⟨t,M,l,s,v,C,rfl,g1,g2,g3,hde,hd,hv,hcl,hR,ha,hC,hE,hf,hlk⟩
 apply aM
 unfold sU
 change wp _ _ _ _ ⟨am [] t, [],none,M⟩ _
 have hll:=hc.len
 have hdg:=hd.g
 by_cases he:s.e=0
 ·obtain ⟨f,rfl⟩:∃f',k=f'+1:=⟨k - 1,by rcases hf with h|h<;>omega⟩
  rw[c9,Q4 (by omega)] at hE
  simp (disch:=first|assumption|omega) only[go_sem,seval,g1,g2,g3,hdg]
  refine WF.use1H (dS hc (hc.chg h0 hC) hd [125] (by simp) (by omega)) ?_
  rintro M2 ⟨hd2,hC2⟩
  have hrv:∀i∈ids v,i∉ [r]:=fun i hi h=>by
   have h:=one h;subst h;exact hv.new _ hi horm
  have hv2:=hv.chg hC2 hrv
  have hC02:Chg [r] m M2:=hC.trans hC2 fun _ h _=>h
  have hst2:aE (fun i=>¬aw m i/\i∉ids v) M M2:=aE.of hC2 fun i hi hs=>by
   have hs:=one hs;subst hs;exact hi.1 horm
  cases hb:au L [125] s with
  |true=>
   rw[hb,Q5 rfl] at hE hd2
   injection hE with e1 e2
   subst e1 e2
   simp only[go_sem,seval,g1,g2,g3,ab]
   exact hQ _ M2 v C (by simp only[go_sem,seval,g3]) hd2 ⟨hv2.sl,fun i hi=>hv2.new i hi,hcl,fun j x c h1 h2=>((hR j x c h1 h2).stays hst2).weak fun i hi=>hi.1⟩ hC02
  |false=>
   rw[hb,Q4 Bool.false_ne_true] at hE hd2
   simp only[go_sem,seval,g1,g2,g3,ab]
   refine WF.useH (hS (by omega) (hc.chg h0 hC02) hd2 ha) ?_
   rintro v3 M3 ⟨⟨w,rfl,hx3⟩,hd3,hC3⟩
   have hlim:=(hst s).lim ha
   have hpr':=hpr s he
   generalize S s=q at hE hx3 hd3 hlim hpr'
   obtain ⟨x,s3⟩:=q
   dsimp only at hE hx3 hd3 hlim hpr'
   have hxl:(x.l w).length=21:=rfl
   have hxl':(x.l w).take 21=x.l w:=rfl
   simp (disch:=first|assumption|omega|(simp only[ay]<;>omega)) only[go_sem,seval,g1,g2,g3,hxl]
   have hC4:Chg [] M3 (hp [(.n 0,.cells true (x.l w))] 1 M3):=aH rfl
   have hv3:=hv2.chg hC3 hrv
   have hC03:Chg [r] m M3:=hC02.trans hC3 fun _ h _=>h
   refine F0 (cs:=x.l w) (hv3.chg hC4 fun _ _=>by simp) cI (ai (by omega)) hxl (fun i hi=>hC4.old (hC03.old hi)) (by omega) (by omega) ?_
   intro v5 M5 hv5 hC5 hF5
   generalize hM4:hp [(.n 0,.cells true (x.l w))] 1 M3=M4 at hC4 hC5 hF5
   have hC34:Chg [r] M2 M4:=hC3.trans hC4 (by simp)
   have hd5:RD M5 r vl s3 rest:=(hd3.chg hC4 (by simp)).chg hC5 fun h=>hv.new _ h horm
   have hC05:Chg [r] m M5:=(hC02.trans hC34 fun _ h _=>h).trans hC5 fun i hi ho=>Q3 ho (hv.new i hi)
   have hlen5:(l++ [x]).length=l.length+1:=by simp
   simp only[go_sem,seval,g1,g2,g3]
   refine ⟨f,by omega,_,M5,l++ [x],s3,v5,C++ [x.l w],by rfl,by simp only[go_sem,seval,g1],by simp only[go_sem,seval,g2],by simp only[go_sem,seval], ?_,hd5,hv5,by simp[hcl], ?_,hlim,hC05,hE, ?_,by omega⟩
   ·rcases hde with h|h
    ·exact Q3 he h
    ·exact Or.inr h
   ·have hold:∀(j:Nat) (y:Stm) (c:List NV),l[j]? =some y->C[j]? =some c->RS M5 (fun i=>¬aw m i/\i∉ids v5) y c:=fun j y c h1 h2=>by
     have a1:=((hR j y c h1 h2).stays hst2).stays (m':=M4) (aE.of hC34 fun i hi hs=>by
      have hs:=one hs;subst hs;exact hi.1 horm)
     have a2:=a1.old.stays (m':=M5) (aE.of hC5 fun i hi hs=>hi.1.2 hs)
     exact a2.weak fun i hi=>⟨hi.1.1,fun h=>(hF5 i h).elim hi.1.2 fun q=>q hi.2⟩
    have hnew:RS M5 (fun i=>¬aw m i/\i∉ids v5) x (x.l w):=by
     have a1:RS M4 (eB M2) x (x.l w):=hx3.chg hC4 (by simp)
     have a2:=a1.old.stays (m':=M5) (aE.of hC5 fun i hi hs=>hi.1 (hv2.sl.old i hs))
     exact a2.weak fun i hi=>⟨fun h=>hi.1 (hC02.old h),fun h=>(hF5 i h).elim (fun q=>hi.1 (hv2.sl.old i q)) fun q=>q hi.2⟩
    intro j y c h1 h2
    rcases Nat.lt_or_ge j l.length with h|h
    ·rw[List.getElem?_append_left h] at h1
     rw[List.getElem?_append_left (by omega)] at h2
     exact hold j y c h1 h2
    ·rw[List.getElem?_append_right h] at h1
     rw[List.getElem?_append_right (by omega),hcl] at h2
     cases hj:j - l.length with
     |zero=>rw[hj] at h1 h2;cases h1;cases h2;exact hnew
     |succ n=>rw[hj] at h1;simp at h1
   ·rcases hpr' with h|h
    ·left;rcases hf with q|q<;>omega
    ·exact Or.inr h
 ·have hde':decide ((s.e:Int)=0)=false:=Q6 (by omega)
  have hE':(l,s)=(X,Z):=by
   cases k with
   |zero=>exact hE
   |succ k=>rw[c9,Q5 he] at hE;exact hE
  injection hE' with e1 e2
  subst e1 e2
  simp only[go_sem,seval,g1,g2,g3,hdg,hde']
  exact hQ _ M v C (by simp only[go_sem,seval,g3]) hd ⟨hv.sl,fun i hi=>hv.new i hi,hcl,fun j x c h1 h2=>(hR j x c h1 h2).weak fun i hi=>hi.1⟩ hC
theorem Ay (hc:RC m0 L vl r) {S:Rs->Stm×Rs} {d:Nat} (hst:∀s,St L s (S s).2) (hpr:∀s,s.e=0->s.a<(S s).2.a∨(S s).2.e≠0) (hS:d<=29->Qk m0 L vl r rest S d):Qw m0 L vl r rest (dD L S d) d:=by
 intro m s h0 hd ha
 refine WF.ex fun K hK=> ?_
 refine WF.of_wpG (fun _=>rfl) Be (L:= [(.a .e,ii d),(.e,.ptr r 0)]) rfl ?_
 unfold KH
 have hll:=hc.len
 have hdg:=hd.g
 refine Pq (fun D=>D=⟨am [(D4.e.a.a,.nils),(D4.e.f,.nils),(D4.e.a,ii d),(D4.e,.ptr r 0)] .leaf, [],none,m⟩) (fun R hR=> ?_) ?_
 ·simp only[go_sem,seval,ab]
  exact hR _ rfl
 rintro D rfl
 refine J4 (fun D=>∃t M,D=⟨t, [],none,M⟩/\NT.get D4.e t=some (.ptr r 0)/\NT.get D4.e.a t=some (ii d)/\NT.get D4.e.a.a t=some .nils/\RD M r vl (cp L d s) rest/\Chg [r] m M) (fun R hR=> ?_) ?_
 ·have no:∀(t:Tm) (M:NH),NT.get D4.e t=some (.ptr r 0)->NT.get D4.e.a t=some (ii d)->NT.get D4.e.a.a t=some .nils->cp L d s=s->Chg [] m M->R ⟨t, [],none,M⟩:=fun t M q1 q2 q3 q4 q5=>hR _ ⟨t,M,rfl,q1,q2,q3,by rw[q4];exact hd.chg q5 (by simp),q5.weak (by simp)⟩
  by_cases he:s.e=0
  ·by_cases h29:29<d
   ·obtain ⟨M1,hr1,hC1⟩:=jF hc h0 hd
    have hd1:=hd.chg hC1 (by simp)
    obtain ⟨M2,hr2,hC2⟩:=jF hc (h0.trans hC1 (by simp)) hd1
    have hd2:=hd1.chg hC2 (by simp)
    have hl0:(av L s.a).l[0]? =some (ii (av L s.a).k):=rfl
    have hl1:(av L s.a).l[1]? =some (.str (av L s.a).t):=rfl
    by_cases hk:(av L s.a).k=3
    ·by_cases ht:(av L s.a).t= [123]
     ·simp (disch:=first|assumption|omega) only[go_sem,seval,hdg,hr1.wf',hr2.wf',hl0,hl1]
      refine WF.use1 (iq hd2 11) ?_
      rintro M3 ⟨hd3,hC3⟩
      simp only[go_sem,seval]
      refine hR _ ⟨_,M3,rfl,by exact gq rfl,by exact gq rfl,by exact gq rfl, ?_,((hC1.trans hC2 (by simp)).weak (by simp)).trans hC3 fun _ h _=>h⟩
      rw[cp,Q5 ⟨he,h29,hk,ht⟩];exact hd3
     ·simp (disch:=first|assumption|omega) only[go_sem,seval,hdg,hr1.wf',hr2.wf',hl0,hl1]
      exact no _ _ (by exact gq rfl) (by exact gq rfl) (by exact gq rfl) (by rw[cp,Q4 (fun h=>ht h.2.2.2)]) (hC1.trans hC2 (by simp))
    ·simp (disch:=first|assumption|omega) only[go_sem,seval,hdg,hr1.wf',hr2.wf',hl0,hl1]
     exact no _ _ (by exact gq rfl) (by exact gq rfl) (by exact gq rfl) (by rw[cp,Q4 (fun h=>hk h.2.2.1)]) hC1
   ·simp (disch:=first|assumption|omega) only[go_sem,seval,hdg]
    exact no _ _ (by exact gq rfl) (by exact gq rfl) (by exact gq rfl) (by rw[cp,Q4 (fun h=>h29 h.2.1)]) (Chg.refl m)
  ·have hde':decide ((s.e:Int)=0)=false:=Q6 (by omega)
   simp only[go_sem,seval,hdg,hde']
   exact no _ _ (by exact gq rfl) (by exact gq rfl) (by exact gq rfl) (by rw[cp,Q4 (fun h=>he h.1)]) (Chg.refl m)
 rintro D ⟨t,M,rfl,g1,g2,g3,hdM,hCM⟩
 change wp _ _ _ _ ⟨am [] t, [],none,M⟩ _
 have hst1:=(lE (L:=L) d s).lim ha
 have hst2:=(aZ L [123] (cp L d s)).lim hst1
 have hX:c9 L S (L.length+1) [] (aT L [123] (cp L d s))=((dD L S d s).1,(dD L S d s).2):=rfl
 have hdeep:(aT L [123] (cp L d s)).e≠0∨d<=29:=by
  rcases Nat.lt_or_ge 29 d with h|h
  ·left
   have hff:∀e (s:Rs),e≠0->(aV e s).e≠0:=fun e s h=>by unfold aV;split;exact h;assumption
   by_cases he:s.e=0
   ·by_cases hk:(av L s.a).k=3/\(av L s.a).t= [123]
    ·have e1:cp L d s=aV 11 s:=by rw[cp,Q5 ⟨he,h,hk.1,hk.2⟩]
     rw[e1]
     intro q
     exact hff 11 s (by omega) ((aZ L [123] _).zero q)
    ·have e1:cp L d s=s:=by rw[cp,Q4 (fun h=>hk ⟨h.2.2.1,h.2.2.2⟩)]
     rw[e1]
     have e2:au L [123] s=false:=Q6 fun q=>hk ⟨q.2.1,q.2.2⟩
     rw[aT,e2,Q4 Bool.false_ne_true]
     exact hff 2 s (by omega)
   ·intro q
    exact he ((lE (L:=L) d s).zero ((aZ L [123] _).zero q))
  ·exact Or.inr h
 generalize (dD L S d s).1=X at hX hK
 generalize (dD L S d s).2=Z at hX hK
 simp only[go_sem,seval,g1,g2,g3]
 refine WF.use1 (gI hc (hc.chg h0 hCM) hdM [123] (by simp) (by omega)) ?_
 rintro M2 ⟨hd2,hC2⟩
 have hC02:Chg [r] m M2:=hCM.trans hC2 fun _ h _=>h
 simp only[go_sem,seval,g1,g2,g3]
 refine BM hc hst hpr hS (fun _ _=>trivial) h0 hd.o hdeep hd2 hst2 hC02 hX (by exact gq g1) (by exact gq g2) (by exact gq g3) ?_
 intro t' M' v C q1 q2 q3 q4
 simp only[go_sem,seval,q1]
 exact hK _ _ ⟨⟨C,q3⟩,q2,q4⟩
end
end FR
open Go Nm Go.Proofs
namespace FR
abbrev TB (m:NH) (b1 b2:D4):D4->Prop:=fun i=>¬aw m i/\i≠b1/\i≠b2
structure SC (m:NH) (r b1 b2:D4) (vl:NV) (rest z:List NV) (M:NH) (s:Rs) (c:List NV):Prop where
 hd:RD M r vl s rest
 g2:M.get b2=some (.cells true c)
 o2:aw M b2
 g1:M.get b1=some (.cells true z)
 o1:aw M b1
 hC:Chg [r] m M
section
variable {m0:NH} {L:List Tok} {vl:NV} {r b1 b2:D4} {rest z:List NV} {m M M':NH} {s s':Rs} {c c':List NV} {l:List (AK×NO)} {k:Nat}
theorem SC.call (h:SC m r b1 b2 vl rest z M s c) (h1:b1≠r) (h2:b2≠r) (hC:Chg [r] M M') (hd:RD M' r vl s' rest):SC m r b1 b2 vl rest z M' s' c:=
 ⟨hd,(hC.get h.o2 (by simpa using h2)).trans h.g2,hC.old h.o2,(hC.get h.o1 (by simpa using h1)).trans h.g1,hC.old h.o1,h.hC.trans hC fun _ h _=>h⟩
theorem SC.grow (h:SC m r b1 b2 vl rest z M s c) (hC:Chg [] M M'):SC m r b1 b2 vl rest z M' s c:=
 ⟨h.hd.chg hC (by simp),(hC.get h.o2 (by simp)).trans h.g2,hC.old h.o2,(hC.get h.o1 (by simp)).trans h.g1,hC.old h.o1,h.hC.trans hC (by simp)⟩
theorem SC.put (h:SC m r b1 b2 vl rest z M s c) (h2:b2≠r) (h12:b1≠b2) (hn:¬aw m b2) (hl:∀i∈aF l,i=b2):SC m r b1 b2 vl rest z (hp ((.o b2,.cells true c')::l) k M) s c':=by
 have hC:Chg [b2] M (hp ((.o b2,.cells true c')::l) k M):=(aH rfl).weak fun i hi _=>by
  simp only[aF,Q9] at hi ⊢
  rcases hi with rfl|hi
  ·exact Or.inl rfl
  ·exact Or.inl (hl i hi)
 exact ⟨h.hd.chg hC (by simpa using h2.symm),(bF h.o2).trans a7,hC.old h.o2,(hC.get h.o1 (by simpa using h12)).trans h.g1,hC.old h.o1,h.hC.trans hC fun i hi ho=>by
  have hi:=one hi;subst hi;exact Q3 ho hn⟩
theorem SC.place (h:SC m r b1 b2 vl rest z M s c) (h1:b1≠r) (h12:b1≠b2) (hn:¬aw m b2) (hC:Chg [r,b2] M M') (hd:RD M' r vl s' rest) (hg:M'.get b2=some (.cells true c')):SC m r b1 b2 vl rest z M' s' c':=
 ⟨hd,hg,hC.old h.o2,(hC.get h.o1 (by simp;exact ⟨h1,h12⟩)).trans h.g1,hC.old h.o1,h.hC.trans hC fun i hi ho=>by
  simp only[Q9,Q8,or_false] at hi
  rcases hi with rfl|rfl
  ·simp
  ·exact Q3 ho hn⟩
theorem eI (hr:aw m r) (hC:Chg [r] M M'):aE (TB m b1 b2) M M':=aE.of hC fun i hi hs=>by
 have hs:=one hs;subst hs;exact hi.1 hr
theorem dl (hl:∀i∈aF l,i=b2):aE (TB m b1 b2) M (hp l k M):=aE.of (aH rfl) fun i hi hs=>hi.2.2 (hl i hs)
theorem SC.tb (h:SC m r b1 b2 vl rest z M s c):∀i,eB M i->TB m b1 b2 i:=fun i hi=>⟨fun q=>hi (h.hC.old q),fun q=>hi (q▸h.o1),fun q=>hi (q▸h.o2)⟩
theorem SS.weak {m:NH} {T T':D4->Prop} (hT':∀i,T i->T' i) {v:NV} {l:List Stm} {C:List (List NV)} (h:SS m T v l C):SS m T' v l C:=⟨h.sl,fun i hi=>hT' i (h.hT i hi),h.len,fun i x c a b=>(h.R i x c a b).weak hT'⟩
theorem kl (m:NH) (T:D4->Prop):SS m T .nils [] []:=⟨Sl.nil,by simp[ids],rfl,by simp⟩
theorem RS.of {m:NH} {T:D4->Prop} {k a:Int} {nm ce:List Nat} {i x y:Ex} {b e:List Stm} {ui ux uy vb ve:NV} (hi:RE m T i (i.l ui)) (hx:RE m T x (x.l ux)) (hy:RE m T y (y.l uy)) {B E:List (List NV)} (hb:SS m T vb b B) (he:SS m T ve e E):
 RS m T (.mk k a nm ce i x y b e) ((Stm.mk k a nm ce i x y b e).l ⟨ui,ux,uy,vb,ve⟩):= .mk hi hx hy hb.sl hb.hT hb.len hb.R he.sl he.hT he.len he.R
theorem gL (m:NH) (T:D4->Prop):RE m T zE (zE.l .nils):=Ax m T 0 0 0 []
abbrev cQ (k p:Int):List NV:= [ii k,ii p,.str [],.str [],ii 0,u64 0,u8 0,.str [],.nils,ii 0,u64 0,u8 0,.str [],.nils,ii 0,u64 0,u8 0,.str [],.nils,.nils,.nils]
end
section
variable {m0:NH} {L:List Tok} {vl:NV} {r:D4} {rest:List NV}
set_option maxHeartbeats 4000000 in
theorem LZ (hc:RC m0 L vl r) {B:Rs->List Stm×Rs} {d:Nat} (hst:∀s,St L s (B s).2) (hB:Qw m0 L vl r rest B (d+1)) (hd29:d<=29):Qk m0 L vl r rest (bD L B) d:=by
 intro m s h0 hd ha
 refine WF.ex fun K hK=> ?_
 refine WF.of_wpG (fun _=>rfl) AL (L:= [(.a .e,ii d),(.e,.ptr r 0)]) rfl ?_
 unfold JE
 have hll:=hc.len
 refine PV (fun D=>∃t M b1 b2,D=⟨t, [],none,M⟩/\SC m r b1 b2 vl rest (cQ 0 0) M s (cQ 0 (av L s.a).p)/\¬aw m b1/\¬aw m b2/\b1≠b2/\NT.get D4.e t=some (.ptr r 0)/\NT.get D4.e.a t=some (ii d)/\NT.get D4.e.f t=some (.ptr b1 0)/\NT.get D4.e.a.a t=some (.ptr b2 0)/\NT.get D4.e.a.b t=some (.bool true)) (fun R hR=> ?_) ?_
 ·simp only[go_sem,seval]
  generalize hM1:hp _ 1 m=M1
  have hC1:Chg [] m M1:=bf hM1 rfl
  have g1:M1.get (na m 0)=some (.cells true (cQ 0 0)):=bu hM1
  have o1:aw M1 (na m 0):=bB hM1 (by omega)
  refine WF.use1H (jF hc (h0.trans hC1 (by simp)) (hd.chg hC1 (by simp))) ?_
  intro M2 hC2
  have hl3:(av L s.a).l[3]? =some (ii (av L s.a).p):=rfl
  simp (disch:=first|assumption|omega|(simp only[ay]<;>omega)) only[go_sem,seval,hl3]
  generalize hM3:hp _ 1 M2=M3
  have hC3:Chg [] M2 M3:=bf hM3 rfl
  have hC02:=hC1.trans hC2 (by simp)
  have hC03:=hC02.trans hC3 (by simp)
  have o12:=hC2.old o1
  refine hR _ ⟨_,M3,na m 0,na M2 0,rfl,⟨hd.chg hC03 (by simp), ?_, ?_,(hC3.get o12 (by simp)).trans ((hC2.get o1 (by simp)).trans g1),hC3.old o12,hC03.weak (by simp)⟩,aD,fun h=>aD (hC02.old h),fun e=>o12.ne 0 e,by simp only[go_sem,seval],by simp only[go_sem,seval],by simp only[go_sem,seval],by simp only[go_sem,seval],by simp only[go_sem,seval]⟩
  ·rw[←hM3];exact cI
  ·rw[←hM3];exact ai (by omega)
 rintro D ⟨t,M,b1,b2,rfl,hs,hn1,hn2,h12,g1,g2,g3,g4,g5⟩
 change wp _ _ _ _ ⟨am [] t, [],none,M⟩ _
 have hr1:b1≠r:=fun e=>hn1 (e▸hd.o)
 have hr2:b2≠r:=fun e=>hn2 (e▸hd.o)
 have hr2':r≠b2:=fun e=>hr2 e.symm
 have hnb2:¬aw m0 b2:=fun h=>hn2 (h0.old h)
 have hro:=hd.o
 refine J4 (fun D=>∃t M x w s' q,D=⟨t, [],none,M⟩/\SC m r b1 b2 vl rest (cQ 0 0) M s' (x.l w)/\RS M (TB m b1 b2) x (x.l w)/\(x,if q then aT L [59] s' else s')=bD L B s/\s'.a<=L.length/\NT.get D4.e t=some (.ptr r 0)/\NT.get D4.e.f t=some (.ptr b1 0)/\NT.get D4.e.a.a t=some (.ptr b2 0)/\NT.get D4.e.a.b t=some (.bool q)) (fun R hR=> ?_) ?_
 ·have hbase:∀{M:NH} {s:Rs} {c:List NV},SC m r b1 b2 vl rest (cQ 0 0) M s c->Chg [] m0 M:=fun h=>hc.chg h0 h.hC
  have hput:∀{M:NH} {s:Rs} {c c':List NV} {l:List (AK×NO)} {k:Nat},SC m r b1 b2 vl rest (cQ 0 0) M s c->(∀i∈aF l,i=b2)->SC m r b1 b2 vl rest (cQ 0 0) (hp ((.o b2,.cells true c')::l) k M) s c':=fun h hl=>h.put hr2 h12 hn2 hl
  generalize hpp:((av L s.a).p:Int)=p at hs
  have fin:∀{t:Tm} {M:NH} {x:Stm} {w:SV} {s':Rs} {q:Bool},SC m r b1 b2 vl rest (cQ 0 0) M s' (x.l w)->RS M (TB m b1 b2) x (x.l w)->(x,if q then aT L [59] s' else s')=bD L B s->s'.a<=L.length->NT.get D4.e t=some (.ptr r 0)->NT.get D4.e.f t=some (.ptr b1 0)->NT.get D4.e.a.a t=some (.ptr b2 0)->NT.get D4.e.a.b t=some (.bool q)->R ⟨t, [],none,M⟩:=fun h1 h2 h3 h4 h5 h6 h7 h8=>hR _ ⟨_,_,_,_,_,_,rfl,h1,h2,h3,h4,h5,h6,h7,h8⟩
  rw[sT]
  simp only[go_sem,seval,g1,g2,g3,g4,g5,ab]
  refine WF.use1H (dS hc (hbase hs) hs.hd [115,101,116] (by simp) (by omega)) ?_
  rintro M0 ⟨hd0,hC0⟩
  cases hb0:au L [115,101,116] s with
  |true=>
   obtain ⟨he,hlt⟩:=bE hb0
   have hlim:(aa s).a<=L.length:=hlt
   rw[hb0,Q5 rfl] at hd0
   replace hs:=hs.call hr1 hr2 hC0 hd0
   have hg2:=hs.g2
   have ho2:=hs.o2
   simp only[go_sem,seval,g1,g2,g3,g4,g5,hg2,ab]
   refine WF.use1H (mw hc (hbase hs) hs.hd (by omega)) ?_
   rintro N0_1 ⟨hd,hC⟩
   replace hs:=hs.call hr1 hr2 hC hd
   replace hlim:=(cw L _).lim hlim
   generalize hqs0_2:(aJ L (aa s)).2=s0_2 at hs hlim
   generalize hqn0_3:(aJ L (aa s)).1=n0_3
   have hg2:=hs.g2
   have ho2:=hs.o2
   simp (disch:=first|assumption|omega|(simp only[ay]<;>omega)) only[go_sem,seval,g1,g2,g3,g4,g5,hg2]
   generalize hMg:hp _ 0 _=M0_4
   have hs':SC m r b1 b2 vl rest (cQ 0 0) M0_4 s0_2 [ii 0,ii p,.str n0_3,.str [],ii 0,u64 0,u8 0,.str [],.nils,ii 0,u64 0,u8 0,.str [],.nils,ii 0,u64 0,u8 0,.str [],.nils,.nils,.nils]:=by rw[←hMg];exact hput hs (by simp[aF])
   clear hMg
   replace hs:=hs'
   refine WF.useH (IJ hc (hbase hs) hs.hd hlim) ?_
   rintro v N0_5 ⟨⟨u0_6,rfl,hx⟩,hd,hC⟩
   have tX:=hx.weak hs.tb
   replace hs:=hs.call hr1 hr2 hC hd
   replace hlim:(cD L s0_2).2.a<=L.length:=(bi L 30 _).lim hlim
   generalize hqs0_8:(cD L s0_2).2=s0_8 at hs hlim
   generalize hqx0_7:(cD L s0_2).1=x0_7 at tX
   clear hx hd
   have hxl:(x0_7.l u0_6).length=5:=rfl
   have hg2:=hs.g2
   have ho2:=hs.o2
   simp (disch:=first|assumption|omega|(simp only[ay]<;>omega)) only[go_sem,seval,g1,g2,g3,g4,g5,hg2]
   generalize hMg:hp _ 0 _=M0_9
   have hs':SC m r b1 b2 vl rest (cQ 0 0) M0_9 s0_8 [ii 0,ii p,.str n0_3,.str [],ii 0,u64 0,u8 0,.str [],.nils,ii x0_7.k,u64 x0_7.n,u8 x0_7.o,.str x0_7.s,u0_6,ii 0,u64 0,u8 0,.str [],.nils,.nils,.nils]:=by rw[←hMg];exact hput hs (by simp[aF])
   replace tX:=tX.stays (m':=M0_9) (by rw[←hMg];exact dl (by simp[aF]))
   clear hMg
   replace hs:=hs'
   refine fin (x:= .mk 0 p n0_3 [] zE x0_7 zE [] []) (w:=⟨.nils,u0_6,.nils,.nils,.nils⟩) (s':=s0_8) (q:=true) hs (RS.of (gL _ _) tX (gL _ _) (kl _ _) (kl _ _)) ?_ hlim (by simp only[go_sem,seval,g1]) (by simp only[go_sem,seval,g3]) (by simp only[go_sem,seval,g4]) (by simp only[go_sem,seval,g5])
   rw[bD,Q5 hb0,hpp]
   subst hqx0_7 hqs0_8 hqn0_3 hqs0_2
   rfl
  |false=>
  have ne0:¬(au L [115,101,116] s=true):=by rw[hb0];exact Bool.false_ne_true
  rw[hb0,Q4 Bool.false_ne_true] at hd0
  replace hs:=hs.call hr1 hr2 hC0 hd0
  simp only[go_sem,seval,g1,g2,g3,g4,g5,ab]
  refine WF.use1H (dS hc (hbase hs) hs.hd [108,111,97,100] (by simp) (by omega)) ?_
  rintro M1 ⟨hd1,hC1⟩
  cases hb1:au L [108,111,97,100] s with
  |true=>
   obtain ⟨he,hlt⟩:=bE hb1
   have hlim:(aa s).a<=L.length:=hlt
   rw[hb1,Q5 rfl] at hd1
   replace hs:=hs.call hr1 hr2 hC1 hd1
   have hg2:=hs.g2
   have ho2:=hs.o2
   simp (disch:=first|assumption|omega|(simp only[ay]<;>omega)) only[go_sem,seval,g1,g2,g3,g4,g5,hg2]
   generalize hMg:hp _ 0 _=M1_1
   have hs':SC m r b1 b2 vl rest (cQ 0 0) M1_1 (aa s) [ii 1,ii p,.str [],.str [],ii 0,u64 0,u8 0,.str [],.nils,ii 0,u64 0,u8 0,.str [],.nils,ii 0,u64 0,u8 0,.str [],.nils,.nils,.nils]:=by rw[←hMg];exact hput hs (by simp[aF])
   clear hMg
   replace hs:=hs'
   refine WF.use1H (mw hc (hbase hs) hs.hd (by omega)) ?_
   rintro N1_2 ⟨hd,hC⟩
   replace hs:=hs.call hr1 hr2 hC hd
   replace hlim:=(cw L _).lim hlim
   generalize hqs1_3:(aJ L (aa s)).2=s1_3 at hs hlim
   generalize hqn1_4:(aJ L (aa s)).1=n1_4
   have hg2:=hs.g2
   have ho2:=hs.o2
   simp (disch:=first|assumption|omega|(simp only[ay]<;>omega)) only[go_sem,seval,g1,g2,g3,g4,g5,hg2]
   generalize hMg:hp _ 0 _=M1_5
   have hs':SC m r b1 b2 vl rest (cQ 0 0) M1_5 s1_3 [ii 1,ii p,.str n1_4,.str [],ii 0,u64 0,u8 0,.str [],.nils,ii 0,u64 0,u8 0,.str [],.nils,ii 0,u64 0,u8 0,.str [],.nils,.nils,.nils]:=by rw[←hMg];exact hput hs (by simp[aF])
   clear hMg
   replace hs:=hs'
   refine WF.use1 (tf hc (hbase hs) hs.hd hlim hr2 hs.o2 hnb2 (by rfl) hs.g2) ?_
   rintro N1_6 ⟨u1_7,hg,hx,hd,hC⟩
   have tI:=hx.weak hs.tb
   replace hs:=hs.place hr1 h12 hn2 hC hd hg
   replace hlim:=(cY (L:=L) s1_3).lim hlim
   generalize hqs1_9:(aL L s1_3).2.2=s1_9 at hs hlim
   generalize hqx1_8:(aL L s1_3).2.1=x1_8 at hs tI
   generalize hqn1_10:(aL L s1_3).1=n1_10 at hs
   clear hx hd hg
   have hg2:=hs.g2
   have ho2:=hs.o2
   simp only[go_sem,seval,g1,g2,g3,g4,g5,hg2,ab]
   refine fin (x:= .mk 1 p n1_4 n1_10 x1_8 zE zE [] []) (w:=⟨u1_7,.nils,.nils,.nils,.nils⟩) (s':=s1_9) (q:=true) hs (RS.of tI (gL _ _) (gL _ _) (kl _ _) (kl _ _)) ?_ hlim (by simp only[go_sem,seval,g1]) (by simp only[go_sem,seval,g3]) (by simp only[go_sem,seval,g4]) (by simp only[go_sem,seval,g5])
   rw[bD,Q4 ne0,Q5 hb1,hpp]
   subst hqn1_10 hqx1_8 hqs1_9 hqn1_4 hqs1_3
   rfl
  |false=>
  have ne1:¬(au L [108,111,97,100] s=true):=by rw[hb1];exact Bool.false_ne_true
  rw[hb1,Q4 Bool.false_ne_true] at hd1
  replace hs:=hs.call hr1 hr2 hC1 hd1
  simp only[go_sem,seval,g1,g2,g3,g4,g5,ab]
  refine WF.use1H (dS hc (hbase hs) hs.hd [115,116,111,114,101] (by simp) (by omega)) ?_
  rintro M2 ⟨hd2,hC2⟩
  cases hb2:au L [115,116,111,114,101] s with
  |true=>
   obtain ⟨he,hlt⟩:=bE hb2
   have hlim:(aa s).a<=L.length:=hlt
   rw[hb2,Q5 rfl] at hd2
   replace hs:=hs.call hr1 hr2 hC2 hd2
   have hg2:=hs.g2
   have ho2:=hs.o2
   simp (disch:=first|assumption|omega|(simp only[ay]<;>omega)) only[go_sem,seval,g1,g2,g3,g4,g5,hg2]
   generalize hMg:hp _ 0 _=M2_1
   have hs':SC m r b1 b2 vl rest (cQ 0 0) M2_1 (aa s) [ii 2,ii p,.str [],.str [],ii 0,u64 0,u8 0,.str [],.nils,ii 0,u64 0,u8 0,.str [],.nils,ii 0,u64 0,u8 0,.str [],.nils,.nils,.nils]:=by rw[←hMg];exact hput hs (by simp[aF])
   clear hMg
   replace hs:=hs'
   refine WF.use1 (tf hc (hbase hs) hs.hd hlim hr2 hs.o2 hnb2 (by rfl) hs.g2) ?_
   rintro N2_2 ⟨u2_3,hg,hx,hd,hC⟩
   have tI:=hx.weak hs.tb
   replace hs:=hs.place hr1 h12 hn2 hC hd hg
   replace hlim:=(cY (L:=L) (aa s)).lim hlim
   generalize hqs2_5:(aL L (aa s)).2.2=s2_5 at hs hlim
   generalize hqx2_4:(aL L (aa s)).2.1=x2_4 at hs tI
   generalize hqn2_6:(aL L (aa s)).1=n2_6 at hs
   clear hx hd hg
   have hg2:=hs.g2
   have ho2:=hs.o2
   simp only[go_sem,seval,g1,g2,g3,g4,g5,hg2,ab]
   refine WF.useH (IJ hc (hbase hs) hs.hd hlim) ?_
   rintro v N2_7 ⟨⟨u2_8,rfl,hx⟩,hd,hC⟩
   have tX:=hx.weak hs.tb
   replace hs:=hs.call hr1 hr2 hC hd
   replace tI:=tI.stays (eI hro hC)
   replace hlim:(cD L s2_5).2.a<=L.length:=(bi L 30 _).lim hlim
   generalize hqs2_10:(cD L s2_5).2=s2_10 at hs hlim
   generalize hqx2_9:(cD L s2_5).1=x2_9 at tX
   clear hx hd
   have hxl:(x2_9.l u2_8).length=5:=rfl
   have hg2:=hs.g2
   have ho2:=hs.o2
   simp (disch:=first|assumption|omega|(simp only[ay]<;>omega)) only[go_sem,seval,g1,g2,g3,g4,g5,hg2]
   generalize hMg:hp _ 0 _=M2_11
   have hs':SC m r b1 b2 vl rest (cQ 0 0) M2_11 s2_10 [ii 2,ii p,.str [],.str n2_6,ii x2_4.k,u64 x2_4.n,u8 x2_4.o,.str x2_4.s,u2_3,ii x2_9.k,u64 x2_9.n,u8 x2_9.o,.str x2_9.s,u2_8,ii 0,u64 0,u8 0,.str [],.nils,.nils,.nils]:=by rw[←hMg];exact hput hs (by simp[aF])
   replace tI:=tI.stays (m':=M2_11) (by rw[←hMg];exact dl (by simp[aF]))
   replace tX:=tX.stays (m':=M2_11) (by rw[←hMg];exact dl (by simp[aF]))
   clear hMg
   replace hs:=hs'
   refine fin (x:= .mk 2 p [] n2_6 x2_4 x2_9 zE [] []) (w:=⟨u2_3,u2_8,.nils,.nils,.nils⟩) (s':=s2_10) (q:=true) hs (RS.of tI tX (gL _ _) (kl _ _) (kl _ _)) ?_ hlim (by simp only[go_sem,seval,g1]) (by simp only[go_sem,seval,g3]) (by simp only[go_sem,seval,g4]) (by simp only[go_sem,seval,g5])
   rw[bD,Q4 ne0,Q4 ne1,Q5 hb2,hpp]
   subst hqx2_9 hqs2_10 hqn2_6 hqx2_4 hqs2_5
   rfl
  |false=>
  have ne2:¬(au L [115,116,111,114,101] s=true):=by rw[hb2];exact Bool.false_ne_true
  rw[hb2,Q4 Bool.false_ne_true] at hd2
  replace hs:=hs.call hr1 hr2 hC2 hd2
  simp only[go_sem,seval,g1,g2,g3,g4,g5,ab]
  refine WF.use1H (dS hc (hbase hs) hs.hd [99,97,115] (by simp) (by omega)) ?_
  rintro M3 ⟨hd3,hC3⟩
  cases hb3:au L [99,97,115] s with
  |true=>
   obtain ⟨he,hlt⟩:=bE hb3
   have hlim:(aa s).a<=L.length:=hlt
   rw[hb3,Q5 rfl] at hd3
   replace hs:=hs.call hr1 hr2 hC3 hd3
   have hg2:=hs.g2
   have ho2:=hs.o2
   simp (disch:=first|assumption|omega|(simp only[ay]<;>omega)) only[go_sem,seval,g1,g2,g3,g4,g5,hg2]
   generalize hMg:hp _ 0 _=M3_1
   have hs':SC m r b1 b2 vl rest (cQ 0 0) M3_1 (aa s) [ii 3,ii p,.str [],.str [],ii 0,u64 0,u8 0,.str [],.nils,ii 0,u64 0,u8 0,.str [],.nils,ii 0,u64 0,u8 0,.str [],.nils,.nils,.nils]:=by rw[←hMg];exact hput hs (by simp[aF])
   clear hMg
   replace hs:=hs'
   refine WF.use1H (mw hc (hbase hs) hs.hd (by omega)) ?_
   rintro N3_2 ⟨hd,hC⟩
   replace hs:=hs.call hr1 hr2 hC hd
   replace hlim:=(cw L _).lim hlim
   generalize hqs3_3:(aJ L (aa s)).2=s3_3 at hs hlim
   generalize hqn3_4:(aJ L (aa s)).1=n3_4
   have hg2:=hs.g2
   have ho2:=hs.o2
   simp (disch:=first|assumption|omega|(simp only[ay]<;>omega)) only[go_sem,seval,g1,g2,g3,g4,g5,hg2]
   generalize hMg:hp _ 0 _=M3_5
   have hs':SC m r b1 b2 vl rest (cQ 0 0) M3_5 s3_3 [ii 3,ii p,.str n3_4,.str [],ii 0,u64 0,u8 0,.str [],.nils,ii 0,u64 0,u8 0,.str [],.nils,ii 0,u64 0,u8 0,.str [],.nils,.nils,.nils]:=by rw[←hMg];exact hput hs (by simp[aF])
   clear hMg
   replace hs:=hs'
   refine WF.use1 (tf hc (hbase hs) hs.hd hlim hr2 hs.o2 hnb2 (by rfl) hs.g2) ?_
   rintro N3_6 ⟨u3_7,hg,hx,hd,hC⟩
   have tI:=hx.weak hs.tb
   replace hs:=hs.place hr1 h12 hn2 hC hd hg
   replace hlim:=(cY (L:=L) s3_3).lim hlim
   generalize hqs3_9:(aL L s3_3).2.2=s3_9 at hs hlim
   generalize hqx3_8:(aL L s3_3).2.1=x3_8 at hs tI
   generalize hqn3_10:(aL L s3_3).1=n3_10 at hs
   clear hx hd hg
   have hg2:=hs.g2
   have ho2:=hs.o2
   simp only[go_sem,seval,g1,g2,g3,g4,g5,hg2,ab]
   refine WF.useH (IJ hc (hbase hs) hs.hd hlim) ?_
   rintro v N3_11 ⟨⟨u3_12,rfl,hx⟩,hd,hC⟩
   have tX:=hx.weak hs.tb
   replace hs:=hs.call hr1 hr2 hC hd
   replace tI:=tI.stays (eI hro hC)
   replace hlim:(cD L s3_9).2.a<=L.length:=(bi L 30 _).lim hlim
   generalize hqs3_14:(cD L s3_9).2=s3_14 at hs hlim
   generalize hqx3_13:(cD L s3_9).1=x3_13 at tX
   clear hx hd
   have hxl:(x3_13.l u3_12).length=5:=rfl
   have hg2:=hs.g2
   have ho2:=hs.o2
   simp (disch:=first|assumption|omega|(simp only[ay]<;>omega)) only[go_sem,seval,g1,g2,g3,g4,g5,hg2]
   generalize hMg:hp _ 0 _=M3_15
   have hs':SC m r b1 b2 vl rest (cQ 0 0) M3_15 s3_14 [ii 3,ii p,.str n3_4,.str n3_10,ii x3_8.k,u64 x3_8.n,u8 x3_8.o,.str x3_8.s,u3_7,ii x3_13.k,u64 x3_13.n,u8 x3_13.o,.str x3_13.s,u3_12,ii 0,u64 0,u8 0,.str [],.nils,.nils,.nils]:=by rw[←hMg];exact hput hs (by simp[aF])
   replace tI:=tI.stays (m':=M3_15) (by rw[←hMg];exact dl (by simp[aF]))
   replace tX:=tX.stays (m':=M3_15) (by rw[←hMg];exact dl (by simp[aF]))
   clear hMg
   replace hs:=hs'
   refine WF.useH (IJ hc (hbase hs) hs.hd hlim) ?_
   rintro v N3_16 ⟨⟨u3_17,rfl,hx⟩,hd,hC⟩
   have tY:=hx.weak hs.tb
   replace hs:=hs.call hr1 hr2 hC hd
   replace tI:=tI.stays (eI hro hC)
   replace tX:=tX.stays (eI hro hC)
   replace hlim:(cD L s3_14).2.a<=L.length:=(bi L 30 _).lim hlim
   generalize hqs3_19:(cD L s3_14).2=s3_19 at hs hlim
   generalize hqx3_18:(cD L s3_14).1=x3_18 at tY
   clear hx hd
   have hxl:(x3_18.l u3_17).length=5:=rfl
   have hg2:=hs.g2
   have ho2:=hs.o2
   simp (disch:=first|assumption|omega|(simp only[ay]<;>omega)) only[go_sem,seval,g1,g2,g3,g4,g5,hg2]
   generalize hMg:hp _ 0 _=M3_20
   have hs':SC m r b1 b2 vl rest (cQ 0 0) M3_20 s3_19 [ii 3,ii p,.str n3_4,.str n3_10,ii x3_8.k,u64 x3_8.n,u8 x3_8.o,.str x3_8.s,u3_7,ii x3_13.k,u64 x3_13.n,u8 x3_13.o,.str x3_13.s,u3_12,ii x3_18.k,u64 x3_18.n,u8 x3_18.o,.str x3_18.s,u3_17,.nils,.nils]:=by rw[←hMg];exact hput hs (by simp[aF])
   replace tI:=tI.stays (m':=M3_20) (by rw[←hMg];exact dl (by simp[aF]))
   replace tX:=tX.stays (m':=M3_20) (by rw[←hMg];exact dl (by simp[aF]))
   replace tY:=tY.stays (m':=M3_20) (by rw[←hMg];exact dl (by simp[aF]))
   clear hMg
   replace hs:=hs'
   refine fin (x:= .mk 3 p n3_4 n3_10 x3_8 x3_13 x3_18 [] []) (w:=⟨u3_7,u3_12,u3_17,.nils,.nils⟩) (s':=s3_19) (q:=true) hs (RS.of tI tX tY (kl _ _) (kl _ _)) ?_ hlim (by simp only[go_sem,seval,g1]) (by simp only[go_sem,seval,g3]) (by simp only[go_sem,seval,g4]) (by simp only[go_sem,seval,g5])
   rw[bD,Q4 ne0,Q4 ne1,Q4 ne2,Q5 hb3,hpp]
   subst hqx3_18 hqs3_19 hqx3_13 hqs3_14 hqn3_10 hqx3_8 hqs3_9 hqn3_4 hqs3_3
   rfl
  |false=>
  have ne3:¬(au L [99,97,115] s=true):=by rw[hb3];exact Bool.false_ne_true
  rw[hb3,Q4 Bool.false_ne_true] at hd3
  replace hs:=hs.call hr1 hr2 hC3 hd3
  simp only[go_sem,seval,g1,g2,g3,g4,g5,ab]
  refine WF.use1H (dS hc (hbase hs) hs.hd [102,101,110,99,101] (by simp) (by omega)) ?_
  rintro M4 ⟨hd4,hC4⟩
  cases hb4:au L [102,101,110,99,101] s with
  |true=>
   obtain ⟨he,hlt⟩:=bE hb4
   have hlim:(aa s).a<=L.length:=hlt
   rw[hb4,Q5 rfl] at hd4
   replace hs:=hs.call hr1 hr2 hC4 hd4
   have hg2:=hs.g2
   have ho2:=hs.o2
   simp (disch:=first|assumption|omega|(simp only[ay]<;>omega)) only[go_sem,seval,g1,g2,g3,g4,g5,hg2]
   generalize hMg:hp _ 0 _=M4_1
   have hs':SC m r b1 b2 vl rest (cQ 0 0) M4_1 (aa s) [ii 4,ii p,.str [],.str [],ii 0,u64 0,u8 0,.str [],.nils,ii 0,u64 0,u8 0,.str [],.nils,ii 0,u64 0,u8 0,.str [],.nils,.nils,.nils]:=by rw[←hMg];exact hput hs (by simp[aF])
   clear hMg
   replace hs:=hs'
   refine fin (x:= .mk 4 p [] [] zE zE zE [] []) (w:=⟨.nils,.nils,.nils,.nils,.nils⟩) (s':=(aa s)) (q:=true) hs (RS.of (gL _ _) (gL _ _) (gL _ _) (kl _ _) (kl _ _)) ?_ hlim (by simp only[go_sem,seval,g1]) (by simp only[go_sem,seval,g3]) (by simp only[go_sem,seval,g4]) (by simp only[go_sem,seval,g5])
   rw[bD,Q4 ne0,Q4 ne1,Q4 ne2,Q4 ne3,Q5 hb4,hpp]
   rfl
  |false=>
  have ne4:¬(au L [102,101,110,99,101] s=true):=by rw[hb4];exact Bool.false_ne_true
  rw[hb4,Q4 Bool.false_ne_true] at hd4
  replace hs:=hs.call hr1 hr2 hC4 hd4
  simp only[go_sem,seval,g1,g2,g3,g4,g5,ab]
  refine WF.use1H (dS hc (hbase hs) hs.hd [111,117,116] (by simp) (by omega)) ?_
  rintro M5 ⟨hd5,hC5⟩
  cases hb5:au L [111,117,116] s with
  |true=>
   obtain ⟨he,hlt⟩:=bE hb5
   have hlim:(aa s).a<=L.length:=hlt
   rw[hb5,Q5 rfl] at hd5
   replace hs:=hs.call hr1 hr2 hC5 hd5
   have hg2:=hs.g2
   have ho2:=hs.o2
   simp (disch:=first|assumption|omega|(simp only[ay]<;>omega)) only[go_sem,seval,g1,g2,g3,g4,g5,hg2]
   generalize hMg:hp _ 0 _=M5_1
   have hs':SC m r b1 b2 vl rest (cQ 0 0) M5_1 (aa s) [ii 5,ii p,.str [],.str [],ii 0,u64 0,u8 0,.str [],.nils,ii 0,u64 0,u8 0,.str [],.nils,ii 0,u64 0,u8 0,.str [],.nils,.nils,.nils]:=by rw[←hMg];exact hput hs (by simp[aF])
   clear hMg
   replace hs:=hs'
   refine WF.useH (IJ hc (hbase hs) hs.hd hlim) ?_
   rintro v N5_2 ⟨⟨u5_3,rfl,hx⟩,hd,hC⟩
   have tX:=hx.weak hs.tb
   replace hs:=hs.call hr1 hr2 hC hd
   replace hlim:(cD L (aa s)).2.a<=L.length:=(bi L 30 _).lim hlim
   generalize hqs5_5:(cD L (aa s)).2=s5_5 at hs hlim
   generalize hqx5_4:(cD L (aa s)).1=x5_4 at tX
   clear hx hd
   have hxl:(x5_4.l u5_3).length=5:=rfl
   have hg2:=hs.g2
   have ho2:=hs.o2
   simp (disch:=first|assumption|omega|(simp only[ay]<;>omega)) only[go_sem,seval,g1,g2,g3,g4,g5,hg2]
   generalize hMg:hp _ 0 _=M5_6
   have hs':SC m r b1 b2 vl rest (cQ 0 0) M5_6 s5_5 [ii 5,ii p,.str [],.str [],ii 0,u64 0,u8 0,.str [],.nils,ii x5_4.k,u64 x5_4.n,u8 x5_4.o,.str x5_4.s,u5_3,ii 0,u64 0,u8 0,.str [],.nils,.nils,.nils]:=by rw[←hMg];exact hput hs (by simp[aF])
   replace tX:=tX.stays (m':=M5_6) (by rw[←hMg];exact dl (by simp[aF]))
   clear hMg
   replace hs:=hs'
   refine fin (x:= .mk 5 p [] [] zE x5_4 zE [] []) (w:=⟨.nils,u5_3,.nils,.nils,.nils⟩) (s':=s5_5) (q:=true) hs (RS.of (gL _ _) tX (gL _ _) (kl _ _) (kl _ _)) ?_ hlim (by simp only[go_sem,seval,g1]) (by simp only[go_sem,seval,g3]) (by simp only[go_sem,seval,g4]) (by simp only[go_sem,seval,g5])
   rw[bD,Q4 ne0,Q4 ne1,Q4 ne2,Q4 ne3,Q4 ne4,Q5 hb5,hpp]
   subst hqx5_4 hqs5_5
   rfl
  |false=>
  have ne5:¬(au L [111,117,116] s=true):=by rw[hb5];exact Bool.false_ne_true
  rw[hb5,Q4 Bool.false_ne_true] at hd5
  replace hs:=hs.call hr1 hr2 hC5 hd5
  simp only[go_sem,seval,g1,g2,g3,g4,g5,ab]
  refine WF.use1H (dS hc (hbase hs) hs.hd [105,102] (by simp) (by omega)) ?_
  rintro M6 ⟨hd6,hC6⟩
  cases hb6:au L [105,102] s with
  |true=>
   obtain ⟨he,hlt⟩:=bE hb6
   have hlim:(aa s).a<=L.length:=hlt
   rw[hb6,Q5 rfl] at hd6
   replace hs:=hs.call hr1 hr2 hC6 hd6
   have hg2:=hs.g2
   have ho2:=hs.o2
   simp (disch:=first|assumption|omega|(simp only[ay]<;>omega)) only[go_sem,seval,g1,g2,g3,g4,g5,hg2]
   generalize hMg:hp _ 0 _=M6_1
   have hs':SC m r b1 b2 vl rest (cQ 0 0) M6_1 (aa s) [ii 6,ii p,.str [],.str [],ii 0,u64 0,u8 0,.str [],.nils,ii 0,u64 0,u8 0,.str [],.nils,ii 0,u64 0,u8 0,.str [],.nils,.nils,.nils]:=by rw[←hMg];exact hput hs (by simp[aF])
   clear hMg
   replace hs:=hs'
   refine WF.useH (IJ hc (hbase hs) hs.hd hlim) ?_
   rintro v N6_2 ⟨⟨u6_3,rfl,hx⟩,hd,hC⟩
   have tX:=hx.weak hs.tb
   replace hs:=hs.call hr1 hr2 hC hd
   replace hlim:(cD L (aa s)).2.a<=L.length:=(bi L 30 _).lim hlim
   generalize hqs6_5:(cD L (aa s)).2=s6_5 at hs hlim
   generalize hqx6_4:(cD L (aa s)).1=x6_4 at tX
   clear hx hd
   have hxl:(x6_4.l u6_3).length=5:=rfl
   have hg2:=hs.g2
   have ho2:=hs.o2
   simp (disch:=first|assumption|omega|(simp only[ay]<;>omega)) only[go_sem,seval,g1,g2,g3,g4,g5,hg2]
   generalize hMg:hp _ 0 _=M6_6
   have hs':SC m r b1 b2 vl rest (cQ 0 0) M6_6 s6_5 [ii 6,ii p,.str [],.str [],ii 0,u64 0,u8 0,.str [],.nils,ii x6_4.k,u64 x6_4.n,u8 x6_4.o,.str x6_4.s,u6_3,ii 0,u64 0,u8 0,.str [],.nils,.nils,.nils]:=by rw[←hMg];exact hput hs (by simp[aF])
   replace tX:=tX.stays (m':=M6_6) (by rw[←hMg];exact dl (by simp[aF]))
   clear hMg
   replace hs:=hs'
   refine WF.useH (hB (hbase hs) hs.hd hlim) ?_
   rintro v6_8 N6_7 ⟨⟨C6_9,hx⟩,hd,hC⟩
   have tB:=hx.weak hs.tb
   replace hs:=hs.call hr1 hr2 hC hd
   replace tX:=tX.stays (eI hro hC)
   replace hlim:=(hst s6_5).lim hlim
   generalize hqs6_11:(B s6_5).2=s6_11 at hs hlim
   generalize hql6_10:(B s6_5).1=l6_10 at tB
   clear hx hd
   have hg2:=hs.g2
   have ho2:=hs.o2
   simp (disch:=first|assumption|omega|(simp only[ay]<;>omega)) only[go_sem,seval,g1,g2,g3,g4,g5,hg2,tB.sl.one]
   generalize hMg:hp _ 0 _=M6_12
   have hs':SC m r b1 b2 vl rest (cQ 0 0) M6_12 s6_11 [ii 6,ii p,.str [],.str [],ii 0,u64 0,u8 0,.str [],.nils,ii x6_4.k,u64 x6_4.n,u8 x6_4.o,.str x6_4.s,u6_3,ii 0,u64 0,u8 0,.str [],.nils,v6_8,.nils]:=by rw[←hMg];exact hput hs (by simp[aF])
   replace tX:=tX.stays (m':=M6_12) (by rw[←hMg];exact dl (by simp[aF]))
   replace tB:=tB.stays (m':=M6_12) (by rw[←hMg];exact dl (by simp[aF]))
   clear hMg
   replace hs:=hs'
   refine WF.use1H (dS hc (hbase hs) hs.hd [101,108,115,101] (by simp) (by omega)) ?_
   rintro Me ⟨hde,hCe⟩
   replace hs':=hs.call hr1 hr2 hCe hde
   replace tX:=tX.stays (eI hro hCe)
   replace tB:=tB.stays (eI hro hCe)
   cases hbe:au L [101,108,115,101] s6_11 with
   |true=>
    rw[hbe,Q5 rfl] at hs'
    replace hs:=hs'
    have hlim:(aa s6_11).a<=L.length:=(bE hbe).2
    have hg2:=hs.g2
    have ho2:=hs.o2
    simp (disch:=first|assumption|omega) only[go_sem,seval,g1,g2,g3,g4,g5,hg2,tB.sl.one,ab]
    refine WF.useH (hB (hbase hs) hs.hd hlim) ?_
    rintro v6t_14 N6t_13 ⟨⟨C6t_15,hx⟩,hd,hC⟩
    have tE:=hx.weak hs.tb
    replace hs:=hs.call hr1 hr2 hC hd
    replace tX:=tX.stays (eI hro hC)
    replace tB:=tB.stays (eI hro hC)
    replace hlim:=(hst (aa s6_11)).lim hlim
    generalize hqs6t_17:(B (aa s6_11)).2=s6t_17 at hs hlim
    generalize hql6t_16:(B (aa s6_11)).1=l6t_16 at tE
    clear hx hd
    have hg2:=hs.g2
    have ho2:=hs.o2
    simp (disch:=first|assumption|omega|(simp only[ay]<;>omega)) only[go_sem,seval,g1,g2,g3,g4,g5,hg2,tB.sl.one,tE.sl.one]
    generalize hMg:hp _ 0 _=M6t_18
    have hs':SC m r b1 b2 vl rest (cQ 0 0) M6t_18 s6t_17 [ii 6,ii p,.str [],.str [],ii 0,u64 0,u8 0,.str [],.nils,ii x6_4.k,u64 x6_4.n,u8 x6_4.o,.str x6_4.s,u6_3,ii 0,u64 0,u8 0,.str [],.nils,v6_8,v6t_14]:=by rw[←hMg];exact hput hs (by simp[aF])
    replace tX:=tX.stays (m':=M6t_18) (by rw[←hMg];exact dl (by simp[aF]))
    replace tB:=tB.stays (m':=M6t_18) (by rw[←hMg];exact dl (by simp[aF]))
    replace tE:=tE.stays (m':=M6t_18) (by rw[←hMg];exact dl (by simp[aF]))
    clear hMg
    replace hs:=hs'
    refine fin (x:= .mk 6 p [] [] zE x6_4 zE l6_10 l6t_16) (w:=⟨.nils,u6_3,.nils,v6_8,v6t_14⟩) (s':=s6t_17) (q:=false) hs (RS.of (gL _ _) tX (gL _ _) tB tE) ?_ hlim (by simp only[go_sem,seval,g1]) (by simp only[go_sem,seval,g3]) (by simp only[go_sem,seval,g4]) (by simp only[go_sem,seval,g5])
    rw[bD,Q4 ne0,Q4 ne1,Q4 ne2,Q4 ne3,Q4 ne4,Q4 ne5,Q5 hb6,hpp]
    subst hql6t_16 hqs6t_17 hql6_10 hqs6_11 hqx6_4 hqs6_5
    rw[DM,Q5 hbe];rfl
   |false=>
    rw[hbe,Q4 Bool.false_ne_true] at hs'
    replace hs:=hs'
    have nee:¬(au L [101,108,115,101] s6_11=true):=by rw[hbe];exact Bool.false_ne_true
    have hg2:=hs.g2
    have ho2:=hs.o2
    simp only[go_sem,seval,g1,g2,g3,g4,g5,hg2,tB.sl.one,ab]
    refine fin (x:= .mk 6 p [] [] zE x6_4 zE l6_10 []) (w:=⟨.nils,u6_3,.nils,v6_8,.nils⟩) (s':=s6_11) (q:=false) hs (RS.of (gL _ _) tX (gL _ _) tB (kl _ _)) ?_ hlim (by simp only[go_sem,seval,g1]) (by simp only[go_sem,seval,g3]) (by simp only[go_sem,seval,g4]) (by simp only[go_sem,seval,g5])
    rw[bD,Q4 ne0,Q4 ne1,Q4 ne2,Q4 ne3,Q4 ne4,Q4 ne5,Q5 hb6,hpp]
    subst hql6_10 hqs6_11 hqx6_4 hqs6_5
    rw[DM,Q4 nee];rfl
  |false=>
  have ne6:¬(au L [105,102] s=true):=by rw[hb6];exact Bool.false_ne_true
  rw[hb6,Q4 Bool.false_ne_true] at hd6
  replace hs:=hs.call hr1 hr2 hC6 hd6
  simp only[go_sem,seval,g1,g2,g3,g4,g5,ab]
  refine WF.use1H (dS hc (hbase hs) hs.hd [119,104,105,108,101] (by simp) (by omega)) ?_
  rintro M7 ⟨hd7,hC7⟩
  cases hb7:au L [119,104,105,108,101] s with
  |true=>
   obtain ⟨he,hlt⟩:=bE hb7
   have hlim:(aa s).a<=L.length:=hlt
   rw[hb7,Q5 rfl] at hd7
   replace hs:=hs.call hr1 hr2 hC7 hd7
   have hg2:=hs.g2
   have ho2:=hs.o2
   simp (disch:=first|assumption|omega|(simp only[ay]<;>omega)) only[go_sem,seval,g1,g2,g3,g4,g5,hg2]
   generalize hMg:hp _ 0 _=M7_1
   have hs':SC m r b1 b2 vl rest (cQ 0 0) M7_1 (aa s) [ii 7,ii p,.str [],.str [],ii 0,u64 0,u8 0,.str [],.nils,ii 0,u64 0,u8 0,.str [],.nils,ii 0,u64 0,u8 0,.str [],.nils,.nils,.nils]:=by rw[←hMg];exact hput hs (by simp[aF])
   clear hMg
   replace hs:=hs'
   refine WF.useH (IJ hc (hbase hs) hs.hd hlim) ?_
   rintro v N7_2 ⟨⟨u7_3,rfl,hx⟩,hd,hC⟩
   have tX:=hx.weak hs.tb
   replace hs:=hs.call hr1 hr2 hC hd
   replace hlim:(cD L (aa s)).2.a<=L.length:=(bi L 30 _).lim hlim
   generalize hqs7_5:(cD L (aa s)).2=s7_5 at hs hlim
   generalize hqx7_4:(cD L (aa s)).1=x7_4 at tX
   clear hx hd
   have hxl:(x7_4.l u7_3).length=5:=rfl
   have hg2:=hs.g2
   have ho2:=hs.o2
   simp (disch:=first|assumption|omega|(simp only[ay]<;>omega)) only[go_sem,seval,g1,g2,g3,g4,g5,hg2]
   generalize hMg:hp _ 0 _=M7_6
   have hs':SC m r b1 b2 vl rest (cQ 0 0) M7_6 s7_5 [ii 7,ii p,.str [],.str [],ii 0,u64 0,u8 0,.str [],.nils,ii x7_4.k,u64 x7_4.n,u8 x7_4.o,.str x7_4.s,u7_3,ii 0,u64 0,u8 0,.str [],.nils,.nils,.nils]:=by rw[←hMg];exact hput hs (by simp[aF])
   replace tX:=tX.stays (m':=M7_6) (by rw[←hMg];exact dl (by simp[aF]))
   clear hMg
   replace hs:=hs'
   refine WF.useH (hB (hbase hs) hs.hd hlim) ?_
   rintro v7_8 N7_7 ⟨⟨C7_9,hx⟩,hd,hC⟩
   have tB:=hx.weak hs.tb
   replace hs:=hs.call hr1 hr2 hC hd
   replace tX:=tX.stays (eI hro hC)
   replace hlim:=(hst s7_5).lim hlim
   generalize hqs7_11:(B s7_5).2=s7_11 at hs hlim
   generalize hql7_10:(B s7_5).1=l7_10 at tB
   clear hx hd
   have hg2:=hs.g2
   have ho2:=hs.o2
   simp (disch:=first|assumption|omega|(simp only[ay]<;>omega)) only[go_sem,seval,g1,g2,g3,g4,g5,hg2,tB.sl.one]
   generalize hMg:hp _ 0 _=M7_12
   have hs':SC m r b1 b2 vl rest (cQ 0 0) M7_12 s7_11 [ii 7,ii p,.str [],.str [],ii 0,u64 0,u8 0,.str [],.nils,ii x7_4.k,u64 x7_4.n,u8 x7_4.o,.str x7_4.s,u7_3,ii 0,u64 0,u8 0,.str [],.nils,v7_8,.nils]:=by rw[←hMg];exact hput hs (by simp[aF])
   replace tX:=tX.stays (m':=M7_12) (by rw[←hMg];exact dl (by simp[aF]))
   replace tB:=tB.stays (m':=M7_12) (by rw[←hMg];exact dl (by simp[aF]))
   clear hMg
   replace hs:=hs'
   refine fin (x:= .mk 7 p [] [] zE x7_4 zE l7_10 []) (w:=⟨.nils,u7_3,.nils,v7_8,.nils⟩) (s':=s7_11) (q:=false) hs (RS.of (gL _ _) tX (gL _ _) tB (kl _ _)) ?_ hlim (by simp only[go_sem,seval,g1]) (by simp only[go_sem,seval,g3]) (by simp only[go_sem,seval,g4]) (by simp only[go_sem,seval,g5])
   rw[bD,Q4 ne0,Q4 ne1,Q4 ne2,Q4 ne3,Q4 ne4,Q4 ne5,Q4 ne6,Q5 hb7,hpp]
   subst hql7_10 hqs7_11 hqx7_4 hqs7_5
   rfl
  |false=>
  have ne7:¬(au L [119,104,105,108,101] s=true):=by rw[hb7];exact Bool.false_ne_true
  rw[hb7,Q4 Bool.false_ne_true] at hd7
  replace hs:=hs.call hr1 hr2 hC7 hd7
  simp only[go_sem,seval,g1,g2,g3,g4,g5,ab]
  refine WF.use1 (iq hs.hd 2) ?_
  rintro M9 ⟨hd9,hC9⟩
  replace hs:=hs.call hr1 hr2 hC9 hd9
  have hlim:=(bS L 2 s).lim ha
  simp only[go_sem,seval,g1,g2,g3,g4,g5]
  refine fin (x:= .mk 0 p [] [] zE zE zE [] []) (w:=⟨.nils,.nils,.nils,.nils,.nils⟩) (s':=aV 2 s) (q:=true) hs (RS.of (gL _ _) (gL _ _) (gL _ _) (kl _ _) (kl _ _)) ?_ hlim (by simp only[go_sem,seval,g1]) (by simp only[go_sem,seval,g3]) (by simp only[go_sem,seval,g4]) (by simp only[go_sem,seval,g5])
  rw[bD,Q4 ne0,Q4 ne1,Q4 ne2,Q4 ne3,Q4 ne4,Q4 ne5,Q4 ne6,Q4 ne7,hpp]
  rfl
 clear g1 g2 g3 g4 g5 hs
 rintro D ⟨t,M,x,w,s',q,rfl,hs,hx,hE,ha',g1,g3,g4,g5⟩
 change wp _ _ _ _ ⟨am [] t, [],none,M⟩ _
 rw[←hE] at hK
 have hxl:(x.l w).length=21:=rfl
 have hxl':(x.l w).take 21=x.l w:=rfl
 have fin:∀{M s''},SC m r b1 b2 vl rest (cQ 0 0) M s'' (x.l w)->RS M (TB m b1 b2) x (x.l w)->(if q then aT L [59] s' else s')=s''->K (.agg (x.l w)) (hp [(.o b1,.cells true (x.l w))] 0 M):=fun {M s''} h1 h2 h3=>by
  have hC:Chg [b1] M (hp [(.o b1,.cells true (x.l w))] 0 M):=aH rfl
  refine hK _ _ ⟨⟨w,rfl,(h2.stays (aE.of hC fun i hi hs=> ?_)).weak fun i hi=>hi.1⟩, ?_,h1.hC.trans hC fun i hi ho=> ?_⟩
  ·simp only[Q9,Q8,or_false] at hs;exact hi.2.1 hs
  ·show RD _ r vl (if q then aT L [59] s' else s') rest
   rw[h3];exact h1.hd.chg hC (by simpa using fun e=>hr1 e.symm)
  ·have hi:=one hi;subst hi;exact Q3 ho hn1
 cases q with
 |true=>
  simp only[go_sem,seval,g1,g3,g4,g5,ab]
  refine WF.use1H (gI hc (hc.chg h0 hs.hC) hs.hd [59] (by simp) (by omega)) ?_
  rintro M2 ⟨hd2,hC2⟩
  have hs2:=hs.call hr1 hr2 hC2 hd2
  have hg2:=hs2.g2
  have hg1:=hs2.g1
  have ho1:=hs2.o1
  have ho2:=hs2.o2
  simp (disch:=first|assumption|omega|(simp only[ay]<;>omega)) only[go_sem,seval,g1,g3,g4,g5,hg2,hg1,hxl,hxl']
  exact fin hs2 (hx.stays (eI hro hC2)) rfl
 |false=>
  have hg2:=hs.g2
  have hg1:=hs.g1
  have ho1:=hs.o1
  have ho2:=hs.o2
  rw[←ab M]
  simp (disch:=first|assumption|omega|(simp only[ay]<;>omega)) only[go_sem,seval,g1,g3,g4,g5,hg2,hg1,hxl,hxl']
  exact fin hs hx rfl
end
end FR
open Go Nm Go.Proofs
namespace FR
section
variable {L:List Tok}
theorem jl (s:Rs):St L s (cD L s).2:=bi L 30 s
theorem kX {x:Stm} {s s':Rs} (h:St L s s'):St L s (lI L x s').2:=h.trans (aZ _ _ _)
theorem Jh (p:Int) (s:Rs):St L s (Jq L p s).2:=kX ((cw L s).trans (jl _))
theorem Hn (p:Int) (s:Rs):St L s (CM L p s).2:=kX ((cw L s).trans (cY _))
theorem DS (p:Int) (s:Rs):St L s (yq L p s).2:=kX ((cY s).trans (jl _))
theorem Jt (p:Int) (s:Rs):St L s (H6 L p s).2:=kX ((((cw L s).trans (cY _)).trans (jl _)).trans (jl _))
theorem IU (p:Int) (s:Rs):St L s (Je L p s).2:=kX (jl _)
theorem OO {B:Rs->List Stm×Rs} (hB:∀s,St L s (B s).2) (p:Int) (s:Rs):St L s (DM L B p s).2:=by
 unfold DM
 have h:=(jl (L:=L) s).trans (hB _)
 split
 ·rename_i q;exact (h.trans (cF q)).trans (hB _)
 ·exact h
theorem Ei {B:Rs->List Stm×Rs} (hB:∀s,St L s (B s).2) (p:Int) (s:Rs):St L s (mt L B p s).2:=(jl s).trans (hB _)
theorem uv {B:Rs->List Stm×Rs} (hB:∀s,St L s (B s).2) (s:Rs):(∃t,St L s t/\St L t (bD L B s).2/\(s.e=0->s.a<t.a∨t.e≠0)):=by
 have y:∀{w:List Nat},au L w s=true->St L s (aa s):=fun h=>cF h
 have n:s.a<(aa s).a:=Nat.lt_succ_self _
 unfold bD
 split
 ·exact ⟨aa s,y ‹_›,Jh _ _,fun _=>Or.inl n⟩
 ·split
  ·exact ⟨aa s,y ‹_›,Hn _ _,fun _=>Or.inl n⟩
  ·split
   ·exact ⟨aa s,y ‹_›,DS _ _,fun _=>Or.inl n⟩
   ·split
    ·exact ⟨aa s,y ‹_›,Jt _ _,fun _=>Or.inl n⟩
    ·split
     ·exact ⟨aa s,y ‹_›,kX (St.refl _ _),fun _=>Or.inl n⟩
     ·split
      ·exact ⟨aa s,y ‹_›,IU _ _,fun _=>Or.inl n⟩
      ·split
       ·exact ⟨aa s,y ‹_›,OO hB _ _,fun _=>Or.inl n⟩
       ·split
        ·exact ⟨aa s,y ‹_›,Ei hB _ _,fun _=>Or.inl n⟩
        ·refine ⟨aV 2 s,bS _ _ _,kX (St.refl _ _),fun h=>Or.inr ?_⟩
         rw[aV,Q5 h];show (2:Nat)≠0;omega
theorem jO {B:Rs->List Stm×Rs} (hB:∀s,St L s (B s).2) (s:Rs):St L s (bD L B s).2:=by
 obtain ⟨t,h1,h2,-⟩:=uv hB s
 exact h1.trans h2
theorem zY {B:Rs->List Stm×Rs} (hB:∀s,St L s (B s).2) (s:Rs) (he:s.e=0):s.a<(bD L B s).2.a∨(bD L B s).2.e≠0:=by
 obtain ⟨t,h1,h2,h3⟩:=uv hB s
 rcases h3 he with q|q
 ·left;have:=h2.le;omega
 ·right;rw[h2.err q];exact q
theorem pA {S:Rs->Stm×Rs} (hS:∀s,St L s (S s).2):∀(f:Nat) (l:List Stm) (s:Rs),St L s (c9 L S f l s).2:=by
 intro f
 induction f with
 |zero=>exact fun l s=>St.refl _ _
 |succ f ih=>
  intro l s
  rw[c9]
  split
  ·exact St.refl _ _
  ·split
   ·exact cF ‹_›
   ·exact (hS s).trans (ih _ _)
theorem uw {S:Rs->Stm×Rs} (hS:∀s,St L s (S s).2) (d:Nat) (s:Rs):St L s (dD L S d s).2:=((lE d s).trans (aZ _ _ _)).trans (pA hS _ _ _)
theorem bN:∀(n:Nat) (s:Rs),St L s (bC L n s).2:=by
 intro n
 induction n with
 |zero=>exact fun s=>uw (fun s=>bS _ _ _) _ s
 |succ n ih=>exact fun s=>uw (jO ih) _ s
def Qx (B:Rs->List Stm×Rs):Prop:=∀s,(B s).2.e=0->fF (B s).1+4*s.a<=4*(B s).2.a
theorem lp (s:Rs) (h:(cD L s).2.e=0):(cD L s).1.sz+s.a<=(cD L s).2.a:=rT L 30 s h
theorem nU {s:Rs} (h:(aJ L s).2.e=0):s.a+1<=(aJ L s).2.a:=by
 unfold aJ at h ⊢
 split
 ·rename_i q
  rw[Q5 q] at h
  have h0:=(bS L 2 s).zero h
  rw[aV,Q5 h0] at h
  exact Q3 h (by show (2:Nat)≠0;omega)
 ·exact Nat.le_refl _
theorem eF {w:List Nat} {s:Rs} (h:(aT L w s).e=0):s.e=0/\(aT L w s).a=s.a+1:=by
 have h0:=(aZ L w s).zero h
 refine ⟨h0, ?_⟩
 unfold aT at h ⊢
 split
 ·rfl
 ·rename_i q
  rw[Q4 q,aV,Q5 h0] at h
  exact Q3 h (by show (2:Nat)≠0;omega)
theorem pT {s:Rs} (h:(aL L s).2.2.e=0):(aL L s).2.1.sz+s.a<=(aL L s).2.2.a:=by
 unfold aL at h ⊢
 split
 ·rename_i q
  rw[Q5 q] at h
  obtain ⟨h1,h2⟩:=eF h
  have h3:=lp _ h1
  have h4:=(cF q).le
  have h5:=(cw L s).le
  have h6:(aa (aJ L s).2).a=(aJ L s).2.a+1:=rfl
  dsimp only at h1 h2 h3 h4 h5 ⊢
  omega
 ·rename_i q
  rw[Q4 q] at h
  have:=nU h
  simp[zE,Ex.sz,nB];omega
theorem mY:zE.sz=1:=by simp[zE,Ex.sz,nB]
theorem iP (k p:Int) (nm ce:List Nat) (i x y:Ex) (b e:List Stm):(Stm.mk k p nm ce i x y b e).sz=1+i.sz+x.sz+y.sz+fF b+fF e:=by rw[Stm.sz]
theorem qu:fF []=0:=rfl
set_option maxHeartbeats 4000000 in
theorem Ig {B:Rs->List Stm×Rs} (hSt:∀s,St L s (B s).2) (hB:Qx B) (s:Rs) (h:(bD L B s).2.e=0):(bD L B s).1.sz+4*s.a<=4*(bD L B s).2.a:=by
 have n:(aa s).a=s.a+1:=rfl
 unfold bD at h ⊢
 split
 ·rename_i q
  rw[Q5 q] at h
  obtain ⟨h1,h2⟩:=eF h
  have h3:=lp _ h1
  have h4:=nU ((jl (L:=L) _).zero h1)
  show (Stm.mk ..).sz+_<=4*(aT L [59] _).a
  rw[h2,iP,mY,qu];omega
 ·rename_i q0;rw[Q4 q0] at h
  split
  ·rename_i q
   rw[Q5 q] at h
   obtain ⟨h1,h2⟩:=eF h
   have h3:=pT h1
   have h4:=nU ((cY (L:=L) _).zero h1)
   show (Stm.mk ..).sz+_<=4*(aT L [59] _).a
   rw[h2,iP,mY,qu];omega
  ·rename_i q0;rw[Q4 q0] at h
   split
   ·rename_i q
    rw[Q5 q] at h
    obtain ⟨h1,h2⟩:=eF h
    have h3:=lp _ h1
    have h4:=pT ((jl (L:=L) _).zero h1)
    show (Stm.mk ..).sz+_<=4*(aT L [59] _).a
    rw[h2,iP,mY,qu];omega
   ·rename_i q0;rw[Q4 q0] at h
    split
    ·rename_i q
     rw[Q5 q] at h
     obtain ⟨h1,h2⟩:=eF h
     have h3:=lp _ h1
     have h1':=(jl (L:=L) _).zero h1
     have h4:=lp _ h1'
     have h1'':=(jl (L:=L) _).zero h1'
     have h5:=pT h1''
     have h6:=nU ((cY (L:=L) _).zero h1'')
     show (Stm.mk ..).sz+_<=4*(aT L [59] _).a
     rw[h2,iP,qu];omega
    ·rename_i q0;rw[Q4 q0] at h
     split
     ·rename_i q
      rw[Q5 q] at h
      obtain ⟨h1,h2⟩:=eF h
      show (Stm.mk ..).sz+_<=4*(aT L [59] _).a
      rw[h2,iP,mY,qu];omega
     ·rename_i q0;rw[Q4 q0] at h
      split
      ·rename_i q
       rw[Q5 q] at h
       obtain ⟨h1,h2⟩:=eF h
       have h3:=lp _ h1
       show (Stm.mk ..).sz+_<=4*(aT L [59] _).a
       rw[h2,iP,mY,qu];omega
      ·rename_i q0;rw[Q4 q0] at h
       split
       ·rename_i q
        rw[Q5 q] at h
        unfold DM at h ⊢
        split
        ·rename_i q2
         rw[Q5 q2] at h
         have h1:=hB _ h
         have h2:=(hSt _).zero h
         have h3:=hB _ h2
         have h4:=lp _ ((hSt _).zero h2)
         have h5:(aa (B (cD L (aa s)).2).2).a=(B (cD L (aa s)).2).2.a+1:=rfl
         rw[iP,mY];dsimp only at *;omega
        ·rename_i q2
         rw[Q4 q2] at h
         have h3:=hB _ h
         have h4:=lp _ ((hSt _).zero h)
         rw[iP,mY,qu];dsimp only at *;omega
       ·rename_i q0;rw[Q4 q0] at h
        split
        ·rename_i q
         rw[Q5 q] at h
         have h3:=hB _ h
         have h4:=lp _ ((hSt _).zero h)
         show (Stm.mk ..).sz+_<=4*(B _).2.a
         rw[iP,mY,qu];omega
        ·rename_i q0;rw[Q4 q0] at h
         obtain ⟨h1,h2⟩:=eF h
         have h3:=(bS L 2 s).zero h1
         rw[aV,Q5 h3] at h1
         exact Q3 h1 (by show (2:Nat)≠0;omega)
theorem xf (a b:List Stm):fF (a++b)=fF a+fF b:=by
 induction a with
 |nil=>simp[fF]
 |cons x a ih=>rw[List.cons_append,fF,fF,ih];omega
theorem DG {S:Rs->Stm×Rs} (hSt:∀s,St L s (S s).2) (hS:∀s,(S s).2.e=0->(S s).1.sz+4*s.a<=4*(S s).2.a):∀(f:Nat) (l:List Stm) (s:Rs) (a0:Nat),(s.e=0->fF l+4*a0<=4*s.a)->(c9 L S f l s).2.e=0->fF (c9 L S f l s).1+4*a0<=4*(c9 L S f l s).2.a:=by
 intro f
 induction f with
 |zero=>intro l s a0 h h2;exact h h2
 |succ f ih=>
  intro l s a0 h
  rw[c9]
  split
  ·intro h2;exact Q3 h2 ‹_›
  ·split
   ·rename_i q1 q2
    intro h2
    have h1:=h (by omega)
    have:(aa s).a=s.a+1:=rfl
    dsimp only;omega
   ·rename_i q1 q2
    refine ih _ _ a0 fun h2=> ?_
    have h1:=h (by omega)
    have h3:=hS s h2
    rw[xf,fF,qu];omega
theorem D9 {S:Rs->Stm×Rs} (hSt:∀s,St L s (S s).2) (hS:∀s,(S s).2.e=0->(S s).1.sz+4*s.a<=4*(S s).2.a) (d:Nat):Qx (dD L S d):=by
 intro s h
 refine DG hSt hS _ _ _ s.a (fun h2=> ?_) h
 have:=((lE (L:=L) d s).trans (aZ L [123] _)).le
 rw[qu];omega
theorem Az:∀n:Nat,Qx (bC L n):=by
 intro n
 induction n with
 |zero=>
  intro s h
  have h1:=(pA (L:=L) (S:=fun s=>(Stm.mk 0 0 [] [] zE zE zE [] [],aV 2 s)) (fun s=>bS _ _ _) _ _ _).zero h
  have h2:=(aZ L [123] _).zero h1
  have h3:=(lE (L:=L) 30 s).zero h2
  exfalso
  obtain ⟨h4,h5⟩:=eF h1
  have hff:∀e (s:Rs),e≠0->(aV e s).e≠0:=fun e s h=>by unfold aV;split;exact h;assumption
  by_cases hk:(av L s.a).k=3/\(av L s.a).t= [123]
  ·rw[cp,Q5 ⟨h3,by omega,hk.1,hk.2⟩] at h4
   exact hff 11 s (by omega) h4
  ·have e1:cp L 30 s=s:=by rw[cp,Q4 (fun h=>hk ⟨h.2.2.1,h.2.2.2⟩)]
   rw[e1] at h1
   have e2:au L [123] s=false:=Q6 fun q=>hk ⟨q.2.1,q.2.2⟩
   rw[aT,e2,Q4 Bool.false_ne_true] at h1
   exact hff 2 s (by omega) h1
 |succ n ih=>exact D9 (jO (bN n)) (Ig (bN n) ih) _
end
section
variable {m0:NH} {L:List Tok} {vl:NV} {r:D4} {rest:List NV}
theorem Fj (hc:RC m0 L vl r):∀n,n<=30->Qw m0 L vl r rest (bC L n) (30 - n):=by
 intro n
 induction n with
 |zero=>
  intro _
  have e2:bC L 0=dD L (fun s=>(.mk 0 0 [] [] zE zE zE [] [],aV 2 s)) 30:=by funext s;rfl
  rw[e2]
  intro m s
  exact Ay (S:=fun s=>(.mk 0 0 [] [] zE zE zE [] [],aV 2 s)) hc (fun s=>bS _ _ _) (fun s he=>Or.inr (by rw[aV,Q5 he];show (2:Nat)≠0;omega)) (fun h=>by omega)
 |succ n ih=>
  intro hn
  have e:30 - (n+1)=29 - n:=by omega
  have h1:29 - n+1=30 - n:=by omega
  have e2:bC L (n+1)=dD L (bD L (bC L n)) (29 - n):=by funext s;rfl
  rw[e,e2]
  intro m s
  exact Ay hc (jO (bN n)) (zY (bN n)) (fun _=>by rw[←h1] at ih;intro m s;exact LZ hc (bN n) (ih (by omega)) (by omega))
end
end FR
open Go Nm Go.Proofs
namespace FR
abbrev kF (l:List (List Nat×Int)):List (List NV):=l.map fun c=> [.str c.1,ii c.2]
structure Ths (m:NH) (T:D4->Prop) (v:NV) (l:List (List Nat×List Stm)) (C:List (List NV)):Prop where
 sl:Sl m v 2 C
 hT:∀i∈ids v,T i
 len:C.length=l.length
 R:∀(i:Nat) (x:List Nat×List Stm) (c:List NV),l[i]? =some x->C[i]? =some c->∃vb B,c= [.str x.1,vb]/\SS m T vb x.2 B
theorem Ths.stays {m m':NH} {T:D4->Prop} (hs:aE T m m') {v:NV} {l:List (List Nat×List Stm)} {C:List (List NV)} (h:Ths m T v l C):Ths m' T v l C:=
 ⟨gc h.sl h.hT hs,h.hT,h.len,fun i x c a b=>by obtain ⟨vb,B,e,h⟩:=h.R i x c a b;exact ⟨vb,B,e,h.stays hs⟩⟩
theorem Ths.at {m:NH} {T:D4->Prop} {v:NV} {l:List (List Nat×List Stm)} {C:List (List NV)} (h:Ths m T v l C) (i:Nat) (hi:i<l.length):∃vb B id off w c,SS m T vb l[i].2 B/\np 2 v (.int .i64 (.lit (i:Int)))= .val (.ptr id off)/\m.get id=some (.cells w c)/\aw m id/\off+2<=c.length/\(c.drop off).take 2= [.str l[i].1,vb]:=by
 have hc:i<C.length:=by rw[h.len];exact hi
 obtain ⟨vb,B,e,hS⟩:=h.R i _ _ (List.getElem?_eq_getElem hi) (List.getElem?_eq_getElem hc)
 obtain ⟨id,off,w,c,a1,a2,a3,a4,a5⟩:=h.sl.at i hc
 exact ⟨vb,B,id,off,w,c,hS,a1,a2,a3,a4,a5.trans e⟩
structure Prg where
 cs:List (List Nat×Int)
 ts:List (List Nat×List Stm)
 r:List Stm
structure RP (m:NH) (T:D4->Prop) (p:Prg) (vc vt vr:NV):Prop where
 c:Sl m vc 2 (kF p.cs)
 cT:∀i∈ids vc,T i
 t:∃C,Ths m T vt p.ts C
 r:∃C,SS m T vr p.r C
theorem RP.stays {m m':NH} {T:D4->Prop} (hs:aE T m m') {p:Prg} {vc vt vr:NV} (h:RP m T p vc vt vr):RP m' T p vc vt vr:=
 ⟨gc h.c h.cT hs,h.cT,let ⟨C,q⟩:=h.t;⟨C,q.stays hs⟩,let ⟨C,q⟩:=h.r;⟨C,q.stays hs⟩⟩
end FR
open Go Nm Go.Proofs
namespace FR
structure Ps where
 cs:List (List Nat×Int)
 ts:List (List Nat×List Stm)
 rc:List Stm
 rd:Bool
section
variable (L:List Tok)
def bz (T:Tok):Int:=if T.n<1048576 then T.n else 1048576
def dH (s:Rs):(List Nat×Int)×Rs:=
 if au L [91] (aJ L s).2=true then
  if (av L (aa (aJ L s).2).a).k=2 then (((aJ L s).1,bz (av L (aa (aJ L s).2).a)),aT L [59] (aT L [93] (aa (aa (aJ L s).2))))
  else (((aJ L s).1,1),aT L [59] (aT L [93] (aV 2 (aa (aJ L s).2))))
 else (((aJ L s).1,1),aT L [59] (aJ L s).2)
def fD (s:Rs):(List Nat×List Stm)×Rs:=(((aJ L s).1,(bC L 30 (aJ L s).2).1),(bC L 30 (aJ L s).2).2)
abbrev cv:List Nat:= [114,101,99,111,118,101,114]
def a8 (rec:Bool) (s:Rs):Rs:=if rec=true/\(av L s.a).k=4/\(av L s.a).t=cv then aV 5 s else s
def pK (rec:Bool) (s:Rs):List Stm×Rs:=bC L 30 (aT L cv (a8 L rec s))
def dJ (P:Ps) (s:Rs):Ps×Rs:=
 if au L [99,101,108,108] s=true then (⟨P.cs++ [(dH L (aa s)).1],P.ts,P.rc,P.rd⟩,(dH L (aa s)).2)
 else if au L [116,104,114,101,97,100] s=true then (⟨P.cs,P.ts++ [(fD L (aa s)).1],P.rc,P.rd⟩,(fD L (aa s)).2)
 else (⟨P.cs,P.ts,(pK L P.rd s).1,true⟩,(pK L P.rd s).2)
end
abbrev TP (mR:NH) (vc vt:NV):D4->Prop:=fun i=>¬aw mR i/\i∉ids vc/\i∉ids vt
structure PD (mR M:NH) (r:D4) (vl:NV) (s:Rs) (P:Ps) (vc vt vr:NV):Prop where
 hd:RD M r vl s [.bool P.rd,vc,vt,vr]
 cc:dq mR M vc 2 (kF P.cs)
 tt:∃C,dq mR M vt 2 C/\C.length=P.ts.length/\∀(j:Nat) (x:List Nat×List Stm) (c:List NV),P.ts[j]? =some x->C[j]? =some c->∃vb B,c= [.str x.1,vb]/\SS M (TP mR vc vt) vb x.2 B
 rr:∃C,SS M (TP mR vc vt) vr P.rc C
 dd:∀i∈ids vc,i∉ids vt
 oo:∀i,aw mR i->aw M i
 oR:aw mR r
section
variable {m0 mR:NH} {L:List Tok} {vl vc vt vr:NV} {r:D4} {M M':NH} {s s':Rs} {P:Ps}
theorem PD.call (h:PD mR M r vl s P vc vt vr) (hC:Chg [r] M M') (hd:RD M' r vl s' [.bool P.rd,vc,vt,vr]):PD mR M' r vl s' P vc vt vr:=by
 have hn:∀{v e C},dq mR M v e C->∀i∈ids v,i∉ [r]:=fun hv i hi hs=>by
  have hs:=one hs;subst hs;exact hv.new _ hi h.oR
 have hst:aE (TP mR vc vt) M M':=aE.of hC fun i hi hs=>by
  have hs:=one hs;subst hs;exact hi.1 h.oR
 obtain ⟨C,t1,t2,t3⟩:=h.tt
 obtain ⟨D,r1⟩:=h.rr
 exact ⟨hd,h.cc.chg hC (hn h.cc),⟨C,t1.chg hC (hn t1),t2,fun j x c a b=>by obtain ⟨vb,B,e,q⟩:=t3 j x c a b;exact ⟨vb,B,e,q.stays hst⟩⟩,⟨D,r1.stays hst⟩,h.dd,fun i hi=>hC.old (h.oo i hi),h.oR⟩
theorem PD.grow (h:PD mR M r vl s P vc vt vr) (hC:Chg [] M M'):PD mR M' r vl s P vc vt vr:=h.call (hC.weak (by simp)) (h.hd.chg hC (by simp))
end
section
variable {mR:NH} {vl vc vt vr:NV} {r:D4} {M:NH} {s:Rs} {P:Ps}
theorem nR (h:PD mR M r vl s P vc vt vr) {v:NV} {M5 M6:NH} {c:List Nat×Int} (h5:Chg [] M M5) (hv:dq mR M6 v 2 (kF P.cs++ [[.str c.1,ii c.2]])) (h6:Chg (ids vc) M5 M6) (hF:nq M5 vc v):
 PD mR (hp [(.o r,.cells true [vl,ii s.a,ii s.e,ii s.b,.bool P.rd,v,vt,vr])] 0 M6) r vl s ⟨P.cs++ [c],P.ts,P.rc,P.rd⟩ v vt vr:=by
 have h:=h.grow h5
 have o5:=h.oo
 have hr6:aw M6 r:=h6.old h.hd.o
 have hC:Chg [r] M6 (hp [(.o r,.cells true [vl,ii s.a,ii s.e,ii s.b,.bool P.rd,v,vt,vr])] 0 M6):=aH rfl
 obtain ⟨C,t1,t2,t3⟩:=h.tt
 obtain ⟨D,r1⟩:=h.rr
 have hvt:∀i∈ids vt,i∉ids vc:=fun i hi hc=>h.dd i hc hi
 have nr:∀{v e C M},dq mR M v e C->∀i∈ids v,i∉ [r]:=fun hv i hi hs=>by
  have hs:=one hs;subst hs;exact hv.new _ hi h.oR
 have hS:∀{w:NV} {l:List Stm} {C:List (List NV)},SS M5 (TP mR vc vt) w l C->SS (hp [(.o r,.cells true [vl,ii s.a,ii s.e,ii s.b,.bool P.rd,v,vt,vr])] 0 M6) (TP mR v vt) w l C:=fun q=>by
  have q1:SS M5 (fun i=>TP mR vc vt i/\aw M5 i) _ _ _:=⟨q.sl,fun i hi=>⟨q.hT i hi,q.sl.old i hi⟩,q.len,fun i x c a b=>(q.R i x c a b).old⟩
  have q2:=q1.stays (m':=M6) (aE.of h6 fun i hi hs=>hi.1.2.1 hs)
  have q3:=q2.stays (aE.of hC fun i hi hs=>by
   have hs:=one hs;subst hs;exact hi.1.1 h.oR)
  exact q3.weak fun i hi=>⟨hi.1.1,fun a=>(hF i a).elim hi.1.2.1 fun z=>z hi.2,hi.1.2.2⟩
 refine ⟨⟨(bF hr6).trans a7,ae hr6⟩, ?_,⟨C,(t1.chg h6 hvt).chg hC (nr t1),t2,fun j x c a b=>by obtain ⟨vb,B,e,q⟩:=t3 j x c a b;exact ⟨vb,B,e,hS q⟩⟩,⟨D,hS r1⟩,fun i hi ht=>(hF i hi).elim (fun a=>h.dd i a ht) fun z=>z (t1.sl.old i ht),fun i hi=>hC.old (h6.old (o5 i hi)),h.oR⟩
 have e:kF (P.cs++ [c])=kF P.cs++ [[.str c.1,ii c.2]]:=by simp
 show dq mR _ v 2 (kF (P.cs++ [c]))
 rw[e]
 exact hv.chg hC (nr hv)
theorem BS (h:PD mR M r vl s P vc vt vr) {v vb:NV} {B C:List (List NV)} {M6:NH} {n:List Nat} {b:List Stm} (hb:SS M (TP mR vc vt) vb b B) (t1:dq mR M vt 2 C) (t2:C.length=P.ts.length) (t3:∀(j:Nat) (x:List Nat×List Stm) (c:List NV),P.ts[j]? =some x->C[j]? =some c->∃vb B,c= [.str x.1,vb]/\SS M (TP mR vc vt) vb x.2 B)
 (hv':dq mR M6 v 2 (C++ [[.str n,vb]])) (h6:Chg (ids vt) M M6) (hF:nq M vt v):
 PD mR (hp [(.o r,.cells true [vl,ii s.a,ii s.e,ii s.b,.bool P.rd,vc,v,vr])] 0 M6) r vl s ⟨P.cs,P.ts++ [(n,b)],P.rc,P.rd⟩ vc v vr:=by
 have o5:=h.oo
 have hr6:aw M6 r:=h6.old h.hd.o
 have hC:Chg [r] M6 (hp [(.o r,.cells true [vl,ii s.a,ii s.e,ii s.b,.bool P.rd,vc,v,vr])] 0 M6):=aH rfl
 obtain ⟨D,r1⟩:=h.rr
 have nr:∀{v e C M},dq mR M v e C->∀i∈ids v,i∉ [r]:=fun hv i hi hs=>by
  have hs:=one hs;subst hs;exact hv.new _ hi h.oR
 have hS:∀{w:NV} {l:List Stm} {C:List (List NV)},SS M (TP mR vc vt) w l C->SS (hp [(.o r,.cells true [vl,ii s.a,ii s.e,ii s.b,.bool P.rd,vc,v,vr])] 0 M6) (TP mR vc v) w l C:=fun q=>by
  have q1:SS M (fun i=>TP mR vc vt i/\aw M i) _ _ _:=⟨q.sl,fun i hi=>⟨q.hT i hi,q.sl.old i hi⟩,q.len,fun i x c a b=>(q.R i x c a b).old⟩
  have q2:=q1.stays (m':=M6) (aE.of h6 fun i hi hs=>hi.1.2.2 hs)
  have q3:=q2.stays (aE.of hC fun i hi hs=>by
   have hs:=one hs;subst hs;exact hi.1.1 h.oR)
  exact q3.weak fun i hi=>⟨hi.1.1,hi.1.2.1,fun a=>(hF i a).elim hi.1.2.2 fun z=>z hi.2⟩
 refine ⟨⟨(bF hr6).trans a7,ae hr6⟩,(h.cc.chg h6 h.dd).chg hC (nr h.cc),⟨C++ [[.str n,vb]],hv'.chg hC (nr hv'),by simp[t2],fun j x c a b'=> ?_⟩,⟨D,hS r1⟩,fun i hi ht=>(hF i ht).elim (fun a=>h.dd i hi a) fun z=>z (h.cc.sl.old i hi),fun i hi=>hC.old (h6.old (o5 i hi)),h.oR⟩
 rcases Nat.lt_or_ge j P.ts.length with q|q
 ·rw[List.getElem?_append_left q] at a
  rw[List.getElem?_append_left (by omega)] at b'
  obtain ⟨w,B2,e,q2⟩:=t3 j x c a b'
  exact ⟨w,B2,e,hS q2⟩
 ·rw[List.getElem?_append_right q] at a
  rw[List.getElem?_append_right (by omega),t2] at b'
  cases hj:j - P.ts.length with
  |zero=>rw[hj] at a b';cases a;cases b';exact ⟨vb,B,rfl,hS hb⟩
  |succ k=>rw[hj] at a;simp at a
theorem EC (h:PD mR M r vl s P vc vt vr) {v:NV} {C:List (List NV)} {b:List Stm} (hb:SS M (TP mR vc vt) v b C) {l:List (AK×NO)} (hl:∀i∈aF l,i=r):
 PD mR (hp ((.o r,.cells true [vl,ii s.a,ii s.e,ii s.b,.bool true,vc,vt,v])::l) 0 M) r vl s ⟨P.cs,P.ts,b,true⟩ vc vt v:=by
 have hC:Chg [r] M (hp ((.o r,.cells true [vl,ii s.a,ii s.e,ii s.b,.bool true,vc,vt,v])::l) 0 M):=(aH rfl).weak fun i hi _=>by
  simp only[aF,Q9] at hi ⊢
  rcases hi with rfl|hi
  ·exact Or.inl rfl
  ·exact Or.inl (hl i hi)
 have nr:∀{v e C M},dq mR M v e C->∀i∈ids v,i∉ [r]:=fun hv i hi hs=>by
  have hs:=one hs;subst hs;exact hv.new _ hi h.oR
 obtain ⟨D,t1,t2,t3⟩:=h.tt
 have hst:aE (TP mR vc vt) M (hp ((.o r,.cells true [vl,ii s.a,ii s.e,ii s.b,.bool true,vc,vt,v])::l) 0 M):=aE.of hC fun i hi hs=>by
  have hs:=one hs;subst hs;exact hi.1 h.oR
 exact ⟨⟨(bF h.hd.o).trans a7,ae h.hd.o⟩,h.cc.chg hC (nr h.cc),⟨D,t1.chg hC (nr t1),t2,fun j x c a b=>by obtain ⟨w,B,e,q⟩:=t3 j x c a b;exact ⟨w,B,e,q.stays hst⟩⟩,⟨C,hb.stays hst⟩,h.dd,fun i hi=>hC.old (h.oo i hi),h.oR⟩
end
section
variable {m0 mR:NH} {L:List Tok} {vl vc vt vr:NV} {r:D4}
theorem ME (hc:RC m0 L vl r) (h0R:∀i,aw m0 i->aw mR i) {m:NH} {s:Rs} {P:Ps} (h0:Chg [] m0 m) (hp0:PD mR m r vl s P vc vt vr) (ha:s.a<=L.length) (hcs:P.cs.length<=100000) (hts:P.ts.length<=100000):
 ∃m',a6 Tryz.prog S0 14 [.ptr r 0] m (.tup []) m'/\Chg [] m0 m'/\∃vc' vt' vr',PD mR m' r vl (dJ L P s).2 (dJ L P s).1 vc' vt' vr':=by
 refine WF.ex1 fun K hK=> ?_
 refine WF.of_wpG (fun _=>rfl) zx (L:= [(.e,.ptr r 0)]) rfl ?_
 unfold LB
 have hll:=hc.len
 have hbase:∀{M M':NH},Chg [] m0 M->Chg [r] M M'->Chg [] m0 M':=fun h h'=>hc.chg h h'
 simp only[go_sem,seval,ab]
 refine WF.use1H (dS hc h0 hp0.hd [99,101,108,108] (by simp) (by omega)) ?_
 rintro M1 ⟨hd1,hC1⟩
 unfold dJ at hK
 cases hb:au L [99,101,108,108] s with
 |true=>
  rw[hb,Q5 rfl] at hd1 hK
  have hlt:=(bE hb).2
  have hp1:=hp0.call hC1 hd1
  have h01:=hbase h0 hC1
  simp only[go_sem,seval,ab]
  refine WF.use1H (mw hc h01 hp1.hd (by have:(aa s).a=s.a+1:=rfl;omega)) ?_
  rintro M2 ⟨hd2,hC2⟩
  have hp2:=hp1.call hC2 hd2
  have h02:=hbase h01 hC2
  have hlim2:=(cw L (aa s)).lim hlt
  unfold dH at hK
  generalize aJ L (aa s)=q at hd2 hp2 hlim2 hK
  obtain ⟨n,s2⟩:=q
  dsimp only at hd2 hp2 hlim2 hK
  simp (disch:=first|assumption|omega|(simp only[ay]<;>omega)) only[go_sem,seval]
  generalize hM3:hp _ 1 M2=M3
  have hC3:Chg [] M2 M3:=bf hM3 rfl
  have hg3:M3.get (na M2 0)=some (.cells true [.str n,ii 1]):=bu hM3
  have ho3:aw M3 (na M2 0):=bB hM3 (by omega)
  have hp3:=hp2.grow hC3
  have h03:=h02.trans hC3 (by simp)
  refine WF.use1H (dS hc h03 hp3.hd [91] (by simp) (by omega)) ?_
  rintro M4 ⟨hd4,hC4⟩
  have hr2:na M2 0≠r:=fun e=>hp2.hd.o.ne 0 e.symm
  have hp4:=hp3.call hC4 hd4
  have h04:=hbase h03 hC4
  have hg4:=(hC4.get ho3 (by simpa using hr2)).trans hg3
  have ho4:=hC4.old ho3
  cases hb4:au L [91] s2 with
  |true=>
   rw[hb4,Q5 rfl] at hK hd4
   have hlt4:=(bE hb4).2
   have he4:=(bE hb4).1
   have hC24:Chg [r] M2 M4:=(hC3.weak (by simp)).trans hC4 fun _ h _=>h
   have hp4:=hp2.call hC24 hd4
   simp only[go_sem,seval,ab]
   refine WF.use1H (jF hc h04 hp4.hd) ?_
   intro M5 hC5
   have hC25:Chg [r] M2 M5:=hC24.trans hC5 (by simp)
   have hp5:=hp4.grow hC5
   have h05:=h04.trans hC5 (by simp)
   have hg5:=(hC5.get ho4 (by simp)).trans hg4
   have ho5:=hC5.old ho4
   have hl:(Tok.l (av L (aa s2).a)).length=4:=rfl
   have hdg:=hp5.hd.g
   have hdo:=hp5.hd.o
   have he5:(aa s2).e=0:=he4
   have hlim5:(aa s2).a<=L.length:=hlt4
   have hst:1<=(av L (aa s2).a).k/\(av L (aa s2).a).k<=4->St L (aa s2) (aa (aa s2)):=fun h=>gk (kG (by omega)) he5 h
   generalize hT:av L (aa s2).a=T at hK hl hst
   generalize hs3:aa s2=s3 at hK hp5 hdg he5 hlim5 hst
   have rest:∀{M6:NH} {s6:Rs} {z:Int},Chg [r] M2 M6->RD M6 r vl s6 [.bool P.rd,vc,vt,vr]->s6.a<=L.length->M6.get (na M2 0)=some (.cells true [.str n,ii z])->aw M6 (na M2 0)->
    ∃m',a6 Tryz.prog S0 32 [.ptr r 0,.str [93]] M6 (.tup []) m'/\PD mR m' r vl (aT L [93] s6) P vc vt vr/\Chg [] m0 m'/\(aT L [93] s6).a<=L.length/\m'.get (na M2 0)=some (.cells true [.str n,ii z])/\aw m' (na M2 0):=by
    intro M6 s6 z q1 q2 q3 q4 q5
    obtain ⟨m',w1,w2,w3⟩:=gI hc (hbase h02 q1) q2 [93] (by simp) (by omega)
    have w4:Chg [r] M2 m':=q1.trans w3 fun _ h _=>h
    exact ⟨m',w1,hp2.call w4 w2,hbase h02 w4,(aZ L [93] s6).lim q3,(w3.get q5 (by simpa using hr2)).trans q4,w3.old q5⟩
   have hr2':r≠na M2 0:=fun e=>hr2 e.symm
   have hbn:∀{l:List (AK×NO)} {k:Nat},(∀i∈aF l,i=r∨i=na M2 0)->Chg [r] M2 (hp l k M5):=fun hl=>hC25.trans (aH rfl) fun i hi ho=>(hl i hi).elim (fun h=>by simp[h]) fun h=>Q3 (h▸ho) aD
   by_cases hk:T.k=2
   ·rw[Q5 hk] at hK
    have hst6:=(hst (by omega)).lim hlim5
    by_cases hn:T.n<1048576
    ·have hz:bz T=(T.n:Int):=by unfold bz;rw[Q5 hn]
     rw[hz] at hK
     simp (disch:=first|assumption|omega|(simp only[ay]<;>omega)) only[go_sem,seval,hl,qG,Pb,hdg,hg5]
     generalize hM6:hp _ 1 M5=M6
     have hC26:Chg [r] M2 M6:=by rw[←hM6];exact hbn (by simp[aF])
     have hd6:RD M6 r vl (aa s3) [.bool P.rd,vc,vt,vr]:=⟨by rw[←hM6];exact (bF hdo).trans a7,by rw[←hM6];exact ae hdo⟩
     have hg6:M6.get (na M2 0)=some (.cells true [.str n,ii T.n]):=by rw[←hM6];exact (bF ho5).trans ((fU hr2).trans a7)
     have ho6:aw M6 (na M2 0):=by rw[←hM6];exact ae ho5
     refine WF.use1 (rest hC26 hd6 hst6 hg6 ho6) ?_
     rintro M7 ⟨hp7,h07,hlim7,hg7,ho7⟩
     simp only[go_sem,seval]
     refine WF.use1H (gI hc h07 hp7.hd [59] (by simp) (by omega)) ?_
     rintro M5 ⟨hd5,hC5⟩
     have hp5:=hp7.call hC5 hd5
     have h05:=hbase h07 hC5
     have hg5:=(hC5.get ho7 (by simpa using hr2)).trans hg7
     have ho5:=hC5.old ho7
     have hdg:=hp5.hd.g
     have hdo:=hp5.hd.o
     have hcl:=hp5.cc.sl.one
     have hcs':=hp5.cc.sl.same (n:=3)
     simp (disch:=first|assumption|omega|(simp only[ay]<;>omega)) only[go_sem,seval,hg5,hdg,hcl,hcs']
     have hC6:Chg [] M5 (hp [(.n 0,.cells true [.str n,ii T.n])] 1 M5):=aH rfl
     refine jt (cs:= [.str n,ii T.n]) (B:=mR) (hp5.cc.chg hC6 fun _ _=>by simp) cI (ai (by omega)) rfl (fun i hi=>hC6.old (hp5.oo i hi)) (by simp;omega) (by simp;omega) ?_
     intro v6 M6 hv6 hC7 hF6
     have hg6:=(hC7.get (hC6.old hdo) (fun h=>hp5.cc.new _ h hp5.oR)).trans ((hC6.get hdo (by simp)).trans hdg)
     have ho6:=hC7.old (hC6.old hdo)
     have hPD:=nR (c:=(n,(T.n:Int))) hp5 hC6 hv6 hC7 hF6
     simp (disch:=first|assumption|omega|(simp only[ay]<;>omega)) only[go_sem,seval,hg6,hv6.sl.one]
     refine hK _ ⟨?_,v6,vt,vr,hPD⟩
     refine ((h05.trans hC6 (by simp)).trans hC7 fun i hi ho=>Q3 (h0R i ho) (hp5.cc.new i hi)).trans (aH rfl) fun i hi ho=> ?_
     simp only[aF,Q9,Q8,or_false] at hi
     subst hi;exact Q3 ho hc.no
    ·have hz:bz T=1048576:=by unfold bz;rw[Q4 hn]
     rw[hz] at hK
     simp (disch:=first|assumption|omega|(simp only[ay]<;>omega)) only[go_sem,seval,hl,qG,Pb,hdg,hg5]
     generalize hM6:hp _ 1 M5=M6
     have hC26:Chg [r] M2 M6:=by rw[←hM6];exact hbn (by simp[aF])
     have hd6:RD M6 r vl (aa s3) [.bool P.rd,vc,vt,vr]:=⟨by rw[←hM6];exact (bF hdo).trans a7,by rw[←hM6];exact ae hdo⟩
     have hg6:M6.get (na M2 0)=some (.cells true [.str n,ii 1048576]):=by rw[←hM6];exact (bF ho5).trans ((fU hr2).trans a7)
     have ho6:aw M6 (na M2 0):=by rw[←hM6];exact ae ho5
     refine WF.use1 (rest hC26 hd6 hst6 hg6 ho6) ?_
     rintro M7 ⟨hp7,h07,hlim7,hg7,ho7⟩
     simp only[go_sem,seval]
     refine WF.use1H (gI hc h07 hp7.hd [59] (by simp) (by omega)) ?_
     rintro M5 ⟨hd5,hC5⟩
     have hp5:=hp7.call hC5 hd5
     have h05:=hbase h07 hC5
     have hg5:=(hC5.get ho7 (by simpa using hr2)).trans hg7
     have ho5:=hC5.old ho7
     have hdg:=hp5.hd.g
     have hdo:=hp5.hd.o
     have hcl:=hp5.cc.sl.one
     have hcs':=hp5.cc.sl.same (n:=3)
     simp (disch:=first|assumption|omega|(simp only[ay]<;>omega)) only[go_sem,seval,hg5,hdg,hcl,hcs']
     have hC6:Chg [] M5 (hp [(.n 0,.cells true [.str n,ii 1048576])] 1 M5):=aH rfl
     refine jt (cs:= [.str n,ii 1048576]) (B:=mR) (hp5.cc.chg hC6 fun _ _=>by simp) cI (ai (by omega)) rfl (fun i hi=>hC6.old (hp5.oo i hi)) (by simp;omega) (by simp;omega) ?_
     intro v6 M6 hv6 hC7 hF6
     have hg6:=(hC7.get (hC6.old hdo) (fun h=>hp5.cc.new _ h hp5.oR)).trans ((hC6.get hdo (by simp)).trans hdg)
     have ho6:=hC7.old (hC6.old hdo)
     have hPD:=nR (c:=(n,1048576)) hp5 hC6 hv6 hC7 hF6
     simp (disch:=first|assumption|omega|(simp only[ay]<;>omega)) only[go_sem,seval,hg6,hv6.sl.one]
     refine hK _ ⟨?_,v6,vt,vr,hPD⟩
     refine ((h05.trans hC6 (by simp)).trans hC7 fun i hi ho=>Q3 (h0R i ho) (hp5.cc.new i hi)).trans (aH rfl) fun i hi ho=> ?_
     simp only[aF,Q9,Q8,or_false] at hi
     subst hi;exact Q3 ho hc.no
   ·rw[Q4 hk] at hK
    simp (disch:=first|assumption|omega|(simp only[ay]<;>omega)) only[go_sem,seval,hl,qG,Pb,hdg,hg5]
    generalize hM6:hp _ 1 M5=M6
    have hC6:Chg [] M5 M6:=bf hM6 rfl
    refine WF.use1 (iq (hp5.grow hC6).hd 2) ?_
    rintro M6' ⟨hd6,hC6'⟩
    have hC26:Chg [r] M2 M6':=(hC25.trans hC6 (by simp)).trans hC6' fun _ h _=>h
    have hg6:=(hC6'.get (hC6.old ho5) (by simpa using hr2)).trans ((hC6.get ho5 (by simp)).trans hg5)
    have ho6:=hC6'.old (hC6.old ho5)
    simp only[go_sem,seval]
    refine WF.use1 (rest hC26 hd6 ((bS L 2 s3).lim hlim5) hg6 ho6) ?_
    rintro M7 ⟨hp7,h07,hlim7,hg7,ho7⟩
    simp only[go_sem,seval]
    refine WF.use1H (gI hc h07 hp7.hd [59] (by simp) (by omega)) ?_
    rintro M5 ⟨hd5,hC5⟩
    have hp5:=hp7.call hC5 hd5
    have h05:=hbase h07 hC5
    have hg5:=(hC5.get ho7 (by simpa using hr2)).trans hg7
    have ho5:=hC5.old ho7
    have hdg:=hp5.hd.g
    have hdo:=hp5.hd.o
    have hcl:=hp5.cc.sl.one
    have hcs':=hp5.cc.sl.same (n:=3)
    simp (disch:=first|assumption|omega|(simp only[ay]<;>omega)) only[go_sem,seval,hg5,hdg,hcl,hcs']
    have hC6:Chg [] M5 (hp [(.n 0,.cells true [.str n,ii 1])] 1 M5):=aH rfl
    refine jt (cs:= [.str n,ii 1]) (B:=mR) (hp5.cc.chg hC6 fun _ _=>by simp) cI (ai (by omega)) rfl (fun i hi=>hC6.old (hp5.oo i hi)) (by simp;omega) (by simp;omega) ?_
    intro v6 M6 hv6 hC7 hF6
    have hg6:=(hC7.get (hC6.old hdo) (fun h=>hp5.cc.new _ h hp5.oR)).trans ((hC6.get hdo (by simp)).trans hdg)
    have ho6:=hC7.old (hC6.old hdo)
    have hPD:=nR (c:=(n,1)) hp5 hC6 hv6 hC7 hF6
    simp (disch:=first|assumption|omega|(simp only[ay]<;>omega)) only[go_sem,seval,hg6,hv6.sl.one]
    refine hK _ ⟨?_,v6,vt,vr,hPD⟩
    refine ((h05.trans hC6 (by simp)).trans hC7 fun i hi ho=>Q3 (h0R i ho) (hp5.cc.new i hi)).trans (aH rfl) fun i hi ho=> ?_
    simp only[aF,Q9,Q8,or_false] at hi
    subst hi;exact Q3 ho hc.no
  |false=>
   rw[hb4,Q4 Bool.false_ne_true] at hK hd4
   have hp4:=hp3.call hC4 hd4
   simp only[go_sem,seval,ab]
   refine WF.use1H (gI hc h04 hp4.hd [59] (by simp) (by omega)) ?_
   rintro M5 ⟨hd5,hC5⟩
   have hp5:=hp4.call hC5 hd5
   have h05:=hbase h04 hC5
   have hg5:=(hC5.get ho4 (by simpa using hr2)).trans hg4
   have ho5:=hC5.old ho4
   have hdg:=hp5.hd.g
   have hdo:=hp5.hd.o
   have hcl:=hp5.cc.sl.one
   have hcs':=hp5.cc.sl.same (n:=3)
   simp (disch:=first|assumption|omega|(simp only[ay]<;>omega)) only[go_sem,seval,hg5,hdg,hcl,hcs']
   have hC6:Chg [] M5 (hp [(.n 0,.cells true [.str n,ii 1])] 1 M5):=aH rfl
   refine jt (cs:= [.str n,ii 1]) (B:=mR) (hp5.cc.chg hC6 fun _ _=>by simp) cI (ai (by omega)) rfl (fun i hi=>hC6.old (hp5.oo i hi)) (by simp;omega) (by simp;omega) ?_
   intro v6 M6 hv6 hC7 hF6
   have hg6:=(hC7.get (hC6.old hdo) (fun h=>hp5.cc.new _ h hp5.oR)).trans ((hC6.get hdo (by simp)).trans hdg)
   have ho6:=hC7.old (hC6.old hdo)
   have hPD:=nR (c:=(n,1)) hp5 hC6 hv6 hC7 hF6
   simp (disch:=first|assumption|omega|(simp only[ay]<;>omega)) only[go_sem,seval,hg6,hv6.sl.one]
   refine hK _ ⟨?_,v6,vt,vr,hPD⟩
   refine ((h05.trans hC6 (by simp)).trans hC7 fun i hi ho=>Q3 (h0R i ho) (hp5.cc.new i hi)).trans (aH rfl) fun i hi ho=> ?_
   simp only[aF,Q9,Q8,or_false] at hi
   subst hi;exact Q3 ho hc.no
 |false=>
  have ne1:¬(au L [99,101,108,108] s=true):=by rw[hb];exact Bool.false_ne_true
  rw[hb,Q4 Bool.false_ne_true] at hd1
  rw[Q4 ne1] at hK
  have hp1:=hp0.call hC1 hd1
  have h01:=hbase h0 hC1
  simp only[go_sem,seval,ab]
  refine WF.use1H (dS hc h01 hp1.hd [116,104,114,101,97,100] (by simp) (by omega)) ?_
  rintro M2 ⟨hd2,hC2⟩
  have h02:=hbase h01 hC2
  have tpw:∀{M:NH},PD mR M r vl s P vc vt vr->True:=fun _=>trivial
  cases hb2:au L [116,104,114,101,97,100] s with
  |true=>
   rw[hb2,Q5 rfl] at hd2 hK
   have hlt:=(bE hb2).2
   have hp2:=hp1.call hC2 hd2
   simp only[go_sem,seval,ab]
   refine WF.use1H (mw hc h02 hp2.hd (by have:(aa s).a=s.a+1:=rfl;omega)) ?_
   rintro M3 ⟨hd3,hC3⟩
   have hp3:=hp2.call hC3 hd3
   have h03:=hbase h02 hC3
   have hlim3:=(cw L (aa s)).lim hlt
   unfold fD at hK
   generalize aJ L (aa s)=q at hd3 hp3 hlim3 hK
   obtain ⟨n,s3⟩:=q
   dsimp only at hd3 hp3 hlim3 hK
   simp (disch:=first|assumption|omega|(simp only[ay]<;>omega)) only[go_sem,seval]
   generalize hM4:hp _ 1 M3=M4
   have hC4:Chg [] M3 M4:=bf hM4 rfl
   have hg4:M4.get (na M3 0)=some (.cells true [.str n,.nils]):=bu hM4
   have ho4:aw M4 (na M3 0):=bB hM4 (by omega)
   have hr3:na M3 0≠r:=fun e=>hp3.hd.o.ne 0 e.symm
   have hp4:=hp3.grow hC4
   have h04:=h03.trans hC4 (by simp)
   refine WF.useH (Fj hc 30 (Nat.le_refl _) h04 hp4.hd hlim3) ?_
   rintro v5 M5 ⟨⟨C5,hb5⟩,hd5,hC5⟩
   generalize bC L 30 s3=q at hb5 hd5 hK
   obtain ⟨b,s5⟩:=q
   dsimp only at hb5 hd5 hK
   have hg5:=(hC5.get ho4 (by simpa using hr3)).trans hg4
   have ho5:=hC5.old ho4
   have hC35:Chg [r] M3 M5:=(hC4.weak (by simp)).trans hC5 fun _ h _=>h
   have hp5:=hp3.call hC35 hd5
   have hdg:=hp5.hd.g
   have hdo:=hp5.hd.o
   obtain ⟨CT,t1,t2,-⟩:=hp5.tt
   have hcl:=t1.sl.one
   have hcs':=t1.sl.same (n:=3)
   have hr3':r≠na M3 0:=fun e=>hr3 e.symm
   obtain ⟨CT4,t41,-,-⟩:=hp4.tt
   have hbT:SS M5 (fun i=>TP mR vc vt i/\i≠na M3 0) v5 b C5:=hb5.weak fun i hi=>⟨⟨fun h=>hi (hp4.oo i h),fun h=>hi (hp4.cc.sl.old i h),fun h=>hi (t41.sl.old i h)⟩,fun h=>hi (h▸ho4)⟩
   simp (disch:=first|assumption|omega|(simp only[ay]<;>omega)) only[go_sem,seval,hg5,hdg,hb5.sl.one,hcl,hcs']
   have hCb:Chg [na M3 0] M5 (hp [(.n 0,.cells true [.str n,v5]),(.o (na M3 0),.cells true [.str n,v5])] 1 M5):=aH rfl
   have hxb:(hp [(.n 0,.cells true [.str n,v5]),(.o (na M3 0),.cells true [.str n,v5])] 1 M5).get (na M5 0)=some (.cells true [.str n,v5]):=cI
   have hob:aw (hp [(.n 0,.cells true [.str n,v5]),(.o (na M3 0),.cells true [.str n,v5])] 1 M5) (na M5 0):=ai (by omega)
   generalize hp [(.n 0,.cells true [.str n,v5]),(.o (na M3 0),.cells true [.str n,v5])] 1 M5=Mb at hCb hxb hob ⊢
   have hCb3:Chg [r] M3 Mb:=hC35.trans hCb fun i hi ho=>by
    have hi:=one hi;subst hi;exact Q3 ho aD
   have hpb:=hp3.call hCb3 (hd5.chg hCb (by simpa using hr3'))
   have h0b:=hbase h03 hCb3
   have hbb:SS Mb (TP mR vc vt) v5 b C5:=(hbT.stays (aE.of hCb fun i hi hs=>by
    simp only[Q9,Q8,or_false] at hs;exact hi.2 hs)).weak fun i hi=>hi.1
   obtain ⟨CTb,Mm,tb2,tb3⟩:=hpb.tt
   have hdgb:=hpb.hd.g
   have hdob:=hpb.hd.o
   refine jt (cs:= [.str n,v5]) (B:=mR) Mm hxb hob rfl (fun i hi=>hpb.oo i hi) (by omega) (by omega) ?_
   intro v6 M6 hv6 hC7 hF6
   have hg6:=(hC7.get hdob (fun h=>Mm.new _ h hpb.oR)).trans hdgb
   have ho6:=hC7.old hdob
   have hPD:=BS (n:=n) hpb hbb Mm tb2 tb3 hv6 hC7 hF6
   simp (disch:=first|assumption|omega|(simp only[ay]<;>omega)) only[go_sem,seval,hg6,hv6.sl.one]
   refine hK _ ⟨?_,vc,v6,vr,hPD⟩
   refine (h0b.trans hC7 fun i hi ho=>Q3 (h0R i ho) (Mm.new i hi)).trans (aH rfl) fun i hi ho=> ?_
   simp only[aF,Q9,Q8,or_false] at hi
   subst hi;exact Q3 ho hc.no
  |false=>
   have ne2:¬(au L [116,104,114,101,97,100] s=true):=by rw[hb2];exact Bool.false_ne_true
   rw[hb2,Q4 Bool.false_ne_true] at hd2
   rw[Q4 ne2] at hK
   have hp2:=hp1.call hC2 hd2
   have hdg:=hp2.hd.g
   have hl0:(av L s.a).l[0]? =some (ii (av L s.a).k):=rfl
   have hl1:(av L s.a).l[1]? =some (.str (av L s.a).t):=rfl
   unfold pK at hK
   have fin:∀{M:NH},PD mR M r vl (a8 L P.rd s) P vc vt vr->Chg [] m0 M->∃m',a6 Tryz.prog S0 32 [.ptr r 0,.str cv] M (.tup []) m'/\PD mR m' r vl (aT L cv (a8 L P.rd s)) P vc vt vr/\Chg [] m0 m':=by
    intro M q1 q2
    have ha2:(a8 L P.rd s).a<=100000:=by
     have h1:St L s (a8 L P.rd s):=by unfold a8;split;exact bS _ _ _;exact St.refl _ _
     have:=h1.lim ha
     omega
    obtain ⟨m',w1,w2,w3⟩:=gI hc q2 q1.hd cv (by simp) ha2
    exact ⟨m',w1,q1.call w3 w2,hbase q2 w3⟩
   have hst3:(aT L cv (a8 L P.rd s)).a<=L.length:=by
    have h1:St L s (a8 L P.rd s):=by unfold a8;split;exact bS _ _ _;exact St.refl _ _
    exact (h1.trans (aZ _ _ _)).lim ha
   have fin2:∀{M:NH},PD mR M r vl (aT L cv (a8 L P.rd s)) P vc vt vr->Chg [] m0 M->PD mR (hp [(.o r,.cells true [vl,ii (aT L cv (a8 L P.rd s)).a,ii (aT L cv (a8 L P.rd s)).e,ii (aT L cv (a8 L P.rd s)).b,.bool true,vc,vt,vr])] 0 M) r vl (aT L cv (a8 L P.rd s)) ⟨P.cs,P.ts,P.rc,true⟩ vc vt vr/\Chg [] m0 (hp [(.o r,.cells true [vl,ii (aT L cv (a8 L P.rd s)).a,ii (aT L cv (a8 L P.rd s)).e,ii (aT L cv (a8 L P.rd s)).b,.bool true,vc,vt,vr])] 0 M):=by
    intro M q1 q2
    obtain ⟨C,q3⟩:=q1.rr
    exact ⟨EC q1 q3 (by simp[aF]),hbase q2 (aH rfl)⟩
   have fin3:∀{M:NH},PD mR M r vl (aT L cv (a8 L P.rd s)) ⟨P.cs,P.ts,P.rc,true⟩ vc vt vr->Chg [] m0 M->∃v m',a6 Tryz.prog S0 33 [.ptr r 0,ii 0] M v m'/\cellsOf v=some [v]/\m'.get r=some (.cells true [vl,ii (bC L 30 (aT L cv (a8 L P.rd s))).2.a,ii (bC L 30 (aT L cv (a8 L P.rd s))).2.e,ii (bC L 30 (aT L cv (a8 L P.rd s))).2.b,.bool true,vc,vt,vr])/\aw m' r/\
    K (.tup []) (hp [(.o r,.cells true [vl,ii (bC L 30 (aT L cv (a8 L P.rd s))).2.a,ii (bC L 30 (aT L cv (a8 L P.rd s))).2.e,ii (bC L 30 (aT L cv (a8 L P.rd s))).2.b,.bool true,vc,vt,v])] 0 m'):=by
    intro M q1 q2
    obtain ⟨v,m',w1,⟨C,w2⟩,w3,w4⟩:=Fj hc 30 (Nat.le_refl _) q2 q1.hd hst3
    have q3:=q1.call w4 w3
    obtain ⟨CT,t1,-,-⟩:=q1.tt
    have w5:SS m' (TP mR vc vt) v (bC L 30 (aT L cv (a8 L P.rd s))).1 C:=w2.weak fun i hi=>⟨fun h=>hi (q1.oo i h),fun h=>hi (q1.cc.sl.old i h),fun h=>hi (t1.sl.old i h)⟩
    refine ⟨v,m',w1,w2.sl.one,w3.g,w3.o,hK _ ⟨(hbase q2 w4).trans (aH rfl) fun i hi ho=> ?_,vc,vt,v,EC q3 w5 (by simp[aF])⟩⟩
    simp only[aF,Q9,Q8,or_false] at hi
    subst hi;exact Q3 ho hc.no
   have no:∀{M},PD mR M r vl s P vc vt vr->¬(P.rd=true/\(av L s.a).k=4/\(av L s.a).t=cv)->PD mR M r vl (a8 L P.rd s) P vc vt vr:=fun h q=>by rw[a8,Q4 q];exact h
   cases hrd:P.rd with
   |false=>
    rw[hrd] at hdg
    simp only[go_sem,seval,hdg,ab]
    refine WF.use1H (fin (no hp2 (by rw[hrd];simp)) h02) ?_
    rintro M7 ⟨hp7,h07⟩
    have hdg7:=hp7.hd.g
    have hdo7:=hp7.hd.o
    obtain ⟨hp8,h08⟩:=fin2 hp7 h07
    obtain ⟨v9,M9,hr9,hv9,hg9,ho9,hK9⟩:=fin3 hp8 h08
    simp (disch:=first|assumption|omega|(simp only[ay]<;>omega)) only[go_sem,seval,hdg7,hr9.wf,hv9,hg9]
    exact hK9
   |true=>
    rw[hrd] at hdg
    obtain ⟨M3,hr3,hC3⟩:=jF hc h02 hp2.hd
    have hp3:=hp2.grow hC3
    have h03:=h02.trans hC3 (by simp)
    obtain ⟨M4,hr4,hC4⟩:=jF hc h03 hp3.hd
    have hp4:=hp3.grow hC4
    have h04:=h03.trans hC4 (by simp)
    by_cases hk:(av L s.a).k=4
    ·by_cases ht:(av L s.a).t=cv
     ·simp (disch:=first|assumption|omega) only[go_sem,seval,hdg,hr3.wf',hr4.wf',hl0,hl1,ab]
      refine WF.use1 (iq hp4.hd 5) ?_
      rintro M5 ⟨hd5,hC5⟩
      have hp5:=hp4.call hC5 hd5
      have e5:a8 L P.rd s=aV 5 s:=by rw[a8,Q5 ⟨hrd,hk,ht⟩]
      simp only[go_sem,seval]
      refine WF.use1H (fin (by rw[e5];exact hp5) (hbase h04 hC5)) ?_
      rintro M7 ⟨hp7,h07⟩
      have hdg7:=hp7.hd.g
      have hdo7:=hp7.hd.o
      obtain ⟨hp8,h08⟩:=fin2 hp7 h07
      obtain ⟨v9,M9,hr9,hv9,hg9,ho9,hK9⟩:=fin3 hp8 h08
      simp (disch:=first|assumption|omega|(simp only[ay]<;>omega)) only[go_sem,seval,hdg7,hr9.wf,hv9,hg9]
      exact hK9
     ·simp (disch:=first|assumption|omega) only[go_sem,seval,hdg,hr3.wf',hr4.wf',hl0,hl1,ab]
      refine WF.use1H (fin (no hp4 fun h=>ht h.2.2) h04) ?_
      rintro M7 ⟨hp7,h07⟩
      have hdg7:=hp7.hd.g
      have hdo7:=hp7.hd.o
      obtain ⟨hp8,h08⟩:=fin2 hp7 h07
      obtain ⟨v9,M9,hr9,hv9,hg9,ho9,hK9⟩:=fin3 hp8 h08
      simp (disch:=first|assumption|omega|(simp only[ay]<;>omega)) only[go_sem,seval,hdg7,hr9.wf,hv9,hg9]
      exact hK9
    ·simp (disch:=first|assumption|omega) only[go_sem,seval,hdg,hr3.wf',hr4.wf',hl0,hl1,ab]
     refine WF.use1H (fin (no hp3 fun h=>hk h.2.1) h03) ?_
     rintro M7 ⟨hp7,h07⟩
     have hdg7:=hp7.hd.g
     have hdo7:=hp7.hd.o
     obtain ⟨hp8,h08⟩:=fin2 hp7 h07
     obtain ⟨v9,M9,hr9,hv9,hg9,ho9,hK9⟩:=fin3 hp8 h08
     simp (disch:=first|assumption|omega|(simp only[ay]<;>omega)) only[go_sem,seval,hdg7,hr9.wf,hv9,hg9]
     exact hK9
end
end FR
open Go Nm Go.Proofs
namespace FR
def aW (L:List Tok):Nat->Ps->Rs->Ps×Rs
 |0,P,s=>(P,s)
 |f+1,P,s=>if s.e≠0 then (P,s) else if (av L s.a).k=5 then (P,s) else aW L f (dJ L P s).1 (dJ L P s).2
def cC (b:List Nat):Option Prg×Nat×Nat:=if 16384<b.length then (none,0,3) else match (bn b).2 with
 |some a=>(none,a,2)
 |none=>if (aW (bn b).1 ((bn b).1.length+1) ⟨[], [], [],false⟩ ⟨0,0,0⟩).2.e≠0 then (none,(av (bn b).1 (aW (bn b).1 ((bn b).1.length+1) ⟨[], [], [],false⟩ ⟨0,0,0⟩).2.b).p,(aW (bn b).1 ((bn b).1.length+1) ⟨[], [], [],false⟩ ⟨0,0,0⟩).2.e)
  else (some ⟨(aW (bn b).1 ((bn b).1.length+1) ⟨[], [], [],false⟩ ⟨0,0,0⟩).1.cs,(aW (bn b).1 ((bn b).1.length+1) ⟨[], [], [],false⟩ ⟨0,0,0⟩).1.ts,(aW (bn b).1 ((bn b).1.length+1) ⟨[], [], [],false⟩ ⟨0,0,0⟩).1.rc⟩,b.length,0)
section
variable {L:List Tok}
theorem nK (s:Rs):St L s (dH L s).2:=by
 unfold dH
 split
 ·rename_i h
  have h1:=(cw L s).trans (cF h)
  split
  ·rename_i h2
   exact ((h1.trans (gk (kG (by omega)) (bE h).1 (by omega))).trans (aZ _ _ _)).trans (aZ _ _ _)
  ·exact ((h1.trans (bS _ _ _)).trans (aZ _ _ _)).trans (aZ _ _ _)
 ·exact (cw L s).trans (aZ _ _ _)
theorem ra (s:Rs):St L s (fD L s).2:=(cw L s).trans (bN 30 _)
theorem pL (q:Bool) (s:Rs):St L s (a8 L q s):=by unfold a8;split;exact bS _ _ _;exact St.refl _ _
theorem Kg (q:Bool) (s:Rs):St L s (pK L q s).2:=((pL q s).trans (aZ _ _ _)).trans (bN 30 _)
theorem FQ (P:Ps) (s:Rs):St L s (dJ L P s).2:=by
 unfold dJ
 split
 ·exact (cF ‹_›).trans (nK _)
 ·split
  ·exact (cF ‹_›).trans (ra _)
  ·exact Kg _ _
theorem L6 (P:Ps) (s:Rs) (he:s.e=0):s.a<(dJ L P s).2.a∨(dJ L P s).2.e≠0:=by
 unfold dJ
 split
 ·left;have:=(nK (L:=L) (aa s)).le;exact this
 ·split
  ·left;have:=(ra (L:=L) (aa s)).le;exact this
  ·have hb:=bN (L:=L) 30 (aT L cv (a8 L P.rd s))
   by_cases h:(aT L cv (a8 L P.rd s)).e=0
   ·left
    obtain ⟨h1,h2⟩:=eF h
    have h3:=(pL (L:=L) P.rd s).le
    have h4:=hb.le
    show s.a<(bC L 30 _).2.a
    omega
   ·right;show (bC L 30 _).2.e≠0
    rw[hb.err h];exact h
theorem yZ (P:Ps) (s:Rs):(dJ L P s).1.cs.length+(dJ L P s).1.ts.length<=P.cs.length+P.ts.length+1:=by
 unfold dJ
 split
 ·simp;omega
 ·split
  ·simp;omega
  ·dsimp only;omega
theorem tz:∀(f:Nat) (P:Ps) (s:Rs),St L s (aW L f P s).2:=by
 intro f
 induction f with
 |zero=>exact fun P s=>St.refl _ _
 |succ f ih=>
  intro P s
  rw[aW]
  split
  ·exact St.refl _ _
  ·split
   ·exact St.refl _ _
   ·exact (FQ P s).trans (ih _ _)
def Ps.sz (P:Ps):Nat:=(P.ts.map fun t=>fF t.2).sum+fF P.rc
theorem J9 (P:Ps) (s:Rs) (h:(dJ L P s).2.e=0) (hrd:P.rd=false->P.rc= []):(dJ L P s).1.sz+4*s.a<=P.sz+4*(dJ L P s).2.a/\((dJ L P s).1.rd=false->(dJ L P s).1.rc= []):=by
 unfold dJ at h ⊢
 split
 ·have:=(nK (L:=L) (aa s)).le
  have n:(aa s).a=s.a+1:=rfl
  refine ⟨?_,hrd⟩
  simp only[Ps.sz];omega
 ·rename_i q;rw[Q4 q] at h
  split
  ·rename_i q2;rw[Q5 q2] at h
   have h1:=Az (L:=L) 30 (aJ L (aa s)).2 h
   have h2:=(cw L (aa s)).le
   have n:(aa s).a=s.a+1:=rfl
   refine ⟨?_,hrd⟩
   simp only[Ps.sz,List.map_append,List.map_cons,List.map_nil,List.sum_append,List.sum_cons,List.sum_nil,fD];omega
  ·rename_i q2;rw[Q4 q2] at h
   have h1:=Az (L:=L) 30 _ h
   have h0:=(bN (L:=L) 30 _).zero h
   obtain ⟨h2,h3⟩:=eF h0
   have h4:=(pL (L:=L) P.rd s).zero h2
   have h5:(a8 L P.rd s).a=s.a:=by unfold a8;split;unfold aV;split<;>rfl;rfl
   refine ⟨?_,fun h=>by simp at h⟩
   simp only[Ps.sz,pK];omega
theorem HP:∀(f:Nat) (P:Ps) (s:Rs) (a0:Nat),(P.rd=false->P.rc= [])->(s.e=0->P.sz+4*a0<=4*s.a)->(aW L f P s).2.e=0->(aW L f P s).1.sz+4*a0<=4*(aW L f P s).2.a:=by
 intro f
 induction f with
 |zero=>intro P s a0 _ h h2;exact h h2
 |succ f ih=>
  intro P s a0 hrd h
  rw[aW]
  split
  ·intro h2;exact Q3 h2 ‹_›
  ·split
   ·intro h2;exact h h2
   ·intro h2
    have h3:=(tz (L:=L) f _ _).zero h2
    have h4:=J9 P s h3 hrd
    refine ih _ _ a0 h4.2 (fun _=> ?_) h2
    have:=h (by omega)
    omega
end
section
variable {m0 mR:NH} {L:List Tok} {vl:NV} {r:D4}
theorem BY (hc:RC m0 L vl r) (h0R:∀i,aw m0 i->aw mR i) {vb:NV} {X:Ps} {Z:Rs} {M:NH} {P:Ps} {s:Rs} {vc vt vr:NV} (h0:Chg [] m0 M) (hp:PD mR M r vl s P vc vt vr) (ha:s.a<=L.length) (hl:P.cs.length+P.ts.length=0) (hE:aW L (L.length+1) P s=(X,Z))
 {o:D4} {t:Tm} (g1:NT.get D4.e t=some vb) (g2:NT.get D4.e.a.f t=some (.ptr r 0)) (g3:NT.get D4.e.b t=some (.ptr o 0)) (g4:NT.get D4.e.a.a t=some vl) {Q:Out->Dyn->Prop}
 (hQ:∀t' M' vc vt vr,NT.get D4.e t'=some vb->NT.get D4.e.a.f t'=some (.ptr r 0)->NT.get D4.e.b t'=some (.ptr o 0)->NT.get D4.e.a.a t'=some vl->PD mR M' r vl Z X vc vt vr->Chg [] m0 M'->Q (.exit 0) ⟨am [] t', [],none,M'⟩):
 W Tryz.prog S0 none xr.loop ⟨t, [],none,M⟩ Q:=by
 refine W.loop (fun k D=>∃t M P s vc vt vr,D=⟨t, [],none,M⟩/\NT.get D4.e t=some vb/\NT.get D4.e.a.f t=some (.ptr r 0)/\NT.get D4.e.b t=some (.ptr o 0)/\NT.get D4.e.a.a t=some vl/\PD mR M r vl s P vc vt vr/\Chg [] m0 M/\s.a<=L.length/\aW L k P s=(X,Z)/\(L.length<k+s.a∨s.e≠0)/\P.cs.length+P.ts.length+k<=L.length+1) ?_ (L.length+1) _ ⟨t,M,P,s,vc,vt,vr,rfl,g1,g2,g3,g4,hp,h0,ha,hE,Or.inl (by omega),by omega⟩
 clear h0 hp ha hl hE g1 g2 g3 g4
 rintro k D ⟨t,M,P,s,vc,vt,vr,rfl,g1,g2,g3,g4,hp,h0,ha,hE,hf,hlk⟩
 apply aM
 unfold xr
 change wp _ _ _ _ ⟨am [] t, [],none,M⟩ _
 have hll:=hc.len
 have hdg:=hp.hd.g
 by_cases he:s.e=0
 ·obtain ⟨f,rfl⟩:∃f',k=f'+1:=⟨k - 1,by rcases hf with h|h<;>omega⟩
  rw[aW,Q4 (by omega)] at hE
  obtain ⟨M2,hr2,hC2⟩:=jF hc h0 hp.hd
  have hp2:=hp.grow hC2
  have h02:=h0.trans hC2 (by simp)
  have hl0:(av L s.a).l[0]? =some (ii (av L s.a).k):=rfl
  by_cases hk:(av L s.a).k=5
  ·rw[Q5 hk] at hE
   injection hE with e1 e2
   subst e1 e2
   simp (disch:=first|assumption|omega) only[go_sem,seval,g1,g2,g3,g4,hdg,hr2.wf',hl0]
   exact hQ _ M2 vc vt vr (by simp only[go_sem,seval,g1]) (by simp only[go_sem,seval,g2]) (by simp only[go_sem,seval,g3]) (by simp only[go_sem,seval,g4]) hp2 h02
  ·rw[Q4 hk] at hE
   simp (disch:=first|assumption|omega) only[go_sem,seval,g1,g2,g3,g4,hdg,hr2.wf',hl0]
   refine WF.use1 (ME hc h0R h02 hp2 ha (by omega) (by omega)) ?_
   rintro M3 ⟨h03,vc',vt',vr',hp3⟩
   have hpr:=L6 (L:=L) P s he
   have hlim:=(FQ (L:=L) P s).lim ha
   have hlen:=yZ (L:=L) P s
   simp only[go_sem,seval]
   refine ⟨f,by omega,_,M3,_,_,vc',vt',vr',by rfl,by simp only[go_sem,seval,g1],by simp only[go_sem,seval,g2],by simp only[go_sem,seval,g3],by simp only[go_sem,seval,g4],hp3,h03,hlim,hE, ?_,by omega⟩
   rcases hpr with h|h
   ·left;rcases hf with q|q<;>omega
   ·exact Or.inr h
 ·have hde':decide ((s.e:Int)=0)=false:=Q6 (by omega)
  have hE':(P,s)=(X,Z):=by
   cases k with
   |zero=>exact hE
   |succ k=>rw[aW,Q5 he] at hE;exact hE
  injection hE' with e1 e2
  subst e1 e2
  simp only[go_sem,seval,g1,g2,g3,g4,hdg,hde']
  exact hQ _ M vc vt vr (by simp only[go_sem,seval,g1]) (by simp only[go_sem,seval,g2]) (by simp only[go_sem,seval,g3]) (by simp only[go_sem,seval,g4]) hp h0
theorem uR:∀(l:List Tok) (b:List Nat) (w:Int),Mo b w l->∀a,1<=(av l a).k->(av l a).k<=4->a<l.length - 1:=by
 intro l
 induction l with
 |nil=>intro b w _ a h1;simp[av] at h1
 |cons x l ih=>
  intro b w h a h1 h2
  obtain ⟨-,-,-,-,h5,h6⟩:=h
  cases a with
  |zero=>
   have e:av (x::l) 0=x:=rfl
   rw[e] at h1 h2
   have:l≠ []:=fun q=>by have:=h5.mpr q;omega
   have:=List.length_pos_iff.mpr this
   simp;omega
  |succ a=>
   have e:av (x::l) (a+1)=av l a:=by simp[av]
   rw[e] at h1 h2
   have:=ih b x.p h6 a h1 h2
   simp;omega
theorem CH {m:NH} {v:NV} {b:List Nat} (hv:Sl m v 1 (gi b)) (hb:∀c∈b,c<256):
 ∃w m',a6 Tryz.prog S0 5 [v] m w m'/\(∃vc vt vr,w= .tup [.agg [vc,vt,vr],ii (cC b).2.1,ii (cC b).2.2]/\(match (cC b).1 with|none=>vc= .nils/\vt= .nils/\vr= .nils/\(cC b).2.2≠0|some p=>RP m' (eB m) p vc vt vr/\(cC b).2.2=0/\p.cs.length+p.ts.length<=b.length+2/\(p.ts.map fun t=>fF t.2).sum+fF p.r<=4*(b.length+1)))/\Chg [] m m':=by
 refine WF.ex fun K hK=> ?_
 refine WF.of_wpG (fun _=>rfl) DI (L:= [(.e,v)]) rfl ?_
 unfold Qr
 have hlen:=hv.len
 rw[show (gi b).length=b.length by simp] at hlen
 simp only[go_sem,seval]
 generalize hM1:hp _ 1 m=M1
 have hC1:Chg [] m M1:=bf hM1 rfl
 have hg1:M1.get (na m 0)=some (.cells true [.nils,.nils,.nils]):=bu hM1
 have ho1:aw M1 (na m 0):=bB hM1 (by omega)
 obtain ⟨w2,M2,hr2,hw2,hC2⟩:=E3 M1 (hv.chg hC1 fun _ _=>by simp) hb
 have hg2:=(hC2.get ho1 (by simp)).trans hg1
 have ho2:=hC2.old ho1
 have hC02:=hC1.trans hC2 (by simp)
 unfold cC at hK
 by_cases h16:16384<b.length
 ·rw[Q5 h16] at hw2 hK
  subst hw2
  simp (disch:=first|assumption|omega|(simp only[ay]<;>omega)) only[go_sem,seval,hr2.wf,hg2]
  exact hK _ _ ⟨⟨.nils,.nils,.nils,rfl,rfl,rfl,rfl,by show (3:Nat)≠0;omega⟩,hC02.trans (aH rfl) (by simp[aF,aD])⟩
 ·rw[Q4 h16] at hw2 hK
  cases ht:(bn b).2 with
  |some a=>
   rw[ht] at hw2 hK
   dsimp only at hw2 hK
   subst hw2
   simp (disch:=first|assumption|omega|(simp only[ay]<;>omega)) only[go_sem,seval,hr2.wf,hg2]
   exact hK _ _ ⟨⟨.nils,.nils,.nils,rfl,rfl,rfl,rfl,by show (2:Nat)≠0;omega⟩,hC02.trans (aH rfl) (by simp[aF,aD])⟩
  |none=>
   rw[ht] at hw2 hK
   dsimp only at hw2 hK
   obtain ⟨u,rfl,hu⟩:=hw2
   obtain ⟨hok,hne⟩:=A0 ht
   have hll:(bn b).1.length<=b.length+1:=jW b (b.length+1) (bc b 0)
   have hlast:=uR _ _ _ hok
   generalize (bn b).1=L at hu hok hne hll hlast hK
   have hlp:=List.length_pos_iff.mpr hne
   simp (disch:=first|assumption|omega|(simp only[ay]<;>omega)) only[go_sem,seval,hr2.wf,hg2,hu.sl.one]
   generalize hM3:hp _ 1 M2=M3
   have hC3:Chg [] M2 M3:=bf hM3 rfl
   have hg3:M3.get (na M2 0)=some (.cells true [u,ii 0,ii 0,ii 0,.bool false,.nils,.nils,.nils]):=bu hM3
   have ho3:aw M3 (na M2 0):=bB hM3 (by omega)
   have hc:RC M2 L u (na M2 0):=⟨hu.sl,by omega,aD⟩
   have hp0:PD M3 M3 (na M2 0) u ⟨0,0,0⟩ ⟨[], [], [],false⟩ .nils .nils .nils:=⟨⟨hg3,ho3⟩,dq.nil,⟨[],dq.nil,rfl,by simp⟩,⟨[],kl _ _⟩,by simp[ids],fun i hi=>hi,ho3⟩
   have hst:=tz (L:=L) (L.length+1) ⟨[], [], [],false⟩ ⟨0,0,0⟩
   have hlim:=hst.lim2 hlast (Nat.zero_le _) (Nat.zero_le _)
   have hszp:=HP (L:=L) (L.length+1) ⟨[], [], [],false⟩ ⟨0,0,0⟩ 0 (fun _=>rfl) (fun _=>by simp[Ps.sz,fF])
   have hlenp:(aW L (L.length+1) ⟨[], [], [],false⟩ ⟨0,0,0⟩).1.cs.length+(aW L (L.length+1) ⟨[], [], [],false⟩ ⟨0,0,0⟩).1.ts.length<=L.length+1:=by
    have key:∀(f:Nat) (P:Ps) (s:Rs),(aW L f P s).1.cs.length+(aW L f P s).1.ts.length<=P.cs.length+P.ts.length+f:=by
     intro f
     induction f with
     |zero=>intro P s;exact Nat.le_refl _
     |succ f ih=>
      intro P s
      rw[aW]
      split
      ·dsimp only;omega
      ·split
       ·dsimp only;omega
       ·have h1:=ih (dJ L P s).1 (dJ L P s).2
        have h2:=yZ (L:=L) P s
        omega
    have:=key (L.length+1) ⟨[], [], [],false⟩ ⟨0,0,0⟩
    simpa using this
   generalize hE:aW L (L.length+1) ⟨[], [], [],false⟩ ⟨0,0,0⟩=q at hK hst hlim hszp hlenp
   obtain ⟨X,Z⟩:=q
   dsimp only at hK hst hlim hszp hlenp
   refine BY hc (fun i hi=>hC3.old hi) (vb:=v) (o:=na m 0) hC3 hp0 (Nat.zero_le _) rfl hE (by exact gq rfl) (by exact gq rfl) (by exact gq rfl) (by exact gq rfl) ?_
   intro t' M4 vc vt vr g1 g2 g3 g4 hp4 h04
   have hdg:=hp4.hd.g
   have hdo:=hp4.hd.o
   have hg4:=(h04.get ho2 (by simp)).trans hg2
   have ho4:=h04.old ho2
   have hC04:Chg [] m M4:=hC02.trans h04 (by simp)
   have hlen4:=(hv.chg hC04 fun _ _=>by simp).len
   rw[show (gi b).length=b.length by simp] at hlen4
   rw[←ab M4]
   by_cases hz:Z.e=0
   ·rw[Q4 (by omega)] at hK
    obtain ⟨CT,t1,t2,t3⟩:=hp4.tt
    obtain ⟨CR,r1⟩:=hp4.rr
    simp (disch:=first|assumption|omega|(simp only[ay]<;>omega)) only[go_sem,seval,g1,g2,g3,g4,hdg,hg4,hlen4,hp4.cc.sl.one,t1.sl.one,r1.sl.one]
    generalize hM5:hp _ 0 M4=M5
    have hC5:Chg [na m 0] M4 M5:=bf hM5 rfl
    have hCm3:Chg [] m M3:=hC02.trans hC3 (by simp)
    have hT:∀i,TP M3 vc vt i->i∉ [na m 0]:=fun i hi h=>by
     have h:=one h;subst h;exact hi.1 (hC3.old ho2)
    have hT2:∀i,TP M3 vc vt i->eB m i:=fun i hi h=>hi.1 (hCm3.old h)
    have nw:∀{w e C},dq M3 M4 w e C->∀i∈ids w,i∉ [na m 0]:=fun hw i hi h=>by
     have h:=one h;subst h;exact hw.new _ hi (hC3.old ho2)
    have hs0:=hszp hz
    refine hK _ _ ⟨⟨vc,vt,vr,rfl, ?_,rfl, ?_, ?_⟩,hC04.trans hC5 fun i hi ho=>by
     have hi:=one hi;subst hi;exact Q3 ho aD⟩
    ·refine ⟨hp4.cc.sl.chg hC5 (nw hp4.cc),fun i hi h=>hp4.cc.new i hi (hCm3.old h),⟨CT,t1.sl.chg hC5 (nw t1),fun i hi h=>t1.new i hi (hCm3.old h),t2,fun j x c a b'=> ?_⟩,⟨CR,(r1.stays (aE.of hC5 hT)).weak hT2⟩⟩
     obtain ⟨w,B,e,q⟩:=t3 j x c a b'
     exact ⟨w,B,e,(q.stays (aE.of hC5 hT)).weak hT2⟩
    ·dsimp only;omega
    ·have:X.sz<=4*(b.length+1):=by omega
     exact this
   ·rw[Q5 hz] at hK
    have hb':Z.b<L.length:=by omega
    have hu4:=hu.sl.chg h04 fun _ _=>by simp
    have huo:=hu.chg h04 fun _ _=>by simp
    obtain ⟨id,off,c,a1,-,aN,a2,a3,a4,a5,-⟩:=huo.at Z.b (by simpa using hb')
    have hid:id≠na m 0:=fun e=>aN (e▸ho1)
    have hid':na m 0≠id:=fun e=>hid e.symm
    rw[List.getElem_map] at a5
    have c3:c[off+3]? =some (ii (L[Z.b]).p):=cn a5 3 (by omega)
    have en:av L Z.b=L[Z.b]:=by rw[av,List.getElem?_eq_getElem hb'];rfl
    rw[en] at hK
    have hde:decide ((Z.e:Int)≠0)=true:=Q7 (by omega)
    have hus:=hu4.same (n:=3)
    have hr0:na M2 0≠na m 0:=fun e=>ho2.ne 0 e.symm
    have hr0':na m 0≠na M2 0:=fun e=>hr0 e.symm
    simp (disch:=first|assumption|omega|(simp only[ay]<;>omega)) only[go_sem,seval,g1,g2,g3,g4,hdg,hg4,hlen4,hde,a1,a2,c3,hus]
    refine hK _ _ ⟨⟨.nils,.nils,.nils,rfl,rfl,rfl,rfl,hz⟩, ?_⟩
    exact nO hC04 (by simp[aF,aD])
end
end FR
open Go Nm Go.Proofs
namespace FR
abbrev Tk:=Nat×List Nat×Nat
def Tok.er (t:Tok):Tk:=(t.k,t.t,t.n)
def Lx (u:List Nat) (L:List Tk):Prop:=∀(s:List Nat) (a f:Nat),s.drop a=u->a<=s.length->u.length<f->∃L',bR s f (bc s a)=(L',none)/\L'.map Tok.er=L
def NI (u:List Nat):Prop:=∀c∈u.head?,bT c=false
theorem j5 {s u:List Nat} {a c:Nat} (h:s.drop a=c::u):∃ha:a<s.length,s[a]=c/\s.drop (a+1)=u:=by
 have ha:a<s.length:=by
  rcases Nat.lt_or_ge a s.length with q|q
  ·exact q
  ·rw[List.drop_eq_nil_of_le q] at h;cases h
 rw[List.drop_eq_getElem_cons ha] at h
 injection h with h1 h2
 exact ⟨ha,h1,h2⟩
theorem LW:Lx [] [(5, [],0)]:=by
 intro s a f h ha hf
 have hl:s.length<=a:=by
  rcases Nat.lt_or_ge a s.length with q|q
  ·rw[List.drop_eq_getElem_cons q] at h;cases h
  ·exact q
 obtain ⟨f,rfl⟩:=Nat.exists_eq_succ_of_ne_zero (by omega:f≠0)
 rw[j6 hl]
 refine ⟨[⟨5, [],0,s.length⟩], ?_,rfl⟩
 rw[bR,Q4 (by omega)]
theorem bt {u:List Nat} {L:List Tk} {c:Nat} (hc:j8 c=true) (h:Lx u L):Lx (c::u) L:=by
 intro s a f hs ha hf
 obtain ⟨h1,h2,h3⟩:=j5 hs
 rw[ej h1,h2,Q5 hc]
 exact h s (a+1) f h3 (by omega) (by simp only[List.length_cons] at hf;omega)
theorem H9 {c:Nat} (h:jd c=true):97<=c/\c<=122:=of_decide_eq_true h
theorem Av {c:Nat} (h:cu c=true):48<=c/\c<=57:=of_decide_eq_true h
theorem sW {s:List Nat} {a:Nat} (ha:a<s.length) (h1:j8 s[a]=false) (h2:s[a]≠35):bc s a=a:=by
 rw[ej ha,h1,Q4 (by simp),Q4 h2]
theorem MK:∀c∈ch,jd c=false/\cu c=false/\j8 c=false/\c≠35/\bT c=false:=by decide
theorem cS {u:List Nat} {L:List Tk} {c:Nat} (hc:c∈ch) (h:Lx u L):Lx (c::u) ((3, [c],0)::L):=by
 intro s a f hs ha hf
 obtain ⟨h1,h2,h3⟩:=j5 hs
 obtain ⟨q1,q2,q3,q4,q5⟩:=MK c hc
 obtain ⟨f,rfl⟩:=Nat.exists_eq_succ_of_ne_zero (by omega:f≠0)
 rw[sW h1 (by rw[h2];exact q3) (by rw[h2];exact q4)]
 have ht:b8 s a=some (3, [c],0,a+1):=by
  unfold b8
  rw[List.getElem?_eq_getElem h1,h2]
  dsimp only
  rw[q1,q2,Q4 (by simp),Q4 (by simp),Q5 hc]
 obtain ⟨L',e1,e2⟩:=h s (a+1) f h3 (by omega) (by simp only[List.length_cons] at hf;omega)
 refine ⟨⟨3, [c],0,a⟩::L', ?_, ?_⟩
 ·rw[bR,Q5 h1,ht]
  dsimp only
  rw[e1]
 ·rw[List.map_cons,e2];rfl
theorem yU {p:Nat->Bool}:∀{w u:List Nat},(∀c∈w,p c=true)->(∀c∈u.head?,p c=false)->(w++u).takeWhile p=w
 | [], [],_,_=>rfl
 | [],c::u,_,h=>by
  rw[List.nil_append,List.takeWhile_cons,h c rfl];rfl
 |c::w,u,h1,h2=>by
  rw[List.cons_append,List.takeWhile_cons,h1 c List.mem_cons_self,Q5 rfl,yU (fun c h=>h1 c (List.mem_cons_of_mem _ h)) h2]
theorem wz {p:Nat->Bool} {s w u:List Nat} {a:Nat} (h:s.drop a=w++u) (h1:∀c∈w,p c=true) (h2:∀c∈u.head?,p c=false):aA p s a=a+w.length:=by
 unfold aA
 rw[h,yU h1 h2]
theorem qZ {s w u:List Nat} {a:Nat} (h:s.drop a=w++u):s.drop (a+w.length)=u:=by
 rw[←List.drop_drop,h,List.drop_left]
theorem vG {s w u:List Nat} {a:Nat} (h:s.drop a=w++u) (ha:a<=s.length):a+w.length<=s.length:=by
 have:=congrArg List.length h
 rw[List.length_drop,List.length_append] at this
 omega
theorem NI.d {u:List Nat} (h:NI u):∀c∈u.head?,cu c=false:=fun c hc=>by
 cases q:cu c with
 |false=>rfl
 |true=>have:=h c hc;rw[nL c q] at this;cases this
theorem zy {u w:List Nat} {L:List Tk} {k:Nat} (hn:∃c l,w=c::l/\jd c=true) (hi:∀c∈w,bT c=true) (hk:(w∈cA/\k=4)∨(w∉cA/\w.length<=16/\k=1)) (hu:NI u) (h:Lx u L):Lx (w++u) ((k,w,0)::L):=by
 intro s a f hs ha hf
 obtain ⟨c,l,rfl,hL⟩:=hn
 have hr:=wz (p:=bT) hs hi hu
 have hd:=qZ hs
 have hl:=vG hs ha
 have hcut:cut s a (aA bT s a)=c::l:=by rw[lL,hs,yU hi hu]
 rw[List.cons_append] at hs
 obtain ⟨h1,h2,h3⟩:=j5 hs
 obtain ⟨f,rfl⟩:=Nat.exists_eq_succ_of_ne_zero (by omega:f≠0)
 have hL':=H9 hL
 rw[sW h1 (by rw[h2];unfold j8;exact Q6 (by omega)) (by omega)]
 have ht:b8 s a=some (k,c::l,0,a+(c::l).length):=by
  unfold b8
  rw[List.getElem?_eq_getElem h1,h2]
  dsimp only
  rw[hL,Q5 rfl,hcut,hr]
  rcases hk with ⟨q1,rfl⟩|⟨q1,q2,rfl⟩
  ·rw[Q5 q1]
  ·rw[Q4 q1,Q5 q2]
 obtain ⟨L',e1,e2⟩:=h s (a+(c::l).length) f hd hl (by simp only[List.length_append,List.length_cons] at hf;omega)
 refine ⟨⟨k,c::l,0,a⟩::L', ?_, ?_⟩
 ·rw[bR,Q5 h1,ht]
  dsimp only
  rw[e1]
 ·rw[List.map_cons,e2];rfl
theorem Jp {u w:List Nat} {L:List Tk} {n:Nat} (hn:w≠ []) (hi:∀c∈w,cu c=true) (hv:ke w=some n) (hu:NI u) (h:Lx u L):Lx (w++u) ((2, [],n)::L):=by
 intro s a f hs ha hf
 obtain ⟨c,l,rfl⟩:=List.exists_cons_of_ne_nil hn
 have hr:=wz (p:=bT) hs (fun c q=>nL c (hi c q)) hu
 have hr2:=wz (p:=cu) hs hi hu.d
 have hd:=qZ hs
 have hl:=vG hs ha
 have hcut:cut s a (aA cu s a)=c::l:=by rw[lL,hs,yU hi hu.d]
 rw[List.cons_append] at hs
 obtain ⟨h1,h2,h3⟩:=j5 hs
 obtain ⟨f,rfl⟩:=Nat.exists_eq_succ_of_ne_zero (by omega:f≠0)
 have hD:=hi c List.mem_cons_self
 have hD':=Av hD
 rw[sW h1 (by rw[h2];unfold j8;exact Q6 (by omega)) (by omega)]
 have ht:b8 s a=some (2, [],n,a+(c::l).length):=by
  unfold b8
  rw[List.getElem?_eq_getElem h1,h2]
  dsimp only
  rw[show jd c=false from Q6 (by omega),Q4 (by simp),hD,Q5 rfl,hcut,hv]
  dsimp only
  rw[hr,hr2,Q5 rfl]
 obtain ⟨L',e1,e2⟩:=h s (a+(c::l).length) f hd hl (by simp only[List.length_append,List.length_cons] at hf;omega)
 refine ⟨⟨2, [],n,a⟩::L', ?_, ?_⟩
 ·rw[bR,Q5 h1,ht]
  dsimp only
  rw[e1]
 ·rw[List.map_cons,e2];rfl
def du (n:Nat):List Nat:=if n<10 then [48+n] else du (n / 10)++ [48+n % 10]
theorem Eh (n:Nat):∀c∈du n,cu c=true:=by
 induction n using Nat.strongRecOn with
 |_ n ih=>
  intro c hc
  rw[du] at hc
  split at hc
  ·rw[List.mem_singleton] at hc;subst hc;exact Q7 (by omega)
  ·rw[List.mem_append,List.mem_singleton] at hc
   rcases hc with hc|rfl
   ·exact ih _ (by omega) c hc
   ·exact Q7 (by omega)
theorem zg (n:Nat):du n≠ []:=by
 rw[du];split
 ·simp
 ·simp
theorem vD:∀(l:List Nat) (a b c:Nat),eO l a=some b->10*b+(c - 48)<18446744073709551616->eO (l++ [c]) a=some (10*b+(c - 48))
 | [],a,b,c,h,hb=>by
  cases h
  rw[List.nil_append,eO,Q5 hb,eO]
 |x::l,a,b,c,h,hb=>by
  rw[List.cons_append,eO]
  rw[eO] at h
  split at h
  ·rename_i q;rw[Q5 q];exact vD l _ b c h hb
  ·cases h
theorem KJ (n:Nat) (h:n<18446744073709551616):eO (du n) 0=some n:=by
 induction n using Nat.strongRecOn with
 |_ n ih=>
  rw[du]
  split
  ·rw[eO,Q5 (by omega),eO];congr 1;omega
  ·have:=vD _ 0 (n / 10) (48+n % 10) (ih (n / 10) (by omega) (by omega)) (by omega)
   rw[this];congr 1;omega
theorem Kk (n:Nat):(du n)[0]? =some 48->n=0:=by
 induction n using Nat.strongRecOn with
 |_ n ih=>
  intro h
  rw[du] at h
  split at h
  ·simp at h;omega
  ·have hne:=zg (n / 10)
   rw[List.getElem?_append_left (List.length_pos_iff.mpr hne)] at h
   have:=ih _ (by omega) h
   omega
theorem Dn (n:Nat) (h:n<18446744073709551616):ke (du n)=some n:=by
 unfold ke
 rw[Q4,KJ n h]
 rintro ⟨h1,h2⟩
 have:=Kk n h2
 subst this
 rw[du] at h1;simp at h1
theorem E4 {u:List Nat} {L:List Tk} {n:Nat} (hn:n<18446744073709551616) (hu:NI u) (h:Lx u L):Lx (du n++u) ((2, [],n)::L):=Jp (zg n) (Eh n) (Dn n hn) hu h
structure NmOk (s:List Nat):Prop where
 hd:∃c l,s=c::l/\jd c=true
 all:∀c∈s,bT c=true
 len:s.length<=16
 no:s∉cA
theorem fv {u w:List Nat} {L:List Tk} (h1:NmOk w) (hu:NI u) (h:Lx u L):Lx (w++u) ((1,w,0)::L):=zy h1.hd h1.all (.inr ⟨h1.no,h1.len,rfl⟩) hu h
theorem dO {c:Nat} {u:List Nat} (h:bT c=false):NI (c::u):=fun x hx=>by cases hx;exact h
mutual
def cO:Ex->List Nat
 | .mk k n o s ks=>if k=0 then du n else if k=1 then s else if k=2 then (match Px ks with| [a,b]=> [40]++a++ [32,o,32]++b++ [41]|_=> [48]) else [48]
def Px:List Ex->List (List Nat)
 | []=> []
 |x::xs=>cO x::Px xs
end
mutual
def tE:Ex->List Tk
 | .mk k n o s ks=>if k=0 then [(2, [],n)] else if k=1 then [(1,s,0)] else (match tL ks with| [a,b]=>(3, [40],0)::(a++((3, [o],0)::(b++ [(3, [41],0)])))|_=> [])
def tL:List Ex->List (List Tk)
 | []=> []
 |x::xs=>tE x::tL xs
end
inductive GE:Ex->Prop
 |int {n:Nat} (h:n<18446744073709551616):GE (me n)
 |name {s:List Nat} (h:NmOk s):GE (gR s)
 |op {o:Nat} {x y:Ex} (h:fk o=true) (hx:GE x) (hy:GE y):GE (gQ o x y)
theorem HC {o:Nat} (h:fk o=true):o∈ch:=by
 have h:=of_decide_eq_true h
 unfold ch
 rcases h with rfl|rfl|rfl|rfl|rfl|rfl<;>simp
theorem mC (o:Nat) (x y:Ex):cO (gQ o x y)= [40]++cO x++ [32,o,32]++cO y++ [41]:=by simp[gQ,cO,Px]
theorem AQ (o:Nat) (x y:Ex):tE (gQ o x y)=(3, [40],0)::(tE x++((3, [o],0)::(tE y++ [(3, [41],0)]))):=by simp[gQ,tE,tL]
theorem vf {x:Ex} (hx:GE x):∀{u:List Nat} {L:List Tk},NI u->Lx u L->Lx (cO x++u) (tE x++L):=by
 induction hx with
 |int h=>intro u L hu hL;simp only[cO,tE,if_true,List.cons_append,List.nil_append];exact E4 h hu hL
 |name h=>intro u L hu hL;simp only[cO,tE,if_true,show ¬(1:Int)=0 from by decide,if_false,List.cons_append,List.nil_append];exact fv h hu hL
 |op h hx hy ihx ihy=>
  intro u L hu hL
  rw[mC,AQ]
  simp only[List.append_assoc,List.cons_append,List.nil_append]
  exact cS (by decide) (ihx (dO (by decide)) (bt (by decide) (cS (HC h) (bt (by decide) (ihy (dO (by decide)) (cS (by decide) hL))))))
end FR
open Go Nm Go.Proofs
namespace FR
abbrev iE:List Nat:= [115,101,116]
abbrev eH:List Nat:= [108,111,97,100]
abbrev cU:List Nat:= [115,116,111,114,101]
abbrev im:List Nat:= [99,97,115]
abbrev di:List Nat:= [102,101,110,99,101]
abbrev iG:List Nat:= [111,117,116]
abbrev vM:List Nat:= [105,102]
abbrev fi:List Nat:= [101,108,115,101]
abbrev eE:List Nat:= [119,104,105,108,101]
abbrev kp:List Nat:= [99,101,108,108]
abbrev iI:List Nat:= [116,104,114,101,97,100]
def ld (d:Nat):List Nat:=(List.replicate d [32,32]).flatten
def iX (ce:List Nat) (i:Ex):List Nat:=if i.k=0/\i.n=0 then ce else ce++ [91]++cO i++ [93]
def tW (ce:List Nat) (i:Ex):List Tk:=if i.k=0/\i.n=0 then [(1,ce,0)] else (1,ce,0)::(3, [91],0)::(tE i++ [(3, [93],0)])
mutual
def dI:Nat->Stm->List Nat
 |d,.mk k a nm ce i x y b e=>
  if k=0 then ld d++iE++ [32]++nm++ [32]++cO x++ [59,10]
  else if k=1 then ld d++eH++ [32]++nm++ [32]++iX ce i++ [59,10]
  else if k=2 then ld d++cU++ [32]++iX ce i++ [32]++cO x++ [59,10]
  else if k=3 then ld d++im++ [32]++nm++ [32]++iX ce i++ [32]++cO x++ [32]++cO y++ [59,10]
  else if k=4 then ld d++di++ [59,10]
  else if k=5 then ld d++iG++ [32]++cO x++ [59,10]
  else if k=6 then ld d++vM++ [32]++cO x++ [32,123,10]++dj (d+1) b++ld d++(if e.length=0 then [] else [125,32]++fi++ [32,123,10]++dj (d+1) e++ld d)++ [125,10]
  else if k=7 then ld d++eE++ [32]++cO x++ [32,123,10]++dj (d+1) b++ld d++ [125,10]
  else []
def dj:Nat->List Stm->List Nat
 |_, []=> []
 |d,s::l=>dI d s++dj d l
end
mutual
def tS:Stm->List Tk
 | .mk k a nm ce i x y b e=>
  if k=0 then (4,iE,0)::(1,nm,0)::(tE x++ [(3, [59],0)])
  else if k=1 then (4,eH,0)::(1,nm,0)::(tW ce i++ [(3, [59],0)])
  else if k=2 then (4,cU,0)::(tW ce i++(tE x++ [(3, [59],0)]))
  else if k=3 then (4,im,0)::(1,nm,0)::(tW ce i++(tE x++(tE y++ [(3, [59],0)])))
  else if k=4 then [(4,di,0),(3, [59],0)]
  else if k=5 then (4,iG,0)::(tE x++ [(3, [59],0)])
  else if k=6 then (4,vM,0)::(tE x++((3, [123],0)::(tB b++((3, [125],0)::(if e.length=0 then [] else (4,fi,0)::(3, [123],0)::(tB e++ [(3, [125],0)]))))))
  else if k=7 then (4,eE,0)::(tE x++((3, [123],0)::(tB b++ [(3, [125],0)])))
  else []
def tB:List Stm->List Tk
 | []=> []
 |s::l=>tS s++tB l
end
structure GX (x:Ex):Prop where
 g:GE x
 d:x.depth<=30
inductive GS:Nat->Stm->Prop
 |set {n:Nat} {a:Int} {nm:List Nat} {x:Ex} (h1:NmOk nm) (h2:GX x):GS n (.mk 0 a nm [] zE x zE [] [])
 |load {n:Nat} {a:Int} {nm ce:List Nat} {i:Ex} (h1:NmOk nm) (h2:NmOk ce) (h3:GX i):GS n (.mk 1 a nm ce i zE zE [] [])
 |store {n:Nat} {a:Int} {ce:List Nat} {i x:Ex} (h2:NmOk ce) (h3:GX i) (h4:GX x):GS n (.mk 2 a [] ce i x zE [] [])
 |cas {n:Nat} {a:Int} {nm ce:List Nat} {i x y:Ex} (h1:NmOk nm) (h2:NmOk ce) (h3:GX i) (h4:GX x) (h5:GX y):GS n (.mk 3 a nm ce i x y [] [])
 |fence {n:Nat} {a:Int}:GS n (.mk 4 a [] [] zE zE zE [] [])
 |out {n:Nat} {a:Int} {x:Ex} (h4:GX x):GS n (.mk 5 a [] [] zE x zE [] [])
 |cond {n:Nat} {a:Int} {x:Ex} {b e:List Stm} (h4:GX x) (hb:∀s∈b,GS n s) (he:∀s∈e,GS n s):GS (n+1) (.mk 6 a [] [] zE x zE b e)
 |loop {n:Nat} {a:Int} {x:Ex} {b:List Stm} (h4:GX x) (hb:∀s∈b,GS n s):GS (n+1) (.mk 7 a [] [] zE x zE b [])
theorem gU {u w:List Nat} {L:List Tk} (hw:w∈cA) (hu:NI u) (h:Lx u L):Lx (w++u) ((4,w,0)::L):=by
 have key:∀w∈cA,(match w with|c::_=>jd c| []=>false)=true/\∀c∈w,bT c=true:=by decide
 obtain ⟨k1,k2⟩:=key w hw
 refine zy ?_ k2 (.inl ⟨hw,rfl⟩) hu h
 cases w with
 |nil=>cases k1
 |cons c l=>exact ⟨c,l,rfl,k1⟩
theorem iR {u:List Nat} {L:List Tk}:∀(d:Nat),Lx u L->Lx (ld d++u) L
 |0,h=>h
 |d+1,h=>by
  rw[ld,List.replicate_succ,List.flatten_cons,List.append_assoc]
  exact bt (by decide) (bt (by decide) (iR d h))
theorem KC {u:List Nat} {L:List Tk} {ce:List Nat} {i:Ex} (h1:NmOk ce) (h2:GX i) (hu:NI u) (h:Lx u L):Lx (iX ce i++u) (tW ce i++L):=by
 unfold iX tW
 split
 ·exact fv h1 hu h
 ·simp only[List.append_assoc,List.cons_append,List.nil_append]
  exact fv h1 (dO (by decide)) (cS (by decide) (vf h2.g (dO (by decide)) (cS (by decide) h)))
theorem QF {n:Nat} {s:Stm} (hs:GS n s):∀(d:Nat) {u:List Nat} {L:List Tk},Lx u L->Lx (dI d s++u) (tS s++L):=by
 induction hs with
 |set h1 h2=>
  intro d u L h
  simp only[dI,tS,if_true,List.append_assoc,List.cons_append,List.nil_append]
  exact iR d (gU (w:=iE) (by decide) (dO (by decide)) (bt (by decide) (fv h1 (dO (by decide)) (bt (by decide) (vf h2.g (dO (by decide)) (cS (by decide) (bt (by decide) h)))))))
 |load h1 h2 h3=>
  intro d u L h
  simp only[dI,tS,if_true,show ¬(1:Int)=0 from by decide,if_false,List.append_assoc,List.cons_append,List.nil_append]
  exact iR d (gU (w:=eH) (by decide) (dO (by decide)) (bt (by decide) (fv h1 (dO (by decide)) (bt (by decide) (KC h2 h3 (dO (by decide)) (cS (by decide) (bt (by decide) h)))))))
 |store h2 h3 h4=>
  intro d u L h
  simp only[dI,tS,if_true,show ¬(2:Int)=0 from by decide,show ¬(2:Int)=1 from by decide,if_false,List.append_assoc,List.cons_append,List.nil_append]
  exact iR d (gU (w:=cU) (by decide) (dO (by decide)) (bt (by decide) (KC h2 h3 (dO (by decide)) (bt (by decide) (vf h4.g (dO (by decide)) (cS (by decide) (bt (by decide) h)))))))
 |cas h1 h2 h3 h4 h5=>
  intro d u L h
  simp only[dI,tS,if_true,show ¬(3:Int)=0 from by decide,show ¬(3:Int)=1 from by decide,show ¬(3:Int)=2 from by decide,if_false,List.append_assoc,List.cons_append,List.nil_append]
  exact iR d (gU (w:=im) (by decide) (dO (by decide)) (bt (by decide) (fv h1 (dO (by decide)) (bt (by decide) (KC h2 h3 (dO (by decide)) (bt (by decide) (vf h4.g (dO (by decide)) (bt (by decide) (vf h5.g (dO (by decide)) (cS (by decide) (bt (by decide) h)))))))))))
 |fence=>
  intro d u L h
  simp only[dI,tS,if_true,show ¬(4:Int)=0 from by decide,show ¬(4:Int)=1 from by decide,show ¬(4:Int)=2 from by decide,show ¬(4:Int)=3 from by decide,if_false,List.append_assoc,List.cons_append,List.nil_append]
  exact iR d (gU (w:=di) (by decide) (dO (by decide)) (cS (by decide) (bt (by decide) h)))
 |out h4=>
  intro d u L h
  simp only[dI,tS,if_true,show ¬(5:Int)=0 from by decide,show ¬(5:Int)=1 from by decide,show ¬(5:Int)=2 from by decide,show ¬(5:Int)=3 from by decide,show ¬(5:Int)=4 from by decide,if_false,List.append_assoc,List.cons_append,List.nil_append]
  exact iR d (gU (w:=iG) (by decide) (dO (by decide)) (bt (by decide) (vf h4.g (dO (by decide)) (cS (by decide) (bt (by decide) h)))))
 |@cond n a x b e h4 hb he ihb ihe=>
  intro d u L h
  have hB:∀(l:List Stm) (ih:∀s∈l,∀(d:Nat) {u:List Nat} {L:List Tk},Lx u L->Lx (dI d s++u) (tS s++L)) (d:Nat) {u:List Nat} {L:List Tk},Lx u L->Lx (dj d l++u) (tB l++L):=by
   intro l
   induction l with
   |nil=>intro _ d u L h;simpa only[dj,tB,List.nil_append] using h
   |cons s l il=>
    intro ih d u L h
    rw[dj,tB,List.append_assoc,List.append_assoc]
    exact ih s List.mem_cons_self d (il (fun s hs=>ih s (List.mem_cons_of_mem _ hs)) d h)
  simp only[dI,tS,if_true,show ¬(6:Int)=0 from by decide,show ¬(6:Int)=1 from by decide,show ¬(6:Int)=2 from by decide,show ¬(6:Int)=3 from by decide,show ¬(6:Int)=4 from by decide,show ¬(6:Int)=5 from by decide,if_false,List.append_assoc,List.cons_append,List.nil_append]
  refine iR d (gU (w:=vM) (by decide) (dO (by decide)) (bt (by decide) (vf h4.g (dO (by decide)) (bt (by decide) (cS (by decide) (bt (by decide) (hB b ihb (d+1) (iR d ?_))))))))
  split
  ·exact cS (by decide) (bt (by decide) h)
  ·simp only[List.append_assoc,List.cons_append,List.nil_append]
   exact cS (by decide) (bt (by decide) (gU (w:=fi) (by decide) (dO (by decide)) (bt (by decide) (cS (by decide) (bt (by decide) (hB e ihe (d+1) (iR d (cS (by decide) (bt (by decide) h)))))))))
 |@loop n a x b h4 hb ihb=>
  intro d u L h
  have hB:∀(l:List Stm) (ih:∀s∈l,∀(d:Nat) {u:List Nat} {L:List Tk},Lx u L->Lx (dI d s++u) (tS s++L)) (d:Nat) {u:List Nat} {L:List Tk},Lx u L->Lx (dj d l++u) (tB l++L):=by
   intro l
   induction l with
   |nil=>intro _ d u L h;simpa only[dj,tB,List.nil_append] using h
   |cons s l il=>
    intro ih d u L h
    rw[dj,tB,List.append_assoc,List.append_assoc]
    exact ih s List.mem_cons_self d (il (fun s hs=>ih s (List.mem_cons_of_mem _ hs)) d h)
  simp only[dI,tS,if_true,show ¬(7:Int)=0 from by decide,show ¬(7:Int)=1 from by decide,show ¬(7:Int)=2 from by decide,show ¬(7:Int)=3 from by decide,show ¬(7:Int)=4 from by decide,show ¬(7:Int)=5 from by decide,show ¬(7:Int)=6 from by decide,if_false,List.append_assoc,List.cons_append,List.nil_append]
  exact iR d (gU (w:=eE) (by decide) (dO (by decide)) (bt (by decide) (vf h4.g (dO (by decide)) (bt (by decide) (cS (by decide) (bt (by decide) (hB b ihb (d+1) (iR d (cS (by decide) (bt (by decide) h))))))))))
theorem Ot {n:Nat} {l:List Stm} (hl:∀s∈l,GS n s) (d:Nat) {u:List Nat} {L:List Tk} (h:Lx u L):Lx (dj d l++u) (tB l++L):=by
 induction l with
 |nil=>simpa only[dj,tB,List.nil_append] using h
 |cons s l il=>
  rw[dj,tB,List.append_assoc,List.append_assoc]
  exact QF (hl s List.mem_cons_self) d (il fun s hs=>hl s (List.mem_cons_of_mem _ hs))
def jH (c:List Nat×Int):List Nat:=if c.2=1 then kp++ [32]++c.1++ [59,10] else kp++ [32]++c.1++ [91]++du c.2.toNat++ [93]++ [59,10]
def tC (c:List Nat×Int):List Tk:=if c.2=1 then [(4,kp,0),(1,c.1,0),(3, [59],0)] else [(4,kp,0),(1,c.1,0),(3, [91],0),(2, [],c.2.toNat),(3, [93],0),(3, [59],0)]
def jU (t:List Nat×List Stm):List Nat:=iI++ [32]++t.1++ [32,123,10]++dj 1 t.2++ [125,10]
def tT (t:List Nat×List Stm):List Tk:=(4,iI,0)::(1,t.1,0)::(3, [123],0)::(tB t.2++ [(3, [125],0)])
def tJ (r:List Stm):List Nat:=if r.length=0 then [] else cv++ [32,123,10]++dj 1 r++ [125,10]
def tR (r:List Stm):List Tk:=if r.length=0 then [] else (4,cv,0)::(3, [123],0)::(tB r++ [(3, [125],0)])
def jh (p:Prg):List Nat:=(p.cs.map jH).flatten++(p.ts.map jU).flatten++tJ p.r
def tP (p:Prg):List Tk:=(p.cs.map tC).flatten++((p.ts.map tT).flatten++(tR p.r++ [(5, [],0)]))
structure GP (p:Prg):Prop where
 c:∀c∈p.cs,NmOk c.1/\0<=c.2/\c.2<=1048576
 t:∀t∈p.ts,NmOk t.1/\∀s∈t.2,GS 29 s
 r:∀s∈p.r,GS 29 s
theorem Py {c:List Nat×Int} (h1:NmOk c.1) (h2:0<=c.2/\c.2<=1048576) {u:List Nat} {L:List Tk} (h:Lx u L):Lx (jH c++u) (tC c++L):=by
 unfold jH tC
 split
 ·simp only[List.append_assoc,List.cons_append,List.nil_append]
  exact gU (w:=kp) (by decide) (dO (by decide)) (bt (by decide) (fv h1 (dO (by decide)) (cS (by decide) (bt (by decide) h))))
 ·simp only[List.append_assoc,List.cons_append,List.nil_append]
  exact gU (w:=kp) (by decide) (dO (by decide)) (bt (by decide) (fv h1 (dO (by decide)) (cS (by decide) (E4 (by omega) (dO (by decide)) (cS (by decide) (cS (by decide) (bt (by decide) h)))))))
theorem P9 {t:List Nat×List Stm} (h1:NmOk t.1) (h2:∀s∈t.2,GS 29 s) {u:List Nat} {L:List Tk} (h:Lx u L):Lx (jU t++u) (tT t++L):=by
 unfold jU tT
 simp only[List.append_assoc,List.cons_append,List.nil_append]
 exact gU (w:=iI) (by decide) (dO (by decide)) (bt (by decide) (fv h1 (dO (by decide)) (bt (by decide) (cS (by decide) (bt (by decide) (Ot h2 1 (cS (by decide) (bt (by decide) h))))))))
theorem PY {r:List Stm} (h2:∀s∈r,GS 29 s) {u:List Nat} {L:List Tk} (h:Lx u L):Lx (tJ r++u) (tR r++L):=by
 unfold tJ tR
 split
 ·exact h
 ·simp only[List.append_assoc,List.cons_append,List.nil_append]
  exact gU (w:=cv) (by decide) (dO (by decide)) (bt (by decide) (cS (by decide) (bt (by decide) (Ot h2 1 (cS (by decide) (bt (by decide) h))))))
theorem th {α:Type} {f:α->List Nat} {g:α->List Tk}:∀{l:List α},(∀x∈l,∀{u:List Nat} {L:List Tk},Lx u L->Lx (f x++u) (g x++L))->∀{u:List Nat} {L:List Tk},Lx u L->Lx ((l.map f).flatten++u) ((l.map g).flatten++L)
 | [],_,u,L,h=>h
 |x::l,hx,u,L,h=>by
  rw[List.map_cons,List.map_cons,List.flatten_cons,List.flatten_cons,List.append_assoc,List.append_assoc]
  exact hx x List.mem_cons_self (th (fun x h=>hx x (List.mem_cons_of_mem _ h)) h)
theorem QG {p:Prg} (h:GP p):Lx (jh p) (tP p):=by
 unfold jh tP
 rw[List.append_assoc]
 refine th (fun c hc {_ _} q=>Py (h.c c hc).1 (h.c c hc).2 q) (th (fun c hc {_ _} q=>P9 (h.t c hc).1 (h.t c hc).2 q) ?_)
 rw[←List.append_nil (tJ p.r)]
 exact PY h.r LW
theorem LV {p:Prg} (h:GP p):∃L',bn (jh p)=(L',none)/\L'.map Tok.er=tP p:=QG h (jh p) 0 _ (by rw[List.drop_zero]) (Nat.zero_le _) (by omega)
end FR
open Go Nm Go.Proofs
namespace FR
def At (L:List Tok) (a:Nat) (l:List Tk):Prop:=(L.drop a).map Tok.er=l
section
variable {L:List Tok}
theorem At.now {a:Nat} {x:Tk} {r:List Tk} (h:At L a (x::r)):(av L a).k=x.1/\(av L a).t=x.2.1/\(av L a).n=x.2.2/\At L (a+1) r/\a<L.length:=by
 unfold At at h
 have ha:a<L.length:=by
  rcases Nat.lt_or_ge a L.length with q|q
  ·exact q
  ·rw[List.drop_eq_nil_of_le q] at h;cases h
 rw[List.drop_eq_getElem_cons ha,List.map_cons] at h
 injection h with h1 h2
 subst h1
 unfold av
 rw[List.getElem?_eq_getElem ha]
 exact ⟨rfl,rfl,rfl,h2,ha⟩
theorem At.len {a:Nat} {l:List Tk} (h:At L a l):l.length=L.length - a:=by
 rw[←h,List.length_map,List.length_drop]
theorem At.takeY {s:Rs} {w:List Nat} {k:Nat} {r:List Tk} (h:At L s.a ((k,w,0)::r)) (he:s.e=0) (hk:eK w=k):au L w s=true:=by
 obtain ⟨h1,h2,-⟩:=h.now
 exact Q7 ⟨he,h1.trans hk.symm,h2⟩
theorem At.takeN {s:Rs} {w:List Nat} {x:Tk} {r:List Tk} (h:At L s.a (x::r)) (hk:¬(x.1=eK w/\x.2.1=w)):au L w s=false:=by
 obtain ⟨h1,h2,-⟩:=h.now
 refine Q6 fun ⟨_,q1,q2⟩=>hk ⟨h1.symm.trans q1,h2.symm.trans q2⟩
theorem At.want {s:Rs} {w:List Nat} {k:Nat} {r:List Tk} (h:At L s.a ((k,w,0)::r)) (he:s.e=0) (hk:eK w=k):aT L w s=aa s:=by
 unfold aT;rw[Q5 (h.takeY he hk)]
theorem At.name {s:Rs} {w:List Nat} {r:List Tk} (h:At L s.a ((1,w,0)::r)) (he:s.e=0):aJ L s=(w,aa s):=by
 obtain ⟨h1,h2,-⟩:=h.now
 unfold aJ
 rw[Q4 (by omega),h2]
def B6 (r:List Tk):Prop:=∀x∈r.head?,¬(x.1=3/\∃o,x.2.1= [o]/\fk o=true)
theorem At.nop {a:Nat} {r:List Tk} (h:At L a r) (hn:B6 r):fk (da (av L a))=false:=by
 unfold da
 split
 ·rename_i q
  cases r with
  |nil=>
   have hl:=h.len
   unfold av at q
   rw[List.getElem?_eq_none (by simp at hl;omega)] at q
   exact Q3 q.1 (by decide)
  |cons x r=>
   obtain ⟨h1,h2,-⟩:=h.now
   cases hq:(av L a).t with
   |nil=>rw[hq] at q;exact Q3 q.2 (by decide)
   |cons o l=>
    rw[hq] at q
    have:l= []:=List.eq_nil_of_length_eq_zero (by have:=q.2;simp at this;simpa using this)
    subst this
    cases ho:fk ([o].headD 0) with
    |false=>rfl
    |true=>exact Q3 ⟨h1.symm.trans q.1,o,h2.symm.trans hq,ho⟩ (hn x rfl)
 ·rfl
theorem At.op {a o:Nat} {r:List Tk} (h:At L a ((3, [o],0)::r)) (ho:fk o=true):da (av L a)=o:=by
 obtain ⟨h1,h2,-⟩:=h.now
 unfold da
 rw[h1,h2];rfl
theorem At.mid {a:Nat}:∀{l r:List Tk},At L a (l++r)->At L (a+l.length) r:=by
 intro l r h
 unfold At at h ⊢
 rw[←List.drop_drop,List.map_drop,h,List.drop_left]
abbrev mv (s:Rs) (n:Nat):Rs:=⟨s.a+n,s.e,s.b⟩
theorem IM {k:Nat} {w:List Nat} {n:Nat} {r:List Tk} (h:¬(k=3/\∃o,w= [o]/\fk o=true)):B6 ((k,w,n)::r):=fun z hz=>by cases hz;exact h
theorem IL {k:Nat} {w:List Nat} {n:Nat} {r:List Tk} (h:k≠3):B6 ((k,w,n)::r):=IM fun q=>h q.1
theorem k9 {c n:Nat} {r:List Tk} (h:fk c=false):B6 ((3, [c],n)::r):=IM fun ⟨_,o,e,q⟩=>by cases e;rw[h] at q;cases q
theorem uI {P:Rs->Ex×Rs} {f:Nat} {x:Ex} {s:Rs} (he:s.e=0) (h:fk (da (av L s.a))=false):cJ L P (f+1) x s=(x,s):=by
 rw[cJ,Q4 (by omega),Q5 h]
theorem Gq {P:Rs->Ex×Rs} {f o:Nat} {x y:Ex} {s t:Rs} (he:s.e=0) (h:da (av L s.a)=o) (ho:fk o=true) (hP:P (aa s)=(y,t)) (ht:t.e=0) (hd:(gQ o x y).depth<=30):cJ L P (f+1) x s=cJ L P f (gQ o x y) t:=by
 rw[cJ,Q4 (by omega),h,Q4 (by rw[ho];simp),hP,Q4 (by simpa using ht),Q4 (show ¬30<(gQ o x y).depth by omega)]
theorem KA {x:Ex} (hx:GE x):∀{n:Nat} {s:Rs} {r:List Tk},n<=29->x.depth<=n+1->At L s.a (tE x++r)->s.e=0->bO L (dY L n) (29 - n) s=(x,mv s (tE x).length):=by
 induction hx with
 |int h=>
  intro n s r hn hd hA he
  simp only[tE,if_true,List.cons_append,List.nil_append] at hA ⊢
  obtain ⟨h1,h2,h3,-⟩:=hA.now
  unfold bO
  rw[Q4 (by omega),Q4 (by omega),Q5 h1,h3]
  rfl
 |name h=>
  intro n s r hn hd hA he
  simp only[tE,if_true,show ¬(1:Int)=0 from by decide,if_false,List.cons_append,List.nil_append] at hA ⊢
  obtain ⟨h1,h2,h3,-⟩:=hA.now
  unfold bO
  rw[Q4 (by omega),Q4 (by omega),Q4 (by rw[h1];simp),Q5 h1,h2]
  rfl
 |@op o x y h hx hy ihx ihy=>
  intro n s r hn hd hA he
  have hdep:(gQ o x y).depth=max x.depth y.depth+1:=by simp[gQ,Ex.depth,bo]
  rw[AQ] at hA ⊢
  have hpos:1<=x.depth:=by cases x;simp[Ex.depth]
  obtain ⟨n,rfl⟩:=Nat.exists_eq_succ_of_ne_zero (by omega:n≠0)
  simp only[List.append_assoc,List.cons_append,List.nil_append] at hA
  obtain ⟨h1,h2,h3,hA1,-⟩:=hA.now
  have ht:=hA.takeY he rfl
  unfold bO
  rw[Q4 (by omega),Q4 (by omega),Q4 (by rw[h1];simp),Q4 (by rw[h1];simp),Q5 ht]
  have p1:=ihx (n:=n) (s:=aa s) (by omega) (by omega) hA1 he
  have hA2:=hA1.mid
  obtain ⟨-,-,-,hA3,hlt⟩:=hA2.now
  have p2:=ihy (n:=n) (s:=aa (mv (aa s) (tE x).length)) (by omega) (by omega) hA3 he
  have hA4:=hA3.mid
  have e1:dY L (n+1) (aa s)=(gQ o x y,mv (aa s) ((tE x).length+1+(tE y).length)):=by
   obtain ⟨f,hf⟩:∃f,L.length+1=f+1+1:=⟨L.length - 1,by omega⟩
   rw[dY,dZ,p1,hf]
   dsimp only
   rw[Gq (s:=mv (aa s) (tE x).length) he (hA2.op h) h p2 he (by omega),uI (s:=mv (aa (mv (aa s) (tE x).length)) (tE y).length) he (hA4.nop (k9 (by decide)))]
   dsimp only[mv,aa]
   rw[show s.a+1+(tE x).length+1+(tE y).length=s.a+1+((tE x).length+1+(tE y).length) from by omega]
  rw[show n+1=n.succ from rfl] at e1
  rw[e1]
  have hA5:At L (mv (aa s) ((tE x).length+1+(tE y).length)).a ((3, [41],0)::r):=by
   have:(mv (aa s) ((tE x).length+1+(tE y).length)).a=s.a+1+(tE x).length+1+(tE y).length:=by dsimp only[mv,aa];omega
   rw[this];exact hA4
  dsimp only
  rw[hA5.want he rfl]
  dsimp only[mv,aa]
  rw[show s.a+1+((tE x).length+1+(tE y).length)+1=s.a+((3, [40],0)::(tE x++((3, [o],0)::(tE y++ [(3, [41],0)])))).length from by simp only[List.length_cons,List.length_append,List.length_nil];omega]
theorem mM {x:Ex} (hx:GX x) {s:Rs} {r:List Tk} (hA:At L s.a (tE x++r)) (hr:B6 r) (he:s.e=0):cD L s=(x,mv s (tE x).length):=by
 have p:=KA hx.g (n:=29) (by omega) (by have:=hx.d;omega) hA he
 show dZ L (dY L 29) (29 - 29) s=_
 rw[dZ,p]
 exact uI (s:=mv s (tE x).length) he (hA.mid.nop hr)
theorem Mt {x:Ex} (hx:GE x) {r:List Tk}:B6 (tE x++r):=by
 cases hx with
 |int h=>simp only[tE,if_true,List.cons_append,List.nil_append];exact IL (by decide)
 |name h=>simp only[tE,if_true,show ¬(1:Int)=0 from by decide,if_false,List.cons_append,List.nil_append];exact IL (by decide)
 |op h hx hy=>rw[AQ];exact k9 (by decide)
theorem JW {ce:List Nat} {i:Ex} (h2:GX i) {s:Rs} {r:List Tk} (hA:At L s.a (tW ce i++r)) (hb:∀z∈r.head?,¬(z.1=3/\z.2.1= [91])) (he:s.e=0):∃i',aL L s=(ce,i',mv s (tW ce i).length)/\i'=(if i.k=0/\i.n=0 then zE else i):=by
 unfold tW at hA ⊢
 unfold aL
 split at hA
 ·rename_i q
  rw[Q5 q]
  simp only[List.cons_append,List.nil_append] at hA
  rw[hA.name he]
  obtain ⟨-,-,-,hA1,-⟩:=hA.now
  have:au L [91] (aa s)=false:=by
   cases r with
   |nil=>
    refine Q6 fun ⟨_,q1,_⟩=> ?_
    have:=hA1.len
    unfold av at q1
    rw[List.getElem?_eq_none (by simp[aa] at this ⊢;omega)] at q1
    exact Q3 q1 (by decide)
   |cons z r=>exact At.takeN (s:=aa s) hA1 (hb z rfl)
  dsimp only
  rw[this,Q4 (by simp),Q5 q]
  exact ⟨_,rfl,rfl⟩
 ·rename_i q
  rw[Q4 q]
  simp only[List.append_assoc,List.cons_append,List.nil_append] at hA
  rw[hA.name he]
  obtain ⟨-,-,-,hA1,-⟩:=hA.now
  obtain ⟨-,-,-,hA2,-⟩:=hA1.now
  dsimp only
  rw[At.takeY (s:=aa s) hA1 he rfl,Q5 rfl,mM (s:=aa (aa s)) h2 hA2 (k9 (by decide)) he,Q4 q]
  have hA3:=hA2.mid
  dsimp only
  rw[At.want (s:=mv (aa (aa s)) (tE i).length) hA3 he rfl]
  refine ⟨i, ?_,rfl⟩
  dsimp only[mv,aa]
  rw[show s.a+1+1+(tE i).length+1=s.a+((1,ce,0)::(3, [91],0)::(tE i++ [(3, [93],0)])).length from by simp only[List.length_cons,List.length_append,List.length_nil];omega]
end
end FR
open Go Nm Go.Proofs
namespace FR
mutual
def Stm.er:Stm->Stm
 | .mk k a nm ce i x y b e=> .mk k 0 nm ce i x y (hZ b) (hZ e)
def hZ:List Stm->List Stm
 | []=> []
 |s::l=>s.er::hZ l
end
theorem GE.z {i:Ex} (h:GE i):(if i.k=0/\i.n=0 then zE else i)=i:=by
 split
 ·rename_i q
  cases h with
  |int h=>obtain ⟨-,q⟩:=q;cases q;rfl
  |name h=>exact Q3 q.1 (by simp[Ex.k])
  |op h hx hy=>exact Q3 q.1 (by simp[Ex.k])
 ·rfl
section
variable {L:List Tok}
theorem sn {ce:List Nat} {i:Ex} (h2:GX i) {s:Rs} {r:List Tk} (hA:At L s.a (tW ce i++r)) (hb:∀z∈r.head?,¬(z.1=3/\z.2.1= [91])) (he:s.e=0):aL L s=(ce,i,mv s (tW ce i).length):=by
 obtain ⟨i',h,e⟩:=JW h2 hA hb he
 rw[h,e,h2.g.z]
theorem Gt {k:Nat} {w:List Nat} {n:Nat} {r:List Tk} (h:¬(k=3/\w= [91])):∀z∈((k,w,n)::r).head?,¬(z.1=3/\z.2.1= [91]):=fun z hz=>by cases hz;exact h
theorem Ou {x:Ex} (hx:GE x) {r:List Tk}:∀z∈(tE x++r).head?,¬(z.1=3/\z.2.1= [91]):=by
 cases hx with
 |int h=>simp only[tE,if_true,List.cons_append,List.nil_append];exact Gt (by simp)
 |name h=>simp only[tE,if_true,show ¬(1:Int)=0 from by decide,if_false,List.cons_append,List.nil_append];exact Gt (by simp)
 |op h hx hy=>rw[AQ];exact Gt (by decide)
def QM (r:List Tk):Prop:=∀z∈r.head?,¬(z.1=4/\z.2.1=fi)
def LP (L:List Tok) (B:Rs->List Stm×Rs) (n:Nat):Prop:=∀(l:List Stm) (s:Rs) (r:List Tk),(∀x∈l,GS n x)->At L s.a ((3, [123],0)::(tB l++((3, [125],0)::r)))->s.e=0->∃l',B s=(l',mv s ((tB l).length+2))/\hZ l'=hZ l
theorem lY {x:Stm} {s:Rs} {r:List Tk} (hA:At L s.a ((3, [59],0)::r)) (he:s.e=0):lI L x s=(x,aa s):=by
 unfold lI
 rw[hA.want he rfl]
theorem DL {B:Rs->List Stm×Rs} {n:Nat} (hB:∀m,n=m+1->LP L B m) {x:Stm} (hx:GS n x) {s:Rs} {r:List Tk} (hA:At L s.a (tS x++r)) (hr:QM r) (he:s.e=0):
 ∃x',bD L B s=(x',mv s (tS x).length)/\x'.er=x.er:=by
 unfold bD
 cases hx with
 |@set _ a nm x h1 h2=>
  simp only[tS,if_true,List.append_assoc,List.cons_append,List.nil_append] at hA ⊢
  rw[Q5 (hA.takeY he rfl)]
  obtain ⟨-,-,-,hA1,-⟩:=hA.now
  obtain ⟨-,-,-,hA2,-⟩:=hA1.now
  unfold Jq
  rw[At.name (s:=aa s) hA1 he]
  dsimp only
  rw[mM (s:=aa (aa s)) h2 hA2 (k9 (by decide)) he]
  dsimp only
  rw[lY (s:=mv (aa (aa s)) (tE x).length) hA2.mid he]
  refine ⟨_,by dsimp only[mv,aa];rw[show s.a+1+1+(tE x).length+1=s.a+((4,iE,0)::(1,nm,0)::(tE x++ [(3, [59],0)])).length from by simp only[List.length_cons,List.length_append,List.length_nil];omega], ?_⟩
  rw[Stm.er,Stm.er]
 |@load _ a nm ce i h1 h2 h3=>
  simp only[tS,if_true,show ¬(1:Int)=0 from by decide,if_false,List.append_assoc,List.cons_append,List.nil_append] at hA ⊢
  rw[hA.takeN (w:= [115,101,116]) (by decide),Q4 (by simp),Q5 (hA.takeY he rfl)]
  obtain ⟨-,-,-,hA1,-⟩:=hA.now
  obtain ⟨-,-,-,hA2,-⟩:=hA1.now
  unfold CM
  rw[At.name (s:=aa s) hA1 he]
  dsimp only
  rw[sn (s:=aa (aa s)) h3 hA2 (Gt (by decide)) he]
  dsimp only
  rw[lY (s:=mv (aa (aa s)) (tW ce i).length) hA2.mid he]
  refine ⟨_,by dsimp only[mv,aa];rw[show s.a+1+1+(tW ce i).length+1=s.a+((4,eH,0)::(1,nm,0)::(tW ce i++ [(3, [59],0)])).length from by simp only[List.length_cons,List.length_append,List.length_nil];omega], ?_⟩
  rw[Stm.er,Stm.er]
 |@store _ a ce i x h2 h3 h4=>
  simp only[tS,if_true,show ¬(2:Int)=0 from by decide,show ¬(2:Int)=1 from by decide,if_false,List.append_assoc,List.cons_append,List.nil_append] at hA ⊢
  rw[hA.takeN (w:= [115,101,116]) (by decide),Q4 (by simp),hA.takeN (w:= [108,111,97,100]) (by decide),Q4 (by simp),Q5 (hA.takeY he rfl)]
  obtain ⟨-,-,-,hA1,-⟩:=hA.now
  unfold yq
  rw[sn (s:=aa s) h3 hA1 (Ou h4.g) he]
  have hA2:=hA1.mid
  dsimp only
  rw[mM (s:=mv (aa s) (tW ce i).length) h4 hA2 (k9 (by decide)) he]
  dsimp only
  rw[lY (s:=mv (mv (aa s) (tW ce i).length) (tE x).length) hA2.mid he]
  refine ⟨_,by dsimp only[mv,aa];rw[show s.a+1+(tW ce i).length+(tE x).length+1=s.a+((4,cU,0)::(tW ce i++(tE x++ [(3, [59],0)]))).length from by simp only[List.length_cons,List.length_append,List.length_nil];omega], ?_⟩
  rw[Stm.er,Stm.er]
 |@cas _ a nm ce i x y h1 h2 h3 h4 h5=>
  simp only[tS,if_true,show ¬(3:Int)=0 from by decide,show ¬(3:Int)=1 from by decide,show ¬(3:Int)=2 from by decide,if_false,List.append_assoc,List.cons_append,List.nil_append] at hA ⊢
  rw[hA.takeN (w:= [115,101,116]) (by decide),Q4 (by simp),hA.takeN (w:= [108,111,97,100]) (by decide),Q4 (by simp),hA.takeN (w:= [115,116,111,114,101]) (by decide),Q4 (by simp),Q5 (hA.takeY he rfl)]
  obtain ⟨-,-,-,hA1,-⟩:=hA.now
  obtain ⟨-,-,-,hA2,-⟩:=hA1.now
  unfold H6
  rw[At.name (s:=aa s) hA1 he]
  dsimp only
  rw[sn (s:=aa (aa s)) h3 hA2 (Ou h4.g) he]
  have hA3:=hA2.mid
  dsimp only
  rw[mM (s:=mv (aa (aa s)) (tW ce i).length) h4 hA3 (Mt h5.g) he]
  have hA4:=hA3.mid
  dsimp only
  rw[mM (s:=mv (mv (aa (aa s)) (tW ce i).length) (tE x).length) h5 hA4 (k9 (by decide)) he]
  dsimp only
  rw[lY (s:=mv (mv (mv (aa (aa s)) (tW ce i).length) (tE x).length) (tE y).length) hA4.mid he]
  refine ⟨_,by dsimp only[mv,aa];rw[show s.a+1+1+(tW ce i).length+(tE x).length+(tE y).length+1=s.a+((4,im,0)::(1,nm,0)::(tW ce i++(tE x++(tE y++ [(3, [59],0)])))).length from by simp only[List.length_cons,List.length_append,List.length_nil];omega], ?_⟩
  rw[Stm.er,Stm.er]
 |@fence _ a=>
  simp only[tS,if_true,show ¬(4:Int)=0 from by decide,show ¬(4:Int)=1 from by decide,show ¬(4:Int)=2 from by decide,show ¬(4:Int)=3 from by decide,if_false,List.append_assoc,List.cons_append,List.nil_append] at hA ⊢
  rw[hA.takeN (w:= [115,101,116]) (by decide),Q4 (by simp),hA.takeN (w:= [108,111,97,100]) (by decide),Q4 (by simp),hA.takeN (w:= [115,116,111,114,101]) (by decide),Q4 (by simp),hA.takeN (w:= [99,97,115]) (by decide),Q4 (by simp),Q5 (hA.takeY he rfl)]
  obtain ⟨-,-,-,hA1,-⟩:=hA.now
  rw[lY (s:=aa s) hA1 he]
  refine ⟨_,rfl, ?_⟩
  rw[Stm.er,Stm.er]
 |@out _ a x h4=>
  simp only[tS,if_true,show ¬(5:Int)=0 from by decide,show ¬(5:Int)=1 from by decide,show ¬(5:Int)=2 from by decide,show ¬(5:Int)=3 from by decide,show ¬(5:Int)=4 from by decide,if_false,List.append_assoc,List.cons_append,List.nil_append] at hA ⊢
  rw[hA.takeN (w:= [115,101,116]) (by decide),Q4 (by simp),hA.takeN (w:= [108,111,97,100]) (by decide),Q4 (by simp),hA.takeN (w:= [115,116,111,114,101]) (by decide),Q4 (by simp),hA.takeN (w:= [99,97,115]) (by decide),Q4 (by simp),hA.takeN (w:= [102,101,110,99,101]) (by decide),Q4 (by simp),Q5 (hA.takeY he rfl)]
  obtain ⟨-,-,-,hA1,-⟩:=hA.now
  unfold Je
  rw[mM (s:=aa s) h4 hA1 (k9 (by decide)) he]
  dsimp only
  rw[lY (s:=mv (aa s) (tE x).length) hA1.mid he]
  refine ⟨_,by dsimp only[mv,aa];rw[show s.a+1+(tE x).length+1=s.a+((4,iG,0)::(tE x++ [(3, [59],0)])).length from by simp only[List.length_cons,List.length_append,List.length_nil];omega], ?_⟩
  rw[Stm.er,Stm.er]
 |@cond n a x b e h4 hb' he'=>
  have hP:=hB n rfl
  simp only[tS,if_true,show ¬(6:Int)=0 from by decide,show ¬(6:Int)=1 from by decide,show ¬(6:Int)=2 from by decide,show ¬(6:Int)=3 from by decide,show ¬(6:Int)=4 from by decide,show ¬(6:Int)=5 from by decide,if_false,List.append_assoc,List.cons_append,List.nil_append] at hA ⊢
  rw[hA.takeN (w:= [115,101,116]) (by decide),Q4 (by simp),hA.takeN (w:= [108,111,97,100]) (by decide),Q4 (by simp),hA.takeN (w:= [115,116,111,114,101]) (by decide),Q4 (by simp),hA.takeN (w:= [99,97,115]) (by decide),Q4 (by simp),hA.takeN (w:= [102,101,110,99,101]) (by decide),Q4 (by simp),hA.takeN (w:= [111,117,116]) (by decide),Q4 (by simp),Q5 (hA.takeY he rfl)]
  obtain ⟨-,-,-,hA1,-⟩:=hA.now
  unfold DM
  rw[mM (s:=aa s) h4 hA1 (k9 (by decide)) he]
  have hA2:=hA1.mid
  dsimp only
  obtain ⟨b',e1,e2⟩:=hP _ (mv (aa s) (tE x).length) _ hb' hA2 he
  rw[e1]
  obtain ⟨-,-,-,hA3,-⟩:=hA2.now
  have hA4:=hA3.mid
  obtain ⟨-,-,-,hA5,-⟩:=hA4.now
  have ea:s.a+1+(tE x).length+1+(tB b).length+1=(mv (mv (aa s) (tE x).length) ((tB b).length+2)).a:=by dsimp only[mv,aa];omega
  rw[ea] at hA5
  by_cases hl:e.length=0
  ·obtain rfl:=List.eq_nil_of_length_eq_zero hl
   simp only[if_true,List.length_nil,List.nil_append] at hA5 ⊢
   have ht:au L [101,108,115,101] (mv (mv (aa s) (tE x).length) ((tB b).length+2))=false:=by
    cases r with
    |nil=>
     refine Q6 fun ⟨_,q1,_⟩=> ?_
     have:=hA5.len
     unfold av at q1
     rw[List.getElem?_eq_none (by simp[mv,aa] at this ⊢;omega)] at q1
     exact Q3 q1 (by decide)
    |cons z r=>exact hA5.takeN (hr z rfl)
   rw[ht,Q4 (by simp)]
   refine ⟨_,by dsimp only[mv,aa];rw[show s.a+1+(tE x).length+((tB b).length+2)=s.a+((4,vM,0)::(tE x++((3, [123],0)::(tB b++ [(3, [125],0)])))).length from by simp only[List.length_cons,List.length_append,List.length_nil];omega], ?_⟩
   rw[Stm.er,Stm.er,e2]
  ·rw[Q4 hl] at hA5 ⊢
   simp only[List.append_assoc,List.cons_append,List.nil_append] at hA5
   dsimp only
   rw[Q5 (At.takeY (s:=mv (mv (aa s) (tE x).length) ((tB b).length+2)) (w:= [101,108,115,101]) hA5 he rfl)]
   obtain ⟨-,-,-,hA6,-⟩:=hA5.now
   obtain ⟨c',e3,e4⟩:=hP _ (aa (mv (mv (aa s) (tE x).length) ((tB b).length+2))) _ he' hA6 he
   rw[e3]
   refine ⟨_,by dsimp only[mv,aa];rw[show s.a+1+(tE x).length+((tB b).length+2)+1+((tB e).length+2)=s.a+((4,vM,0)::(tE x++((3, [123],0)::(tB b++((3, [125],0)::(4,fi,0)::(3, [123],0)::(tB e++ [(3, [125],0)])))))).length from by simp only[List.length_cons,List.length_append,List.length_nil];omega], ?_⟩
   rw[Stm.er,Stm.er,e2,e4]
 |@loop n a x b h4 hb'=>
  have hP:=hB n rfl
  simp only[tS,if_true,show ¬(7:Int)=0 from by decide,show ¬(7:Int)=1 from by decide,show ¬(7:Int)=2 from by decide,show ¬(7:Int)=3 from by decide,show ¬(7:Int)=4 from by decide,show ¬(7:Int)=5 from by decide,show ¬(7:Int)=6 from by decide,if_false,List.append_assoc,List.cons_append,List.nil_append] at hA ⊢
  rw[hA.takeN (w:= [115,101,116]) (by decide),Q4 (by simp),hA.takeN (w:= [108,111,97,100]) (by decide),Q4 (by simp),hA.takeN (w:= [115,116,111,114,101]) (by decide),Q4 (by simp),hA.takeN (w:= [99,97,115]) (by decide),Q4 (by simp),hA.takeN (w:= [102,101,110,99,101]) (by decide),Q4 (by simp),hA.takeN (w:= [111,117,116]) (by decide),Q4 (by simp),hA.takeN (w:= [105,102]) (by decide),Q4 (by simp),Q5 (hA.takeY he rfl)]
  obtain ⟨-,-,-,hA1,-⟩:=hA.now
  unfold mt
  rw[mM (s:=aa s) h4 hA1 (k9 (by decide)) he]
  have hA2:=hA1.mid
  dsimp only
  obtain ⟨b',e1,e2⟩:=hP _ (mv (aa s) (tE x).length) _ hb' hA2 he
  rw[e1]
  refine ⟨_,by dsimp only[mv,aa];rw[show s.a+1+(tE x).length+((tB b).length+2)=s.a+((4,eE,0)::(tE x++((3, [123],0)::(tB b++ [(3, [125],0)])))).length from by simp only[List.length_cons,List.length_append,List.length_nil];omega], ?_⟩
  rw[Stm.er,Stm.er,e2]
theorem FP {n:Nat} {x:Stm} (hx:GS n x):∃w l,tS x=(4,w,0)::l/\w≠fi:=by
 cases hx<;>simp only[tS,if_true,show ¬(1:Int)=0 from by decide,show ¬(2:Int)=0 from by decide,show ¬(2:Int)=1 from by decide,show ¬(3:Int)=0 from by decide,show ¬(3:Int)=1 from by decide,show ¬(3:Int)=2 from by decide,show ¬(4:Int)=0 from by decide,show ¬(4:Int)=1 from by decide,show ¬(4:Int)=2 from by decide,show ¬(4:Int)=3 from by decide,show ¬(5:Int)=0 from by decide,show ¬(5:Int)=1 from by decide,show ¬(5:Int)=2 from by decide,show ¬(5:Int)=3 from by decide,show ¬(5:Int)=4 from by decide,show ¬(6:Int)=0 from by decide,show ¬(6:Int)=1 from by decide,show ¬(6:Int)=2 from by decide,show ¬(6:Int)=3 from by decide,show ¬(6:Int)=4 from by decide,show ¬(6:Int)=5 from by decide,show ¬(7:Int)=0 from by decide,show ¬(7:Int)=1 from by decide,show ¬(7:Int)=2 from by decide,show ¬(7:Int)=3 from by decide,show ¬(7:Int)=4 from by decide,show ¬(7:Int)=5 from by decide,show ¬(7:Int)=6 from by decide,if_false]<;>exact ⟨_,_,rfl,by decide⟩
theorem xi {n:Nat}:∀{l:List Stm},(∀x∈l,GS n x)->l.length<=(tB l).length
 | [],_=>by simp
 |s::l,h=>by
  obtain ⟨w,q,e,-⟩:=FP (h s List.mem_cons_self)
  rw[tB,e]
  have:=xi (fun x hx=>h x (List.mem_cons_of_mem _ hx))
  simp only[List.length_cons,List.length_append];omega
theorem uE {S:Rs->Stm×Rs} {n:Nat} (hS:∀{x:Stm} {s:Rs} {r:List Tk},GS n x->At L s.a (tS x++r)->QM r->s.e=0->∃x',S s=(x',mv s (tS x).length)/\x'.er=x.er):
 ∀{l:List Stm} {f:Nat} {acc:List Stm} {s:Rs} {r:List Tk},l.length<f->(∀x∈l,GS n x)->At L s.a (tB l++((3, [125],0)::r))->s.e=0->∃l',c9 L S f acc s=(acc++l',mv s ((tB l).length+1))/\hZ l'=hZ l:=by
 intro l
 induction l with
 |nil=>
  intro f acc s r hf hl hA he
  obtain ⟨f,rfl⟩:=Nat.exists_eq_succ_of_ne_zero (by simp at hf;omega:f≠0)
  rw[tB,List.nil_append] at hA
  refine ⟨[], ?_,rfl⟩
  rw[c9,Q4 (by omega),Q5 (hA.takeY he rfl),List.append_nil,tB]
  rfl
 |cons x l ih=>
  intro f acc s r hf hl hA he
  obtain ⟨f,rfl⟩:=Nat.exists_eq_succ_of_ne_zero (by omega:f≠0)
  rw[tB,List.append_assoc] at hA
  obtain ⟨w,q,ew,hw⟩:=FP (hl x List.mem_cons_self)
  have hnt:au L [125] s=false:=by
   have hA':=hA
   rw[ew,List.cons_append] at hA'
   exact hA'.takeN (by simp[eK,jd])
  have hnel:QM (tB l++((3, [125],0)::r)):=by
   cases l with
   |nil=>rw[tB,List.nil_append];intro z hz;cases hz;exact fun q=>Q3 q.1 (by decide)
   |cons y l=>
    obtain ⟨w',q',ew',hw'⟩:=FP (hl y (by simp))
    rw[tB,ew',List.cons_append,List.cons_append];intro z hz;cases hz;exact fun q=>hw' q.2
  obtain ⟨x',e1,e2⟩:=hS (hl x List.mem_cons_self) hA hnel he
  rw[c9,Q4 (by omega),hnt,Q4 (by simp),e1]
  dsimp only
  obtain ⟨l',e3,e4⟩:=ih (f:=f) (acc:=acc++ [x']) (s:=mv s (tS x).length) (by simp at hf;omega) (fun y hy=>hl y (List.mem_cons_of_mem _ hy)) hA.mid he
  refine ⟨x'::l', ?_,by rw[hZ,hZ,e2,e4]⟩
  rw[e3,List.append_assoc,List.cons_append,List.nil_append,tB,List.length_append]
  dsimp only[mv]
  rw[show s.a+(tS x).length+((tB l).length+1)=s.a+((tS x).length+(tB l).length+1) from by omega]
theorem zN:∀{n:Nat},n<=29->LP L (bC L (n+1)) n:=by
 intro n
 induction n with
 |zero=>
  intro _ l s r hl hA he
  rw[bC,dD,cp,Q4 (by omega),hA.want he rfl]
  obtain ⟨-,-,-,hA1,-⟩:=hA.now
  have h1:=hA1.len
  have h2:=xi hl
  obtain ⟨l',e1,e2⟩:=uE (L:=L) (S:=bD L (bC L 0)) (n:=0) (fun hx hA hr he=>DL (fun m hm=>by omega) hx hA hr he) (f:=L.length+1) (acc:= []) (s:=aa s) (by simp at h1;omega) hl hA1 he
  rw[e1]
  refine ⟨l', ?_,e2⟩
  rw[List.nil_append]
  dsimp only[mv,aa]
  rw[show s.a+1+((tB l).length+1)=s.a+((tB l).length+2) from by omega]
 |succ n ih=>
  intro hn l s r hl hA he
  rw[bC,dD,cp,Q4 (by omega),hA.want he rfl]
  obtain ⟨-,-,-,hA1,-⟩:=hA.now
  have h1:=hA1.len
  have h2:=xi hl
  have hP:=ih (by omega)
  have hP2:∀m,n+1=m+1->LP L (bC L (n+1)) m:=fun m hm=>by
   have q:n=m:=by omega
   exact q▸hP
  obtain ⟨l',e1,e2⟩:=uE (L:=L) (S:=bD L (bC L (n+1))) (n:=n+1) (fun hx hA hr he=>DL hP2 hx hA hr he) (f:=L.length+1) (acc:= []) (s:=aa s) (by simp at h1;omega) hl hA1 he
  rw[e1]
  refine ⟨l', ?_,e2⟩
  rw[List.nil_append]
  dsimp only[mv,aa]
  rw[show s.a+1+((tB l).length+1)=s.a+((tB l).length+2) from by omega]
end
end FR
open Go Nm Go.Proofs
namespace FR
def Gh (l:List (List Nat×List Stm)):List (List Nat×List Stm):=l.map fun t=>(t.1,hZ t.2)
def Gm (p:Prg):Prg:=⟨p.cs,Gh p.ts,hZ p.r⟩
section
variable {L:List Tok}
theorem It {c:List Nat×Int} (h2:0<=c.2/\c.2<=1048576) {P:Ps} {s:Rs} {r:List Tk} (hA:At L s.a (tC c++r)) (he:s.e=0):dJ L P s=(⟨P.cs++ [c],P.ts,P.rc,P.rd⟩,mv s (tC c).length):=by
 obtain ⟨nm,z⟩:=c
 dsimp only at h2
 unfold dJ
 unfold tC at hA ⊢
 dsimp only at hA ⊢
 split at hA
 ·rename_i q
  subst q
  simp only[List.cons_append,List.nil_append] at hA
  rw[Q5 (hA.takeY he rfl),Q5 rfl]
  obtain ⟨-,-,-,hA1,-⟩:=hA.now
  obtain ⟨-,-,-,hA2,-⟩:=hA1.now
  unfold dH
  rw[At.name (s:=aa s) hA1 he]
  dsimp only
  rw[At.takeN (s:=aa (aa s)) (w:= [91]) hA2 (by decide),Q4 (by simp)]
  dsimp only
  rw[At.want (s:=aa (aa s)) hA2 he rfl]
  rfl
 ·rename_i q
  simp only[List.cons_append,List.nil_append] at hA
  rw[Q5 (hA.takeY he rfl),Q4 q]
  obtain ⟨-,-,-,hA1,-⟩:=hA.now
  obtain ⟨-,-,-,hA2,-⟩:=hA1.now
  obtain ⟨-,-,-,hA3,-⟩:=hA2.now
  obtain ⟨k1,-,k3,hA4,-⟩:=hA3.now
  obtain ⟨-,-,-,hA5,-⟩:=hA4.now
  unfold dH
  rw[At.name (s:=aa s) hA1 he]
  dsimp only
  rw[At.takeY (s:=aa (aa s)) (w:= [91]) hA2 he rfl,Q5 rfl,Q5 (show (av L (aa (aa (aa s))).a).k=2 from k1)]
  dsimp only
  have e1:aT L [93] (aa (aa (aa (aa s))))=aa (aa (aa (aa (aa s)))):=At.want (s:=aa (aa (aa (aa s)))) hA4 he rfl
  have e2:aT L [59] (aa (aa (aa (aa (aa s)))))=aa (aa (aa (aa (aa (aa s))))):=At.want (s:=aa (aa (aa (aa (aa s))))) hA5 he rfl
  rw[e1,e2]
  have e3:bz (av L (aa (aa (aa s))).a)=z:=by
   unfold bz
   have k4:(av L (aa (aa (aa s))).a).n=z.toNat:=k3
   rw[k4]
   split<;>omega
  rw[e3]
  rfl
theorem Fs:∀{cs:List (List Nat×Int)} (h:∀c∈cs,0<=c.2/\c.2<=1048576) {f:Nat} {P:Ps} {s:Rs} {r:List Tk},At L s.a ((cs.map tC).flatten++r)->s.e=0->aW L (f+cs.length) P s=aW L f ⟨P.cs++cs,P.ts,P.rc,P.rd⟩ (mv s ((cs.map tC).flatten).length):=by
 intro cs
 induction cs with
 |nil=>intro h f P s r hA he;simp[mv]
 |cons c cs ih=>
  intro h f P s r hA he
  rw[List.map_cons,List.flatten_cons,List.append_assoc] at hA
  have hk:(av L s.a).k≠5:=by
   have hA':=hA
   unfold tC at hA'
   split at hA'<;>(rw[hA'.now.1];simp)
  rw[List.length_cons,←Nat.add_assoc,aW,Q4 (by omega),Q4 hk,It (h c List.mem_cons_self) hA he]
  dsimp only
  rw[ih (fun c hc=>h c (List.mem_cons_of_mem _ hc)) (s:=mv s (tC c).length) hA.mid he]
  simp only[List.map_cons,List.flatten_cons,List.length_append,List.append_assoc,List.cons_append,List.nil_append,mv,Nat.add_assoc]
theorem Bm {t:List Nat×List Stm} (h2:∀s∈t.2,GS 29 s) {P:Ps} {s:Rs} {r:List Tk} (hA:At L s.a (tT t++r)) (he:s.e=0):∃b,dJ L P s=(⟨P.cs,P.ts++ [(t.1,b)],P.rc,P.rd⟩,mv s (tT t).length)/\hZ b=hZ t.2:=by
 obtain ⟨nm,z⟩:=t
 dsimp only at h2
 unfold dJ
 unfold tT at hA ⊢
 simp only[List.cons_append,List.nil_append,List.append_assoc] at hA ⊢
 rw[hA.takeN (w:= [99,101,108,108]) (by decide),Q4 (by simp),Q5 (hA.takeY he rfl)]
 obtain ⟨-,-,-,hA1,-⟩:=hA.now
 obtain ⟨-,-,-,hA2,-⟩:=hA1.now
 unfold fD
 rw[At.name (s:=aa s) hA1 he]
 dsimp only
 obtain ⟨b,e1,e2⟩:=zN (L:=L) (n:=29) (by omega) z (aa (aa s)) _ h2 hA2 he
 rw[e1]
 refine ⟨b, ?_,e2⟩
 dsimp only[mv,aa]
 rw[show s.a+1+1+((tB z).length+2)=s.a+((4,iI,0)::(1,nm,0)::(3, [123],0)::(tB z++ [(3, [125],0)])).length from by simp only[List.length_cons,List.length_append,List.length_nil];omega]
theorem xT:∀{ts:List (List Nat×List Stm)} (h:∀t∈ts,∀s∈t.2,GS 29 s) {f:Nat} {P:Ps} {s:Rs} {r:List Tk},At L s.a ((ts.map tT).flatten++r)->s.e=0->
 ∃ts',aW L (f+ts.length) P s=aW L f ⟨P.cs,P.ts++ts',P.rc,P.rd⟩ (mv s ((ts.map tT).flatten).length)/\Gh ts'=Gh ts:=by
 intro ts
 induction ts with
 |nil=>intro h f P s r hA he;exact ⟨[],by simp[mv],rfl⟩
 |cons t ts ih=>
  intro h f P s r hA he
  rw[List.map_cons,List.flatten_cons,List.append_assoc] at hA
  have hk:(av L s.a).k≠5:=by
   have hA':=hA
   unfold tT at hA'
   rw[hA'.now.1];simp
  obtain ⟨b,e1,e2⟩:=Bm (h t List.mem_cons_self) (P:=P) hA he
  obtain ⟨ts',e3,e4⟩:=ih (fun c hc=>h c (List.mem_cons_of_mem _ hc)) (f:=f) (P:=⟨P.cs,P.ts++ [(t.1,b)],P.rc,P.rd⟩) (s:=mv s (tT t).length) hA.mid he
  refine ⟨(t.1,b)::ts', ?_, ?_⟩
  ·rw[List.length_cons,←Nat.add_assoc,aW,Q4 (by omega),Q4 hk,e1]
   dsimp only
   rw[e3]
   simp only[List.map_cons,List.flatten_cons,List.length_append,List.append_assoc,List.cons_append,List.nil_append,mv,Nat.add_assoc]
  ·unfold Gh at e4 ⊢
   rw[List.map_cons,List.map_cons,e4,e2]
theorem Ki {z:List Stm} (h2:∀s∈z,GS 29 s) (hz:z.length≠0) {P:Ps} (hP:P.rd=false) {s:Rs} {r:List Tk} (hA:At L s.a (tR z++r)) (he:s.e=0):∃b,dJ L P s=(⟨P.cs,P.ts,b,true⟩,mv s (tR z).length)/\hZ b=hZ z:=by
 unfold dJ
 unfold tR at hA ⊢
 rw[Q4 hz] at hA ⊢
 simp only[List.cons_append,List.nil_append,List.append_assoc] at hA ⊢
 rw[hA.takeN (w:= [99,101,108,108]) (by decide),Q4 (by simp),hA.takeN (w:= [116,104,114,101,97,100]) (by decide),Q4 (by simp)]
 obtain ⟨-,-,-,hA1,-⟩:=hA.now
 unfold pK a8
 rw[hP,Q4 (by simp),hA.want he rfl]
 obtain ⟨b,e1,e2⟩:=zN (L:=L) (n:=29) (by omega) z (aa s) _ h2 hA1 he
 rw[e1]
 refine ⟨b, ?_,e2⟩
 dsimp only[mv,aa]
 rw[show s.a+1+((tB z).length+2)=s.a+((4,cv,0)::(3, [123],0)::(tB z++ [(3, [125],0)])).length from by simp only[List.length_cons,List.length_append,List.length_nil];omega]
end
theorem b7 {α β:Type} {g:α->List β}:∀{l:List α},(∀x∈l,1<=(g x).length)->l.length<=((l.map g).flatten).length
 | [],_=>by simp
 |x::l,h=>by
  have:=b7 (l:=l) fun y hy=>h y (List.mem_cons_of_mem _ hy)
  have:=h x List.mem_cons_self
  simp only[List.map_cons,List.flatten_cons,List.length_append,List.length_cons];omega
theorem B8 {p:Prg} (h:GP p) (hl:(jh p).length<=16384):∃q,cC (jh p)=(some q,(jh p).length,0)/\Gm q=Gm p:=by
 obtain ⟨L,hL,hA⟩:=LV h
 have hA0:At L (⟨0,0,0⟩:Rs).a ((p.cs.map tC).flatten++((p.ts.map tT).flatten++(tR p.r++ [(5, [],0)]))):=by
  unfold At;rw[List.drop_zero];exact hA
 have hlen:=hA0.len
 have hc:p.cs.length<=((p.cs.map tC).flatten).length:=b7 fun c _=>by unfold tC;split<;>simp
 have ht:p.ts.length<=((p.ts.map tT).flatten).length:=b7 fun c _=>by unfold tT;simp
 simp only[List.length_append,List.length_cons,List.length_nil] at hlen
 have key:∃ts' r' b,aW L (L.length+1) ⟨[], [], [],false⟩ ⟨0,0,0⟩=(⟨p.cs,ts',r',b⟩,⟨(((p.cs.map tC).flatten).length+(((p.ts.map tT).flatten).length+(tR p.r).length)),0,0⟩)/\Gh ts'=Gh p.ts/\hZ r'=hZ p.r:=by
  obtain ⟨f,hf⟩:∃f,L.length+1=f+1+1+p.ts.length+p.cs.length:=⟨L.length+1 - p.ts.length - p.cs.length - 2,by omega⟩
  rw[hf,Fs (fun c hc=>(h.c c hc).2) hA0 rfl]
  have hA1:=hA0.mid
  obtain ⟨ts',e1,e2⟩:=xT (fun t ht=>(h.t t ht).2) (f:=f+1+1) (P:=⟨[]++p.cs, [], [],false⟩) (s:=mv ⟨0,0,0⟩ ((p.cs.map tC).flatten).length) hA1 rfl
  rw[e1]
  have hA2:=hA1.mid
  by_cases hz:p.r.length=0
  ·have hr:=List.eq_nil_of_length_eq_zero hz
   have ht0:tR p.r= []:=by unfold tR;rw[Q5 hz]
   rw[ht0,List.nil_append] at hA2
   rw[aW,Q4 (by simp),Q5 hA2.now.1,ht0,hr]
   exact ⟨ts', [],false,by simp[mv],e2,rfl⟩
  ·have hk:(av L (mv (mv ⟨0,0,0⟩ ((p.cs.map tC).flatten).length) ((p.ts.map tT).flatten).length).a).k≠5:=by
    have hA':=hA2
    unfold tR at hA'
    rw[Q4 hz] at hA'
    exact fun q=>Q3 (hA'.now.1.symm.trans q) (by simp)
   obtain ⟨b,e3,e4⟩:=Ki h.r hz (P:=⟨[]++p.cs, []++ts', [],false⟩) rfl (s:=mv (mv ⟨0,0,0⟩ ((p.cs.map tC).flatten).length) ((p.ts.map tT).flatten).length) hA2 rfl
   rw[aW,Q4 (by simp),Q4 hk,e3]
   have hA3:=hA2.mid
   dsimp only
   rw[aW,Q4 (by simp),Q5 hA3.now.1]
   exact ⟨ts',b,true,by simp[mv,Nat.add_assoc],e2,e4⟩
 obtain ⟨ts',r',b,e1,e2,e3⟩:=key
 unfold cC
 rw[Q4 (by omega),hL]
 dsimp only
 rw[e1,Q4 (by simp)]
 exact ⟨_,rfl,by unfold Gm;dsimp only;rw[e2,e3]⟩
end FR
open Go Nm Go.Proofs
namespace FR
structure TOk (L:List Tok):Prop where
 nm:∀t∈L,t.k=1->NmOk t.t
 n:∀t∈L,t.k=2->t.n<18446744073709551616
theorem o9:∀(l:List Nat) (a n:Nat),a<18446744073709551616->eO l a=some n->n<18446744073709551616
 | [],a,n,ha,h=>by cases h;exact ha
 |c::l,a,n,ha,h=>by
  rw[eO] at h
  split at h
  ·exact o9 l _ n ‹_› h
  ·cases h
theorem Hx {s:List Nat} {a k n e:Nat} {t:List Nat} (h:b8 s a=some (k,t,n,e)):(k=1->NmOk t)/\(k=2->n<18446744073709551616):=by
 unfold b8 at h
 cases hb:s[a]? with
 |none=>rw[hb] at h;cases h
 |some c=>
  rw[hb] at h
  dsimp only at h
  split at h
  ·rename_i hL
   split at h
   ·cases h;exact ⟨fun q=>Q3 q (by decide),fun q=>Q3 q (by decide)⟩
   ·rename_i hw
    split at h
    ·rename_i hl
     cases h
     refine ⟨fun _=>⟨?_,jX bT s a,hl,hw⟩,fun q=>Q3 q (by decide)⟩
     obtain ⟨l,e⟩:=xK (p:=bT) hb (by unfold bT;rw[hL];rfl)
     exact ⟨c,l,e,hL⟩
    ·cases h
  ·split at h
   ·split at h
    ·rename_i n' hv
     split at h
     ·cases h
      refine ⟨fun q=>Q3 q (by decide),fun _=> ?_⟩
      unfold ke at hv
      split at hv
      ·cases hv
      ·exact o9 _ 0 _ (by omega) hv
     ·cases h
    ·cases h
   ·split at h
    ·cases h;exact ⟨fun q=>Q3 q (by decide),fun q=>Q3 q (by decide)⟩
    ·cases h
theorem Bz (s:List Nat):∀(f a:Nat),TOk (bR s f a).1:=by
 intro f
 induction f with
 |zero=>intro a;rw[bR];exact ⟨fun t h=>Q3 h Q8,fun t h=>Q3 h Q8⟩
 |succ f ih=>
  intro a
  rw[bR]
  split
  ·split
   ·exact ⟨fun t h=>Q3 h Q8,fun t h=>Q3 h Q8⟩
   ·rename_i k t n e hq
    obtain ⟨q1,q2⟩:=Hx hq
    obtain ⟨q3,q4⟩:=ih (bc s e)
    refine ⟨fun z hz hk=> ?_,fun z hz hk=> ?_⟩
    ·rcases List.mem_cons.mp hz with rfl|hz
     ·exact q1 hk
     ·exact q3 z hz hk
    ·rcases List.mem_cons.mp hz with rfl|hz
     ·exact q2 hk
     ·exact q4 z hz hk
  ·refine ⟨fun z hz hk=> ?_,fun z hz hk=> ?_⟩<;>(rw[List.mem_singleton] at hz;subst hz;exact Q3 hk (by simp))
section
variable {L:List Tok}
theorem TOk.at (h:TOk L) (a:Nat):((av L a).k=1->NmOk (av L a).t)/\((av L a).k=2->(av L a).n<18446744073709551616):=by
 unfold av
 cases hq:L[a]? with
 |none=>exact ⟨fun q=>Q3 q (by decide),fun q=>Q3 q (by decide)⟩
 |some t=>
  have:=List.mem_of_getElem? hq
  exact ⟨h.nm t this,h.n t this⟩
theorem gy {e:Nat} (he:e≠0) {s:Rs} (h:(aV e s).e=0):False:=by
 unfold aV at h
 split at h
 ·exact he h
 ·exact Q3 h ‹_›
def EG (E:Rs->Ex×Rs):Prop:=∀s,(E s).2.e=0->GX (E s).1
theorem jm (h:TOk L) {s:Rs} (he:(aJ L s).2.e=0):NmOk (aJ L s).1:=by
 unfold aJ at he ⊢
 split
 ·rename_i q;rw[Q5 q] at he;exact (gy (by decide) he).elim
 ·rename_i q;exact (h.at _).1 (by omega)
theorem Gd (h:TOk L) {E:Rs->Ex×Rs} {d:Nat} (hE:EG E):EG (bO L E d):=by
 intro s he
 unfold bO at he ⊢
 split at he
 ·exact Q3 he ‹_›
 ·rename_i q0
  rw[Q4 q0]
  split at he
  ·exact (gy (by decide) he).elim
  ·rename_i q1
   rw[Q4 q1]
   split at he
   ·rename_i q2;rw[Q5 q2];exact ⟨.int ((h.at _).2 q2),by simp[me,Ex.depth,bo]⟩
   ·rename_i q2
    rw[Q4 q2]
    split at he
    ·rename_i q3;rw[Q5 q3];exact ⟨.name ((h.at _).1 q3),by simp[gR,Ex.depth,bo]⟩
    ·rename_i q3
     rw[Q4 q3]
     split at he
     ·rename_i q4;rw[Q5 q4];exact hE _ ((aZ L [41] _).zero he)
     ·exact (gy (by decide) he).elim
theorem Lv (h:TOk L) {P:Rs->Ex×Rs} (hP:EG P):∀(f:Nat) (x:Ex) (s:Rs),(s.e=0->GX x)->(cJ L P f x s).2.e=0->GX (cJ L P f x s).1:=by
 intro f
 induction f with
 |zero=>intro x s hx he;exact hx he
 |succ f ih=>
  intro x s hx he
  rw[cJ] at he ⊢
  split at he
  ·exact Q3 he ‹_›
  ·rename_i q0
   rw[Q4 q0]
   split at he
   ·rename_i q1;rw[Q5 q1];exact hx he
   ·rename_i q1
    rw[Q4 q1]
    split at he
    ·exact Q3 he ‹_›
    ·rename_i q2
     rw[Q4 q2]
     refine ih _ _ (fun hz=> ?_) he
     split at hz
     ·exact (gy (by decide) hz).elim
     ·exact ⟨.op (by simpa using q1) (hx (by omega)).g (hP _ hz).g,by omega⟩
theorem yW (h:TOk L) {E:Rs->Ex×Rs} {d:Nat} (hE:EG E):EG (dZ L E d):=fun s he=>Lv h (Gd h hE) _ _ _ (fun q=>Gd h hE s q) he
theorem io (h:TOk L):∀n,EG (dY L n):=by
 intro n
 induction n with
 |zero=>
  intro s he
  refine yW h ?_ s he
  intro s' he'
  exact ⟨.int (by omega),by simp[zE,Ex.depth,bo]⟩
 |succ n ih=>exact yW h ih
theorem rO (h:TOk L) {s:Rs} (he:(aL L s).2.2.e=0):NmOk (aL L s).1/\GX (aL L s).2.1:=by
 unfold aL at he ⊢
 split at he
 ·rename_i q
  rw[Q5 q]
  have h1:=(aZ L [93] _).zero he
  have h2:=(bi L 30 _).zero h1
  exact ⟨jm h ((cF q).zero h2),io h 30 _ h1⟩
 ·rename_i q
  rw[Q4 q]
  exact ⟨jm h he,.int (by omega),by simp[zE,Ex.depth,bo]⟩
theorem IB (h:TOk L) {B:Rs->List Stm×Rs} {n:Nat} (hS:∀s,St L s (B s).2) (hB:∀s,(B s).2.e=0->∃m,n=m+1/\∀x∈(B s).1,GS m x) {s:Rs} (he:(bD L B s).2.e=0):GS n (bD L B s).1:=by
 have hend:∀{x:Stm} {s:Rs},(lI L x s).2.e=0->s.e=0:=fun q=>(aZ L [59] _).zero q
 unfold bD at he ⊢
 split at he
 ·rename_i q;rw[Q5 q]
  have h1:=hend he
  exact .set (jm h ((bi L 30 _).zero h1)) (io h 30 _ h1)
 ·rename_i q;rw[Q4 q]
  split at he
  ·rename_i q;rw[Q5 q]
   have h1:=hend he
   obtain ⟨g1,g2⟩:=rO h h1
   exact .load (jm h ((cY _).zero h1)) g1 g2
  ·rename_i q;rw[Q4 q]
   split at he
   ·rename_i q;rw[Q5 q]
    have h1:=hend he
    obtain ⟨g1,g2⟩:=rO h ((bi L 30 _).zero h1)
    exact .store g1 g2 (io h 30 _ h1)
   ·rename_i q;rw[Q4 q]
    split at he
    ·rename_i q;rw[Q5 q]
     unfold H6 at he ⊢
     have h1:=hend he
     have h2:=(bi L 30 _).zero h1
     have h3:=(bi L 30 _).zero h2
     obtain ⟨g1,g2⟩:=rO h h3
     have g4:=io h 30 _ h2
     have g5:=io h 30 _ h1
     have g6:=jm h ((cY _).zero h3)
     unfold lI
     exact GS.cas g6 g1 g2 g4 g5
    ·rename_i q;rw[Q4 q]
     split at he
     ·rename_i q;rw[Q5 q];exact .fence
     ·rename_i q;rw[Q4 q]
      split at he
      ·rename_i q;rw[Q5 q]
       exact .out (io h 30 _ (hend he))
      ·rename_i q;rw[Q4 q]
       split at he
       ·rename_i q;rw[Q5 q]
        unfold DM at he ⊢
        split at he
        ·rename_i q;rw[Q5 q]
         obtain ⟨m,rfl,g1⟩:=hB _ he
         have h1:=(cF q).zero ((hS _).zero he)
         obtain ⟨m',e,g2⟩:=hB _ h1
         obtain rfl:m=m':=by omega
         have h2:=(hS _).zero h1
         have h3:=io h 30 _ h2
         exact GS.cond h3 g2 g1
        ·rename_i q;rw[Q4 q]
         obtain ⟨m,rfl,g1⟩:=hB _ he
         have h2:=(hS _).zero he
         have h3:=io h 30 _ h2
         exact GS.cond h3 g1 (fun x hx=>Q3 hx Q8)
       ·rename_i q;rw[Q4 q]
        split at he
        ·rename_i q;rw[Q5 q]
         unfold mt at he ⊢
         obtain ⟨m,rfl,g1⟩:=hB _ he
         have h2:=(hS _).zero he
         have h3:=io h 30 _ h2
         exact GS.loop h3 g1
        ·exact (gy (by decide) (hend he)).elim
theorem An {S:Rs->Stm×Rs} {n:Nat} (hS:∀s,(S s).2.e=0->GS n (S s).1) (hT:∀s,St L s (S s).2):∀(f:Nat) (l:List Stm) (s:Rs),(s.e=0->∀x∈l,GS n x)->(c9 L S f l s).2.e=0->∀x∈(c9 L S f l s).1,GS n x:=by
 intro f
 induction f with
 |zero=>intro l s hl he;exact hl he
 |succ f ih=>
  intro l s hl he
  rw[c9] at he ⊢
  split at he
  ·exact Q3 he ‹_›
  ·rename_i q0
   rw[Q4 q0]
   split at he
   ·rename_i q1;rw[Q5 q1];exact hl (by omega)
   ·rename_i q1
    rw[Q4 q1]
    refine ih _ _ (fun hz x hx=> ?_) he
    rcases List.mem_append.mp hx with hx|hx
    ·exact hl (by omega) x hx
    ·rw[List.mem_singleton] at hx;subst hx;exact hS s hz
theorem G2 (s:Rs):(bC L 0 s).2.e≠0:=by
 intro he
 have hS:∀s,St L s ((fun s=>((Stm.mk 0 0 [] [] zE zE zE [] []:Stm),aV 2 s)) s).2:=fun s=>bS L 2 s
 rw[bC,dD] at he
 have h1:=(pA (L:=L) hS _ _ _).zero he
 unfold aT at h1
 split at h1
 ·rename_i q
  unfold cp at q h1
  split at q
  ·obtain ⟨q1,-⟩:=bE q
   exact gy (by decide) q1
  ·rename_i q2
   obtain ⟨e1,e2,e3⟩:=of_decide_eq_true q
   exact q2 ⟨e1,by omega,e2,e3⟩
 ·exact gy (by decide) h1
theorem Ep (h:TOk L):∀(n:Nat) (s:Rs),(bC L (n+1) s).2.e=0->∀x∈(bC L (n+1) s).1,GS n x:=by
 intro n
 induction n with
 |zero=>
  intro s he
  rw[bC,dD] at he ⊢
  exact An (fun s hs=>IB h (bN 0) (fun s q=>Q3 q (G2 s)) hs) (fun s=>jO (bN 0) s) _ _ _ (fun _ x hx=>Q3 hx Q8) he
 |succ n ih=>
  intro s he
  rw[bC,dD] at he ⊢
  exact An (fun s hs=>IB h (bN (n+1)) (fun s q=>⟨n,rfl,ih s q⟩) hs) (fun s=>jO (bN (n+1)) s) _ _ _ (fun _ x hx=>Q3 hx Q8) he
structure GPs (P:Ps):Prop where
 c:∀c∈P.cs,NmOk c.1/\0<=c.2/\c.2<=1048576
 t:∀t∈P.ts,NmOk t.1/\∀s∈t.2,GS 29 s
 r:∀s∈P.rc,GS 29 s
theorem Md (h:TOk L) {s:Rs} (he:(dH L s).2.e=0):NmOk (dH L s).1.1/\0<=(dH L s).1.2/\(dH L s).1.2<=1048576:=by
 unfold dH at he ⊢
 split at he
 ·rename_i q
  rw[Q5 q]
  split at he
  ·rename_i q1
   rw[Q5 q1]
   have h1:=(aZ L [93] _).zero ((aZ L [59] _).zero he)
   refine ⟨jm h ((cF q).zero h1), ?_⟩
   unfold bz
   dsimp only
   split<;>omega
  ·exact (gy (by decide) ((aZ L [93] _).zero ((aZ L [59] _).zero he))).elim
 ·rename_i q
  rw[Q4 q]
  exact ⟨jm h ((aZ L [59] _).zero he),by simp⟩
theorem Ox (h:TOk L) {P:Ps} {s:Rs} (hP:GPs P) (he:(dJ L P s).2.e=0):GPs (dJ L P s).1:=by
 unfold dJ at he ⊢
 split at he
 ·rename_i q;rw[Q5 q]
  refine ⟨fun c hc=> ?_,hP.t,hP.r⟩
  rcases List.mem_append.mp hc with hc|hc
  ·exact hP.c c hc
  ·rw[List.mem_singleton] at hc;subst hc;exact Md h he
 ·rename_i q;rw[Q4 q]
  split at he
  ·rename_i q;rw[Q5 q]
   refine ⟨hP.c,fun t ht=> ?_,hP.r⟩
   rcases List.mem_append.mp ht with ht|ht
   ·exact hP.t t ht
   ·rw[List.mem_singleton] at ht;subst ht
    exact ⟨jm h ((bN 30 _).zero he),Ep h 29 _ he⟩
  ·rename_i q;rw[Q4 q]
   exact ⟨hP.c,hP.t,Ep h 29 _ he⟩
theorem J5 (h:TOk L):∀(f:Nat) (P:Ps) (s:Rs),(s.e=0->GPs P)->(aW L f P s).2.e=0->GPs (aW L f P s).1:=by
 intro f
 induction f with
 |zero=>intro P s hP he;exact hP he
 |succ f ih=>
  intro P s hP he
  rw[aW] at he ⊢
  split at he
  ·exact Q3 he ‹_›
  ·rename_i q0
   rw[Q4 q0]
   split at he
   ·rename_i q1;rw[Q5 q1];exact hP (by omega)
   ·rename_i q1
    rw[Q4 q1]
    exact ih _ _ (fun hz=>Ox h (hP (by omega)) hz) he
end
theorem zl {b:List Nat} {p:Prg} {a e:Nat} (h:cC b=(some p,a,e)):GP p/\e=0:=by
 unfold cC at h
 split at h
 ·cases h
 ·split at h
  ·cases h
  ·split at h
   ·cases h
   ·rename_i q
    cases h
    have hg:=J5 (L:=(bn b).1) (Bz b _ _) ((bn b).1.length+1) ⟨[], [], [],false⟩ ⟨0,0,0⟩ (fun _=>⟨fun c hc=>Q3 hc Q8,fun c hc=>Q3 hc Q8,fun c hc=>Q3 hc Q8⟩) (by simpa using q)
    exact ⟨⟨hg.c,hg.t,hg.r⟩,rfl⟩
mutual
theorem JL:∀(d:Nat) (s:Stm),dI d s.er=dI d s
 |d,.mk k a nm ce i x y b e=>by
  rw[Stm.er,dI,dI,pE (d+1) b,pE (d+1) e,sZ e]
theorem pE:∀(d:Nat) (l:List Stm),dj d (hZ l)=dj d l
 |d, []=>rfl
 |d,s::l=>by rw[hZ,dj,dj,JL d s,pE d l]
theorem sZ:∀(l:List Stm),(hZ l).length=l.length
 | []=>rfl
 |s::l=>by rw[hZ,List.length_cons,List.length_cons,sZ l]
end
theorem D0 (p:Prg):jh (Gm p)=jh p:=by
 unfold jh Gm Gh tJ
 dsimp only
 rw[List.map_map,pE,sZ]
 congr 2
 congr 1
 refine List.map_congr_left fun t _=> ?_
 show jU (t.1,hZ t.2)=jU t
 unfold jU
 rw[pE]
theorem F5 {p q:Prg} (h:Gm q=Gm p):jh q=jh p:=by rw[←D0 q,h,D0]
end FR
open Go Nm Go.Proofs
namespace FR
abbrev iu (z:Int):NV:= .int .u64 (.lit z)
def P5 (z:Int):Prop:=0<=z/\z<18446744073709551616
end FR
open Go Nm Go.Proofs
namespace FR
abbrev Qn (l:List Int):List (List NV):=l.map fun z=> [iu z]
structure Env (m0:NH) (vn vv:NV) (ns:List (List Nat)) (vs:List Int):Prop where
 n:Sl m0 vn 1 (ft ns)
 v:Sl m0 vv 1 (Qn vs)
 i:∀z∈vs,P5 z
 ln:ns.length<=1000000
 lv:vs.length<=1000000
theorem Env.grow {m0 m:NH} {vn vv:NV} {ns:List (List Nat)} {vs:List Int} (h:Env m0 vn vv ns vs) (hC:Chg [] m0 m):Env m vn vv ns vs:=⟨h.n.chg hC fun _ _=>by simp,h.v.chg hC fun _ _=>by simp,h.i,h.ln,h.lv⟩
theorem aE.grow {T:D4->Prop} {a b c:NH} (h:aE T a b) (hC:Chg [] b c):aE T a c:=fun i hi ho=>by
 obtain ⟨h1,h2⟩:=h i hi ho
 exact ⟨(hC.get h2 (by simp)).trans h1,hC.old h2⟩
theorem jV {m0 M:NH} {T:D4->Prop} {ks:List Ex} {vk:NV} {C:List (List NV)} (hS:SE m0 T vk ks C) (hst:aE T m0 M) (i:Nat) (hi:i<ks.length):∃u id off w c,RE m0 T ks[i] (ks[i].l u)/\np 5 vk (.int .i64 (.lit (i:Int)))= .val (.ptr id off)/\M.get id=some (.cells w c)/\aw M id/\off+5<=c.length/\(c.drop off).take 5=ks[i].l u:=by
 obtain ⟨cx,hcx,hRx⟩:=hS.at i hi
 have hc:i<C.length:=by rw[hS.len];exact hi
 obtain ⟨id,off,wr,c,a1,a2,a3,a4,a5⟩:=(hS.stays hst).sl.at i hc
 obtain ⟨u,Cx,rfl,-⟩:=hRx.inv'
 rw[List.getElem?_eq_getElem hc] at hcx
 injection hcx with hcx
 exact ⟨u,id,off,wr,c,hRx,a1,a2,a3,a4,a5.trans hcx⟩
theorem cj {m:NH} {T:D4->Prop} {x:Ex} {u:NV} (h:RE m T x (x.l u)):br 4 (.agg (x.l u)) (.agg (x.l u))=true:=by
 cases x
 obtain ⟨v,C,e,hS⟩:=h.inv
 refine od ?_
 intro w hw
 rw[e] at hw
 simp only[Q9,Q8,or_false] at hw
 rcases hw with rfl|rfl|rfl|rfl|rfl
 ·trivial
 ·trivial
 ·trivial
 ·trivial
 ·exact hS.sl.flat
end FR
open Go Nm Go.Proofs
namespace FR
theorem GM (r:Nat) (hr:r<10):List.drop r (48::List.take r [49,50,51,52,53,54,55,56,57])= [48+r]:=by
 have:r=0∨r=1∨r=2∨r=3∨r=4∨r=5∨r=6∨r=7∨r=8∨r=9:=by omega
 rcases this with rfl|rfl|rfl|rfl|rfl|rfl|rfl|rfl|rfl|rfl<;>rfl
theorem FV:∀(k u:Nat),u<10 ^ k->0<k->(du u).length<=k:=by
 intro k
 induction k with
 |zero=>intro u _ h;omega
 |succ k ih=>
  intro u hu _
  rw[du]
  split
  ·simp
  ·rw[List.length_append]
   rcases Nat.eq_zero_or_pos k with rfl|hk
   ·omega
   ·have:=ih (u / 10) (by rw[Nat.pow_succ] at hu;omega) hk
    simp;omega
theorem jT {u:Nat} (h:u<18446744073709551616):(du u).length<=20:=FV 20 u (by show u<100000000000000000000;omega) (by omega)
theorem Dv:∀(u:Nat) (m:NH),u<18446744073709551616->a6 Tryz.prog S0 19 [u64 u] m (.str (du u)) m:=by
 intro u
 induction u using Nat.strongRecOn with
 |ind u ih=>
  intro m hu
  have h:∃v m',a6 Tryz.prog S0 19 [u64 u] m v m'/\v= .str (du u)/\m'=m:=by
   refine WF.ex fun K hK=> ?_
   refine WF.of_wpG (fun _=>rfl) Ac (L:= [(.e,u64 u)]) rfl ?_
   unfold Lc
   have hrem:ee .num .rem (u64 u) (.int .u64 (.lit 10))=some (u64 (u % 10)):=ER (b:=10) (by omega)
   have hquo:ee .num .quo (u64 u) (.int .u64 (.lit 10))=some (u64 (u / 10)):=by
    have:=ww (a:=u) (b:=10) (by omega)
    rw[Nat.mod_eq_of_lt (by omega:u / 10<18446744073709551616)] at this
    exact this
   have hr10:u % 10<10:=Nat.mod_lt _ (by omega)
   have hdig:=GM (u % 10) hr10
   have e1:(((u % 10:Nat):Int)+1) % 18446744073709551616=((u % 10+1:Nat):Int):=by omega
   have hl10: [48,49,50,51,52,53,54,55,56,57].length=10:=rfl
   by_cases h:u<10
   ·have hK':=hK (.str [48+u % 10]) m ⟨by rw[du,Q5 h,Nat.mod_eq_of_lt h],rfl⟩
    clear hK
    have hgt:decide ((9:Int)<(u:Int))=false:=by simp;omega
    generalize u % 10=r at *
    simp (config:={maxSteps:=1000000}) (disch:=first|assumption|omega|(apply ai;omega)|(apply ae;assumption)|(simp only[ay]<;>omega)) only[go_sem,seval,hrem,e1,hl10,hdig,hgt]
    rw[ab]
    exact hK'
   ·have hr:=fun m=>ih (u / 10) (by omega) m (by omega)
    have hl:=jT (u:=u / 10) (by omega)
    have hK':=hK (.str (du (u / 10)++ [48+u % 10])) m ⟨by rw[du.eq_1 u,Q4 h],rfl⟩
    clear hK
    have hgt:decide ((9:Int)<(u:Int))=true:=by simp;omega
    generalize u % 10=r at *
    generalize u / 10=w at *
    simp (config:={maxSteps:=1000000}) (disch:=first|assumption|omega|(apply ai;omega)|(apply ae;assumption)|(simp only[ay]<;>omega)) only[go_sem,seval,hrem,hquo,e1,hl10,hdig,hgt,(hr _).wf']
    rw[ab]
    exact hK'
  obtain ⟨v,m',h,rfl,rfl⟩:=h
  exact h
theorem G8 {x:Ex} (h:GE x):(cO x).length+5<=25*2 ^ x.depth:=by
 induction h with
 |int h=>
  have:=jT h
  simp[me,cO,Ex.depth,bo];omega
 |name h=>
  have:=h.len
  simp[gR,cO,Ex.depth,bo];omega
 |@op o x y h hx hy ihx ihy=>
  rw[mC,show (gQ o x y).depth=max x.depth y.depth+1 from by simp[gQ,Ex.depth,bo],Nat.pow_succ]
  have a:=Nat.pow_le_pow_right (n:=2) (by omega) (Nat.le_max_left x.depth y.depth)
  have b:=Nat.pow_le_pow_right (n:=2) (by omega) (Nat.le_max_right x.depth y.depth)
  simp only[List.length_append,List.length_cons,List.length_nil]
  omega
theorem dp {x:Ex} (h:GX x):(cO x).length<=30000000000:=by
 have a:=G8 h.g
 have b:=Nat.pow_le_pow_right (n:=2) (by omega) h.d
 have:(2:Nat) ^ 30=1073741824:=rfl
 omega
theorem jB {x:Ex} (h:GE x):x.depth<=30->∀{m0 m:NH} {T:D4->Prop} {c:List NV},RE m0 T x c->aE T m0 m->∃m',a6 Tryz.prog S0 39 [.agg c] m (.str (cO x)) m'/\Chg [] m m':=by
 induction h with
 |@int n h=>
  intro _ m0 m T c hR hst
  obtain ⟨vk,C,rfl,hS⟩:=hR.inv
  refine WF.ex1 fun K hK=> ?_
  refine WF.of_wpG (fun _=>rfl) nQ (L:= [(.e,.agg [ii 0,u64 n,u8 0,.str [],vk])]) rfl ?_
  unfold Fp
  have hd:=fun m=>Dv n m h
  simp (config:={maxSteps:=1000000}) (disch:=first|assumption|omega|(apply ai;omega)|(apply ae;assumption)|(simp only[ay]<;>omega)) only[go_sem,seval,(hd _).wf']
  have e:cO (me n)=du n:=by simp[me,cO]
  rw[e] at hK
  exact hK _ (aH rfl)
 |@name s h=>
  intro _ m0 m T c hR hst
  obtain ⟨vk,C,rfl,hS⟩:=hR.inv
  refine WF.ex1 fun K hK=> ?_
  refine WF.of_wpG (fun _=>rfl) nQ (L:= [(.e,.agg [ii 1,u64 0,u8 0,.str s,vk])]) rfl ?_
  unfold Fp
  simp (config:={maxSteps:=1000000}) (disch:=first|assumption|omega|(apply ai;omega)|(apply ae;assumption)|(simp only[ay]<;>omega)) only[go_sem,seval]
  have e:cO (gR s)=s:=by simp[gR,cO]
  rw[e] at hK
  exact hK _ (aH rfl)
 |@op o x y h hx hy ihx ihy=>
  intro hd m0 m T c hR hst
  have hdep:(gQ o x y).depth=max x.depth y.depth+1:=by simp[gQ,Ex.depth,bo]
  rw[mC]
  have ho:o<256:=by have:=of_decide_eq_true h;omega
  have lx:=dp ⟨hx,by omega⟩
  have ly:=dp ⟨hy,by omega⟩
  obtain ⟨vk,C,rfl,hS⟩:=hR.inv
  refine WF.ex1 fun K hK=> ?_
  refine WF.of_wpG (fun _=>rfl) nQ (L:= [(.e,.agg [ii 2,u64 0,u8 o,.str [],vk])]) rfl ?_
  unfold Fp
  generalize hM1:hp [(.n 0,.cells true [ii 2,u64 0,u8 o,.str [],vk])] 1 m=M1
  have hC1:Chg [] m M1:=bf hM1 rfl
  have hg1:M1.get (na m 0)=some (.cells true [ii 2,u64 0,u8 o,.str [],vk]):=bu hM1
  have hst1:=hst.grow hC1
  have hlk:=(hS.stays hst1).sl.len
  rw[hS.len] at hlk
  obtain ⟨ua,ia,oa,wa,ca,hRa,a1,a2,a3,a4,a5⟩:=jV hS hst1 0 (by simp)
  obtain ⟨ub,ib,ob,wb,cb,hRb,b1,b2,b3,b4,b5⟩:=jV hS hst1 1 (by simp)
  have a1':np 5 vk (ii 0)= .val (.ptr ia oa):=a1
  have b1':np 5 vk (ii 1)= .val (.ptr ib ob):=b1
  have ho1:aw M1 (na m 0):=bB hM1 (by omega)
  have hC2:Chg [] M1 (M1.add (.cells true [u8 o])):=Chg.add M1 _
  have hgN:(M1.add (.cells true [u8 o])).get M1.next=some (.cells true [u8 o]):=NH.get_add_same M1 _
  have hoN:aw (M1.add (.cells true [u8 o])) M1.next:=bh M1 _
  generalize hM2:M1.add (.cells true [u8 o])=M2 at hC2 hgN hoN
  have hsl:Sl M2 (.slc M1.next 0 1 1 1) 1 (gi [o]):=⟨by simp[gi],Or.inr ⟨M1.next,0,1,true, [u8 o],rfl,hgN,hoN,by simp[gi],by simp[gi]⟩⟩
  have hbts:p9 M2 (.slc M1.next 0 1 1 1)= .val (.str [o]):=hsl.bts (by simpa using ho)
  have hst2:=hst1.grow hC2
  obtain ⟨M3,hr3,hC3⟩:=ihx (by omega) hRa hst2
  have hst3:=hst2.grow hC3
  obtain ⟨M4,hr4,hC4⟩:=ihy (by omega) hRb hst3
  have hg2:=(hC2.get ho1 (by simp)).trans hg1
  have hg3:=(hC3.get (hC2.old ho1) (by simp)).trans hg2
  have hg4:=(hC4.get (hC3.old (hC2.old ho1)) (by simp)).trans hg3
  have a22:=(hC2.get a3 (by simp)).trans a2
  have b22:=(hC2.get b3 (by simp)).trans b2
  have a23:=(hC3.get (hC2.old a3) (by simp)).trans a22
  have b23:=(hC3.get (hC2.old b3) (by simp)).trans b22
  have a24:=(hC4.get (hC3.old (hC2.old a3)) (by simp)).trans a23
  have b24:=(hC4.get (hC3.old (hC2.old b3)) (by simp)).trans b23
  have hvk:br 4 vk vk=true:=hS.sl.same
  have hsa:=cj hRa
  have hsb:=cj hRb
  simp (config:={maxSteps:=1000000}) (disch:=first|assumption|omega|(apply ai;omega)|(apply ae;assumption)|(simp only[ay]<;>omega)) only[go_sem,seval,hM1,hg1,hlk,a1',a2,a5,b1',b2,b5,hM2,hg2,hbts,a22,b22,hr3.wf',hg3,a23,b23,hr4.wf',hg4,a24,b24,hvk,hsa,hsb]
  have hs3:p9 M3 (.slc M1.next 0 1 1 1)= .val (.str [o]):=(hsl.chg hC3 (by simp)).bts (by simpa using ho)
  have hs4:p9 M4 (.slc M1.next 0 1 1 1)= .val (.str [o]):=((hsl.chg hC3 (by simp)).chg hC4 (by simp)).bts (by simpa using ho)
  rw[hs3,hs4]
  have q:br 4 (.str [o]) (.str [o])=true:=rS (n:=3)
  refine ⟨q,q, ?_⟩
  have:=hK M4 (((hC1.trans hC2 (by simp)).trans hC3 (by simp)).trans hC4 (by simp))
  simpa using this
theorem Ls (m:NH) (d:Nat) (hd:d<=100):∃m',a6 Tryz.prog S0 38 [ii d] m (.str (ld d)) m'/\Chg [] m m':=by
 refine WF.ex1 fun K hK=> ?_
 refine WF.of_wpG (fun _=>rfl) zO (L:= [(.e,ii d)]) rfl ?_
 unfold JS
 simp (config:={maxSteps:=1000000}) (disch:=first|assumption|omega|(apply ai;omega)|(apply ae;assumption)|(simp only[ay]<;>omega)) only[go_sem,seval]
 rw[ab m]
 have hll:∀i:Nat,(ld i).length=2*i:=fun i=>by unfold ld;rw[List.length_flatten,List.map_replicate,List.sum_replicate_nat];show i*2=_;omega
 refine W.loop (fun k D=>∃t i,D=⟨t, [],none,m⟩/\NT.get D4.e t=some (ii d)/\NT.get D4.e.c t=some (.str (ld i))/\NT.get D4.e.f t=some (ii (i:Nat))/\i+k=d) ?_ d _ ⟨_,0,rfl,by exact gq rfl,by exact gq rfl,by exact gq rfl,by omega⟩
 rintro k D ⟨t,i,rfl,g1,g2,g3,hik⟩
 apply aM
 unfold A6
 change wp _ _ _ _ ⟨am [] t, [],none,m⟩ _
 have hli:=hll i
 have e:ld i++ [32,32]=ld (i+1):=by unfold ld;rw[List.replicate_succ',List.flatten_append];rfl
 by_cases hi:i<d
 ·simp (config:={maxSteps:=1000000}) (disch:=first|assumption|omega|(apply ai;omega)|(apply ae;assumption)|(simp only[ay]<;>omega)) only[go_sem,seval,g1,g2,g3,e]
  exact ⟨k - 1,by omega,_,i+1,rfl,by exact gq g1,by exact gq rfl,by exact gq rfl,by omega⟩
 ·have hid:i=d:=by omega
  subst hid
  simp (config:={maxSteps:=1000000}) (disch:=first|assumption|omega|(apply ai;omega)|(apply ae;assumption)|(simp only[ay]<;>omega)) only[go_sem,seval,g1,g2,g3]
  exact hK _ (by first|exact Chg.refl m|(rw[ab];exact Chg.refl m))
end FR
