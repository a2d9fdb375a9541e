/- Contracts of functions that the law JudgeOrders reaches, part 2. -/
import Derived.Test.YtcpilcplobihkaaJoU1
set_option linter.unusedSimpArgs false
set_option linter.unusedVariables false
open Go Nm Go.Proofs
namespace FR
structure Rs where
 (a e b:Nat)
def aL (L:List Tok) (a:Nat):Tok:=(L[a]?).getD ⟨0, [],0,0⟩
def bt (e:Nat) (s:Rs):Rs:=if s.e=0 then ⟨s.a,e,s.a⟩ else s
def aj (s:Rs):Rs:=⟨s.a+1,s.e,s.b⟩
def qh:List Nat->Nat
 |c::_=>if vF c then 4 else 3
 | []=>3
def aX (L:List Tok) (w:List Nat) (s:Rs):Bool:=decide (s.e=0/\(aL L s.a).k=qh w/\(aL L s.a).t=w)
def aZ (L:List Tok) (w:List Nat) (s:Rs):Rs:=if aX L w s then aj s else bt 2 s
def ba (L:List Tok) (s:Rs):List Nat×Rs:=if s.e≠0∨(aL L s.a).k≠1 then ([],bt 2 s) else ((aL L s.a).t,aj s)
structure RD (m:NH) (r:D4) (vl:NV) (s:Rs) (rest:List NV):Prop where
 g:m.get r=some (.cells true (vl::ii s.a::ii s.e::ii s.b::rest))
 o:ak m r
structure RC (m0:NH) (L:List Tok) (vl:NV) (r:D4):Prop where
 sl:Sl m0 vl 4 (L.map Tok.l)
 len:L.length<=20000
 no:¬ak m0 r
theorem RD.chg {m m':NH} {r:D4} {vl:NV} {s:Rs} {rest:List NV} {S:List D4} (h:RD m r vl s rest) (hC:Chg S m m') (hr:r∉S):RD m' r vl s rest:=⟨(hC.get h.o hr).trans h.g,hC.old h.o⟩
theorem RC.chg {m0 m m':NH} {L:List Tok} {vl:NV} {r:D4} (h:RC m0 L vl r) (h0:Chg [] m0 m) (hC:Chg [r] m m'):Chg [] m0 m':=h0.trans hC fun i hi ho=>by
 have hi:=one hi;subst hi;exact Qn ho h.no
theorem bH {L:List Tok} {w:List Nat} {s:Rs} (h:aX L w s=true):s.e=0/\s.a<L.length:=by
 obtain ⟨h1,h2,h3⟩:=of_decide_eq_true h
 refine ⟨h1, ?_⟩
 rcases Nat.lt_or_ge s.a L.length with q|q
 ·exact q
 ·rw[aL,List.getElem?_eq_none q] at h2
  have:qh w≠0:=by unfold qh;split;split<;>omega;omega
  exact Qn h2.symm this
theorem p5 {T:Tok}:T.l[0]? =some (ii T.k):=_root_.id rfl
theorem vH {T:Tok}:T.l[1]? =some (.str T.t):=_root_.id rfl
theorem ON {T:Tok}:T.l[2]? =some (u64 T.n):=_root_.id rfl
section
variable {m0 m:NH} {L:List Tok} {vl:NV} {r:D4} {s:Rs} {rest:List NV}
theorem ic (hd:RD m r vl s rest) (e:Nat):∃m',bc Try.prog S0 86 [.ptr r 0,ii e] m (.tup []) m'/\RD m' r vl (bt e s) rest/\Chg [r] m m':=by
 refine WF.ex1 fun K hK=> ?_
 refine WF.of_wpG (fun _=>rfl) yg (L:= [(.a .e,ii e),(.e,.ptr r 0)]) rfl ?_
 unfold In
 obtain ⟨g,o⟩:=hd
 by_cases h:s.e=0
 ·rw[h] at g
  simp (disch:=first|assumption|omega|(simp only[aI]<;>omega)) only[go_sem,seval,g]
  refine hK _ ⟨⟨?_,bI o⟩,(aE rfl).weak (by intro i hi _;simpa [aB] using hi)⟩
  rw[bt,Qp h]
  exact (aG o).trans ao
 ·have hd:decide ((s.e:Int)=0)=false:=Qq (by omega)
  simp (disch:=first|assumption|omega) only[go_sem,seval,g,hd,aa]
  refine hK _ ⟨⟨?_,o⟩,(Chg.refl m).weak (by simp)⟩
  rw[bt,Qo h];exact g
theorem jl (hc:RC m0 L vl r) (h0:Chg [] m0 m) (hd:RD m r vl s rest):∃m',bc Try.prog S0 46 [.ptr r 0] m (.agg (aL L s.a).l) m'/\Chg [] m m':=by
 refine WF.ex1 fun K hK=> ?_
 refine WF.of_wpG (fun _=>rfl) zj (L:= [(.e,.ptr r 0)]) rfl ?_
 unfold Lo
 obtain ⟨g,o⟩:=hd
 have hs:=hc.sl.chg h0 fun _ _=>by simp
 have hlen:=hs.len
 have hll:=hc.len
 rw[List.length_map] at hlen
 have hvs:bi 4 vl vl=true:=hs.same
 by_cases h:s.a<L.length
 ·obtain ⟨id,off,w,c,a1,a2,a3,a4,a5⟩:=hs.at s.a (by simpa using h)
  rw[List.getElem_map] at a5
  have hl:(Tok.l L[s.a]).length=4:=rfl
  have hl':(Tok.l L[s.a]).take 4=Tok.l L[s.a]:=rfl
  simp (disch:=first|assumption|omega|(simp only[aI]<;>omega)) only[go_sem,seval,g,hlen,a1,a2,a5,hl,hl',hvs]
  have e:aL L s.a=L[s.a]:=by rw[aL,List.getElem?_eq_getElem h];rfl
  rw[e] at hK
  exact hK _ (aE rfl)
 ·have e:aL L s.a=⟨0, [],0,0⟩:=by rw[aL,List.getElem?_eq_none (by omega)];rfl
  rw[e] at hK
  simp (disch:=first|assumption|omega|(simp only[aI]<;>omega)) only[go_sem,seval,g,hlen,hvs]
  exact hK _ (aE rfl)
theorem dl (hc:RC m0 L vl r) (h0:Chg [] m0 m) (hd:RD m r vl s rest) (w:List Nat) (hw:w≠ []) (ha:s.a<=100000):∃m',bc Try.prog S0 84 [.ptr r 0,.str w] m (.bool (aX L w s)) m'/\RD m' r vl (if aX L w s then aj s else s) rest/\Chg [r] m m':=by
 refine WF.ex1 fun K hK=> ?_
 refine WF.of_wpG (fun _=>rfl) zM (L:= [(.a .e,.str w),(.e,.ptr r 0)]) rfl ?_
 unfold Kg
 simp (disch:=first|assumption|omega) only[go_sem,seval,aa]
 refine WF.use1H (jl hc h0 hd) ?_
 intro m1 hC1
 have hd1:=hd.chg hC1 (by simp)
 generalize hT:aL L s.a=T
 obtain ⟨c,w',rfl⟩:=List.exists_cons_of_ne_nil hw
 have hw0:(c::w')[0]? =some c:=rfl
 obtain ⟨g,o⟩:=hd1
 have hkw:qh (c::w')=if vF c then 4 else 3:=rfl
 have hl:(Tok.l T).length=4:=rfl
 have hlr:=np
 have yes:∀M,aX L (c::w') s=true->Chg [r] m M->M.get r=some (.cells true (vl::ii (s.a+1:Nat)::ii s.e::ii s.b::rest))->ak M r->K (.bool true) M:=fun M h1 h2 h3 h4=>by
  rw[h1,Qp rfl] at hK
  exact hK M ⟨⟨h3,h4⟩,h2⟩
 have no:∀M,aX L (c::w') s=false->Chg [] m M->K (.bool false) M:=fun M h1 h2=>by
  rw[h1,Qo (by simp)] at hK
  exact hK M ⟨hd.chg h2 (by simp),h2.weak (by simp)⟩
 have tb:∀k,qh (c::w')=k->aX L (c::w') s=decide (s.e=0/\T.k=k/\T.t=c::w'):=fun k hk=>by rw[aX,hT,hk]
 have hC2:∀l,aB l= []->Chg [] m (hp l 1 m1):=fun l e=>hC1.trans (aE e) (by simp)
 cases hlt:vF c with
 |true=>
  have tb:=tb 4 (by rw[hkw,hlt];rfl)
  by_cases he:s.e=0
  ·by_cases hk:T.k=4
   ·by_cases ht:T.t=c::w'
    ·simp (disch:=first|assumption|omega|(simp only[aI]<;>omega)) only[go_sem,seval,hw0,hl,p5,vH,(hlr _ _).wf',hlt,g]
     refine yes _ (by rw[tb];simp[he,hk,ht]) ?_ ((aG o).trans ao) (bI o)
     exact (hC1.weak (by simp)).trans (aE rfl) (by simp[aB])
    ·simp (disch:=first|assumption|omega|(simp only[aI]<;>omega)) only[go_sem,seval,hw0,hl,p5,vH,(hlr _ _).wf',hlt,g]
     refine no _ (by rw[tb];simp[ht]) ?_;exact hC2 _ rfl
   ·simp (disch:=first|assumption|omega|(simp only[aI]<;>omega)) only[go_sem,seval,hw0,hl,p5,vH,(hlr _ _).wf',hlt,g]
    refine no _ (by rw[tb];simp[hk]) ?_;exact hC2 _ rfl
  ·simp (disch:=first|assumption|omega|(simp only[aI]<;>omega)) only[go_sem,seval,hw0,hl,p5,vH,(hlr _ _).wf',hlt,g]
   refine no _ (by rw[tb];simp[he]) ?_;exact hC2 _ rfl
 |false=>
  have tb:=tb 3 (by rw[hkw,hlt];rfl)
  by_cases he:s.e=0
  ·by_cases hk:T.k=3
   ·by_cases ht:T.t=c::w'
    ·simp (disch:=first|assumption|omega|(simp only[aI]<;>omega)) only[go_sem,seval,hw0,hl,p5,vH,(hlr _ _).wf',hlt,g]
     refine yes _ (by rw[tb];simp[he,hk,ht]) ?_ ((aG o).trans ao) (bI o)
     exact (hC1.weak (by simp)).trans (aE rfl) (by simp[aB])
    ·simp (disch:=first|assumption|omega|(simp only[aI]<;>omega)) only[go_sem,seval,hw0,hl,p5,vH,(hlr _ _).wf',hlt,g]
     refine no _ (by rw[tb];simp[ht]) ?_;exact hC2 _ rfl
   ·simp (disch:=first|assumption|omega|(simp only[aI]<;>omega)) only[go_sem,seval,hw0,hl,p5,vH,(hlr _ _).wf',hlt,g]
    refine no _ (by rw[tb];simp[hk]) ?_;exact hC2 _ rfl
  ·simp (disch:=first|assumption|omega|(simp only[aI]<;>omega)) only[go_sem,seval,hw0,hl,p5,vH,(hlr _ _).wf',hlt,g]
   refine no _ (by rw[tb];simp[he]) ?_;exact hC2 _ rfl
theorem gi (hc:RC m0 L vl r) (h0:Chg [] m0 m) (hd:RD m r vl s rest) (w:List Nat) (hw:w≠ []) (ha:s.a<=100000):∃m',bc Try.prog S0 87 [.ptr r 0,.str w] m (.tup []) m'/\RD m' r vl (aZ L w s) rest/\Chg [r] m m':=by
 refine WF.ex1 fun K hK=> ?_
 refine WF.of_wpG (fun _=>rfl) zq (L:= [(.a .e,.str w),(.e,.ptr r 0)]) rfl ?_
 unfold Lr
 simp (disch:=first|assumption|omega) only[go_sem,seval,aa]
 refine WF.use1 (dl hc h0 hd w hw ha) ?_
 rintro m1 ⟨hd1,hC1⟩
 unfold aZ at hK
 cases hb:aX L w s with
 |true=>
  rw[hb] at hd1 hK
  simp (disch:=first|assumption|omega) only[go_sem,seval]
  exact hK _ ⟨hd1,hC1⟩
 |false=>
  rw[hb] at hd1 hK
  simp (disch:=first|assumption|omega) only[go_sem,seval]
  refine WF.use1 (ic (s:=s) hd1 2) ?_
  rintro m2 ⟨hd2,hC2⟩
  simp (disch:=first|assumption|omega) only[go_sem,seval]
  exact hK _ ⟨hd2,hC1.trans hC2 fun _ h _=>h⟩
theorem lH (hc:RC m0 L vl r) (h0:Chg [] m0 m) (hd:RD m r vl s rest) (ha:s.a<=100000):∃m',bc Try.prog S0 85 [.ptr r 0] m (.str (ba L s).1) m'/\RD m' r vl (ba L s).2 rest/\Chg [r] m m':=by
 refine WF.ex1 fun K hK=> ?_
 refine WF.of_wpG (fun _=>rfl) yB (L:= [(.e,.ptr r 0)]) rfl ?_
 unfold Im
 simp (disch:=first|assumption|omega) only[go_sem,seval,aa]
 refine WF.use1H (jl hc h0 hd) ?_
 intro m1 hC1
 have hd1:=hd.chg hC1 (by simp)
 have hl:(Tok.l (aL L s.a)).length=4:=rfl
 unfold ba at hK
 generalize aL L s.a=T at hK hl
 obtain ⟨g,o⟩:=hd1
 have bad:(s.e≠0∨T.k≠1)->∀M,Chg [] m M->∃m',bc Try.prog S0 86 [.ptr r 0,ii 2] M (.tup []) m'/\K (.str []) m':=fun h M hC=>by
  rw[Qp h] at hK
  obtain ⟨m2,h1,hd2,hC2⟩:=ic (hd.chg hC (by simp)) 2
  exact ⟨m2,h1,hK _ ⟨hd2,(hC.weak (by simp)).trans hC2 fun _ h _=>h⟩⟩
 by_cases he:s.e=0
 ·by_cases hk:T.k=1
  ·rw[Qo (by omega)] at hK
   simp (disch:=first|assumption|omega|(simp only[aI]<;>omega)) only[go_sem,seval,hl,p5,vH,g]
   refine hK _ ⟨⟨(aG o).trans ao,bI o⟩,(hC1.weak (by simp)).trans (aE rfl) (by simp[aB])⟩
  ·simp (disch:=first|assumption|omega|(simp only[aI]<;>omega)) only[go_sem,seval,hl,p5,vH,g]
   refine WF.use1 (bad (Or.inr hk) _ (fK hC1 rfl)) ?_
   intro M h
   simp (disch:=first|assumption|omega) only[go_sem,seval]
   exact h
 ·simp (disch:=first|assumption|omega|(simp only[aI]<;>omega)) only[go_sem,seval,hl,p5,vH,g]
  refine WF.use1 (bad (Or.inl he) _ (fK hC1 rfl)) ?_
  intro M h
  simp (disch:=first|assumption|omega) only[go_sem,seval]
  exact h
end
abbrev DM (n:Nat):Ex:= .mk 0 n 0 [] []
abbrev uH (s:List Nat):Ex:= .mk 1 0 0 s []
abbrev wq (o:Nat) (x y:Ex):Ex:= .mk 2 0 o [] [x,y]
mutual
def Ex.depth:Ex->Nat
 | .mk _ _ _ _ ks=>cW ks+1
def cW:List Ex->Nat
 | []=>0
 |x::xs=>max x.depth (cW xs)
end
theorem pR (a b:List Ex):cW (a++b)=max (cW a) (cW b):=by
 induction a with
 |nil=>simp[cW]
 |cons x a ih=>rw[List.cons_append,cW,cW,ih];omega
section
variable (L:List Tok)
def cN (E:Rs->Ex×Rs) (d:Nat) (s:Rs):Ex×Rs:=
 if s.e≠0 then (zE,s) else if 29<d then (zE,bt 11 s) else if (aL L s.a).k=2 then (DM (aL L s.a).n,aj s) else if (aL L s.a).k=1 then (uH (aL L s.a).t,aj s)
 else if aX L [40] s=true then ((E (aj s)).1,aZ L [41] (E (aj s)).2) else (zE,bt 2 s)
def il (T:Tok):Nat:=if T.k=3/\T.t.length=1 then T.t.headD 0 else 0
def vO (o:Nat):Bool:=decide (o=43∨o=45∨o=42∨o=38∨o=61∨o=60)
def eU (P:Rs->Ex×Rs):Nat->Ex->Rs->Ex×Rs
 |0,x,s=>(x,s)
 |f+1,x,s=>if s.e≠0 then (x,s) else if vO (il (aL L s.a))=false then (x,s) else
  if (P (aj s)).2.e≠0 then (x,(P (aj s)).2) else
   eU P f (wq (il (aL L s.a)) x (P (aj s)).1) (if 30<(wq (il (aL L s.a)) x (P (aj s)).1).depth then bt 11 (P (aj s)).2 else (P (aj s)).2)
def iw (E:Rs->Ex×Rs) (d:Nat) (s:Rs):Ex×Rs:=eU L (cN L E d) (L.length+1) (cN L E d s).1 (cN L E d s).2
def iR:Nat->Rs->Ex×Rs
 |0,s=>iw L (fun s=>(zE,s)) 30 s
 |n+1,s=>iw L (iR n) (29 - n) s
end
structure St (L:List Tok) (s s':Rs):Prop where
 le:s.a<=s'.a
 lim:s.a<=L.length->s'.a<=L.length
 err:s.e≠0->s'=s
 lim2:∀{N:Nat},(∀a,1<=(aL L a).k->(aL L a).k<=4->a<N)->s.a<=N->s.b<=N->s'.a<=N/\s'.b<=N
theorem St.refl (L:List Tok) (s:Rs):St L s s:=⟨Nat.le_refl _,fun h=>h,fun _=>rfl,fun _ h1 h2=>⟨h1,h2⟩⟩
theorem St.trans {L:List Tok} {a b c:Rs} (h:St L a b) (h':St L b c):St L a c:=⟨Nat.le_trans h.le h'.le,fun q=>h'.lim (h.lim q),fun q=>by have:=h.err q;subst this;exact h'.err q,fun hN h1 h2=>let ⟨q1,q2⟩:=h.lim2 hN h1 h2;h'.lim2 hN q1 q2⟩
theorem St.zero {L:List Tok} {s s':Rs} (h:St L s s') (e:s'.e=0):s.e=0:=by
 rcases Nat.eq_zero_or_pos s.e with q|q
 ·exact q
 ·have:=h.err (by omega);subst this;exact e
theorem b8 (L:List Tok) (e:Nat) (s:Rs):St L s (bt e s):=by
 unfold bt
 split
 ·exact ⟨Nat.le_refl _,fun h=>h,fun h=>Qn ‹_› h,fun _ h1 _=>⟨h1,h1⟩⟩
 ·exact St.refl L s
theorem g9 {L:List Tok} {s:Rs} (h:s.a<L.length) (he:s.e=0) (hk:1<=(aL L s.a).k/\(aL L s.a).k<=4):St L s (aj s):=⟨Nat.le_succ _,fun _=>h,fun q=>Qn he q,fun hN _ h2=>⟨hN _ hk.1 hk.2,h2⟩⟩
theorem eu {L:List Tok} {w:List Nat} {s:Rs} (h:aX L w s=true):St L s (aj s):=by
 obtain ⟨h1,h2,h3⟩:=of_decide_eq_true h
 refine g9 (bH h).2 h1 ?_
 rw[h2]
 unfold qh
 split
 ·split<;>omega
 ·omega
theorem lB {L:List Tok} {a:Nat} (h:(aL L a).k≠0):a<L.length:=by
 rcases Nat.lt_or_ge a L.length with q|q
 ·exact q
 ·rw[aL,List.getElem?_eq_none q] at h;exact Qn rfl h
theorem bS (L:List Tok) (w:List Nat) (s:Rs):St L s (aZ L w s):=by
 unfold aZ
 split
 ·rename_i h;exact eu h
 ·exact b8 _ _ _
theorem cE (L:List Tok) (s:Rs):St L s (ba L s).2:=by
 unfold ba
 split
 ·exact b8 _ _ _
 ·rename_i h
  exact g9 (lB (by omega)) (by omega) (by omega)
theorem gU {L:List Tok} {E:Rs->Ex×Rs} {d:Nat} (hE:∀s,St L s (E s).2) (s:Rs):St L s (cN L E d s).2:=by
 unfold cN
 split
 ·exact St.refl _ _
 ·split
  ·exact b8 _ _ _
  ·split
   ·exact g9 (lB (by omega)) (by omega) (by omega)
   ·split
    ·exact g9 (lB (by omega)) (by omega) (by omega)
    ·split
     ·rename_i h;exact ((eu h).trans (hE _)).trans (bS _ _ _)
     ·exact b8 _ _ _
theorem sg {L:List Tok} {a:Nat} (h:vO (il (aL L a))=true):a<L.length:=by
 refine lB fun q=> ?_
 unfold il at h
 rw[Qo (by omega)] at h
 exact Qn h (by decide)
theorem Ln {L:List Tok} {a:Nat} (h:vO (il (aL L a))=true):1<=(aL L a).k/\(aL L a).k<=4:=by
 unfold il at h
 by_cases q:(aL L a).k=3/\(aL L a).t.length=1
 ·omega
 ·rw[Qo q] at h;exact Qn h (by decide)
theorem ld {L:List Tok} {P:Rs->Ex×Rs} (hP:∀s,St L s (P s).2):∀(f:Nat) (x:Ex) (s:Rs),St L s (eU L P f x s).2:=by
 intro f
 induction f with
 |zero=>intro x s;exact St.refl _ _
 |succ f ih=>
  intro x s
  rw[eU]
  split
  ·exact St.refl _ _
  ·split
   ·exact St.refl _ _
   ·rename_i h1 h2
    have h3:=(g9 (sg (by simpa using h2)) (by omega:s.e=0) (Ln (by simpa using h2))).trans (hP (aj s))
    split
    ·exact h3
    ·refine (h3.trans ?_).trans (ih _ _)
     split
     ·exact b8 _ _ _
     ·exact St.refl _ _
theorem sA {L:List Tok} {E:Rs->Ex×Rs} {d:Nat} (hE:∀s,St L s (E s).2) (s:Rs):St L s (iw L E d s).2:=(gU hE s).trans (ld (gU hE) _ _ _)
theorem cu (L:List Tok):∀(n:Nat) (s:Rs),St L s (iR L n s).2:=by
 intro n
 induction n with
 |zero=>exact fun s=>sA (fun s=>St.refl _ s) s
 |succ n ih=>exact fun s=>sA ih s
def DG (E:Rs->Ex×Rs):Prop:=∀s,(E s).2.e=0->(E s).1.sz+s.a<=(E s).2.a
theorem rF {L:List Tok} {E:Rs->Ex×Rs} {d:Nat} (hS:∀s,St L s (E s).2) (hE:DG E):DG (cN L E d):=by
 intro s
 unfold cN
 have hf:∀e,e≠0->(bt e s).e≠0:=fun e he=>by unfold bt;split;exact he;assumption
 split
 ·intro h;exact Qn h ‹_›
 ·split
  ·intro h;exact Qn h (hf 11 (by omega))
  ·split
   ·intro _;simp[Ex.sz,kj,aj];omega
   ·split
    ·intro _;simp[Ex.sz,kj,aj];omega
    ·split
     ·intro h
      have h1:=bS L [41] (E (aj s)).2
      have h2:=hE (aj s) (h1.zero h)
      have h3:=h1.le
      have h4:(aj s).a=s.a+1:=rfl
      dsimp only at h ⊢
      omega
     ·intro h;exact Qn h (hf 2 (by omega))
theorem Gw {L:List Tok} {P:Rs->Ex×Rs} (hS:∀s,St L s (P s).2) (hP:DG P):∀(f:Nat) (x:Ex) (s:Rs) (a0:Nat),(s.e=0->x.sz+a0<=s.a)->(eU L P f x s).2.e=0->(eU L P f x s).1.sz+a0<=(eU L P f x s).2.a:=by
 intro f
 induction f with
 |zero=>intro x s a0 h h2;exact h h2
 |succ f ih=>
  intro x s a0 h
  rw[eU]
  split
  ·intro h2;exact Qn h2 ‹_›
  ·split
   ·intro h2;exact h h2
   ·split
    ·intro h2;exact Qn h2 ‹_›
    ·rename_i h1 h2 h3
     refine ih _ _ a0 fun h4=> ?_
     have h5:=hP (aj s) (by omega)
     have h6:=h (by omega)
     have h7:(aj s).a=s.a+1:=rfl
     have h8:(wq (il (aL L s.a)) x (P (aj s)).1).sz=1+(x.sz+((P (aj s)).1.sz+0)):=by simp[Ex.sz,kj]
     rw[h8]
     split
     ·unfold bt;split
      ·show _+a0<=(P (aj s)).2.a;omega
      ·omega
     ·omega
theorem sW {L:List Tok} {E:Rs->Ex×Rs} {d:Nat} (hS:∀s,St L s (E s).2) (hP:DG (cN L E d)):DG (iw L E d):=by
 intro s h
 exact Gw (gU hS) hP _ _ _ s.a (fun h=>hP s h) h
theorem oP (L:List Tok) (E:Rs->Ex×Rs):DG (cN L E 30):=by
 intro s
 unfold cN
 split
 ·intro h;exact Qn h ‹_›
 ·rw[Qp (by omega)]
  intro h;unfold bt at h;split at h
  ·exact Qn h (by show (11:Nat)≠0;omega)
  ·exact Qn h ‹_›
theorem rG (L:List Tok):∀n:Nat,DG (iR L n):=by
 intro n
 induction n with
 |zero=>exact sW (fun s=>St.refl _ s) (oP L _)
 |succ n ih=>exact sW (cu L n) (rF (cu L n) ih)
abbrev oS (m:NH):D4->Prop:=fun i=>¬ak m i
theorem RE.chg {mc m m':NH} {x:Ex} {c:List NV} {S:List D4} (h:RE m (oS mc) x c) (hC:Chg S m m') (hS:∀i∈S,ak mc i):RE m' (oS mc) x c:=h.stays (aW.of hC fun i hi hs=>hi (hS i hs))
theorem RS.chg {mc m m':NH} {x:Stm} {c:List NV} {S:List D4} (h:RS m (oS mc) x c) (hC:Chg S m m') (hS:∀i∈S,ak mc i):RS m' (oS mc) x c:=h.stays (aW.of hC fun i hi hs=>hi (hS i hs))
theorem RE.new {mc mb m:NH} {x:Ex} {c:List NV} (h:RE m (oS mc) x c) (hC:∀i,ak mb i->ak mc i):RE m (oS mb) x c:=h.weak fun i hi ho=>hi (hC i ho)
theorem RS.new {mc mb m:NH} {x:Stm} {c:List NV} (h:RS m (oS mc) x c) (hC:∀i,ak mb i->ak mc i):RS m (oS mb) x c:=h.weak fun i hi ho=>hi (hC i ho)
theorem Ko (m:NH) (T:D4->Prop) (n:Nat):RE m T (DM n) ((DM n).l .nils):=BT m T 0 n 0 []
theorem Gc (m:NH) (T:D4->Prop) (s:List Nat):RE m T (uH s) ((uH s).l .nils):=BT m T 1 0 0 s
def Pd (x:Ex):Prop:=∀{m0 m:NH} {T:D4->Prop} {c:List NV},RE m0 T x c->aW T m0 m->x.sz<=100000000->∃m',bc Try.prog S0 32 [.agg c] m (ii x.depth) m'/\Chg [] m m'
theorem I1:∀x:Ex,x.depth<=x.sz:=by
 apply Ex.ind
 intro k n o s ks ih
 rw[Ex.depth,Ex.sz]
 have:∀ks:List Ex,(∀x∈ks,x.depth<=x.sz)->cW ks<=kj ks:=by
  intro ks
  induction ks with
  |nil=>intro _;simp[cW]
  |cons x xs ih=>
   intro h
   have h1:=h x (List.mem_cons_self ..)
   have h2:=ih fun y hy=>h y (List.mem_cons_of_mem _ hy)
   rw[cW,kj];omega
 have:=this ks ih
 omega
theorem Hy {l:List Ex} {x:Ex} (hx:x∈l):x.sz<=kj l:=by
 induction l with
 |nil=>simp at hx
 |cons a l ih=>
  rw[kj]
  rcases List.mem_cons.mp hx with rfl|hx
  ·omega
  ·have:=ih hx;omega
theorem He:∀x:Ex,Pd x:=by
 apply Ex.ind
 intro k n o s ks ih m0 m T c hR hst hsz
 obtain ⟨vk,C,rfl,hS⟩:=hR.inv
 rw[Ex.sz] at hsz
 refine WF.ex1 fun K hK=> ?_
 refine WF.of_wpG (fun _=>rfl) Ag (L:= [(.e,.agg [ii k,u64 n,u8 o,.str s,vk])]) rfl ?_
 unfold J8
 simp (disch:=first|assumption|omega) only[go_sem,seval]
 generalize hM1:hp _ 1 m=M1
 have hC1:Chg [] m M1:=aY hM1 rfl
 have hg1:M1.get (na m 0)=some (.cells true [ii k,u64 n,u8 o,.str s,vk]):=bw hM1
 have ho1:ak M1 (na m 0):=bx hM1 (by omega)
 have hls:=mZ ks
 refine W.loop (fun j d=>∃t M i,d=⟨t, [],none,M⟩/\NT.get D4.e.a t=some (.ptr (na m 0) 0)/\NT.get D4.e.c t=some (ii (cW (ks.take i)))/\NT.get D4.e.f t=some (ii (i:Nat))/\i+j=ks.length/\Chg [] M1 M) ?_ ks.length _ ⟨_,M1,0,rfl,by simp only[go_sem,seval],by simp only[go_sem,seval]<;>rfl,by simp only[go_sem,seval]<;>rfl,by omega,Chg.refl M1⟩
 rintro j d ⟨t,M,i,rfl,g1,g2,g3,hij,hC⟩
 apply ap
 unfold Az
 change wp _ _ _ _ ⟨ai [] t, [],none,M⟩ _
 have hstM:aW T m0 M:=fun i hi ho=>by
  obtain ⟨q1,q2⟩:=hst i hi ho
  have hCM:Chg [] m M:=hC1.trans hC (by simp)
  exact ⟨(hCM.get q2 (by simp)).trans q1,hCM.old q2⟩
 have hSM:=hS.stays hstM
 have hgM:=(hC.get ho1 (by simp)).trans hg1
 have hlen:=hSM.sl.len
 rw[hS.len] at hlen
 by_cases hi:i<ks.length
 ·obtain ⟨cx,hcx,hRx⟩:=hS.at i hi
  have hc:i<C.length:=by rw[hS.len];exact hi
  obtain ⟨id,off,wr,c,a1,a2,a3,a4,a5⟩:=hSM.sl.at i hc
  have ecx:C[i]=cx:=by rw[List.getElem?_eq_getElem hc] at hcx;injection hcx
  rw[ecx] at a5
  have hsx:=Hy (List.getElem_mem hi)
  obtain ⟨m',hr,hC'⟩:=ih ks[i] (List.getElem_mem hi) hRx hstM (by omega)
  have htk:cW (ks.take (i+1))=max (cW (ks.take i)) ks[i].depth:=by
   rw[List.take_add_one,List.getElem?_eq_getElem hi,Option.toList_some,pR,cW,cW];omega
  simp (disch:=first|assumption|omega) only[go_sem,seval,g1,g2,g3,hgM,hlen,a1,a2,a5,hr.wf']
  by_cases hgt:cW (ks.take i)<ks[i].depth
  ·simp (disch:=first|assumption|omega) only[go_sem,seval,g1,g2,g3]
   refine ⟨j - 1,by omega,_,m',i+1,by rfl,by simp only[go_sem,seval,g1], ?_,by simp only[go_sem,seval]<;>rfl,by omega,hC.trans hC' (by simp)⟩
   simp (disch:=first|assumption|omega) only[go_sem,seval,htk]
   rw[Nat.max_eq_right (by omega)]
  ·simp (disch:=first|assumption|omega) only[go_sem,seval,g1,g2,g3]
   refine ⟨j - 1,by omega,_,m',i+1,by rfl,by simp only[go_sem,seval,g1], ?_,by simp only[go_sem,seval]<;>rfl,by omega,hC.trans hC' (by simp)⟩
   simp (disch:=first|assumption|omega) only[go_sem,seval,htk,g2]
   rw[Nat.max_eq_left (by omega)]
 ·have e:(ks.take i)=ks:=List.take_of_length_le (by omega)
  rw[e] at g2
  have hd:=I1 (.mk k n o s ks)
  rw[Ex.depth,Ex.sz] at hd
  rw[Ex.depth] at hK
  simp (disch:=first|assumption|omega) only[go_sem,seval,g1,g2,g3,hgM,hlen]
  exact hK _ (hC1.trans hC (by simp))
def IZ (f:Nat) (m0:NH) (L:List Tok) (vl:NV) (r:D4) (rest:List NV) (E:Rs->Ex×Rs) (d:Nat):Prop:=∀{m:NH} {s:Rs},Chg [] m0 m->RD m r vl s rest->s.a<=L.length->
 ∃v m',bc Try.prog S0 f [.ptr r 0,ii d] m v m'/\(∃u,v= .agg ((E s).1.l u)/\RE m' (oS m) (E s).1 ((E s).1.l u))/\RD m' r vl (E s).2 rest/\Chg [r] m m'
theorem nd {S:List D4} {m M:NH} {l:List (AK×NO)} {k:Nat} (h:Chg S m M) (ho:∀i∈aB l,ak m i->i∈S):Chg S m (hp l k M):=h.trans (aE rfl) ho
section
variable {m0:NH} {L:List Tok} {vl:NV} {r:D4} {rest:List NV} {E:Rs->Ex×Rs}
theorem CB (hc:RC m0 L vl r) {d:Nat} (hst:∀s,St L s (E s).2) (hE:d<=29->IZ 162 m0 L vl r rest E (d+1)) (hd30:d<=30):IZ 173 m0 L vl r rest (cN L E d) d:=by
 intro m s h0 hd ha
 refine WF.ex fun K hK=> ?_
 refine WF.of_wpG (fun _=>rfl) u6 (L:= [(.a .e,ii d),(.e,.ptr r 0)]) rfl ?_
 unfold D2
 have hll:=hc.len
 simp (disch:=first|assumption|omega) only[go_sem,seval]
 generalize hM1:hp _ 1 m=M1
 have hC1:Chg [] m M1:=aY hM1 rfl
 have hg1:M1.get (na m 0)=some (.cells true [ii 0,u64 0,u8 0,.str [],.nils]):=bw hM1
 have ho1:ak M1 (na m 0):=bx hM1 (by omega)
 have hr0:r≠na m 0:=hd.o.ne 0
 have hr0':na m 0≠r:=fun e=>hr0 e.symm
 have hd1:=hd.chg hC1 (by simp)
 have hn1:∀i,ak m i->ak M1 i:=fun i hi=>hC1.old hi
 refine WF.use1H (jl hc (h0.trans hC1 (by simp)) hd1) ?_
 intro M2 hC2
 have hd2:=hd1.chg hC2 (by simp)
 have hg2:=(hC2.get ho1 (by simp)).trans hg1
 have ho2:=hC2.old ho1
 have hC02:=hC1.trans hC2 (by simp)
 have hl:(Tok.l (aL L s.a)).length=4:=rfl
 have hpf:cN L E d s=if s.e≠0 then (zE,s) else if 29<d then (zE,bt 11 s) else if (aL L s.a).k=2 then (DM (aL L s.a).n,aj s) else if (aL L s.a).k=1 then (uH (aL L s.a).t,aj s)
  else if aX L [40] s=true then ((E (aj s)).1,aZ L [41] (E (aj s)).2) else (zE,bt 2 s):=rfl
 rw[hpf] at hK
 clear hpf
 generalize hT:aL L s.a=T at hK hl
 have hdg:=hd2.g
 have hdo:=hd2.o
 have hCr2:Chg [r] m M2:=hC02.weak (by simp)
 have fin:∀{M:NH} {s':Rs} {u:NV} {x:Ex} {l:List (AK×NO)} {k:Nat},RD M r vl s' rest->Chg [r] m M->RE M (oS m) x (x.l u)->(∀i∈aB l,i=na m 0)->(RE (hp l k M) (oS m) x (x.l u)->RD (hp l k M) r vl s' rest/\Chg [r] m (hp l k M)):=fun h1 h2 h3 h4 _=>
  ⟨h1.chg (aE rfl) fun hi=>hr0 (h4 _ hi),nd h2 fun i hi ho=>Qn (h4 i hi▸ho) az⟩
 by_cases he:s.e=0
 ·rw[Qo (by omega)] at hK
  by_cases h29:29<d
  ·rw[Qp h29] at hK
   simp (disch:=first|assumption|omega|(simp only[aI]<;>omega)) only[go_sem,seval,hl,hdg]
   generalize hM3:hp _ 1 M2=M3
   have hC3:Chg [] M2 M3:=aY hM3 rfl
   refine WF.use1H (ic (hd2.chg hC3 (by simp)) 11) ?_
   rintro M4 ⟨hd4,hC4⟩
   have hg4:=(hC4.get (hC3.old ho2) (by simpa using hr0.symm)).trans ((hC3.get ho2 (by simp)).trans hg2)
   have ho4:=hC4.old (hC3.old ho2)
   simp (disch:=first|assumption|omega|(simp only[aI]<;>omega)) only[go_sem,seval,hg4]
   exact hK _ _ ⟨⟨.nils,rfl,BT _ _ _ _ _ _⟩,fin hd4 ((hCr2.trans hC3 (by simp)).trans hC4 fun _ h _=>h) (BT _ _ 0 0 0 []) (by simp[aB]) (BT _ _ _ _ _ _)⟩
  ·rw[Qo h29] at hK
   by_cases h2:T.k=2
   ·rw[Qp h2] at hK
    simp (disch:=first|assumption|omega|(simp only[aI]<;>omega)) only[go_sem,seval,hl,p5,ON,hdg,hg2,hr0]
    refine hK _ _ ⟨⟨.nils,rfl,Ko _ _ _⟩,⟨?_,bI (by assumption)⟩, ?_⟩
    ·refine (aG hdo).trans ?_
     simp only[bf hr0,ao];rfl
    ·exact nd hCr2 (by simp[aB,az])
   ·rw[Qo h2] at hK
    by_cases h1:T.k=1
    ·rw[Qp h1] at hK
     simp (disch:=first|assumption|omega|(simp only[aI]<;>omega)) only[go_sem,seval,hl,p5,vH,hdg,hg2,hr0]
     refine hK _ _ ⟨⟨.nils,rfl,Gc _ _ _⟩,⟨?_,bI (by assumption)⟩, ?_⟩
     ·refine (aG hdo).trans ?_
      simp only[bf hr0,ao];rfl
     ·exact nd hCr2 (by simp[aB,az])
    ·rw[Qo h1] at hK
     simp (disch:=first|assumption|omega|(simp only[aI]<;>omega)) only[go_sem,seval,hl,p5,hdg]
     generalize hM3:hp _ 1 M2=M3
     have hC3:Chg [] M2 M3:=aY hM3 rfl
     have hd3:=hd2.chg hC3 (by simp)
     refine WF.use1H (dl hc (h0.trans (hC02.trans hC3 (by simp)) (by simp)) hd3 [40] (by simp) (by omega)) ?_
     rintro M4 ⟨hd4,hC4⟩
     have hg4:=(hC4.get (hC3.old ho2) (by simpa using hr0.symm)).trans ((hC3.get ho2 (by simp)).trans hg2)
     have ho4:=hC4.old (hC3.old ho2)
     have hC04:Chg [r] m M4:=(hCr2.trans hC3 (by simp)).trans hC4 fun _ h _=>h
     cases hb:aX L [40] s with
     |true=>
      rw[hb,Qp rfl] at hK hd4
      dsimp only at hK
      generalize hEs:E (aj s)=Es at hK
      obtain ⟨-,hlt⟩:=bH hb
      simp (disch:=first|assumption|omega) only[go_sem,seval,aa]
      refine WF.useH (hE (by omega) (hc.chg h0 hC04) hd4 hlt) ?_
      rintro v5 M5 ⟨⟨u,rfl,hx5⟩,hd5,hC5⟩
      have hst5:=hst (aj s)
      rw[hEs] at hx5 hd5 hst5 ⊢
      have hg5:=(hC5.get ho4 (by simpa using hr0.symm)).trans hg4
      have ho5:=hC5.old ho4
      have hC05:Chg [r] m M5:=hC04.trans hC5 fun _ h _=>h
      have hx5l:(Es.1.l u).length=5:=rfl
      simp (disch:=first|assumption|omega|(simp only[aI]<;>omega)) only[go_sem,seval,hx5l]
      generalize hM6:hp _ 1 M5=M6
      have hC6:Chg [] M5 M6:=aY hM6 rfl
      have hg6:M6.get (na M5 0)=some (.cells true (Es.1.l u)):=bw hM6
      have ho6:ak M6 (na M5 0):=bx hM6 (by omega)
      have hlim:=hst5.lim hlt
      refine WF.use1H (gi hc (hc.chg h0 (hC05.trans hC6 (by simp))) (hd5.chg hC6 (by simp)) [41] (by simp) (by omega)) ?_
      rintro M7 ⟨hd7,hC7⟩
      have hg7:=(hC7.get (hC6.old ho5) (by simpa using hr0.symm)).trans ((hC6.get ho5 (by simp)).trans hg5)
      have ho7:=hC7.old (hC6.old ho5)
      have hr5:na M5 0≠r:=fun e=>(hd5.o.ne 0 e.symm)
      have hb7:=(hC7.get ho6 (by simpa using hr5)).trans hg6
      have hC07:Chg [r] m M7:=(hC05.trans hC6 (by simp)).trans hC7 fun _ h _=>h
      have hl5':(Es.1.l u).take 5=Es.1.l u:=rfl
      simp (disch:=first|assumption|omega|(simp only[aI]<;>omega)) only[go_sem,seval,hg7,hb7,hx5l,hl5']
      have hx7:RE M7 (oS M4) Es.1 (Es.1.l u):=(hx5.chg hC6 (by simp)).chg hC7 fun i hi=>by
       have hi:=one hi;subst hi;exact hd4.o
      generalize hM8:hp _ 0 M7=M8
      have hC8:Chg [na m 0] M7 M8:=aY hM8 rfl
      have hx8:RE M8 (oS M4) Es.1 (Es.1.l u):=hx7.chg hC8 fun i hi=>by
       have hi:=one hi;subst hi;exact ho4
      have hx9:RE M8 (oS m) Es.1 (Es.1.l u):=hx8.new fun i hi=>hC04.old hi
      have hd8:=hd7.chg hC8 (by simpa using hr0)
      have hC08:Chg [r] m M8:=hC07.trans hC8 fun i hi ho=>by
       have hi:=one hi;subst hi;exact Qn ho az
      exact hK _ _ ⟨⟨u,rfl,hx9⟩,hd8,hC08⟩
     |false=>
      rw[hb,Qo Bool.false_ne_true] at hK hd4
      simp (disch:=first|assumption|omega) only[go_sem,seval,aa]
      refine WF.use1H (ic hd4 2) ?_
      rintro M5 ⟨hd5,hC5⟩
      have hg5:=(hC5.get ho4 (by simpa using hr0.symm)).trans hg4
      have ho5:=hC5.old ho4
      simp (disch:=first|assumption|omega|(simp only[aI]<;>omega)) only[go_sem,seval,hg5]
      exact hK _ _ ⟨⟨.nils,rfl,BT _ _ _ _ _ _⟩,fin hd5 (hC04.trans hC5 fun _ h _=>h) (BT _ _ 0 0 0 []) (by simp[aB]) (BT _ _ _ _ _ _)⟩
 ·rw[Qp he] at hK
  simp (disch:=first|assumption|omega|(simp only[aI]<;>omega)) only[go_sem,seval,hl,hdg,hg2]
  exact hK _ _ ⟨⟨.nils,rfl,BT _ _ _ _ _ _⟩,fin hd2 hCr2 (BT _ _ 0 0 0 []) (by simp[aB]) (BT _ _ _ _ _ _)⟩
end
theorem RE.old {m:NH} {T:D4->Prop} {x:Ex} {c:List NV} (h:RE m T x c):RE m (fun i=>T i/\ak m i) x c:=by
 induction h with
 |mk hv hT hl h ih=>exact .mk hv (fun i hi=>⟨hT i hi,hv.old i hi⟩) hl ih
theorem RS.old {m:NH} {T:D4->Prop} {x:Stm} {c:List NV} (h:RS m T x c):RS m (fun i=>T i/\ak m i) x c:=by
 induction h with
 |mk hi hx hy hb hbT hbl hbR he heT hel heR ih1 ih2=>exact .mk hi.old hx.old hy.old hb (fun i q=>⟨hbT i q,hb.old i q⟩) hbl ih1 he (fun i q=>⟨heT i q,he.old i q⟩) hel ih2
theorem MN {m:NH} {T:D4->Prop} {o:Nat} {x y:Ex} {cx cy:List NV} (hx:RE m T x cx) (hy:RE m T y cy) {id:D4} (hT:T id) (hg:m.get id=some (.cells true (cx++cy))) (ho:ak m id):RE m T (wq o x y) ((wq o x y).l (.slc id 0 2 5 2)):=by
 refine .mk (C:= [cx,cy]) ⟨?_,Or.inr ⟨id,0,2,true,_,rfl,hg,ho, ?_, ?_⟩⟩ (by intro i hi;simp[ids] at hi;subst hi;exact hT) rfl ?_
 ·intro c hc;simp at hc;rcases hc with rfl|rfl
  ·exact hx.len
  ·exact hy.len
 ·simp[hx.len,hy.len]
 ·simp[hx.len,hy.len]
  rw[List.take_of_length_le (by simp[hx.len,hy.len])]
 ·intro i z c h1 h2
  match i with
  |0=>cases h1;cases h2;exact hx
  |1=>cases h1;cases h2;exact hy
  |i+2=>simp at h1
section
variable {m0:NH} {L:List Tok} {vl:NV} {r:D4} {rest:List NV}
theorem A6 (hc:RC m0 L vl r) {P:Rs->Ex×Rs} {d:Nat} (hst:∀s,St L s (P s).2) (hsz:DG P) (hP:IZ 173 m0 L vl r rest P d) {m:NH} (h0:Chg [] m0 m) {b1 b2:D4} (hb1:¬ak m b1) (hb2:¬ak m b2) (hb12:b1≠b2) (horm:ak m r)
 {X:Ex} {S:Rs} {M:NH} {x:Ex} {s:Rs} {u:NV} (hd:RD M r vl s rest) (hx:RE M (fun i=>¬ak m i/\i≠b1/\i≠b2) x (x.l u)) (hg:M.get b2=some (.cells true (x.l u))) (hob:ak M b2) (hob1:ak M b1) {z1:List NV} (hg1:M.get b1=some (.cells true z1)) (ha:s.a<=L.length) (hxs:s.e=0->x.sz<=s.a) (hxz:x.sz<=100000) (hC:Chg [r] m M) (hE:eU L P (L.length+1) x s=(X,S))
 {t:Tm} (g1:NT.get D4.e t=some (.ptr r 0)) (g2:NT.get D4.e.a t=some (ii d)) (g3:NT.get D4.e.f t=some (.ptr b1 0)) (g4:NT.get D4.e.a.a t=some (.ptr b2 0)) {Q:Out->Dyn->Prop}
 (hQ:∀t' M' u',NT.get D4.e.f t'=some (.ptr b1 0)->NT.get D4.e.a.a t'=some (.ptr b2 0)->RD M' r vl S rest->RE M' (fun i=>¬ak m i/\i≠b1/\i≠b2) X (X.l u')->M'.get b2=some (.cells true (X.l u'))->ak M' b2->ak M' b1->M'.get b1=some (.cells true z1)->Chg [r] m M'->Q (.exit 0) ⟨ai [] t', [],none,M'⟩):
 W Try.prog S0 none pg.loop ⟨t, [],none,M⟩ Q:=by
 refine W.loop (fun k D=>∃t M x s u f,D=⟨t, [],none,M⟩/\NT.get D4.e t=some (.ptr r 0)/\NT.get D4.e.a t=some (ii d)/\NT.get D4.e.f t=some (.ptr b1 0)/\NT.get D4.e.a.a t=some (.ptr b2 0)/\RD M r vl s rest/\RE M (fun i=>¬ak m i/\i≠b1/\i≠b2) x (x.l u)/\M.get b2=some (.cells true (x.l u))/\ak M b2/\ak M b1/\M.get b1=some (.cells true z1)/\s.a<=L.length/\(s.e=0->x.sz<=s.a)/\x.sz<=100000/\Chg [r] m M/\eU L P f x s=(X,S)/\L.length<f+s.a/\k=f) ?_ (L.length+1) _ ⟨t,M,x,s,u,L.length+1,rfl,g1,g2,g3,g4,hd,hx,hg,hob,hob1,hg1,ha,hxs,hxz,hC,hE,by omega,rfl⟩
 clear hd hx hg hob hob1 hg1 ha hxs hxz hC hE g1 g2 g3 g4
 rintro k D ⟨t,M,x,s,u,f,rfl,g1,g2,g3,g4,hd,hx,hg,hob,hob1,hg1,ha,hxs,hxz,hC,hE,hf,rfl⟩
 apply ap
 unfold pg
 change wp _ _ _ _ ⟨ai [] t, [],none,M⟩ _
 have hll:=hc.len
 obtain ⟨f,rfl⟩:∃f',k=f'+1:=⟨k - 1,by omega⟩
 rw[eU] at hE
 have hdg:=hd.g
 refine gG (fun D=>s.e=0/\∃t',D=⟨t', [],none,M⟩/\NT.get D4.e t'=some (.ptr r 0)/\NT.get D4.e.a t'=some (ii d)/\NT.get D4.e.f t'=some (.ptr b1 0)/\NT.get D4.e.a.a t'=some (.ptr b2 0)) (fun R hR=> ?_) ?_
 ·by_cases he:s.e=0
  ·simp (disch:=first|assumption|omega) only[go_sem,seval,g1,g2,g3,g4,hdg]
   exact hR _ ⟨he,_,rfl,by simp only[go_sem,seval,g1],by simp only[go_sem,seval,g2],by simp only[go_sem,seval,g3],by simp only[go_sem,seval,g4]⟩
  ·rw[Qp he] at hE
   injection hE with e1 e2
   subst e1 e2
   have hde:decide ((s.e:Int)=0)=false:=Qq (by omega)
   simp (disch:=first|assumption|omega) only[go_sem,seval,g1,g2,g3,g4,hdg,hde]
   exact hQ _ M u (by simp only[go_sem,seval,g3]) (by simp only[go_sem,seval,g4]) hd hx hg hob hob1 hg1 hC
 clear g1 g2 g3 g4
 rintro D ⟨he,t,rfl,g1,g2,g3,g4⟩
 rw[Qo (by omega)] at hE
 change wp _ _ _ _ ⟨ai [] t, [],none,M⟩ _
 rw[ri]
 have hl:(Tok.l (aL L s.a)).length=4:=rfl
 refine Pg (fun D=>∃t' M2,D=⟨t', [],none,M2⟩/\Chg [] M M2/\vO (il (aL L s.a))=true/\NT.get D4.e t'=some (.ptr r 0)/\NT.get D4.e.a t'=some (ii d)/\NT.get D4.e.f t'=some (.ptr b1 0)/\NT.get D4.e.a.a t'=some (.ptr b2 0)/\NT.get D4.e.a.c t'=some (u8 (il (aL L s.a)))) (fun R hR=> ?_) ?_
 ·simp (disch:=first|assumption|omega) only[go_sem,seval,g1,g2,g3,g4,hdg]
  refine WF.use1H (jl hc (hc.chg h0 hC) hd) ?_
  intro M2 hC2
  generalize hT:aL L s.a=T at hE hl hR
  have out:∀(l:List (AK×NO)) (k:Nat) (t':Tm),vO (il T)=false->NT.get D4.e.f t'=some (.ptr b1 0)->NT.get D4.e.a.a t'=some (.ptr b2 0)->aB l= []->Q (.exit 0) ⟨ai [] t', [],none,hp l k M2⟩:=by
   intro l k t' hop q1 q2 ho
   rw[Qp hop] at hE
   injection hE with e1 e2
   subst e1 e2
   have hC3:=fK (k:=k) hC2 ho
   exact hQ _ _ u q1 q2 (hd.chg hC3 (by simp)) (hx.stays (lg hC3 _)) ((hC3.get hob (by simp)).trans hg) (hC3.old hob) (hC3.old hob1) ((hC3.get hob1 (by simp)).trans hg1) (hC.trans hC3 (by simp))
  by_cases h3:T.k=3
  ·by_cases h1:T.t.length=1
   ·obtain ⟨c,hc1⟩:=List.length_eq_one_iff.mp h1
    have hopc:il T=c:=by unfold il;rw[Qp ⟨h3,h1⟩,hc1];rfl
    have h00:T.t[0]? =some c:=by rw[hc1];rfl
    rw[hopc] at hR out
    by_cases hop:vO c=true
    ·have hcs:=of_decide_eq_true hop
     rcases hcs with rfl|rfl|rfl|rfl|rfl|rfl<;>simp (disch:=first|assumption|omega|(simp only[aI]<;>omega)) only[go_sem,seval,g1,g2,g3,g4,hl,p5,vH,h3,h1,h00]<;>exact hR _ ⟨_,_,rfl,fK hC2 rfl,hop,by simp only[go_sem,seval,g1],by simp only[go_sem,seval,g2],by simp only[go_sem,seval,g3],by simp only[go_sem,seval,g4],by simp only[go_sem,seval]<;>rfl⟩
    ·have hop':vO c=false:=by simpa using hop
     have hcs:=of_decide_eq_false hop'
     simp (disch:=first|assumption|omega|(simp only[aI]<;>omega)) only[go_sem,seval,g1,g2,g3,g4,hl,p5,vH,h3,h1,h00]
     exact out _ _ _ hop' (by simp only[go_sem,seval,g3]) (by simp only[go_sem,seval,g4]) rfl
   ·have hopc:il T=0:=by unfold il;rw[Qo (fun h=>h1 h.2)]
    rw[hopc] at hR out
    simp (disch:=first|assumption|omega|(simp only[aI]<;>omega)) only[go_sem,seval,g1,g2,g3,g4,hl,p5,vH,h3]
    exact out _ _ _ rfl (by simp only[go_sem,seval,g3]) (by simp only[go_sem,seval,g4]) rfl
  ·have hopc:il T=0:=by unfold il;rw[Qo (fun h=>h3 h.1)]
   rw[hopc] at hR out
   simp (disch:=first|assumption|omega|(simp only[aI]<;>omega)) only[go_sem,seval,g1,g2,g3,g4,hl,p5,vH]
   exact out _ _ _ rfl (by simp only[go_sem,seval,g3]) (by simp only[go_sem,seval,g4]) rfl
 clear g1 g2 g3 g4
 rintro D ⟨t,M2,rfl,hC2,hop,g1,g2,g3,g4,g5⟩
 have hlt:=sg hop
 rw[Qo (by simp[hop])] at hE
 generalize il (aL L s.a)=o at hE g5
 change wp _ _ _ _ ⟨ai [] t, [],none,M2⟩ _
 rw[←aa M2]
 have hd2:=hd.chg hC2 (by simp)
 have hdg2:=hd2.g
 have hdo2:=hd2.o
 simp (disch:=first|assumption|omega|(simp only[aI]<;>omega)) only[go_sem,seval,g1,g2,g3,g4,g5,hdg2]
 generalize hM3:hp _ 0 M2=M3
 have hC3:Chg [r] M2 M3:=aY hM3 rfl
 have hd3:RD M3 r vl (aj s) rest:=⟨by rw[←hM3];exact (aG hdo2).trans ao,hC3.old hdo2⟩
 have hC03:Chg [r] m M3:=(hC.trans hC2 (by simp)).trans hC3 fun _ h _=>h
 have nb1:b1∉ [r]:=by simp;rintro rfl;exact hb1 horm
 have nb2:b2∉ [r]:=by simp;rintro rfl;exact hb2 horm
 have hCb:∀{M M':NH} {z:List NV} {b:D4},Chg [r] M M'->b∉ [r]->ak M b->M.get b=some (.cells true z)->M'.get b=some (.cells true z)/\ak M' b:=fun h hn ho hg=>⟨(h.get ho hn).trans hg,h.old ho⟩
 have hC23:Chg [r] M M3:=(hC2.weak (by simp)).trans hC3 fun _ h _=>h
 refine WF.use (hP (hc.chg h0 hC03) hd3 hlt) ?_
 rintro v4 M4 ⟨⟨w,rfl,hy4⟩,hd4,hC4⟩
 have hst4:=hst (aj s)
 have hsz4:=hsz (aj s)
 have hna:(aj s).a=s.a+1:=rfl
 have hlim:=hst4.lim hlt
 generalize hP4:P (aj s)=p4 at hy4 hd4 hE hst4 hsz4 hlim
 obtain ⟨y,s4⟩:=p4
 dsimp only at hy4 hd4 hE hst4 hsz4 hlim
 have hC24:Chg [r] M M4:=hC23.trans hC4 fun _ h _=>h
 obtain ⟨hg4,ho4⟩:=hCb hC24 nb2 hob hg
 obtain ⟨hg14,ho14⟩:=hCb hC24 nb1 hob1 hg1
 have hx4:RE M4 (fun i=>¬ak m i/\i≠b1/\i≠b2) x (x.l u):=hx.stays (aW.of hC24 fun i hi hs=>by
  have hs:=one hs;subst hs;exact hi.1 horm)
 have hC04:Chg [r] m M4:=hC03.trans hC4 fun _ h _=>h
 have hy4':RE M4 (fun i=>¬ak m i/\i≠b1/\i≠b2) y (y.l w):=hy4.weak fun i hi=>⟨fun h=>hi (hC03.old h),fun h=>hi (h▸hC23.old hob1),fun h=>hi (h▸hC23.old hob)⟩
 have hyl:(y.l w).length=5:=rfl
 have hxl:(x.l u).length=5:=rfl
 rw[←aa M4]
 by_cases he4:s4.e=0
 ·rw[Qo (by omega)] at hE
  have hys:=hsz4 he4
  have hdg4:=hd4.g
  have hdo4:=hd4.o
  have hyl':(y.l w).take 5=y.l w:=rfl
  have hxl':(x.l u).take 5=x.l u:=rfl
  have hxd:(y.l w).drop 5= []:=rfl
  simp (disch:=first|assumption|omega|(simp only[aI]<;>omega)) only[go_sem,seval,g1,g2,g3,g4,g5,hyl,hdg4,hg4,hxl,hyl',hxl']
  generalize hM5:hp _ 2 M4=M5
  have hC5:Chg [b2] M4 M5:=aY hM5 rfl
  have hg5:M5.get b2=some (.cells true ((wq o x y).l (.slc (na M4 1) 0 2 5 2))):=gn ho4 hM5
  have hk5:M5.get (na M4 1)=some (.cells true (x.l u++y.l w)):=bw hM5
  have hko5:ak M5 (na M4 1):=bx hM5 (by omega)
  have hTk:¬ak m (na M4 1)/\na M4 1≠b1/\na M4 1≠b2:=⟨fun h=>az (hC04.old h),fun h=>ho14.ne 1 h.symm,fun h=>ho4.ne 1 h.symm⟩
  have hs5:aW (fun i=>¬ak m i/\i≠b1/\i≠b2) M4 M5:=aW.of hC5 fun i hi hs=>by
   simp only[Qt,Qs,or_false] at hs;exact hi.2.2 hs
  have hxy5:RE M5 (fun i=>¬ak m i/\i≠b1/\i≠b2) (wq o x y) ((wq o x y).l (.slc (na M4 1) 0 2 5 2)):=MN (hx4.stays hs5) (hy4'.stays hs5) hTk hk5 hko5
  have hosz:(wq o x y).sz=1+(x.sz+(y.sz+0)):=by simp[Ex.sz,kj]
  refine WF.use1H (He (wq o x y) hxy5 (fun i _ ho=>⟨rfl,ho⟩) (by omega)) ?_
  intro M6 hC6
  have hd5:RD M5 r vl s4 rest:=hd4.chg hC5 (by simp;rintro rfl;exact hb2 horm)
  have hd6:=hd5.chg hC6 (by simp)
  have hC56:Chg [b2] M4 M6:=hC5.trans hC6 (by simp)
  have hxy6:=hxy5.stays (lg hC6 _)
  have hg6:=(hC6.get (hC5.old ho4) (by simp)).trans hg5
  have ho6:=hC56.old ho4
  have ho16:=hC56.old ho14
  have hg16:=(hC56.get ho14 (by simpa using hb12)).trans hg14
  have hC06:Chg [r] m M6:=hC04.trans hC56 fun i hi ho=>by
   have hi:=one hi;subst hi;exact Qn ho hb2
  have he0:=hxs he
  by_cases hdp:30<(wq o x y).depth
  ·rw[Qp hdp] at hE
   simp (disch:=first|assumption|omega) only[go_sem,seval,g1]
   rw[aa]
   refine WF.use1 (ic hd6 11) ?_
   rintro M7 ⟨hd7,hC7⟩
   obtain ⟨hg7,ho7⟩:=hCb hC7 nb2 ho6 hg6
   obtain ⟨hg17,ho17⟩:=hCb hC7 nb1 ho16 hg16
   have hxy7:=hxy6.stays (m':=M7) (aW.of hC7 fun i hi hs=>by
    have hs:=one hs;subst hs;exact hi.1 horm)
   have hfe:(bt 11 s4).e≠0/\(bt 11 s4).a=s4.a:=by unfold bt;rw[Qp he4];exact ⟨by show (11:Nat)≠0;omega,rfl⟩
   simp (disch:=first|assumption|omega) only[go_sem,seval]
   refine ⟨f,by omega,_,M7,wq o x y,_,_,f,by rfl,by simp only[go_sem,seval,g1],by simp only[go_sem,seval,g2],by simp only[go_sem,seval,g3],by simp only[go_sem,seval,g4],hd7,hxy7,hg7,ho7,ho17,hg17,by rw[hfe.2];exact hlim,fun h=>Qn h hfe.1,by omega,hC06.trans hC7 fun _ h _=>h,hE, ?_,rfl⟩
   have:=hst4.le
   rw[hfe.2];omega
  ·rw[Qo hdp] at hE
   simp (disch:=first|assumption|omega) only[go_sem,seval,g1]
   refine ⟨f,by omega,_,M6,wq o x y,_,_,f,by rw[aa],by simp only[go_sem,seval,g1],by simp only[go_sem,seval,g2],by simp only[go_sem,seval,g3],by simp only[go_sem,seval,g4],hd6,hxy6,hg6,ho6,ho16,hg16,hlim,fun h=>by omega,by omega,hC06,hE, ?_,rfl⟩
   have:=hst4.le
   omega
 ·rw[Qp he4] at hE
  injection hE with e1 e2
  subst e1 e2
  have hdg4:=hd4.g
  have hdo4:=hd4.o
  simp (disch:=first|assumption|omega|(simp only[aI]<;>omega)) only[go_sem,seval,g1,g2,g3,g4,g5,hyl,hdg4]
  generalize hM5:hp _ 1 M4=M5
  have hC5:Chg [] M4 M5:=aY hM5 rfl
  exact hQ _ M5 u (by simp only[go_sem,seval,g3]) (by simp only[go_sem,seval,g4]) (hd4.chg hC5 (by simp)) (hx4.stays (lg hC5 _)) ((hC5.get ho4 (by simp)).trans hg4) (hC5.old ho4) (hC5.old ho14) ((hC5.get ho14 (by simp)).trans hg14) (hC04.trans hC5 (by simp))
end
section
variable {m0:NH} {L:List Tok} {vl:NV} {r:D4} {rest:List NV}
theorem zG (hc:RC m0 L vl r) {E:Rs->Ex×Rs} {d:Nat} (hst:∀s,St L s (E s).2) (hP:IZ 173 m0 L vl r rest (cN L E d) d) (hsz:DG (cN L E d)) (hsz1:∀s,s.a<=L.length->(cN L E d s).1.sz<=100000):IZ 162 m0 L vl r rest (iw L E d) d:=by
 intro m s h0 hd ha
 refine WF.ex fun K hK=> ?_
 refine WF.of_wpG (fun _=>rfl) sR (L:= [(.a .e,ii d),(.e,.ptr r 0)]) rfl ?_
 unfold EB
 have hll:=hc.len
 simp (disch:=first|assumption|omega) only[go_sem,seval]
 generalize hM1:hp _ 1 m=M1
 have hC1:Chg [] m M1:=aY hM1 rfl
 have hg1:M1.get (na m 0)=some (.cells true [ii 0,u64 0,u8 0,.str [],.nils]):=bw hM1
 have ho1:ak M1 (na m 0):=bx hM1 (by omega)
 have hr0:na m 0≠r:=fun e=>hd.o.ne 0 e.symm
 have hd1:=hd.chg hC1 (by simp)
 refine WF.useH (hP (h0.trans hC1 (by simp)) hd1 ha) ?_
 rintro v2 M2 ⟨⟨u,rfl,hx2⟩,hd2,hC2⟩
 have hst2:=gU (L:=L) (d:=d) hst s
 have hlim:=hst2.lim ha
 have hsz2:=hsz s
 have hszz:=hsz1 s ha
 have hXS:eU L (cN L E d) (L.length+1) (cN L E d s).1 (cN L E d s).2=((iw L E d s).1,(iw L E d s).2):=rfl
 generalize (iw L E d s).1=X at hXS hK
 generalize (iw L E d s).2=S at hXS hK
 generalize cN L E d s=p at hx2 hd2 hlim hsz2 hszz hXS
 obtain ⟨x,s2⟩:=p
 dsimp only at hx2 hd2 hlim hsz2 hszz hXS
 have hg2:=(hC2.get ho1 (by simpa using hr0)).trans hg1
 have ho2:=hC2.old ho1
 have hxl:(x.l u).length=5:=rfl
 have hC02:Chg [r] m M2:=(hC1.weak (by simp)).trans hC2 fun _ h _=>h
 simp (disch:=first|assumption|omega|(simp only[aI]<;>omega)) only[go_sem,seval,hxl]
 generalize hM3:hp _ 1 M2=M3
 have hC3:Chg [] M2 M3:=aY hM3 rfl
 have hg3:M3.get (na M2 0)=some (.cells true (x.l u)):=bw hM3
 have ho3:ak M3 (na M2 0):=bx hM3 (by omega)
 have hx3:RE M3 (fun i=>¬ak m i/\i≠na m 0/\i≠na M2 0) x (x.l u):=(hx2.old.stays (lg hC3 _)).weak fun i hi=>⟨fun h=>hi.1 (hC1.old h),fun h=>hi.1 (h▸ho1),fun h=>az (h▸hi.2)⟩
 refine A6 hc (gU hst) hsz hP h0 (b1:=na m 0) (b2:=na M2 0) az (fun h=>az (hC02.old h)) (fun e=>ho2.ne 0 e) hd.o (hd2.chg hC3 (by simp)) hx3 hg3 ho3 (hC3.old ho2) ((hC3.get ho2 (by simp)).trans hg2) hlim (fun h=>by have:=hsz2 h;omega) hszz (hC02.trans hC3 (by simp)) hXS (by simp only[go_sem,seval]) (by simp only[go_sem,seval]) (by simp only[go_sem,seval]) (by simp only[go_sem,seval]) ?_
 intro t' M' u' q1 q2 q3 q4 q5 q6 q7 q8 q9
 have hXl:(X.l u').length=5:=rfl
 have hXl':(X.l u').take 5=X.l u':=rfl
 rw[←aa M']
 simp (disch:=first|assumption|omega|(simp only[aI]<;>omega)) only[go_sem,seval,q1,q2,q5,q8,hXl,hXl']
 generalize hM5:hp _ 0 M'=M5
 have hC5:Chg [na m 0] M' M5:=aY hM5 rfl
 have hx5:RE M5 (oS m) X (X.l u'):=(q4.stays (m':=M5) (aW.of hC5 fun i hi hs=>by
  simp only[Qt,Qs,or_false] at hs;exact hi.2.1 hs)).weak fun i hi=>hi.1
 exact hK _ _ ⟨⟨u',rfl,hx5⟩,q3.chg hC5 (by simpa using hr0.symm),q9.trans hC5 fun i hi ho=>by
  have hi:=one hi;subst hi;exact Qn ho az⟩
theorem Gy {P:Rs->Ex×Rs} (hst:∀s,St L s (P s).2) (hsz:DG P):∀(f:Nat) (x:Ex) (s:Rs),s.a<=L.length->(s.e=0->x.sz<=s.a)->x.sz<=L.length+1->(eU L P f x s).1.sz<=L.length+1:=by
 intro f
 induction f with
 |zero=>intro x s _ _ h;exact h
 |succ f ih=>
  intro x s ha h1 h2
  rw[eU]
  split
  ·exact h2
  ·split
   ·exact h2
   ·rename_i q1 q2
    have hlt:=sg (L:=L) (a:=s.a) (by simpa using q2)
    have h3:=(hst (aj s)).lim hlt
    split
    ·exact h2
    ·rename_i q3
     have h5:=hsz (aj s) (by omega)
     have h6:=h1 (by omega)
     have h7:(aj s).a=s.a+1:=rfl
     have h8:(wq (il (aL L s.a)) x (P (aj s)).1).sz=1+(x.sz+((P (aj s)).1.sz+0)):=by simp[Ex.sz,kj]
     have hfa:∀e,(bt e (P (aj s)).2).a=(P (aj s)).2.a:=fun e=>by unfold bt;split<;>rfl
     refine ih _ _ ?_ ?_ (by omega)
     ·split
      ·rw[hfa];exact h3
      ·exact h3
     ·split
      ·rw[hfa];omega
      ·omega
theorem uB {E:Rs->Ex×Rs} {d:Nat} (hst:∀s,St L s (E s).2) (hsz:DG (cN L E d)) (hp1:∀s,s.a<=L.length->(cN L E d s).1.sz<=L.length+1) (s:Rs) (ha:s.a<=L.length):(iw L E d s).1.sz<=L.length+1:=
 Gy (gU hst) hsz _ _ _ ((gU (L:=L) (d:=d) hst s).lim ha) (fun h=>by have:=hsz s h;omega) (hp1 s ha)
theorem mY {E:Rs->Ex×Rs} {d:Nat} (hE:∀s,s.a<=L.length->(E s).1.sz<=L.length+1) (s:Rs) (ha:s.a<=L.length):(cN L E d s).1.sz<=L.length+1:=by
 unfold cN
 split
 ·simp[zE,Ex.sz,kj]
 ·split
  ·simp[zE,Ex.sz,kj]
  ·split
   ·simp[Ex.sz,kj]
   ·split
    ·simp[Ex.sz,kj]
    ·split
     ·rename_i h;exact hE _ (bH h).2
     ·simp[zE,Ex.sz,kj]
theorem EM:∀(n:Nat) (s:Rs),s.a<=L.length->(iR L n s).1.sz<=L.length+1:=by
 intro n
 induction n with
 |zero=>exact fun s ha=>uB (fun s=>St.refl _ s) (oP L _) (mY fun s _=>by simp[zE,Ex.sz,kj]) s ha
 |succ n ih=>exact fun s ha=>uB (cu L n) (rF (cu L n) (rG L n)) (mY ih) s ha
theorem Lh (hc:RC m0 L vl r):∀n,n<=30->IZ 162 m0 L vl r rest (iR L n) (30 - n):=by
 have hll:=hc.len
 intro n
 induction n with
 |zero=>
  intro _
  have e2:iR L 0=iw L (fun s=>(zE,s)) 30:=by funext s;rfl
  rw[e2]
  intro m s
  exact zG (E:=fun s=>(zE,s)) hc (fun s=>St.refl _ s) (CB hc (fun s=>St.refl _ s) (fun h=>by omega) (by omega)) (oP L _) fun s ha=>by have:=mY (L:=L) (E:=fun s=>(zE,s)) (d:=30) (fun s _=>by simp[zE,Ex.sz,kj]) s ha;omega
 |succ n ih=>
  intro hn
  have e:30 - (n+1)=29 - n:=by omega
  have h1:29 - n+1=30 - n:=by omega
  have e2:iR L (n+1)=iw L (iR L n) (29 - n):=by funext s;rfl
  rw[e,e2]
  intro m s
  exact zG hc (cu L n) (CB hc (cu L n) (fun _=>by rw[h1];exact ih (by omega)) (by omega)) (rF (cu L n) (rG L n)) fun s ha=>by have:=mY (d:=29 - n) (EM n) s ha;omega
end
section
variable (L:List Tok)
abbrev eq (s:Rs):Ex×Rs:=iR L 30 s
def bm (s:Rs):List Nat×Ex×Rs:=if aX L [91] (ba L s).2=true then ((ba L s).1,(eq L (aj (ba L s).2)).1,aZ L [93] (eq L (aj (ba L s).2)).2) else ((ba L s).1,zE,(ba L s).2)
def tF (x:Stm) (s:Rs):Stm×Rs:=(x,aZ L [59] s)
def Mq (p:Int) (s:Rs):Stm×Rs:=tF L (.mk 0 p (ba L s).1 [] zE (eq L (ba L s).2).1 zE [] []) (eq L (ba L s).2).2
def Ik (p:Int) (s:Rs):Stm×Rs:=tF L (.mk 1 p (ba L s).1 (bm L (ba L s).2).1 (bm L (ba L s).2).2.1 zE zE [] []) (bm L (ba L s).2).2.2
def Fx (p:Int) (s:Rs):Stm×Rs:=tF L (.mk 2 p [] (bm L s).1 (bm L s).2.1 (eq L (bm L s).2.2).1 zE [] []) (eq L (bm L s).2.2).2
def Mi (p:Int) (s:Rs):Stm×Rs:=tF L (.mk 3 p (ba L s).1 (bm L (ba L s).2).1 (bm L (ba L s).2).2.1 (eq L (bm L (ba L s).2).2.2).1 (eq L (eq L (bm L (ba L s).2).2.2).2).1 [] []) (eq L (eq L (bm L (ba L s).2).2.2).2).2
def Oj (p:Int) (s:Rs):Stm×Rs:=tF L (.mk 5 p [] [] zE (eq L s).1 zE [] []) (eq L s).2
def I9 (B:Rs->List Stm×Rs) (p:Int) (s:Rs):Stm×Rs:=
 if aX L [101,108,115,101] (B (eq L s).2).2=true then (.mk 6 p [] [] zE (eq L s).1 zE (B (eq L s).2).1 (B (aj (B (eq L s).2).2)).1,(B (aj (B (eq L s).2).2)).2)
 else (.mk 6 p [] [] zE (eq L s).1 zE (B (eq L s).2).1 [],(B (eq L s).2).2)
def C7 (B:Rs->List Stm×Rs) (p:Int) (s:Rs):Stm×Rs:=(.mk 7 p [] [] zE (eq L s).1 zE (B (eq L s).2).1 [],(B (eq L s).2).2)
def cJ (B:Rs->List Stm×Rs) (s:Rs):Stm×Rs:=
 if aX L [115,101,116] s=true then Mq L (aL L s.a).p (aj s)
 else if aX L [108,111,97,100] s=true then Ik L (aL L s.a).p (aj s)
 else if aX L [115,116,111,114,101] s=true then Fx L (aL L s.a).p (aj s)
 else if aX L [99,97,115] s=true then Mi L (aL L s.a).p (aj s)
 else if aX L [102,101,110,99,101] s=true then tF L (.mk 4 (aL L s.a).p [] [] zE zE zE [] []) (aj s)
 else if aX L [111,117,116] s=true then Oj L (aL L s.a).p (aj s)
 else if aX L [105,102] s=true then I9 L B (aL L s.a).p (aj s)
 else if aX L [119,104,105,108,101] s=true then C7 L B (aL L s.a).p (aj s)
 else tF L (.mk 0 (aL L s.a).p [] [] zE zE zE [] []) (bt 2 s)
def fC (S:Rs->Stm×Rs):Nat->List Stm->Rs->List Stm×Rs
 |0,l,s=>(l,s)
 |f+1,l,s=>if s.e≠0 then (l,s) else if aX L [125] s=true then (l,aj s) else fC S f (l++ [(S s).1]) (S s).2
def dJ (d:Nat) (s:Rs):Rs:=if s.e=0/\29<d/\(aL L s.a).k=3/\(aL L s.a).t= [123] then bt 11 s else s
def iJ (S:Rs->Stm×Rs) (d:Nat) (s:Rs):List Stm×Rs:=fC L S (L.length+1) [] (aZ L [123] (dJ L d s))
def dw:Nat->Rs->List Stm×Rs
 |0,s=>iJ L (fun s=>(.mk 0 0 [] [] zE zE zE [] [],bt 2 s)) 30 s
 |n+1,s=>iJ L (cJ L (dw n)) (29 - n) s
end
section
variable {m0:NH} {L:List Tok} {vl:NV} {r:D4} {rest:List NV}
theorem eN (s:Rs):St L s (bm L s).2.2:=by
 unfold bm
 split
 ·rename_i h;exact (((cE L s).trans (eu h)).trans (cu L 30 _)).trans (bS _ _ _)
 ·exact cE L s
theorem H2 (hc:RC m0 L vl r):IZ 162 m0 L vl r rest (eq L) 0:=by
 intro m s
 exact Lh hc 30 (Nat.le_refl _)
theorem qF (hc:RC m0 L vl r) {m:NH} {s:Rs} (h0:Chg [] m0 m) (hd:RD m r vl s rest) (ha:s.a<=L.length) {pb:D4} (hpr:pb≠r) (hop:ak m pb) (hnp:¬ak m0 pb) {c0 c1 c2 c3:NV} {c:List NV} (hl:c.length=12)
 (hg:m.get pb=some (.cells true (c0::c1::c2::c3::ii 0::u64 0::u8 0:: .str []:: .nils::c))):
 ∃m',bc Try.prog S0 163 [.ptr r 0,.ptr pb 0] m (.tup []) m'/\∃u,m'.get pb=some (.cells true (c0::c1::c2:: .str (bm L s).1::((bm L s).2.1.l u++c)))/\RE m' (oS m) (bm L s).2.1 ((bm L s).2.1.l u)/\RD m' r vl (bm L s).2.2 rest/\Chg [r,pb] m m':=by
 refine WF.ex1 fun K hK=> ?_
 refine WF.of_wpG (fun _=>rfl) uj (L:= [(.a .e,.ptr pb 0),(.e,.ptr r 0)]) rfl ?_
 unfold ET
 have hll:=hc.len
 have hrp:r≠pb:=fun e=>hpr e.symm
 simp (disch:=first|assumption|omega) only[go_sem,seval,aa]
 refine WF.use1H (lH hc h0 hd (by omega)) ?_
 rintro M1 ⟨hd1,hC1⟩
 have hst1:=cE L s
 unfold bm at hK
 generalize ba L s=q at hK hd1 hst1
 obtain ⟨n,s1⟩:=q
 dsimp only at hK hd1 hst1
 have hg1:=(hC1.get hop (by simpa using hpr)).trans hg
 have ho1:=hC1.old hop
 simp (disch:=first|assumption|omega|(simp only[aI]<;>omega)) only[go_sem,seval,hg1]
 generalize hM2:hp _ 0 M1=M2
 have hC2:Chg [pb] M1 M2:=aY hM2 rfl
 have hg2:M2.get pb=some (.cells true (c0::c1::c2:: .str n::ii 0::u64 0::u8 0:: .str []:: .nils::c)):=gn ho1 hM2
 have ho2:=hC2.old ho1
 have hd2:=hd1.chg hC2 (by simpa using hrp)
 have hC02:Chg [r,pb] m M2:=(hC1.weak (by simp)).trans hC2 (by simp)
 have hlim:=hst1.lim ha
 have hbase:∀{M},Chg [r,pb] m M->Chg [] m0 M:=fun h=>h0.trans h fun i hi ho=>by
  simp only[Qt,Qs,or_false] at hi
  rcases hi with rfl|rfl
  ·exact Qn ho hc.no
  ·exact Qn ho hnp
 refine WF.use1H (dl hc (hbase hC02) hd2 [91] (by simp) (by omega)) ?_
 rintro M3 ⟨hd3,hC3⟩
 have hg3:=(hC3.get ho2 (by simpa using hpr)).trans hg2
 have ho3:=hC3.old ho2
 have hC03:Chg [r,pb] m M3:=hC02.trans hC3 (by intro i hi _;simp at hi ⊢;exact Or.inl hi)
 cases hb:aX L [91] s1 with
 |true=>
  rw[hb,Qp rfl] at hK hd3
  have hlt:=(bH hb).2
  simp (disch:=first|assumption|omega) only[go_sem,seval,aa]
  refine WF.useH (H2 hc (hbase hC03) hd3 hlt) ?_
  rintro v4 M4 ⟨⟨u,rfl,hx4⟩,hd4,hC4⟩
  have hst4:=cu L 30 (aj s1)
  have hlim4:=hst4.lim hlt
  dsimp only at hK
  generalize hq:eq L (aj s1)=q at hK hx4 hd4
  have hq':iR L 30 (aj s1)=q:=hq
  rw[hq'] at hlim4
  obtain ⟨x,s4⟩:=q
  dsimp only at hK hx4 hd4 hlim4
  have hg4:=(hC4.get ho3 (by simpa using hpr)).trans hg3
  have ho4:=hC4.old ho3
  have hxl:(x.l u).length=5:=rfl
  simp (disch:=first|assumption|omega|(simp only[aI]<;>omega)) only[go_sem,seval,hg4,hxl,hl]
  generalize hM5:hp _ 0 M4=M5
  have hC5:Chg [pb] M4 M5:=aY hM5 rfl
  have hg5:M5.get pb=some (.cells true (c0::c1::c2:: .str n::(x.l u++c))):=gn ho4 hM5
  have ho5:=hC5.old ho4
  have hC04:Chg [r,pb] m M4:=hC03.trans hC4 (by intro i hi _;simp at hi ⊢;exact Or.inl hi)
  have hC05:Chg [r,pb] m M5:=hC04.trans hC5 (by simp)
  refine WF.use1H (gi hc (hbase hC05) (hd4.chg hC5 (by simpa using hrp)) [93] (by simp) (by omega)) ?_
  rintro M6 ⟨hd6,hC6⟩
  simp (disch:=first|assumption|omega) only[go_sem,seval,aa]
  refine hK _ ⟨u,(hC6.get ho5 (by simpa using hpr)).trans hg5, ?_,hd6,hC05.trans hC6 (by intro i hi _;simp at hi ⊢;exact Or.inl hi)⟩
  refine ((hx4.chg hC5 ?_).chg hC6 ?_).new fun i hi=>hC03.old hi
  ·intro i hi;have hi:=one hi;subst hi;exact ho3
  ·intro i hi;have hi:=one hi;subst hi;exact hd3.o
 |false=>
  rw[hb,Qo Bool.false_ne_true] at hK hd3
  simp (disch:=first|assumption|omega) only[go_sem,seval,aa]
  exact hK _ ⟨.nils,hg3,BT _ _ 0 0 0 [],hd3,hC03⟩
end
def PH (m0:NH) (L:List Tok) (vl:NV) (r:D4) (rest:List NV) (S:Rs->Stm×Rs) (d:Nat):Prop:=∀{m:NH} {s:Rs},Chg [] m0 m->RD m r vl s rest->s.a<=L.length->
 ∃v m',bc Try.prog S0 135 [.ptr r 0,ii d] m v m'/\(∃w,v= .agg ((S s).1.l w)/\RS m' (oS m) (S s).1 ((S s).1.l w))/\RD m' r vl (S s).2 rest/\Chg [r] m m'
def Pe (m0:NH) (L:List Tok) (vl:NV) (r:D4) (rest:List NV) (B:Rs->List Stm×Rs) (d:Nat):Prop:=∀{m:NH} {s:Rs},Chg [] m0 m->RD m r vl s rest->s.a<=L.length->
 ∃v m',bc Try.prog S0 88 [.ptr r 0,ii d] m v m'/\(∃C,SS m' (oS m) v (B s).1 C)/\RD m' r vl (B s).2 rest/\Chg [r] m m'
section
variable {m0:NH} {L:List Tok} {vl:NV} {r:D4} {rest:List NV}
theorem kQ (d:Nat) (s:Rs):St L s (dJ L d s):=by
 unfold dJ
 split
 ·exact b8 _ _ _
 ·exact St.refl _ _
theorem AF (hc:RC m0 L vl r) {S:Rs->Stm×Rs} {d:Nat} (hst:∀s,St L s (S s).2) (hpr:∀s,s.e=0->s.a<(S s).2.a∨(S s).2.e≠0) (hS:d<=29->PH m0 L vl r rest S d) (hd29:∀s:Rs,d=30->True) {m:NH} (h0:Chg [] m0 m) (horm:ak m r)
 {X:List Stm} {Z:Rs} {M:NH} {s:Rs} (hde:s.e≠0∨d<=29) (hd:RD M r vl s rest) (ha:s.a<=L.length) (hC:Chg [r] m M) (hE:fC L S (L.length+1) [] s=(X,Z))
 {t:Tm} (g1:NT.get D4.e t=some (.ptr r 0)) (g2:NT.get D4.e.a t=some (ii d)) (g3:NT.get D4.e.a.a t=some .nils) {Q:Out->Dyn->Prop}
 (hQ:∀t' M' v C,NT.get D4.e.a.a t'=some v->RD M' r vl Z rest->SS M' (oS m) v X C->Chg [r] m M'->Q (.exit 0) ⟨ai [] t', [],none,M'⟩):
 W Try.prog S0 none su.loop ⟨t, [],none,M⟩ Q:=by
 refine W.loop (fun k D=>∃t M l s v C,D=⟨t, [],none,M⟩/\NT.get D4.e t=some (.ptr r 0)/\NT.get D4.e.a t=some (ii d)/\NT.get D4.e.a.a t=some v/\(s.e≠0∨d<=29)/\RD M r vl s rest/\aV m M v 21 C/\C.length=l.length/\(∀(j:Nat) (x:Stm) (c:List NV),l[j]? =some x->C[j]? =some c->RS M (fun i=>¬ak m i/\i∉ids v) x c)/\s.a<=L.length/\Chg [r] m M/\fC L S k l s=(X,Z)/\(L.length<k+s.a∨s.e≠0)/\l.length+k<=L.length+1) ?_ (L.length+1) _ ⟨t,M, [],s,.nils, [],rfl,g1,g2,g3,hde,hd,aV.nil,rfl,by simp,ha,hC,hE,Or.inl (by omega),by simp⟩
 clear hde hd ha hC hE g1 g2 g3
 rintro k D ⟨t,M,l,s,v,C,rfl,g1,g2,g3,hde,hd,hv,hcl,hR,ha,hC,hE,hf,hlk⟩
 apply ap
 unfold su
 change wp _ _ _ _ ⟨ai [] t, [],none,M⟩ _
 have hll:=hc.len
 have hdg:=hd.g
 by_cases he:s.e=0
 ·obtain ⟨f,rfl⟩:∃f',k=f'+1:=⟨k - 1,by rcases hf with h|h<;>omega⟩
  rw[fC,Qo (by omega)] at hE
  simp (disch:=first|assumption|omega) only[go_sem,seval,g1,g2,g3,hdg]
  refine WF.use1H (dl hc (hc.chg h0 hC) hd [125] (by simp) (by omega)) ?_
  rintro M2 ⟨hd2,hC2⟩
  have hrv:∀i∈ids v,i∉ [r]:=fun i hi h=>by
   have h:=one h;subst h;exact hv.new _ hi horm
  have hv2:=hv.chg hC2 hrv
  have hC02:Chg [r] m M2:=hC.trans hC2 fun _ h _=>h
  have hst2:aW (fun i=>¬ak m i/\i∉ids v) M M2:=aW.of hC2 fun i hi hs=>by
   have hs:=one hs;subst hs;exact hi.1 horm
  cases hb:aX L [125] s with
  |true=>
   rw[hb,Qp rfl] at hE hd2
   injection hE with e1 e2
   subst e1 e2
   simp (disch:=first|assumption|omega) only[go_sem,seval,g1,g2,g3,aa]
   exact hQ _ M2 v C (by simp only[go_sem,seval,g3]) hd2 ⟨hv2.sl,fun i hi=>hv2.new i hi,hcl,fun j x c h1 h2=>((hR j x c h1 h2).stays hst2).weak fun i hi=>hi.1⟩ hC02
  |false=>
   rw[hb,Qo Bool.false_ne_true] at hE hd2
   simp (disch:=first|assumption|omega) only[go_sem,seval,g1,g2,g3,aa]
   refine WF.useH (hS (by omega) (hc.chg h0 hC02) hd2 ha) ?_
   rintro v3 M3 ⟨⟨w,rfl,hx3⟩,hd3,hC3⟩
   have hlim:=(hst s).lim ha
   have hpr':=hpr s he
   generalize S s=q at hE hx3 hd3 hlim hpr'
   obtain ⟨x,s3⟩:=q
   dsimp only at hE hx3 hd3 hlim hpr'
   have hxl:(x.l w).length=21:=rfl
   have hxl':(x.l w).take 21=x.l w:=rfl
   simp (disch:=first|assumption|omega|(simp only[aI]<;>omega)) only[go_sem,seval,g1,g2,g3,hxl]
   have hC4:Chg [] M3 (hp [(.n 0,.cells true (x.l w))] 1 M3):=aE rfl
   have hv3:=hv2.chg hC3 hrv
   have hC03:Chg [r] m M3:=hC02.trans hC3 fun _ h _=>h
   refine fA (cs:=x.l w) (hv3.chg hC4 fun _ _=>by simp) bo (bv (by omega)) hxl (fun i hi=>hC4.old (hC03.old hi)) (by omega) (by omega) ?_
   intro v5 M5 hv5 hC5 hF5
   generalize hM4:hp [(.n 0,.cells true (x.l w))] 1 M3=M4 at hC4 hC5 hF5
   have hC34:Chg [r] M2 M4:=hC3.trans hC4 (by simp)
   have hd5:RD M5 r vl s3 rest:=(hd3.chg hC4 (by simp)).chg hC5 fun h=>hv.new _ h horm
   have hC05:Chg [r] m M5:=(hC02.trans hC34 fun _ h _=>h).trans hC5 fun i hi ho=>Qn ho (hv.new i hi)
   have hlen5:(l++ [x]).length=l.length+1:=by simp
   simp (disch:=first|assumption|omega) only[go_sem,seval,g1,g2,g3]
   refine ⟨f,by omega,_,M5,l++ [x],s3,v5,C++ [x.l w],by rfl,by simp only[go_sem,seval,g1],by simp only[go_sem,seval,g2],by simp only[go_sem,seval], ?_,hd5,hv5,by simp[hcl], ?_,hlim,hC05,hE, ?_,by omega⟩
   ·rcases hde with h|h
    ·exact Qn he h
    ·exact Or.inr h
   ·have hold:∀(j:Nat) (y:Stm) (c:List NV),l[j]? =some y->C[j]? =some c->RS M5 (fun i=>¬ak m i/\i∉ids v5) y c:=fun j y c h1 h2=>by
     have a1:=((hR j y c h1 h2).stays hst2).stays (m':=M4) (aW.of hC34 fun i hi hs=>by
      have hs:=one hs;subst hs;exact hi.1 horm)
     have a2:=a1.old.stays (m':=M5) (aW.of hC5 fun i hi hs=>hi.1.2 hs)
     exact a2.weak fun i hi=>⟨hi.1.1,fun h=>(hF5 i h).elim hi.1.2 fun q=>q hi.2⟩
    have hnew:RS M5 (fun i=>¬ak m i/\i∉ids v5) x (x.l w):=by
     have a1:RS M4 (oS M2) x (x.l w):=hx3.chg hC4 (by simp)
     have a2:=a1.old.stays (m':=M5) (aW.of hC5 fun i hi hs=>hi.1 (hv2.sl.old i hs))
     exact a2.weak fun i hi=>⟨fun h=>hi.1 (hC02.old h),fun h=>(hF5 i h).elim (fun q=>hi.1 (hv2.sl.old i q)) fun q=>q hi.2⟩
    intro j y c h1 h2
    rcases Nat.lt_or_ge j l.length with h|h
    ·rw[List.getElem?_append_left h] at h1
     rw[List.getElem?_append_left (by omega)] at h2
     exact hold j y c h1 h2
    ·rw[List.getElem?_append_right h] at h1
     rw[List.getElem?_append_right (by omega),hcl] at h2
     cases hj:j - l.length with
     |zero=>rw[hj] at h1 h2;cases h1;cases h2;exact hnew
     |succ n=>rw[hj] at h1;simp at h1
   ·rcases hpr' with h|h
    ·left;rcases hf with q|q<;>omega
    ·exact Or.inr h
 ·have hde':decide ((s.e:Int)=0)=false:=Qq (by omega)
  have hE':(l,s)=(X,Z):=by
   cases k with
   |zero=>exact hE
   |succ k=>rw[fC,Qp he] at hE;exact hE
  injection hE' with e1 e2
  subst e1 e2
  simp (disch:=first|assumption|omega) only[go_sem,seval,g1,g2,g3,hdg,hde']
  exact hQ _ M v C (by simp only[go_sem,seval,g3]) hd ⟨hv.sl,fun i hi=>hv.new i hi,hcl,fun j x c h1 h2=>(hR j x c h1 h2).weak fun i hi=>hi.1⟩ hC
theorem Ac (hc:RC m0 L vl r) {S:Rs->Stm×Rs} {d:Nat} (hst:∀s,St L s (S s).2) (hpr:∀s,s.e=0->s.a<(S s).2.a∨(S s).2.e≠0) (hS:d<=29->PH m0 L vl r rest S d):Pe m0 L vl r rest (iJ L S d) d:=by
 intro m s h0 hd ha
 refine WF.ex fun K hK=> ?_
 refine WF.of_wpG (fun _=>rfl) Ap (L:= [(.a .e,ii d),(.e,.ptr r 0)]) rfl ?_
 unfold Kt
 have hll:=hc.len
 have hdg:=hd.g
 refine Pf (fun D=>D=⟨ai [(D4.e.a.a,.nils),(D4.e.f,.nils),(D4.e.a,ii d),(D4.e,.ptr r 0)] .leaf, [],none,m⟩) (fun R hR=> ?_) ?_
 ·simp (disch:=first|assumption|omega) only[go_sem,seval,aa]
  exact hR _ rfl
 rintro D rfl
 refine gG (fun D=>∃t M,D=⟨t, [],none,M⟩/\NT.get D4.e t=some (.ptr r 0)/\NT.get D4.e.a t=some (ii d)/\NT.get D4.e.a.a t=some .nils/\RD M r vl (dJ L d s) rest/\Chg [r] m M) (fun R hR=> ?_) ?_
 ·have no:∀(t:Tm) (M:NH),NT.get D4.e t=some (.ptr r 0)->NT.get D4.e.a t=some (ii d)->NT.get D4.e.a.a t=some .nils->dJ L d s=s->Chg [] m M->R ⟨t, [],none,M⟩:=fun t M q1 q2 q3 q4 q5=>hR _ ⟨t,M,rfl,q1,q2,q3,by rw[q4];exact hd.chg q5 (by simp),q5.weak (by simp)⟩
  by_cases he:s.e=0
  ·by_cases h29:29<d
   ·obtain ⟨M1,hr1,hC1⟩:=jl hc h0 hd
    have hd1:=hd.chg hC1 (by simp)
    obtain ⟨M2,hr2,hC2⟩:=jl hc (h0.trans hC1 (by simp)) hd1
    have hd2:=hd1.chg hC2 (by simp)
    have hl0:(aL L s.a).l[0]? =some (ii (aL L s.a).k):=rfl
    have hl1:(aL L s.a).l[1]? =some (.str (aL L s.a).t):=rfl
    by_cases hk:(aL L s.a).k=3
    ·by_cases ht:(aL L s.a).t= [123]
     ·simp (disch:=first|assumption|omega) only[go_sem,seval,hdg,hr1.wf',hr2.wf',hl0,hl1]
      refine WF.use1 (ic hd2 11) ?_
      rintro M3 ⟨hd3,hC3⟩
      simp (disch:=first|assumption|omega) only[go_sem,seval]
      refine hR _ ⟨_,M3,rfl,by simp only[go_sem,seval],by simp only[go_sem,seval],by simp only[go_sem,seval], ?_,((hC1.trans hC2 (by simp)).weak (by simp)).trans hC3 fun _ h _=>h⟩
      rw[dJ,Qp ⟨he,h29,hk,ht⟩];exact hd3
     ·simp (disch:=first|assumption|omega) only[go_sem,seval,hdg,hr1.wf',hr2.wf',hl0,hl1]
      exact no _ _ (by simp only[go_sem,seval]) (by simp only[go_sem,seval]) (by simp only[go_sem,seval]) (by rw[dJ,Qo (fun h=>ht h.2.2.2)]) (hC1.trans hC2 (by simp))
    ·simp (disch:=first|assumption|omega) only[go_sem,seval,hdg,hr1.wf',hr2.wf',hl0,hl1]
     exact no _ _ (by simp only[go_sem,seval]) (by simp only[go_sem,seval]) (by simp only[go_sem,seval]) (by rw[dJ,Qo (fun h=>hk h.2.2.1)]) hC1
   ·simp (disch:=first|assumption|omega) only[go_sem,seval,hdg]
    exact no _ _ (by simp only[go_sem,seval]) (by simp only[go_sem,seval]) (by simp only[go_sem,seval]) (by rw[dJ,Qo (fun h=>h29 h.2.1)]) (Chg.refl m)
  ·have hde':decide ((s.e:Int)=0)=false:=Qq (by omega)
   simp (disch:=first|assumption|omega) only[go_sem,seval,hdg,hde']
   exact no _ _ (by simp only[go_sem,seval]) (by simp only[go_sem,seval]) (by simp only[go_sem,seval]) (by rw[dJ,Qo (fun h=>he h.1)]) (Chg.refl m)
 rintro D ⟨t,M,rfl,g1,g2,g3,hdM,hCM⟩
 change wp _ _ _ _ ⟨ai [] t, [],none,M⟩ _
 have hst1:=(kQ (L:=L) d s).lim ha
 have hst2:=(bS L [123] (dJ L d s)).lim hst1
 have hX:fC L S (L.length+1) [] (aZ L [123] (dJ L d s))=((iJ L S d s).1,(iJ L S d s).2):=rfl
 have hdeep:(aZ L [123] (dJ L d s)).e≠0∨d<=29:=by
  rcases Nat.lt_or_ge 29 d with h|h
  ·left
   have hff:∀e (s:Rs),e≠0->(bt e s).e≠0:=fun e s h=>by unfold bt;split;exact h;assumption
   by_cases he:s.e=0
   ·by_cases hk:(aL L s.a).k=3/\(aL L s.a).t= [123]
    ·have e1:dJ L d s=bt 11 s:=by rw[dJ,Qp ⟨he,h,hk.1,hk.2⟩]
     rw[e1]
     intro q
     exact hff 11 s (by omega) ((bS L [123] _).zero q)
    ·have e1:dJ L d s=s:=by rw[dJ,Qo (fun h=>hk ⟨h.2.2.1,h.2.2.2⟩)]
     rw[e1]
     have e2:aX L [123] s=false:=Qq fun q=>hk ⟨q.2.1,q.2.2⟩
     rw[aZ,e2,Qo Bool.false_ne_true]
     exact hff 2 s (by omega)
   ·intro q
    exact he ((kQ (L:=L) d s).zero ((bS L [123] _).zero q))
  ·exact Or.inr h
 generalize (iJ L S d s).1=X at hX hK
 generalize (iJ L S d s).2=Z at hX hK
 simp (disch:=first|assumption|omega) only[go_sem,seval,g1,g2,g3]
 refine WF.use1 (gi hc (hc.chg h0 hCM) hdM [123] (by simp) (by omega)) ?_
 rintro M2 ⟨hd2,hC2⟩
 have hC02:Chg [r] m M2:=hCM.trans hC2 fun _ h _=>h
 simp (disch:=first|assumption|omega) only[go_sem,seval,g1,g2,g3]
 refine AF hc hst hpr hS (fun _ _=>trivial) h0 hd.o hdeep hd2 hst2 hC02 hX (by simp only[go_sem,seval,g1]) (by simp only[go_sem,seval,g2]) (by simp only[go_sem,seval,g3]) ?_
 intro t' M' v C q1 q2 q3 q4
 simp (disch:=first|assumption|omega) only[go_sem,seval,q1]
 exact hK _ _ ⟨⟨C,q3⟩,q2,q4⟩
end
abbrev TB (m:NH) (b1 b2:D4):D4->Prop:=fun i=>¬ak m i/\i≠b1/\i≠b2
structure SC (m:NH) (r b1 b2:D4) (vl:NV) (rest z:List NV) (M:NH) (s:Rs) (c:List NV):Prop where
 hd:RD M r vl s rest
 g2:M.get b2=some (.cells true c)
 o2:ak M b2
 g1:M.get b1=some (.cells true z)
 o1:ak M b1
 hC:Chg [r] m M
section
variable {m0:NH} {L:List Tok} {vl:NV} {r b1 b2:D4} {rest z:List NV} {m M M':NH} {s s':Rs} {c c':List NV} {l:List (AK×NO)} {k:Nat}
theorem SC.call (h:SC m r b1 b2 vl rest z M s c) (h1:b1≠r) (h2:b2≠r) (hC:Chg [r] M M') (hd:RD M' r vl s' rest):SC m r b1 b2 vl rest z M' s' c:=
 ⟨hd,(hC.get h.o2 (by simpa using h2)).trans h.g2,hC.old h.o2,(hC.get h.o1 (by simpa using h1)).trans h.g1,hC.old h.o1,h.hC.trans hC fun _ h _=>h⟩
theorem SC.grow (h:SC m r b1 b2 vl rest z M s c) (hC:Chg [] M M'):SC m r b1 b2 vl rest z M' s c:=
 ⟨h.hd.chg hC (by simp),(hC.get h.o2 (by simp)).trans h.g2,hC.old h.o2,(hC.get h.o1 (by simp)).trans h.g1,hC.old h.o1,h.hC.trans hC (by simp)⟩
theorem SC.put (h:SC m r b1 b2 vl rest z M s c) (h2:b2≠r) (h12:b1≠b2) (hn:¬ak m b2) (hl:∀i∈aB l,i=b2):SC m r b1 b2 vl rest z (hp ((.o b2,.cells true c')::l) k M) s c':=by
 have hC:Chg [b2] M (hp ((.o b2,.cells true c')::l) k M):=(aE rfl).weak fun i hi _=>by
  simp only[aB,Qt] at hi ⊢
  rcases hi with rfl|hi
  ·exact Or.inl rfl
  ·exact Or.inl (hl i hi)
 exact ⟨h.hd.chg hC (by simpa using h2.symm),(aG h.o2).trans ao,hC.old h.o2,(hC.get h.o1 (by simpa using h12)).trans h.g1,hC.old h.o1,h.hC.trans hC fun i hi ho=>by
  have hi:=one hi;subst hi;exact Qn ho hn⟩
theorem SC.place (h:SC m r b1 b2 vl rest z M s c) (h1:b1≠r) (h12:b1≠b2) (hn:¬ak m b2) (hC:Chg [r,b2] M M') (hd:RD M' r vl s' rest) (hg:M'.get b2=some (.cells true c')):SC m r b1 b2 vl rest z M' s' c':=
 ⟨hd,hg,hC.old h.o2,(hC.get h.o1 (by simp;exact ⟨h1,h12⟩)).trans h.g1,hC.old h.o1,h.hC.trans hC fun i hi ho=>by
  simp only[Qt,Qs,or_false] at hi
  rcases hi with rfl|rfl
  ·simp
  ·exact Qn ho hn⟩
theorem dP (hr:ak m r) (hC:Chg [r] M M'):aW (TB m b1 b2) M M':=aW.of hC fun i hi hs=>by
 have hs:=one hs;subst hs;exact hi.1 hr
theorem cU (hl:∀i∈aB l,i=b2):aW (TB m b1 b2) M (hp l k M):=aW.of (aE rfl) fun i hi hs=>hi.2.2 (hl i hs)
theorem SC.tb (h:SC m r b1 b2 vl rest z M s c):∀i,oS M i->TB m b1 b2 i:=fun i hi=>⟨fun q=>hi (h.hC.old q),fun q=>hi (q▸h.o1),fun q=>hi (q▸h.o2)⟩
theorem SS.weak {m:NH} {T T':D4->Prop} (hT':∀i,T i->T' i) {v:NV} {l:List Stm} {C:List (List NV)} (h:SS m T v l C):SS m T' v l C:=⟨h.sl,fun i hi=>hT' i (h.hT i hi),h.len,fun i x c a b=>(h.R i x c a b).weak hT'⟩
theorem sK (m:NH) (T:D4->Prop):SS m T .nils [] []:=⟨Sl.nil,by simp[ids],rfl,by simp⟩
theorem RS.of {m:NH} {T:D4->Prop} {k a:Int} {nm ce:List Nat} {i x y:Ex} {b e:List Stm} {ui ux uy vb ve:NV} (hi:RE m T i (i.l ui)) (hx:RE m T x (x.l ux)) (hy:RE m T y (y.l uy)) {B E:List (List NV)} (hb:SS m T vb b B) (he:SS m T ve e E):
 RS m T (.mk k a nm ce i x y b e) ((Stm.mk k a nm ce i x y b e).l ⟨ui,ux,uy,vb,ve⟩):= .mk hi hx hy hb.sl hb.hT hb.len hb.R he.sl he.hT he.len he.R
theorem ie (m:NH) (T:D4->Prop):RE m T zE (zE.l .nils):=BT m T 0 0 0 []
abbrev dN (k p:Int):List NV:= [ii k,ii p,.str [],.str [],ii 0,u64 0,u8 0,.str [],.nils,ii 0,u64 0,u8 0,.str [],.nils,ii 0,u64 0,u8 0,.str [],.nils,.nils,.nils]
end
section
variable {m0:NH} {L:List Tok} {vl:NV} {r:D4} {rest:List NV}
set_option maxHeartbeats 4000000 in
theorem Jf (hc:RC m0 L vl r) {B:Rs->List Stm×Rs} {d:Nat} (hst:∀s,St L s (B s).2) (hB:Pe m0 L vl r rest B (d+1)) (hd29:d<=29):PH m0 L vl r rest (cJ L B) d:=by
 intro m s h0 hd ha
 refine WF.ex fun K hK=> ?_
 refine WF.of_wpG (fun _=>rfl) sO (L:= [(.a .e,ii d),(.e,.ptr r 0)]) rfl ?_
 unfold EW
 have hll:=hc.len
 refine Pq (fun D=>∃t M b1 b2,D=⟨t, [],none,M⟩/\SC m r b1 b2 vl rest (dN 0 0) M s (dN 0 (aL L s.a).p)/\¬ak m b1/\¬ak m b2/\b1≠b2/\NT.get D4.e t=some (.ptr r 0)/\NT.get D4.e.a t=some (ii d)/\NT.get D4.e.f t=some (.ptr b1 0)/\NT.get D4.e.a.a t=some (.ptr b2 0)/\NT.get D4.e.a.b t=some (.bool true)) (fun R hR=> ?_) ?_
 ·simp (disch:=first|assumption|omega) only[go_sem,seval]
  generalize hM1:hp _ 1 m=M1
  have hC1:Chg [] m M1:=aY hM1 rfl
  have g1:M1.get (na m 0)=some (.cells true (dN 0 0)):=bw hM1
  have o1:ak M1 (na m 0):=bx hM1 (by omega)
  refine WF.use1H (jl hc (h0.trans hC1 (by simp)) (hd.chg hC1 (by simp))) ?_
  intro M2 hC2
  have hl3:(aL L s.a).l[3]? =some (ii (aL L s.a).p):=rfl
  simp (disch:=first|assumption|omega|(simp only[aI]<;>omega)) only[go_sem,seval,hl3]
  generalize hM3:hp _ 1 M2=M3
  have hC3:Chg [] M2 M3:=aY hM3 rfl
  have hC02:=hC1.trans hC2 (by simp)
  have hC03:=hC02.trans hC3 (by simp)
  have o12:=hC2.old o1
  refine hR _ ⟨_,M3,na m 0,na M2 0,rfl,⟨hd.chg hC03 (by simp), ?_, ?_,(hC3.get o12 (by simp)).trans ((hC2.get o1 (by simp)).trans g1),hC3.old o12,hC03.weak (by simp)⟩,az,fun h=>az (hC02.old h),fun e=>o12.ne 0 e,by simp only[go_sem,seval],by simp only[go_sem,seval],by simp only[go_sem,seval],by simp only[go_sem,seval],by simp only[go_sem,seval]⟩
  ·rw[←hM3];exact bo
  ·rw[←hM3];exact bv (by omega)
 rintro D ⟨t,M,b1,b2,rfl,hs,hn1,hn2,h12,g1,g2,g3,g4,g5⟩
 change wp _ _ _ _ ⟨ai [] t, [],none,M⟩ _
 have hr1:b1≠r:=fun e=>hn1 (e▸hd.o)
 have hr2:b2≠r:=fun e=>hn2 (e▸hd.o)
 have hr2':r≠b2:=fun e=>hr2 e.symm
 have hnb2:¬ak m0 b2:=fun h=>hn2 (h0.old h)
 have hro:=hd.o
 refine gG (fun D=>∃t M x w s' q,D=⟨t, [],none,M⟩/\SC m r b1 b2 vl rest (dN 0 0) M s' (x.l w)/\RS M (TB m b1 b2) x (x.l w)/\(x,if q then aZ L [59] s' else s')=cJ L B s/\s'.a<=L.length/\NT.get D4.e t=some (.ptr r 0)/\NT.get D4.e.f t=some (.ptr b1 0)/\NT.get D4.e.a.a t=some (.ptr b2 0)/\NT.get D4.e.a.b t=some (.bool q)) (fun R hR=> ?_) ?_
 ·have hbase:∀{M:NH} {s:Rs} {c:List NV},SC m r b1 b2 vl rest (dN 0 0) M s c->Chg [] m0 M:=fun h=>hc.chg h0 h.hC
  have hput:∀{M:NH} {s:Rs} {c c':List NV} {l:List (AK×NO)} {k:Nat},SC m r b1 b2 vl rest (dN 0 0) M s c->(∀i∈aB l,i=b2)->SC m r b1 b2 vl rest (dN 0 0) (hp ((.o b2,.cells true c')::l) k M) s c':=fun h hl=>h.put hr2 h12 hn2 hl
  generalize hpp:((aL L s.a).p:Int)=p at hs
  have fin:∀{t:Tm} {M:NH} {x:Stm} {w:SV} {s':Rs} {q:Bool},SC m r b1 b2 vl rest (dN 0 0) M s' (x.l w)->RS M (TB m b1 b2) x (x.l w)->(x,if q then aZ L [59] s' else s')=cJ L B s->s'.a<=L.length->NT.get D4.e t=some (.ptr r 0)->NT.get D4.e.f t=some (.ptr b1 0)->NT.get D4.e.a.a t=some (.ptr b2 0)->NT.get D4.e.a.b t=some (.bool q)->R ⟨t, [],none,M⟩:=fun h1 h2 h3 h4 h5 h6 h7 h8=>hR _ ⟨_,_,_,_,_,_,rfl,h1,h2,h3,h4,h5,h6,h7,h8⟩
  rw[ri]
  simp (disch:=first|assumption|omega) only[go_sem,seval,g1,g2,g3,g4,g5,aa]
  refine WF.use1H (dl hc (hbase hs) hs.hd [115,101,116] (by simp) (by omega)) ?_
  rintro M0 ⟨hd0,hC0⟩
  cases hb0:aX L [115,101,116] s with
  |true=>
   obtain ⟨he,hlt⟩:=bH hb0
   have hlim:(aj s).a<=L.length:=hlt
   rw[hb0,Qp rfl] at hd0
   replace hs:=hs.call hr1 hr2 hC0 hd0
   have hg2:=hs.g2
   have ho2:=hs.o2
   simp (disch:=first|assumption|omega) only[go_sem,seval,g1,g2,g3,g4,g5,hg2,aa]
   refine WF.use1H (lH hc (hbase hs) hs.hd (by omega)) ?_
   rintro N0_1 ⟨hd,hC⟩
   replace hs:=hs.call hr1 hr2 hC hd
   replace hlim:=(cE L _).lim hlim
   generalize hqs0_2:(ba L (aj s)).2=s0_2 at hs hlim
   generalize hqn0_3:(ba L (aj s)).1=n0_3
   have hg2:=hs.g2
   have ho2:=hs.o2
   simp (disch:=first|assumption|omega|(simp only[aI]<;>omega)) only[go_sem,seval,g1,g2,g3,g4,g5,hg2]
   generalize hMg:hp _ 0 _=M0_4
   have hs':SC m r b1 b2 vl rest (dN 0 0) M0_4 s0_2 [ii 0,ii p,.str n0_3,.str [],ii 0,u64 0,u8 0,.str [],.nils,ii 0,u64 0,u8 0,.str [],.nils,ii 0,u64 0,u8 0,.str [],.nils,.nils,.nils]:=by rw[←hMg];exact hput hs (by simp[aB])
   clear hMg
   replace hs:=hs'
   refine WF.useH (H2 hc (hbase hs) hs.hd hlim) ?_
   rintro v N0_5 ⟨⟨u0_6,rfl,hx⟩,hd,hC⟩
   have tX:=hx.weak hs.tb
   replace hs:=hs.call hr1 hr2 hC hd
   replace hlim:(eq L s0_2).2.a<=L.length:=(cu L 30 _).lim hlim
   generalize hqs0_8:(eq L s0_2).2=s0_8 at hs hlim
   generalize hqx0_7:(eq L s0_2).1=x0_7 at tX
   clear hx hd
   have hxl:(x0_7.l u0_6).length=5:=rfl
   have hg2:=hs.g2
   have ho2:=hs.o2
   simp (disch:=first|assumption|omega|(simp only[aI]<;>omega)) only[go_sem,seval,g1,g2,g3,g4,g5,hg2]
   generalize hMg:hp _ 0 _=M0_9
   have hs':SC m r b1 b2 vl rest (dN 0 0) M0_9 s0_8 [ii 0,ii p,.str n0_3,.str [],ii 0,u64 0,u8 0,.str [],.nils,ii x0_7.k,u64 x0_7.n,u8 x0_7.o,.str x0_7.s,u0_6,ii 0,u64 0,u8 0,.str [],.nils,.nils,.nils]:=by rw[←hMg];exact hput hs (by simp[aB])
   replace tX:=tX.stays (m':=M0_9) (by rw[←hMg];exact cU (by simp[aB]))
   clear hMg
   replace hs:=hs'
   refine fin (x:= .mk 0 p n0_3 [] zE x0_7 zE [] []) (w:=⟨.nils,u0_6,.nils,.nils,.nils⟩) (s':=s0_8) (q:=true) hs (RS.of (ie _ _) tX (ie _ _) (sK _ _) (sK _ _)) ?_ hlim (by simp only[go_sem,seval,g1]) (by simp only[go_sem,seval,g3]) (by simp only[go_sem,seval,g4]) (by simp only[go_sem,seval,g5])
   rw[cJ,Qp hb0,hpp]
   subst hqx0_7 hqs0_8 hqn0_3 hqs0_2
   rfl
  |false=>
  have ne0:¬(aX L [115,101,116] s=true):=by rw[hb0];exact Bool.false_ne_true
  rw[hb0,Qo Bool.false_ne_true] at hd0
  replace hs:=hs.call hr1 hr2 hC0 hd0
  simp (disch:=first|assumption|omega) only[go_sem,seval,g1,g2,g3,g4,g5,aa]
  refine WF.use1H (dl hc (hbase hs) hs.hd [108,111,97,100] (by simp) (by omega)) ?_
  rintro M1 ⟨hd1,hC1⟩
  cases hb1:aX L [108,111,97,100] s with
  |true=>
   obtain ⟨he,hlt⟩:=bH hb1
   have hlim:(aj s).a<=L.length:=hlt
   rw[hb1,Qp rfl] at hd1
   replace hs:=hs.call hr1 hr2 hC1 hd1
   have hg2:=hs.g2
   have ho2:=hs.o2
   simp (disch:=first|assumption|omega|(simp only[aI]<;>omega)) only[go_sem,seval,g1,g2,g3,g4,g5,hg2]
   generalize hMg:hp _ 0 _=M1_1
   have hs':SC m r b1 b2 vl rest (dN 0 0) M1_1 (aj s) [ii 1,ii p,.str [],.str [],ii 0,u64 0,u8 0,.str [],.nils,ii 0,u64 0,u8 0,.str [],.nils,ii 0,u64 0,u8 0,.str [],.nils,.nils,.nils]:=by rw[←hMg];exact hput hs (by simp[aB])
   clear hMg
   replace hs:=hs'
   refine WF.use1H (lH hc (hbase hs) hs.hd (by omega)) ?_
   rintro N1_2 ⟨hd,hC⟩
   replace hs:=hs.call hr1 hr2 hC hd
   replace hlim:=(cE L _).lim hlim
   generalize hqs1_3:(ba L (aj s)).2=s1_3 at hs hlim
   generalize hqn1_4:(ba L (aj s)).1=n1_4
   have hg2:=hs.g2
   have ho2:=hs.o2
   simp (disch:=first|assumption|omega|(simp only[aI]<;>omega)) only[go_sem,seval,g1,g2,g3,g4,g5,hg2]
   generalize hMg:hp _ 0 _=M1_5
   have hs':SC m r b1 b2 vl rest (dN 0 0) M1_5 s1_3 [ii 1,ii p,.str n1_4,.str [],ii 0,u64 0,u8 0,.str [],.nils,ii 0,u64 0,u8 0,.str [],.nils,ii 0,u64 0,u8 0,.str [],.nils,.nils,.nils]:=by rw[←hMg];exact hput hs (by simp[aB])
   clear hMg
   replace hs:=hs'
   refine WF.use1 (qF hc (hbase hs) hs.hd hlim hr2 hs.o2 hnb2 (by rfl) hs.g2) ?_
   rintro N1_6 ⟨u1_7,hg,hx,hd,hC⟩
   have tI:=hx.weak hs.tb
   replace hs:=hs.place hr1 h12 hn2 hC hd hg
   replace hlim:=(eN (L:=L) s1_3).lim hlim
   generalize hqs1_9:(bm L s1_3).2.2=s1_9 at hs hlim
   generalize hqx1_8:(bm L s1_3).2.1=x1_8 at hs tI
   generalize hqn1_10:(bm L s1_3).1=n1_10 at hs
   clear hx hd hg
   have hg2:=hs.g2
   have ho2:=hs.o2
   simp (disch:=first|assumption|omega) only[go_sem,seval,g1,g2,g3,g4,g5,hg2,aa]
   refine fin (x:= .mk 1 p n1_4 n1_10 x1_8 zE zE [] []) (w:=⟨u1_7,.nils,.nils,.nils,.nils⟩) (s':=s1_9) (q:=true) hs (RS.of tI (ie _ _) (ie _ _) (sK _ _) (sK _ _)) ?_ hlim (by simp only[go_sem,seval,g1]) (by simp only[go_sem,seval,g3]) (by simp only[go_sem,seval,g4]) (by simp only[go_sem,seval,g5])
   rw[cJ,Qo ne0,Qp hb1,hpp]
   subst hqn1_10 hqx1_8 hqs1_9 hqn1_4 hqs1_3
   rfl
  |false=>
  have ne1:¬(aX L [108,111,97,100] s=true):=by rw[hb1];exact Bool.false_ne_true
  rw[hb1,Qo Bool.false_ne_true] at hd1
  replace hs:=hs.call hr1 hr2 hC1 hd1
  simp (disch:=first|assumption|omega) only[go_sem,seval,g1,g2,g3,g4,g5,aa]
  refine WF.use1H (dl hc (hbase hs) hs.hd [115,116,111,114,101] (by simp) (by omega)) ?_
  rintro M2 ⟨hd2,hC2⟩
  cases hb2:aX L [115,116,111,114,101] s with
  |true=>
   obtain ⟨he,hlt⟩:=bH hb2
   have hlim:(aj s).a<=L.length:=hlt
   rw[hb2,Qp rfl] at hd2
   replace hs:=hs.call hr1 hr2 hC2 hd2
   have hg2:=hs.g2
   have ho2:=hs.o2
   simp (disch:=first|assumption|omega|(simp only[aI]<;>omega)) only[go_sem,seval,g1,g2,g3,g4,g5,hg2]
   generalize hMg:hp _ 0 _=M2_1
   have hs':SC m r b1 b2 vl rest (dN 0 0) M2_1 (aj s) [ii 2,ii p,.str [],.str [],ii 0,u64 0,u8 0,.str [],.nils,ii 0,u64 0,u8 0,.str [],.nils,ii 0,u64 0,u8 0,.str [],.nils,.nils,.nils]:=by rw[←hMg];exact hput hs (by simp[aB])
   clear hMg
   replace hs:=hs'
   refine WF.use1 (qF hc (hbase hs) hs.hd hlim hr2 hs.o2 hnb2 (by rfl) hs.g2) ?_
   rintro N2_2 ⟨u2_3,hg,hx,hd,hC⟩
   have tI:=hx.weak hs.tb
   replace hs:=hs.place hr1 h12 hn2 hC hd hg
   replace hlim:=(eN (L:=L) (aj s)).lim hlim
   generalize hqs2_5:(bm L (aj s)).2.2=s2_5 at hs hlim
   generalize hqx2_4:(bm L (aj s)).2.1=x2_4 at hs tI
   generalize hqn2_6:(bm L (aj s)).1=n2_6 at hs
   clear hx hd hg
   have hg2:=hs.g2
   have ho2:=hs.o2
   simp (disch:=first|assumption|omega) only[go_sem,seval,g1,g2,g3,g4,g5,hg2,aa]
   refine WF.useH (H2 hc (hbase hs) hs.hd hlim) ?_
   rintro v N2_7 ⟨⟨u2_8,rfl,hx⟩,hd,hC⟩
   have tX:=hx.weak hs.tb
   replace hs:=hs.call hr1 hr2 hC hd
   replace tI:=tI.stays (dP hro hC)
   replace hlim:(eq L s2_5).2.a<=L.length:=(cu L 30 _).lim hlim
   generalize hqs2_10:(eq L s2_5).2=s2_10 at hs hlim
   generalize hqx2_9:(eq L s2_5).1=x2_9 at tX
   clear hx hd
   have hxl:(x2_9.l u2_8).length=5:=rfl
   have hg2:=hs.g2
   have ho2:=hs.o2
   simp (disch:=first|assumption|omega|(simp only[aI]<;>omega)) only[go_sem,seval,g1,g2,g3,g4,g5,hg2]
   generalize hMg:hp _ 0 _=M2_11
   have hs':SC m r b1 b2 vl rest (dN 0 0) M2_11 s2_10 [ii 2,ii p,.str [],.str n2_6,ii x2_4.k,u64 x2_4.n,u8 x2_4.o,.str x2_4.s,u2_3,ii x2_9.k,u64 x2_9.n,u8 x2_9.o,.str x2_9.s,u2_8,ii 0,u64 0,u8 0,.str [],.nils,.nils,.nils]:=by rw[←hMg];exact hput hs (by simp[aB])
   replace tI:=tI.stays (m':=M2_11) (by rw[←hMg];exact cU (by simp[aB]))
   replace tX:=tX.stays (m':=M2_11) (by rw[←hMg];exact cU (by simp[aB]))
   clear hMg
   replace hs:=hs'
   refine fin (x:= .mk 2 p [] n2_6 x2_4 x2_9 zE [] []) (w:=⟨u2_3,u2_8,.nils,.nils,.nils⟩) (s':=s2_10) (q:=true) hs (RS.of tI tX (ie _ _) (sK _ _) (sK _ _)) ?_ hlim (by simp only[go_sem,seval,g1]) (by simp only[go_sem,seval,g3]) (by simp only[go_sem,seval,g4]) (by simp only[go_sem,seval,g5])
   rw[cJ,Qo ne0,Qo ne1,Qp hb2,hpp]
   subst hqx2_9 hqs2_10 hqn2_6 hqx2_4 hqs2_5
   rfl
  |false=>
  have ne2:¬(aX L [115,116,111,114,101] s=true):=by rw[hb2];exact Bool.false_ne_true
  rw[hb2,Qo Bool.false_ne_true] at hd2
  replace hs:=hs.call hr1 hr2 hC2 hd2
  simp (disch:=first|assumption|omega) only[go_sem,seval,g1,g2,g3,g4,g5,aa]
  refine WF.use1H (dl hc (hbase hs) hs.hd [99,97,115] (by simp) (by omega)) ?_
  rintro M3 ⟨hd3,hC3⟩
  cases hb3:aX L [99,97,115] s with
  |true=>
   obtain ⟨he,hlt⟩:=bH hb3
   have hlim:(aj s).a<=L.length:=hlt
   rw[hb3,Qp rfl] at hd3
   replace hs:=hs.call hr1 hr2 hC3 hd3
   have hg2:=hs.g2
   have ho2:=hs.o2
   simp (disch:=first|assumption|omega|(simp only[aI]<;>omega)) only[go_sem,seval,g1,g2,g3,g4,g5,hg2]
   generalize hMg:hp _ 0 _=M3_1
   have hs':SC m r b1 b2 vl rest (dN 0 0) M3_1 (aj s) [ii 3,ii p,.str [],.str [],ii 0,u64 0,u8 0,.str [],.nils,ii 0,u64 0,u8 0,.str [],.nils,ii 0,u64 0,u8 0,.str [],.nils,.nils,.nils]:=by rw[←hMg];exact hput hs (by simp[aB])
   clear hMg
   replace hs:=hs'
   refine WF.use1H (lH hc (hbase hs) hs.hd (by omega)) ?_
   rintro N3_2 ⟨hd,hC⟩
   replace hs:=hs.call hr1 hr2 hC hd
   replace hlim:=(cE L _).lim hlim
   generalize hqs3_3:(ba L (aj s)).2=s3_3 at hs hlim
   generalize hqn3_4:(ba L (aj s)).1=n3_4
   have hg2:=hs.g2
   have ho2:=hs.o2
   simp (disch:=first|assumption|omega|(simp only[aI]<;>omega)) only[go_sem,seval,g1,g2,g3,g4,g5,hg2]
   generalize hMg:hp _ 0 _=M3_5
   have hs':SC m r b1 b2 vl rest (dN 0 0) M3_5 s3_3 [ii 3,ii p,.str n3_4,.str [],ii 0,u64 0,u8 0,.str [],.nils,ii 0,u64 0,u8 0,.str [],.nils,ii 0,u64 0,u8 0,.str [],.nils,.nils,.nils]:=by rw[←hMg];exact hput hs (by simp[aB])
   clear hMg
   replace hs:=hs'
   refine WF.use1 (qF hc (hbase hs) hs.hd hlim hr2 hs.o2 hnb2 (by rfl) hs.g2) ?_
   rintro N3_6 ⟨u3_7,hg,hx,hd,hC⟩
   have tI:=hx.weak hs.tb
   replace hs:=hs.place hr1 h12 hn2 hC hd hg
   replace hlim:=(eN (L:=L) s3_3).lim hlim
   generalize hqs3_9:(bm L s3_3).2.2=s3_9 at hs hlim
   generalize hqx3_8:(bm L s3_3).2.1=x3_8 at hs tI
   generalize hqn3_10:(bm L s3_3).1=n3_10 at hs
   clear hx hd hg
   have hg2:=hs.g2
   have ho2:=hs.o2
   simp (disch:=first|assumption|omega) only[go_sem,seval,g1,g2,g3,g4,g5,hg2,aa]
   refine WF.useH (H2 hc (hbase hs) hs.hd hlim) ?_
   rintro v N3_11 ⟨⟨u3_12,rfl,hx⟩,hd,hC⟩
   have tX:=hx.weak hs.tb
   replace hs:=hs.call hr1 hr2 hC hd
   replace tI:=tI.stays (dP hro hC)
   replace hlim:(eq L s3_9).2.a<=L.length:=(cu L 30 _).lim hlim
   generalize hqs3_14:(eq L s3_9).2=s3_14 at hs hlim
   generalize hqx3_13:(eq L s3_9).1=x3_13 at tX
   clear hx hd
   have hxl:(x3_13.l u3_12).length=5:=rfl
   have hg2:=hs.g2
   have ho2:=hs.o2
   simp (disch:=first|assumption|omega|(simp only[aI]<;>omega)) only[go_sem,seval,g1,g2,g3,g4,g5,hg2]
   generalize hMg:hp _ 0 _=M3_15
   have hs':SC m r b1 b2 vl rest (dN 0 0) M3_15 s3_14 [ii 3,ii p,.str n3_4,.str n3_10,ii x3_8.k,u64 x3_8.n,u8 x3_8.o,.str x3_8.s,u3_7,ii x3_13.k,u64 x3_13.n,u8 x3_13.o,.str x3_13.s,u3_12,ii 0,u64 0,u8 0,.str [],.nils,.nils,.nils]:=by rw[←hMg];exact hput hs (by simp[aB])
   replace tI:=tI.stays (m':=M3_15) (by rw[←hMg];exact cU (by simp[aB]))
   replace tX:=tX.stays (m':=M3_15) (by rw[←hMg];exact cU (by simp[aB]))
   clear hMg
   replace hs:=hs'
   refine WF.useH (H2 hc (hbase hs) hs.hd hlim) ?_
   rintro v N3_16 ⟨⟨u3_17,rfl,hx⟩,hd,hC⟩
   have tY:=hx.weak hs.tb
   replace hs:=hs.call hr1 hr2 hC hd
   replace tI:=tI.stays (dP hro hC)
   replace tX:=tX.stays (dP hro hC)
   replace hlim:(eq L s3_14).2.a<=L.length:=(cu L 30 _).lim hlim
   generalize hqs3_19:(eq L s3_14).2=s3_19 at hs hlim
   generalize hqx3_18:(eq L s3_14).1=x3_18 at tY
   clear hx hd
   have hxl:(x3_18.l u3_17).length=5:=rfl
   have hg2:=hs.g2
   have ho2:=hs.o2
   simp (disch:=first|assumption|omega|(simp only[aI]<;>omega)) only[go_sem,seval,g1,g2,g3,g4,g5,hg2]
   generalize hMg:hp _ 0 _=M3_20
   have hs':SC m r b1 b2 vl rest (dN 0 0) M3_20 s3_19 [ii 3,ii p,.str n3_4,.str n3_10,ii x3_8.k,u64 x3_8.n,u8 x3_8.o,.str x3_8.s,u3_7,ii x3_13.k,u64 x3_13.n,u8 x3_13.o,.str x3_13.s,u3_12,ii x3_18.k,u64 x3_18.n,u8 x3_18.o,.str x3_18.s,u3_17,.nils,.nils]:=by rw[←hMg];exact hput hs (by simp[aB])
   replace tI:=tI.stays (m':=M3_20) (by rw[←hMg];exact cU (by simp[aB]))
   replace tX:=tX.stays (m':=M3_20) (by rw[←hMg];exact cU (by simp[aB]))
   replace tY:=tY.stays (m':=M3_20) (by rw[←hMg];exact cU (by simp[aB]))
   clear hMg
   replace hs:=hs'
   refine fin (x:= .mk 3 p n3_4 n3_10 x3_8 x3_13 x3_18 [] []) (w:=⟨u3_7,u3_12,u3_17,.nils,.nils⟩) (s':=s3_19) (q:=true) hs (RS.of tI tX tY (sK _ _) (sK _ _)) ?_ hlim (by simp only[go_sem,seval,g1]) (by simp only[go_sem,seval,g3]) (by simp only[go_sem,seval,g4]) (by simp only[go_sem,seval,g5])
   rw[cJ,Qo ne0,Qo ne1,Qo ne2,Qp hb3,hpp]
   subst hqx3_18 hqs3_19 hqx3_13 hqs3_14 hqn3_10 hqx3_8 hqs3_9 hqn3_4 hqs3_3
   rfl
  |false=>
  have ne3:¬(aX L [99,97,115] s=true):=by rw[hb3];exact Bool.false_ne_true
  rw[hb3,Qo Bool.false_ne_true] at hd3
  replace hs:=hs.call hr1 hr2 hC3 hd3
  simp (disch:=first|assumption|omega) only[go_sem,seval,g1,g2,g3,g4,g5,aa]
  refine WF.use1H (dl hc (hbase hs) hs.hd [102,101,110,99,101] (by simp) (by omega)) ?_
  rintro M4 ⟨hd4,hC4⟩
  cases hb4:aX L [102,101,110,99,101] s with
  |true=>
   obtain ⟨he,hlt⟩:=bH hb4
   have hlim:(aj s).a<=L.length:=hlt
   rw[hb4,Qp rfl] at hd4
   replace hs:=hs.call hr1 hr2 hC4 hd4
   have hg2:=hs.g2
   have ho2:=hs.o2
   simp (disch:=first|assumption|omega|(simp only[aI]<;>omega)) only[go_sem,seval,g1,g2,g3,g4,g5,hg2]
   generalize hMg:hp _ 0 _=M4_1
   have hs':SC m r b1 b2 vl rest (dN 0 0) M4_1 (aj s) [ii 4,ii p,.str [],.str [],ii 0,u64 0,u8 0,.str [],.nils,ii 0,u64 0,u8 0,.str [],.nils,ii 0,u64 0,u8 0,.str [],.nils,.nils,.nils]:=by rw[←hMg];exact hput hs (by simp[aB])
   clear hMg
   replace hs:=hs'
   refine fin (x:= .mk 4 p [] [] zE zE zE [] []) (w:=⟨.nils,.nils,.nils,.nils,.nils⟩) (s':=(aj s)) (q:=true) hs (RS.of (ie _ _) (ie _ _) (ie _ _) (sK _ _) (sK _ _)) ?_ hlim (by simp only[go_sem,seval,g1]) (by simp only[go_sem,seval,g3]) (by simp only[go_sem,seval,g4]) (by simp only[go_sem,seval,g5])
   rw[cJ,Qo ne0,Qo ne1,Qo ne2,Qo ne3,Qp hb4,hpp]
   rfl
  |false=>
  have ne4:¬(aX L [102,101,110,99,101] s=true):=by rw[hb4];exact Bool.false_ne_true
  rw[hb4,Qo Bool.false_ne_true] at hd4
  replace hs:=hs.call hr1 hr2 hC4 hd4
  simp (disch:=first|assumption|omega) only[go_sem,seval,g1,g2,g3,g4,g5,aa]
  refine WF.use1H (dl hc (hbase hs) hs.hd [111,117,116] (by simp) (by omega)) ?_
  rintro M5 ⟨hd5,hC5⟩
  cases hb5:aX L [111,117,116] s with
  |true=>
   obtain ⟨he,hlt⟩:=bH hb5
   have hlim:(aj s).a<=L.length:=hlt
   rw[hb5,Qp rfl] at hd5
   replace hs:=hs.call hr1 hr2 hC5 hd5
   have hg2:=hs.g2
   have ho2:=hs.o2
   simp (disch:=first|assumption|omega|(simp only[aI]<;>omega)) only[go_sem,seval,g1,g2,g3,g4,g5,hg2]
   generalize hMg:hp _ 0 _=M5_1
   have hs':SC m r b1 b2 vl rest (dN 0 0) M5_1 (aj s) [ii 5,ii p,.str [],.str [],ii 0,u64 0,u8 0,.str [],.nils,ii 0,u64 0,u8 0,.str [],.nils,ii 0,u64 0,u8 0,.str [],.nils,.nils,.nils]:=by rw[←hMg];exact hput hs (by simp[aB])
   clear hMg
   replace hs:=hs'
   refine WF.useH (H2 hc (hbase hs) hs.hd hlim) ?_
   rintro v N5_2 ⟨⟨u5_3,rfl,hx⟩,hd,hC⟩
   have tX:=hx.weak hs.tb
   replace hs:=hs.call hr1 hr2 hC hd
   replace hlim:(eq L (aj s)).2.a<=L.length:=(cu L 30 _).lim hlim
   generalize hqs5_5:(eq L (aj s)).2=s5_5 at hs hlim
   generalize hqx5_4:(eq L (aj s)).1=x5_4 at tX
   clear hx hd
   have hxl:(x5_4.l u5_3).length=5:=rfl
   have hg2:=hs.g2
   have ho2:=hs.o2
   simp (disch:=first|assumption|omega|(simp only[aI]<;>omega)) only[go_sem,seval,g1,g2,g3,g4,g5,hg2]
   generalize hMg:hp _ 0 _=M5_6
   have hs':SC m r b1 b2 vl rest (dN 0 0) M5_6 s5_5 [ii 5,ii p,.str [],.str [],ii 0,u64 0,u8 0,.str [],.nils,ii x5_4.k,u64 x5_4.n,u8 x5_4.o,.str x5_4.s,u5_3,ii 0,u64 0,u8 0,.str [],.nils,.nils,.nils]:=by rw[←hMg];exact hput hs (by simp[aB])
   replace tX:=tX.stays (m':=M5_6) (by rw[←hMg];exact cU (by simp[aB]))
   clear hMg
   replace hs:=hs'
   refine fin (x:= .mk 5 p [] [] zE x5_4 zE [] []) (w:=⟨.nils,u5_3,.nils,.nils,.nils⟩) (s':=s5_5) (q:=true) hs (RS.of (ie _ _) tX (ie _ _) (sK _ _) (sK _ _)) ?_ hlim (by simp only[go_sem,seval,g1]) (by simp only[go_sem,seval,g3]) (by simp only[go_sem,seval,g4]) (by simp only[go_sem,seval,g5])
   rw[cJ,Qo ne0,Qo ne1,Qo ne2,Qo ne3,Qo ne4,Qp hb5,hpp]
   subst hqx5_4 hqs5_5
   rfl
  |false=>
  have ne5:¬(aX L [111,117,116] s=true):=by rw[hb5];exact Bool.false_ne_true
  rw[hb5,Qo Bool.false_ne_true] at hd5
  replace hs:=hs.call hr1 hr2 hC5 hd5
  simp (disch:=first|assumption|omega) only[go_sem,seval,g1,g2,g3,g4,g5,aa]
  refine WF.use1H (dl hc (hbase hs) hs.hd [105,102] (by simp) (by omega)) ?_
  rintro M6 ⟨hd6,hC6⟩
  cases hb6:aX L [105,102] s with
  |true=>
   obtain ⟨he,hlt⟩:=bH hb6
   have hlim:(aj s).a<=L.length:=hlt
   rw[hb6,Qp rfl] at hd6
   replace hs:=hs.call hr1 hr2 hC6 hd6
   have hg2:=hs.g2
   have ho2:=hs.o2
   simp (disch:=first|assumption|omega|(simp only[aI]<;>omega)) only[go_sem,seval,g1,g2,g3,g4,g5,hg2]
   generalize hMg:hp _ 0 _=M6_1
   have hs':SC m r b1 b2 vl rest (dN 0 0) M6_1 (aj s) [ii 6,ii p,.str [],.str [],ii 0,u64 0,u8 0,.str [],.nils,ii 0,u64 0,u8 0,.str [],.nils,ii 0,u64 0,u8 0,.str [],.nils,.nils,.nils]:=by rw[←hMg];exact hput hs (by simp[aB])
   clear hMg
   replace hs:=hs'
   refine WF.useH (H2 hc (hbase hs) hs.hd hlim) ?_
   rintro v N6_2 ⟨⟨u6_3,rfl,hx⟩,hd,hC⟩
   have tX:=hx.weak hs.tb
   replace hs:=hs.call hr1 hr2 hC hd
   replace hlim:(eq L (aj s)).2.a<=L.length:=(cu L 30 _).lim hlim
   generalize hqs6_5:(eq L (aj s)).2=s6_5 at hs hlim
   generalize hqx6_4:(eq L (aj s)).1=x6_4 at tX
   clear hx hd
   have hxl:(x6_4.l u6_3).length=5:=rfl
   have hg2:=hs.g2
   have ho2:=hs.o2
   simp (disch:=first|assumption|omega|(simp only[aI]<;>omega)) only[go_sem,seval,g1,g2,g3,g4,g5,hg2]
   generalize hMg:hp _ 0 _=M6_6
   have hs':SC m r b1 b2 vl rest (dN 0 0) M6_6 s6_5 [ii 6,ii p,.str [],.str [],ii 0,u64 0,u8 0,.str [],.nils,ii x6_4.k,u64 x6_4.n,u8 x6_4.o,.str x6_4.s,u6_3,ii 0,u64 0,u8 0,.str [],.nils,.nils,.nils]:=by rw[←hMg];exact hput hs (by simp[aB])
   replace tX:=tX.stays (m':=M6_6) (by rw[←hMg];exact cU (by simp[aB]))
   clear hMg
   replace hs:=hs'
   refine WF.useH (hB (hbase hs) hs.hd hlim) ?_
   rintro v6_8 N6_7 ⟨⟨C6_9,hx⟩,hd,hC⟩
   have tB:=hx.weak hs.tb
   replace hs:=hs.call hr1 hr2 hC hd
   replace tX:=tX.stays (dP hro hC)
   replace hlim:=(hst s6_5).lim hlim
   generalize hqs6_11:(B s6_5).2=s6_11 at hs hlim
   generalize hql6_10:(B s6_5).1=l6_10 at tB
   clear hx hd
   have hg2:=hs.g2
   have ho2:=hs.o2
   simp (disch:=first|assumption|omega|(simp only[aI]<;>omega)) only[go_sem,seval,g1,g2,g3,g4,g5,hg2,tB.sl.one]
   generalize hMg:hp _ 0 _=M6_12
   have hs':SC m r b1 b2 vl rest (dN 0 0) M6_12 s6_11 [ii 6,ii p,.str [],.str [],ii 0,u64 0,u8 0,.str [],.nils,ii x6_4.k,u64 x6_4.n,u8 x6_4.o,.str x6_4.s,u6_3,ii 0,u64 0,u8 0,.str [],.nils,v6_8,.nils]:=by rw[←hMg];exact hput hs (by simp[aB])
   replace tX:=tX.stays (m':=M6_12) (by rw[←hMg];exact cU (by simp[aB]))
   replace tB:=tB.stays (m':=M6_12) (by rw[←hMg];exact cU (by simp[aB]))
   clear hMg
   replace hs:=hs'
   refine WF.use1H (dl hc (hbase hs) hs.hd [101,108,115,101] (by simp) (by omega)) ?_
   rintro Me ⟨hde,hCe⟩
   replace hs':=hs.call hr1 hr2 hCe hde
   replace tX:=tX.stays (dP hro hCe)
   replace tB:=tB.stays (dP hro hCe)
   cases hbe:aX L [101,108,115,101] s6_11 with
   |true=>
    rw[hbe,Qp rfl] at hs'
    replace hs:=hs'
    have hlim:(aj s6_11).a<=L.length:=(bH hbe).2
    have hg2:=hs.g2
    have ho2:=hs.o2
    simp (disch:=first|assumption|omega) only[go_sem,seval,g1,g2,g3,g4,g5,hg2,tB.sl.one,aa]
    refine WF.useH (hB (hbase hs) hs.hd hlim) ?_
    rintro v6t_14 N6t_13 ⟨⟨C6t_15,hx⟩,hd,hC⟩
    have tE:=hx.weak hs.tb
    replace hs:=hs.call hr1 hr2 hC hd
    replace tX:=tX.stays (dP hro hC)
    replace tB:=tB.stays (dP hro hC)
    replace hlim:=(hst (aj s6_11)).lim hlim
    generalize hqs6t_17:(B (aj s6_11)).2=s6t_17 at hs hlim
    generalize hql6t_16:(B (aj s6_11)).1=l6t_16 at tE
    clear hx hd
    have hg2:=hs.g2
    have ho2:=hs.o2
    simp (disch:=first|assumption|omega|(simp only[aI]<;>omega)) only[go_sem,seval,g1,g2,g3,g4,g5,hg2,tB.sl.one,tE.sl.one]
    generalize hMg:hp _ 0 _=M6t_18
    have hs':SC m r b1 b2 vl rest (dN 0 0) M6t_18 s6t_17 [ii 6,ii p,.str [],.str [],ii 0,u64 0,u8 0,.str [],.nils,ii x6_4.k,u64 x6_4.n,u8 x6_4.o,.str x6_4.s,u6_3,ii 0,u64 0,u8 0,.str [],.nils,v6_8,v6t_14]:=by rw[←hMg];exact hput hs (by simp[aB])
    replace tX:=tX.stays (m':=M6t_18) (by rw[←hMg];exact cU (by simp[aB]))
    replace tB:=tB.stays (m':=M6t_18) (by rw[←hMg];exact cU (by simp[aB]))
    replace tE:=tE.stays (m':=M6t_18) (by rw[←hMg];exact cU (by simp[aB]))
    clear hMg
    replace hs:=hs'
    refine fin (x:= .mk 6 p [] [] zE x6_4 zE l6_10 l6t_16) (w:=⟨.nils,u6_3,.nils,v6_8,v6t_14⟩) (s':=s6t_17) (q:=false) hs (RS.of (ie _ _) tX (ie _ _) tB tE) ?_ hlim (by simp only[go_sem,seval,g1]) (by simp only[go_sem,seval,g3]) (by simp only[go_sem,seval,g4]) (by simp only[go_sem,seval,g5])
    rw[cJ,Qo ne0,Qo ne1,Qo ne2,Qo ne3,Qo ne4,Qo ne5,Qp hb6,hpp]
    subst hql6t_16 hqs6t_17 hql6_10 hqs6_11 hqx6_4 hqs6_5
    rw[I9,Qp hbe];rfl
   |false=>
    rw[hbe,Qo Bool.false_ne_true] at hs'
    replace hs:=hs'
    have nee:¬(aX L [101,108,115,101] s6_11=true):=by rw[hbe];exact Bool.false_ne_true
    have hg2:=hs.g2
    have ho2:=hs.o2
    simp (disch:=first|assumption|omega) only[go_sem,seval,g1,g2,g3,g4,g5,hg2,tB.sl.one,aa]
    refine fin (x:= .mk 6 p [] [] zE x6_4 zE l6_10 []) (w:=⟨.nils,u6_3,.nils,v6_8,.nils⟩) (s':=s6_11) (q:=false) hs (RS.of (ie _ _) tX (ie _ _) tB (sK _ _)) ?_ hlim (by simp only[go_sem,seval,g1]) (by simp only[go_sem,seval,g3]) (by simp only[go_sem,seval,g4]) (by simp only[go_sem,seval,g5])
    rw[cJ,Qo ne0,Qo ne1,Qo ne2,Qo ne3,Qo ne4,Qo ne5,Qp hb6,hpp]
    subst hql6_10 hqs6_11 hqx6_4 hqs6_5
    rw[I9,Qo nee];rfl
  |false=>
  have ne6:¬(aX L [105,102] s=true):=by rw[hb6];exact Bool.false_ne_true
  rw[hb6,Qo Bool.false_ne_true] at hd6
  replace hs:=hs.call hr1 hr2 hC6 hd6
  simp (disch:=first|assumption|omega) only[go_sem,seval,g1,g2,g3,g4,g5,aa]
  refine WF.use1H (dl hc (hbase hs) hs.hd [119,104,105,108,101] (by simp) (by omega)) ?_
  rintro M7 ⟨hd7,hC7⟩
  cases hb7:aX L [119,104,105,108,101] s with
  |true=>
   obtain ⟨he,hlt⟩:=bH hb7
   have hlim:(aj s).a<=L.length:=hlt
   rw[hb7,Qp rfl] at hd7
   replace hs:=hs.call hr1 hr2 hC7 hd7
   have hg2:=hs.g2
   have ho2:=hs.o2
   simp (disch:=first|assumption|omega|(simp only[aI]<;>omega)) only[go_sem,seval,g1,g2,g3,g4,g5,hg2]
   generalize hMg:hp _ 0 _=M7_1
   have hs':SC m r b1 b2 vl rest (dN 0 0) M7_1 (aj s) [ii 7,ii p,.str [],.str [],ii 0,u64 0,u8 0,.str [],.nils,ii 0,u64 0,u8 0,.str [],.nils,ii 0,u64 0,u8 0,.str [],.nils,.nils,.nils]:=by rw[←hMg];exact hput hs (by simp[aB])
   clear hMg
   replace hs:=hs'
   refine WF.useH (H2 hc (hbase hs) hs.hd hlim) ?_
   rintro v N7_2 ⟨⟨u7_3,rfl,hx⟩,hd,hC⟩
   have tX:=hx.weak hs.tb
   replace hs:=hs.call hr1 hr2 hC hd
   replace hlim:(eq L (aj s)).2.a<=L.length:=(cu L 30 _).lim hlim
   generalize hqs7_5:(eq L (aj s)).2=s7_5 at hs hlim
   generalize hqx7_4:(eq L (aj s)).1=x7_4 at tX
   clear hx hd
   have hxl:(x7_4.l u7_3).length=5:=rfl
   have hg2:=hs.g2
   have ho2:=hs.o2
   simp (disch:=first|assumption|omega|(simp only[aI]<;>omega)) only[go_sem,seval,g1,g2,g3,g4,g5,hg2]
   generalize hMg:hp _ 0 _=M7_6
   have hs':SC m r b1 b2 vl rest (dN 0 0) M7_6 s7_5 [ii 7,ii p,.str [],.str [],ii 0,u64 0,u8 0,.str [],.nils,ii x7_4.k,u64 x7_4.n,u8 x7_4.o,.str x7_4.s,u7_3,ii 0,u64 0,u8 0,.str [],.nils,.nils,.nils]:=by rw[←hMg];exact hput hs (by simp[aB])
   replace tX:=tX.stays (m':=M7_6) (by rw[←hMg];exact cU (by simp[aB]))
   clear hMg
   replace hs:=hs'
   refine WF.useH (hB (hbase hs) hs.hd hlim) ?_
   rintro v7_8 N7_7 ⟨⟨C7_9,hx⟩,hd,hC⟩
   have tB:=hx.weak hs.tb
   replace hs:=hs.call hr1 hr2 hC hd
   replace tX:=tX.stays (dP hro hC)
   replace hlim:=(hst s7_5).lim hlim
   generalize hqs7_11:(B s7_5).2=s7_11 at hs hlim
   generalize hql7_10:(B s7_5).1=l7_10 at tB
   clear hx hd
   have hg2:=hs.g2
   have ho2:=hs.o2
   simp (disch:=first|assumption|omega|(simp only[aI]<;>omega)) only[go_sem,seval,g1,g2,g3,g4,g5,hg2,tB.sl.one]
   generalize hMg:hp _ 0 _=M7_12
   have hs':SC m r b1 b2 vl rest (dN 0 0) M7_12 s7_11 [ii 7,ii p,.str [],.str [],ii 0,u64 0,u8 0,.str [],.nils,ii x7_4.k,u64 x7_4.n,u8 x7_4.o,.str x7_4.s,u7_3,ii 0,u64 0,u8 0,.str [],.nils,v7_8,.nils]:=by rw[←hMg];exact hput hs (by simp[aB])
   replace tX:=tX.stays (m':=M7_12) (by rw[←hMg];exact cU (by simp[aB]))
   replace tB:=tB.stays (m':=M7_12) (by rw[←hMg];exact cU (by simp[aB]))
   clear hMg
   replace hs:=hs'
   refine fin (x:= .mk 7 p [] [] zE x7_4 zE l7_10 []) (w:=⟨.nils,u7_3,.nils,v7_8,.nils⟩) (s':=s7_11) (q:=false) hs (RS.of (ie _ _) tX (ie _ _) tB (sK _ _)) ?_ hlim (by simp only[go_sem,seval,g1]) (by simp only[go_sem,seval,g3]) (by simp only[go_sem,seval,g4]) (by simp only[go_sem,seval,g5])
   rw[cJ,Qo ne0,Qo ne1,Qo ne2,Qo ne3,Qo ne4,Qo ne5,Qo ne6,Qp hb7,hpp]
   subst hql7_10 hqs7_11 hqx7_4 hqs7_5
   rfl
  |false=>
  have ne7:¬(aX L [119,104,105,108,101] s=true):=by rw[hb7];exact Bool.false_ne_true
  rw[hb7,Qo Bool.false_ne_true] at hd7
  replace hs:=hs.call hr1 hr2 hC7 hd7
  simp (disch:=first|assumption|omega) only[go_sem,seval,g1,g2,g3,g4,g5,aa]
  refine WF.use1 (ic hs.hd 2) ?_
  rintro M9 ⟨hd9,hC9⟩
  replace hs:=hs.call hr1 hr2 hC9 hd9
  have hlim:=(b8 L 2 s).lim ha
  simp (disch:=first|assumption|omega) only[go_sem,seval,g1,g2,g3,g4,g5]
  refine fin (x:= .mk 0 p [] [] zE zE zE [] []) (w:=⟨.nils,.nils,.nils,.nils,.nils⟩) (s':=bt 2 s) (q:=true) hs (RS.of (ie _ _) (ie _ _) (ie _ _) (sK _ _) (sK _ _)) ?_ hlim (by simp only[go_sem,seval,g1]) (by simp only[go_sem,seval,g3]) (by simp only[go_sem,seval,g4]) (by simp only[go_sem,seval,g5])
  rw[cJ,Qo ne0,Qo ne1,Qo ne2,Qo ne3,Qo ne4,Qo ne5,Qo ne6,Qo ne7,hpp]
  rfl
 clear g1 g2 g3 g4 g5 hs
 rintro D ⟨t,M,x,w,s',q,rfl,hs,hx,hE,ha',g1,g3,g4,g5⟩
 change wp _ _ _ _ ⟨ai [] t, [],none,M⟩ _
 rw[←hE] at hK
 have hxl:(x.l w).length=21:=rfl
 have hxl':(x.l w).take 21=x.l w:=rfl
 have fin:∀{M s''},SC m r b1 b2 vl rest (dN 0 0) M s'' (x.l w)->RS M (TB m b1 b2) x (x.l w)->(if q then aZ L [59] s' else s')=s''->K (.agg (x.l w)) (hp [(.o b1,.cells true (x.l w))] 0 M):=fun {M s''} h1 h2 h3=>by
  have hC:Chg [b1] M (hp [(.o b1,.cells true (x.l w))] 0 M):=aE rfl
  refine hK _ _ ⟨⟨w,rfl,(h2.stays (aW.of hC fun i hi hs=> ?_)).weak fun i hi=>hi.1⟩, ?_,h1.hC.trans hC fun i hi ho=> ?_⟩
  ·simp only[Qt,Qs,or_false] at hs;exact hi.2.1 hs
  ·show RD _ r vl (if q then aZ L [59] s' else s') rest
   rw[h3];exact h1.hd.chg hC (by simpa using fun e=>hr1 e.symm)
  ·have hi:=one hi;subst hi;exact Qn ho hn1
 cases q with
 |true=>
  simp (disch:=first|assumption|omega) only[go_sem,seval,g1,g3,g4,g5,aa]
  refine WF.use1H (gi hc (hc.chg h0 hs.hC) hs.hd [59] (by simp) (by omega)) ?_
  rintro M2 ⟨hd2,hC2⟩
  have hs2:=hs.call hr1 hr2 hC2 hd2
  have hg2:=hs2.g2
  have hg1:=hs2.g1
  have ho1:=hs2.o1
  have ho2:=hs2.o2
  simp (disch:=first|assumption|omega|(simp only[aI]<;>omega)) only[go_sem,seval,g1,g3,g4,g5,hg2,hg1,hxl,hxl']
  exact fin hs2 (hx.stays (dP hro hC2)) rfl
 |false=>
  have hg2:=hs.g2
  have hg1:=hs.g1
  have ho1:=hs.o1
  have ho2:=hs.o2
  rw[←aa M]
  simp (disch:=first|assumption|omega|(simp only[aI]<;>omega)) only[go_sem,seval,g1,g3,g4,g5,hg2,hg1,hxl,hxl']
  exact fin hs hx rfl
end
section
variable {L:List Tok}
theorem je (s:Rs):St L s (eq L s).2:=cu L 30 s
theorem jX {x:Stm} {s s':Rs} (h:St L s s'):St L s (tF L x s').2:=h.trans (bS _ _ _)
theorem Iy (p:Int) (s:Rs):St L s (Mq L p s).2:=jX ((cE L s).trans (je _))
theorem G9 (p:Int) (s:Rs):St L s (Ik L p s).2:=jX ((cE L s).trans (eN _))
theorem Em (p:Int) (s:Rs):St L s (Fx L p s).2:=jX ((eN s).trans (je _))
theorem JX (p:Int) (s:Rs):St L s (Mi L p s).2:=jX ((((cE L s).trans (eN _)).trans (je _)).trans (je _))
theorem Iv (p:Int) (s:Rs):St L s (Oj L p s).2:=jX (je _)
theorem Nl {B:Rs->List Stm×Rs} (hB:∀s,St L s (B s).2) (p:Int) (s:Rs):St L s (I9 L B p s).2:=by
 unfold I9
 have h:=(je (L:=L) s).trans (hB _)
 split
 ·rename_i q;exact (h.trans (eu q)).trans (hB _)
 ·exact h
theorem DF {B:Rs->List Stm×Rs} (hB:∀s,St L s (B s).2) (p:Int) (s:Rs):St L s (C7 L B p s).2:=(je s).trans (hB _)
theorem uc {B:Rs->List Stm×Rs} (hB:∀s,St L s (B s).2) (s:Rs):(∃t,St L s t/\St L t (cJ L B s).2/\(s.e=0->s.a<t.a∨t.e≠0)):=by
 have y:∀{w:List Nat},aX L w s=true->St L s (aj s):=fun h=>eu h
 have n:s.a<(aj s).a:=Nat.lt_succ_self _
 unfold cJ
 split
 ·exact ⟨aj s,y ‹_›,Iy _ _,fun _=>Or.inl n⟩
 ·split
  ·exact ⟨aj s,y ‹_›,G9 _ _,fun _=>Or.inl n⟩
  ·split
   ·exact ⟨aj s,y ‹_›,Em _ _,fun _=>Or.inl n⟩
   ·split
    ·exact ⟨aj s,y ‹_›,JX _ _,fun _=>Or.inl n⟩
    ·split
     ·exact ⟨aj s,y ‹_›,jX (St.refl _ _),fun _=>Or.inl n⟩
     ·split
      ·exact ⟨aj s,y ‹_›,Iv _ _,fun _=>Or.inl n⟩
      ·split
       ·exact ⟨aj s,y ‹_›,Nl hB _ _,fun _=>Or.inl n⟩
       ·split
        ·exact ⟨aj s,y ‹_›,DF hB _ _,fun _=>Or.inl n⟩
        ·refine ⟨bt 2 s,b8 _ _ _,jX (St.refl _ _),fun h=>Or.inr ?_⟩
         rw[bt,Qp h];show (2:Nat)≠0;omega
theorem sc {B:Rs->List Stm×Rs} (hB:∀s,St L s (B s).2) (s:Rs):St L s (cJ L B s).2:=by
 obtain ⟨t,h1,h2,-⟩:=uc hB s
 exact h1.trans h2
theorem HB {B:Rs->List Stm×Rs} (hB:∀s,St L s (B s).2) (s:Rs) (he:s.e=0):s.a<(cJ L B s).2.a∨(cJ L B s).2.e≠0:=by
 obtain ⟨t,h1,h2,h3⟩:=uc hB s
 rcases h3 he with q|q
 ·left;have:=h2.le;omega
 ·right;rw[h2.err q];exact q
theorem sS {S:Rs->Stm×Rs} (hS:∀s,St L s (S s).2):∀(f:Nat) (l:List Stm) (s:Rs),St L s (fC L S f l s).2:=by
 intro f
 induction f with
 |zero=>exact fun l s=>St.refl _ _
 |succ f ih=>
  intro l s
  rw[fC]
  split
  ·exact St.refl _ _
  ·split
   ·exact eu ‹_›
   ·exact (hS s).trans (ih _ _)
theorem sJ {S:Rs->Stm×Rs} (hS:∀s,St L s (S s).2) (d:Nat) (s:Rs):St L s (iJ L S d s).2:=((kQ d s).trans (bS _ _ _)).trans (sS hS _ _ _)
theorem fg:∀(n:Nat) (s:Rs),St L s (dw L n s).2:=by
 intro n
 induction n with
 |zero=>exact fun s=>sJ (fun s=>b8 _ _ _) _ s
 |succ n ih=>exact fun s=>sJ (sc ih) _ s
def Pm (B:Rs->List Stm×Rs):Prop:=∀s,(B s).2.e=0->cz (B s).1+4*s.a<=4*(B s).2.a
theorem kL (s:Rs) (h:(eq L s).2.e=0):(eq L s).1.sz+s.a<=(eq L s).2.a:=rG L 30 s h
theorem m8 {s:Rs} (h:(ba L s).2.e=0):s.a+1<=(ba L s).2.a:=by
 unfold ba at h ⊢
 split
 ·rename_i q
  rw[Qp q] at h
  have h0:=(b8 L 2 s).zero h
  rw[bt,Qp h0] at h
  exact Qn h (by show (2:Nat)≠0;omega)
 ·exact Nat.le_refl _
theorem dS {w:List Nat} {s:Rs} (h:(aZ L w s).e=0):s.e=0/\(aZ L w s).a=s.a+1:=by
 have h0:=(bS L w s).zero h
 refine ⟨h0, ?_⟩
 unfold aZ at h ⊢
 split
 ·rfl
 ·rename_i q
  rw[Qo q,bt,Qp h0] at h
  exact Qn h (by show (2:Nat)≠0;omega)
theorem pr {s:Rs} (h:(bm L s).2.2.e=0):(bm L s).2.1.sz+s.a<=(bm L s).2.2.a:=by
 unfold bm at h ⊢
 split
 ·rename_i q
  rw[Qp q] at h
  obtain ⟨h1,h2⟩:=dS h
  have h3:=kL _ h1
  have h4:=(eu q).le
  have h5:=(cE L s).le
  have h6:(aj (ba L s).2).a=(ba L s).2.a+1:=rfl
  dsimp only at h1 h2 h3 h4 h5 ⊢
  omega
 ·rename_i q
  rw[Qo q] at h
  have:=m8 h
  simp[zE,Ex.sz,kj];omega
theorem mn:zE.sz=1:=by simp[zE,Ex.sz,kj]
theorem hU (k p:Int) (nm ce:List Nat) (i x y:Ex) (b e:List Stm):(Stm.mk k p nm ce i x y b e).sz=1+i.sz+x.sz+y.sz+cz b+cz e:=by rw[Stm.sz]
theorem pL:cz []=0:=rfl
set_option maxHeartbeats 4000000 in
theorem GJ {B:Rs->List Stm×Rs} (hSt:∀s,St L s (B s).2) (hB:Pm B) (s:Rs) (h:(cJ L B s).2.e=0):(cJ L B s).1.sz+4*s.a<=4*(cJ L B s).2.a:=by
 have n:(aj s).a=s.a+1:=rfl
 unfold cJ at h ⊢
 split
 ·rename_i q
  rw[Qp q] at h
  obtain ⟨h1,h2⟩:=dS h
  have h3:=kL _ h1
  have h4:=m8 ((je (L:=L) _).zero h1)
  show (Stm.mk ..).sz+_<=4*(aZ L [59] _).a
  rw[h2,hU,mn,pL];omega
 ·rename_i q0;rw[Qo q0] at h
  split
  ·rename_i q
   rw[Qp q] at h
   obtain ⟨h1,h2⟩:=dS h
   have h3:=pr h1
   have h4:=m8 ((eN (L:=L) _).zero h1)
   show (Stm.mk ..).sz+_<=4*(aZ L [59] _).a
   rw[h2,hU,mn,pL];omega
  ·rename_i q0;rw[Qo q0] at h
   split
   ·rename_i q
    rw[Qp q] at h
    obtain ⟨h1,h2⟩:=dS h
    have h3:=kL _ h1
    have h4:=pr ((je (L:=L) _).zero h1)
    show (Stm.mk ..).sz+_<=4*(aZ L [59] _).a
    rw[h2,hU,mn,pL];omega
   ·rename_i q0;rw[Qo q0] at h
    split
    ·rename_i q
     rw[Qp q] at h
     obtain ⟨h1,h2⟩:=dS h
     have h3:=kL _ h1
     have h1':=(je (L:=L) _).zero h1
     have h4:=kL _ h1'
     have h1'':=(je (L:=L) _).zero h1'
     have h5:=pr h1''
     have h6:=m8 ((eN (L:=L) _).zero h1'')
     show (Stm.mk ..).sz+_<=4*(aZ L [59] _).a
     rw[h2,hU,pL];omega
    ·rename_i q0;rw[Qo q0] at h
     split
     ·rename_i q
      rw[Qp q] at h
      obtain ⟨h1,h2⟩:=dS h
      show (Stm.mk ..).sz+_<=4*(aZ L [59] _).a
      rw[h2,hU,mn,pL];omega
     ·rename_i q0;rw[Qo q0] at h
      split
      ·rename_i q
       rw[Qp q] at h
       obtain ⟨h1,h2⟩:=dS h
       have h3:=kL _ h1
       show (Stm.mk ..).sz+_<=4*(aZ L [59] _).a
       rw[h2,hU,mn,pL];omega
      ·rename_i q0;rw[Qo q0] at h
       split
       ·rename_i q
        rw[Qp q] at h
        unfold I9 at h ⊢
        split
        ·rename_i q2
         rw[Qp q2] at h
         have h1:=hB _ h
         have h2:=(hSt _).zero h
         have h3:=hB _ h2
         have h4:=kL _ ((hSt _).zero h2)
         have h5:(aj (B (eq L (aj s)).2).2).a=(B (eq L (aj s)).2).2.a+1:=rfl
         rw[hU,mn];dsimp only at *;omega
        ·rename_i q2
         rw[Qo q2] at h
         have h3:=hB _ h
         have h4:=kL _ ((hSt _).zero h)
         rw[hU,mn,pL];dsimp only at *;omega
       ·rename_i q0;rw[Qo q0] at h
        split
        ·rename_i q
         rw[Qp q] at h
         have h3:=hB _ h
         have h4:=kL _ ((hSt _).zero h)
         show (Stm.mk ..).sz+_<=4*(B _).2.a
         rw[hU,mn,pL];omega
        ·rename_i q0;rw[Qo q0] at h
         obtain ⟨h1,h2⟩:=dS h
         have h3:=(b8 L 2 s).zero h1
         rw[bt,Qp h3] at h1
         exact Qn h1 (by show (2:Nat)≠0;omega)
theorem wA (a b:List Stm):cz (a++b)=cz a+cz b:=by
 induction a with
 |nil=>simp[cz]
 |cons x a ih=>rw[List.cons_append,cz,cz,ih];omega
theorem DO {S:Rs->Stm×Rs} (hSt:∀s,St L s (S s).2) (hS:∀s,(S s).2.e=0->(S s).1.sz+4*s.a<=4*(S s).2.a):∀(f:Nat) (l:List Stm) (s:Rs) (a0:Nat),(s.e=0->cz l+4*a0<=4*s.a)->(fC L S f l s).2.e=0->cz (fC L S f l s).1+4*a0<=4*(fC L S f l s).2.a:=by
 intro f
 induction f with
 |zero=>intro l s a0 h h2;exact h h2
 |succ f ih=>
  intro l s a0 h
  rw[fC]
  split
  ·intro h2;exact Qn h2 ‹_›
  ·split
   ·rename_i q1 q2
    intro h2
    have h1:=h (by omega)
    have:(aj s).a=s.a+1:=rfl
    dsimp only;omega
   ·rename_i q1 q2
    refine ih _ _ a0 fun h2=> ?_
    have h1:=h (by omega)
    have h3:=hS s h2
    rw[wA,cz,pL];omega
theorem D6 {S:Rs->Stm×Rs} (hSt:∀s,St L s (S s).2) (hS:∀s,(S s).2.e=0->(S s).1.sz+4*s.a<=4*(S s).2.a) (d:Nat):Pm (iJ L S d):=by
 intro s h
 refine DO hSt hS _ _ _ s.a (fun h2=> ?_) h
 have:=((kQ (L:=L) d s).trans (bS L [123] _)).le
 rw[pL];omega
theorem y8:∀n:Nat,Pm (dw L n):=by
 intro n
 induction n with
 |zero=>
  intro s h
  have h1:=(sS (L:=L) (S:=fun s=>(Stm.mk 0 0 [] [] zE zE zE [] [],bt 2 s)) (fun s=>b8 _ _ _) _ _ _).zero h
  have h2:=(bS L [123] _).zero h1
  have h3:=(kQ (L:=L) 30 s).zero h2
  exfalso
  obtain ⟨h4,h5⟩:=dS h1
  have hff:∀e (s:Rs),e≠0->(bt e s).e≠0:=fun e s h=>by unfold bt;split;exact h;assumption
  by_cases hk:(aL L s.a).k=3/\(aL L s.a).t= [123]
  ·rw[dJ,Qp ⟨h3,by omega,hk.1,hk.2⟩] at h4
   exact hff 11 s (by omega) h4
  ·have e1:dJ L 30 s=s:=by rw[dJ,Qo (fun h=>hk ⟨h.2.2.1,h.2.2.2⟩)]
   rw[e1] at h1
   have e2:aX L [123] s=false:=Qq fun q=>hk ⟨q.2.1,q.2.2⟩
   rw[aZ,e2,Qo Bool.false_ne_true] at h1
   exact hff 2 s (by omega) h1
 |succ n ih=>exact D6 (sc (fg n)) (GJ (fg n) ih) _
end
section
variable {m0:NH} {L:List Tok} {vl:NV} {r:D4} {rest:List NV}
theorem DN (hc:RC m0 L vl r):∀n,n<=30->Pe m0 L vl r rest (dw L n) (30 - n):=by
 intro n
 induction n with
 |zero=>
  intro _
  have e2:dw L 0=iJ L (fun s=>(.mk 0 0 [] [] zE zE zE [] [],bt 2 s)) 30:=by funext s;rfl
  rw[e2]
  intro m s
  exact Ac (S:=fun s=>(.mk 0 0 [] [] zE zE zE [] [],bt 2 s)) hc (fun s=>b8 _ _ _) (fun s he=>Or.inr (by rw[bt,Qp he];show (2:Nat)≠0;omega)) (fun h=>by omega)
 |succ n ih=>
  intro hn
  have e:30 - (n+1)=29 - n:=by omega
  have h1:29 - n+1=30 - n:=by omega
  have e2:dw L (n+1)=iJ L (cJ L (dw L n)) (29 - n):=by funext s;rfl
  rw[e,e2]
  intro m s
  exact Ac hc (sc (fg n)) (HB (fg n)) (fun _=>by rw[←h1] at ih;intro m s;exact Jf hc (fg n) (ih (by omega)) (by omega))
end
structure Ps where
 cs:List (List Nat×Int)
 ts:List (List Nat×List Stm)
 rc:List Stm
 rd:Bool
section
variable (L:List Tok)
def bK (T:Tok):Int:=if T.n<1048576 then T.n else 1048576
def sT (s:Rs):(List Nat×Int)×Rs:=
 if aX L [91] (ba L s).2=true then
  if (aL L (aj (ba L s).2).a).k=2 then (((ba L s).1,bK (aL L (aj (ba L s).2).a)),aZ L [59] (aZ L [93] (aj (aj (ba L s).2))))
  else (((ba L s).1,1),aZ L [59] (aZ L [93] (bt 2 (aj (ba L s).2))))
 else (((ba L s).1,1),aZ L [59] (ba L s).2)
def kX (s:Rs):(List Nat×List Stm)×Rs:=(((ba L s).1,(dw L 30 (ba L s).2).1),(dw L 30 (ba L s).2).2)
abbrev eA:List Nat:= [114,101,99,111,118,101,114]
def bj (rec:Bool) (s:Rs):Rs:=if rec=true/\(aL L s.a).k=4/\(aL L s.a).t=eA then bt 5 s else s
def Cp (rec:Bool) (s:Rs):List Stm×Rs:=dw L 30 (aZ L eA (bj L rec s))
def fw (P:Ps) (s:Rs):Ps×Rs:=
 if aX L [99,101,108,108] s=true then (⟨P.cs++ [(sT L (aj s)).1],P.ts,P.rc,P.rd⟩,(sT L (aj s)).2)
 else if aX L [116,104,114,101,97,100] s=true then (⟨P.cs,P.ts++ [(kX L (aj s)).1],P.rc,P.rd⟩,(kX L (aj s)).2)
 else (⟨P.cs,P.ts,(Cp L P.rd s).1,true⟩,(Cp L P.rd s).2)
end
abbrev TP (mR:NH) (vc vt:NV):D4->Prop:=fun i=>¬ak mR i/\i∉ids vc/\i∉ids vt
structure PD (mR M:NH) (r:D4) (vl:NV) (s:Rs) (P:Ps) (vc vt vr:NV):Prop where
 hd:RD M r vl s [.bool P.rd,vc,vt,vr]
 cc:aV mR M vc 2 (jD P.cs)
 tt:∃C,aV mR M vt 2 C/\C.length=P.ts.length/\∀(j:Nat) (x:List Nat×List Stm) (c:List NV),P.ts[j]? =some x->C[j]? =some c->∃vb B,c= [.str x.1,vb]/\SS M (TP mR vc vt) vb x.2 B
 rr:∃C,SS M (TP mR vc vt) vr P.rc C
 dd:∀i∈ids vc,i∉ids vt
 oo:∀i,ak mR i->ak M i
 oR:ak mR r
section
variable {m0 mR:NH} {L:List Tok} {vl vc vt vr:NV} {r:D4} {M M':NH} {s s':Rs} {P:Ps}
theorem PD.call (h:PD mR M r vl s P vc vt vr) (hC:Chg [r] M M') (hd:RD M' r vl s' [.bool P.rd,vc,vt,vr]):PD mR M' r vl s' P vc vt vr:=by
 have hn:∀{v e C},aV mR M v e C->∀i∈ids v,i∉ [r]:=fun hv i hi hs=>by
  have hs:=one hs;subst hs;exact hv.new _ hi h.oR
 have hst:aW (TP mR vc vt) M M':=aW.of hC fun i hi hs=>by
  have hs:=one hs;subst hs;exact hi.1 h.oR
 obtain ⟨C,t1,t2,t3⟩:=h.tt
 obtain ⟨D,r1⟩:=h.rr
 exact ⟨hd,h.cc.chg hC (hn h.cc),⟨C,t1.chg hC (hn t1),t2,fun j x c a b=>by obtain ⟨vb,B,e,q⟩:=t3 j x c a b;exact ⟨vb,B,e,q.stays hst⟩⟩,⟨D,r1.stays hst⟩,h.dd,fun i hi=>hC.old (h.oo i hi),h.oR⟩
theorem PD.grow (h:PD mR M r vl s P vc vt vr) (hC:Chg [] M M'):PD mR M' r vl s P vc vt vr:=h.call (hC.weak (by simp)) (h.hd.chg hC (by simp))
end
section
variable {mR:NH} {vl vc vt vr:NV} {r:D4} {M:NH} {s:Rs} {P:Ps}
theorem m9 (h:PD mR M r vl s P vc vt vr) {v:NV} {M5 M6:NH} {c:List Nat×Int} (h5:Chg [] M M5) (hv:aV mR M6 v 2 (jD P.cs++ [[.str c.1,ii c.2]])) (h6:Chg (ids vc) M5 M6) (hF:bB M5 vc v):
 PD mR (hp [(.o r,.cells true [vl,ii s.a,ii s.e,ii s.b,.bool P.rd,v,vt,vr])] 0 M6) r vl s ⟨P.cs++ [c],P.ts,P.rc,P.rd⟩ v vt vr:=by
 have h:=h.grow h5
 have o5:=h.oo
 have hr6:ak M6 r:=h6.old h.hd.o
 have hC:Chg [r] M6 (hp [(.o r,.cells true [vl,ii s.a,ii s.e,ii s.b,.bool P.rd,v,vt,vr])] 0 M6):=aE rfl
 obtain ⟨C,t1,t2,t3⟩:=h.tt
 obtain ⟨D,r1⟩:=h.rr
 have hvt:∀i∈ids vt,i∉ids vc:=fun i hi hc=>h.dd i hc hi
 have nr:∀{v e C M},aV mR M v e C->∀i∈ids v,i∉ [r]:=fun hv i hi hs=>by
  have hs:=one hs;subst hs;exact hv.new _ hi h.oR
 have hS:∀{w:NV} {l:List Stm} {C:List (List NV)},SS M5 (TP mR vc vt) w l C->SS (hp [(.o r,.cells true [vl,ii s.a,ii s.e,ii s.b,.bool P.rd,v,vt,vr])] 0 M6) (TP mR v vt) w l C:=fun q=>by
  have q1:SS M5 (fun i=>TP mR vc vt i/\ak M5 i) _ _ _:=⟨q.sl,fun i hi=>⟨q.hT i hi,q.sl.old i hi⟩,q.len,fun i x c a b=>(q.R i x c a b).old⟩
  have q2:=q1.stays (m':=M6) (aW.of h6 fun i hi hs=>hi.1.2.1 hs)
  have q3:=q2.stays (aW.of hC fun i hi hs=>by
   have hs:=one hs;subst hs;exact hi.1.1 h.oR)
  exact q3.weak fun i hi=>⟨hi.1.1,fun a=>(hF i a).elim hi.1.2.1 fun z=>z hi.2,hi.1.2.2⟩
 refine ⟨⟨(aG hr6).trans ao,bI hr6⟩, ?_,⟨C,(t1.chg h6 hvt).chg hC (nr t1),t2,fun j x c a b=>by obtain ⟨vb,B,e,q⟩:=t3 j x c a b;exact ⟨vb,B,e,hS q⟩⟩,⟨D,hS r1⟩,fun i hi ht=>(hF i hi).elim (fun a=>h.dd i a ht) fun z=>z (t1.sl.old i ht),fun i hi=>hC.old (h6.old (o5 i hi)),h.oR⟩
 have e:jD (P.cs++ [c])=jD P.cs++ [[.str c.1,ii c.2]]:=by simp
 show aV mR _ v 2 (jD (P.cs++ [c]))
 rw[e]
 exact hv.chg hC (nr hv)
theorem B8 (h:PD mR M r vl s P vc vt vr) {v vb:NV} {B C:List (List NV)} {M6:NH} {n:List Nat} {b:List Stm} (hb:SS M (TP mR vc vt) vb b B) (t1:aV mR M vt 2 C) (t2:C.length=P.ts.length) (t3:∀(j:Nat) (x:List Nat×List Stm) (c:List NV),P.ts[j]? =some x->C[j]? =some c->∃vb B,c= [.str x.1,vb]/\SS M (TP mR vc vt) vb x.2 B)
 (hv':aV mR M6 v 2 (C++ [[.str n,vb]])) (h6:Chg (ids vt) M M6) (hF:bB M vt v):
 PD mR (hp [(.o r,.cells true [vl,ii s.a,ii s.e,ii s.b,.bool P.rd,vc,v,vr])] 0 M6) r vl s ⟨P.cs,P.ts++ [(n,b)],P.rc,P.rd⟩ vc v vr:=by
 have o5:=h.oo
 have hr6:ak M6 r:=h6.old h.hd.o
 have hC:Chg [r] M6 (hp [(.o r,.cells true [vl,ii s.a,ii s.e,ii s.b,.bool P.rd,vc,v,vr])] 0 M6):=aE rfl
 obtain ⟨D,r1⟩:=h.rr
 have nr:∀{v e C M},aV mR M v e C->∀i∈ids v,i∉ [r]:=fun hv i hi hs=>by
  have hs:=one hs;subst hs;exact hv.new _ hi h.oR
 have hS:∀{w:NV} {l:List Stm} {C:List (List NV)},SS M (TP mR vc vt) w l C->SS (hp [(.o r,.cells true [vl,ii s.a,ii s.e,ii s.b,.bool P.rd,vc,v,vr])] 0 M6) (TP mR vc v) w l C:=fun q=>by
  have q1:SS M (fun i=>TP mR vc vt i/\ak M i) _ _ _:=⟨q.sl,fun i hi=>⟨q.hT i hi,q.sl.old i hi⟩,q.len,fun i x c a b=>(q.R i x c a b).old⟩
  have q2:=q1.stays (m':=M6) (aW.of h6 fun i hi hs=>hi.1.2.2 hs)
  have q3:=q2.stays (aW.of hC fun i hi hs=>by
   have hs:=one hs;subst hs;exact hi.1.1 h.oR)
  exact q3.weak fun i hi=>⟨hi.1.1,hi.1.2.1,fun a=>(hF i a).elim hi.1.2.2 fun z=>z hi.2⟩
 refine ⟨⟨(aG hr6).trans ao,bI hr6⟩,(h.cc.chg h6 h.dd).chg hC (nr h.cc),⟨C++ [[.str n,vb]],hv'.chg hC (nr hv'),by simp[t2],fun j x c a b'=> ?_⟩,⟨D,hS r1⟩,fun i hi ht=>(hF i ht).elim (fun a=>h.dd i hi a) fun z=>z (h.cc.sl.old i hi),fun i hi=>hC.old (h6.old (o5 i hi)),h.oR⟩
 rcases Nat.lt_or_ge j P.ts.length with q|q
 ·rw[List.getElem?_append_left q] at a
  rw[List.getElem?_append_left (by omega)] at b'
  obtain ⟨w,B2,e,q2⟩:=t3 j x c a b'
  exact ⟨w,B2,e,hS q2⟩
 ·rw[List.getElem?_append_right q] at a
  rw[List.getElem?_append_right (by omega),t2] at b'
  cases hj:j - P.ts.length with
  |zero=>rw[hj] at a b';cases a;cases b';exact ⟨vb,B,rfl,hS hb⟩
  |succ k=>rw[hj] at a;simp at a
theorem CW (h:PD mR M r vl s P vc vt vr) {v:NV} {C:List (List NV)} {b:List Stm} (hb:SS M (TP mR vc vt) v b C) {l:List (AK×NO)} (hl:∀i∈aB l,i=r):
 PD mR (hp ((.o r,.cells true [vl,ii s.a,ii s.e,ii s.b,.bool true,vc,vt,v])::l) 0 M) r vl s ⟨P.cs,P.ts,b,true⟩ vc vt v:=by
 have hC:Chg [r] M (hp ((.o r,.cells true [vl,ii s.a,ii s.e,ii s.b,.bool true,vc,vt,v])::l) 0 M):=(aE rfl).weak fun i hi _=>by
  simp only[aB,Qt] at hi ⊢
  rcases hi with rfl|hi
  ·exact Or.inl rfl
  ·exact Or.inl (hl i hi)
 have nr:∀{v e C M},aV mR M v e C->∀i∈ids v,i∉ [r]:=fun hv i hi hs=>by
  have hs:=one hs;subst hs;exact hv.new _ hi h.oR
 obtain ⟨D,t1,t2,t3⟩:=h.tt
 have hst:aW (TP mR vc vt) M (hp ((.o r,.cells true [vl,ii s.a,ii s.e,ii s.b,.bool true,vc,vt,v])::l) 0 M):=aW.of hC fun i hi hs=>by
  have hs:=one hs;subst hs;exact hi.1 h.oR
 exact ⟨⟨(aG h.hd.o).trans ao,bI h.hd.o⟩,h.cc.chg hC (nr h.cc),⟨D,t1.chg hC (nr t1),t2,fun j x c a b=>by obtain ⟨w,B,e,q⟩:=t3 j x c a b;exact ⟨w,B,e,q.stays hst⟩⟩,⟨C,hb.stays hst⟩,h.dd,fun i hi=>hC.old (h.oo i hi),h.oR⟩
end
section
variable {m0 mR:NH} {L:List Tok} {vl vc vt vr:NV} {r:D4}
theorem LO (hc:RC m0 L vl r) (h0R:∀i,ak m0 i->ak mR i) {m:NH} {s:Rs} {P:Ps} (h0:Chg [] m0 m) (hp0:PD mR m r vl s P vc vt vr) (ha:s.a<=L.length) (hcs:P.cs.length<=100000) (hts:P.ts.length<=100000):
 ∃m',bc Try.prog S0 47 [.ptr r 0] m (.tup []) m'/\Chg [] m0 m'/\∃vc' vt' vr',PD mR m' r vl (fw L P s).2 (fw L P s).1 vc' vt' vr':=by
 refine WF.ex1 fun K hK=> ?_
 refine WF.of_wpG (fun _=>rfl) yP (L:= [(.e,.ptr r 0)]) rfl ?_
 unfold Kq
 have hll:=hc.len
 have hbase:∀{M M':NH},Chg [] m0 M->Chg [r] M M'->Chg [] m0 M':=fun h h'=>hc.chg h h'
 simp (disch:=first|assumption|omega) only[go_sem,seval,aa]
 refine WF.use1H (dl hc h0 hp0.hd [99,101,108,108] (by simp) (by omega)) ?_
 rintro M1 ⟨hd1,hC1⟩
 unfold fw at hK
 cases hb:aX L [99,101,108,108] s with
 |true=>
  rw[hb,Qp rfl] at hd1 hK
  have hlt:=(bH hb).2
  have hp1:=hp0.call hC1 hd1
  have h01:=hbase h0 hC1
  simp (disch:=first|assumption|omega) only[go_sem,seval,aa]
  refine WF.use1H (lH hc h01 hp1.hd (by have:(aj s).a=s.a+1:=rfl;omega)) ?_
  rintro M2 ⟨hd2,hC2⟩
  have hp2:=hp1.call hC2 hd2
  have h02:=hbase h01 hC2
  have hlim2:=(cE L (aj s)).lim hlt
  unfold sT at hK
  generalize ba L (aj s)=q at hd2 hp2 hlim2 hK
  obtain ⟨n,s2⟩:=q
  dsimp only at hd2 hp2 hlim2 hK
  simp (disch:=first|assumption|omega|(simp only[aI]<;>omega)) only[go_sem,seval]
  generalize hM3:hp _ 1 M2=M3
  have hC3:Chg [] M2 M3:=aY hM3 rfl
  have hg3:M3.get (na M2 0)=some (.cells true [.str n,ii 1]):=bw hM3
  have ho3:ak M3 (na M2 0):=bx hM3 (by omega)
  have hp3:=hp2.grow hC3
  have h03:=h02.trans hC3 (by simp)
  refine WF.use1H (dl hc h03 hp3.hd [91] (by simp) (by omega)) ?_
  rintro M4 ⟨hd4,hC4⟩
  have hr2:na M2 0≠r:=fun e=>hp2.hd.o.ne 0 e.symm
  have hp4:=hp3.call hC4 hd4
  have h04:=hbase h03 hC4
  have hg4:=(hC4.get ho3 (by simpa using hr2)).trans hg3
  have ho4:=hC4.old ho3
  cases hb4:aX L [91] s2 with
  |true=>
   rw[hb4,Qp rfl] at hK hd4
   have hlt4:=(bH hb4).2
   have he4:=(bH hb4).1
   have hC24:Chg [r] M2 M4:=(hC3.weak (by simp)).trans hC4 fun _ h _=>h
   have hp4:=hp2.call hC24 hd4
   simp (disch:=first|assumption|omega) only[go_sem,seval,aa]
   refine WF.use1H (jl hc h04 hp4.hd) ?_
   intro M5 hC5
   have hC25:Chg [r] M2 M5:=hC24.trans hC5 (by simp)
   have hp5:=hp4.grow hC5
   have h05:=h04.trans hC5 (by simp)
   have hg5:=(hC5.get ho4 (by simp)).trans hg4
   have ho5:=hC5.old ho4
   have hl:(Tok.l (aL L (aj s2).a)).length=4:=rfl
   have hdg:=hp5.hd.g
   have hdo:=hp5.hd.o
   have he5:(aj s2).e=0:=he4
   have hlim5:(aj s2).a<=L.length:=hlt4
   have hst:1<=(aL L (aj s2).a).k/\(aL L (aj s2).a).k<=4->St L (aj s2) (aj (aj s2)):=fun h=>g9 (lB (by omega)) he5 h
   generalize hT:aL L (aj s2).a=T at hK hl hst
   generalize hs3:aj s2=s3 at hK hp5 hdg he5 hlim5 hst
   have rest:∀{M6:NH} {s6:Rs} {z:Int},Chg [r] M2 M6->RD M6 r vl s6 [.bool P.rd,vc,vt,vr]->s6.a<=L.length->M6.get (na M2 0)=some (.cells true [.str n,ii z])->ak M6 (na M2 0)->
    ∃m',bc Try.prog S0 87 [.ptr r 0,.str [93]] M6 (.tup []) m'/\PD mR m' r vl (aZ L [93] s6) P vc vt vr/\Chg [] m0 m'/\(aZ L [93] s6).a<=L.length/\m'.get (na M2 0)=some (.cells true [.str n,ii z])/\ak m' (na M2 0):=by
    intro M6 s6 z q1 q2 q3 q4 q5
    obtain ⟨m',w1,w2,w3⟩:=gi hc (hbase h02 q1) q2 [93] (by simp) (by omega)
    have w4:Chg [r] M2 m':=q1.trans w3 fun _ h _=>h
    exact ⟨m',w1,hp2.call w4 w2,hbase h02 w4,(bS L [93] s6).lim q3,(w3.get q5 (by simpa using hr2)).trans q4,w3.old q5⟩
   have hr2':r≠na M2 0:=fun e=>hr2 e.symm
   have hbn:∀{l:List (AK×NO)} {k:Nat},(∀i∈aB l,i=r∨i=na M2 0)->Chg [r] M2 (hp l k M5):=fun hl=>hC25.trans (aE rfl) fun i hi ho=>(hl i hi).elim (fun h=>by simp[h]) fun h=>Qn (h▸ho) az
   by_cases hk:T.k=2
   ·rw[Qp hk] at hK
    have hst6:=(hst (by omega)).lim hlim5
    by_cases hn:T.n<1048576
    ·have hz:bK T=(T.n:Int):=by unfold bK;rw[Qp hn]
     rw[hz] at hK
     simp (disch:=first|assumption|omega|(simp only[aI]<;>omega)) only[go_sem,seval,hl,p5,ON,hdg,hg5]
     generalize hM6:hp _ 1 M5=M6
     have hC26:Chg [r] M2 M6:=by rw[←hM6];exact hbn (by simp[aB])
     have hd6:RD M6 r vl (aj s3) [.bool P.rd,vc,vt,vr]:=⟨by rw[←hM6];exact (aG hdo).trans ao,by rw[←hM6];exact bI hdo⟩
     have hg6:M6.get (na M2 0)=some (.cells true [.str n,ii T.n]):=by rw[←hM6];exact (aG ho5).trans ((bf hr2).trans ao)
     have ho6:ak M6 (na M2 0):=by rw[←hM6];exact bI ho5
     refine WF.use1 (rest hC26 hd6 hst6 hg6 ho6) ?_
     rintro M7 ⟨hp7,h07,hlim7,hg7,ho7⟩
     simp (disch:=first|assumption|omega) only[go_sem,seval]
     refine WF.use1H (gi hc h07 hp7.hd [59] (by simp) (by omega)) ?_
     rintro M5 ⟨hd5,hC5⟩
     have hp5:=hp7.call hC5 hd5
     have h05:=hbase h07 hC5
     have hg5:=(hC5.get ho7 (by simpa using hr2)).trans hg7
     have ho5:=hC5.old ho7
     have hdg:=hp5.hd.g
     have hdo:=hp5.hd.o
     have hcl:=hp5.cc.sl.one
     have hcs':=hp5.cc.sl.same (n:=3)
     simp (disch:=first|assumption|omega|(simp only[aI]<;>omega)) only[go_sem,seval,hg5,hdg,hcl,hcs']
     have hC6:Chg [] M5 (hp [(.n 0,.cells true [.str n,ii T.n])] 1 M5):=aE rfl
     refine cZ (cs:= [.str n,ii T.n]) (B:=mR) (hp5.cc.chg hC6 fun _ _=>by simp) bo (bv (by omega)) rfl (fun i hi=>hC6.old (hp5.oo i hi)) (by simp;omega) (by simp;omega) ?_
     intro v6 M6 hv6 hC7 hF6
     have hg6:=(hC7.get (hC6.old hdo) (fun h=>hp5.cc.new _ h hp5.oR)).trans ((hC6.get hdo (by simp)).trans hdg)
     have ho6:=hC7.old (hC6.old hdo)
     have hPD:=m9 (c:=(n,(T.n:Int))) hp5 hC6 hv6 hC7 hF6
     simp (disch:=first|assumption|omega|(simp only[aI]<;>omega)) only[go_sem,seval,hg6,hv6.sl.one]
     refine hK _ ⟨?_,v6,vt,vr,hPD⟩
     refine ((h05.trans hC6 (by simp)).trans hC7 fun i hi ho=>Qn (h0R i ho) (hp5.cc.new i hi)).trans (aE rfl) fun i hi ho=> ?_
     simp only[aB,Qt,Qs,or_false] at hi
     subst hi;exact Qn ho hc.no
    ·have hz:bK T=1048576:=by unfold bK;rw[Qo hn]
     rw[hz] at hK
     simp (disch:=first|assumption|omega|(simp only[aI]<;>omega)) only[go_sem,seval,hl,p5,ON,hdg,hg5]
     generalize hM6:hp _ 1 M5=M6
     have hC26:Chg [r] M2 M6:=by rw[←hM6];exact hbn (by simp[aB])
     have hd6:RD M6 r vl (aj s3) [.bool P.rd,vc,vt,vr]:=⟨by rw[←hM6];exact (aG hdo).trans ao,by rw[←hM6];exact bI hdo⟩
     have hg6:M6.get (na M2 0)=some (.cells true [.str n,ii 1048576]):=by rw[←hM6];exact (aG ho5).trans ((bf hr2).trans ao)
     have ho6:ak M6 (na M2 0):=by rw[←hM6];exact bI ho5
     refine WF.use1 (rest hC26 hd6 hst6 hg6 ho6) ?_
     rintro M7 ⟨hp7,h07,hlim7,hg7,ho7⟩
     simp (disch:=first|assumption|omega) only[go_sem,seval]
     refine WF.use1H (gi hc h07 hp7.hd [59] (by simp) (by omega)) ?_
     rintro M5 ⟨hd5,hC5⟩
     have hp5:=hp7.call hC5 hd5
     have h05:=hbase h07 hC5
     have hg5:=(hC5.get ho7 (by simpa using hr2)).trans hg7
     have ho5:=hC5.old ho7
     have hdg:=hp5.hd.g
     have hdo:=hp5.hd.o
     have hcl:=hp5.cc.sl.one
     have hcs':=hp5.cc.sl.same (n:=3)
     simp (disch:=first|assumption|omega|(simp only[aI]<;>omega)) only[go_sem,seval,hg5,hdg,hcl,hcs']
     have hC6:Chg [] M5 (hp [(.n 0,.cells true [.str n,ii 1048576])] 1 M5):=aE rfl
     refine cZ (cs:= [.str n,ii 1048576]) (B:=mR) (hp5.cc.chg hC6 fun _ _=>by simp) bo (bv (by omega)) rfl (fun i hi=>hC6.old (hp5.oo i hi)) (by simp;omega) (by simp;omega) ?_
     intro v6 M6 hv6 hC7 hF6
     have hg6:=(hC7.get (hC6.old hdo) (fun h=>hp5.cc.new _ h hp5.oR)).trans ((hC6.get hdo (by simp)).trans hdg)
     have ho6:=hC7.old (hC6.old hdo)
     have hPD:=m9 (c:=(n,1048576)) hp5 hC6 hv6 hC7 hF6
     simp (disch:=first|assumption|omega|(simp only[aI]<;>omega)) only[go_sem,seval,hg6,hv6.sl.one]
     refine hK _ ⟨?_,v6,vt,vr,hPD⟩
     refine ((h05.trans hC6 (by simp)).trans hC7 fun i hi ho=>Qn (h0R i ho) (hp5.cc.new i hi)).trans (aE rfl) fun i hi ho=> ?_
     simp only[aB,Qt,Qs,or_false] at hi
     subst hi;exact Qn ho hc.no
   ·rw[Qo hk] at hK
    simp (disch:=first|assumption|omega|(simp only[aI]<;>omega)) only[go_sem,seval,hl,p5,ON,hdg,hg5]
    generalize hM6:hp _ 1 M5=M6
    have hC6:Chg [] M5 M6:=aY hM6 rfl
    refine WF.use1 (ic (hp5.grow hC6).hd 2) ?_
    rintro M6' ⟨hd6,hC6'⟩
    have hC26:Chg [r] M2 M6':=(hC25.trans hC6 (by simp)).trans hC6' fun _ h _=>h
    have hg6:=(hC6'.get (hC6.old ho5) (by simpa using hr2)).trans ((hC6.get ho5 (by simp)).trans hg5)
    have ho6:=hC6'.old (hC6.old ho5)
    simp (disch:=first|assumption|omega) only[go_sem,seval]
    refine WF.use1 (rest hC26 hd6 ((b8 L 2 s3).lim hlim5) hg6 ho6) ?_
    rintro M7 ⟨hp7,h07,hlim7,hg7,ho7⟩
    simp (disch:=first|assumption|omega) only[go_sem,seval]
    refine WF.use1H (gi hc h07 hp7.hd [59] (by simp) (by omega)) ?_
    rintro M5 ⟨hd5,hC5⟩
    have hp5:=hp7.call hC5 hd5
    have h05:=hbase h07 hC5
    have hg5:=(hC5.get ho7 (by simpa using hr2)).trans hg7
    have ho5:=hC5.old ho7
    have hdg:=hp5.hd.g
    have hdo:=hp5.hd.o
    have hcl:=hp5.cc.sl.one
    have hcs':=hp5.cc.sl.same (n:=3)
    simp (disch:=first|assumption|omega|(simp only[aI]<;>omega)) only[go_sem,seval,hg5,hdg,hcl,hcs']
    have hC6:Chg [] M5 (hp [(.n 0,.cells true [.str n,ii 1])] 1 M5):=aE rfl
    refine cZ (cs:= [.str n,ii 1]) (B:=mR) (hp5.cc.chg hC6 fun _ _=>by simp) bo (bv (by omega)) rfl (fun i hi=>hC6.old (hp5.oo i hi)) (by simp;omega) (by simp;omega) ?_
    intro v6 M6 hv6 hC7 hF6
    have hg6:=(hC7.get (hC6.old hdo) (fun h=>hp5.cc.new _ h hp5.oR)).trans ((hC6.get hdo (by simp)).trans hdg)
    have ho6:=hC7.old (hC6.old hdo)
    have hPD:=m9 (c:=(n,1)) hp5 hC6 hv6 hC7 hF6
    simp (disch:=first|assumption|omega|(simp only[aI]<;>omega)) only[go_sem,seval,hg6,hv6.sl.one]
    refine hK _ ⟨?_,v6,vt,vr,hPD⟩
    refine ((h05.trans hC6 (by simp)).trans hC7 fun i hi ho=>Qn (h0R i ho) (hp5.cc.new i hi)).trans (aE rfl) fun i hi ho=> ?_
    simp only[aB,Qt,Qs,or_false] at hi
    subst hi;exact Qn ho hc.no
  |false=>
   rw[hb4,Qo Bool.false_ne_true] at hK hd4
   have hp4:=hp3.call hC4 hd4
   simp (disch:=first|assumption|omega) only[go_sem,seval,aa]
   refine WF.use1H (gi hc h04 hp4.hd [59] (by simp) (by omega)) ?_
   rintro M5 ⟨hd5,hC5⟩
   have hp5:=hp4.call hC5 hd5
   have h05:=hbase h04 hC5
   have hg5:=(hC5.get ho4 (by simpa using hr2)).trans hg4
   have ho5:=hC5.old ho4
   have hdg:=hp5.hd.g
   have hdo:=hp5.hd.o
   have hcl:=hp5.cc.sl.one
   have hcs':=hp5.cc.sl.same (n:=3)
   simp (disch:=first|assumption|omega|(simp only[aI]<;>omega)) only[go_sem,seval,hg5,hdg,hcl,hcs']
   have hC6:Chg [] M5 (hp [(.n 0,.cells true [.str n,ii 1])] 1 M5):=aE rfl
   refine cZ (cs:= [.str n,ii 1]) (B:=mR) (hp5.cc.chg hC6 fun _ _=>by simp) bo (bv (by omega)) rfl (fun i hi=>hC6.old (hp5.oo i hi)) (by simp;omega) (by simp;omega) ?_
   intro v6 M6 hv6 hC7 hF6
   have hg6:=(hC7.get (hC6.old hdo) (fun h=>hp5.cc.new _ h hp5.oR)).trans ((hC6.get hdo (by simp)).trans hdg)
   have ho6:=hC7.old (hC6.old hdo)
   have hPD:=m9 (c:=(n,1)) hp5 hC6 hv6 hC7 hF6
   simp (disch:=first|assumption|omega|(simp only[aI]<;>omega)) only[go_sem,seval,hg6,hv6.sl.one]
   refine hK _ ⟨?_,v6,vt,vr,hPD⟩
   refine ((h05.trans hC6 (by simp)).trans hC7 fun i hi ho=>Qn (h0R i ho) (hp5.cc.new i hi)).trans (aE rfl) fun i hi ho=> ?_
   simp only[aB,Qt,Qs,or_false] at hi
   subst hi;exact Qn ho hc.no
 |false=>
  have ne1:¬(aX L [99,101,108,108] s=true):=by rw[hb];exact Bool.false_ne_true
  rw[hb,Qo Bool.false_ne_true] at hd1
  rw[Qo ne1] at hK
  have hp1:=hp0.call hC1 hd1
  have h01:=hbase h0 hC1
  simp (disch:=first|assumption|omega) only[go_sem,seval,aa]
  refine WF.use1H (dl hc h01 hp1.hd [116,104,114,101,97,100] (by simp) (by omega)) ?_
  rintro M2 ⟨hd2,hC2⟩
  have h02:=hbase h01 hC2
  have tpw:∀{M:NH},PD mR M r vl s P vc vt vr->True:=fun _=>trivial
  cases hb2:aX L [116,104,114,101,97,100] s with
  |true=>
   rw[hb2,Qp rfl] at hd2 hK
   have hlt:=(bH hb2).2
   have hp2:=hp1.call hC2 hd2
   simp (disch:=first|assumption|omega) only[go_sem,seval,aa]
   refine WF.use1H (lH hc h02 hp2.hd (by have:(aj s).a=s.a+1:=rfl;omega)) ?_
   rintro M3 ⟨hd3,hC3⟩
   have hp3:=hp2.call hC3 hd3
   have h03:=hbase h02 hC3
   have hlim3:=(cE L (aj s)).lim hlt
   unfold kX at hK
   generalize ba L (aj s)=q at hd3 hp3 hlim3 hK
   obtain ⟨n,s3⟩:=q
   dsimp only at hd3 hp3 hlim3 hK
   simp (disch:=first|assumption|omega|(simp only[aI]<;>omega)) only[go_sem,seval]
   generalize hM4:hp _ 1 M3=M4
   have hC4:Chg [] M3 M4:=aY hM4 rfl
   have hg4:M4.get (na M3 0)=some (.cells true [.str n,.nils]):=bw hM4
   have ho4:ak M4 (na M3 0):=bx hM4 (by omega)
   have hr3:na M3 0≠r:=fun e=>hp3.hd.o.ne 0 e.symm
   have hp4:=hp3.grow hC4
   have h04:=h03.trans hC4 (by simp)
   refine WF.useH (DN hc 30 (Nat.le_refl _) h04 hp4.hd hlim3) ?_
   rintro v5 M5 ⟨⟨C5,hb5⟩,hd5,hC5⟩
   generalize dw L 30 s3=q at hb5 hd5 hK
   obtain ⟨b,s5⟩:=q
   dsimp only at hb5 hd5 hK
   have hg5:=(hC5.get ho4 (by simpa using hr3)).trans hg4
   have ho5:=hC5.old ho4
   have hC35:Chg [r] M3 M5:=(hC4.weak (by simp)).trans hC5 fun _ h _=>h
   have hp5:=hp3.call hC35 hd5
   have hdg:=hp5.hd.g
   have hdo:=hp5.hd.o
   obtain ⟨CT,t1,t2,-⟩:=hp5.tt
   have hcl:=t1.sl.one
   have hcs':=t1.sl.same (n:=3)
   have hr3':r≠na M3 0:=fun e=>hr3 e.symm
   obtain ⟨CT4,t41,-,-⟩:=hp4.tt
   have hbT:SS M5 (fun i=>TP mR vc vt i/\i≠na M3 0) v5 b C5:=hb5.weak fun i hi=>⟨⟨fun h=>hi (hp4.oo i h),fun h=>hi (hp4.cc.sl.old i h),fun h=>hi (t41.sl.old i h)⟩,fun h=>hi (h▸ho4)⟩
   simp (disch:=first|assumption|omega|(simp only[aI]<;>omega)) only[go_sem,seval,hg5,hdg,hb5.sl.one,hcl,hcs']
   have hCb:Chg [na M3 0] M5 (hp [(.n 0,.cells true [.str n,v5]),(.o (na M3 0),.cells true [.str n,v5])] 1 M5):=aE rfl
   have hxb:(hp [(.n 0,.cells true [.str n,v5]),(.o (na M3 0),.cells true [.str n,v5])] 1 M5).get (na M5 0)=some (.cells true [.str n,v5]):=bo
   have hob:ak (hp [(.n 0,.cells true [.str n,v5]),(.o (na M3 0),.cells true [.str n,v5])] 1 M5) (na M5 0):=bv (by omega)
   generalize hp [(.n 0,.cells true [.str n,v5]),(.o (na M3 0),.cells true [.str n,v5])] 1 M5=Mb at hCb hxb hob ⊢
   have hCb3:Chg [r] M3 Mb:=hC35.trans hCb fun i hi ho=>by
    have hi:=one hi;subst hi;exact Qn ho az
   have hpb:=hp3.call hCb3 (hd5.chg hCb (by simpa using hr3'))
   have h0b:=hbase h03 hCb3
   have hbb:SS Mb (TP mR vc vt) v5 b C5:=(hbT.stays (aW.of hCb fun i hi hs=>by
    simp only[Qt,Qs,or_false] at hs;exact hi.2 hs)).weak fun i hi=>hi.1
   obtain ⟨CTb,tb1,tb2,tb3⟩:=hpb.tt
   have hdgb:=hpb.hd.g
   have hdob:=hpb.hd.o
   refine cZ (cs:= [.str n,v5]) (B:=mR) tb1 hxb hob rfl (fun i hi=>hpb.oo i hi) (by omega) (by omega) ?_
   intro v6 M6 hv6 hC7 hF6
   have hg6:=(hC7.get hdob (fun h=>tb1.new _ h hpb.oR)).trans hdgb
   have ho6:=hC7.old hdob
   have hPD:=B8 (n:=n) hpb hbb tb1 tb2 tb3 hv6 hC7 hF6
   simp (disch:=first|assumption|omega|(simp only[aI]<;>omega)) only[go_sem,seval,hg6,hv6.sl.one]
   refine hK _ ⟨?_,vc,v6,vr,hPD⟩
   refine (h0b.trans hC7 fun i hi ho=>Qn (h0R i ho) (tb1.new i hi)).trans (aE rfl) fun i hi ho=> ?_
   simp only[aB,Qt,Qs,or_false] at hi
   subst hi;exact Qn ho hc.no
  |false=>
   have ne2:¬(aX L [116,104,114,101,97,100] s=true):=by rw[hb2];exact Bool.false_ne_true
   rw[hb2,Qo Bool.false_ne_true] at hd2
   rw[Qo ne2] at hK
   have hp2:=hp1.call hC2 hd2
   have hdg:=hp2.hd.g
   have hl0:(aL L s.a).l[0]? =some (ii (aL L s.a).k):=rfl
   have hl1:(aL L s.a).l[1]? =some (.str (aL L s.a).t):=rfl
   unfold Cp at hK
   have fin:∀{M:NH},PD mR M r vl (bj L P.rd s) P vc vt vr->Chg [] m0 M->∃m',bc Try.prog S0 87 [.ptr r 0,.str eA] M (.tup []) m'/\PD mR m' r vl (aZ L eA (bj L P.rd s)) P vc vt vr/\Chg [] m0 m':=by
    intro M q1 q2
    have ha2:(bj L P.rd s).a<=100000:=by
     have h1:St L s (bj L P.rd s):=by unfold bj;split;exact b8 _ _ _;exact St.refl _ _
     have:=h1.lim ha
     omega
    obtain ⟨m',w1,w2,w3⟩:=gi hc q2 q1.hd eA (by simp) ha2
    exact ⟨m',w1,q1.call w3 w2,hbase q2 w3⟩
   have hst3:(aZ L eA (bj L P.rd s)).a<=L.length:=by
    have h1:St L s (bj L P.rd s):=by unfold bj;split;exact b8 _ _ _;exact St.refl _ _
    exact (h1.trans (bS _ _ _)).lim ha
   have fin2:∀{M:NH},PD mR M r vl (aZ L eA (bj L P.rd s)) P vc vt vr->Chg [] m0 M->PD mR (hp [(.o r,.cells true [vl,ii (aZ L eA (bj L P.rd s)).a,ii (aZ L eA (bj L P.rd s)).e,ii (aZ L eA (bj L P.rd s)).b,.bool true,vc,vt,vr])] 0 M) r vl (aZ L eA (bj L P.rd s)) ⟨P.cs,P.ts,P.rc,true⟩ vc vt vr/\Chg [] m0 (hp [(.o r,.cells true [vl,ii (aZ L eA (bj L P.rd s)).a,ii (aZ L eA (bj L P.rd s)).e,ii (aZ L eA (bj L P.rd s)).b,.bool true,vc,vt,vr])] 0 M):=by
    intro M q1 q2
    obtain ⟨C,q3⟩:=q1.rr
    exact ⟨CW q1 q3 (by simp[aB]),hbase q2 (aE rfl)⟩
   have fin3:∀{M:NH},PD mR M r vl (aZ L eA (bj L P.rd s)) ⟨P.cs,P.ts,P.rc,true⟩ vc vt vr->Chg [] m0 M->∃v m',bc Try.prog S0 88 [.ptr r 0,ii 0] M v m'/\cellsOf v=some [v]/\m'.get r=some (.cells true [vl,ii (dw L 30 (aZ L eA (bj L P.rd s))).2.a,ii (dw L 30 (aZ L eA (bj L P.rd s))).2.e,ii (dw L 30 (aZ L eA (bj L P.rd s))).2.b,.bool true,vc,vt,vr])/\ak m' r/\
    K (.tup []) (hp [(.o r,.cells true [vl,ii (dw L 30 (aZ L eA (bj L P.rd s))).2.a,ii (dw L 30 (aZ L eA (bj L P.rd s))).2.e,ii (dw L 30 (aZ L eA (bj L P.rd s))).2.b,.bool true,vc,vt,v])] 0 m'):=by
    intro M q1 q2
    obtain ⟨v,m',w1,⟨C,w2⟩,w3,w4⟩:=DN hc 30 (Nat.le_refl _) q2 q1.hd hst3
    have q3:=q1.call w4 w3
    obtain ⟨CT,t1,-,-⟩:=q1.tt
    have w5:SS m' (TP mR vc vt) v (dw L 30 (aZ L eA (bj L P.rd s))).1 C:=w2.weak fun i hi=>⟨fun h=>hi (q1.oo i h),fun h=>hi (q1.cc.sl.old i h),fun h=>hi (t1.sl.old i h)⟩
    refine ⟨v,m',w1,w2.sl.one,w3.g,w3.o,hK _ ⟨(hbase q2 w4).trans (aE rfl) fun i hi ho=> ?_,vc,vt,v,CW q3 w5 (by simp[aB])⟩⟩
    simp only[aB,Qt,Qs,or_false] at hi
    subst hi;exact Qn ho hc.no
   have no:∀{M},PD mR M r vl s P vc vt vr->¬(P.rd=true/\(aL L s.a).k=4/\(aL L s.a).t=eA)->PD mR M r vl (bj L P.rd s) P vc vt vr:=fun h q=>by rw[bj,Qo q];exact h
   cases hrd:P.rd with
   |false=>
    rw[hrd] at hdg
    simp (disch:=first|assumption|omega) only[go_sem,seval,hdg,aa]
    refine WF.use1H (fin (no hp2 (by rw[hrd];simp)) h02) ?_
    rintro M7 ⟨hp7,h07⟩
    have hdg7:=hp7.hd.g
    have hdo7:=hp7.hd.o
    obtain ⟨hp8,h08⟩:=fin2 hp7 h07
    obtain ⟨v9,M9,hr9,hv9,hg9,ho9,hK9⟩:=fin3 hp8 h08
    simp (disch:=first|assumption|omega|(simp only[aI]<;>omega)) only[go_sem,seval,hdg7,hr9.wf,hv9,hg9]
    exact hK9
   |true=>
    rw[hrd] at hdg
    obtain ⟨M3,hr3,hC3⟩:=jl hc h02 hp2.hd
    have hp3:=hp2.grow hC3
    have h03:=h02.trans hC3 (by simp)
    obtain ⟨M4,hr4,hC4⟩:=jl hc h03 hp3.hd
    have hp4:=hp3.grow hC4
    have h04:=h03.trans hC4 (by simp)
    by_cases hk:(aL L s.a).k=4
    ·by_cases ht:(aL L s.a).t=eA
     ·simp (disch:=first|assumption|omega) only[go_sem,seval,hdg,hr3.wf',hr4.wf',hl0,hl1,aa]
      refine WF.use1 (ic hp4.hd 5) ?_
      rintro M5 ⟨hd5,hC5⟩
      have hp5:=hp4.call hC5 hd5
      have e5:bj L P.rd s=bt 5 s:=by rw[bj,Qp ⟨hrd,hk,ht⟩]
      simp (disch:=first|assumption|omega) only[go_sem,seval]
      refine WF.use1H (fin (by rw[e5];exact hp5) (hbase h04 hC5)) ?_
      rintro M7 ⟨hp7,h07⟩
      have hdg7:=hp7.hd.g
      have hdo7:=hp7.hd.o
      obtain ⟨hp8,h08⟩:=fin2 hp7 h07
      obtain ⟨v9,M9,hr9,hv9,hg9,ho9,hK9⟩:=fin3 hp8 h08
      simp (disch:=first|assumption|omega|(simp only[aI]<;>omega)) only[go_sem,seval,hdg7,hr9.wf,hv9,hg9]
      exact hK9
     ·simp (disch:=first|assumption|omega) only[go_sem,seval,hdg,hr3.wf',hr4.wf',hl0,hl1,aa]
      refine WF.use1H (fin (no hp4 fun h=>ht h.2.2) h04) ?_
      rintro M7 ⟨hp7,h07⟩
      have hdg7:=hp7.hd.g
      have hdo7:=hp7.hd.o
      obtain ⟨hp8,h08⟩:=fin2 hp7 h07
      obtain ⟨v9,M9,hr9,hv9,hg9,ho9,hK9⟩:=fin3 hp8 h08
      simp (disch:=first|assumption|omega|(simp only[aI]<;>omega)) only[go_sem,seval,hdg7,hr9.wf,hv9,hg9]
      exact hK9
    ·simp (disch:=first|assumption|omega) only[go_sem,seval,hdg,hr3.wf',hr4.wf',hl0,hl1,aa]
     refine WF.use1H (fin (no hp3 fun h=>hk h.2.1) h03) ?_
     rintro M7 ⟨hp7,h07⟩
     have hdg7:=hp7.hd.g
     have hdo7:=hp7.hd.o
     obtain ⟨hp8,h08⟩:=fin2 hp7 h07
     obtain ⟨v9,M9,hr9,hv9,hg9,ho9,hK9⟩:=fin3 hp8 h08
     simp (disch:=first|assumption|omega|(simp only[aI]<;>omega)) only[go_sem,seval,hdg7,hr9.wf,hv9,hg9]
     exact hK9
end
def cM (L:List Tok):Nat->Ps->Rs->Ps×Rs
 |0,P,s=>(P,s)
 |f+1,P,s=>if s.e≠0 then (P,s) else if (aL L s.a).k=5 then (P,s) else cM L f (fw L P s).1 (fw L P s).2
def iK (b:List Nat):Option Prg×Nat×Nat:=if 16384<b.length then (none,0,3) else match (dq b).2 with
 |some a=>(none,a,2)
 |none=>if (cM (dq b).1 ((dq b).1.length+1) ⟨[], [], [],false⟩ ⟨0,0,0⟩).2.e≠0 then (none,(aL (dq b).1 (cM (dq b).1 ((dq b).1.length+1) ⟨[], [], [],false⟩ ⟨0,0,0⟩).2.b).p,(cM (dq b).1 ((dq b).1.length+1) ⟨[], [], [],false⟩ ⟨0,0,0⟩).2.e)
  else (some ⟨(cM (dq b).1 ((dq b).1.length+1) ⟨[], [], [],false⟩ ⟨0,0,0⟩).1.cs,(cM (dq b).1 ((dq b).1.length+1) ⟨[], [], [],false⟩ ⟨0,0,0⟩).1.ts,(cM (dq b).1 ((dq b).1.length+1) ⟨[], [], [],false⟩ ⟨0,0,0⟩).1.rc⟩,b.length,0)
section
variable {L:List Tok}
theorem rj (s:Rs):St L s (sT L s).2:=by
 unfold sT
 split
 ·rename_i h
  have h1:=(cE L s).trans (eu h)
  split
  ·rename_i h2
   exact ((h1.trans (g9 (lB (by omega)) (bH h).1 (by omega))).trans (bS _ _ _)).trans (bS _ _ _)
  ·exact ((h1.trans (b8 _ _ _)).trans (bS _ _ _)).trans (bS _ _ _)
 ·exact (cE L s).trans (bS _ _ _)
theorem qz (s:Rs):St L s (kX L s).2:=(cE L s).trans (fg 30 _)
theorem nh (q:Bool) (s:Rs):St L s (bj L q s):=by unfold bj;split;exact b8 _ _ _;exact St.refl _ _
theorem I4 (q:Bool) (s:Rs):St L s (Cp L q s).2:=((nh q s).trans (bS _ _ _)).trans (fg 30 _)
theorem Ds (P:Ps) (s:Rs):St L s (fw L P s).2:=by
 unfold fw
 split
 ·exact (eu ‹_›).trans (rj _)
 ·split
  ·exact (eu ‹_›).trans (qz _)
  ·exact I4 _ _
theorem Ld (P:Ps) (s:Rs) (he:s.e=0):s.a<(fw L P s).2.a∨(fw L P s).2.e≠0:=by
 unfold fw
 split
 ·left;have:=(rj (L:=L) (aj s)).le;exact this
 ·split
  ·left;have:=(qz (L:=L) (aj s)).le;exact this
  ·have hb:=fg (L:=L) 30 (aZ L eA (bj L P.rd s))
   by_cases h:(aZ L eA (bj L P.rd s)).e=0
   ·left
    obtain ⟨h1,h2⟩:=dS h
    have h3:=(nh (L:=L) P.rd s).le
    have h4:=hb.le
    show s.a<(dw L 30 _).2.a
    omega
   ·right;show (dw L 30 _).2.e≠0
    rw[hb.err h];exact h
theorem yZ (P:Ps) (s:Rs):(fw L P s).1.cs.length+(fw L P s).1.ts.length<=P.cs.length+P.ts.length+1:=by
 unfold fw
 split
 ·simp;omega
 ·split
  ·simp;omega
  ·dsimp only;omega
theorem zI:∀(f:Nat) (P:Ps) (s:Rs),St L s (cM L f P s).2:=by
 intro f
 induction f with
 |zero=>exact fun P s=>St.refl _ _
 |succ f ih=>
  intro P s
  rw[cM]
  split
  ·exact St.refl _ _
  ·split
   ·exact St.refl _ _
   ·exact (Ds P s).trans (ih _ _)
def Ps.sz (P:Ps):Nat:=(P.ts.map fun t=>cz t.2).sum+cz P.rc
theorem Lg (P:Ps) (s:Rs) (h:(fw L P s).2.e=0) (hrd:P.rd=false->P.rc= []):(fw L P s).1.sz+4*s.a<=P.sz+4*(fw L P s).2.a/\((fw L P s).1.rd=false->(fw L P s).1.rc= []):=by
 unfold fw at h ⊢
 split
 ·have:=(rj (L:=L) (aj s)).le
  have n:(aj s).a=s.a+1:=rfl
  refine ⟨?_,hrd⟩
  simp only[Ps.sz];omega
 ·rename_i q;rw[Qo q] at h
  split
  ·rename_i q2;rw[Qp q2] at h
   have h1:=y8 (L:=L) 30 (ba L (aj s)).2 h
   have h2:=(cE L (aj s)).le
   have n:(aj s).a=s.a+1:=rfl
   refine ⟨?_,hrd⟩
   simp only[Ps.sz,List.map_append,List.map_cons,List.map_nil,List.sum_append,List.sum_cons,List.sum_nil,kX];omega
  ·rename_i q2;rw[Qo q2] at h
   have h1:=y8 (L:=L) 30 _ h
   have h0:=(fg (L:=L) 30 _).zero h
   obtain ⟨h2,h3⟩:=dS h0
   have h4:=(nh (L:=L) P.rd s).zero h2
   have h5:(bj L P.rd s).a=s.a:=by unfold bj;split;unfold bt;split<;>rfl;rfl
   refine ⟨?_,fun h=>by simp at h⟩
   simp only[Ps.sz,Cp];omega
theorem HA:∀(f:Nat) (P:Ps) (s:Rs) (a0:Nat),(P.rd=false->P.rc= [])->(s.e=0->P.sz+4*a0<=4*s.a)->(cM L f P s).2.e=0->(cM L f P s).1.sz+4*a0<=4*(cM L f P s).2.a:=by
 intro f
 induction f with
 |zero=>intro P s a0 _ h h2;exact h h2
 |succ f ih=>
  intro P s a0 hrd h
  rw[cM]
  split
  ·intro h2;exact Qn h2 ‹_›
  ·split
   ·intro h2;exact h h2
   ·intro h2
    have h3:=(zI (L:=L) f _ _).zero h2
    have h4:=Lg P s h3 hrd
    refine ih _ _ a0 h4.2 (fun _=> ?_) h2
    have:=h (by omega)
    omega
end
section
variable {m0 mR:NH} {L:List Tok} {vl:NV} {r:D4}
theorem A3 (hc:RC m0 L vl r) (h0R:∀i,ak m0 i->ak mR i) {vb:NV} {X:Ps} {Z:Rs} {M:NH} {P:Ps} {s:Rs} {vc vt vr:NV} (h0:Chg [] m0 M) (hp:PD mR M r vl s P vc vt vr) (ha:s.a<=L.length) (hl:P.cs.length+P.ts.length=0) (hE:cM L (L.length+1) P s=(X,Z))
 {o:D4} {t:Tm} (g1:NT.get D4.e t=some vb) (g2:NT.get D4.e.a.f t=some (.ptr r 0)) (g3:NT.get D4.e.b t=some (.ptr o 0)) (g4:NT.get D4.e.a.a t=some vl) {Q:Out->Dyn->Prop}
 (hQ:∀t' M' vc vt vr,NT.get D4.e t'=some vb->NT.get D4.e.a.f t'=some (.ptr r 0)->NT.get D4.e.b t'=some (.ptr o 0)->NT.get D4.e.a.a t'=some vl->PD mR M' r vl Z X vc vt vr->Chg [] m0 M'->Q (.exit 0) ⟨ai [] t', [],none,M'⟩):
 W Try.prog S0 none qY.loop ⟨t, [],none,M⟩ Q:=by
 refine W.loop (fun k D=>∃t M P s vc vt vr,D=⟨t, [],none,M⟩/\NT.get D4.e t=some vb/\NT.get D4.e.a.f t=some (.ptr r 0)/\NT.get D4.e.b t=some (.ptr o 0)/\NT.get D4.e.a.a t=some vl/\PD mR M r vl s P vc vt vr/\Chg [] m0 M/\s.a<=L.length/\cM L k P s=(X,Z)/\(L.length<k+s.a∨s.e≠0)/\P.cs.length+P.ts.length+k<=L.length+1) ?_ (L.length+1) _ ⟨t,M,P,s,vc,vt,vr,rfl,g1,g2,g3,g4,hp,h0,ha,hE,Or.inl (by omega),by omega⟩
 clear h0 hp ha hl hE g1 g2 g3 g4
 rintro k D ⟨t,M,P,s,vc,vt,vr,rfl,g1,g2,g3,g4,hp,h0,ha,hE,hf,hlk⟩
 apply ap
 unfold qY
 change wp _ _ _ _ ⟨ai [] t, [],none,M⟩ _
 have hll:=hc.len
 have hdg:=hp.hd.g
 by_cases he:s.e=0
 ·obtain ⟨f,rfl⟩:∃f',k=f'+1:=⟨k - 1,by rcases hf with h|h<;>omega⟩
  rw[cM,Qo (by omega)] at hE
  obtain ⟨M2,hr2,hC2⟩:=jl hc h0 hp.hd
  have hp2:=hp.grow hC2
  have h02:=h0.trans hC2 (by simp)
  have hl0:(aL L s.a).l[0]? =some (ii (aL L s.a).k):=rfl
  by_cases hk:(aL L s.a).k=5
  ·rw[Qp hk] at hE
   injection hE with e1 e2
   subst e1 e2
   simp (disch:=first|assumption|omega) only[go_sem,seval,g1,g2,g3,g4,hdg,hr2.wf',hl0]
   exact hQ _ M2 vc vt vr (by simp only[go_sem,seval,g1]) (by simp only[go_sem,seval,g2]) (by simp only[go_sem,seval,g3]) (by simp only[go_sem,seval,g4]) hp2 h02
  ·rw[Qo hk] at hE
   simp (disch:=first|assumption|omega) only[go_sem,seval,g1,g2,g3,g4,hdg,hr2.wf',hl0]
   refine WF.use1 (LO hc h0R h02 hp2 ha (by omega) (by omega)) ?_
   rintro M3 ⟨h03,vc',vt',vr',hp3⟩
   have hpr:=Ld (L:=L) P s he
   have hlim:=(Ds (L:=L) P s).lim ha
   have hlen:=yZ (L:=L) P s
   simp (disch:=first|assumption|omega) only[go_sem,seval]
   refine ⟨f,by omega,_,M3,_,_,vc',vt',vr',by rfl,by simp only[go_sem,seval,g1],by simp only[go_sem,seval,g2],by simp only[go_sem,seval,g3],by simp only[go_sem,seval,g4],hp3,h03,hlim,hE, ?_,by omega⟩
   rcases hpr with h|h
   ·left;rcases hf with q|q<;>omega
   ·exact Or.inr h
 ·have hde':decide ((s.e:Int)=0)=false:=Qq (by omega)
  have hE':(P,s)=(X,Z):=by
   cases k with
   |zero=>exact hE
   |succ k=>rw[cM,Qp he] at hE;exact hE
  injection hE' with e1 e2
  subst e1 e2
  simp (disch:=first|assumption|omega) only[go_sem,seval,g1,g2,g3,g4,hdg,hde']
  exact hQ _ M vc vt vr (by simp only[go_sem,seval,g1]) (by simp only[go_sem,seval,g2]) (by simp only[go_sem,seval,g3]) (by simp only[go_sem,seval,g4]) hp h0
theorem DD:∀(l:List Tok) (b:List Nat) (w:Int),OJ b w l->∀a,1<=(aL l a).k->(aL l a).k<=4->a<l.length - 1:=by
 intro l
 induction l with
 |nil=>intro b w _ a h1;simp[aL] at h1
 |cons x l ih=>
  intro b w h a h1 h2
  obtain ⟨-,-,-,-,h5,h6⟩:=h
  cases a with
  |zero=>
   have e:aL (x::l) 0=x:=rfl
   rw[e] at h1 h2
   have:l≠ []:=fun q=>by have:=h5.mpr q;omega
   have:=List.length_pos_iff.mpr this
   simp;omega
  |succ a=>
   have e:aL (x::l) (a+1)=aL l a:=by simp[aL]
   rw[e] at h1 h2
   have:=ih b x.p h6 a h1 h2
   simp;omega
theorem Bt {m:NH} {v:NV} {b:List Nat} (hv:Sl m v 1 (oI b)) (hb:∀c∈b,c<256):
 ∃w m',bc Try.prog S0 12 [v] m w m'/\(∃vc vt vr,w= .tup [.agg [vc,vt,vr],ii (iK b).2.1,ii (iK b).2.2]/\(match (iK b).1 with|none=>vc= .nils/\vt= .nils/\vr= .nils/\(iK b).2.2≠0|some p=>RP m' (oS m) p vc vt vr/\(iK b).2.2=0/\p.cs.length+p.ts.length<=b.length+2/\(p.ts.map fun t=>cz t.2).sum+cz p.r<=4*(b.length+1)))/\Chg [] m m':=by
 refine WF.ex fun K hK=> ?_
 refine WF.of_wpG (fun _=>rfl) zh (L:= [(.e,v)]) rfl ?_
 unfold JO
 have hlen:=hv.len
 rw[show (oI b).length=b.length by simp] at hlen
 simp (disch:=first|assumption|omega) only[go_sem,seval]
 generalize hM1:hp _ 1 m=M1
 have hC1:Chg [] m M1:=aY hM1 rfl
 have hg1:M1.get (na m 0)=some (.cells true [.nils,.nils,.nils]):=bw hM1
 have ho1:ak M1 (na m 0):=bx hM1 (by omega)
 obtain ⟨w2,M2,hr2,hw2,hC2⟩:=DX M1 (hv.chg hC1 fun _ _=>by simp) hb
 have hg2:=(hC2.get ho1 (by simp)).trans hg1
 have ho2:=hC2.old ho1
 have hC02:=hC1.trans hC2 (by simp)
 unfold iK at hK
 by_cases h16:16384<b.length
 ·rw[Qp h16] at hw2 hK
  subst hw2
  simp (disch:=first|assumption|omega|(simp only[aI]<;>omega)) only[go_sem,seval,hr2.wf,hg2]
  exact hK _ _ ⟨⟨.nils,.nils,.nils,rfl,rfl,rfl,rfl,by show (3:Nat)≠0;omega⟩,hC02.trans (aE rfl) (by simp[aB,az])⟩
 ·rw[Qo h16] at hw2 hK
  cases ht:(dq b).2 with
  |some a=>
   rw[ht] at hw2 hK
   dsimp only at hw2 hK
   subst hw2
   simp (disch:=first|assumption|omega|(simp only[aI]<;>omega)) only[go_sem,seval,hr2.wf,hg2]
   exact hK _ _ ⟨⟨.nils,.nils,.nils,rfl,rfl,rfl,rfl,by show (2:Nat)≠0;omega⟩,hC02.trans (aE rfl) (by simp[aB,az])⟩
  |none=>
   rw[ht] at hw2 hK
   dsimp only at hw2 hK
   obtain ⟨u,rfl,hu⟩:=hw2
   obtain ⟨hok,hne⟩:=GK ht
   have hll:(dq b).1.length<=b.length+1:=lW b (b.length+1) (bz b 0)
   have hlast:=DD _ _ _ hok
   generalize (dq b).1=L at hu hok hne hll hlast hK
   have hlp:=List.length_pos_iff.mpr hne
   simp (disch:=first|assumption|omega|(simp only[aI]<;>omega)) only[go_sem,seval,hr2.wf,hg2,hu.sl.one]
   generalize hM3:hp _ 1 M2=M3
   have hC3:Chg [] M2 M3:=aY hM3 rfl
   have hg3:M3.get (na M2 0)=some (.cells true [u,ii 0,ii 0,ii 0,.bool false,.nils,.nils,.nils]):=bw hM3
   have ho3:ak M3 (na M2 0):=bx hM3 (by omega)
   have hc:RC M2 L u (na M2 0):=⟨hu.sl,by omega,az⟩
   have hp0:PD M3 M3 (na M2 0) u ⟨0,0,0⟩ ⟨[], [], [],false⟩ .nils .nils .nils:=⟨⟨hg3,ho3⟩,aV.nil,⟨[],aV.nil,rfl,by simp⟩,⟨[],sK _ _⟩,by simp[ids],fun i hi=>hi,ho3⟩
   have hst:=zI (L:=L) (L.length+1) ⟨[], [], [],false⟩ ⟨0,0,0⟩
   have hlim:=hst.lim2 hlast (Nat.zero_le _) (Nat.zero_le _)
   have hszp:=HA (L:=L) (L.length+1) ⟨[], [], [],false⟩ ⟨0,0,0⟩ 0 (fun _=>rfl) (fun _=>by simp[Ps.sz,cz])
   have hlenp:(cM L (L.length+1) ⟨[], [], [],false⟩ ⟨0,0,0⟩).1.cs.length+(cM L (L.length+1) ⟨[], [], [],false⟩ ⟨0,0,0⟩).1.ts.length<=L.length+1:=by
    have key:∀(f:Nat) (P:Ps) (s:Rs),(cM L f P s).1.cs.length+(cM L f P s).1.ts.length<=P.cs.length+P.ts.length+f:=by
     intro f
     induction f with
     |zero=>intro P s;exact Nat.le_refl _
     |succ f ih=>
      intro P s
      rw[cM]
      split
      ·dsimp only;omega
      ·split
       ·dsimp only;omega
       ·have h1:=ih (fw L P s).1 (fw L P s).2
        have h2:=yZ (L:=L) P s
        omega
    have:=key (L.length+1) ⟨[], [], [],false⟩ ⟨0,0,0⟩
    simpa using this
   generalize hE:cM L (L.length+1) ⟨[], [], [],false⟩ ⟨0,0,0⟩=q at hK hst hlim hszp hlenp
   obtain ⟨X,Z⟩:=q
   dsimp only at hK hst hlim hszp hlenp
   refine A3 hc (fun i hi=>hC3.old hi) (vb:=v) (o:=na m 0) hC3 hp0 (Nat.zero_le _) rfl hE (by simp only[go_sem,seval]) (by simp only[go_sem,seval]) (by simp only[go_sem,seval]) (by simp only[go_sem,seval]) ?_
   intro t' M4 vc vt vr g1 g2 g3 g4 hp4 h04
   have hdg:=hp4.hd.g
   have hdo:=hp4.hd.o
   have hg4:=(h04.get ho2 (by simp)).trans hg2
   have ho4:=h04.old ho2
   have hC04:Chg [] m M4:=hC02.trans h04 (by simp)
   have hlen4:=(hv.chg hC04 fun _ _=>by simp).len
   rw[show (oI b).length=b.length by simp] at hlen4
   rw[←aa M4]
   by_cases hz:Z.e=0
   ·rw[Qo (by omega)] at hK
    obtain ⟨CT,t1,t2,t3⟩:=hp4.tt
    obtain ⟨CR,r1⟩:=hp4.rr
    simp (disch:=first|assumption|omega|(simp only[aI]<;>omega)) only[go_sem,seval,g1,g2,g3,g4,hdg,hg4,hlen4,hp4.cc.sl.one,t1.sl.one,r1.sl.one]
    generalize hM5:hp _ 0 M4=M5
    have hC5:Chg [na m 0] M4 M5:=aY hM5 rfl
    have hCm3:Chg [] m M3:=hC02.trans hC3 (by simp)
    have hT:∀i,TP M3 vc vt i->i∉ [na m 0]:=fun i hi h=>by
     have h:=one h;subst h;exact hi.1 (hC3.old ho2)
    have hT2:∀i,TP M3 vc vt i->oS m i:=fun i hi h=>hi.1 (hCm3.old h)
    have nw:∀{w e C},aV M3 M4 w e C->∀i∈ids w,i∉ [na m 0]:=fun hw i hi h=>by
     have h:=one h;subst h;exact hw.new _ hi (hC3.old ho2)
    have hs0:=hszp hz
    refine hK _ _ ⟨⟨vc,vt,vr,rfl, ?_,rfl, ?_, ?_⟩,hC04.trans hC5 fun i hi ho=>by
     have hi:=one hi;subst hi;exact Qn ho az⟩
    ·refine ⟨hp4.cc.sl.chg hC5 (nw hp4.cc),fun i hi h=>hp4.cc.new i hi (hCm3.old h),⟨CT,t1.sl.chg hC5 (nw t1),fun i hi h=>t1.new i hi (hCm3.old h),t2,fun j x c a b'=> ?_⟩,⟨CR,(r1.stays (aW.of hC5 hT)).weak hT2⟩⟩
     obtain ⟨w,B,e,q⟩:=t3 j x c a b'
     exact ⟨w,B,e,(q.stays (aW.of hC5 hT)).weak hT2⟩
    ·dsimp only;omega
    ·have:X.sz<=4*(b.length+1):=by omega
     exact this
   ·rw[Qp hz] at hK
    have hb':Z.b<L.length:=by omega
    have hu4:=hu.sl.chg h04 fun _ _=>by simp
    have huo:=hu.chg h04 fun _ _=>by simp
    obtain ⟨id,off,c,a1,-,aN,a2,a3,a4,a5,-⟩:=huo.at Z.b (by simpa using hb')
    have hid:id≠na m 0:=fun e=>aN (e▸ho1)
    have hid':na m 0≠id:=fun e=>hid e.symm
    rw[List.getElem_map] at a5
    have c3:c[off+3]? =some (ii (L[Z.b]).p):=aA a5 3 (by omega)
    have en:aL L Z.b=L[Z.b]:=by rw[aL,List.getElem?_eq_getElem hb'];rfl
    rw[en] at hK
    have hde:decide ((Z.e:Int)≠0)=true:=Qr (by omega)
    have hus:=hu4.same (n:=3)
    have hr0:na M2 0≠na m 0:=fun e=>ho2.ne 0 e.symm
    have hr0':na m 0≠na M2 0:=fun e=>hr0 e.symm
    simp (disch:=first|assumption|omega|(simp only[aI]<;>omega)) only[go_sem,seval,g1,g2,g3,g4,hdg,hg4,hlen4,hde,a1,a2,c3,hus]
    refine hK _ _ ⟨⟨.nils,.nils,.nils,rfl,rfl,rfl,rfl,hz⟩, ?_⟩
    exact nd hC04 (by simp[aB,az])
end
mutual
def Stm.ae (P:Ex->Prop):Stm->Prop
 | .mk _ _ _ _ i x y b e=>P i/\P x/\P y/\pO P b/\pO P e
def pO (P:Ex->Prop):List Stm->Prop
 | []=>True
 |s::l=>s.ae P/\pO P l
end
theorem lc {P:Ex->Prop}:∀{l:List Stm},pO P l↔∀s∈l,s.ae P:=by
 intro l
 induction l with
 |nil=>simp[pO]
 |cons s l ih=>rw[pO,ih];simp
theorem Ak {P:Ex->Prop} {l:List Stm} (h:∀s∈l,∀u∈s.all,P u.i/\P u.x/\P u.y):∀u∈bh l,P u.i/\P u.x/\P u.y:=by
 induction l with
 |nil=>simp[bh]
 |cons s l ih=>
  intro u hu
  rw[bh] at hu
  rcases List.mem_append.1 hu with hu|hu
  ·exact h s (List.mem_cons_self ..) u hu
  ·exact ih (fun t ht=>h t (List.mem_cons_of_mem _ ht)) u hu
theorem J6 {P:Ex->Prop}:∀s:Stm,s.ae P->∀u∈s.all,P u.i/\P u.x/\P u.y:=by
 apply Stm.ind (P:=fun s=>s.ae P->∀u∈s.all,P u.i/\P u.x/\P u.y)
 intro k a nm ce i x y b e hb he h u hu
 rw[Stm.ae] at h
 rw[Stm.all] at hu
 rcases List.mem_cons.1 hu with rfl|hu
 ·exact ⟨h.1,h.2.1,h.2.2.1⟩
 ·rcases List.mem_append.1 hu with hu|hu
  ·split at hu
   ·exact Ak (fun s hs=>hb s hs (lc.1 h.2.2.2.1 s hs)) u hu
   ·simp at hu
  ·split at hu
   ·exact Ak (fun s hs=>he s hs (lc.1 h.2.2.2.2 s hs)) u hu
   ·simp at hu
structure ReadE (L:List Tok) (P:Ex->Prop):Prop where
 i:∀a,P (DM (aL L a).n)
 z:P zE
 n:∀s,P (uH s)
 o:∀o x y,P x->P y->P (wq o x y)
section
variable {L:List Tok} {P:Ex->Prop}
theorem ng (h:ReadE L P) {E:Rs->Ex×Rs} {d:Nat} (hE:∀s,P (E s).1):∀s,P (cN L E d s).1:=by
 intro s
 unfold cN
 split
 ·exact h.z
 split
 ·exact h.z
 split
 ·exact h.i _
 split
 ·exact h.n _
 split
 ·exact hE _
 ·exact h.z
theorem zu (h:ReadE L P) {Q:Rs->Ex×Rs} (hP:∀s,P (Q s).1):∀(f:Nat) (x:Ex) (s:Rs),P x->P (eU L Q f x s).1:=by
 intro f
 induction f with
 |zero=>intro x s h;exact h
 |succ f ih=>
  intro x s hx
  rw[eU]
  split
  ·exact hx
  split
  ·exact hx
  split
  ·exact hx
  ·exact ih _ _ (h.o _ _ _ hx (hP _))
theorem GP (h:ReadE L P):∀(n:Nat) (s:Rs),P (iR L n s).1:=by
 intro n
 induction n with
 |zero=>exact fun s=>zu h (ng h fun s=>h.z) _ _ _ (ng h (fun s=>h.z) s)
 |succ n ih=>exact fun s=>zu h (ng h ih) _ _ _ (ng h ih s)
theorem kz (h:ReadE L P) (s:Rs):P (eq L s).1:=GP h 30 s
theorem oY (h:ReadE L P) (s:Rs):P (bm L s).2.1:=by
 unfold bm
 split
 ·exact kz h _
 ·exact h.z
theorem F1 (h:ReadE L P) {B:Rs->List Stm×Rs} (hB:∀s,pO P (B s).1) (s:Rs):(cJ L B s).1.ae P:=by
 have z:=h.z
 have n:pO P []:=by rw[pO];trivial
 unfold cJ
 split
 ·show (Stm.mk ..).ae P;rw[Stm.ae];exact ⟨z,kz h _,z,n,n⟩
 split
 ·show (Stm.mk ..).ae P;rw[Stm.ae];exact ⟨oY h _,z,z,n,n⟩
 split
 ·show (Stm.mk ..).ae P;rw[Stm.ae];exact ⟨oY h _,kz h _,z,n,n⟩
 split
 ·show (Stm.mk ..).ae P;rw[Stm.ae];exact ⟨oY h _,kz h _,kz h _,n,n⟩
 split
 ·show (Stm.mk ..).ae P;rw[Stm.ae];exact ⟨z,z,z,n,n⟩
 split
 ·show (Stm.mk ..).ae P;rw[Stm.ae];exact ⟨z,kz h _,z,n,n⟩
 split
 ·unfold I9
  split
  ·show (Stm.mk ..).ae P;rw[Stm.ae];exact ⟨z,kz h _,z,hB _,hB _⟩
  ·show (Stm.mk ..).ae P;rw[Stm.ae];exact ⟨z,kz h _,z,hB _,n⟩
 split
 ·show (Stm.mk ..).ae P;rw[Stm.ae];exact ⟨z,kz h _,z,hB _,n⟩
 ·show (Stm.mk ..).ae P;rw[Stm.ae];exact ⟨z,z,z,n,n⟩
theorem tf {S:Rs->Stm×Rs} (hS:∀s,(S s).1.ae P):∀(f:Nat) (l:List Stm) (s:Rs),pO P l->pO P (fC L S f l s).1:=by
 intro f
 induction f with
 |zero=>intro l s h;exact h
 |succ f ih=>
  intro l s h
  rw[fC]
  split
  ·exact h
  split
  ·exact h
  ·refine ih _ _ (lc.2 fun t ht=> ?_)
   rcases List.mem_append.1 ht with ht|ht
   ·exact lc.1 h t ht
   ·rw[List.mem_singleton] at ht;subst ht;exact hS _
theorem xZ (h:ReadE L P):∀(n:Nat) (s:Rs),pO P (dw L n s).1:=by
 intro n
 have n0:pO P []:=by rw[pO];trivial
 induction n with
 |zero=>exact fun s=>tf (fun s=>by rw[Stm.ae];exact ⟨h.z,h.z,h.z,n0,n0⟩) _ _ _ n0
 |succ n ih=>exact fun s=>tf (fun s=>F1 h ih s) _ _ _ n0
def OM (P:Ex->Prop) (Q:Ps):Prop:=(∀t∈Q.ts,pO P t.2)/\pO P Q.rc
theorem JK (h:ReadE L P) {Q:Ps} {s:Rs} (hq:OM P Q):OM P (fw L Q s).1:=by
 unfold fw
 split
 ·exact hq
 split
 ·refine ⟨fun t ht=> ?_,hq.2⟩
  rcases List.mem_append.1 ht with ht|ht
  ·exact hq.1 t ht
  ·rw[List.mem_singleton] at ht;subst ht;exact xZ h 30 _
 ·exact ⟨hq.1,xZ h 30 _⟩
theorem Hf (h:ReadE L P):∀(f:Nat) (Q:Ps) (s:Rs),OM P Q->OM P (cM L f Q s).1:=by
 intro f
 induction f with
 |zero=>intro Q s hq;exact hq
 |succ f ih=>
  intro Q s hq
  rw[cM]
  split
  ·exact hq
  split
  ·exact hq
  ·exact ih _ _ (JK h hq)
end
theorem CG {b:List Nat} {p:Prg} {P:Ex->Prop} (hP:ReadE (dq b).1 P) (h:(iK b).1=some p):(∀t∈p.ts,pO P t.2)/\pO P p.r:=by
 unfold iK at h
 split at h
 ·cases h
 ·split at h
  ·cases h
  ·split at h
   ·cases h
   ·injection h with h
    subst h
    exact Hf hP _ ⟨[], [], [],false⟩ ⟨0,0,0⟩ ⟨by simp,by show pO P [];rw[pO];trivial⟩
theorem JL:∀(l:List Nat) (n v:Nat),n<18446744073709551616->lX l n=some v->v<18446744073709551616:=by
 intro l
 induction l with
 |nil=>intro n v hn h;rw[lX] at h;cases h;exact hn
 |cons c l ih=>
  intro n v hn h
  rw[lX] at h
  split at h
  ·exact ih _ _ ‹_› h
  ·cases h
theorem Jw {s:List Nat} {a kd n e:Nat} {t:List Nat} (h:eZ s a=some (kd,t,n,e)):n<18446744073709551616:=by
 unfold eZ at h
 cases hb:s[a]? with
 |none=>rw[hb] at h;cases h
 |some c=>
  rw[hb] at h
  dsimp only at h
  split at h
  ·split at h
   ·cases h;omega
   ·split at h
    ·cases h;omega
    ·cases h
  ·split at h
   ·cases hv:Bx (cut s a (aT eW s a)) with
    |none=>rw[hv] at h;simp at h
    |some v=>
     rw[hv] at h
     have hvb:v<18446744073709551616:=by
      unfold Bx at hv
      split at hv
      ·cases hv
      ·exact JL _ _ _ (by omega) hv
     dsimp only at h
     split at h<;>cases h
     exact hvb
   ·split at h
    ·cases h;omega
    ·cases h
theorem F9 {s:List Nat}:∀(k a:Nat),∀T∈(cV s k a).1,T.n<18446744073709551616:=by
 intro k
 induction k with
 |zero=>intro a T h;simp[cV] at h
 |succ k ih=>
  intro a T h
  rw[cV] at h
  split at h
  ·cases ht:eZ s a with
   |none=>rw[ht] at h;simp at h
   |some q=>
    obtain ⟨kd,t,n,e⟩:=q
    rw[ht] at h
    dsimp only at h
    rcases List.mem_cons.1 h with rfl|h
    ·exact Jw ht
    ·exact ih _ T h
  ·rw[List.mem_singleton] at h;subst h;show (0:Nat)<_;omega
theorem Nw (b:List Nat) (a:Nat):(aL (dq b).1 a).n<18446744073709551616:=by
 unfold aL
 cases h:(dq b).1[a]? with
 |none=>show (0:Nat)<_;omega
 |some T=>exact F9 _ _ T (List.mem_of_getElem? h)
theorem Fa (b:List Nat):ReadE (dq b).1 Wid:=
 ⟨fun a=> .mk (Nw b a) (by simp) (by simp),.mk (by omega) (by simp) (by simp),fun s=> .mk (by omega) (by simp) (by simp),fun o x y hx hy=> .mk (by omega) (by simp) fun z hz=>by
  simp only[Qt,Qs,or_false] at hz
  rcases hz with rfl|rfl
  ·exact hx
  ·exact hy⟩
theorem GY {Z:List (List Nat)}:∀(l:List Stm) (st:LG),jL (aU (j6 Z) l st).1.2=0->∀x∈l,x.k=1∨x.k=2∨x.k=3->x.ce∈Z:=by
 intro l
 induction l with
 |nil=>intro st _ x hx;simp at hx
 |cons a l ih=>
  intro st h x hx hk
  rw[aU] at h
  split at h
  ·rename_i h2
   rcases List.mem_cons.1 hx with rfl|hx
   ·unfold j6 at h2
    split at h2
    ·cases h2
    ·rename_i q
     refine Classical.byContradiction fun hz=>q ⟨hk,hz⟩
   ·exact ih _ h x hx hk
  ·rename_i h2
   unfold j6 at h h2
   split at h
   ·simp[jL] at h
   ·split at h
    ·simp[jL] at h
    ·split at h
     ·simp[jL] at h
     ·rename_i q1 q2 q3
      rw[Qo q1,Qo q2,Qo q3] at h2
      exact Qn rfl h2
theorem G1 {Z:List (List Nat)} {r:List Stm}:∀(L:List (List Stm)),(iq Z r L).2=0->(∀b∈L,jL (eL Z b)=0)/\jL (eL Z r)=0:=by
 intro L
 induction L with
 |nil=>intro h;exact ⟨by simp,h⟩
 |cons b L ih=>
  intro h
  rw[iq] at h
  split at h
  ·exact Qn h ‹_›
  ·rename_i q
   have:=ih h
   refine ⟨fun c hc=> ?_,this.2⟩
   rcases List.mem_cons.1 hc with rfl|hc
   ·simpa using q
   ·exact this.1 c hc
theorem B9:∀(l:List (List Nat×Int)) (seen:List (List Nat)) (w:Int),cK seen w l=0->∀c∈l,1<=c.2/\c.2<=64:=by
 intro l
 induction l with
 |nil=>intro _ _ _ c hc;simp at hc
 |cons a l ih=>
  intro seen w h c hc
  rw[cK] at h
  split at h
  ·cases h
  split at h
  ·cases h
  split at h
  ·cases h
  ·rename_i q1 q2 q3
   rcases List.mem_cons.1 hc with rfl|hc
   ·unfold mO at q2
    simp only[Bool.not_eq_false,decide_eq_true_eq] at q2
    exact ⟨q2.1,q2.2.1⟩
   ·exact ih _ _ h c hc
theorem L7 {b:List Nat} {p:Prg} (hp:(iK b).1=some p) (hz:∀t∈p.ts,cz t.2<=400000) (hr:cz p.r<=400000) (he:(eT p).2=0):PrgOk p:=by
 unfold eT at he
 split at he
 ·exact Qn he ‹_›
 ·rename_i hh
  have hh:mu p=0:=by simpa using hh
  obtain ⟨hb1,hb2⟩:=G1 _ he
  unfold mu at hh
  split at hh
  ·cases hh
  ·rename_i h1
   split at hh
   ·exact Qn hh ‹_›
   ·rename_i h2
    have hce:cK [] 0 p.cs=0:=by simpa using h2
    obtain ⟨w1,w2⟩:=CG (Fa b) hp
    have key:∀l:List Stm,pO Wid l->jL (eL (wZ p) l)=0->∀s∈l,Gs p.cs s:=fun l hl hE s hs u hu=>by
     have h3:=GY _ _ hE u (o8 hs hu)
     refine ⟨fun hk=> ?_,J6 s (lc.1 hl s hs) u hu⟩
     have:=h3 hk
     unfold wZ at this
     rcases (fo _ _).1 this with q|q
     ·simp at q
     ·exact q
    exact ⟨⟨by omega,B9 _ _ _ hce⟩,hz,hr,fun t ht s hs=>key t.2 (w1 t ht) (hb1 t.2 (List.mem_map_of_mem (f:=fun t:List Nat×List Stm=>t.2) ht)) s hs,fun s hs=>key p.r w2 hb2 s hs,by omega⟩
noncomputable def zF (p:Prg) (s:Rn×Bool) (c:Int):Rn×Bool:=if c=-1 then (lu p s.1.z,s.2) else ((jH p c s.1).2,(jH p c s.1).1&&s.2)
noncomputable def dO (p:Prg) (l:List Int):Rn×Bool:=l.foldl (zF p) (lu p (vG p),true)
theorem nM (p:Prg) (l:List Int) {i:Nat} (hi:i<l.length):dO p (l.take (i+1))=zF p (dO p (l.take i)) l[i]:=by
 unfold dO
 rw[List.take_add_one,List.getElem?_eq_getElem hi,List.foldl_append]
 rfl
def Mu (p:Prg) (l:List Int) (m m':NH) (w:NV):Prop:=
 Chg [] m m'/\if (eT p).2≠0 then w= .tup [.nils,.nils,.bool false] else ∃u v,w= .tup [u,v,.bool (dO p l).2]/\Sl m' u 1 (p9 (dO p l).1.z.out)/\Sl m' v 1 (p9 (dO p l).1.z.cl)/\(dO p l).1.z.out.length<=1000000/\(dO p l).1.z.cl.length<=1000000
set_option maxHeartbeats 1000000 in
theorem Mj {m:NH} {T:D4->Prop} {p:Prg} {vc vt vr:NV} (h:RP m T p vc vt vr) (hs:p.cs.length<=100000/\p.ts.length<=100000) (hz:∀t∈p.ts,cz t.2<=400000) (hr:cz p.r<=400000) (hok:(eT p).2=0->PrgOk p) {vl:NV} {l:List Int} (hl:Sl m vl 1 (rI l)) (hll:l.length<=1000):
 ∃w m',bc Try.prog S0 44 [.agg [vc,vt,vr],vl] m w m'/\Mu p l m m' w:=by
 refine WF.ex fun K' hK'=> ?_
 refine WF.of_wpG (fun _=>rfl) zm (L:= [(.a .e,vl),(.e,.agg [vc,vt,vr])]) rfl ?_
 unfold Io
 generalize hM1:hp [(.n 0,.cells true [vc,vt,vr])] 1 m=M1
 have hC1:Chg [] m M1:=aY hM1 rfl
 have g1:M1.get (na m 0)=some (.cells true [vc,vt,vr]):=bw hM1
 obtain ⟨w,M2,r2,hN⟩:=NU (h.stays (lg hC1 T)) hs hz hr hok
 unfold KG at hN
 unfold Mu at hK'
 have hlen:=hl.len
 rw[List.length_map] at hlen
 by_cases hE:(eT p).2≠0
 ·rw[Qp hE] at hN
  simp only[Qp hE] at hK'
  obtain ⟨rfl,hC2⟩:=hN
  simp (disch:=first|assumption|omega|(simp only[aI]<;>omega)) only[go_sem,seval,hM1,g1,r2.wf']
  exact hK' _ _ ⟨hC1.trans hC2 (by simp),rfl⟩
 ·rw[Qo hE] at hN
  simp only[Qo hE] at hK'
  obtain ⟨r,B,vc1,vt1,vr1,vcl,vo,vth,q,bs,rfl,hRC,hCB,hQ,hC2,hF⟩:=hN
  have hC12:=hC1.trans hC2 (by simp)
  simp (disch:=first|assumption|omega|(simp only[aI]<;>omega)) only[go_sem,seval,hM1,g1,r2.wf',hlen]
  refine W.loop (fun f d=>∃t M i vo vth q bs,d=⟨t, [],none,M⟩/\NT.get D4.e.a.c t=some (.ptr r 0)/\NT.get D4.e.b.a t=some (.bool (dO p (l.take i)).2)/\NT.get D4.e.f.c t=some vl/\NT.get D4.e.f.f t=some (ii (l.length:Nat))/\NT.get D4.e.a.a.a t=some (ii (i:Nat))/\i+f=l.length/\Chg [] m M/\iF p B vc1 vt1 vr1 M r (dO p (l.take i)).1 (2*i) vcl vo vth q bs/\∀i∈RunG.foot r vcl vo vth q bs,¬ak m i) ?_ l.length _ ⟨_,M2,0,vo,vth,q,bs,rfl,by simp only[go_sem,seval],by simp only[go_sem,seval]<;>rfl,by simp only[go_sem,seval],by simp only[go_sem,seval],by simp only[go_sem,seval]<;>rfl,by omega,hC12,hQ,fun i hi w=>hF i hi (hC1.old w)⟩
  clear hQ hF hC2 hC12
  rintro f d ⟨t,M,i,vo,vth,q,bs,rfl,t1,t2,t3,t4,t5,hif,hC,hQ,hF⟩
  apply ap
  unfold z7
  change wp _ _ _ _ ⟨ai [] t, [],none,M⟩ _
  by_cases hi:i<l.length
  ·obtain ⟨id,off,wr,c,a1,a2,a3,a4,a5⟩:=hl.at i (by simpa using hi)
   rw[List.getElem_map] at a5
   have c0:c[off]? =some (ii l[i]):=aA a5 0 (by omega)
   have a2M:=(hC.get a3 (by simp)).trans a2
   have hps:=nM p l hi
   unfold zF at hps
   by_cases hc:l[i]=-1
   ·rw[Qp hc] at hps
    obtain ⟨M3,r3,vth3,q3,bs3,hQ3,e3⟩:=Gp hRC hQ
    simp (disch:=first|assumption|omega) only[go_sem,seval,t1,t2,t3,t4,t5,a1,a2M,c0,hc,r3.wf']
    refine ⟨f - 1,by omega,_,M3,i+1,vo,vth3,q3,bs3,by rfl,by simp only[go_sem,seval,t1],by simp only[go_sem,seval,t2];rw[hps],by simp only[go_sem,seval,t3],by simp only[go_sem,seval,t4],by simp only[go_sem,seval]<;>rfl,by omega,hC.trans e3.c fun i hi w=>Qn w (hF i hi), ?_,fun i hi w=>(e3.f i hi).elim (fun q=>hF i q w) fun q=>q (hC.old w)⟩
    rw[hps]
    exact hQ3.more (by omega)
   ·rw[Qo hc] at hps
    obtain ⟨M3,r3,vo3,q3,bs3,hQ3,e3⟩:=Js hRC (by omega) hQ l[i]
    cases hb:(jH p l[i] (dO p (l.take i)).1).1 with
    |true=>
     rw[hb] at r3 hps
     rw[Bool.true_and] at hps
     simp (disch:=first|assumption|omega) only[go_sem,seval,t1,t2,t3,t4,t5,a1,a2M,c0,r3.wf']
     refine ⟨f - 1,by omega,_,M3,i+1,vo3,vth,q3,bs3,by rfl,by simp only[go_sem,seval,t1],by simp only[go_sem,seval,t2];rw[hps],by simp only[go_sem,seval,t3],by simp only[go_sem,seval,t4],by simp only[go_sem,seval]<;>rfl,by omega,hC.trans e3.c fun i hi w=>Qn w (hF i hi), ?_,fun i hi w=>(e3.f i hi).elim (fun q=>hF i q w) fun q=>q (hC.old w)⟩
     rw[hps]
     exact hQ3.more (by omega)
    |false=>
     rw[hb] at r3 hps
     rw[Bool.false_and] at hps
     simp (disch:=first|assumption|omega) only[go_sem,seval,t1,t2,t3,t4,t5,a1,a2M,c0,r3.wf']
     refine ⟨f - 1,by omega,_,M3,i+1,vo3,vth,q3,bs3,by rfl,by simp only[go_sem,seval,t1],by simp only[go_sem,seval];rw[hps],by simp only[go_sem,seval,t3],by simp only[go_sem,seval,t4],by simp only[go_sem,seval]<;>rfl,by omega,hC.trans e3.c fun i hi w=>Qn w (hF i hi), ?_,fun i hi w=>(e3.f i hi).elim (fun q=>hF i q w) fun q=>q (hC.old w)⟩
     rw[hps]
     exact hQ3.more (by omega)
  ·have e:i=l.length:=by omega
   subst e
   rw[List.take_length] at hQ t2
   have hol:=hQ.ol
   have hcl:=hQ.zk.n
   have hwb:=dc p.cs
   have hcs:=hRC.cs.len
   obtain ⟨u,M3,r3,hu,hC3⟩:=Ns hQ (by omega)
   have hQ3:=hQ.grow hC3
   obtain ⟨v,M4,r4,hv,hC4⟩:=Eo (hQ3:iF ..) (by omega)
   simp (disch:=first|assumption|omega) only[go_sem,seval,t1,t2,t3,t4,t5,r3.wf',r4.wf']
   exact hK' _ _ ⟨(hC.trans hC3 (by simp)).trans hC4 (by simp),u,v,rfl,(hu.chg hC4 fun _ _=>by simp).sl,hv.sl,by omega,by omega⟩
set_option maxRecDepth 100000 in
theorem GD {m:NH} {l:List NV} (h:Ty Try.prog m 43 l):∃v b,l= [v]/\Sl m v 1 (rI b):=by
 obtain ⟨v,C,rfl,hS,hm,hall⟩:=h.inv_slc Try.underlying43
 have key:∀C:List (List NV),(∀c∈C,Ty Try.prog m 3 c)->∃b:List Int,C=rI b:=by
  intro C
  induction C with
  |nil=>intro _;exact ⟨[],rfl⟩
  |cons c C ih=>
   intro h
   obtain ⟨n,rfl,hw⟩:=(h c (List.mem_cons_self ..)).inv_int Try.underlying3
   obtain ⟨l,rfl⟩:=ih fun x hx=>h x (List.mem_cons_of_mem _ hx)
   exact ⟨n::l,rfl⟩
 obtain ⟨b,rfl⟩:=key C hall
 exact ⟨v,b,rfl,hS⟩
theorem Po {n:Int} (h:(Lit.int .u8 n).wf=true):0<=n/\n<256:=by
 have h1:IntKind.u8.min=0:=rfl
 have h2:IntKind.u8.max=255:=rfl
 simp only[Lit.wf,Bool.and_eq_true,decide_eq_true_eq,h1,h2] at h
 omega
set_option maxRecDepth 100000 in
theorem FJ {m:NH} {l:List NV} (h:Ty Try.prog m 22 l):∃v b,l= [v]/\Sl m v 1 (oI b)/\∀x∈b,x<256:=by
 obtain ⟨v,C,rfl,hS,hm,hall⟩:=h.inv_slc Try.underlying22
 have key:∀C:List (List NV),(∀c∈C,Ty Try.prog m 5 c)->∃b:List Nat,C=oI b/\∀x∈b,x<256:=by
  intro C
  induction C with
  |nil=>intro _;exact ⟨[],rfl,by simp⟩
  |cons c C ih=>
   intro h
   obtain ⟨n,rfl,hw⟩:=(h c (List.mem_cons_self ..)).inv_int Try.underlying5
   obtain ⟨l,rfl,g⟩:=ih fun x hx=>h x (List.mem_cons_of_mem _ hx)
   have hn:=Po hw
   obtain ⟨k,rfl⟩:=Qv hn.1
   exact ⟨k::l,rfl,by intro x hx;rcases List.mem_cons.mp hx with rfl|hx;omega;exact g x hx⟩
 obtain ⟨b,rfl,hf⟩:=key C hall
 exact ⟨v,b,rfl,hS,hf⟩
theorem HP {l:List Nat} {x:Nat} (h:x∈l):x<=l.sum:=by
 induction l with
 |nil=>simp at h
 |cons a l ih=>
  rw[List.sum_cons]
  rcases List.mem_cons.mp h with rfl|h
  ·omega
  ·have:=ih h;omega
theorem j7.more {p:Prg} {B m:NH} {vc vt vr:NV} {r:D4} {x:Rn} {o o':Nat} {F:List D4} (h:j7 p B vc vt vr m r x o F) (ho:o<=o'):j7 p B vc vt vr m r x o' F:=by
 rcases h with ⟨a,b,c,d,e,f,g,i⟩|⟨a,b,c,d,e,f,g,h,i⟩
 ·exact Or.inl ⟨a,b,c,d,e,f,g.more ho,i⟩
 ·exact Or.inr ⟨a,b,c,d,e,f,g,h.more ho,i⟩
theorem Oc (a:Bool):de .bool .eql (.bool a) (.bool a)=some (.bool true):=by cases a<;>rfl
theorem Dq {B m:NH} {p:Prg} {vc vt vr:NV} (h:RP B (fun _=>True) p vc vt vr) (hC:Chg [] B m) (hs:p.cs.length<=100000/\p.ts.length<=100000) (hz:∀t∈p.ts,cz t.2<=400000) (hr:cz p.r<=400000) (hok:(eT p).2=0->PrgOk p):
 ∃w m',bc Try.prog S0 41 [.agg [vc,vt,vr]] m w m'/\(if (eT p).2≠0 then w= .nilp/\Chg [] m m' else ∃r F,w= .ptr r 0/\RunC p B vc vt vr/\j7 p B vc vt vr m' r (lu p (vG p)) 0 F/\Chg [] m m'/\∀i∈F,¬ak m i):=by
 refine WF.ex fun K' hK'=> ?_
 refine WF.of_wpG (fun _=>rfl) z9 (L:= [(.e,.agg [vc,vt,vr])]) rfl ?_
 unfold Kv
 generalize hM1:hp [(.n 0,.cells true [vc,vt,vr])] 1 m=M1
 have hC1:Chg [] m M1:=aY hM1 rfl
 have g1:M1.get (na m 0)=some (.cells true [vc,vt,vr]):=bw hM1
 obtain ⟨w,M2,r2,hN⟩:=OD h (hC.trans hC1 (by simp)) hs hz hr hok
 unfold KY at hN
 by_cases hE:(eT p).2≠0
 ·rw[Qp hE] at hN
  simp only[Qp hE] at hK'
  obtain ⟨rfl,hC2⟩:=hN
  simp (disch:=first|assumption|omega|(simp only[aI]<;>omega)) only[go_sem,seval,hM1,g1,r2.wf']
  exact hK' _ _ ⟨rfl,hC1.trans hC2 (by simp)⟩
 ·rw[Qo hE] at hN
  simp only[Qo hE] at hK'
  obtain ⟨r,F,rfl,hRC,hQ,hC2,hF⟩:=hN
  simp (disch:=first|assumption|omega|(simp only[aI]<;>omega)) only[go_sem,seval,hM1,g1,r2.wf']
  exact hK' _ _ ⟨r,F,rfl,hRC,hQ,hC1.trans hC2 (by simp),fun i hi w=>hF i hi (hC1.old w)⟩
theorem Hs {m:NH} {T:D4->Prop} {p:Prg} {vc vt vr:NV} (h:RP m T p vc vt vr):RP m (fun _=>True) p vc vt vr:=by
 obtain ⟨C,hT⟩:=h.t
 obtain ⟨D,hR⟩:=h.r
 exact ⟨h.c,fun _ _=>trivial,⟨C,hT.sl,fun _ _=>trivial,hT.len,fun i x c a b=>by obtain ⟨vb,E,e,q⟩:=hT.R i x c a b;exact ⟨vb,E,e,SS.weakT (fun _ _=>trivial) q⟩⟩,⟨D,SS.weakT (fun _ _=>trivial) hR⟩⟩
set_option maxHeartbeats 1000000 in
theorem judgeOrders (m:NH) (l:List NV) (h:TyA Try.prog m [22,43] l):∃m',bc Try.prog S0 10 l m (.bool true) m':=by
 obtain ⟨x,r,rfl,h1,h⟩:=h.inv1 (by intro fs q;rw[Try.underlying22] at q;simp at q)
 obtain ⟨x2,r2,rfl,h2,h⟩:=h.inv1 (by intro fs q;rw[Try.underlying43] at q;simp at q)
 obtain rfl:=h.inv0
 obtain ⟨v,b,hx,hv,hb⟩:=FJ h1
 have hxv:v=x:=by simpa using hx.symm
 subst hxv
 obtain ⟨v2,ord,hx2,hv2⟩:=GD h2
 have hxv2:v2=x2:=by simpa using hx2.symm
 subst hxv2
 have hal:∀m,bc Try.prog S0 40 [] m (.bool true) m:=fun m=>bc.kept rfl m
 have h:∃v' m',bc Try.prog S0 10 [v,v2] m v' m'/\v'= .bool true:=by
  refine WF.ex fun K hK=> ?_
  refine WF.of_wpG (fun _=>rfl) rY (L:= [(.a .e,v2),(.e,v)]) rfl ?_
  unfold KR
  have hv':Sl (hp [] 0 m) v 1 (oI b):=by rw[aa];exact hv
  obtain ⟨w,M1,hr1,⟨vc,vt,vr,rfl,hpp⟩,hC1⟩:=Bt hv' hb
  rw[aa] at hC1
  have hlen:=(hv.chg hC1 fun _ _=>by simp).len
  rw[show (oI b).length=b.length by simp] at hlen
  have hlen2:=(hv2.chg hC1 fun _ _=>by simp).len
  rw[List.length_map] at hlen2
  cases hprog:(iK b).1 with
  |none=>
   rw[hprog] at hpp
   obtain ⟨-,-,-,he⟩:=hpp
   have he':((iK b).2.2:Int)≠0:=by omega
   simp (disch:=first|assumption|omega|(simp only[aI]<;>omega)) only[go_sem,seval,(hal _).wf',hr1.wf,he']
   exact hK _ _ rfl
  |some p=>
   rw[hprog] at hpp
   obtain ⟨hpp,he,hs1,hs2⟩:=hpp
   by_cases hlb:1500<b.length
   ·simp (disch:=first|assumption|omega|(simp only[aI]<;>omega)) only[go_sem,seval,(hal _).wf',hr1.wf,he,hlen]
    exact hK _ _ rfl
   ·by_cases hlo:100<ord.length
    ·simp (disch:=first|assumption|omega|(simp only[aI]<;>omega)) only[go_sem,seval,(hal _).wf',hr1.wf,he,hlen,hlen2]
     exact hK _ _ rfl
    ·have hcs:p.cs.length<=100000/\p.ts.length<=100000:=by omega
     have hz:∀t∈p.ts,cz t.2<=400000:=fun t ht=>by
      have:=HP (List.mem_map_of_mem (f:=fun t:List Nat×List Stm=>cz t.2) ht)
      omega
     have hzr:cz p.r<=400000:=by omega
     have hok:=L7 hprog hz hzr
     obtain ⟨CT0,hT0⟩:=hpp.t
     obtain ⟨CR0,hR0⟩:=hpp.r
     generalize hM2:hp [(.n 0,.cells true [vc,vt,vr]),(.n 0,.cells true [.nils,.nils,.nils])] 1 M1=M2
     have hC2:Chg [] M1 M2:=aY hM2 rfl
     have g2:M2.get (na M1 0)=some (.cells true [vc,vt,vr]):=bw hM2
     have o2:ak M2 (na M1 0):=bx hM2 (by omega)
     have hp2:=hpp.stays (lg hC2 _)
     have hCm2:=hC1.trans hC2 (by simp)
     obtain ⟨w3,M3,hr3,hw3⟩:=Dq (Hs hp2) (Chg.refl M2) hcs hz hzr hok
     have kc:=hpp.c.one
     have kt:=hT0.sl.one
     have kr:=hR0.sl.one
     by_cases hE:(eT p).2≠0
     ·rw[Qp hE] at hw3
      obtain ⟨rfl,hC3⟩:=hw3
      simp (disch:=first|assumption|omega|(simp only[aI]<;>omega)) only[go_sem,seval,(hal _).wf',hr1.wf,he,hlen,hlen2,kc,kt,kr,hM2,g2,hr3.wf',H8]
      exact hK _ _ rfl
     ·rw[Qo hE] at hw3
      obtain ⟨r,F,rfl,hRC,hQ,hC3,hF⟩:=hw3
      simp (disch:=first|assumption|omega|(simp only[aI]<;>omega)) only[go_sem,seval,(hal _).wf',hr1.wf,he,hlen,hlen2,kc,kt,kr,hM2,g2,hr3.wf',zl]
      refine W.loop (fun f d=>∃t M i F,d=⟨t, [],none,M⟩/\NT.get D4.e.b.a t=some (.ptr r 0)/\NT.get D4.e.a t=some v2/\NT.get D4.e.a.b t=some (.ptr (na M1 0) 0)/\NT.get D4.e.b.b t=some (.bool (dO p (ord.take i)).2)/\NT.get D4.e.b.c t=some (ii (i:Nat))/\i+f=ord.length/\Chg [] M2 M/\j7 p M2 vc vt vr M r (dO p (ord.take i)).1 (2*i) F) ?_ ord.length _ ⟨_,M3,0,F,rfl,by simp only[go_sem,seval],by simp only[go_sem,seval],by simp only[go_sem,seval],by simp only[go_sem,seval]<;>rfl,by simp only[go_sem,seval]<;>rfl,by omega,hC3,hQ⟩
      clear hQ hF
      rintro f d ⟨t,M,i,F,rfl,t1,t2,t3,t4,t5,hif,hC,hQ⟩
      apply ap
      unfold z6
      change wp _ _ _ _ ⟨ai [] t, [],none,M⟩ _
      have hC2M:=hCm2.trans hC (by simp)
      by_cases hi:i<ord.length
      ·obtain ⟨id,off,wr,c,a1,a2,a3,a4,a5⟩:=hv2.at i (by simpa using hi)
       rw[List.getElem_map] at a5
       have c0:c[off]? =some (ii ord[i]):=aA a5 0 (by omega)
       have a2M:=(hC2M.get a3 (by simp)).trans a2
       have hps:=nM p ord hi
       unfold zF at hps
       have hnF:∀i∈F,¬ak M2 i:=fun i hi=>(hQ.all i hi).2
       by_cases hc:ord[i]=-1
       ·rw[Qp hc] at hps
        obtain ⟨M4,r4,F4,hQ4,e4⟩:=G0 hRC hQ
        simp (disch:=first|assumption|omega) only[go_sem,seval,t1,t2,t3,t4,t5,hlen2,a1,a2M,c0,hc,r4.wf']
        refine ⟨f - 1,by omega,_,M4,i+1,F4,by rfl,by simp only[go_sem,seval,t1],by simp only[go_sem,seval,t2],by simp only[go_sem,seval,t3],by simp only[go_sem,seval,t4];rw[hps],by simp only[go_sem,seval]<;>rfl,by omega,hC.trans e4.c fun i hi w=>Qn w (hnF i hi), ?_⟩
        rw[hps]
        exact hQ4.more (by omega)
       ·rw[Qo hc] at hps
        obtain ⟨M4,r4,F4,hQ4,e4⟩:=Is hRC (by omega) hQ ord[i]
        cases hb:(jH p ord[i] (dO p (ord.take i)).1).1 with
        |true=>
         rw[hb] at r4 hps
         rw[Bool.true_and] at hps
         simp (disch:=first|assumption|omega) only[go_sem,seval,t1,t2,t3,t4,t5,hlen2,a1,a2M,c0,r4.wf']
         refine ⟨f - 1,by omega,_,M4,i+1,F4,by rfl,by simp only[go_sem,seval,t1],by simp only[go_sem,seval,t2],by simp only[go_sem,seval,t3],by simp only[go_sem,seval,t4];rw[hps],by simp only[go_sem,seval]<;>rfl,by omega,hC.trans e4.c fun i hi w=>Qn w (hnF i hi), ?_⟩
         rw[hps]
         exact hQ4.more (by omega)
        |false=>
         rw[hb] at r4 hps
         rw[Bool.false_and] at hps
         simp (disch:=first|assumption|omega) only[go_sem,seval,t1,t2,t3,t4,t5,hlen2,a1,a2M,c0,r4.wf']
         refine ⟨f - 1,by omega,_,M4,i+1,F4,by rfl,by simp only[go_sem,seval,t1],by simp only[go_sem,seval,t2],by simp only[go_sem,seval,t3],by simp only[go_sem,seval];rw[hps],by simp only[go_sem,seval]<;>rfl,by omega,hC.trans e4.c fun i hi w=>Qn w (hnF i hi), ?_⟩
         rw[hps]
         exact hQ4.more (by omega)
      ·have e:i=ord.length:=by omega
       subst e
       rw[List.take_length] at t4
       have gM:=(hC.get o2 (by simp)).trans g2
       obtain ⟨w5,M5,r5,hC5,hw5⟩:=Mj (hp2.stays (lg hC _)) hcs hz hzr hok (hv2.chg hC2M fun _ _=>by simp) (l:=ord) (by omega)
       rw[Qo hE] at hw5
       obtain ⟨u5,v5,rfl,-⟩:=hw5
       simp (disch:=first|assumption|omega|(simp only[aI]<;>omega)) only[go_sem,seval,t1,t2,t3,t4,t5,hlen2,gM,r5.wf',Oc]
       exact hK _ _ rfl
 obtain ⟨v',m',h,rfl⟩:=h
 exact ⟨m',h⟩
end FR
