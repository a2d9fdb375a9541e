/- Contracts of functions that the law LowerPrograms reaches, part 2. -/
import Derived.Test.YtcpilcplobihkaaLoU1
open Go Nm Go.Proofs
namespace FR
set_option linter.unusedSimpArgs false
set_option linter.unusedVariables false
section
variable {L:List Tok}
theorem iH (s:Rs):St L s (ei L s).2:=cm L 30 s
theorem jI {x:Stm} {s s':Rs} (h:St L s s'):St L s (uZ L x s').2:=h.trans (bR _ _ _)
theorem Jq (p:Int) (s:Rs):St L s (Mo L p s).2:=jI ((cv L s).trans (iH _))
theorem Hp (p:Int) (s:Rs):St L s (HP L p s).2:=jI ((cv L s).trans (eB _))
theorem EZ (p:Int) (s:Rs):St L s (Ec L p s).2:=jI ((eB s).trans (iH _))
theorem I8 (p:Int) (s:Rs):St L s (Mr L p s).2:=jI ((((cv L s).trans (eB _)).trans (iH _)).trans (iH _))
theorem Jp (p:Int) (s:Rs):St L s (Ml L p s).2:=jI (iH _)
theorem LC {B:Rs->List Stm×Rs} (hB:∀s,St L s (B s).2) (p:Int) (s:Rs):St L s (Kv L B p s).2:=by
 unfold Kv
 have h:=(iH (L:=L) s).trans (hB _)
 split
 ·rename_i q;exact (h.trans (ef q)).trans (hB _)
 ·exact h
theorem Dw {B:Rs->List Stm×Rs} (hB:∀s,St L s (B s).2) (p:Int) (s:Rs):St L s (C8 L B p s).2:=(iH s).trans (hB _)
theorem uj {B:Rs->List Stm×Rs} (hB:∀s,St L s (B s).2) (s:Rs):(∃t,St L s t/\St L t (cP L B s).2/\(s.e=0->s.a<t.a∨t.e≠0)):=by
 have y:∀{w:List Nat},a8 L w s=true->St L s (aq s):=fun h=>ef h
 have n:s.a<(aq s).a:=Nat.lt_succ_self _
 unfold cP
 split
 ·exact ⟨aq s,y ‹_›,Jq _ _,fun _=>Or.inl n⟩
 ·split
  ·exact ⟨aq s,y ‹_›,Hp _ _,fun _=>Or.inl n⟩
  ·split
   ·exact ⟨aq s,y ‹_›,EZ _ _,fun _=>Or.inl n⟩
   ·split
    ·exact ⟨aq s,y ‹_›,I8 _ _,fun _=>Or.inl n⟩
    ·split
     ·exact ⟨aq s,y ‹_›,jI (St.refl _ _),fun _=>Or.inl n⟩
     ·split
      ·exact ⟨aq s,y ‹_›,Jp _ _,fun _=>Or.inl n⟩
      ·split
       ·exact ⟨aq s,y ‹_›,LC hB _ _,fun _=>Or.inl n⟩
       ·split
        ·exact ⟨aq s,y ‹_›,Dw hB _ _,fun _=>Or.inl n⟩
        ·refine ⟨bp 2 s,b7 _ _ _,jI (St.refl _ _),fun h=>Or.inr ?_⟩
         rw[bp,if_pos h];show (2:Nat)≠0;omega
theorem rq {B:Rs->List Stm×Rs} (hB:∀s,St L s (B s).2) (s:Rs):St L s (cP L B s).2:=by
 obtain ⟨t,h1,h2,-⟩:=uj hB s
 exact h1.trans h2
theorem Gy {B:Rs->List Stm×Rs} (hB:∀s,St L s (B s).2) (s:Rs) (he:s.e=0):s.a<(cP L B s).2.a∨(cP L B s).2.e≠0:=by
 obtain ⟨t,h1,h2,h3⟩:=uj hB s
 rcases h3 he with q|q
 ·left;have:=h2.le;omega
 ·right;rw[h2.err q];exact q
theorem sF {S:Rs->Stm×Rs} (hS:∀s,St L s (S s).2):∀(f:Nat) (l:List Stm) (s:Rs),St L s (gG L S f l s).2:=by
 intro f
 induction f with
 |zero=>exact fun l s=>St.refl _ _
 |succ f ih=>
  intro l s
  rw[gG]
  split
  ·exact St.refl _ _
  ·split
   ·exact ef ‹_›
   ·exact (hS s).trans (ih _ _)
theorem u4 {S:Rs->Stm×Rs} (hS:∀s,St L s (S s).2) (d:Nat) (s:Rs):St L s (iY L S d s).2:=((kI d s).trans (bR _ _ _)).trans (sF hS _ _ _)
theorem eS:∀(n:Nat) (s:Rs),St L s (dD L n s).2:=by
 intro n
 induction n with
 |zero=>exact fun s=>u4 (fun s=>b7 _ _ _) _ s
 |succ n ih=>exact fun s=>u4 (rq ih) _ s
def NU (B:Rs->List Stm×Rs):Prop:=∀s,(B s).2.e=0->bA (B s).1+4*s.a<=4*(B s).2.a
theorem kP (s:Rs) (h:(ei L s).2.e=0):(ei L s).1.sz+s.a<=(ei L s).2.a:=ru L 30 s h
theorem mX {s:Rs} (h:(bf L s).2.e=0):s.a+1<=(bf L s).2.a:=by
 unfold bf at h ⊢
 split
 ·rename_i q
  rw[if_pos q] at h
  have h0:=(b7 L 2 s).zero h
  rw[bp,if_pos h0] at h
  exact absurd h (by show (2:Nat)≠0;omega)
 ·exact Nat.le_refl _
theorem dT {w:List Nat} {s:Rs} (h:(a9 L w s).e=0):s.e=0/\(a9 L w s).a=s.a+1:=by
 have h0:=(bR L w s).zero h
 refine ⟨h0, ?_⟩
 unfold a9 at h ⊢
 split
 ·rfl
 ·rename_i q
  rw[if_neg q,bp,if_pos h0] at h
  exact absurd h (by show (2:Nat)≠0;omega)
theorem nO {s:Rs} (h:(bn L s).2.2.e=0):(bn L s).2.1.sz+s.a<=(bn L s).2.2.a:=by
 unfold bn at h ⊢
 split
 ·rename_i q
  rw[if_pos q] at h
  obtain ⟨h1,h2⟩:=dT h
  have h3:=kP _ h1
  have h4:=(ef q).le
  have h5:=(cv L s).le
  have h6:(aq (bf L s).2).a=(bf L s).2.a+1:=rfl
  dsimp only at h1 h2 h3 h4 h5 ⊢
  omega
 ·rename_i q
  rw[if_neg q] at h
  have:=mX h
  simp[zE,Ex.sz,jd];omega
theorem mw:zE.sz=1:=by simp[zE,Ex.sz,jd]
theorem gH (k p:Int) (nm ce:List Nat) (i x y:Ex) (b e:List Stm):(Stm.mk k p nm ce i x y b e).sz=1+i.sz+x.sz+y.sz+bA b+bA e:=by rw[Stm.sz]
theorem pK:bA []=0:=rfl
set_option maxHeartbeats 4000000 in
theorem Hb {B:Rs->List Stm×Rs} (hSt:∀s,St L s (B s).2) (hB:NU B) (s:Rs) (h:(cP L B s).2.e=0):(cP L B s).1.sz+4*s.a<=4*(cP L B s).2.a:=by
 have n:(aq s).a=s.a+1:=rfl
 unfold cP at h ⊢
 split
 ·rename_i q
  rw[if_pos q] at h
  obtain ⟨h1,h2⟩:=dT h
  have h3:=kP _ h1
  have h4:=mX ((iH (L:=L) _).zero h1)
  show (Stm.mk ..).sz+_<=4*(a9 L [59] _).a
  rw[h2,gH,mw,pK];omega
 ·rename_i q0;rw[if_neg q0] at h
  split
  ·rename_i q
   rw[if_pos q] at h
   obtain ⟨h1,h2⟩:=dT h
   have h3:=nO h1
   have h4:=mX ((eB (L:=L) _).zero h1)
   show (Stm.mk ..).sz+_<=4*(a9 L [59] _).a
   rw[h2,gH,mw,pK];omega
  ·rename_i q0;rw[if_neg q0] at h
   split
   ·rename_i q
    rw[if_pos q] at h
    obtain ⟨h1,h2⟩:=dT h
    have h3:=kP _ h1
    have h4:=nO ((iH (L:=L) _).zero h1)
    show (Stm.mk ..).sz+_<=4*(a9 L [59] _).a
    rw[h2,gH,mw,pK];omega
   ·rename_i q0;rw[if_neg q0] at h
    split
    ·rename_i q
     rw[if_pos q] at h
     obtain ⟨h1,h2⟩:=dT h
     have h3:=kP _ h1
     have h1':=(iH (L:=L) _).zero h1
     have h4:=kP _ h1'
     have h1'':=(iH (L:=L) _).zero h1'
     have h5:=nO h1''
     have h6:=mX ((eB (L:=L) _).zero h1'')
     show (Stm.mk ..).sz+_<=4*(a9 L [59] _).a
     rw[h2,gH,pK];omega
    ·rename_i q0;rw[if_neg q0] at h
     split
     ·rename_i q
      rw[if_pos q] at h
      obtain ⟨h1,h2⟩:=dT h
      show (Stm.mk ..).sz+_<=4*(a9 L [59] _).a
      rw[h2,gH,mw,pK];omega
     ·rename_i q0;rw[if_neg q0] at h
      split
      ·rename_i q
       rw[if_pos q] at h
       obtain ⟨h1,h2⟩:=dT h
       have h3:=kP _ h1
       show (Stm.mk ..).sz+_<=4*(a9 L [59] _).a
       rw[h2,gH,mw,pK];omega
      ·rename_i q0;rw[if_neg q0] at h
       split
       ·rename_i q
        rw[if_pos q] at h
        unfold Kv at h ⊢
        split
        ·rename_i q2
         rw[if_pos q2] at h
         have h1:=hB _ h
         have h2:=(hSt _).zero h
         have h3:=hB _ h2
         have h4:=kP _ ((hSt _).zero h2)
         have h5:(aq (B (ei L (aq s)).2).2).a=(B (ei L (aq s)).2).2.a+1:=rfl
         rw[gH,mw];dsimp only at *;omega
        ·rename_i q2
         rw[if_neg q2] at h
         have h3:=hB _ h
         have h4:=kP _ ((hSt _).zero h)
         rw[gH,mw,pK];dsimp only at *;omega
       ·rename_i q0;rw[if_neg q0] at h
        split
        ·rename_i q
         rw[if_pos q] at h
         have h3:=hB _ h
         have h4:=kP _ ((hSt _).zero h)
         show (Stm.mk ..).sz+_<=4*(B _).2.a
         rw[gH,mw,pK];omega
        ·rename_i q0;rw[if_neg q0] at h
         obtain ⟨h1,h2⟩:=dT h
         have h3:=(b7 L 2 s).zero h1
         rw[bp,if_pos h3] at h1
         exact absurd h1 (by show (2:Nat)≠0;omega)
theorem wT (a b:List Stm):bA (a++b)=bA a+bA b:=by
 induction a with
 |nil=>simp[bA]
 |cons x a ih=>rw[List.cons_append,bA,bA,ih];omega
theorem Fp {S:Rs->Stm×Rs} (hSt:∀s,St L s (S s).2) (hS:∀s,(S s).2.e=0->(S s).1.sz+4*s.a<=4*(S s).2.a):∀(f:Nat) (l:List Stm) (s:Rs) (a0:Nat),(s.e=0->bA l+4*a0<=4*s.a)->(gG L S f l s).2.e=0->bA (gG L S f l s).1+4*a0<=4*(gG L S f l s).2.a:=by
 intro f
 induction f with
 |zero=>intro l s a0 h h2;exact h h2
 |succ f ih=>
  intro l s a0 h
  rw[gG]
  split
  ·intro h2;exact absurd h2 ‹_›
  ·split
   ·rename_i q1 q2
    intro h2
    have h1:=h (by omega)
    have:(aq s).a=s.a+1:=rfl
    dsimp only;omega
   ·rename_i q1 q2
    refine ih _ _ a0 fun h2=> ?_
    have h1:=h (by omega)
    have h3:=hS s h2
    rw[wT,bA,pK];omega
theorem C2 {S:Rs->Stm×Rs} (hSt:∀s,St L s (S s).2) (hS:∀s,(S s).2.e=0->(S s).1.sz+4*s.a<=4*(S s).2.a) (d:Nat):NU (iY L S d):=by
 intro s h
 refine Fp hSt hS _ _ _ s.a (fun h2=> ?_) h
 have:=((kI (L:=L) d s).trans (bR L [123] _)).le
 rw[pK];omega
theorem yZ:∀n:Nat,NU (dD L n):=by
 intro n
 induction n with
 |zero=>
  intro s h
  have h1:=(sF (L:=L) (S:=fun s=>(Stm.mk 0 0 [] [] zE zE zE [] [],bp 2 s)) (fun s=>b7 _ _ _) _ _ _).zero h
  have h2:=(bR L [123] _).zero h1
  have h3:=(kI (L:=L) 30 s).zero h2
  exfalso
  obtain ⟨h4,h5⟩:=dT h1
  have hff:∀e (s:Rs),e≠0->(bp e s).e≠0:=fun e s h=>by unfold bp;split;exact h;assumption
  by_cases hk:(aT L s.a).k=3/\(aT L s.a).t= [123]
  ·rw[dG,if_pos ⟨h3,by omega,hk.1,hk.2⟩] at h4
   exact hff 11 s (by omega) h4
  ·have e1:dG L 30 s=s:=by rw[dG,if_neg (fun h=>hk ⟨h.2.2.1,h.2.2.2⟩)]
   rw[e1] at h1
   have e2:a8 L [123] s=false:=decide_eq_false fun q=>hk ⟨q.2.1,q.2.2⟩
   rw[a9,e2,if_neg Bool.false_ne_true] at h1
   exact hff 2 s (by omega) h1
 |succ n ih=>exact C2 (rq (eS n)) (Hb (eS n) ih) _
end
section
variable {m0:NH} {L:List Tok} {vl:NV} {r:D4} {rest:List NV}
theorem Ed (hc:RC m0 L vl r):∀n,n<=30->Nu m0 L vl r rest (dD L n) (30 - n):=by
 intro n
 induction n with
 |zero=>
  intro _
  have e2:dD L 0=iY L (fun s=>(.mk 0 0 [] [] zE zE zE [] [],bp 2 s)) 30:=by funext s;rfl
  rw[e2]
  intro m s
  exact zt (S:=fun s=>(.mk 0 0 [] [] zE zE zE [] [],bp 2 s)) hc (fun s=>b7 _ _ _) (fun s he=>Or.inr (by rw[bp,if_pos he];show (2:Nat)≠0;omega)) (fun h=>by omega)
 |succ n ih=>
  intro hn
  have e:30 - (n+1)=29 - n:=by omega
  have h1:29 - n+1=30 - n:=by omega
  have e2:dD L (n+1)=iY L (cP L (dD L n)) (29 - n):=by funext s;rfl
  rw[e,e2]
  intro m s
  exact zt hc (rq (eS n)) (Gy (eS n)) (fun _=>by rw[←h1] at ih;intro m s;exact HR hc (eS n) (ih (by omega)) (by omega))
end
end FR
open Go Nm Go.Proofs
namespace FR
set_option linter.unusedSimpArgs false
set_option linter.unusedVariables false
structure Ps where
 cs:List (List Nat×Int)
 ts:List (List Nat×List Stm)
 rc:List Stm
 rd:Bool
section
variable (L:List Tok)
def bH (T:Tok):Int:=if T.n<1048576 then T.n else 1048576
def qn (s:Rs):(List Nat×Int)×Rs:=
 if a8 L [91] (bf L s).2=true then
  if (aT L (aq (bf L s).2).a).k=2 then (((bf L s).1,bH (aT L (aq (bf L s).2).a)),a9 L [59] (a9 L [93] (aq (aq (bf L s).2))))
  else (((bf L s).1,1),a9 L [59] (a9 L [93] (bp 2 (aq (bf L s).2))))
 else (((bf L s).1,1),a9 L [59] (bf L s).2)
def kE (s:Rs):(List Nat×List Stm)×Rs:=(((bf L s).1,(dD L 30 (bf L s).2).1),(dD L 30 (bf L s).2).2)
abbrev ew:List Nat:= [114,101,99,111,118,101,114]
def bi (rec:Bool) (s:Rs):Rs:=if rec=true/\(aT L s.a).k=4/\(aT L s.a).t=ew then bp 5 s else s
def Cu (rec:Bool) (s:Rs):List Stm×Rs:=dD L 30 (a9 L ew (bi L rec s))
def ft (P:Ps) (s:Rs):Ps×Rs:=
 if a8 L [99,101,108,108] s=true then (⟨P.cs++ [(qn L (aq s)).1],P.ts,P.rc,P.rd⟩,(qn L (aq s)).2)
 else if a8 L [116,104,114,101,97,100] s=true then (⟨P.cs,P.ts++ [(kE L (aq s)).1],P.rc,P.rd⟩,(kE L (aq s)).2)
 else (⟨P.cs,P.ts,(Cu L P.rd s).1,true⟩,(Cu L P.rd s).2)
end
abbrev TP (mR:NH) (vc vt:NV):D4->Prop:=fun i=>¬ay mR i/\i∉ids vc/\i∉ids vt
structure PD (mR M:NH) (r:D4) (vl:NV) (s:Rs) (P:Ps) (vc vt vr:NV):Prop where
 hd:RD M r vl s [.bool P.rd,vc,vt,vr]
 cc:bz mR M vc 2 (lm P.cs)
 tt:∃C,bz mR M vt 2 C/\C.length=P.ts.length/\∀(j:Nat) (x:List Nat×List Stm) (c:List NV),P.ts[j]? =some x->C[j]? =some c->∃vb B,c= [.str x.1,vb]/\SS M (TP mR vc vt) vb x.2 B
 rr:∃C,SS M (TP mR vc vt) vr P.rc C
 dd:∀i∈ids vc,i∉ids vt
 oo:∀i,ay mR i->ay M i
 oR:ay mR r
section
variable {m0 mR:NH} {L:List Tok} {vl vc vt vr:NV} {r:D4} {M M':NH} {s s':Rs} {P:Ps}
theorem PD.call (h:PD mR M r vl s P vc vt vr) (hC:Chg [r] M M') (hd:RD M' r vl s' [.bool P.rd,vc,vt,vr]):PD mR M' r vl s' P vc vt vr:=by
 have hn:∀{v e C},bz mR M v e C->∀i∈ids v,i∉ [r]:=fun hv i hi hs=>by
  simp only[List.mem_cons,List.not_mem_nil,or_false] at hs;subst hs;exact hv.new _ hi h.oR
 have hst:bo (TP mR vc vt) M M':=bo.of hC fun i hi hs=>by
  simp only[List.mem_cons,List.not_mem_nil,or_false] at hs;subst hs;exact hi.1 h.oR
 obtain ⟨C,t1,t2,t3⟩:=h.tt
 obtain ⟨D,r1⟩:=h.rr
 exact ⟨hd,h.cc.chg hC (hn h.cc),⟨C,t1.chg hC (hn t1),t2,fun j x c a b=>by obtain ⟨vb,B,e,q⟩:=t3 j x c a b;exact ⟨vb,B,e,q.stays hst⟩⟩,⟨D,r1.stays hst⟩,h.dd,fun i hi=>hC.old (h.oo i hi),h.oR⟩
theorem PD.grow (h:PD mR M r vl s P vc vt vr) (hC:Chg [] M M'):PD mR M' r vl s P vc vt vr:=h.call (hC.weak (by simp)) (h.hd.chg hC (by simp))
end
section
variable {mR:NH} {vl vc vt vr:NV} {r:D4} {M:NH} {s:Rs} {P:Ps}
theorem mZ (h:PD mR M r vl s P vc vt vr) {v:NV} {M5 M6:NH} {c:List Nat×Int} (h5:Chg [] M M5) (hv:bz mR M6 v 2 (lm P.cs++ [[.str c.1,ii c.2]])) (h6:Chg (ids vc) M5 M6) (hF:bD M5 vc v):
 PD mR (hp [(.o r,.cells true [vl,ii s.a,ii s.e,ii s.b,.bool P.rd,v,vt,vr])] 0 M6) r vl s ⟨P.cs++ [c],P.ts,P.rc,P.rd⟩ v vt vr:=by
 have h:=h.grow h5
 have o5:=h.oo
 have hr6:ay M6 r:=h6.old h.hd.o
 have hC:Chg [r] M6 (hp [(.o r,.cells true [vl,ii s.a,ii s.e,ii s.b,.bool P.rd,v,vt,vr])] 0 M6):=ao rfl
 obtain ⟨C,t1,t2,t3⟩:=h.tt
 obtain ⟨D,r1⟩:=h.rr
 have hvt:∀i∈ids vt,i∉ids vc:=fun i hi hc=>h.dd i hc hi
 have nr:∀{v e C M},bz mR M v e C->∀i∈ids v,i∉ [r]:=fun hv i hi hs=>by
  simp only[List.mem_cons,List.not_mem_nil,or_false] at hs;subst hs;exact hv.new _ hi h.oR
 have hS:∀{w:NV} {l:List Stm} {C:List (List NV)},SS M5 (TP mR vc vt) w l C->SS (hp [(.o r,.cells true [vl,ii s.a,ii s.e,ii s.b,.bool P.rd,v,vt,vr])] 0 M6) (TP mR v vt) w l C:=fun q=>by
  have q1:SS M5 (fun i=>TP mR vc vt i/\ay M5 i) _ _ _:=⟨q.sl,fun i hi=>⟨q.hT i hi,q.sl.old i hi⟩,q.len,fun i x c a b=>(q.R i x c a b).old⟩
  have q2:=q1.stays (m':=M6) (bo.of h6 fun i hi hs=>hi.1.2.1 hs)
  have q3:=q2.stays (bo.of hC fun i hi hs=>by
   simp only[List.mem_cons,List.not_mem_nil,or_false] at hs;subst hs;exact hi.1.1 h.oR)
  exact q3.weak fun i hi=>⟨hi.1.1,fun a=>(hF i a).elim hi.1.2.1 fun z=>z hi.2,hi.1.2.2⟩
 refine ⟨⟨(aO hr6).trans az,aa hr6⟩, ?_,⟨C,(t1.chg h6 hvt).chg hC (nr t1),t2,fun j x c a b=>by obtain ⟨vb,B,e,q⟩:=t3 j x c a b;exact ⟨vb,B,e,hS q⟩⟩,⟨D,hS r1⟩,fun i hi ht=>(hF i hi).elim (fun a=>h.dd i a ht) fun z=>z (t1.sl.old i ht),fun i hi=>hC.old (h6.old (o5 i hi)),h.oR⟩
 have e:lm (P.cs++ [c])=lm P.cs++ [[.str c.1,ii c.2]]:=by simp
 show bz mR _ v 2 (lm (P.cs++ [c]))
 rw[e]
 exact hv.chg hC (nr hv)
theorem BN (h:PD mR M r vl s P vc vt vr) {v vb:NV} {B C:List (List NV)} {M6:NH} {n:List Nat} {b:List Stm} (hb:SS M (TP mR vc vt) vb b B) (t1:bz mR M vt 2 C) (t2:C.length=P.ts.length) (t3:∀(j:Nat) (x:List Nat×List Stm) (c:List NV),P.ts[j]? =some x->C[j]? =some c->∃vb B,c= [.str x.1,vb]/\SS M (TP mR vc vt) vb x.2 B)
 (hv':bz mR M6 v 2 (C++ [[.str n,vb]])) (h6:Chg (ids vt) M M6) (hF:bD M vt v):
 PD mR (hp [(.o r,.cells true [vl,ii s.a,ii s.e,ii s.b,.bool P.rd,vc,v,vr])] 0 M6) r vl s ⟨P.cs,P.ts++ [(n,b)],P.rc,P.rd⟩ vc v vr:=by
 have o5:=h.oo
 have hr6:ay M6 r:=h6.old h.hd.o
 have hC:Chg [r] M6 (hp [(.o r,.cells true [vl,ii s.a,ii s.e,ii s.b,.bool P.rd,vc,v,vr])] 0 M6):=ao rfl
 obtain ⟨D,r1⟩:=h.rr
 have nr:∀{v e C M},bz mR M v e C->∀i∈ids v,i∉ [r]:=fun hv i hi hs=>by
  simp only[List.mem_cons,List.not_mem_nil,or_false] at hs;subst hs;exact hv.new _ hi h.oR
 have hS:∀{w:NV} {l:List Stm} {C:List (List NV)},SS M (TP mR vc vt) w l C->SS (hp [(.o r,.cells true [vl,ii s.a,ii s.e,ii s.b,.bool P.rd,vc,v,vr])] 0 M6) (TP mR vc v) w l C:=fun q=>by
  have q1:SS M (fun i=>TP mR vc vt i/\ay M i) _ _ _:=⟨q.sl,fun i hi=>⟨q.hT i hi,q.sl.old i hi⟩,q.len,fun i x c a b=>(q.R i x c a b).old⟩
  have q2:=q1.stays (m':=M6) (bo.of h6 fun i hi hs=>hi.1.2.2 hs)
  have q3:=q2.stays (bo.of hC fun i hi hs=>by
   simp only[List.mem_cons,List.not_mem_nil,or_false] at hs;subst hs;exact hi.1.1 h.oR)
  exact q3.weak fun i hi=>⟨hi.1.1,hi.1.2.1,fun a=>(hF i a).elim hi.1.2.2 fun z=>z hi.2⟩
 refine ⟨⟨(aO hr6).trans az,aa hr6⟩,(h.cc.chg h6 h.dd).chg hC (nr h.cc),⟨C++ [[.str n,vb]],hv'.chg hC (nr hv'),by simp[t2],fun j x c a b'=> ?_⟩,⟨D,hS r1⟩,fun i hi ht=>(hF i ht).elim (fun a=>h.dd i hi a) fun z=>z (h.cc.sl.old i hi),fun i hi=>hC.old (h6.old (o5 i hi)),h.oR⟩
 rcases Nat.lt_or_ge j P.ts.length with q|q
 ·rw[List.getElem?_append_left q] at a
  rw[List.getElem?_append_left (by omega)] at b'
  obtain ⟨w,B2,e,q2⟩:=t3 j x c a b'
  exact ⟨w,B2,e,hS q2⟩
 ·rw[List.getElem?_append_right q] at a
  rw[List.getElem?_append_right (by omega),t2] at b'
  cases hj:j - P.ts.length with
  |zero=>rw[hj] at a b';cases a;cases b';exact ⟨vb,B,rfl,hS hb⟩
  |succ k=>rw[hj] at a;simp at a
theorem Ck (h:PD mR M r vl s P vc vt vr) {v:NV} {C:List (List NV)} {b:List Stm} (hb:SS M (TP mR vc vt) v b C) {l:List (AK×NO)} (hl:∀i∈aR l,i=r):
 PD mR (hp ((.o r,.cells true [vl,ii s.a,ii s.e,ii s.b,.bool true,vc,vt,v])::l) 0 M) r vl s ⟨P.cs,P.ts,b,true⟩ vc vt v:=by
 have hC:Chg [r] M (hp ((.o r,.cells true [vl,ii s.a,ii s.e,ii s.b,.bool true,vc,vt,v])::l) 0 M):=(ao rfl).weak fun i hi _=>by
  simp only[aR,List.mem_cons] at hi ⊢
  rcases hi with rfl|hi
  ·exact Or.inl rfl
  ·exact Or.inl (hl i hi)
 have nr:∀{v e C M},bz mR M v e C->∀i∈ids v,i∉ [r]:=fun hv i hi hs=>by
  simp only[List.mem_cons,List.not_mem_nil,or_false] at hs;subst hs;exact hv.new _ hi h.oR
 obtain ⟨D,t1,t2,t3⟩:=h.tt
 have hst:bo (TP mR vc vt) M (hp ((.o r,.cells true [vl,ii s.a,ii s.e,ii s.b,.bool true,vc,vt,v])::l) 0 M):=bo.of hC fun i hi hs=>by
  simp only[List.mem_cons,List.not_mem_nil,or_false] at hs;subst hs;exact hi.1 h.oR
 exact ⟨⟨(aO h.hd.o).trans az,aa h.hd.o⟩,h.cc.chg hC (nr h.cc),⟨D,t1.chg hC (nr t1),t2,fun j x c a b=>by obtain ⟨w,B,e,q⟩:=t3 j x c a b;exact ⟨w,B,e,q.stays hst⟩⟩,⟨C,hb.stays hst⟩,h.dd,fun i hi=>hC.old (h.oo i hi),h.oR⟩
end
section
variable {m0 mR:NH} {L:List Tok} {vl vc vt vr:NV} {r:D4}
theorem LT (hc:RC m0 L vl r) (h0R:∀i,ay m0 i->ay mR i) {m:NH} {s:Rs} {P:Ps} (h0:Chg [] m0 m) (hp0:PD mR m r vl s P vc vt vr) (ha:s.a<=L.length) (hcs:P.cs.length<=100000) (hts:P.ts.length<=100000):
 ∃m',bm Try.prog S0 47 [.ptr r 0] m (.tup []) m'/\Chg [] m0 m'/\∃vc' vt' vr',PD mR m' r vl (ft L P s).2 (ft L P s).1 vc' vt' vr':=by
 refine WF.ex1 fun K hK=> ?_
 refine WF.of_wpG (fun _=>rfl) yK (L:= [(.e,.ptr r 0)]) rfl ?_
 unfold Jk
 have hll:=hc.len
 have hbase:∀{M M':NH},Chg [] m0 M->Chg [r] M M'->Chg [] m0 M':=fun h h'=>hc.chg h h'
 simp (config:={maxSteps:=1000000}) (disch:=first|assumption|omega|exact ab (by omega)|exact aa (by assumption)|(simp only[ap]<;>omega)) only[go_sem,seval,ag]
 refine WF.use1H (dj hc h0 hp0.hd [99,101,108,108] (by simp) (by omega)) ?_
 rintro M1 ⟨hd1,hC1⟩
 unfold ft at hK
 cases hb:a8 L [99,101,108,108] s with
 |true=>
  rw[hb,if_pos rfl] at hd1 hK
  have hlt:=(bG hb).2
  have hp1:=hp0.call hC1 hd1
  have h01:=hbase h0 hC1
  simp (config:={maxSteps:=1000000}) (disch:=first|assumption|omega|exact ab (by omega)|exact aa (by assumption)|(simp only[ap]<;>omega)) only[go_sem,seval,ag]
  refine WF.use1H (lA hc h01 hp1.hd (by have:(aq s).a=s.a+1:=rfl;omega)) ?_
  rintro M2 ⟨hd2,hC2⟩
  have hp2:=hp1.call hC2 hd2
  have h02:=hbase h01 hC2
  have hlim2:=(cv L (aq s)).lim hlt
  unfold qn at hK
  generalize bf L (aq s)=q at hd2 hp2 hlim2 hK
  obtain ⟨n,s2⟩:=q
  dsimp only at hd2 hp2 hlim2 hK
  simp (config:={maxSteps:=1000000}) (disch:=first|assumption|omega|exact ab (by omega)|exact aa (by assumption)|(simp only[ap]<;>omega)) only[go_sem,seval]
  generalize hM3:hp _ 1 M2=M3
  have hC3:Chg [] M2 M3:=by rw[←hM3];exact ao rfl
  have hg3:M3.get (na M2 0)=some (.cells true [.str n,ii 1]):=by rw[←hM3];exact av
  have ho3:ay M3 (na M2 0):=by rw[←hM3];exact ab (by omega)
  have hp3:=hp2.grow hC3
  have h03:=h02.trans hC3 (by simp)
  refine WF.use1H (dj hc h03 hp3.hd [91] (by simp) (by omega)) ?_
  rintro M4 ⟨hd4,hC4⟩
  have hr2:na M2 0≠r:=fun e=>hp2.hd.o.ne 0 e.symm
  have hp4:=hp3.call hC4 hd4
  have h04:=hbase h03 hC4
  have hg4:=(hC4.get ho3 (by simpa using hr2)).trans hg3
  have ho4:=hC4.old ho3
  cases hb4:a8 L [91] s2 with
  |true=>
   rw[hb4,if_pos rfl] at hK hd4
   have hlt4:=(bG hb4).2
   have he4:=(bG hb4).1
   have hC24:Chg [r] M2 M4:=(hC3.weak (by simp)).trans hC4 fun _ h _=>h
   have hp4:=hp2.call hC24 hd4
   simp (config:={maxSteps:=1000000}) (disch:=first|assumption|omega|exact ab (by omega)|exact aa (by assumption)|(simp only[ap]<;>omega)) only[go_sem,seval,ag]
   refine WF.use1H (iW hc h04 hp4.hd) ?_
   intro M5 hC5
   have hC25:Chg [r] M2 M5:=hC24.trans hC5 (by simp)
   have hp5:=hp4.grow hC5
   have h05:=h04.trans hC5 (by simp)
   have hg5:=(hC5.get ho4 (by simp)).trans hg4
   have ho5:=hC5.old ho4
   have hl:(Tok.l (aT L (aq s2).a)).length=4:=rfl
   have hdg:=hp5.hd.g
   have hdo:=hp5.hd.o
   have he5:(aq s2).e=0:=he4
   have hlim5:(aq s2).a<=L.length:=hlt4
   have hst:1<=(aT L (aq s2).a).k/\(aT L (aq s2).a).k<=4->St L (aq s2) (aq (aq s2)):=fun h=>gT (lG (by omega)) he5 h
   generalize hT:aT L (aq s2).a=T at hK hl hst
   generalize hs3:aq s2=s3 at hK hp5 hdg he5 hlim5 hst
   have rest:∀{M6:NH} {s6:Rs} {z:Int},Chg [r] M2 M6->RD M6 r vl s6 [.bool P.rd,vc,vt,vr]->s6.a<=L.length->M6.get (na M2 0)=some (.cells true [.str n,ii z])->ay M6 (na M2 0)->
    ∃m',bm Try.prog S0 87 [.ptr r 0,.str [93]] M6 (.tup []) m'/\PD mR m' r vl (a9 L [93] s6) P vc vt vr/\Chg [] m0 m'/\(a9 L [93] s6).a<=L.length/\m'.get (na M2 0)=some (.cells true [.str n,ii z])/\ay m' (na M2 0):=by
    intro M6 s6 z q1 q2 q3 q4 q5
    obtain ⟨m',w1,w2,w3⟩:=fY hc (hbase h02 q1) q2 [93] (by simp) (by omega)
    have w4:Chg [r] M2 m':=q1.trans w3 fun _ h _=>h
    exact ⟨m',w1,hp2.call w4 w2,hbase h02 w4,(bR L [93] s6).lim q3,(w3.get q5 (by simpa using hr2)).trans q4,w3.old q5⟩
   have hr2':r≠na M2 0:=fun e=>hr2 e.symm
   have hbn:∀{l:List (AK×NO)} {k:Nat},(∀i∈aR l,i=r∨i=na M2 0)->Chg [r] M2 (hp l k M5):=fun hl=>hC25.trans (ao rfl) fun i hi ho=>(hl i hi).elim (fun h=>by simp[h]) fun h=>absurd (h▸ho) aF
   by_cases hk:T.k=2
   ·rw[if_pos hk] at hK
    have hst6:=(hst (by omega)).lim hlim5
    by_cases hn:T.n<1048576
    ·have hz:bH T=(T.n:Int):=by unfold bH;rw[if_pos hn]
     rw[hz] at hK
     simp (config:={maxSteps:=1000000}) (disch:=first|assumption|omega|exact ab (by omega)|exact aa (by assumption)|(simp only[ap]<;>omega)) only[go_sem,seval,hl,pA,MQ,hdg,hg5]
     generalize hM6:hp _ 1 M5=M6
     have hC26:Chg [r] M2 M6:=by rw[←hM6];exact hbn (by simp[aR])
     have hd6:RD M6 r vl (aq s3) [.bool P.rd,vc,vt,vr]:=⟨by rw[←hM6];exact (aO hdo).trans az,by rw[←hM6];exact aa hdo⟩
     have hg6:M6.get (na M2 0)=some (.cells true [.str n,ii T.n]):=by rw[←hM6];exact (aO ho5).trans ((bh hr2).trans az)
     have ho6:ay M6 (na M2 0):=by rw[←hM6];exact aa ho5
     refine WF.use1 (rest hC26 hd6 hst6 hg6 ho6) ?_
     rintro M7 ⟨hp7,h07,hlim7,hg7,ho7⟩
     simp (config:={maxSteps:=1000000}) (disch:=first|assumption|omega|exact ab (by omega)|exact aa (by assumption)|(simp only[ap]<;>omega)) only[go_sem,seval]
     refine WF.use1H (fY hc h07 hp7.hd [59] (by simp) (by omega)) ?_
     rintro M5 ⟨hd5,hC5⟩
     have hp5:=hp7.call hC5 hd5
     have h05:=hbase h07 hC5
     have hg5:=(hC5.get ho7 (by simpa using hr2)).trans hg7
     have ho5:=hC5.old ho7
     have hdg:=hp5.hd.g
     have hdo:=hp5.hd.o
     have hcl:=hp5.cc.sl.one
     have hcs':=hp5.cc.sl.same (n:=3)
     simp (config:={maxSteps:=1000000}) (disch:=first|assumption|omega|exact ab (by omega)|exact aa (by assumption)|(simp only[ap]<;>omega)) only[go_sem,seval,hg5,hdg,hcl,hcs']
     have hC6:Chg [] M5 (hp [(.n 0,.cells true [.str n,ii T.n])] 1 M5):=ao rfl
     refine fj (cs:= [.str n,ii T.n]) (B:=mR) (hp5.cc.chg hC6 fun _ _=>by simp) av (ab (by omega)) rfl (fun i hi=>hC6.old (hp5.oo i hi)) (by simp;omega) (by simp;omega) ?_
     intro v6 M6 hv6 hC7 hF6
     have hg6:=(hC7.get (hC6.old hdo) (fun h=>hp5.cc.new _ h hp5.oR)).trans ((hC6.get hdo (by simp)).trans hdg)
     have ho6:=hC7.old (hC6.old hdo)
     have hPD:=mZ (c:=(n,(T.n:Int))) hp5 hC6 hv6 hC7 hF6
     simp (config:={maxSteps:=1000000}) (disch:=first|assumption|omega|exact ab (by omega)|exact aa (by assumption)|(simp only[ap]<;>omega)) only[go_sem,seval,hg6,hv6.sl.one]
     refine hK _ ⟨?_,v6,vt,vr,hPD⟩
     refine ((h05.trans hC6 (by simp)).trans hC7 fun i hi ho=>absurd (h0R i ho) (hp5.cc.new i hi)).trans (ao rfl) fun i hi ho=> ?_
     simp only[aR,List.mem_cons,List.not_mem_nil,or_false] at hi
     subst hi;exact absurd ho hc.no
    ·have hz:bH T=1048576:=by unfold bH;rw[if_neg hn]
     rw[hz] at hK
     simp (config:={maxSteps:=1000000}) (disch:=first|assumption|omega|exact ab (by omega)|exact aa (by assumption)|(simp only[ap]<;>omega)) only[go_sem,seval,hl,pA,MQ,hdg,hg5]
     generalize hM6:hp _ 1 M5=M6
     have hC26:Chg [r] M2 M6:=by rw[←hM6];exact hbn (by simp[aR])
     have hd6:RD M6 r vl (aq s3) [.bool P.rd,vc,vt,vr]:=⟨by rw[←hM6];exact (aO hdo).trans az,by rw[←hM6];exact aa hdo⟩
     have hg6:M6.get (na M2 0)=some (.cells true [.str n,ii 1048576]):=by rw[←hM6];exact (aO ho5).trans ((bh hr2).trans az)
     have ho6:ay M6 (na M2 0):=by rw[←hM6];exact aa ho5
     refine WF.use1 (rest hC26 hd6 hst6 hg6 ho6) ?_
     rintro M7 ⟨hp7,h07,hlim7,hg7,ho7⟩
     simp (config:={maxSteps:=1000000}) (disch:=first|assumption|omega|exact ab (by omega)|exact aa (by assumption)|(simp only[ap]<;>omega)) only[go_sem,seval]
     refine WF.use1H (fY hc h07 hp7.hd [59] (by simp) (by omega)) ?_
     rintro M5 ⟨hd5,hC5⟩
     have hp5:=hp7.call hC5 hd5
     have h05:=hbase h07 hC5
     have hg5:=(hC5.get ho7 (by simpa using hr2)).trans hg7
     have ho5:=hC5.old ho7
     have hdg:=hp5.hd.g
     have hdo:=hp5.hd.o
     have hcl:=hp5.cc.sl.one
     have hcs':=hp5.cc.sl.same (n:=3)
     simp (config:={maxSteps:=1000000}) (disch:=first|assumption|omega|exact ab (by omega)|exact aa (by assumption)|(simp only[ap]<;>omega)) only[go_sem,seval,hg5,hdg,hcl,hcs']
     have hC6:Chg [] M5 (hp [(.n 0,.cells true [.str n,ii 1048576])] 1 M5):=ao rfl
     refine fj (cs:= [.str n,ii 1048576]) (B:=mR) (hp5.cc.chg hC6 fun _ _=>by simp) av (ab (by omega)) rfl (fun i hi=>hC6.old (hp5.oo i hi)) (by simp;omega) (by simp;omega) ?_
     intro v6 M6 hv6 hC7 hF6
     have hg6:=(hC7.get (hC6.old hdo) (fun h=>hp5.cc.new _ h hp5.oR)).trans ((hC6.get hdo (by simp)).trans hdg)
     have ho6:=hC7.old (hC6.old hdo)
     have hPD:=mZ (c:=(n,1048576)) hp5 hC6 hv6 hC7 hF6
     simp (config:={maxSteps:=1000000}) (disch:=first|assumption|omega|exact ab (by omega)|exact aa (by assumption)|(simp only[ap]<;>omega)) only[go_sem,seval,hg6,hv6.sl.one]
     refine hK _ ⟨?_,v6,vt,vr,hPD⟩
     refine ((h05.trans hC6 (by simp)).trans hC7 fun i hi ho=>absurd (h0R i ho) (hp5.cc.new i hi)).trans (ao rfl) fun i hi ho=> ?_
     simp only[aR,List.mem_cons,List.not_mem_nil,or_false] at hi
     subst hi;exact absurd ho hc.no
   ·rw[if_neg hk] at hK
    simp (config:={maxSteps:=1000000}) (disch:=first|assumption|omega|exact ab (by omega)|exact aa (by assumption)|(simp only[ap]<;>omega)) only[go_sem,seval,hl,pA,MQ,hdg,hg5]
    generalize hM6:hp _ 1 M5=M6
    have hC6:Chg [] M5 M6:=by rw[←hM6];exact ao rfl
    refine WF.use1 (gZ (hp5.grow hC6).hd 2) ?_
    rintro M6' ⟨hd6,hC6'⟩
    have hC26:Chg [r] M2 M6':=(hC25.trans hC6 (by simp)).trans hC6' fun _ h _=>h
    have hg6:=(hC6'.get (hC6.old ho5) (by simpa using hr2)).trans ((hC6.get ho5 (by simp)).trans hg5)
    have ho6:=hC6'.old (hC6.old ho5)
    simp (config:={maxSteps:=1000000}) (disch:=first|assumption|omega|exact ab (by omega)|exact aa (by assumption)|(simp only[ap]<;>omega)) only[go_sem,seval]
    refine WF.use1 (rest hC26 hd6 ((b7 L 2 s3).lim hlim5) hg6 ho6) ?_
    rintro M7 ⟨hp7,h07,hlim7,hg7,ho7⟩
    simp (config:={maxSteps:=1000000}) (disch:=first|assumption|omega|exact ab (by omega)|exact aa (by assumption)|(simp only[ap]<;>omega)) only[go_sem,seval]
    refine WF.use1H (fY hc h07 hp7.hd [59] (by simp) (by omega)) ?_
    rintro M5 ⟨hd5,hC5⟩
    have hp5:=hp7.call hC5 hd5
    have h05:=hbase h07 hC5
    have hg5:=(hC5.get ho7 (by simpa using hr2)).trans hg7
    have ho5:=hC5.old ho7
    have hdg:=hp5.hd.g
    have hdo:=hp5.hd.o
    have hcl:=hp5.cc.sl.one
    have hcs':=hp5.cc.sl.same (n:=3)
    simp (config:={maxSteps:=1000000}) (disch:=first|assumption|omega|exact ab (by omega)|exact aa (by assumption)|(simp only[ap]<;>omega)) only[go_sem,seval,hg5,hdg,hcl,hcs']
    have hC6:Chg [] M5 (hp [(.n 0,.cells true [.str n,ii 1])] 1 M5):=ao rfl
    refine fj (cs:= [.str n,ii 1]) (B:=mR) (hp5.cc.chg hC6 fun _ _=>by simp) av (ab (by omega)) rfl (fun i hi=>hC6.old (hp5.oo i hi)) (by simp;omega) (by simp;omega) ?_
    intro v6 M6 hv6 hC7 hF6
    have hg6:=(hC7.get (hC6.old hdo) (fun h=>hp5.cc.new _ h hp5.oR)).trans ((hC6.get hdo (by simp)).trans hdg)
    have ho6:=hC7.old (hC6.old hdo)
    have hPD:=mZ (c:=(n,1)) hp5 hC6 hv6 hC7 hF6
    simp (config:={maxSteps:=1000000}) (disch:=first|assumption|omega|exact ab (by omega)|exact aa (by assumption)|(simp only[ap]<;>omega)) only[go_sem,seval,hg6,hv6.sl.one]
    refine hK _ ⟨?_,v6,vt,vr,hPD⟩
    refine ((h05.trans hC6 (by simp)).trans hC7 fun i hi ho=>absurd (h0R i ho) (hp5.cc.new i hi)).trans (ao rfl) fun i hi ho=> ?_
    simp only[aR,List.mem_cons,List.not_mem_nil,or_false] at hi
    subst hi;exact absurd ho hc.no
  |false=>
   rw[hb4,if_neg Bool.false_ne_true] at hK hd4
   have hp4:=hp3.call hC4 hd4
   simp (config:={maxSteps:=1000000}) (disch:=first|assumption|omega|exact ab (by omega)|exact aa (by assumption)|(simp only[ap]<;>omega)) only[go_sem,seval,ag]
   refine WF.use1H (fY hc h04 hp4.hd [59] (by simp) (by omega)) ?_
   rintro M5 ⟨hd5,hC5⟩
   have hp5:=hp4.call hC5 hd5
   have h05:=hbase h04 hC5
   have hg5:=(hC5.get ho4 (by simpa using hr2)).trans hg4
   have ho5:=hC5.old ho4
   have hdg:=hp5.hd.g
   have hdo:=hp5.hd.o
   have hcl:=hp5.cc.sl.one
   have hcs':=hp5.cc.sl.same (n:=3)
   simp (config:={maxSteps:=1000000}) (disch:=first|assumption|omega|exact ab (by omega)|exact aa (by assumption)|(simp only[ap]<;>omega)) only[go_sem,seval,hg5,hdg,hcl,hcs']
   have hC6:Chg [] M5 (hp [(.n 0,.cells true [.str n,ii 1])] 1 M5):=ao rfl
   refine fj (cs:= [.str n,ii 1]) (B:=mR) (hp5.cc.chg hC6 fun _ _=>by simp) av (ab (by omega)) rfl (fun i hi=>hC6.old (hp5.oo i hi)) (by simp;omega) (by simp;omega) ?_
   intro v6 M6 hv6 hC7 hF6
   have hg6:=(hC7.get (hC6.old hdo) (fun h=>hp5.cc.new _ h hp5.oR)).trans ((hC6.get hdo (by simp)).trans hdg)
   have ho6:=hC7.old (hC6.old hdo)
   have hPD:=mZ (c:=(n,1)) hp5 hC6 hv6 hC7 hF6
   simp (config:={maxSteps:=1000000}) (disch:=first|assumption|omega|exact ab (by omega)|exact aa (by assumption)|(simp only[ap]<;>omega)) only[go_sem,seval,hg6,hv6.sl.one]
   refine hK _ ⟨?_,v6,vt,vr,hPD⟩
   refine ((h05.trans hC6 (by simp)).trans hC7 fun i hi ho=>absurd (h0R i ho) (hp5.cc.new i hi)).trans (ao rfl) fun i hi ho=> ?_
   simp only[aR,List.mem_cons,List.not_mem_nil,or_false] at hi
   subst hi;exact absurd ho hc.no
 |false=>
  have ne1:¬(a8 L [99,101,108,108] s=true):=by rw[hb];exact Bool.false_ne_true
  rw[hb,if_neg Bool.false_ne_true] at hd1
  rw[if_neg ne1] at hK
  have hp1:=hp0.call hC1 hd1
  have h01:=hbase h0 hC1
  simp (config:={maxSteps:=1000000}) (disch:=first|assumption|omega|exact ab (by omega)|exact aa (by assumption)|(simp only[ap]<;>omega)) only[go_sem,seval,ag]
  refine WF.use1H (dj hc h01 hp1.hd [116,104,114,101,97,100] (by simp) (by omega)) ?_
  rintro M2 ⟨hd2,hC2⟩
  have h02:=hbase h01 hC2
  have tpw:∀{M:NH},PD mR M r vl s P vc vt vr->True:=fun _=>trivial
  cases hb2:a8 L [116,104,114,101,97,100] s with
  |true=>
   rw[hb2,if_pos rfl] at hd2 hK
   have hlt:=(bG hb2).2
   have hp2:=hp1.call hC2 hd2
   simp (config:={maxSteps:=1000000}) (disch:=first|assumption|omega|exact ab (by omega)|exact aa (by assumption)|(simp only[ap]<;>omega)) only[go_sem,seval,ag]
   refine WF.use1H (lA hc h02 hp2.hd (by have:(aq s).a=s.a+1:=rfl;omega)) ?_
   rintro M3 ⟨hd3,hC3⟩
   have hp3:=hp2.call hC3 hd3
   have h03:=hbase h02 hC3
   have hlim3:=(cv L (aq s)).lim hlt
   unfold kE at hK
   generalize bf L (aq s)=q at hd3 hp3 hlim3 hK
   obtain ⟨n,s3⟩:=q
   dsimp only at hd3 hp3 hlim3 hK
   simp (config:={maxSteps:=1000000}) (disch:=first|assumption|omega|exact ab (by omega)|exact aa (by assumption)|(simp only[ap]<;>omega)) only[go_sem,seval]
   generalize hM4:hp _ 1 M3=M4
   have hC4:Chg [] M3 M4:=by rw[←hM4];exact ao rfl
   have hg4:M4.get (na M3 0)=some (.cells true [.str n,.nils]):=by rw[←hM4];exact av
   have ho4:ay M4 (na M3 0):=by rw[←hM4];exact ab (by omega)
   have hr3:na M3 0≠r:=fun e=>hp3.hd.o.ne 0 e.symm
   have hp4:=hp3.grow hC4
   have h04:=h03.trans hC4 (by simp)
   refine WF.useH (Ed hc 30 (Nat.le_refl _) h04 hp4.hd hlim3) ?_
   rintro v5 M5 ⟨⟨C5,hb5⟩,hd5,hC5⟩
   generalize dD L 30 s3=q at hb5 hd5 hK
   obtain ⟨b,s5⟩:=q
   dsimp only at hb5 hd5 hK
   have hg5:=(hC5.get ho4 (by simpa using hr3)).trans hg4
   have ho5:=hC5.old ho4
   have hC35:Chg [r] M3 M5:=(hC4.weak (by simp)).trans hC5 fun _ h _=>h
   have hp5:=hp3.call hC35 hd5
   have hdg:=hp5.hd.g
   have hdo:=hp5.hd.o
   obtain ⟨CT,t1,t2,-⟩:=hp5.tt
   have hcl:=t1.sl.one
   have hcs':=t1.sl.same (n:=3)
   have hr3':r≠na M3 0:=fun e=>hr3 e.symm
   obtain ⟨CT4,t41,-,-⟩:=hp4.tt
   have hbT:SS M5 (fun i=>TP mR vc vt i/\i≠na M3 0) v5 b C5:=hb5.weak fun i hi=>⟨⟨fun h=>hi (hp4.oo i h),fun h=>hi (hp4.cc.sl.old i h),fun h=>hi (t41.sl.old i h)⟩,fun h=>hi (h▸ho4)⟩
   simp (config:={maxSteps:=1000000}) (disch:=first|assumption|omega|exact ab (by omega)|exact aa (by assumption)|(simp only[ap]<;>omega)) only[go_sem,seval,hg5,hdg,hb5.sl.one,hcl,hcs']
   have hCb:Chg [na M3 0] M5 (hp [(.n 0,.cells true [.str n,v5]),(.o (na M3 0),.cells true [.str n,v5])] 1 M5):=ao rfl
   have hxb:(hp [(.n 0,.cells true [.str n,v5]),(.o (na M3 0),.cells true [.str n,v5])] 1 M5).get (na M5 0)=some (.cells true [.str n,v5]):=av
   have hob:ay (hp [(.n 0,.cells true [.str n,v5]),(.o (na M3 0),.cells true [.str n,v5])] 1 M5) (na M5 0):=ab (by omega)
   generalize hp [(.n 0,.cells true [.str n,v5]),(.o (na M3 0),.cells true [.str n,v5])] 1 M5=Mb at hCb hxb hob ⊢
   have hCb3:Chg [r] M3 Mb:=hC35.trans hCb fun i hi ho=>by
    simp only[List.mem_cons,List.not_mem_nil,or_false] at hi;subst hi;exact absurd ho aF
   have hpb:=hp3.call hCb3 (hd5.chg hCb (by simpa using hr3'))
   have h0b:=hbase h03 hCb3
   have hbb:SS Mb (TP mR vc vt) v5 b C5:=(hbT.stays (bo.of hCb fun i hi hs=>by
    simp only[List.mem_cons,List.not_mem_nil,or_false] at hs;exact hi.2 hs)).weak fun i hi=>hi.1
   obtain ⟨CTb,tb1,tb2,tb3⟩:=hpb.tt
   have hdgb:=hpb.hd.g
   have hdob:=hpb.hd.o
   refine fj (cs:= [.str n,v5]) (B:=mR) tb1 hxb hob rfl (fun i hi=>hpb.oo i hi) (by omega) (by omega) ?_
   intro v6 M6 hv6 hC7 hF6
   have hg6:=(hC7.get hdob (fun h=>tb1.new _ h hpb.oR)).trans hdgb
   have ho6:=hC7.old hdob
   have hPD:=BN (n:=n) hpb hbb tb1 tb2 tb3 hv6 hC7 hF6
   simp (config:={maxSteps:=1000000}) (disch:=first|assumption|omega|exact ab (by omega)|exact aa (by assumption)|(simp only[ap]<;>omega)) only[go_sem,seval,hg6,hv6.sl.one]
   refine hK _ ⟨?_,vc,v6,vr,hPD⟩
   refine (h0b.trans hC7 fun i hi ho=>absurd (h0R i ho) (tb1.new i hi)).trans (ao rfl) fun i hi ho=> ?_
   simp only[aR,List.mem_cons,List.not_mem_nil,or_false] at hi
   subst hi;exact absurd ho hc.no
  |false=>
   have ne2:¬(a8 L [116,104,114,101,97,100] s=true):=by rw[hb2];exact Bool.false_ne_true
   rw[hb2,if_neg Bool.false_ne_true] at hd2
   rw[if_neg ne2] at hK
   have hp2:=hp1.call hC2 hd2
   have hdg:=hp2.hd.g
   have hl0:(aT L s.a).l[0]? =some (ii (aT L s.a).k):=rfl
   have hl1:(aT L s.a).l[1]? =some (.str (aT L s.a).t):=rfl
   unfold Cu at hK
   have fin:∀{M:NH},PD mR M r vl (bi L P.rd s) P vc vt vr->Chg [] m0 M->∃m',bm Try.prog S0 87 [.ptr r 0,.str ew] M (.tup []) m'/\PD mR m' r vl (a9 L ew (bi L P.rd s)) P vc vt vr/\Chg [] m0 m':=by
    intro M q1 q2
    have ha2:(bi L P.rd s).a<=100000:=by
     have h1:St L s (bi L P.rd s):=by unfold bi;split;exact b7 _ _ _;exact St.refl _ _
     have:=h1.lim ha
     omega
    obtain ⟨m',w1,w2,w3⟩:=fY hc q2 q1.hd ew (by simp) ha2
    exact ⟨m',w1,q1.call w3 w2,hbase q2 w3⟩
   have hst3:(a9 L ew (bi L P.rd s)).a<=L.length:=by
    have h1:St L s (bi L P.rd s):=by unfold bi;split;exact b7 _ _ _;exact St.refl _ _
    exact (h1.trans (bR _ _ _)).lim ha
   have fin2:∀{M:NH},PD mR M r vl (a9 L ew (bi L P.rd s)) P vc vt vr->Chg [] m0 M->PD mR (hp [(.o r,.cells true [vl,ii (a9 L ew (bi L P.rd s)).a,ii (a9 L ew (bi L P.rd s)).e,ii (a9 L ew (bi L P.rd s)).b,.bool true,vc,vt,vr])] 0 M) r vl (a9 L ew (bi L P.rd s)) ⟨P.cs,P.ts,P.rc,true⟩ vc vt vr/\Chg [] m0 (hp [(.o r,.cells true [vl,ii (a9 L ew (bi L P.rd s)).a,ii (a9 L ew (bi L P.rd s)).e,ii (a9 L ew (bi L P.rd s)).b,.bool true,vc,vt,vr])] 0 M):=by
    intro M q1 q2
    obtain ⟨C,q3⟩:=q1.rr
    exact ⟨Ck q1 q3 (by simp[aR]),hbase q2 (ao rfl)⟩
   have fin3:∀{M:NH},PD mR M r vl (a9 L ew (bi L P.rd s)) ⟨P.cs,P.ts,P.rc,true⟩ vc vt vr->Chg [] m0 M->∃v m',bm Try.prog S0 88 [.ptr r 0,ii 0] M v m'/\cellsOf v=some [v]/\m'.get r=some (.cells true [vl,ii (dD L 30 (a9 L ew (bi L P.rd s))).2.a,ii (dD L 30 (a9 L ew (bi L P.rd s))).2.e,ii (dD L 30 (a9 L ew (bi L P.rd s))).2.b,.bool true,vc,vt,vr])/\ay m' r/\
    K (.tup []) (hp [(.o r,.cells true [vl,ii (dD L 30 (a9 L ew (bi L P.rd s))).2.a,ii (dD L 30 (a9 L ew (bi L P.rd s))).2.e,ii (dD L 30 (a9 L ew (bi L P.rd s))).2.b,.bool true,vc,vt,v])] 0 m'):=by
    intro M q1 q2
    obtain ⟨v,m',w1,⟨C,w2⟩,w3,w4⟩:=Ed hc 30 (Nat.le_refl _) q2 q1.hd hst3
    have q3:=q1.call w4 w3
    obtain ⟨CT,t1,-,-⟩:=q1.tt
    have w5:SS m' (TP mR vc vt) v (dD L 30 (a9 L ew (bi L P.rd s))).1 C:=w2.weak fun i hi=>⟨fun h=>hi (q1.oo i h),fun h=>hi (q1.cc.sl.old i h),fun h=>hi (t1.sl.old i h)⟩
    refine ⟨v,m',w1,w2.sl.one,w3.g,w3.o,hK _ ⟨(hbase q2 w4).trans (ao rfl) fun i hi ho=> ?_,vc,vt,v,Ck q3 w5 (by simp[aR])⟩⟩
    simp only[aR,List.mem_cons,List.not_mem_nil,or_false] at hi
    subst hi;exact absurd ho hc.no
   have no:∀{M},PD mR M r vl s P vc vt vr->¬(P.rd=true/\(aT L s.a).k=4/\(aT L s.a).t=ew)->PD mR M r vl (bi L P.rd s) P vc vt vr:=fun h q=>by rw[bi,if_neg q];exact h
   cases hrd:P.rd with
   |false=>
    rw[hrd] at hdg
    simp (config:={maxSteps:=1000000}) (disch:=first|assumption|omega|exact ab (by omega)|exact aa (by assumption)|(simp only[ap]<;>omega)) only[go_sem,seval,hdg,ag]
    refine WF.use1H (fin (no hp2 (by rw[hrd];simp)) h02) ?_
    rintro M7 ⟨hp7,h07⟩
    have hdg7:=hp7.hd.g
    have hdo7:=hp7.hd.o
    obtain ⟨hp8,h08⟩:=fin2 hp7 h07
    obtain ⟨v9,M9,hr9,hv9,hg9,ho9,hK9⟩:=fin3 hp8 h08
    simp (config:={maxSteps:=1000000}) (disch:=first|assumption|omega|exact ab (by omega)|exact aa (by assumption)|(simp only[ap]<;>omega)) only[go_sem,seval,hdg7,hr9.wf,hv9,hg9]
    exact hK9
   |true=>
    rw[hrd] at hdg
    obtain ⟨M3,hr3,hC3⟩:=iW hc h02 hp2.hd
    have hp3:=hp2.grow hC3
    have h03:=h02.trans hC3 (by simp)
    obtain ⟨M4,hr4,hC4⟩:=iW hc h03 hp3.hd
    have hp4:=hp3.grow hC4
    have h04:=h03.trans hC4 (by simp)
    by_cases hk:(aT L s.a).k=4
    ·by_cases ht:(aT L s.a).t=ew
     ·simp (config:={maxSteps:=1000000}) (disch:=first|assumption|omega|exact ab (by omega)|exact aa (by assumption)|(simp only[ap]<;>omega)) only[go_sem,seval,hdg,hr3.wf',hr4.wf',hl0,hl1,ag]
      refine WF.use1 (gZ hp4.hd 5) ?_
      rintro M5 ⟨hd5,hC5⟩
      have hp5:=hp4.call hC5 hd5
      have e5:bi L P.rd s=bp 5 s:=by rw[bi,if_pos ⟨hrd,hk,ht⟩]
      simp (config:={maxSteps:=1000000}) (disch:=first|assumption|omega|exact ab (by omega)|exact aa (by assumption)|(simp only[ap]<;>omega)) only[go_sem,seval]
      refine WF.use1H (fin (by rw[e5];exact hp5) (hbase h04 hC5)) ?_
      rintro M7 ⟨hp7,h07⟩
      have hdg7:=hp7.hd.g
      have hdo7:=hp7.hd.o
      obtain ⟨hp8,h08⟩:=fin2 hp7 h07
      obtain ⟨v9,M9,hr9,hv9,hg9,ho9,hK9⟩:=fin3 hp8 h08
      simp (config:={maxSteps:=1000000}) (disch:=first|assumption|omega|exact ab (by omega)|exact aa (by assumption)|(simp only[ap]<;>omega)) only[go_sem,seval,hdg7,hr9.wf,hv9,hg9]
      exact hK9
     ·simp (config:={maxSteps:=1000000}) (disch:=first|assumption|omega|exact ab (by omega)|exact aa (by assumption)|(simp only[ap]<;>omega)) only[go_sem,seval,hdg,hr3.wf',hr4.wf',hl0,hl1,ag]
      refine WF.use1H (fin (no hp4 fun h=>ht h.2.2) h04) ?_
      rintro M7 ⟨hp7,h07⟩
      have hdg7:=hp7.hd.g
      have hdo7:=hp7.hd.o
      obtain ⟨hp8,h08⟩:=fin2 hp7 h07
      obtain ⟨v9,M9,hr9,hv9,hg9,ho9,hK9⟩:=fin3 hp8 h08
      simp (config:={maxSteps:=1000000}) (disch:=first|assumption|omega|exact ab (by omega)|exact aa (by assumption)|(simp only[ap]<;>omega)) only[go_sem,seval,hdg7,hr9.wf,hv9,hg9]
      exact hK9
    ·simp (config:={maxSteps:=1000000}) (disch:=first|assumption|omega|exact ab (by omega)|exact aa (by assumption)|(simp only[ap]<;>omega)) only[go_sem,seval,hdg,hr3.wf',hr4.wf',hl0,hl1,ag]
     refine WF.use1H (fin (no hp3 fun h=>hk h.2.1) h03) ?_
     rintro M7 ⟨hp7,h07⟩
     have hdg7:=hp7.hd.g
     have hdo7:=hp7.hd.o
     obtain ⟨hp8,h08⟩:=fin2 hp7 h07
     obtain ⟨v9,M9,hr9,hv9,hg9,ho9,hK9⟩:=fin3 hp8 h08
     simp (config:={maxSteps:=1000000}) (disch:=first|assumption|omega|exact ab (by omega)|exact aa (by assumption)|(simp only[ap]<;>omega)) only[go_sem,seval,hdg7,hr9.wf,hv9,hg9]
     exact hK9
end
end FR
open Go Nm Go.Proofs
namespace FR
set_option linter.unusedSimpArgs false
set_option linter.unusedVariables false
def cF (L:List Tok):Nat->Ps->Rs->Ps×Rs
 |0,P,s=>(P,s)
 |f+1,P,s=>if s.e≠0 then (P,s) else if (aT L s.a).k=5 then (P,s) else cF L f (ft L P s).1 (ft L P s).2
def jy (b:List Nat):Option Prg×Nat×Nat:=if 16384<b.length then (none,0,3) else match (dM b).2 with
 |some a=>(none,a,2)
 |none=>if (cF (dM b).1 ((dM b).1.length+1) ⟨[], [], [],false⟩ ⟨0,0,0⟩).2.e≠0 then (none,(aT (dM b).1 (cF (dM b).1 ((dM b).1.length+1) ⟨[], [], [],false⟩ ⟨0,0,0⟩).2.b).p,(cF (dM b).1 ((dM b).1.length+1) ⟨[], [], [],false⟩ ⟨0,0,0⟩).2.e)
  else (some ⟨(cF (dM b).1 ((dM b).1.length+1) ⟨[], [], [],false⟩ ⟨0,0,0⟩).1.cs,(cF (dM b).1 ((dM b).1.length+1) ⟨[], [], [],false⟩ ⟨0,0,0⟩).1.ts,(cF (dM b).1 ((dM b).1.length+1) ⟨[], [], [],false⟩ ⟨0,0,0⟩).1.rc⟩,b.length,0)
section
variable {L:List Tok}
theorem si (s:Rs):St L s (qn L s).2:=by
 unfold qn
 split
 ·rename_i h
  have h1:=(cv L s).trans (ef h)
  split
  ·rename_i h2
   exact ((h1.trans (gT (lG (by omega)) (bG h).1 (by omega))).trans (bR _ _ _)).trans (bR _ _ _)
  ·exact ((h1.trans (b7 _ _ _)).trans (bR _ _ _)).trans (bR _ _ _)
 ·exact (cv L s).trans (bR _ _ _)
theorem qf (s:Rs):St L s (kE L s).2:=(cv L s).trans (eS 30 _)
theorem oK (q:Bool) (s:Rs):St L s (bi L q s):=by unfold bi;split;exact b7 _ _ _;exact St.refl _ _
theorem IG (q:Bool) (s:Rs):St L s (Cu L q s).2:=((oK q s).trans (bR _ _ _)).trans (eS 30 _)
theorem Dq (P:Ps) (s:Rs):St L s (ft L P s).2:=by
 unfold ft
 split
 ·exact (ef ‹_›).trans (si _)
 ·split
  ·exact (ef ‹_›).trans (qf _)
  ·exact IG _ _
theorem JZ (P:Ps) (s:Rs) (he:s.e=0):s.a<(ft L P s).2.a∨(ft L P s).2.e≠0:=by
 unfold ft
 split
 ·left;have:=(si (L:=L) (aq s)).le;exact this
 ·split
  ·left;have:=(qf (L:=L) (aq s)).le;exact this
  ·have hb:=eS (L:=L) 30 (a9 L ew (bi L P.rd s))
   by_cases h:(a9 L ew (bi L P.rd s)).e=0
   ·left
    obtain ⟨h1,h2⟩:=dT h
    have h3:=(oK (L:=L) P.rd s).le
    have h4:=hb.le
    show s.a<(dD L 30 _).2.a
    omega
   ·right;show (dD L 30 _).2.e≠0
    rw[hb.err h];exact h
theorem zU (P:Ps) (s:Rs):(ft L P s).1.cs.length+(ft L P s).1.ts.length<=P.cs.length+P.ts.length+1:=by
 unfold ft
 split
 ·simp;omega
 ·split
  ·simp;omega
  ·dsimp only;omega
theorem yb:∀(f:Nat) (P:Ps) (s:Rs),St L s (cF L f P s).2:=by
 intro f
 induction f with
 |zero=>exact fun P s=>St.refl _ _
 |succ f ih=>
  intro P s
  rw[cF]
  split
  ·exact St.refl _ _
  ·split
   ·exact St.refl _ _
   ·exact (Dq P s).trans (ih _ _)
def Ps.sz (P:Ps):Nat:=(P.ts.map fun t=>bA t.2).sum+bA P.rc
theorem JX (P:Ps) (s:Rs) (h:(ft L P s).2.e=0) (hrd:P.rd=false->P.rc= []):(ft L P s).1.sz+4*s.a<=P.sz+4*(ft L P s).2.a/\((ft L P s).1.rd=false->(ft L P s).1.rc= []):=by
 unfold ft at h ⊢
 split
 ·have:=(si (L:=L) (aq s)).le
  have n:(aq s).a=s.a+1:=rfl
  refine ⟨?_,hrd⟩
  simp only[Ps.sz];omega
 ·rename_i q;rw[if_neg q] at h
  split
  ·rename_i q2;rw[if_pos q2] at h
   have h1:=yZ (L:=L) 30 (bf L (aq s)).2 h
   have h2:=(cv L (aq s)).le
   have n:(aq s).a=s.a+1:=rfl
   refine ⟨?_,hrd⟩
   simp only[Ps.sz,List.map_append,List.map_cons,List.map_nil,List.sum_append,List.sum_cons,List.sum_nil,kE];omega
  ·rename_i q2;rw[if_neg q2] at h
   have h1:=yZ (L:=L) 30 _ h
   have h0:=(eS (L:=L) 30 _).zero h
   obtain ⟨h2,h3⟩:=dT h0
   have h4:=(oK (L:=L) P.rd s).zero h2
   have h5:(bi L P.rd s).a=s.a:=by unfold bi;split;unfold bp;split<;>rfl;rfl
   refine ⟨?_,fun h=>by simp at h⟩
   simp only[Ps.sz,Cu];omega
theorem Ga:∀(f:Nat) (P:Ps) (s:Rs) (a0:Nat),(P.rd=false->P.rc= [])->(s.e=0->P.sz+4*a0<=4*s.a)->(cF L f P s).2.e=0->(cF L f P s).1.sz+4*a0<=4*(cF L f P s).2.a:=by
 intro f
 induction f with
 |zero=>intro P s a0 _ h h2;exact h h2
 |succ f ih=>
  intro P s a0 hrd h
  rw[cF]
  split
  ·intro h2;exact absurd h2 ‹_›
  ·split
   ·intro h2;exact h h2
   ·intro h2
    have h3:=(yb (L:=L) f _ _).zero h2
    have h4:=JX P s h3 hrd
    refine ih _ _ a0 h4.2 (fun _=> ?_) h2
    have:=h (by omega)
    omega
end
section
variable {m0 mR:NH} {L:List Tok} {vl:NV} {r:D4}
theorem Ai (hc:RC m0 L vl r) (h0R:∀i,ay m0 i->ay mR i) {vb:NV} {X:Ps} {Z:Rs} {M:NH} {P:Ps} {s:Rs} {vc vt vr:NV} (h0:Chg [] m0 M) (hp:PD mR M r vl s P vc vt vr) (ha:s.a<=L.length) (hl:P.cs.length+P.ts.length=0) (hE:cF L (L.length+1) P s=(X,Z))
 {o:D4} {t:Tm} (g1:NT.get D4.e t=some vb) (g2:NT.get D4.e.a.f t=some (.ptr r 0)) (g3:NT.get D4.e.b t=some (.ptr o 0)) (g4:NT.get D4.e.a.a t=some vl) {Q:Out->Dyn->Prop}
 (hQ:∀t' M' vc vt vr,NT.get D4.e t'=some vb->NT.get D4.e.a.f t'=some (.ptr r 0)->NT.get D4.e.b t'=some (.ptr o 0)->NT.get D4.e.a.a t'=some vl->PD mR M' r vl Z X vc vt vr->Chg [] m0 M'->Q (.exit 0) ⟨an [] t', [],none,M'⟩):
 W Try.prog S0 none rg.loop ⟨t, [],none,M⟩ Q:=by
 refine W.loop (fun k D=>∃t M P s vc vt vr,D=⟨t, [],none,M⟩/\NT.get D4.e t=some vb/\NT.get D4.e.a.f t=some (.ptr r 0)/\NT.get D4.e.b t=some (.ptr o 0)/\NT.get D4.e.a.a t=some vl/\PD mR M r vl s P vc vt vr/\Chg [] m0 M/\s.a<=L.length/\cF L k P s=(X,Z)/\(L.length<k+s.a∨s.e≠0)/\P.cs.length+P.ts.length+k<=L.length+1) ?_ (L.length+1) _ ⟨t,M,P,s,vc,vt,vr,rfl,g1,g2,g3,g4,hp,h0,ha,hE,Or.inl (by omega),by omega⟩
 clear h0 hp ha hl hE g1 g2 g3 g4
 rintro k D ⟨t,M,P,s,vc,vt,vr,rfl,g1,g2,g3,g4,hp,h0,ha,hE,hf,hlk⟩
 apply aA
 unfold rg
 change wp _ _ _ _ ⟨an [] t, [],none,M⟩ _
 have hll:=hc.len
 have hdg:=hp.hd.g
 by_cases he:s.e=0
 ·obtain ⟨f,rfl⟩:∃f',k=f'+1:=⟨k - 1,by rcases hf with h|h<;>omega⟩
  rw[cF,if_neg (by omega)] at hE
  obtain ⟨M2,hr2,hC2⟩:=iW hc h0 hp.hd
  have hp2:=hp.grow hC2
  have h02:=h0.trans hC2 (by simp)
  have hl0:(aT L s.a).l[0]? =some (ii (aT L s.a).k):=rfl
  by_cases hk:(aT L s.a).k=5
  ·rw[if_pos hk] at hE
   injection hE with e1 e2
   subst e1 e2
   simp (disch:=first|assumption|omega) only[go_sem,seval,g1,g2,g3,g4,hdg,hr2.wf',hl0]
   exact hQ _ M2 vc vt vr (by simp only[go_sem,seval,g1]) (by simp only[go_sem,seval,g2]) (by simp only[go_sem,seval,g3]) (by simp only[go_sem,seval,g4]) hp2 h02
  ·rw[if_neg hk] at hE
   simp (disch:=first|assumption|omega) only[go_sem,seval,g1,g2,g3,g4,hdg,hr2.wf',hl0]
   refine WF.use1 (LT hc h0R h02 hp2 ha (by omega) (by omega)) ?_
   rintro M3 ⟨h03,vc',vt',vr',hp3⟩
   have hpr:=JZ (L:=L) P s he
   have hlim:=(Dq (L:=L) P s).lim ha
   have hlen:=zU (L:=L) P s
   simp (disch:=first|assumption|omega) only[go_sem,seval]
   refine ⟨f,by omega,_,M3,_,_,vc',vt',vr',by rfl,by simp only[go_sem,seval,g1],by simp only[go_sem,seval,g2],by simp only[go_sem,seval,g3],by simp only[go_sem,seval,g4],hp3,h03,hlim,hE, ?_,by omega⟩
   rcases hpr with h|h
   ·left;rcases hf with q|q<;>omega
   ·exact Or.inr h
 ·have hde':decide ((s.e:Int)=0)=false:=decide_eq_false (by omega)
  have hE':(P,s)=(X,Z):=by
   cases k with
   |zero=>exact hE
   |succ k=>rw[cF,if_pos he] at hE;exact hE
  injection hE' with e1 e2
  subst e1 e2
  simp (disch:=first|assumption|omega) only[go_sem,seval,g1,g2,g3,g4,hdg,hde']
  exact hQ _ M vc vt vr (by simp only[go_sem,seval,g1]) (by simp only[go_sem,seval,g2]) (by simp only[go_sem,seval,g3]) (by simp only[go_sem,seval,g4]) hp h0
theorem Eq:∀(l:List Tok) (b:List Nat) (w:Int),MS b w l->∀a,1<=(aT l a).k->(aT l a).k<=4->a<l.length - 1:=by
 intro l
 induction l with
 |nil=>intro b w _ a h1;simp[aT] at h1
 |cons x l ih=>
  intro b w h a h1 h2
  obtain ⟨-,-,-,-,h5,h6⟩:=h
  cases a with
  |zero=>
   have e:aT (x::l) 0=x:=rfl
   rw[e] at h1 h2
   have:l≠ []:=fun q=>by have:=h5.mpr q;omega
   have:=List.length_pos_iff.mpr this
   simp;omega
  |succ a=>
   have e:aT (x::l) (a+1)=aT l a:=by simp[aT]
   rw[e] at h1 h2
   have:=ih b x.p h6 a h1 h2
   simp;omega
theorem AW {m:NH} {v:NV} {b:List Nat} (hv:Sl m v 1 (oh b)) (hb:∀c∈b,c<256):
 ∃w m',bm Try.prog S0 12 [v] m w m'/\(∃vc vt vr,w= .tup [.agg [vc,vt,vr],ii (jy b).2.1,ii (jy b).2.2]/\(match (jy b).1 with|none=>vc= .nils/\vt= .nils/\vr= .nils/\(jy b).2.2≠0|some p=>RP m' (nZ m) p vc vt vr/\(jy b).2.2=0/\p.cs.length+p.ts.length<=b.length+2/\(p.ts.map fun t=>bA t.2).sum+bA p.r<=4*(b.length+1)))/\Chg [] m m':=by
 refine WF.ex fun K hK=> ?_
 refine WF.of_wpG (fun _=>rfl) zb (L:= [(.e,v)]) rfl ?_
 unfold If
 have hlen:=hv.len
 rw[show (oh b).length=b.length by simp] at hlen
 simp (config:={maxSteps:=1000000}) (disch:=first|assumption|omega|exact ab (by omega)|exact aa (by assumption)|(simp only[ap]<;>omega)) only[go_sem,seval]
 generalize hM1:hp _ 1 m=M1
 have hC1:Chg [] m M1:=by rw[←hM1];exact ao rfl
 have hg1:M1.get (na m 0)=some (.cells true [.nils,.nils,.nils]):=by rw[←hM1];exact av
 have ho1:ay M1 (na m 0):=by rw[←hM1];exact ab (by omega)
 obtain ⟨w2,M2,hr2,hw2,hC2⟩:=B3 M1 (hv.chg hC1 fun _ _=>by simp) hb
 have hg2:=(hC2.get ho1 (by simp)).trans hg1
 have ho2:=hC2.old ho1
 have hC02:=hC1.trans hC2 (by simp)
 unfold jy at hK
 by_cases h16:16384<b.length
 ·rw[if_pos h16] at hw2 hK
  subst hw2
  simp (config:={maxSteps:=1000000}) (disch:=first|assumption|omega|exact ab (by omega)|exact aa (by assumption)|(simp only[ap]<;>omega)) only[go_sem,seval,hr2.wf,hg2]
  exact hK _ _ ⟨⟨.nils,.nils,.nils,rfl,rfl,rfl,rfl,by show (3:Nat)≠0;omega⟩,hC02.trans (ao rfl) (by simp[aR,aF])⟩
 ·rw[if_neg h16] at hw2 hK
  cases ht:(dM b).2 with
  |some a=>
   rw[ht] at hw2 hK
   dsimp only at hw2 hK
   subst hw2
   simp (config:={maxSteps:=1000000}) (disch:=first|assumption|omega|exact ab (by omega)|exact aa (by assumption)|(simp only[ap]<;>omega)) only[go_sem,seval,hr2.wf,hg2]
   exact hK _ _ ⟨⟨.nils,.nils,.nils,rfl,rfl,rfl,rfl,by show (2:Nat)≠0;omega⟩,hC02.trans (ao rfl) (by simp[aR,aF])⟩
  |none=>
   rw[ht] at hw2 hK
   dsimp only at hw2 hK
   obtain ⟨u,rfl,hu⟩:=hw2
   obtain ⟨hok,hne⟩:=GC ht
   have hll:(dM b).1.length<=b.length+1:=lN b (b.length+1) (bB b 0)
   have hlast:=Eq _ _ _ hok
   generalize (dM b).1=L at hu hok hne hll hlast hK
   have hlp:=List.length_pos_iff.mpr hne
   simp (config:={maxSteps:=1000000}) (disch:=first|assumption|omega|exact ab (by omega)|exact aa (by assumption)|(simp only[ap]<;>omega)) only[go_sem,seval,hr2.wf,hg2,hu.sl.one]
   generalize hM3:hp _ 1 M2=M3
   have hC3:Chg [] M2 M3:=by rw[←hM3];exact ao rfl
   have hg3:M3.get (na M2 0)=some (.cells true [u,ii 0,ii 0,ii 0,.bool false,.nils,.nils,.nils]):=by rw[←hM3];exact av
   have ho3:ay M3 (na M2 0):=by rw[←hM3];exact ab (by omega)
   have hc:RC M2 L u (na M2 0):=⟨hu.sl,by omega,aF⟩
   have hp0:PD M3 M3 (na M2 0) u ⟨0,0,0⟩ ⟨[], [], [],false⟩ .nils .nils .nils:=⟨⟨hg3,ho3⟩,bz.nil,⟨[],bz.nil,rfl,by simp⟩,⟨[],s7 _ _⟩,by simp[ids],fun i hi=>hi,ho3⟩
   have hst:=yb (L:=L) (L.length+1) ⟨[], [], [],false⟩ ⟨0,0,0⟩
   have hlim:=hst.lim2 hlast (Nat.zero_le _) (Nat.zero_le _)
   have hszp:=Ga (L:=L) (L.length+1) ⟨[], [], [],false⟩ ⟨0,0,0⟩ 0 (fun _=>rfl) (fun _=>by simp[Ps.sz,bA])
   have hlenp:(cF L (L.length+1) ⟨[], [], [],false⟩ ⟨0,0,0⟩).1.cs.length+(cF L (L.length+1) ⟨[], [], [],false⟩ ⟨0,0,0⟩).1.ts.length<=L.length+1:=by
    have key:∀(f:Nat) (P:Ps) (s:Rs),(cF L f P s).1.cs.length+(cF L f P s).1.ts.length<=P.cs.length+P.ts.length+f:=by
     intro f
     induction f with
     |zero=>intro P s;exact Nat.le_refl _
     |succ f ih=>
      intro P s
      rw[cF]
      split
      ·dsimp only;omega
      ·split
       ·dsimp only;omega
       ·have h1:=ih (ft L P s).1 (ft L P s).2
        have h2:=zU (L:=L) P s
        omega
    have:=key (L.length+1) ⟨[], [], [],false⟩ ⟨0,0,0⟩
    simpa using this
   generalize hE:cF L (L.length+1) ⟨[], [], [],false⟩ ⟨0,0,0⟩=q at hK hst hlim hszp hlenp
   obtain ⟨X,Z⟩:=q
   dsimp only at hK hst hlim hszp hlenp
   refine Ai hc (fun i hi=>hC3.old hi) (vb:=v) (o:=na m 0) hC3 hp0 (Nat.zero_le _) rfl hE (by simp only[go_sem,seval]) (by simp only[go_sem,seval]) (by simp only[go_sem,seval]) (by simp only[go_sem,seval]) ?_
   intro t' M4 vc vt vr g1 g2 g3 g4 hp4 h04
   have hdg:=hp4.hd.g
   have hdo:=hp4.hd.o
   have hg4:=(h04.get ho2 (by simp)).trans hg2
   have ho4:=h04.old ho2
   have hC04:Chg [] m M4:=hC02.trans h04 (by simp)
   have hlen4:=(hv.chg hC04 fun _ _=>by simp).len
   rw[show (oh b).length=b.length by simp] at hlen4
   rw[←ag M4]
   by_cases hz:Z.e=0
   ·rw[if_neg (by omega)] at hK
    obtain ⟨CT,t1,t2,t3⟩:=hp4.tt
    obtain ⟨CR,r1⟩:=hp4.rr
    simp (config:={maxSteps:=1000000}) (disch:=first|assumption|omega|exact ab (by omega)|exact aa (by assumption)|(simp only[ap]<;>omega)) only[go_sem,seval,g1,g2,g3,g4,hdg,hg4,hlen4,hp4.cc.sl.one,t1.sl.one,r1.sl.one]
    generalize hM5:hp _ 0 M4=M5
    have hC5:Chg [na m 0] M4 M5:=by rw[←hM5];exact ao rfl
    have hCm3:Chg [] m M3:=hC02.trans hC3 (by simp)
    have hT:∀i,TP M3 vc vt i->i∉ [na m 0]:=fun i hi h=>by
     simp only[List.mem_cons,List.not_mem_nil,or_false] at h;subst h;exact hi.1 (hC3.old ho2)
    have hT2:∀i,TP M3 vc vt i->nZ m i:=fun i hi h=>hi.1 (hCm3.old h)
    have nw:∀{w e C},bz M3 M4 w e C->∀i∈ids w,i∉ [na m 0]:=fun hw i hi h=>by
     simp only[List.mem_cons,List.not_mem_nil,or_false] at h;subst h;exact hw.new _ hi (hC3.old ho2)
    have hs0:=hszp hz
    refine hK _ _ ⟨⟨vc,vt,vr,rfl, ?_,rfl, ?_, ?_⟩,hC04.trans hC5 fun i hi ho=>by
     simp only[List.mem_cons,List.not_mem_nil,or_false] at hi;subst hi;exact absurd ho aF⟩
    ·refine ⟨hp4.cc.sl.chg hC5 (nw hp4.cc),fun i hi h=>hp4.cc.new i hi (hCm3.old h),⟨CT,t1.sl.chg hC5 (nw t1),fun i hi h=>t1.new i hi (hCm3.old h),t2,fun j x c a b'=> ?_⟩,⟨CR,(r1.stays (bo.of hC5 hT)).weak hT2⟩⟩
     obtain ⟨w,B,e,q⟩:=t3 j x c a b'
     exact ⟨w,B,e,(q.stays (bo.of hC5 hT)).weak hT2⟩
    ·dsimp only;omega
    ·have:X.sz<=4*(b.length+1):=by omega
     exact this
   ·rw[if_pos hz] at hK
    have hb':Z.b<L.length:=by omega
    have hu4:=hu.sl.chg h04 fun _ _=>by simp
    have huo:=hu.chg h04 fun _ _=>by simp
    obtain ⟨id,off,c,a1,-,aN,a2,a3,a4,a5,-⟩:=huo.at Z.b (by simpa using hb')
    have hid:id≠na m 0:=fun e=>aN (e▸ho1)
    have hid':na m 0≠id:=fun e=>hid e.symm
    rw[List.getElem_map] at a5
    have c3:c[off+3]? =some (ii (L[Z.b]).p):=bg a5 3 (by omega)
    have en:aT L Z.b=L[Z.b]:=by rw[aT,List.getElem?_eq_getElem hb'];rfl
    rw[en] at hK
    have hde:decide ((Z.e:Int)≠0)=true:=decide_eq_true (by omega)
    have hus:=hu4.same (n:=3)
    have hr0:na M2 0≠na m 0:=fun e=>ho2.ne 0 e.symm
    have hr0':na m 0≠na M2 0:=fun e=>hr0 e.symm
    simp (config:={maxSteps:=1000000}) (disch:=first|assumption|omega|exact ab (by omega)|exact aa (by assumption)|(simp only[ap]<;>omega)) only[go_sem,seval,g1,g2,g3,g4,hdg,hg4,hlen4,hde,a1,a2,c3,hus]
    refine hK _ _ ⟨⟨.nils,.nils,.nils,rfl,rfl,rfl,rfl,hz⟩, ?_⟩
    exact mY hC04 (by simp[aR,aF])
end
end FR
open Go Nm Go.Proofs
namespace FR
set_option linter.unusedSimpArgs false
set_option linter.unusedVariables false
end FR
open Go Nm Go.Proofs
namespace FR
set_option linter.unusedSimpArgs false
set_option linter.unusedVariables false
theorem OA {n:Int} (h:(Lit.int .u8 n).wf=true):0<=n/\n<256:=by
 have h1:IntKind.u8.min=0:=rfl
 have h2:IntKind.u8.max=255:=rfl
 simp only[Lit.wf,Bool.and_eq_true,decide_eq_true_eq,h1,h2] at h
 omega
end FR
open Go Nm Go.Proofs
namespace FR
set_option linter.unusedSimpArgs false
set_option linter.unusedVariables false
end FR
open Go Nm Go.Proofs
namespace FR
set_option linter.unusedSimpArgs false
set_option linter.unusedVariables false
set_option maxRecDepth 100000 in
theorem Cz {m:NH} {l:List NV} (h:Ty Try.prog m 22 l):∃v b,l= [v]/\Sl m v 1 (oh b)/\∀x∈b,x<256:=by
 obtain ⟨v,C,rfl,hS,hm,hall⟩:=h.inv_slc Try.underlying22
 have key:∀C:List (List NV),(∀c∈C,Ty Try.prog m 5 c)->∃b:List Nat,C=oh b/\∀x∈b,x<256:=by
  intro C
  induction C with
  |nil=>intro _;exact ⟨[],rfl,by simp⟩
  |cons c C ih=>
   intro h
   obtain ⟨n,rfl,hw⟩:=(h c (List.mem_cons_self ..)).inv_int Try.underlying5
   obtain ⟨l,rfl,g⟩:=ih fun x hx=>h x (List.mem_cons_of_mem _ hx)
   have hn:=OA hw
   obtain ⟨k,rfl⟩:=Int.eq_ofNat_of_zero_le hn.1
   exact ⟨k::l,rfl,by intro x hx;rcases List.mem_cons.mp hx with rfl|hx;omega;exact g x hx⟩
 obtain ⟨b,rfl,hf⟩:=key C hall
 exact ⟨v,b,rfl,hS,hf⟩
theorem Gk {l:List Nat} {x:Nat} (h:x∈l):x<=l.sum:=by
 induction l with
 |nil=>simp at h
 |cons a l ih=>
  rw[List.sum_cons]
  rcases List.mem_cons.mp h with rfl|h
  ·omega
  ·have:=ih h;omega
end FR
open Go Nm Go.Proofs
namespace FR
set_option linter.unusedSimpArgs false
set_option linter.unusedVariables false
section
variable {L:List Tok}
theorem EH {P:Ps} {s:Rs} (h:∀c∈P.cs,0<=c.2/\c.2<=1048576):∀c∈(ft L P s).1.cs,0<=c.2/\c.2<=1048576:=by
 intro c
 unfold ft
 split
 ·intro hc
  rcases List.mem_append.1 hc with hc|hc
  ·exact h c hc
  ·rw[List.mem_singleton] at hc
   subst hc
   unfold qn bH
   split
   ·split
    ·dsimp only;split<;>omega
    ·dsimp only;omega
   ·dsimp only;omega
 ·split
  ·exact h c
  ·exact h c
theorem Ap:∀(f:Nat) (P:Ps) (s:Rs),(∀c∈P.cs,0<=c.2/\c.2<=1048576)->∀c∈(cF L f P s).1.cs,0<=c.2/\c.2<=1048576:=by
 intro f
 induction f with
 |zero=>intro P s h;exact h
 |succ f ih=>
  intro P s h
  rw[cF]
  split
  ·exact h
  ·split
   ·exact h
   ·exact ih _ _ (EH h)
end
theorem wd {b:List Nat} {p:Prg} (h:(jy b).1=some p):∀c∈p.cs,0<=c.2/\c.2<=1048576:=by
 unfold jy at h
 split at h
 ·cases h
 ·split at h
  ·cases h
  ·split at h
   ·cases h
   ·injection h with h
    subst h
    exact Ap _ _ _ (by simp)
def cD (cs:List (List Nat×Int)) (l:List Stm):Ms:=bv (aJ 12 0 0) (jQ cs (locals l) l ⟨[],(locals l).length,0⟩)
abbrev LE (l:List Sp):List (List NV):=l.map Sp.l
theorem lW (l:List Stm):(locals l).length<=2*bA l:=by
 have h1:=b9 ((bk l).flatMap Stm.own) []
 have h2:=(kZ l).2
 unfold locals
 simp only[List.length_nil] at h1
 omega
theorem iD {l:List Stm} (hz:bA l<=400000):(⟨[],(locals l).length,0⟩:Ms).ok (1+16*bA l):=by
 have:=lW l
 exact ⟨by simp;omega,by dsimp only;omega,by dsimp only;omega,by dsimp only;omega,by dsimp only;omega⟩
theorem uz {B B' m m':NH} {v:NV} {e:Nat} {C:List (List NV)} {t:D4} (h:bz B' m v e C) (hC:Chg [t] m m') (ht:ay B' t) (hb:∀i,ay B i->ay B' i):bz B m' v e C:=
 (h.chg hC fun i hi q=>by
  simp only[List.mem_cons,List.not_mem_nil,or_false] at q;subst q;exact h.new _ hi ht).back hb
theorem w8 {m:NH} {T:D4->Prop} {v vc:NV} {l:List Stm} {C:List (List NV)} {cs:List (List Nat×Int)} (hS:SS m T v l C) (hc:Sl m vc 2 (lm cs)) (hcl:cs.length<=1000000) (hcz:∀c∈cs,0<=c.2/\c.2<=1048576) (hz:bA l<=400000):
 ∃w m',bm Try.prog S0 25 [v,vc] m w m'/\(∃vs,w= .agg [ii (cD cs l).v,ii (locals l).length,vs]/\bz m m' vs 9 (LE (cD cs l).st))/\Chg [] m m':=by
 refine WF.ex fun K hK=> ?_
 refine WF.of_wpG (fun _=>rfl) yY (L:= [(.a .e,vc),(.e,v)]) rfl ?_
 unfold JY
 generalize hM1:hp [(.n 0,.cells true [ii 0,ii 0,.nils])] 1 m=M1
 have hC1:Chg [] m M1:=by rw[←hM1];exact ao rfl
 have g1:M1.get (na m 0)=some (.cells true [ii 0,ii 0,.nils]):=by rw[←hM1];exact av
 have o1:ay M1 (na m 0):=by rw[←hM1];exact ab (by omega)
 obtain ⟨vn,m2,r2,hn,hC2⟩:=Dp (hS.stays (io hC1 T)) (Chg.refl M1) (by omega)
 have o2:=hC2.old o1
 have g2:=(hC2.get o1 (by simp)).trans g1
 have hCm2:=hC1.trans hC2 (by simp)
 have hnl:=hn.sl.len
 have hns:=hn.sl.one
 rw[List.length_map] at hnl
 have hle:=lW l
 have hx:Cx m2 vc vn cs (locals l):=⟨hc.chg hCm2 fun _ _=>by simp,hcl,fun n z h e=>by have:=hcz _ (List.getElem_mem h);omega,hn.sl,by omega⟩
 have hvc:=hx.c.one
 simp (config:={maxSteps:=1000000}) (disch:=first|assumption|omega|exact ab (by omega)|exact aa (by assumption)|(simp only[ap]<;>omega)) only[go_sem,seval,hM1,r2.wf,hnl,hns,hvc]
 generalize hM3:hp _ 1 m2=M3
 have hC3:Chg [] m2 M3:=by rw[←hM3];exact ao rfl
 have g3:M3.get (na m2 0)=some (.cells true [vc,vn,ii (locals l).length,ii (locals l).length,.nils,ii 0]):=by rw[←hM3];exact av
 have k3:MK m2 M3 (na m2 0) vc vn (locals l).length .nils ⟨[],(locals l).length,0⟩:=⟨g3,by rw[←hM3];exact ab (by omega),aF,bz.nil,by simp[ids],hC3⟩
 obtain ⟨m4,r4,v4,k4,e4⟩:=FC l (hS.stays (io hCm2 T)) hx k3 (k:=1) (iD hz)
 have ok4:=gO (cs:=cs) (ns:=locals l) (l:=l) (k:=1) (iD hz)
 obtain ⟨m5,r5,v5,k5,e5⟩:=eu k4 (aJ 12 0 0) (by have:=ok4.s;omega)
 change MK m2 m5 (na m2 0) vc vn _ v5 (cD cs l) at k5
 unfold aJ at r5
 have g5:=k5.g
 have h5:=k5.s.sl.one
 have o5:=k5.c.old o2
 have g50:=(k5.c.get o2 (by simp)).trans g2
 rw[←ag m5] at r5
 rw[ag] at r5
 simp (config:={maxSteps:=1000000}) (disch:=first|assumption|omega|exact ab (by omega)|exact aa (by assumption)|(simp only[ap]<;>omega)) only[go_sem,seval,r4.wf',r5.wf,g5,h5,g50]
 refine hK _ _ ⟨⟨v5,rfl, ?_⟩, ?_⟩
 ·generalize hM6:hp _ 0 m5=M6
  exact uz k5.s (by rw[←hM6];exact ao rfl) o2 fun i hi=>hCm2.old hi
 ·refine (hCm2.trans k5.c (by simp)).trans (ao rfl) fun i hi ho=> ?_
  simp only[aR,List.mem_cons,List.not_mem_nil,or_false] at hi;subst hi;exact absurd ho aF
theorem we {m:NH} {T:D4->Prop} {v vc:NV} {l:List Stm} {C:List (List NV)} {cs:List (List Nat×Int)} (hS:SS m T v l C) (hc:Sl m vc 2 (lm cs)) (hcl:cs.length<=1000000) (hcz:∀c∈cs,0<=c.2/\c.2<=1048576) (hz:bA l<=400000):
 ∃w m',bm Try.prog S0 26 [v,vc] m w m'/\(∃vs,w= .agg [ii (cD cs l).v,ii (locals l).length,vs]/\bz m m' vs 9 (LE (cD cs l).st))/\Chg [] m m':=by
 refine WF.ex fun K hK=> ?_
 refine WF.of_wpG (fun _=>rfl) yS (L:= [(.a .e,vc),(.e,v)]) rfl ?_
 unfold Jd
 generalize hM1:hp [(.n 0,.cells true [ii 0,ii 0,.nils])] 1 m=M1
 have hC1:Chg [] m M1:=by rw[←hM1];exact ao rfl
 have g1:M1.get (na m 0)=some (.cells true [ii 0,ii 0,.nils]):=by rw[←hM1];exact av
 have o1:ay M1 (na m 0):=by rw[←hM1];exact ab (by omega)
 obtain ⟨vn,m2,r2,hn,hC2⟩:=EB (hS.stays (io hC1 T)) (Chg.refl M1) (by omega)
 have o2:=hC2.old o1
 have g2:=(hC2.get o1 (by simp)).trans g1
 have hCm2:=hC1.trans hC2 (by simp)
 have hnl:=hn.sl.len
 have hns:=hn.sl.one
 rw[List.length_map] at hnl
 have hle:=lW l
 have hx:Cx m2 vc vn cs (locals l):=⟨hc.chg hCm2 fun _ _=>by simp,hcl,fun n z h e=>by have:=hcz _ (List.getElem_mem h);omega,hn.sl,by omega⟩
 have hvc:=hx.c.one
 simp (config:={maxSteps:=1000000}) (disch:=first|assumption|omega|exact ab (by omega)|exact aa (by assumption)|(simp only[ap]<;>omega)) only[go_sem,seval,hM1,r2.wf,hnl,hns,hvc]
 generalize hM3:hp _ 1 m2=M3
 have hC3:Chg [] m2 M3:=by rw[←hM3];exact ao rfl
 have g3:M3.get (na m2 0)=some (.cells true [vc,vn,ii (locals l).length,ii (locals l).length,.nils,ii 0]):=by rw[←hM3];exact av
 have k3:MK m2 M3 (na m2 0) vc vn (locals l).length .nils ⟨[],(locals l).length,0⟩:=⟨g3,by rw[←hM3];exact ab (by omega),aF,bz.nil,by simp[ids],hC3⟩
 obtain ⟨m4,r4,v4,k4,e4⟩:=Gj l (hS.stays (io hCm2 T)) hx k3 (k:=1) (iD hz)
 have ok4:=gO (cs:=cs) (ns:=locals l) (l:=l) (k:=1) (iD hz)
 obtain ⟨m5,r5,v5,k5,e5⟩:=eA k4 (aJ 12 0 0) (by have:=ok4.s;omega)
 change MK m2 m5 (na m2 0) vc vn _ v5 (cD cs l) at k5
 unfold aJ at r5
 have g5:=k5.g
 have h5:=k5.s.sl.one
 have o5:=k5.c.old o2
 have g50:=(k5.c.get o2 (by simp)).trans g2
 rw[←ag m5] at r5
 rw[ag] at r5
 simp (config:={maxSteps:=1000000}) (disch:=first|assumption|omega|exact ab (by omega)|exact aa (by assumption)|(simp only[ap]<;>omega)) only[go_sem,seval,r4.wf',r5.wf,g5,h5,g50]
 refine hK _ _ ⟨⟨v5,rfl, ?_⟩, ?_⟩
 ·generalize hM6:hp _ 0 m5=M6
  exact uz k5.s (by rw[←hM6];exact ao rfl) o2 fun i hi=>hCm2.old hi
 ·refine (hCm2.trans k5.c (by simp)).trans (ao rfl) fun i hi ho=> ?_
  simp only[aR,List.mem_cons,List.not_mem_nil,or_false] at hi;subst hi;exact absurd ho aF
end FR
open Go Nm Go.Proofs
namespace FR
set_option linter.unusedSimpArgs false
set_option linter.unusedVariables false
def da (cs:List (List Nat×Int)) (r:List Stm) (l:List (List Nat×List Stm)):Bool:=decide (400<(cD cs r).v)||l.any fun t=>decide (400<(cD cs t.2).v)
theorem qH {cs:List (List Nat×Int)} {r:List Stm} {l:List (List Nat×List Stm)} {i:Nat} (hi:i<l.length):da cs r (l.take (i+1))=(da cs r (l.take i)||decide (400<(cD cs l[i].2).v)):=by
 unfold da
 rw[List.take_add_one,List.getElem?_eq_getElem hi,List.any_append]
 simp[Bool.or_assoc]
def eL (m:NH) (cs:List (List Nat×Int)) (l:List Stm) (c:List NV) (N:D4->Prop):Prop:=∃vs,c= [ii (cD cs l).v,ii (locals l).length,vs]/\Sl m vs 9 (LE (cD cs l).st)/\∀i∈ids vs,N i
structure CodesC (m:NH) (cs:List (List Nat×Int)) (l:List (List Nat×List Stm)) (vl:NV) (C:List (List NV)) (N:D4->Prop):Prop where
 s:Sl m vl 3 C
 n:C.length=l.length
 c:∀(j:Nat) (t:List Nat×List Stm) (c:List NV),l[j]? =some t->C[j]? =some c->eL m cs t.2 c N
def oS (m0 m:NH) (p:Prg) (w:NV):Prop:=
 if (iK p).2≠0 then w= .tup [.agg [ii 0,ii 0,.nils],.nils,ii (iK p).2]
 else if da p.cs p.r p.ts=true then w= .tup [.agg [ii 0,ii 0,.nils],.nils,ii 3]
 else ∃c vl C,w= .tup [.agg c,vl,ii 0]/\eL m p.cs p.r c (fun i=>¬ay m0 i)/\CodesC m p.cs p.ts vl C (fun i=>¬ay m0 i)
theorem eL.chg {m m':NH} {cs:List (List Nat×Int)} {l:List Stm} {c:List NV} {N N':D4->Prop} {S:List D4} (h:eL m cs l c N) (hC:Chg S m m') (hS:∀i,N i->ay m i->i∉S) (hN:∀i,N i->ay m i->N' i):eL m' cs l c N':=by
 obtain ⟨vs,e,h1,h2⟩:=h
 exact ⟨vs,e,h1.chg hC fun i hi=>hS i (h2 i hi) (h1.old i hi),fun i hi=>hN i (h2 i hi) (h1.old i hi)⟩
theorem Hu {m:NH} {T:D4->Prop} {p:Prg} {vc vt vr:NV} (h:RP m T p vc vt vr) (hs:p.cs.length<=1000000/\p.ts.length<=1000000) (hcz:∀c∈p.cs,0<=c.2/\c.2<=1048576) (hz:∀t∈p.ts,bA t.2<=400000) (hr:bA p.r<=400000):
 ∃w m',bm Try.prog S0 20 [.agg [vc,vt,vr]] m w m'/\oS m m' p w/\Chg [] m m':=by
 refine WF.ex fun K hK=> ?_
 refine WF.of_wpG (fun _=>rfl) yG (L:= [(.e,.agg [vc,vt,vr])]) rfl ?_
 unfold Kt
 obtain ⟨hcs,hts⟩:=hs
 generalize hM1:hp [(.n 1,.cells true [ii 0,ii 0,.nils]),(.n 0,.cells true [vc,vt,vr])] 2 m=M1
 have hC1:Chg [] m M1:=by rw[←hM1];exact ao rfl
 have g10:M1.get (na m 0)=some (.cells true [vc,vt,vr]):=by rw[←hM1];exact av
 have g11:M1.get (na m 1)=some (.cells true [ii 0,ii 0,.nils]):=by rw[←hM1];exact av
 have o10:ay M1 (na m 0):=by rw[←hM1];exact ab (by omega)
 have o11:ay M1 (na m 1):=by rw[←hM1];exact ab (by omega)
 have hne:na m 0≠na m 1:=fun e=>by have:=je e;omega
 have h1:=h.stays (io hC1 T)
 obtain ⟨m2,r2,hC2⟩:=KJ h1 ⟨hcs,hts⟩ (fun t ht=>by have:=hz t ht;omega) (by omega)
 have g20:=(hC2.get o10 (by simp)).trans g10
 have g21:=(hC2.get o11 (by simp)).trans g11
 have o20:=hC2.old o10
 have o21:=hC2.old o11
 have hCm2:=hC1.trans hC2 (by simp)
 have h2:=h1.stays (io hC2 T)
 unfold oS at hK
 by_cases hE:(iK p).2≠0
 ·simp only[if_pos hE] at hK
  rw[←ag m2] at g20
  simp (config:={maxSteps:=1000000}) (disch:=first|assumption|omega|exact ab (by omega)|exact aa (by assumption)|(simp only[ap]<;>omega)) only[go_sem,seval,hM1,g10,r2.wf,g21]
  refine hK _ _ ⟨rfl,hCm2.trans (ao rfl) fun i hi ho=> ?_⟩
  simp only[aR,List.mem_cons,List.not_mem_nil,or_false] at hi;subst hi;exact absurd ho aF
 ·simp only[if_neg hE] at hK
  have hE0:(iK p).2=0:=by simpa using hE
  rw[hE0] at r2
  obtain ⟨CT,hT⟩:=h2.t
  obtain ⟨CR,hR⟩:=h2.r
  obtain ⟨w3,m3,r3,⟨vs3,rfl,hv3⟩,hC3⟩:=w8 hR h2.c hcs hcz hr
  have hlt:=hT.sl.len
  rw[hT.len] at hlt
  have g30:=(hC3.get o20 (by simp)).trans g20
  have g31:=(hC3.get o21 (by simp)).trans g21
  have o30:=hC3.old o20
  have o31:=hC3.old o21
  have hv31:=hv3.sl.one
  have hd3:decide (400<(cD p.cs p.r).v)=da p.cs p.r (p.ts.take 0):=by simp[da]
  simp (config:={maxSteps:=1000000}) (disch:=first|assumption|omega|exact ab (by omega)|exact aa (by assumption)|(simp only[ap]<;>omega)) only[go_sem,seval,hM1,g10,r2.wf',g20,r3.wf,hlt,hv31,g30,hd3]
  generalize hM4:hp _ 1 m3=M4
  have hC4:Chg [] m3 M4:=by rw[←hM4];exact ao rfl
  have g42:M4.get (na m3 0)=some (.cells true [ii (cD p.cs p.r).v,ii (locals p.r).length,vs3]):=by rw[←hM4];exact av
  have o42:ay M4 (na m3 0):=by rw[←hM4];exact ab (by omega)
  have g40:=(hC4.get o30 (by simp)).trans g30
  have g41:=(hC4.get o31 (by simp)).trans g31
  have o40:=hC4.old o30
  have o41:=hC4.old o31
  have hCm3:=hCm2.trans hC3 (by simp)
  have hCm4:=hCm3.trans hC4 (by simp)
  have hS3:eL M4 p.cs p.r [ii (cD p.cs p.r).v,ii (locals p.r).length,vs3] (fun i=>¬ay m i/\ay M4 i/\i≠na m 1):=by
   have h0:=hv3.chg hC4 fun _ _=>by simp
   refine ⟨vs3,rfl,h0.sl,fun i hi=>⟨fun ho=>hv3.new i hi (hCm2.old ho),h0.sl.old i hi,fun e=>hv3.new i hi (e▸o21)⟩⟩
  have hn3:na m3 0≠na m 1:=fun e=>aF (e▸o31)
  refine W.loop (fun k d=>∃t M i vl C,d=⟨t, [],none,M⟩/\NT.get D4.e.a t=some (.ptr (na m 0) 0)/\NT.get D4.e.b t=some (.ptr (na m 1) 0)/\NT.get D4.e.a.c t=some (.ptr (na m3 0) 0)/\NT.get D4.e.a.f t=some (.bool (da p.cs p.r (p.ts.take i)))/\NT.get D4.e.b.a t=some vl/\NT.get D4.e.a.c.c t=some vt/\NT.get D4.e.a.c.f t=some (ii p.ts.length)/\NT.get D4.e.a.f.a t=some (ii (i:Nat))/\i+k=p.ts.length/\bz M4 M vl 3 C/\C.length=i/\(∀(j:Nat) (t:List Nat×List Stm) (c:List NV),j<i->p.ts[j]? =some t->C[j]? =some c->eL M p.cs t.2 c (fun i=>¬ay M4 i/\i∉ids vl))/\Chg [] M4 M) ?_ p.ts.length _ ⟨_,M4,0,.nils, [],rfl,by simp only[go_sem,seval],by simp only[go_sem,seval],by simp only[go_sem,seval],by simp only[go_sem,seval],by simp only[go_sem,seval],by simp only[go_sem,seval],by simp only[go_sem,seval],by simp only[go_sem,seval]<;>rfl,by omega,bz.nil,rfl,by simp,Chg.refl M4⟩
  rintro k d ⟨t,M,i,vl,C,rfl,t1,t2,t3,t4,t5,t6,t7,t8,hik,hvl,hCl,hcd,hC⟩
  apply aA
  unfold zn
  change wp _ _ _ _ ⟨an [] t, [],none,M⟩ _
  have g0:=(hC.get o40 (by simp)).trans g40
  have g1:=(hC.get o41 (by simp)).trans g41
  have gs:=(hC.get o42 (by simp)).trans g42
  have o0:=hC.old o40
  have o1:=hC.old o41
  have os:=hC.old o42
  have hCM:=hCm4.trans hC (by simp)
  have hvl1:=hvl.sl.one
  rw[←ag M]
  by_cases hi:i<p.ts.length
  ·obtain ⟨vb,Bb,id,off,wr,c,hSb,a1,a2,a3,a4,a5⟩:=hT.at i hi
   have c1:c[off+1]? =some vb:=bg a5 1 (by omega)
   have hC2M:Chg [] m2 M:=(hC3.trans hC4 (by simp)).trans hC (by simp)
   have a2':=(hC2M.get a3 (by simp)).trans a2
   have hth: [NV.str p.ts[i].1,vb].length=2:=rfl
   have hvb1:=hSb.sl.one
   generalize hM5:hp [(.n 0,.cells true [.str p.ts[i].1,vb]),(.n 0,.cells true [.str [],.nils])] 1 M=M5
   have hC5:Chg [] M M5:=by rw[←hM5];exact ao rfl
   have g5:M5.get (na M 0)=some (.cells true [.str p.ts[i].1,vb]):=by rw[←hM5];exact av
   have o5n:ay M5 (na M 0):=by rw[←hM5];exact ab (by omega)
   have g50:=(hC5.get o0 (by simp)).trans g0
   obtain ⟨w6,m6,r6,⟨vs6,rfl,hv6⟩,hC6⟩:=w8 ((hSb.stays (io hC2M T)).stays (io hC5 T)) ((h2.c.chg hC2M fun _ _=>by simp).chg hC5 fun _ _=>by simp) hcs hcz (hz _ (List.getElem_mem hi))
   have hsucc:=qH (cs:=p.cs) (r:=p.r) hi
   have hv61:=hv6.sl.one
   have hC56:=hC5.trans hC6 (by simp)
   skip
   generalize hbq:da p.cs p.r (p.ts.take i)=bq at t4 hsucc
   have fin:∀{t':Tm} {M' vl'},bz M4 M' vl' 3 (C++ [[ii (cD p.cs p.ts[i].2).v,ii (locals p.ts[i].2).length,vs6]])->Chg (na M 0::ids vl) m6 M'->(∀j∈ids vl',j∈ids vl∨¬ay m6 j)->NT.get D4.e.a t'=some (.ptr (na m 0) 0)->NT.get D4.e.b t'=some (.ptr (na m 1) 0)->NT.get D4.e.a.c t'=some (.ptr (na m3 0) 0)->NT.get D4.e.a.f t'=some (.bool (da p.cs p.r (p.ts.take (i+1))))->NT.get D4.e.b.a t'=some vl'->NT.get D4.e.a.c.c t'=some vt->NT.get D4.e.a.c.f t'=some (ii p.ts.length)->NT.get D4.e.a.f.a t'=some (ii (i+1:Nat))->∃k'<k,∃t M i vl C,(⟨t', [],none,M'⟩:Dyn)=⟨t, [],none,M⟩/\NT.get D4.e.a t=some (.ptr (na m 0) 0)/\NT.get D4.e.b t=some (.ptr (na m 1) 0)/\NT.get D4.e.a.c t=some (.ptr (na m3 0) 0)/\NT.get D4.e.a.f t=some (.bool (da p.cs p.r (p.ts.take i)))/\NT.get D4.e.b.a t=some vl/\NT.get D4.e.a.c.c t=some vt/\NT.get D4.e.a.c.f t=some (ii p.ts.length)/\NT.get D4.e.a.f.a t=some (ii (i:Nat))/\i+k'=p.ts.length/\bz M4 M vl 3 C/\C.length=i/\(∀(j:Nat) (t:List Nat×List Stm) (c:List NV),j<i->p.ts[j]? =some t->C[j]? =some c->eL M p.cs t.2 c (fun i=>¬ay M4 i/\i∉ids vl))/\Chg [] M4 M:=by
    intro t' M' vl' q1 q2 q3 q4 q5 q6 q7 q8 q9 q10 q11
    have hvo:=hvl.sl.old
    have hC6M:Chg (ids vl) M M':=(hC56.weak (T:=ids vl) (by simp)).trans q2 fun i hi ho=>(List.mem_cons.1 hi).elim (fun e=>absurd (e▸ho) aF) fun q=>q
    refine ⟨k - 1,by omega,_,_,i+1,_,_,rfl,q4,q5,q6,q7,q8,q9,q10,q11,by omega,q1,by simp[hCl],fun j tt cc hj h1 h2=> ?_,hC.trans hC6M fun i hi ho=>absurd ho (hvl.new i hi)⟩
    rcases Nat.lt_or_ge j i with hji|hji
    ·rw[List.getElem?_append_left (by omega)] at h2
     exact (hcd j tt cc hji h1 h2).chg hC6M (fun i hi _=>hi.2) fun i hi ho=>⟨hi.1,fun q=>(q3 i q).elim hi.2 fun q=>q (hC56.old ho)⟩
    ·obtain rfl:j=i:=by omega
     rw[List.getElem?_append_right (by omega),hCl,Nat.sub_self,List.getElem?_cons_zero] at h2
     rw[List.getElem?_eq_getElem hi] at h1
     injection h1 with h1
     injection h2 with h2
     subst h1 h2
     have hnv:∀i∈ids vs6,i∉ids vl:=fun i hi q=>hv6.new i hi (hC5.old (hvo i q))
     have hnv':∀i∈ids vs6,i∉na M 0::ids vl:=fun i hi q=>(List.mem_cons.1 q).elim (fun e=>hv6.new i hi (e▸o5n)) (hnv i hi)
     exact ⟨vs6,rfl,hv6.sl.chg q2 hnv',fun i hi=>⟨fun ho=>hv6.new i hi (hC5.old (hC.old ho)),fun q=>(q3 i q).elim (hnv i hi) fun q=>q (hv6.sl.old i hi)⟩⟩
   cases bq with
   |true=>
    simp (config:={maxSteps:=1000000}) (disch:=first|assumption|omega|exact ab (by omega)|exact aa (by assumption)|(simp only[ap]<;>omega)) only[go_sem,seval,t1,t2,t3,t4,t5,t6,t7,t8,g0,a1,a2',c1,a5,hM5,g5,g50,r6.wf,hv61]
    generalize hM7:hp _ 2 m6=M7
    have hC7:Chg [] m6 M7:=by rw[←hM7];exact ao rfl
    have g7:M7.get (na m6 1)=some (.cells true [ii (cD p.cs p.ts[i].2).v,ii (locals p.ts[i].2).length,vs6]):=by rw[←hM7];exact av
    have o7:ay M7 (na m6 1):=by rw[←hM7];exact ab (by omega)
    refine dR ((hvl.chg hC56 fun _ _=>by simp).chg hC7 fun _ _=>by simp) g7 o7 rfl (fun i hi=>hC7.old (hC56.old (hC.old hi))) (by omega) (by omega) ?_
    intro vl2 M8 hw hCw8 hFw8
    have hCw:Chg (na M 0::ids vl) m6 M8:=(hC7.weak (T:=na M 0::ids vl) (by simp)).trans hCw8 fun i hi _=>List.mem_cons_of_mem _ hi
    have hFw:∀j∈ids vl2,j∈ids vl∨¬ay m6 j:=fun j hj=>(hFw8 j hj).imp (fun q=>q) fun q ho=>q (hC7.old ho)
    simp (config:={maxSteps:=1000000}) (disch:=first|assumption|omega|exact ab (by omega)|exact aa (by assumption)|(simp only[ap]<;>omega)) only[go_sem,seval,t1,t2,t3,t4,t5,t6,t7,t8,]
    exact fin hw hCw hFw (by simp only[go_sem,seval,t1]) (by simp only[go_sem,seval,t2]) (by simp only[go_sem,seval,t3]) (by simp only[go_sem,seval,t4,hsucc,Bool.true_or]) (by simp only[go_sem,seval]) (by simp only[go_sem,seval,t6]) (by simp only[go_sem,seval,t7]) (by simp only[go_sem,seval]<;>rfl)
   |false=>
    simp (config:={maxSteps:=1000000}) (disch:=first|assumption|omega|exact ab (by omega)|exact aa (by assumption)|(simp only[ap]<;>omega)) only[go_sem,seval,t1,t2,t3,t4,t5,t6,t7,t8,g0,a1,a2',c1,a5,hM5,g5,g50,r6.wf,hv61]
    generalize hM7:hp _ 2 m6=M7
    have hC7:Chg [] m6 M7:=by rw[←hM7];exact ao rfl
    have g7:M7.get (na m6 1)=some (.cells true [ii (cD p.cs p.ts[i].2).v,ii (locals p.ts[i].2).length,vs6]):=by rw[←hM7];exact av
    have o7:ay M7 (na m6 1):=by rw[←hM7];exact ab (by omega)
    refine dR ((hvl.chg hC56 fun _ _=>by simp).chg hC7 fun _ _=>by simp) g7 o7 rfl (fun i hi=>hC7.old (hC56.old (hC.old hi))) (by omega) (by omega) ?_
    intro vl2 M8 hw hCw8 hFw8
    have hCw:Chg (na M 0::ids vl) m6 M8:=(hC7.weak (T:=na M 0::ids vl) (by simp)).trans hCw8 fun i hi _=>List.mem_cons_of_mem _ hi
    have hFw:∀j∈ids vl2,j∈ids vl∨¬ay m6 j:=fun j hj=>(hFw8 j hj).imp (fun q=>q) fun q ho=>q (hC7.old ho)
    simp (config:={maxSteps:=1000000}) (disch:=first|assumption|omega|exact ab (by omega)|exact aa (by assumption)|(simp only[ap]<;>omega)) only[go_sem,seval,t1,t2,t3,t4,t5,t6,t7,t8,]
    exact fin hw hCw hFw (by simp only[go_sem,seval,t1]) (by simp only[go_sem,seval,t2]) (by simp only[go_sem,seval,t3]) (by simp only[go_sem,seval,t4,hsucc,Bool.false_or]) (by simp only[go_sem,seval]) (by simp only[go_sem,seval,t6]) (by simp only[go_sem,seval,t7]) (by simp only[go_sem,seval]<;>rfl)
  ·have hi':i=p.ts.length:=by omega
   rw[hi',List.take_length] at t4
   have hcc:CodesC M p.cs p.ts vl C (fun i=>¬ay M4 i):=⟨hvl.sl,by omega,fun j tt cc h1 h2=>by
    have hj:j<p.ts.length:=by
     rcases Nat.lt_or_ge j p.ts.length with q|q
     ·exact q
     ·rw[List.getElem?_eq_none q] at h1;cases h1
    exact (hcd j tt cc (by omega) h1 h2).chg (Chg.refl M) (by simp) fun i hi _=>hi.1⟩
   cases hbq:da p.cs p.r p.ts with
   |true=>
    rw[hbq] at t4
    simp only[if_pos hbq] at hK
    simp (config:={maxSteps:=1000000}) (disch:=first|assumption|omega|exact ab (by omega)|exact aa (by assumption)|(simp only[ap]<;>omega)) only[go_sem,seval,t1,t2,t3,t4,t5,t6,t7,t8,g0,g1,gs]
    refine hK _ _ ⟨rfl,hCM.trans (ao rfl) fun i hi ho=> ?_⟩
    simp only[aR,List.mem_cons,List.not_mem_nil,or_false] at hi;subst hi;exact absurd ho aF
   |false=>
    rw[hbq] at t4
    simp only[hbq] at hK
    have hgs1:na m3 0≠na m 1:=hn3
    simp (config:={maxSteps:=1000000}) (disch:=first|assumption|omega|exact ab (by omega)|exact aa (by assumption)|(simp only[ap]<;>omega)) only[go_sem,seval,t1,t2,t3,t4,t5,t6,t7,t8,g0,g1,gs]
    generalize hMz:hp _ 0 M=Mz
    have hCz:Chg [na m 1] M Mz:=by rw[←hMz];exact ao rfl
    refine hK _ _ ⟨⟨_,vl,C,rfl, ?_, ?_⟩,hCM.trans hCz fun i hi ho=> ?_⟩
    ·exact (hS3.chg hC (by simp) (N':=fun i=>¬ay m i/\i≠na m 1) fun i hi _=>⟨hi.1,hi.2.2⟩).chg hCz (fun i hi _=>by simpa using hi.2) fun i hi _=>hi.1
    ·have hnn:∀i,¬ay M4 i->i≠na m 1:=fun i hi e=>hi (e▸o41)
     exact ⟨hvl.sl.chg hCz fun i hi q=>hnn i (hvl.new i hi) (by simpa using q),hcc.n,fun j tt cc h1 h2=>(hcc.c j tt cc h1 h2).chg hCz (fun i hi _=>by simpa using hnn i hi) fun i hi _ ho=>hi (hCm4.old ho)⟩
    ·simp only[List.mem_cons,List.not_mem_nil,or_false] at hi;subst hi;exact absurd ho aF
theorem Fx {m:NH} {T:D4->Prop} {p:Prg} {vc vt vr:NV} (h:RP m T p vc vt vr) (hs:p.cs.length<=1000000/\p.ts.length<=1000000) (hcz:∀c∈p.cs,0<=c.2/\c.2<=1048576) (hz:∀t∈p.ts,bA t.2<=400000) (hr:bA p.r<=400000):
 ∃w m',bm Try.prog S0 21 [.agg [vc,vt,vr]] m w m'/\oS m m' p w/\Chg [] m m':=by
 refine WF.ex fun K hK=> ?_
 refine WF.of_wpG (fun _=>rfl) yX (L:= [(.e,.agg [vc,vt,vr])]) rfl ?_
 unfold J8
 obtain ⟨hcs,hts⟩:=hs
 generalize hM1:hp [(.n 1,.cells true [ii 0,ii 0,.nils]),(.n 0,.cells true [vc,vt,vr])] 2 m=M1
 have hC1:Chg [] m M1:=by rw[←hM1];exact ao rfl
 have g10:M1.get (na m 0)=some (.cells true [vc,vt,vr]):=by rw[←hM1];exact av
 have g11:M1.get (na m 1)=some (.cells true [ii 0,ii 0,.nils]):=by rw[←hM1];exact av
 have o10:ay M1 (na m 0):=by rw[←hM1];exact ab (by omega)
 have o11:ay M1 (na m 1):=by rw[←hM1];exact ab (by omega)
 have hne:na m 0≠na m 1:=fun e=>by have:=je e;omega
 have h1:=h.stays (io hC1 T)
 obtain ⟨m2,r2,hC2⟩:=K1 h1 ⟨hcs,hts⟩ (fun t ht=>by have:=hz t ht;omega) (by omega)
 have g20:=(hC2.get o10 (by simp)).trans g10
 have g21:=(hC2.get o11 (by simp)).trans g11
 have o20:=hC2.old o10
 have o21:=hC2.old o11
 have hCm2:=hC1.trans hC2 (by simp)
 have h2:=h1.stays (io hC2 T)
 unfold oS at hK
 by_cases hE:(iK p).2≠0
 ·simp only[if_pos hE] at hK
  rw[←ag m2] at g20
  simp (config:={maxSteps:=1000000}) (disch:=first|assumption|omega|exact ab (by omega)|exact aa (by assumption)|(simp only[ap]<;>omega)) only[go_sem,seval,hM1,g10,r2.wf,g21]
  refine hK _ _ ⟨rfl,hCm2.trans (ao rfl) fun i hi ho=> ?_⟩
  simp only[aR,List.mem_cons,List.not_mem_nil,or_false] at hi;subst hi;exact absurd ho aF
 ·simp only[if_neg hE] at hK
  have hE0:(iK p).2=0:=by simpa using hE
  rw[hE0] at r2
  obtain ⟨CT,hT⟩:=h2.t
  obtain ⟨CR,hR⟩:=h2.r
  obtain ⟨w3,m3,r3,⟨vs3,rfl,hv3⟩,hC3⟩:=we hR h2.c hcs hcz hr
  have hlt:=hT.sl.len
  rw[hT.len] at hlt
  have g30:=(hC3.get o20 (by simp)).trans g20
  have g31:=(hC3.get o21 (by simp)).trans g21
  have o30:=hC3.old o20
  have o31:=hC3.old o21
  have hv31:=hv3.sl.one
  have hd3:decide (400<(cD p.cs p.r).v)=da p.cs p.r (p.ts.take 0):=by simp[da]
  simp (config:={maxSteps:=1000000}) (disch:=first|assumption|omega|exact ab (by omega)|exact aa (by assumption)|(simp only[ap]<;>omega)) only[go_sem,seval,hM1,g10,r2.wf',g20,r3.wf,hlt,hv31,g30,hd3]
  generalize hM4:hp _ 1 m3=M4
  have hC4:Chg [] m3 M4:=by rw[←hM4];exact ao rfl
  have g42:M4.get (na m3 0)=some (.cells true [ii (cD p.cs p.r).v,ii (locals p.r).length,vs3]):=by rw[←hM4];exact av
  have o42:ay M4 (na m3 0):=by rw[←hM4];exact ab (by omega)
  have g40:=(hC4.get o30 (by simp)).trans g30
  have g41:=(hC4.get o31 (by simp)).trans g31
  have o40:=hC4.old o30
  have o41:=hC4.old o31
  have hCm3:=hCm2.trans hC3 (by simp)
  have hCm4:=hCm3.trans hC4 (by simp)
  have hS3:eL M4 p.cs p.r [ii (cD p.cs p.r).v,ii (locals p.r).length,vs3] (fun i=>¬ay m i/\ay M4 i/\i≠na m 1):=by
   have h0:=hv3.chg hC4 fun _ _=>by simp
   refine ⟨vs3,rfl,h0.sl,fun i hi=>⟨fun ho=>hv3.new i hi (hCm2.old ho),h0.sl.old i hi,fun e=>hv3.new i hi (e▸o21)⟩⟩
  have hn3:na m3 0≠na m 1:=fun e=>aF (e▸o31)
  refine W.loop (fun k d=>∃t M i vl C,d=⟨t, [],none,M⟩/\NT.get D4.e.a t=some (.ptr (na m 0) 0)/\NT.get D4.e.b t=some (.ptr (na m 1) 0)/\NT.get D4.e.a.c t=some (.ptr (na m3 0) 0)/\NT.get D4.e.a.f t=some (.bool (da p.cs p.r (p.ts.take i)))/\NT.get D4.e.b.a t=some vl/\NT.get D4.e.b.b t=some (ii (i:Nat))/\i+k=p.ts.length/\bz M4 M vl 3 C/\C.length=i/\(∀(j:Nat) (t:List Nat×List Stm) (c:List NV),j<i->p.ts[j]? =some t->C[j]? =some c->eL M p.cs t.2 c (fun i=>¬ay M4 i/\i∉ids vl))/\Chg [] M4 M) ?_ p.ts.length _ ⟨_,M4,0,.nils, [],rfl,by simp only[go_sem,seval],by simp only[go_sem,seval],by simp only[go_sem,seval],by simp only[go_sem,seval],by simp only[go_sem,seval],by simp only[go_sem,seval]<;>rfl,by omega,bz.nil,rfl,by simp,Chg.refl M4⟩
  rintro k d ⟨t,M,i,vl,C,rfl,t1,t2,t3,t4,t5,t8,hik,hvl,hCl,hcd,hC⟩
  apply aA
  unfold yT
  change wp _ _ _ _ ⟨an [] t, [],none,M⟩ _
  have g0:=(hC.get o40 (by simp)).trans g40
  have g1:=(hC.get o41 (by simp)).trans g41
  have gs:=(hC.get o42 (by simp)).trans g42
  have o0:=hC.old o40
  have o1:=hC.old o41
  have os:=hC.old o42
  have hCM:=hCm4.trans hC (by simp)
  have hvl1:=hvl.sl.one
  rw[←ag M]
  by_cases hi:i<p.ts.length
  ·obtain ⟨vb,Bb,id,off,wr,c,hSb,a1,a2,a3,a4,a5⟩:=hT.at i hi
   have c1:c[off+1]? =some vb:=bg a5 1 (by omega)
   have hC2M:Chg [] m2 M:=(hC3.trans hC4 (by simp)).trans hC (by simp)
   have a2':=(hC2M.get a3 (by simp)).trans a2
   generalize hM5:hp [(.n 0,.cells true [ii 0,ii 0,.nils])] 1 M=M5
   have hC5:Chg [] M M5:=by rw[←hM5];exact ao rfl
   have o5n:ay M5 (na M 0):=by rw[←hM5];exact ab (by omega)
   have g5n:M5.get (na M 0)=some (.cells true [ii 0,ii 0,.nils]):=by rw[←hM5];exact av
   obtain ⟨w6,m6,r6,⟨vs6,rfl,hv6⟩,hC6⟩:=we ((hSb.stays (io hC2M T)).stays (io hC5 T)) ((h2.c.chg hC2M fun _ _=>by simp).chg hC5 fun _ _=>by simp) hcs hcz (hz _ (List.getElem_mem hi))
   have hsucc:=qH (cs:=p.cs) (r:=p.r) hi
   have hv61:=hv6.sl.one
   have hC56:=hC5.trans hC6 (by simp)
   have g60:=(hC56.get o0 (by simp)).trans g0
   have a2'':=(hC56.get (hC2M.old a3) (by simp)).trans a2'
   have hsv:=hT.sl.same (n:=3)
   have hsvc:=h2.c.same (n:=3)
   have hsvb:=hSb.sl.same (n:=3)
   have o6n:=hC6.old o5n
   have g6n:=(hC6.get o5n (by simp)).trans g5n
   generalize hbq:da p.cs p.r (p.ts.take i)=bq at t4 hsucc
   have fin:∀{t':Tm} {M' vl'},bz M4 M' vl' 3 (C++ [[ii (cD p.cs p.ts[i].2).v,ii (locals p.ts[i].2).length,vs6]])->Chg (na M 0::ids vl) m6 M'->(∀j∈ids vl',j∈ids vl∨¬ay m6 j)->NT.get D4.e.a t'=some (.ptr (na m 0) 0)->NT.get D4.e.b t'=some (.ptr (na m 1) 0)->NT.get D4.e.a.c t'=some (.ptr (na m3 0) 0)->NT.get D4.e.a.f t'=some (.bool (da p.cs p.r (p.ts.take (i+1))))->NT.get D4.e.b.a t'=some vl'->NT.get D4.e.b.b t'=some (ii (i+1:Nat))->∃k'<k,∃t M i vl C,(⟨t', [],none,M'⟩:Dyn)=⟨t, [],none,M⟩/\NT.get D4.e.a t=some (.ptr (na m 0) 0)/\NT.get D4.e.b t=some (.ptr (na m 1) 0)/\NT.get D4.e.a.c t=some (.ptr (na m3 0) 0)/\NT.get D4.e.a.f t=some (.bool (da p.cs p.r (p.ts.take i)))/\NT.get D4.e.b.a t=some vl/\NT.get D4.e.b.b t=some (ii (i:Nat))/\i+k'=p.ts.length/\bz M4 M vl 3 C/\C.length=i/\(∀(j:Nat) (t:List Nat×List Stm) (c:List NV),j<i->p.ts[j]? =some t->C[j]? =some c->eL M p.cs t.2 c (fun i=>¬ay M4 i/\i∉ids vl))/\Chg [] M4 M:=by
    intro t' M' vl' q1 q2 q3 q4 q5 q6 q7 q8 q11
    have hvo:=hvl.sl.old
    have hC6M:Chg (ids vl) M M':=(hC56.weak (T:=ids vl) (by simp)).trans q2 fun i hi ho=>(List.mem_cons.1 hi).elim (fun e=>absurd (e▸ho) aF) fun q=>q
    refine ⟨k - 1,by omega,_,_,i+1,_,_,rfl,q4,q5,q6,q7,q8,q11,by omega,q1,by simp[hCl],fun j tt cc hj h1 h2=> ?_,hC.trans hC6M fun i hi ho=>absurd ho (hvl.new i hi)⟩
    rcases Nat.lt_or_ge j i with hji|hji
    ·rw[List.getElem?_append_left (by omega)] at h2
     exact (hcd j tt cc hji h1 h2).chg hC6M (fun i hi _=>hi.2) fun i hi ho=>⟨hi.1,fun q=>(q3 i q).elim hi.2 fun q=>q (hC56.old ho)⟩
    ·obtain rfl:j=i:=by omega
     rw[List.getElem?_append_right (by omega),hCl,Nat.sub_self,List.getElem?_cons_zero] at h2
     rw[List.getElem?_eq_getElem hi] at h1
     injection h1 with h1
     injection h2 with h2
     subst h1 h2
     have hnv:∀i∈ids vs6,i∉ids vl:=fun i hi q=>hv6.new i hi (hC5.old (hvo i q))
     have hnv':∀i∈ids vs6,i∉na M 0::ids vl:=fun i hi q=>(List.mem_cons.1 q).elim (fun e=>hv6.new i hi (e▸o5n)) (hnv i hi)
     exact ⟨vs6,rfl,hv6.sl.chg q2 hnv',fun i hi=>⟨fun ho=>hv6.new i hi (hC5.old (hC.old ho)),fun q=>(q3 i q).elim (hnv i hi) fun q=>q (hv6.sl.old i hi)⟩⟩
   cases bq with
   |true=>
    simp (config:={maxSteps:=1000000}) (disch:=first|assumption|omega|exact ab (by omega)|exact aa (by assumption)|(simp only[ap]<;>omega)) only[go_sem,seval,t1,t2,t3,t4,t5,t8,hlt,g0,a1,a2',c1,a5,hM5,g60,a2'',hsv,hsvc,hsvb,g6n,r6.wf,hv61]
    generalize hM7:hp _ 1 m6=M7
    have hC7:Chg [na M 0] m6 M7:=by rw[←hM7];exact (iV _ _ _).weak (by simp[aR])
    have g7:M7.get (na m6 0)=some (.cells true [ii (cD p.cs p.ts[i].2).v,ii (locals p.ts[i].2).length,vs6]):=by rw[←hM7];exact av
    have o7:ay M7 (na m6 0):=by rw[←hM7];exact ab (by omega)
    have hvl':=(hvl.chg hC56 fun _ _=>by simp).chg hC7 fun j hj q=>by
     simp only[List.mem_cons,List.not_mem_nil,or_false] at q;subst q;exact aF (hvl.sl.old _ hj)
    refine dR hvl' g7 o7 rfl (fun i hi=>hC7.old (hC56.old (hC.old hi))) (by omega) (by omega) ?_
    intro vl2 M8 hw hCw8 hFw8
    have hCw:Chg (na M 0::ids vl) m6 M8:=(hC7.weak (T:=na M 0::ids vl) (by simp)).trans hCw8 fun i hi _=>List.mem_cons_of_mem _ hi
    have hFw:∀j∈ids vl2,j∈ids vl∨¬ay m6 j:=fun j hj=>(hFw8 j hj).imp (fun q=>q) fun q ho=>q (hC7.old ho)
    simp (config:={maxSteps:=1000000}) (disch:=first|assumption|omega|exact ab (by omega)|exact aa (by assumption)|(simp only[ap]<;>omega)) only[go_sem,seval,t1,t2,t3,t4,t5,t8,hlt,]
    exact fin hw hCw hFw (by simp only[go_sem,seval,t1]) (by simp only[go_sem,seval,t2]) (by simp only[go_sem,seval,t3]) (by simp only[go_sem,seval,t4,hsucc,Bool.true_or]) (by simp only[go_sem,seval]) (by simp only[go_sem,seval]<;>rfl)
   |false=>
    simp (config:={maxSteps:=1000000}) (disch:=first|assumption|omega|exact ab (by omega)|exact aa (by assumption)|(simp only[ap]<;>omega)) only[go_sem,seval,t1,t2,t3,t4,t5,t8,hlt,g0,a1,a2',c1,a5,hM5,g60,a2'',hsv,hsvc,hsvb,g6n,r6.wf,hv61]
    generalize hM7:hp _ 1 m6=M7
    have hC7:Chg [na M 0] m6 M7:=by rw[←hM7];exact (iV _ _ _).weak (by simp[aR])
    have g7:M7.get (na m6 0)=some (.cells true [ii (cD p.cs p.ts[i].2).v,ii (locals p.ts[i].2).length,vs6]):=by rw[←hM7];exact av
    have o7:ay M7 (na m6 0):=by rw[←hM7];exact ab (by omega)
    have hvl':=(hvl.chg hC56 fun _ _=>by simp).chg hC7 fun j hj q=>by
     simp only[List.mem_cons,List.not_mem_nil,or_false] at q;subst q;exact aF (hvl.sl.old _ hj)
    refine dR hvl' g7 o7 rfl (fun i hi=>hC7.old (hC56.old (hC.old hi))) (by omega) (by omega) ?_
    intro vl2 M8 hw hCw8 hFw8
    have hCw:Chg (na M 0::ids vl) m6 M8:=(hC7.weak (T:=na M 0::ids vl) (by simp)).trans hCw8 fun i hi _=>List.mem_cons_of_mem _ hi
    have hFw:∀j∈ids vl2,j∈ids vl∨¬ay m6 j:=fun j hj=>(hFw8 j hj).imp (fun q=>q) fun q ho=>q (hC7.old ho)
    simp (config:={maxSteps:=1000000}) (disch:=first|assumption|omega|exact ab (by omega)|exact aa (by assumption)|(simp only[ap]<;>omega)) only[go_sem,seval,t1,t2,t3,t4,t5,t8,hlt,]
    exact fin hw hCw hFw (by simp only[go_sem,seval,t1]) (by simp only[go_sem,seval,t2]) (by simp only[go_sem,seval,t3]) (by simp only[go_sem,seval,t4,hsucc,Bool.false_or]) (by simp only[go_sem,seval]) (by simp only[go_sem,seval]<;>rfl)
  ·have hi':i=p.ts.length:=by omega
   rw[hi',List.take_length] at t4
   have hcc:CodesC M p.cs p.ts vl C (fun i=>¬ay M4 i):=⟨hvl.sl,by omega,fun j tt cc h1 h2=>by
    have hj:j<p.ts.length:=by
     rcases Nat.lt_or_ge j p.ts.length with q|q
     ·exact q
     ·rw[List.getElem?_eq_none q] at h1;cases h1
    exact (hcd j tt cc (by omega) h1 h2).chg (Chg.refl M) (by simp) fun i hi _=>hi.1⟩
   cases hbq:da p.cs p.r p.ts with
   |true=>
    rw[hbq] at t4
    simp only[if_pos hbq] at hK
    simp (config:={maxSteps:=1000000}) (disch:=first|assumption|omega|exact ab (by omega)|exact aa (by assumption)|(simp only[ap]<;>omega)) only[go_sem,seval,t1,t2,t3,t4,t5,t8,hlt,g0,g1,gs]
    refine hK _ _ ⟨rfl,hCM.trans (ao rfl) fun i hi ho=> ?_⟩
    simp only[aR,List.mem_cons,List.not_mem_nil,or_false] at hi;subst hi;exact absurd ho aF
   |false=>
    rw[hbq] at t4
    simp only[hbq] at hK
    have hgs1:na m3 0≠na m 1:=hn3
    simp (config:={maxSteps:=1000000}) (disch:=first|assumption|omega|exact ab (by omega)|exact aa (by assumption)|(simp only[ap]<;>omega)) only[go_sem,seval,t1,t2,t3,t4,t5,t8,hlt,g0,g1,gs]
    generalize hMz:hp _ 0 M=Mz
    have hCz:Chg [na m 1] M Mz:=by rw[←hMz];exact ao rfl
    refine hK _ _ ⟨⟨_,vl,C,rfl, ?_, ?_⟩,hCM.trans hCz fun i hi ho=> ?_⟩
    ·exact (hS3.chg hC (by simp) (N':=fun i=>¬ay m i/\i≠na m 1) fun i hi _=>⟨hi.1,hi.2.2⟩).chg hCz (fun i hi _=>by simpa using hi.2) fun i hi _=>hi.1
    ·have hnn:∀i,¬ay M4 i->i≠na m 1:=fun i hi e=>hi (e▸o41)
     exact ⟨hvl.sl.chg hCz fun i hi q=>hnn i (hvl.new i hi) (by simpa using q),hcc.n,fun j tt cc h1 h2=>(hcc.c j tt cc h1 h2).chg hCz (fun i hi _=>by simpa using hnn i hi) fun i hi _ ho=>hi (hCm4.old ho)⟩
    ·simp only[List.mem_cons,List.not_mem_nil,or_false] at hi;subst hi;exact absurd ho aF
end FR
open Go Nm Go.Proofs
namespace FR
set_option linter.unusedSimpArgs false
set_option linter.unusedVariables false
theorem rU {k:IntKind} {a:Int} {es:List EK} {l:List NV}:du (.int::es) (.int k (.lit a)::l) (.int k (.lit a)::l)=du es l l:=by
 have h:li a a=true:=by rw[bZ];simp
 have hk:jv k k=true:=by cases k<;>rfl
 show (match (cond (jv k k) (some (li a a)) none) with|some c=>cond c (du es l l) (some false)|none=>none)=_
 rw[hk,h];rfl
theorem O8 (s:Sp):du [.int,.int,.int,.int,.int,.int,.int,.int,.int] s.l s.l=some true:=by
 unfold Sp.l
 rw[rU,rU,rU,rU,rU,rU,rU,rU,rU];rfl
theorem LY (s:Sp):br 4 (.agg s.l) (.agg s.l)=true:=ko fun w hw=>by
 simp only[List.mem_cons,List.not_mem_nil,or_false] at hw
 rcases hw with rfl|rfl|rfl|rfl|rfl|rfl|rfl|rfl|rfl<;>trivial
theorem oX {m:NH} {a b:Int} {v v':NV} {L:List Sp} (hv:Sl m v 9 (LE L)) (hv':Sl m v' 9 (LE L)) (hl:L.length<=1000000000):∃m',bm Try.prog S0 23 [.agg [ii a,ii b,v],.agg [ii a,ii b,v']] m (.bool true) m'/\Chg [] m m':=by
 refine WF.ex1 fun K hK=> ?_
 refine WF.of_wpG (fun _=>rfl) zw (L:= [(.a .e,.agg [ii a,ii b,v']),(.e,.agg [ii a,ii b,v])]) rfl ?_
 unfold JG
 generalize hM:hp [(.n 1,.cells true [ii a,ii b,v']),(.n 0,.cells true [ii a,ii b,v])] 2 m=M
 have hC:Chg [] m M:=by rw[←hM];exact ao rfl
 have g0:M.get (na m 0)=some (.cells true [ii a,ii b,v]):=by rw[←hM];exact av
 have g1:M.get (na m 1)=some (.cells true [ii a,ii b,v']):=by rw[←hM];exact av
 have hV:=hv.chg hC fun _ _=>by simp
 have hV':=hv'.chg hC fun _ _=>by simp
 have hlen:=hV.len
 have hlen':=hV'.len
 rw[List.length_map] at hlen hlen'
 have hs:=hV.same (n:=3)
 have hs':=hV'.same (n:=3)
 simp (disch:=first|assumption|omega) only[go_sem,seval,hM,g0,g1,hlen,hlen']
 refine W.loop (fun k d=>∃t i,d=⟨t, [],none,M⟩/\NT.get D4.e.b t=some (.ptr (na m 0) 0)/\NT.get D4.e.c t=some (.ptr (na m 1) 0)/\NT.get D4.e.a.a t=some (ii (i:Nat))/\i+k=L.length) ?_ L.length _ ⟨_,0,rfl,by simp only[go_sem,seval],by simp only[go_sem,seval],by simp only[go_sem,seval]<;>rfl,by omega⟩
 rintro k d ⟨t,i,rfl,t1,t2,t3,hik⟩
 apply aA
 unfold zV
 change wp _ _ _ _ ⟨an [] t, [],none,M⟩ _
 by_cases hi:i<L.length
 ·obtain ⟨id,off,w,c,a1,a2,a3,a4,a5⟩:=hV.at i (by simpa using hi)
  obtain ⟨id',off',w',c',b1,b2,b3,b4,b5⟩:=hV'.at i (by simpa using hi)
  rw[List.getElem_map] at a5 b5
  have h9:=LY L[i]
  simp (disch:=first|assumption|omega) only[go_sem,seval,t1,t2,t3,g0,g1,hlen,a1,a2,a5,b1,b2,b5,ND (O8 _),hs,hs',h9]
  exact ⟨k - 1,by omega,_,i+1,by rfl,by simp only[go_sem,seval,t1],by simp only[go_sem,seval,t2],by simp only[go_sem,seval]<;>rfl,by omega⟩
 ·simp (disch:=first|assumption|omega) only[go_sem,seval,t1,t2,t3,g0,g1,hlen]
  exact hK _ hC
theorem vu {cs:List (List Nat×Int)} {l:List Stm} (hz:bA l<=400000):(cD cs l).st.length<=1000000000:=by
 have ok4:=gO (cs:=cs) (ns:=locals l) (l:=l) (k:=1) (iD (by omega))
 have:=ok4.s
 unfold cD bv
 simp;omega
theorem HI {m:NH} {cs:List (List Nat×Int)} {l:List Stm} {c c':List NV} {N N':D4->Prop} (h:eL m cs l c N) (h':eL m cs l c' N') (hz:bA l<=400000):∃m',bm Try.prog S0 23 [.agg c,.agg c'] m (.bool true) m'/\Chg [] m m':=by
 obtain ⟨v,rfl,hv,-⟩:=h
 obtain ⟨v',rfl,hv',-⟩:=h'
 exact oX hv hv' (vu hz)
theorem eL.one {m:NH} {cs:List (List Nat×Int)} {l:List Stm} {c:List NV} {N:D4->Prop} (h:eL m cs l c N):br 4 (.agg c) (.agg c)=true/\c.length=3:=by
 obtain ⟨v,rfl,hv,-⟩:=h
 refine ⟨ko fun w hw=> ?_,rfl⟩
 simp only[List.mem_cons,List.not_mem_nil,or_false] at hw
 rcases hw with rfl|rfl|rfl
 ·trivial
 ·trivial
 ·exact hv.flat
theorem qy {m:NH} {cs:List (List Nat×Int)} {l:List (List Nat×List Stm)} {v v':NV} {C C':List (List NV)} {N N':D4->Prop} (h:CodesC m cs l v C N) (h':CodesC m cs l v' C' N') (hl:l.length<=1000000) (hz:∀t∈l,bA t.2<=400000):
 ∃m',bm Try.prog S0 24 [v,v'] m (.bool true) m'/\Chg [] m m':=by
 refine WF.ex1 fun K hK=> ?_
 refine WF.of_wpG (fun _=>rfl) yf (L:= [(.a .e,v'),(.e,v)]) rfl ?_
 unfold Kn
 have hlen:=h.s.len
 have hlen':=h'.s.len
 rw[h.n] at hlen
 rw[h'.n] at hlen'
 simp (disch:=first|assumption|omega) only[go_sem,seval,ag,hlen,hlen']
 refine W.loop (fun k d=>∃t M i,d=⟨t, [],none,M⟩/\NT.get D4.e t=some v/\NT.get D4.e.a t=some v'/\NT.get D4.e.a.a t=some (ii (i:Nat))/\i+k=l.length/\Chg [] m M) ?_ l.length _ ⟨_,m,0,rfl,by simp only[go_sem,seval],by simp only[go_sem,seval],by simp only[go_sem,seval]<;>rfl,by omega,Chg.refl m⟩
 rintro k d ⟨t,M,i,rfl,t1,t2,t3,hik,hC⟩
 apply aA
 unfold yq
 change wp _ _ _ _ ⟨an [] t, [],none,M⟩ _
 by_cases hi:i<l.length
 ·have hci:i<C.length:=by rw[h.n];exact hi
  have hci':i<C'.length:=by rw[h'.n];exact hi
  obtain ⟨id,off,w,c,a1,a2,a3,a4,a5⟩:=h.s.at i hci
  obtain ⟨id',off',w',c',b1,b2,b3,b4,b5⟩:=h'.s.at i hci'
  have e1:=h.c i _ _ (List.getElem?_eq_getElem hi) (List.getElem?_eq_getElem hci)
  have e2:=h'.c i _ _ (List.getElem?_eq_getElem hi) (List.getElem?_eq_getElem hci')
  generalize C[i]=ci at a5 e1
  generalize C'[i]=ci' at b5 e2
  have a2':=(hC.get a3 (by simp)).trans a2
  have b2':=(hC.get b3 (by simp)).trans b2
  obtain ⟨o1,n1⟩:=e1.one
  obtain ⟨o2,n2⟩:=e2.one
  obtain ⟨M2,hr,hC2⟩:=HI (e1.chg hC (by simp) (N':=fun _=>True) fun _ _ _=>trivial) (e2.chg hC (by simp) (N':=fun _=>True) fun _ _ _=>trivial) (hz _ (List.getElem_mem hi))
  have a2'':=(hC2.get (hC.old a3) (by simp)).trans a2'
  have b2'':=(hC2.get (hC.old b3) (by simp)).trans b2'
  simp (disch:=first|assumption|omega) only[go_sem,seval,t1,t2,t3,hlen,a1,a2',a5,b1,b2',b5,o1,o2,hr.wf',a2'',b2'']
  exact ⟨k - 1,by omega,_,M2,i+1,by rfl,by simp only[go_sem,seval,t1],by simp only[go_sem,seval,t2],by simp only[go_sem,seval]<;>rfl,by omega,hC.trans hC2 (by simp)⟩
 ·simp (disch:=first|assumption|omega) only[go_sem,seval,t1,t2,t3,hlen]
  exact hK _ hC
theorem Mp (m:NH) (e:Int):bm Try.prog S0 22 [ii e] m (ii e) m:=by
 have h:∃v m',bm Try.prog S0 22 [ii e] m v m'/\v=ii e/\m'=m:=by
  refine WF.ex fun K hK=> ?_
  refine WF.of_wpG (fun _=>rfl) Aa (L:= [(.e,ii e)]) rfl ?_
  unfold IF
  simp (disch:=first|assumption|omega) only[go_sem,seval,ag]
  exact hK _ _ ⟨rfl,rfl⟩
 obtain ⟨v,m',h1,rfl,rfl⟩:=h
 exact h1
end FR
open Go Nm Go.Proofs
namespace FR
set_option linter.unusedSimpArgs false
set_option linter.unusedVariables false
def O5 (p:Prg):Prop:=(iK p).2=0/\da p.cs p.r p.ts=false
def K3 (p:Prg):Int:=if (iK p).2≠0 then (iK p).2 else if da p.cs p.r p.ts=true then 3 else 0
def Fq (m:NH) (p:Prg) (a b:Int) (v vl:NV) (N:D4->Prop):Prop:=(O5 p/\eL m p.cs p.r [ii a,ii b,v] N/\∃C,CodesC m p.cs p.ts vl C N)∨(¬O5 p/\a=0/\b=0/\v= .nils/\vl= .nils)
theorem oS.inv {m0 m:NH} {p:Prg} {w:NV} (h:oS m0 m p w):∃a b v vl,w= .tup [.agg [ii a,ii b,v],vl,ii (K3 p)]/\Fq m p a b v vl (fun i=>¬ay m0 i):=by
 unfold oS at h
 unfold K3
 by_cases h1:(iK p).2≠0
 ·rw[if_pos h1] at h
  rw[if_pos h1]
  exact ⟨0,0,.nils,.nils,h,Or.inr ⟨fun q=>h1 q.1,rfl,rfl,rfl,rfl⟩⟩
 ·rw[if_neg h1] at h
  rw[if_neg h1]
  by_cases h2:da p.cs p.r p.ts=true
  ·rw[if_pos h2] at h
   rw[if_pos h2]
   exact ⟨0,0,.nils,.nils,h,Or.inr ⟨fun q=>(by rw[q.2] at h2;cases h2),rfl,rfl,rfl,rfl⟩⟩
  ·rw[if_neg h2] at h
   rw[if_neg h2]
   obtain ⟨c,vl,C,rfl,⟨v,rfl,h3⟩,h4⟩:=h
   have e1:(iK p).2=0:=by simpa using h1
   have e2:da p.cs p.r p.ts=false:=by simpa using h2
   exact ⟨_,_,v,vl,rfl,Or.inl ⟨⟨e1,e2⟩,⟨v,rfl,h3⟩,C,h4⟩⟩
theorem CodesC.chg {m m':NH} {cs:List (List Nat×Int)} {l:List (List Nat×List Stm)} {v:NV} {C:List (List NV)} {N:D4->Prop} (h:CodesC m cs l v C N) (hC:Chg [] m m'):CodesC m' cs l v C N:=
 ⟨h.s.chg hC fun _ _=>by simp,h.n,fun j t c a b=>(h.c j t c a b).chg hC (by simp) fun i hi _=>hi⟩
theorem Fq.chg {m m':NH} {p:Prg} {a b:Int} {v vl:NV} {N:D4->Prop} (h:Fq m p a b v vl N) (hC:Chg [] m m'):Fq m' p a b v vl N:=by
 rcases h with ⟨h1,h2,C,h3⟩|h
 ·exact Or.inl ⟨h1,h2.chg hC (by simp) fun i hi _=>hi,C,h3.chg hC⟩
 ·exact Or.inr h
theorem Fq.one {m:NH} {p:Prg} {a b:Int} {v vl:NV} {N:D4->Prop} (h:Fq m p a b v vl N):cellsOf v=some [v]/\cellsOf vl=some [vl]:=by
 rcases h with ⟨-,⟨v',e,h2,-⟩,C,h3⟩|⟨-,-,-,rfl,rfl⟩
 ·injection e with _ e;injection e with _ e;injection e with e _
  subst e
  exact ⟨h2.one,h3.s.one⟩
 ·exact ⟨rfl,rfl⟩
theorem EO {m:NH} {p:Prg} {a b a' b':Int} {v vl v' vl':NV} {N N':D4->Prop} (h:Fq m p a b v vl N) (h':Fq m p a' b' v' vl' N') (hr:bA p.r<=400000):∃m',bm Try.prog S0 23 [.agg [ii a,ii b,v],.agg [ii a',ii b',v']] m (.bool true) m'/\Chg [] m m':=by
 rcases h with ⟨h1,h2,-⟩|⟨h1,rfl,rfl,rfl,rfl⟩
 ·rcases h' with ⟨-,h2',-⟩|⟨q,-⟩
  ·exact HI h2 h2' hr
  ·exact absurd h1 q
 ·rcases h' with ⟨q,-⟩|⟨-,rfl,rfl,rfl,rfl⟩
  ·exact absurd q h1
  ·exact oX (L:= []) Sl.nil Sl.nil (by simp)
theorem Au {m:NH} {p:Prg} {a b a' b':Int} {v vl v' vl':NV} {N N':D4->Prop} (h:Fq m p a b v vl N) (h':Fq m p a' b' v' vl' N') (hl:p.ts.length<=1000000) (hz:∀t∈p.ts,bA t.2<=400000):∃m',bm Try.prog S0 24 [vl,vl'] m (.bool true) m'/\Chg [] m m':=by
 rcases h with ⟨h1,-,C,h2⟩|⟨h1,rfl,rfl,rfl,rfl⟩
 ·rcases h' with ⟨-,-,C',h2'⟩|⟨q,-⟩
  ·exact qy h2 h2' hl hz
  ·exact absurd h1 q
 ·rcases h' with ⟨q,-⟩|⟨-,rfl,rfl,rfl,rfl⟩
  ·exact absurd q h1
  ·exact qy (l:= []) (C:= []) (C':= []) (cs:= []) (N:=fun _=>True) (N':=fun _=>True) ⟨Sl.nil,rfl,by simp⟩ ⟨Sl.nil,rfl,by simp⟩ (by simp) (by simp)
theorem lowerPrograms (m:NH) (l:List NV) (h:TyA Try.prog m [22] l):∃m',bm Try.prog S0 5 l m (.bool true) m':=by
 obtain ⟨x,r,rfl,h1,h⟩:=h.inv1 (by intro fs q;rw[Try.underlying22] at q;simp at q)
 obtain rfl:=h.inv0
 obtain ⟨v,b,hx,hv,hb⟩:=Cz h1
 have hxv:v=x:=by simpa using hx.symm
 subst hxv
 have hal:∀m,bm Try.prog S0 19 [] m (.bool true) m:=fun m=>bm.kept rfl m
 have h:∃v' m',bm Try.prog S0 5 [v] m v' m'/\v'= .bool true:=by
  refine WF.ex fun K hK=> ?_
  refine WF.of_wpG (fun _=>rfl) xu (L:= [(.e,v)]) rfl ?_
  unfold Nw
  have hv':Sl (hp [] 0 m) v 1 (oh b):=by rw[ag];exact hv
  obtain ⟨w,M1,hr1,⟨vc,vt,vr,rfl,hpp⟩,hC1⟩:=AW hv' hb
  rw[ag] at hC1
  have hlen:=(hv.chg hC1 fun _ _=>by simp).len
  rw[show (oh b).length=b.length by simp] at hlen
  cases hprog:(jy b).1 with
  |none=>
   rw[hprog] at hpp
   obtain ⟨-,-,-,he⟩:=hpp
   have he':((jy b).2.2:Int)≠0:=by omega
   simp (config:={maxSteps:=1000000}) (disch:=first|assumption|omega|exact ab (by omega)|exact aa (by assumption)|(simp only[ap]<;>omega)) only[go_sem,seval,(hal _).wf',hr1.wf,he']
   exact hK _ _ rfl
  |some p=>
   rw[hprog] at hpp
   obtain ⟨hpp,he,hs1,hs2⟩:=hpp
   by_cases hlb:2500<b.length
   ·simp (config:={maxSteps:=1000000}) (disch:=first|assumption|omega|exact ab (by omega)|exact aa (by assumption)|(simp only[ap]<;>omega)) only[go_sem,seval,(hal _).wf',hr1.wf,he,hlen]
    exact hK _ _ rfl
   ·have hcs:p.cs.length<=1000000/\p.ts.length<=1000000:=by omega
    have hz:∀t∈p.ts,bA t.2<=400000:=fun t ht=>by
     have:=Gk (List.mem_map_of_mem (f:=fun t:List Nat×List Stm=>bA t.2) ht)
     omega
    have hzr:bA p.r<=400000:=by omega
    have hcz:=wd hprog
    obtain ⟨CT0,hT0⟩:=hpp.t
    obtain ⟨CR0,hR0⟩:=hpp.r
    simp (config:={maxSteps:=1000000}) (disch:=first|assumption|omega|exact ab (by omega)|exact aa (by assumption)|(simp only[ap]<;>omega)) only[go_sem,seval,(hal _).wf',hr1.wf,he,hlen,hpp.c.one,hT0.sl.one,hR0.sl.one]
    generalize hM2:hp _ 1 M1=M2
    have hC2:Chg [] M1 M2:=by rw[←hM2];exact ao rfl
    have g2:M2.get (na M1 0)=some (.cells true [vc,vt,vr]):=by rw[←hM2];exact av
    have o2:ay M2 (na M1 0):=by rw[←hM2];exact ab (by omega)
    have hp2:=hpp.stays (io hC2 _)
    obtain ⟨w3,M3,hr3,hw3,hC3⟩:=Hu hp2 hcs hcz hz hzr
    obtain ⟨a3,b3,v3,l3,rfl,hP3⟩:=hw3.inv
    have g3:=(hC3.get o2 (by simp)).trans g2
    have o3:=hC3.old o2
    have hp3:=hp2.stays (io hC3 _)
    simp (config:={maxSteps:=1000000}) (disch:=first|assumption|omega|exact ab (by omega)|exact aa (by assumption)|(simp only[ap]<;>omega)) only[go_sem,seval,hr3.wf,hP3.one.1,g3]
    generalize hM4:hp _ 1 M3=M4
    have hC4:Chg [] M3 M4:=by rw[←hM4];exact ao rfl
    have g4:=(hC4.get o3 (by simp)).trans g3
    have o4:=hC4.old o3
    have q4:M4.get (na M3 0)=some (.cells true [ii a3,ii b3,v3]):=by rw[←hM4];exact av
    have oq4:ay M4 (na M3 0):=by rw[←hM4];exact ab (by omega)
    have hp4:=hp3.stays (io hC4 _)
    have hP4:=hP3.chg hC4
    obtain ⟨w5,M5,hr5,hw5,hC5⟩:=Fx hp4 hcs hcz hz hzr
    obtain ⟨a5,b5,v5,l5,rfl,hP5⟩:=hw5.inv
    have g5:=(hC5.get o4 (by simp)).trans g4
    have q5:=(hC5.get oq4 (by simp)).trans q4
    have o5:=hC5.old o4
    have oq5:=hC5.old oq4
    simp (config:={maxSteps:=1000000}) (disch:=first|assumption|omega|exact ab (by omega)|exact aa (by assumption)|(simp only[ap]<;>omega)) only[go_sem,seval,hr5.wf,hP5.one.1,(Mp _ _).wf',q5]
    generalize hM6:hp _ 1 M5=M6
    have hC6:Chg [] M5 M6:=by rw[←hM6];exact ao rfl
    have hP46:=(hP4.chg hC5).chg hC6
    have hP56:=hP5.chg hC6
    obtain ⟨M7,hr7,hC7⟩:=EO hP46 hP56 hzr
    obtain ⟨M8,hr8,hC8⟩:=Au (hP46.chg hC7) (hP56.chg hC7) hcs.2 hz
    simp (config:={maxSteps:=1000000}) (disch:=first|assumption|omega|exact ab (by omega)|exact aa (by assumption)|(simp only[ap]<;>omega)) only[go_sem,seval,hr7.wf',hr8.wf']
    have hC58:=(hC6.trans hC7 (by simp)).trans hC8 (by simp)
    have g8:=(hC58.get o5 (by simp)).trans g5
    have o8:=hC58.old o5
    have hp8:=(hp4.stays (io hC5 _)).stays (io hC58 _)
    refine W.loop (fun k d=>∃t N i,d=⟨t, [],none,N⟩/\NT.get D4.e.f t=some (.ptr (na M1 0) 0)/\NT.get D4.e.c.a t=some (ii (i:Nat))/\i+k=p.ts.length/\Chg [] M8 N) ?_ p.ts.length _ ⟨_,M8,0,rfl,by simp only[go_sem,seval],by simp only[go_sem,seval]<;>rfl,by omega,Chg.refl M8⟩
    rintro k d ⟨t,N,i,rfl,t1,t2,hik,hC⟩
    apply aA
    unfold Cq
    change wp _ _ _ _ ⟨an [] t, [],none,N⟩ _
    have gN:=(hC.get o8 (by simp)).trans g8
    have oN:=hC.old o8
    have hpN:=hp8.stays (io hC _)
    obtain ⟨CT,hT⟩:=hpN.t
    have hlT:=hT.sl.len
    rw[hT.len] at hlT
    by_cases hi:i<p.ts.length
    ·obtain ⟨vb,Bb,id,off,wr,c,hSb,e1,e2,e3,e4,e5⟩:=hT.at i hi
     have c1:c[off+1]? =some vb:=bg e5 1 (by omega)
     obtain ⟨w9,M9,hr9,hw9,hC9⟩:=w8 hSb hpN.c hcs.1 hcz (hz _ (List.getElem_mem hi))
     obtain ⟨w0,M0,hr0,hw0,hC0⟩:=we (hSb.stays (io hC9 _)) (hpN.c.chg hC9 fun _ _=>by simp) hcs.1 hcz (hz _ (List.getElem_mem hi))
     obtain ⟨x9,rfl,hx9⟩:=hw9
     obtain ⟨x0,rfl,hx0⟩:=hw0
     obtain ⟨Mx,hrx,hCx⟩:=oX (a:=(cD p.cs p.ts[i].2).v) (b:=(locals p.ts[i].2).length) (hx9.sl.chg hC0 fun _ _=>by simp) hx0.sl (vu (hz _ (List.getElem_mem hi)))
     have hC90:=hC9.trans hC0 (by simp)
     have gN1:=(hC9.get oN (by simp)).trans gN
     have gN2:=(hC90.get oN (by simp)).trans gN
     have gN3:=((hC90.trans hCx (by simp)).get oN (by simp)).trans gN
     have e21:=(hC9.get e3 (by simp)).trans e2
     have e22:=(hC90.get e3 (by simp)).trans e2
     have e23:=((hC90.trans hCx (by simp)).get e3 (by simp)).trans e2
     have hvt:=hT.sl.same (n:=3)
     have hvb:=hSb.sl.same (n:=3)
     have hvc:=hpN.c.same (n:=3)
     simp (config:={maxSteps:=1000000}) (disch:=first|assumption|omega|exact ab (by omega)|exact aa (by assumption)|(simp only[ap]<;>omega)) only[go_sem,seval,t1,t2,gN,hlT,e1,e2,c1,hr9.wf',hr0.wf',hrx.wf',gN1,gN2,gN3,e21,e22,e23,hvt,hvb,hvc]
     exact ⟨k - 1,by omega,_,Mx,i+1,by rfl,by simp only[go_sem,seval,t1],by simp only[go_sem,seval]<;>rfl,by omega,hC.trans (hC90.trans hCx (by simp)) (by simp)⟩
    ·simp (config:={maxSteps:=1000000}) (disch:=first|assumption|omega|exact ab (by omega)|exact aa (by assumption)|(simp only[ap]<;>omega)) only[go_sem,seval,t1,t2,gN,hlT]
     exact hK _ _ rfl
 obtain ⟨v',m',h,rfl⟩:=h
 exact ⟨m',h⟩
end FR
