/- Contracts of functions that the law LowerMeans reaches, part 2. -/
import Derived.Test.YtcpilcplobihkaaGreatLmU1
set_option linter.unusedSimpArgs false
set_option linter.unusedVariables false
open Go Nm Go.Proofs
namespace FR
variable {X:Ms} {l:List Stm} {t:Stm} {vs:List Int} {K:rS} {z:Mc} {m B:NH} {cs:List (List Nat×Int)} {s L a i b:Int} {n k o':Nat} {S F F':List D4} {C E:List (List NV)} {vo' vc pl':NV} {p:Prg} {T:D4->Prop} {st:List Sp} {x y:Nat×List Int} {ns:List (List Nat)}
def cP (L:List Tok):Nat->Ps->Rs->Ps×Rs
 |0,P,s=>(P,s)
 |f+1,P,s=>if s.e≠0 then (P,s) else if (aK L s.a).k=5 then (P,s) else cP L f (eX L P s).1 (eX L P s).2
def gy (b:List Nat):Option Prg×Nat×Nat:=if 16384<b.length then (none,0,3) else match (dM b).2 with
 |some a=>(none,a,2)
 |none=>if (cP (dM b).1 ((dM b).1.length+1) ⟨[], [], [],false⟩ ⟨0,0,0⟩).2.e≠0 then (none,(aK (dM b).1 (cP (dM b).1 ((dM b).1.length+1) ⟨[], [], [],false⟩ ⟨0,0,0⟩).2.b).p,(cP (dM b).1 ((dM b).1.length+1) ⟨[], [], [],false⟩ ⟨0,0,0⟩).2.e)
  else (some ⟨(cP (dM b).1 ((dM b).1.length+1) ⟨[], [], [],false⟩ ⟨0,0,0⟩).1.cs,(cP (dM b).1 ((dM b).1.length+1) ⟨[], [], [],false⟩ ⟨0,0,0⟩).1.ts,(cP (dM b).1 ((dM b).1.length+1) ⟨[], [], [],false⟩ ⟨0,0,0⟩).1.rc⟩,b.length,0)
section
variable {L:List Tok}
theorem ue (s:Rs):St L s (sL L s).2:=by
 unfold sL
 split
 ·rename_i h
  have h1:=(cX L s).trans (fi h)
  split
  ·rename_i h2
   exact ((h1.trans (jj (nP (by omega)) (bR h).1 (by omega))).trans (cr _ _ _)).trans (cr _ _ _)
  ·exact ((h1.trans (cL _ _ _)).trans (cr _ _ _)).trans (cr _ _ _)
 ·exact (cX L s).trans (cr _ _ _)
theorem sV (s:Rs):St L s (mO L s).2:=(cX L s).trans (fN 30 _)
theorem qA (q:Bool) (s:Rs):St L s (br L q s):=by unfold br;split;exact cL _ _ _;exact St.refl _ _
theorem QM (q:Bool) (s:Rs):St L s (I2 L q s).2:=((qA q s).trans (cr _ _ _)).trans (fN 30 _)
theorem Jh (P:Ps) (s:Rs):St L s (eX L P s).2:=by
 unfold eX
 split
 ·exact (fi ‹_›).trans (ue _)
 ·split
  ·exact (fi ‹_›).trans (sV _)
  ·exact QM _ _
theorem Rd (P:Ps) (s:Rs) (he:s.e=0):s.a<(eX L P s).2.a∨(eX L P s).2.e≠0:=by
 unfold eX
 split
 ·left;have:=(ue (L:=L) (ak s)).le;exact this
 ·split
  ·left;have:=(sV (L:=L) (ak s)).le;exact this
  ·have hb:=fN (L:=L) 30 (a9 L fC (br L P.rd s))
   by_cases h:(a9 L fC (br L P.rd s)).e=0
   ·left
    obtain ⟨h1,h2⟩:=eH h
    have h3:=(qA (L:=L) P.rd s).le
    have h4:=hb.le
    show s.a<(dQ L 30 _).2.a
    omega
   ·right;show (dQ L 30 _).2.e≠0
    rw[hb.err h];exact h
theorem EI (P:Ps) (s:Rs):(eX L P s).1.cs.length+(eX L P s).1.ts.length<=P.cs.length+P.ts.length+1:=by
 unfold eX
 split
 ·simp;omega
 ·split
  ·simp;omega
  ·dsimp only;omega
theorem Fl:∀(f:Nat) (P:Ps) (s:Rs),St L s (cP L f P s).2:=by
 intro f
 induction f with
 |zero=>exact fun P s=>St.refl _ _
 |succ f ih=>
  intro P s
  rw[cP]
  split
  ·exact St.refl _ _
  ·split
   ·exact St.refl _ _
   ·exact (Jh P s).trans (ih _ _)
def Ps.sz (P:Ps):Nat:=(P.ts.map fun t=>bQ t.2).sum+bQ P.rc
theorem PG (P:Ps) (s:Rs) (h:(eX L P s).2.e=0) (hrd:P.rd=false->P.rc= []):(eX L P s).1.sz+4*s.a<=P.sz+4*(eX L P s).2.a/\((eX L P s).1.rd=false->(eX L P s).1.rc= []):=by
 unfold eX at h ⊢
 split
 ·have:=(ue (L:=L) (ak s)).le
  have n:(ak s).a=s.a+1:=rfl
  refine ⟨?_,hrd⟩
  simp only[Ps.sz];omega
 ·rename_i q;rw[Xa q] at h
  split
  ·rename_i q2;rw[Xb q2] at h
   have h1:=CL (L:=L) 30 (bh L (ak s)).2 h
   have h2:=(cX L (ak s)).le
   have n:(ak s).a=s.a+1:=rfl
   refine ⟨?_,hrd⟩
   simp only[Ps.sz,List.map_append,List.map_cons,List.map_nil,List.sum_append,List.sum_cons,List.sum_nil,mO];omega
  ·rename_i q2;rw[Xa q2] at h
   have h1:=CL (L:=L) 30 _ h
   have h0:=(fN (L:=L) 30 _).zero h
   obtain ⟨h2,h3⟩:=eH h0
   have h4:=(qA (L:=L) P.rd s).zero h2
   have h5:(br L P.rd s).a=s.a:=by unfold br;split;unfold bD;split<;>rfl;rfl
   refine ⟨?_,fun h=>by simp at h⟩
   simp only[Ps.sz,I2];omega
theorem L8:∀(f:Nat) (P:Ps) (s:Rs) (a0:Nat),(P.rd=false->P.rc= [])->(s.e=0->P.sz+4*a0<=4*s.a)->(cP L f P s).2.e=0->(cP L f P s).1.sz+4*a0<=4*(cP L f P s).2.a:=by
 intro f
 induction f with
 |zero=>intro P s a0 _ h h2;exact h h2
 |succ f ih=>
  intro P s a0 hrd h
  rw[cP]
  split
  ·intro h2;exact W9 h2 ‹_›
  ·split
   ·intro h2;exact h h2
   ·intro h2
    have h3:=(Fl (L:=L) f _ _).zero h2
    have h4:=PG P s h3 hrd
    refine ih _ _ a0 h4.2 (fun _=> ?_) h2
    have:=h (by omega)
    omega
end
section
variable {m0 mR:NH} {L:List Tok} {vl:NV} {r:D4}
theorem FO (hc:RC m0 L vl r) (h0R:∀i,am m0 i->am mR i) {vb:NV} {X:Ps} {Z:Rs} {M:NH} {P:Ps} {s:Rs} {vt vr:NV} (h0:Chg [] m0 M) (hp:PD mR M r vl s P vc vt vr) (ha:s.a<=L.length) (hl:P.cs.length+P.ts.length=0) (hE:cP L (L.length+1) P s=(X,Z))
 {o:D4} {t:Tm} (g1:NT.get D4.e t=some vb) (g2:NT.get D4.e.a.f t=some (.ptr r 0)) (g3:NT.get D4.e.b t=some (.ptr o 0)) (g4:NT.get D4.e.a.a t=some vl) {Q:Out->Dyn->Prop}
 (hQ:∀t' M' vc vt vr,NT.get D4.e t'=some vb->NT.get D4.e.a.f t'=some (.ptr r 0)->NT.get D4.e.b t'=some (.ptr o 0)->NT.get D4.e.a.a t'=some vl->PD mR M' r vl Z X vc vt vr->Chg [] m0 M'->Q (.exit 0) ⟨ah [] t', [],none,M'⟩):
 W Tryz.prog S0 none zd.loop ⟨t, [],none,M⟩ Q:=by
 refine W.loop (fun k D=>∃t M P s vc vt vr,D=⟨t, [],none,M⟩/\NT.get D4.e t=some vb/\NT.get D4.e.a.f t=some (.ptr r 0)/\NT.get D4.e.b t=some (.ptr o 0)/\NT.get D4.e.a.a t=some vl/\PD mR M r vl s P vc vt vr/\Chg [] m0 M/\s.a<=L.length/\cP L k P s=(X,Z)/\(L.length<k+s.a∨s.e≠0)/\P.cs.length+P.ts.length+k<=L.length+1) ?_ (L.length+1) _ ⟨t,M,P,s,vc,vt,vr,rfl,g1,g2,g3,g4,hp,h0,ha,hE,Or.inl (by omega),by omega⟩
 clear h0 hp ha hl hE g1 g2 g3 g4
 rintro k D ⟨t,M,P,s,vc,vt,vr,rfl,g1,g2,g3,g4,hp,h0,ha,hE,hf,hlk⟩
 apply ax
 unfold zd
 change wp _ _ _ _ ⟨ah [] t, [],none,M⟩ _
 have hll:=hc.len
 have hdg:=hp.hd.g
 by_cases he:s.e=0
 ·obtain ⟨f,rfl⟩:∃f',k=f'+1:=⟨k - 1,by rcases hf with h|h<;>omega⟩
  rw[cP,Xa (by omega)] at hE
  obtain ⟨M2,hr2,hC2⟩:=jQ hc h0 hp.hd
  have hp2:=hp.grow hC2
  have h02:=h0.tr hC2
  have hl0:(aK L s.a).l[0]? =some (ii (aK L s.a).k):=rfl
  by_cases hk:(aK L s.a).k=5
  ·rw[Xb hk] at hE
   injection hE with e1 e2
   subst e1 e2
   simp (disch:=first|assumption|omega) only[go_sem,seval,g1,g2,g3,g4,hdg,hr2.wf',hl0]
   exact hQ _ M2 vc vt vr (by simp only[go_sem,seval,g1]) (by simp only[go_sem,seval,g2]) (by simp only[go_sem,seval,g3]) (by simp only[go_sem,seval,g4]) hp2 h02
  ·rw[Xa hk] at hE
   simp (disch:=first|assumption|omega) only[go_sem,seval,g1,g2,g3,g4,hdg,hr2.wf',hl0]
   refine WF.use1 (Ue hc h0R h02 hp2 ha (by omega) (by omega)) ?_
   rintro M3 ⟨h03,vc',vt',vr',hp3⟩
   have hpr:=Rd (L:=L) P s he
   have hlim:=(Jh (L:=L) P s).lim ha
   have hlen:=EI (L:=L) P s
   simp only[go_sem,seval]
   refine ⟨f,by omega,_,M3,_,_,vc',vt',vr',by rfl,by simp only[go_sem,seval,g1],by simp only[go_sem,seval,g2],by simp only[go_sem,seval,g3],by simp only[go_sem,seval,g4],hp3,h03,hlim,hE, ?_,by omega⟩
   rcases hpr with h|h
   ·left;rcases hf with q|q<;>omega
   ·exact Or.inr h
 ·have hde':decide ((s.e:Int)=0)=false:=Xc (by omega)
  have hE':(P,s)=(X,Z):=by
   cases k with
   |zero=>exact hE
   |succ k=>rw[cP,Xb he] at hE;exact hE
  injection hE' with e1 e2
  subst e1 e2
  simp only[go_sem,seval,g1,g2,g3,g4,hdg,hde']
  exact hQ _ M vc vt vr (by simp only[go_sem,seval,g1]) (by simp only[go_sem,seval,g2]) (by simp only[go_sem,seval,g3]) (by simp only[go_sem,seval,g4]) hp h0
theorem IY:∀(l:List Tok) (b:List Nat) (w:Int),Vc b w l->∀a,1<=(aK l a).k->(aK l a).k<=4->a<l.length - 1:=by
 intro l
 induction l with
 |nil=>intro b w _ a h1;simp[aK] at h1
 |cons x l ih=>
  intro b w h a h1 h2
  obtain ⟨-,-,-,-,h5,h6⟩:=h
  cases a with
  |zero=>
   have e:aK (x::l) 0=x:=rfl
   rw[e] at h1 h2
   have:l≠ []:=fun q=>by have:=h5.mpr q;omega
   have:=List.length_pos_iff.mpr this
   simp;omega
  |succ a=>
   have e:aK (x::l) (a+1)=aK l a:=by simp[aK]
   rw[e] at h1 h2
   have:=ih b x.p h6 a h1 h2
   simp;omega
theorem FL  {v:NV} {b:List Nat} (hv:Sl m v 1 (qF b)) (hb:∀c∈b,c<256):
 ∃w m',rT 7 [v] m w m'/\(∃vc vt vr,w= .tup [.agg [vc,vt,vr],ii (gy b).2.1,ii (gy b).2.2]/\(match (gy b).1 with|none=>vc= .nils/\vt= .nils/\vr= .nils/\(gy b).2.2≠0|some p=>RP m' (pX m) p vc vt vr/\(gy b).2.2=0/\p.cs.length+p.ts.length<=b.length+2/\(p.ts.map fun t=>bQ t.2).sum+bQ p.r<=4*(b.length+1)))/\Chg [] m m':=by
 refine WF.ex fun K hK=> ?_
 refine WF.of_wpG (fun _=>rfl) Iq (L:= [(.e,v)]) rfl ?_
 unfold VZ
 have hlen:=hv.len
 rw[show (qF b).length=b.length by simp] at hlen
 simp only[go_sem,seval]
 generalize hM1:hp _ 1 m=M1
 have hC1:Chg [] m M1:=aR hM1 rfl
 have hg1:M1.get (na m 0)=some (.cells true [.nils,.nils,.nils]):=bu hM1
 have ho1:am M1 (na m 0):=bt hM1 (by omega)
 obtain ⟨w2,M2,hr2,hw2,hC2⟩:=KW M1 (hv.chg hC1 fun _ _=>by simp) hb
 have hg2:=(hC2.get ho1 (by simp)).trans hg1
 have ho2:=hC2.old ho1
 have hC02:=hC1.tr hC2
 unfold gy at hK
 by_cases h16:16384<b.length
 ·rw[Xb h16] at hw2 hK
  subst hw2
  simp (disch:=first|assumption|omega|(simp only[aG]<;>omega)) only[go_sem,seval,hr2.wf,hg2]
  exact hK _ _ ⟨⟨.nils,.nils,.nils,rfl,rfl,rfl,rfl,by show (3:Nat)≠0;omega⟩,hC02.trans (aI rfl) (by simp[aC,aA])⟩
 ·rw[Xa h16] at hw2 hK
  cases ht:(dM b).2 with
  |some a=>
   rw[ht] at hw2 hK
   dsimp only at hw2 hK
   subst hw2
   simp (disch:=first|assumption|omega|(simp only[aG]<;>omega)) only[go_sem,seval,hr2.wf,hg2]
   exact hK _ _ ⟨⟨.nils,.nils,.nils,rfl,rfl,rfl,rfl,by show (2:Nat)≠0;omega⟩,hC02.trans (aI rfl) (by simp[aC,aA])⟩
  |none=>
   rw[ht] at hw2 hK
   dsimp only at hw2 hK
   obtain ⟨u,rfl,hu⟩:=hw2
   obtain ⟨hok,hne⟩:=LU ht
   have hll:(dM b).1.length<=b.length+1:=nX b (b.length+1) (bM b 0)
   have hlast:=IY _ _ _ hok
   generalize (dM b).1=L at hu hok hne hll hlast hK
   have hlp:=List.length_pos_iff.mpr hne
   simp (disch:=first|assumption|omega|(simp only[aG]<;>omega)) only[go_sem,seval,hr2.wf,hg2,hu.sl.one]
   generalize hM3:hp _ 1 M2=M3
   have hC3:Chg [] M2 M3:=aR hM3 rfl
   have hg3:M3.get (na M2 0)=some (.cells true [u,ii 0,ii 0,ii 0,.bool false,.nils,.nils,.nils]):=bu hM3
   have ho3:am M3 (na M2 0):=bt hM3 (by omega)
   have hc:RC M2 L u (na M2 0):=⟨hu.sl,by omega,aA⟩
   have hp0:PD M3 M3 (na M2 0) u ⟨0,0,0⟩ ⟨[], [], [],false⟩ .nils .nils .nils:=⟨⟨hg3,ho3⟩,aY.nil,⟨[],aY.nil,rfl,by simp⟩,⟨[],vE _ _⟩,by simp[ids],fun i hi=>hi,ho3⟩
   have hst:=Fl (L:=L) (L.length+1) ⟨[], [], [],false⟩ ⟨0,0,0⟩
   have hlim:=hst.lim2 hlast (Nat.zero_le _) (Nat.zero_le _)
   have hszp:=L8 (L:=L) (L.length+1) ⟨[], [], [],false⟩ ⟨0,0,0⟩ 0 (fun _=>rfl) (fun _=>by simp[Ps.sz,bQ])
   have hlenp:(cP L (L.length+1) ⟨[], [], [],false⟩ ⟨0,0,0⟩).1.cs.length+(cP L (L.length+1) ⟨[], [], [],false⟩ ⟨0,0,0⟩).1.ts.length<=L.length+1:=by
    have key:∀(f:Nat) (P:Ps) (s:Rs),(cP L f P s).1.cs.length+(cP L f P s).1.ts.length<=P.cs.length+P.ts.length+f:=by
     intro f
     induction f with
     |zero=>intro P s;exact Nat.le_refl _
     |succ f ih=>
      intro P s
      rw[cP]
      split
      ·dsimp only;omega
      ·split
       ·dsimp only;omega
       ·have h1:=ih (eX L P s).1 (eX L P s).2
        have h2:=EI (L:=L) P s
        omega
    have:=key (L.length+1) ⟨[], [], [],false⟩ ⟨0,0,0⟩
    simpa using this
   generalize hE:cP L (L.length+1) ⟨[], [], [],false⟩ ⟨0,0,0⟩=q at hK hst hlim hszp hlenp
   obtain ⟨X,Z⟩:=q
   dsimp only at hK hst hlim hszp hlenp
   refine FO hc (fun i hi=>hC3.old hi) (vb:=v) (o:=na m 0) hC3 hp0 (Nat.zero_le _) rfl hE (by exact gq rfl) (by exact gq rfl) (by exact gq rfl) (by exact gq rfl) ?_
   intro t' M4 vc vt vr g1 g2 g3 g4 hp4 h04
   have hdg:=hp4.hd.g
   have hdo:=hp4.hd.o
   have hg4:=(h04.get ho2 (by simp)).trans hg2
   have ho4:=h04.old ho2
   have hC04:Chg [] m M4:=hC02.tr h04
   have hlen4:=(hv.chg hC04 fun _ _=>by simp).len
   rw[show (qF b).length=b.length by simp] at hlen4
   rw[←aa M4]
   by_cases hz:Z.e=0
   ·rw[Xa (by omega)] at hK
    obtain ⟨CT,t1,t2,t3⟩:=hp4.tt
    obtain ⟨CR,r1⟩:=hp4.rr
    simp (disch:=first|assumption|omega|(simp only[aG]<;>omega)) only[go_sem,seval,g1,g2,g3,g4,hdg,hg4,hlen4,hp4.cc.sl.one,t1.sl.one,r1.sl.one]
    generalize hM5:hp _ 0 M4=M5
    have hC5:Chg [na m 0] M4 M5:=aR hM5 rfl
    have hCm3:Chg [] m M3:=hC02.tr hC3
    have hT:∀i,TP M3 vc vt i->i∉ [na m 0]:=fun i hi h=>by
     have h:=one h;subst h;exact hi.1 (hC3.old ho2)
    have hT2:∀i,TP M3 vc vt i->pX m i:=fun i hi h=>hi.1 (hCm3.old h)
    have nw:∀{w e C},aY M3 M4 w e C->∀i∈ids w,i∉ [na m 0]:=fun hw i hi h=>by
     have h:=one h;subst h;exact hw.new _ hi (hC3.old ho2)
    have hs0:=hszp hz
    refine hK _ _ ⟨⟨vc,vt,vr,rfl, ?_,rfl, ?_, ?_⟩,hC04.trans hC5 fun i hi ho=>by
     have hi:=one hi;subst hi;exact W9 ho aA⟩
    ·refine ⟨hp4.cc.sl.chg hC5 (nw hp4.cc),fun i hi h=>hp4.cc.new i hi (hCm3.old h),⟨CT,t1.sl.chg hC5 (nw t1),fun i hi h=>t1.new i hi (hCm3.old h),t2,fun j x c a b'=> ?_⟩,⟨CR,(r1.stays (bz.of hC5 hT)).weak hT2⟩⟩
     obtain ⟨w,B,e,q⟩:=t3 j x c a b'
     exact ⟨w,B,e,(q.stays (bz.of hC5 hT)).weak hT2⟩
    ·dsimp only;omega
    ·have:X.sz<=4*(b.length+1):=by omega
     exact this
   ·rw[Xb hz] at hK
    have hb':Z.b<L.length:=by omega
    have hu4:=hu.sl.chg h04 fun _ _=>by simp
    have huo:=hu.chg h04 fun _ _=>by simp
    obtain ⟨id,off,c,a1,-,aN,a2,a3,a4,a5,-⟩:=huo.at Z.b (by simpa using hb')
    have hid:id≠na m 0:=fun e=>aN (e▸ho1)
    have hid':na m 0≠id:=fun e=>hid e.symm
    rw[List.getElem_map] at a5
    have c3:c[off+3]? =some (ii (L[Z.b]).p):=aF a5 3 (by omega)
    have en:aK L Z.b=L[Z.b]:=by rw[aK,List.getElem?_eq_getElem hb'];rfl
    rw[en] at hK
    have hde:decide ((Z.e:Int)≠0)=true:=Xd (by omega)
    have hus:=hu4.same (n:=3)
    have hr0:na M2 0≠na m 0:=fun e=>ho2.ne 0 e.symm
    have hr0':na m 0≠na M2 0:=fun e=>hr0 e.symm
    simp (disch:=first|assumption|omega|(simp only[aG]<;>omega)) only[go_sem,seval,g1,g2,g3,g4,hdg,hg4,hlen4,hde,a1,a2,c3,hus]
    refine hK _ _ ⟨⟨.nils,.nils,.nils,rfl,rfl,rfl,rfl,hz⟩, ?_⟩
    exact pm hC04 (by simp[aC,aA])
end
set_option maxRecDepth 100000 in
theorem LK  {l:List NV} (h:Ty Tryz.prog m 23 l):∃v b,l= [v]/\Sl m v 1 (uo b):=by
 obtain ⟨v,C,rfl,hS,hm,hall⟩:=h.inv_slc Tryz.underlying23
 have key:∀C:List (List NV),(∀c∈C,Ty Tryz.prog m 3 c)->∃b:List Int,C=uo b:=by
  intro C
  induction C with
  |nil=>intro _;exact ⟨[],rfl⟩
  |cons c C ih=>
   intro h
   obtain ⟨n,rfl,hw⟩:=(h c (List.mem_cons_self ..)).inv_int Tryz.underlying3
   obtain ⟨l,rfl⟩:=ih fun x hx=>h x (List.mem_cons_of_mem _ hx)
   exact ⟨n::l,rfl⟩
 obtain ⟨b,rfl⟩:=key C hall
 exact ⟨v,b,rfl,hS⟩
theorem VA {n:Int} (h:(Lit.int .u8 n).wf=true):0<=n/\n<256:=by
 have h1:IntKind.u8.min=0:=rfl
 have h2:IntKind.u8.max=255:=rfl
 simp only[Lit.wf,Bool.and_eq_true,decide_eq_true_eq,h1,h2] at h
 omega
set_option maxRecDepth 100000 in
theorem JE  {l:List NV} (h:Ty Tryz.prog m 22 l):∃v b,l= [v]/\Sl m v 1 (qF b)/\∀x∈b,x<256:=by
 obtain ⟨v,C,rfl,hS,hm,hall⟩:=h.inv_slc Tryz.underlying22
 have key:∀C:List (List NV),(∀c∈C,Ty Tryz.prog m 5 c)->∃b:List Nat,C=qF b/\∀x∈b,x<256:=by
  intro C
  induction C with
  |nil=>intro _;exact ⟨[],rfl,by simp⟩
  |cons c C ih=>
   intro h
   obtain ⟨n,rfl,hw⟩:=(h c (List.mem_cons_self ..)).inv_int Tryz.underlying5
   obtain ⟨l,rfl,g⟩:=ih fun x hx=>h x (List.mem_cons_of_mem _ hx)
   have hn:=VA hw
   obtain ⟨k,rfl⟩:=Xh hn.1
   exact ⟨k::l,rfl,by intro x hx;rcases List.mem_cons.mp hx with rfl|hx;omega;exact g x hx⟩
 obtain ⟨b,rfl,hf⟩:=key C hall
 exact ⟨v,b,rfl,hS,hf⟩
theorem Nh {l:List Nat} {x:Nat} (h:x∈l):x<=l.sum:=by
 induction l with
 |nil=>simp at h
 |cons a l ih=>
  rw[List.sum_cons]
  rcases List.mem_cons.mp h with rfl|h
  ·omega
  ·have:=ih h;omega
section
variable {L:List Tok}
theorem KM {P:Ps} {s:Rs} (h:∀c∈P.cs,0<=c.2/\c.2<=1048576):∀c∈(eX L P s).1.cs,0<=c.2/\c.2<=1048576:=by
 intro c
 unfold eX
 split
 ·intro hc
  rcases List.mem_append.1 hc with hc|hc
  ·exact h c hc
  ·rw[List.mem_singleton] at hc
   subst hc
   unfold sL cm
   split
   ·split
    ·dsimp only;split<;>omega
    ·dsimp only;omega
   ·dsimp only;omega
 ·split
  ·exact h c
  ·exact h c
theorem GF:∀(f:Nat) (P:Ps) (s:Rs),(∀c∈P.cs,0<=c.2/\c.2<=1048576)->∀c∈(cP L f P s).1.cs,0<=c.2/\c.2<=1048576:=by
 intro f
 induction f with
 |zero=>intro P s h;exact h
 |succ f ih=>
  intro P s h
  rw[cP]
  split
  ·exact h
  ·split
   ·exact h
   ·exact ih _ _ (KM h)
end
theorem AO {b:List Nat} (h:(gy b).1=some p):∀c∈p.cs,0<=c.2/\c.2<=1048576:=by
 unfold gy at h
 split at h
 ·cases h
 ·split at h
  ·cases h
  ·split at h
   ·cases h
   ·injection h with h
    subst h
    exact GF _ _ _ (by simp)
def bJ (cs:List (List Nat×Int)) (l:List Stm):Ms:=aU (aj 12 0 0) (dZ cs (locals l) l ⟨[],(locals l).length,0⟩)
abbrev Vk (l:List Sp):List (List NV):=l.map Sp.l
theorem sM (l:List Stm):(locals l).length<=2*bQ l:=by
 have h1:=cH ((aQ l).flatMap Stm.own) []
 have h2:=(kM l).2
 unfold locals
 simp only[List.length_nil] at h1
 omega
theorem qm  (hz:bQ l<=400000):(⟨[],(locals l).length,0⟩:Ms).ok (1+16*bQ l):=by
 have:=sM l
 exact ⟨by simp;omega,by dsimp only;omega,by dsimp only;omega,by dsimp only;omega,by dsimp only;omega⟩
theorem IV  {B' m':NH} {v:NV} {e:Nat} {t:D4} (h:aY B' m v e C) (hC:Chg [t] m m') (ht:am B' t) (hb:∀i,am B i->am B' i):aY B m' v e C:=
 (h.chg hC fun i hi q=>by
  have q:=one q;subst q;exact h.new _ hi ht).back hb
theorem IG  {v:NV} (hS:SS m T v l C) (hc:Sl m vc 2 (lU cs)) (hcl:cs.length<=1000000) (hcz:∀c∈cs,0<=c.2/\c.2<=1048576) (hz:bQ l<=400000):
 ∃w m',rT 39 [v,vc] m w m'/\(∃vs,w= .agg [ii (bJ cs l).v,ii (locals l).length,vs]/\aY m m' vs 9 (Vk (bJ cs l).st))/\Chg [] m m':=by
 refine WF.ex fun K hK=> ?_
 refine WF.of_wpG (fun _=>rfl) Fs (L:= [(.a .e,vc),(.e,v)]) rfl ?_
 unfold Rv
 generalize hM1:hp [(.n 0,.cells true [ii 0,ii 0,.nils])] 1 m=M1
 have hC1:Chg [] m M1:=aR hM1 rfl
 have g1:M1.get (na m 0)=some (.cells true [ii 0,ii 0,.nils]):=bu hM1
 have o1:am M1 (na m 0):=bt hM1 (by omega)
 obtain ⟨vn,m2,r2,hn,hC2⟩:=I4 (hS.stays (kQ hC1 T)) (Chg.refl M1) (by omega)
 have o2:=hC2.old o1
 have g2:=(hC2.get o1 (by simp)).trans g1
 have hCm2:=hC1.tr hC2
 have hnl:=hn.sl.len
 have hns:=hn.sl.one
 rw[List.length_map] at hnl
 have hle:=sM l
 have hx:Cx m2 vc vn cs (locals l):=⟨hc.chg hCm2 fun _ _=>by simp,hcl,fun n z h e=>by have:=hcz _ (List.getElem_mem h);omega,hn.sl,by omega⟩
 have hvc:=hx.c.one
 simp (disch:=first|assumption|omega|(simp only[aG]<;>omega)) only[go_sem,seval,hM1,r2.wf,hnl,hns,hvc]
 generalize hM3:hp _ 1 m2=M3
 have hC3:Chg [] m2 M3:=aR hM3 rfl
 have g3:M3.get (na m2 0)=some (.cells true [vc,vn,ii (locals l).length,ii (locals l).length,.nils,ii 0]):=bu hM3
 have k3:MK m2 M3 (na m2 0) vc vn (locals l).length .nils ⟨[],(locals l).length,0⟩:=⟨g3,by rw[←hM3];exact bN (by omega),aA,aY.nil,by simp[ids],hC3⟩
 obtain ⟨m4,r4,v4,k4,e4⟩:=MY l (hS.stays (kQ hCm2 T)) hx k3 (k:=1) (qm hz)
 have ok4:=rL (cs:=cs) (ns:=locals l) (l:=l) (k:=1) (qm hz)
 obtain ⟨m5,r5,v5,k5,e5⟩:=fy k4 (aj 12 0 0) (by have:=ok4.s;omega)
 change MK m2 m5 (na m2 0) vc vn _ v5 (bJ cs l) at k5
 unfold aj at r5
 have g5:=k5.g
 have h5:=k5.s.sl.one
 have o5:=k5.c.old o2
 have g50:=(k5.c.get o2 (by simp)).trans g2
 rw[←aa m5] at r5
 rw[aa] at r5
 simp (disch:=first|assumption|omega|(simp only[aG]<;>omega)) only[go_sem,seval,r4.wf',r5.wf,g5,h5,g50]
 refine hK _ _ ⟨⟨v5,rfl, ?_⟩, ?_⟩
 ·generalize hM6:hp _ 0 m5=M6
  exact IV k5.s (by rw[←hM6];exact aI rfl) o2 fun i hi=>hCm2.old hi
 ·refine (hCm2.trans k5.c (by simp)).trans (aI rfl) fun i hi ho=> ?_
  simp only[aC,Xf,Xe,or_false] at hi;subst hi;exact W9 ho aA
def eT (cs:List (List Nat×Int)) (r:List Stm) (l:List (List Nat×List Stm)):Bool:=decide (400<(bJ cs r).v)||l.any fun t=>decide (400<(bJ cs t.2).v)
theorem Gm  {r:List Stm} {l:List (List Nat×List Stm)} {i:Nat} (hi:i<l.length):eT cs r (l.take (i+1))=(eT cs r (l.take i)||decide (400<(bJ cs l[i].2).v)):=by
 unfold eT
 rw[List.take_add_one,List.getElem?_eq_getElem hi,List.any_append]
 simp[Bool.or_assoc]
def kh (m:NH) (cs:List (List Nat×Int)) (l:List Stm) (c:List NV) (N:D4->Prop):Prop:=∃vs,c= [ii (bJ cs l).v,ii (locals l).length,vs]/\Sl m vs 9 (Vk (bJ cs l).st)/\∀i∈ids vs,N i
structure CodesC (m:NH) (cs:List (List Nat×Int)) (l:List (List Nat×List Stm)) (vl:NV) (C:List (List NV)) (N:D4->Prop):Prop where
 s:Sl m vl 3 C
 n:C.length=l.length
 c:∀(j:Nat) (t:List Nat×List Stm) (c:List NV),l[j]? =some t->C[j]? =some c->kh m cs t.2 c N
def xo (m0 m:NH) (p:Prg) (w:NV):Prop:=
 if (eI p).2≠0 then w= .tup [.agg [ii 0,ii 0,.nils],.nils,ii (eI p).2]
 else if eT p.cs p.r p.ts=true then w= .tup [.agg [ii 0,ii 0,.nils],.nils,ii 3]
 else ∃c vl C,w= .tup [.agg c,vl,ii 0]/\kh m p.cs p.r c (fun i=>¬am m0 i)/\CodesC m p.cs p.ts vl C (fun i=>¬am m0 i)
theorem kh.chg  {m':NH} {c:List NV} {N N':D4->Prop} (h:kh m cs l c N) (hC:Chg S m m') (hS:∀i,N i->am m i->i∉S) (hN:∀i,N i->am m i->N' i):kh m' cs l c N':=by
 obtain ⟨vs,e,h1,h2⟩:=h
 exact ⟨vs,e,h1.chg hC fun i hi=>hS i (h2 i hi) (h1.old i hi),fun i hi=>hN i (h2 i hi) (h1.old i hi)⟩
theorem La  {vt vr:NV} (h:RP m T p vc vt vr) (hs:p.cs.length<=1000000/\p.ts.length<=1000000) (hcz:∀c∈p.cs,0<=c.2/\c.2<=1048576) (hz:∀t∈p.ts,bQ t.2<=400000) (hr:bQ p.r<=400000):
 ∃w m',rT 8 [.agg [vc,vt,vr]] m w m'/\xo m m' p w/\Chg [] m m':=by
 refine WF.ex fun K hK=> ?_
 refine WF.of_wpG (fun _=>rfl) Ju (L:= [(.e,.agg [vc,vt,vr])]) rfl ?_
 unfold V7
 obtain ⟨hcs,hts⟩:=hs
 generalize hM1:hp [(.n 1,.cells true [ii 0,ii 0,.nils]),(.n 0,.cells true [vc,vt,vr])] 2 m=M1
 have hC1:Chg [] m M1:=aR hM1 rfl
 have g10:M1.get (na m 0)=some (.cells true [vc,vt,vr]):=bu hM1
 have g11:M1.get (na m 1)=some (.cells true [ii 0,ii 0,.nils]):=bu hM1
 have o10:am M1 (na m 0):=bt hM1 (by omega)
 have o11:am M1 (na m 1):=bt hM1 (by omega)
 have hne:na m 0≠na m 1:=fun e=>by have:=jM e;omega
 have h1:=h.stays (kQ hC1 T)
 obtain ⟨m2,r2,hC2⟩:=Tn h1 ⟨hcs,hts⟩ (fun t ht=>by have:=hz t ht;omega) (by omega)
 have g20:=(hC2.get o10 (by simp)).trans g10
 have g21:=(hC2.get o11 (by simp)).trans g11
 have o20:=hC2.old o10
 have o21:=hC2.old o11
 have hCm2:=hC1.tr hC2
 have h2:=h1.stays (kQ hC2 T)
 unfold xo at hK
 by_cases hE:(eI p).2≠0
 ·simp only[Xb hE] at hK
  rw[←aa m2] at g20
  simp (disch:=first|assumption|omega|(simp only[aG]<;>omega)) only[go_sem,seval,hM1,g10,r2.wf,g21]
  refine hK _ _ ⟨rfl,hCm2.trans (aI rfl) fun i hi ho=> ?_⟩
  simp only[aC,Xf,Xe,or_false] at hi;subst hi;exact W9 ho aA
 ·simp only[Xa hE] at hK
  have hE0:(eI p).2=0:=by simpa using hE
  rw[hE0] at r2
  obtain ⟨CT,hT⟩:=h2.t
  obtain ⟨CR,hR⟩:=h2.r
  obtain ⟨w3,m3,r3,⟨vs3,rfl,hv3⟩,hC3⟩:=IG hR h2.c hcs hcz hr
  have hlt:=hT.sl.len
  rw[hT.len] at hlt
  have g30:=(hC3.get o20 (by simp)).trans g20
  have g31:=(hC3.get o21 (by simp)).trans g21
  have o30:=hC3.old o20
  have o31:=hC3.old o21
  have hv31:=hv3.sl.one
  have hd3:decide (400<(bJ p.cs p.r).v)=eT p.cs p.r (p.ts.take 0):=by simp[eT]
  simp (disch:=first|assumption|omega|(simp only[aG]<;>omega)) only[go_sem,seval,hM1,g10,r2.wf',g20,r3.wf,hlt,hv31,g30,hd3]
  generalize hM4:hp _ 1 m3=M4
  have hC4:Chg [] m3 M4:=aR hM4 rfl
  have g42:M4.get (na m3 0)=some (.cells true [ii (bJ p.cs p.r).v,ii (locals p.r).length,vs3]):=bu hM4
  have o42:am M4 (na m3 0):=bt hM4 (by omega)
  have g40:=(hC4.get o30 (by simp)).trans g30
  have g41:=(hC4.get o31 (by simp)).trans g31
  have o40:=hC4.old o30
  have o41:=hC4.old o31
  have hCm3:=hCm2.tr hC3
  have hCm4:=hCm3.tr hC4
  have hS3:kh M4 p.cs p.r [ii (bJ p.cs p.r).v,ii (locals p.r).length,vs3] (fun i=>¬am m i/\am M4 i/\i≠na m 1):=by
   have h0:=hv3.chg hC4 fun _ _=>by simp
   refine ⟨vs3,rfl,h0.sl,fun i hi=>⟨fun ho=>hv3.new i hi (hCm2.old ho),h0.sl.old i hi,fun e=>hv3.new i hi (e▸o21)⟩⟩
  have hn3:na m3 0≠na m 1:=fun e=>aA (e▸o31)
  refine W.loop (fun k d=>∃t M i vl C,d=⟨t, [],none,M⟩/\NT.get D4.e.a t=some (.ptr (na m 0) 0)/\NT.get D4.e.b t=some (.ptr (na m 1) 0)/\NT.get D4.e.a.c t=some (.ptr (na m3 0) 0)/\NT.get D4.e.a.f t=some (.bool (eT p.cs p.r (p.ts.take i)))/\NT.get D4.e.b.a t=some vl/\NT.get D4.e.a.c.c t=some vt/\NT.get D4.e.a.c.f t=some (ii p.ts.length)/\NT.get D4.e.a.f.a t=some (ii (i:Nat))/\i+k=p.ts.length/\aY M4 M vl 3 C/\C.length=i/\(∀(j:Nat) (t:List Nat×List Stm) (c:List NV),j<i->p.ts[j]? =some t->C[j]? =some c->kh M p.cs t.2 c (fun i=>¬am M4 i/\i∉ids vl))/\Chg [] M4 M) ?_ p.ts.length _ ⟨_,M4,0,.nils, [],rfl,by exact gq rfl,by exact gq rfl,by exact gq rfl,by exact gq rfl,by exact gq rfl,by exact gq rfl,by exact gq rfl,by exact gq rfl<;>rfl,by omega,aY.nil,rfl,by simp,Chg.refl M4⟩
  rintro k d ⟨t,M,i,vl,C,rfl,t1,t2,t3,t4,t5,t6,t7,t8,hik,hvl,hCl,hcd,hC⟩
  apply ax
  unfold JF
  change wp _ _ _ _ ⟨ah [] t, [],none,M⟩ _
  have g0:=(hC.get o40 (by simp)).trans g40
  have g1:=(hC.get o41 (by simp)).trans g41
  have gs:=(hC.get o42 (by simp)).trans g42
  have o0:=hC.old o40
  have o1:=hC.old o41
  have os:=hC.old o42
  have hCM:=hCm4.tr hC
  have hvl1:=hvl.sl.one
  rw[←aa M]
  by_cases hi:i<p.ts.length
  ·obtain ⟨vb,Bb,id,off,wr,c,hSb,a1,a2,a3,a4,a5⟩:=hT.at i hi
   have c1:c[off+1]? =some vb:=aF a5 1 (by omega)
   have hC2M:Chg [] m2 M:=(hC3.tr hC4).tr hC
   have a2':=(hC2M.get a3 (by simp)).trans a2
   have hth: [NV.str p.ts[i].1,vb].length=2:=rfl
   have hvb1:=hSb.sl.one
   generalize hM5:hp [(.n 0,.cells true [.str p.ts[i].1,vb]),(.n 0,.cells true [.str [],.nils])] 1 M=M5
   have hC5:Chg [] M M5:=aR hM5 rfl
   have g5:M5.get (na M 0)=some (.cells true [.str p.ts[i].1,vb]):=bu hM5
   have o5n:am M5 (na M 0):=bt hM5 (by omega)
   have g50:=(hC5.get o0 (by simp)).trans g0
   obtain ⟨w6,m6,r6,⟨vs6,rfl,hv6⟩,hC6⟩:=IG ((hSb.stays (kQ hC2M T)).stays (kQ hC5 T)) ((h2.c.chg hC2M fun _ _=>by simp).chg hC5 fun _ _=>by simp) hcs hcz (hz _ (List.getElem_mem hi))
   have hsucc:=Gm (cs:=p.cs) (r:=p.r) hi
   have hv61:=hv6.sl.one
   have hC56:=hC5.tr hC6
   skip
   generalize hbq:eT p.cs p.r (p.ts.take i)=bq at t4 hsucc
   have fin:∀{t':Tm} {M' vl'},aY M4 M' vl' 3 (C++ [[ii (bJ p.cs p.ts[i].2).v,ii (locals p.ts[i].2).length,vs6]])->Chg (na M 0::ids vl) m6 M'->(∀j∈ids vl',j∈ids vl∨¬am m6 j)->NT.get D4.e.a t'=some (.ptr (na m 0) 0)->NT.get D4.e.b t'=some (.ptr (na m 1) 0)->NT.get D4.e.a.c t'=some (.ptr (na m3 0) 0)->NT.get D4.e.a.f t'=some (.bool (eT p.cs p.r (p.ts.take (i+1))))->NT.get D4.e.b.a t'=some vl'->NT.get D4.e.a.c.c t'=some vt->NT.get D4.e.a.c.f t'=some (ii p.ts.length)->NT.get D4.e.a.f.a t'=some (ii (i+1:Nat))->∃k'<k,∃t M i vl C,(⟨t', [],none,M'⟩:Dyn)=⟨t, [],none,M⟩/\NT.get D4.e.a t=some (.ptr (na m 0) 0)/\NT.get D4.e.b t=some (.ptr (na m 1) 0)/\NT.get D4.e.a.c t=some (.ptr (na m3 0) 0)/\NT.get D4.e.a.f t=some (.bool (eT p.cs p.r (p.ts.take i)))/\NT.get D4.e.b.a t=some vl/\NT.get D4.e.a.c.c t=some vt/\NT.get D4.e.a.c.f t=some (ii p.ts.length)/\NT.get D4.e.a.f.a t=some (ii (i:Nat))/\i+k'=p.ts.length/\aY M4 M vl 3 C/\C.length=i/\(∀(j:Nat) (t:List Nat×List Stm) (c:List NV),j<i->p.ts[j]? =some t->C[j]? =some c->kh M p.cs t.2 c (fun i=>¬am M4 i/\i∉ids vl))/\Chg [] M4 M:=by
    intro t' M' vl' q1 q2 q3 q4 q5 q6 q7 q8 q9 q10 q11
    have hvo:=hvl.sl.old
    have hC6M:Chg (ids vl) M M':=(hC56.weak (T:=ids vl) (by simp)).trans q2 fun i hi ho=>(List.mem_cons.1 hi).elim (fun e=>W9 (e▸ho) aA) fun q=>q
    refine ⟨k - 1,by omega,_,_,i+1,_,_,rfl,q4,q5,q6,q7,q8,q9,q10,q11,by omega,q1,by simp[hCl],fun j tt cc hj h1 h2=> ?_,hC.trans hC6M fun i hi ho=>W9 ho (hvl.new i hi)⟩
    rcases Nat.lt_or_ge j i with hji|hji
    ·rw[List.getElem?_append_left (by omega)] at h2
     exact (hcd j tt cc hji h1 h2).chg hC6M (fun i hi _=>hi.2) fun i hi ho=>⟨hi.1,fun q=>(q3 i q).elim hi.2 fun q=>q (hC56.old ho)⟩
    ·obtain rfl:j=i:=by omega
     rw[List.getElem?_append_right (by omega),hCl,Nat.sub_self,List.getElem?_cons_zero] at h2
     rw[List.getElem?_eq_getElem hi] at h1
     injection h1 with h1
     injection h2 with h2
     subst h1 h2
     have hnv:∀i∈ids vs6,i∉ids vl:=fun i hi q=>hv6.new i hi (hC5.old (hvo i q))
     have hnv':∀i∈ids vs6,i∉na M 0::ids vl:=fun i hi q=>(List.mem_cons.1 q).elim (fun e=>hv6.new i hi (e▸o5n)) (hnv i hi)
     exact ⟨vs6,rfl,hv6.sl.chg q2 hnv',fun i hi=>⟨fun ho=>hv6.new i hi (hC5.old (hC.old ho)),fun q=>(q3 i q).elim (hnv i hi) fun q=>q (hv6.sl.old i hi)⟩⟩
   cases bq with
   |true=>
    simp (disch:=first|assumption|omega|(simp only[aG]<;>omega)) only[go_sem,seval,t1,t2,t3,t4,t5,t6,t7,t8,g0,a1,a2',c1,a5,hM5,g5,g50,r6.wf,hv61]
    generalize hM7:hp _ 2 m6=M7
    have hC7:Chg [] m6 M7:=aR hM7 rfl
    have g7:M7.get (na m6 1)=some (.cells true [ii (bJ p.cs p.ts[i].2).v,ii (locals p.ts[i].2).length,vs6]):=bu hM7
    have o7:am M7 (na m6 1):=bt hM7 (by omega)
    refine fm ((hvl.chg hC56 fun _ _=>by simp).chg hC7 fun _ _=>by simp) g7 o7 rfl (fun i hi=>hC7.old (hC56.old (hC.old hi))) (by omega) (by omega) ?_
    intro vl2 M8 hw hCw8 hFw8
    have hCw:Chg (na M 0::ids vl) m6 M8:=(hC7.weak (T:=na M 0::ids vl) (by simp)).trans hCw8 fun i hi _=>List.mem_cons_of_mem _ hi
    have hFw:∀j∈ids vl2,j∈ids vl∨¬am m6 j:=fun j hj=>(hFw8 j hj).imp (fun q=>q) fun q ho=>q (hC7.old ho)
    simp (disch:=first|assumption|omega) only[go_sem,seval,t1,t2,t3,t4,t5,t6,t7,t8,]
    exact fin hw hCw hFw (by exact gq t1) (by exact gq t2) (by exact gq t3) (by simp only[go_sem,seval,t4,hsucc,Bool.true_or]) (by exact gq rfl) (by exact gq t6) (by exact gq t7) (by exact gq rfl<;>rfl)
   |false=>
    simp (disch:=first|assumption|omega|(simp only[aG]<;>omega)) only[go_sem,seval,t1,t2,t3,t4,t5,t6,t7,t8,g0,a1,a2',c1,a5,hM5,g5,g50,r6.wf,hv61]
    generalize hM7:hp _ 2 m6=M7
    have hC7:Chg [] m6 M7:=aR hM7 rfl
    have g7:M7.get (na m6 1)=some (.cells true [ii (bJ p.cs p.ts[i].2).v,ii (locals p.ts[i].2).length,vs6]):=bu hM7
    have o7:am M7 (na m6 1):=bt hM7 (by omega)
    refine fm ((hvl.chg hC56 fun _ _=>by simp).chg hC7 fun _ _=>by simp) g7 o7 rfl (fun i hi=>hC7.old (hC56.old (hC.old hi))) (by omega) (by omega) ?_
    intro vl2 M8 hw hCw8 hFw8
    have hCw:Chg (na M 0::ids vl) m6 M8:=(hC7.weak (T:=na M 0::ids vl) (by simp)).trans hCw8 fun i hi _=>List.mem_cons_of_mem _ hi
    have hFw:∀j∈ids vl2,j∈ids vl∨¬am m6 j:=fun j hj=>(hFw8 j hj).imp (fun q=>q) fun q ho=>q (hC7.old ho)
    simp (disch:=first|assumption|omega) only[go_sem,seval,t1,t2,t3,t4,t5,t6,t7,t8,]
    exact fin hw hCw hFw (by exact gq t1) (by exact gq t2) (by exact gq t3) (by simp only[go_sem,seval,t4,hsucc,Bool.false_or]) (by exact gq rfl) (by exact gq t6) (by exact gq t7) (by exact gq rfl<;>rfl)
  ·have hi':i=p.ts.length:=by omega
   rw[hi',List.take_length] at t4
   have hcc:CodesC M p.cs p.ts vl C (fun i=>¬am M4 i):=⟨hvl.sl,by omega,fun j tt cc h1 h2=>by
    have hj:j<p.ts.length:=by
     rcases Nat.lt_or_ge j p.ts.length with q|q
     ·exact q
     ·rw[List.getElem?_eq_none q] at h1;cases h1
    exact (hcd j tt cc (by omega) h1 h2).chg (Chg.refl M) (by simp) fun i hi _=>hi.1⟩
   cases hbq:eT p.cs p.r p.ts with
   |true=>
    rw[hbq] at t4
    simp only[Xb hbq] at hK
    simp (disch:=first|assumption|omega|(simp only[aG]<;>omega)) only[go_sem,seval,t1,t2,t3,t4,t5,t6,t7,t8,g0,g1,gs]
    refine hK _ _ ⟨rfl,hCM.trans (aI rfl) fun i hi ho=> ?_⟩
    simp only[aC,Xf,Xe,or_false] at hi;subst hi;exact W9 ho aA
   |false=>
    rw[hbq] at t4
    simp only[hbq] at hK
    have hgs1:na m3 0≠na m 1:=hn3
    simp (disch:=first|assumption|omega|(simp only[aG]<;>omega)) only[go_sem,seval,t1,t2,t3,t4,t5,t6,t7,t8,g0,g1,gs]
    generalize hMz:hp _ 0 M=Mz
    have hCz:Chg [na m 1] M Mz:=aR hMz rfl
    refine hK _ _ ⟨⟨_,vl,C,rfl, ?_, ?_⟩,hCM.trans hCz fun i hi ho=> ?_⟩
    ·exact (hS3.chg hC (by simp) (N':=fun i=>¬am m i/\i≠na m 1) fun i hi _=>⟨hi.1,hi.2.2⟩).chg hCz (fun i hi _=>by simpa using hi.2) fun i hi _=>hi.1
    ·have hnn:∀i,¬am M4 i->i≠na m 1:=fun i hi e=>hi (e▸o41)
     exact ⟨hvl.sl.chg hCz fun i hi q=>hnn i (hvl.new i hi) (by simpa using q),hcc.n,fun j tt cc h1 h2=>(hcc.c j tt cc h1 h2).chg hCz (fun i hi _=>by simpa using hnn i hi) fun i hi _ ho=>hi (hCm4.old ho)⟩
    ·have hi:=one hi;subst hi;exact W9 ho aA
def eA (s:Sp):List Int:=if s.k=1∨s.k=3∨s.k=6∨s.k=8∨s.k=11 then [s.a] else if s.k=2∨s.k=4 then [s.a,s.b] else if s.k=5 then [s.a,s.b,s.c] else []
def fV (s:Sp):Int:=if s.k=0∨s.k=1∨s.k=2∨s.k=3∨s.k=5 then s.d else -1
def iK (l:List Sp):List Int:=(l.filter fun s=>decide (s.k=9)).map (·.t)
def lh (l:List Sp) (v:Int):Nat:=l.countP fun s=>decide (fV s=v)
def kw (L:Int):Int->List Sp->Int->Prop
 |v, [],v'=>v=v'
 |v,s::l,v'=>(∀u∈eA s,0<=u/\u<v)/\((fV s<L/\kw L v l v')∨(fV s=v/\kw L (v+1) l v'))
theorem pj :∀{a b:List Sp} {v w x:Int},kw L v a w->kw L w b x->kw L v (a++b) x:=by
 intro a
 induction a with
 |nil=>intro b v w x h1 h2;rw[kw] at h1;subst h1;exact h2
 |cons s a ih=>
  intro b v w x h1 h2
  rw[kw] at h1
  rw[List.cons_append,kw]
  exact ⟨h1.1,h1.2.imp (fun q=>⟨q.1,ih q.2 h2⟩) fun q=>⟨q.1,ih q.2 h2⟩⟩
theorem tQ :∀{a:List Sp} {v w:Int},kw L v a w->v<=w:=by
 intro a
 induction a with
 |nil=>intro v w h;rw[kw] at h;omega
 |cons s a ih=>
  intro v w h
  rw[kw] at h
  rcases h.2 with q|q
  ·exact ih q.2
  ·have:=ih q.2;omega
theorem pr (a b:List Sp) (v:Int):lh (a++b) v=lh a v+lh b v:=by unfold lh;exact List.countP_append
theorem pk (s:Sp) (v:Int):lh [s] v=if fV s=v then 1 else 0:=by unfold lh;by_cases h:fV s=v<;>simp[h]
theorem Gl :∀{l:List Sp} {v w:Int},kw L v l w->L<=v->∀pre:List Sp,(∀u,L<=u->u<v->lh pre u=1)->(∀u,v<=u->lh pre u=0)->
 (∀(k:Nat) (h:k<l.length),(∀u∈eA l[k],0<=u/\u<w/\(L<=u->lh (pre++l.take k) u=1))/\fV l[k]<w)/\∀u,L<=u->u<w->lh (pre++l) u=1:=by
 intro l
 induction l with
 |nil=>
  intro v w h hL pre h1 h2
  rw[kw] at h
  subst h
  exact ⟨fun k h=>W9 h (by simp),fun u a b=>by rw[List.append_nil];exact h1 u a b⟩
 |cons s l ih=>
  intro v w h hL pre h1 h2
  rw[kw] at h
  have hw:v<=w/\fV s<w/\((∀(k:Nat) (h:k<l.length),(∀u∈eA l[k],0<=u/\u<w/\(L<=u->lh ((pre++ [s])++l.take k) u=1))/\fV l[k]<w)/\∀u,L<=u->u<w->lh ((pre++ [s])++l) u=1):=by
   rcases h.2 with q|q
   ·have hvw:=tQ q.2
    refine ⟨hvw,by omega,ih q.2 hL (pre++ [s]) (fun u a b=> ?_) fun u a=> ?_⟩
    ·rw[pr,pk,Xa (by omega),h1 u a b]
    ·rw[pr,pk,Xa (by omega),h2 u a]
   ·have hvw:=tQ q.2
    refine ⟨by omega,by omega,ih q.2 (by omega) (pre++ [s]) (fun u a b=> ?_) fun u a=> ?_⟩
    ·rw[pr,pk]
     by_cases hu:u=v
     ·subst hu;rw[Xb q.1,h2 u (Int.le_refl _)]
     ·rw[Xa (by omega),h1 u a (by omega)]
    ·rw[pr,pk,Xa (by omega),h2 u (by omega)]
  obtain ⟨hvw,hs,h3,h4⟩:=hw
  refine ⟨fun k hk=> ?_,fun u a b=>by have:=h4 u a b;rwa [List.append_assoc,List.singleton_append] at this⟩
  cases k with
  |zero=>
   refine ⟨fun u hu=> ?_,hs⟩
   have:=h.1 u hu
   refine ⟨this.1,by omega,fun a=> ?_⟩
   rw[List.take_zero,List.append_nil]
   exact h1 u a this.2
  |succ k=>
   have:=h3 k (by simpa using hk)
   rw[List.append_assoc,List.singleton_append] at this
   exact this
structure Gn (L:Int) (X:Ms) (n:List Sp) (Y:Ms):Prop where
 st:Y.st=X.st++n
 sq:kw L X.v n Y.v
 lb:X.lb<=Y.lb
 nd:(iK n).Nodup
 rg:∀t∈iK n,X.lb<=t/\t<Y.lb
def Gr (L:Int) (X Y:Ms):Prop:=∃n,Gn L X n Y
section
variable {L:Int} {X Y Z:Ms}
theorem eL (a b:List Sp):iK (a++b)=iK a++iK b:=by unfold iK;rw[List.filter_append,List.map_append]
theorem Gn.trans {a b:List Sp} (h:Gn L X a Y) (h':Gn L Y b Z):Gn L X (a++b) Z:=
 ⟨by rw[h'.st,h.st,List.append_assoc],pj h.sq h'.sq,by have:=h.lb;have:=h'.lb;omega,by
  rw[eL,List.nodup_append]
  exact ⟨h.nd,h'.nd,fun x hx y hy e=>by have:=h.rg x hx;have:=h'.rg y hy;omega⟩,
 fun t ht=>by
  rw[eL,List.mem_append] at ht
  have:=h.lb;have:=h'.lb
  rcases ht with ht|ht
  ·have:=h.rg t ht;omega
  ·have:=h'.rg t ht;omega⟩
theorem Gr.refl (X:Ms):Gr L X X:=⟨[],by simp,rfl,by omega,by simp[iK],by simp[iK]⟩
theorem Gr.trans (h:Gr L X Y) (h':Gr L Y Z):Gr L X Z:=let ⟨a,p⟩:=h;let ⟨b,q⟩:=h';⟨a++b,p.trans q⟩
theorem Gr.v (h:Gr L X Y):X.v<=Y.v:=let ⟨_,p⟩:=h;tQ p.sq
theorem iI {s:Sp} (h:s.k≠9):iK [s]= []:=by unfold iK;simp[h]
theorem gc {s:Sp} (hu:∀u∈eA s,0<=u/\u<X.v) (hs:fV s<L) (hk:s.k≠9):Gr L X (aU s X):=
 ⟨[s],rfl,⟨hu,Or.inl ⟨hs,rfl⟩⟩,by simp[aU],by rw[iI hk];simp,by rw[iI hk];simp⟩
theorem mG (n:Int):Gr L X (aM n X):=
 ⟨[⟨0,X.v,0,0,0,0,0,n,0⟩],rfl,⟨by simp[eA],Or.inr ⟨by simp[fV],rfl⟩⟩,by simp[aM,aU],by rw[iI (by simp)];simp,by rw[iI (by simp)];simp⟩
theorem EL (o:Int) (ha:0<=a/\a<X.v) (hb:0<=b/\b<X.v):Gr L X (jG o a b X):=
 ⟨[⟨2,X.v,a,b,0,0,0,0,o⟩],rfl,⟨by simp[eA];omega,Or.inr ⟨by simp[fV],rfl⟩⟩,by simp[jG,aU],by rw[iI (by simp)];simp,by rw[iI (by simp)];simp⟩
end
mutual
def Ex.wf:Ex->Prop
 | .mk k _ _ _ ks=>k=0∨k=1∨(k=2/\Wc ks)
def Wc:List Ex->Prop
 | []=>False
 | [_]=>False
 | [a,b]=>a.wf/\b.wf
 |_::_::_::_=>False
end
mutual
def Stm.wf:Stm->Prop
 | .mk _ _ _ _ i x y b e=>i.wf/\x.wf/\y.wf/\jC b/\jC e
def jC:List Stm->Prop
 | []=>True
 |s::l=>s.wf/\jC l
end
theorem BS:∀{l:List Stm},jC l↔∀s∈l,s.wf:=by
 intro l
 induction l with
 |nil=>simp[jC]
 |cons s l ih=>rw[jC,ih];simp
section
variable {ns:List (List Nat)} {cs:List (List Nat×Int)}
theorem zW {s:List Nat} (h:s∈ns):0<=eo ns s/\eo ns s<ns.length:=by
 unfold eo bC
 split
 ·rename_i i hi
  have:=(List.findIdx?_eq_some_iff_findIdx_eq.1 hi).1
  omega
 ·rename_i hn
  rw[List.findIdx?_eq_none_iff] at hn
  have:=hn s h
  simp at this
theorem fv:∀(x:Ex) {X:Ms},x.wf->(∀n∈x.names,n∈ns)->(ns.length:Int)<=X.v->Gr ns.length X (x.lw ns X).2/\0<=(x.lw ns X).1/\(x.lw ns X).1<(x.lw ns X).2.v:=by
 apply Ex.ind (P:=fun x=>∀{X:Ms},x.wf->(∀n∈x.names,n∈ns)->(ns.length:Int)<=X.v->Gr ns.length X (x.lw ns X).2/\0<=(x.lw ns X).1/\(x.lw ns X).1<(x.lw ns X).2.v)
 intro c n o s ks ih X hw hn hX
 rw[Ex.wf] at hw
 rw[Ex.lw]
 rcases hw with rfl|rfl|⟨rfl,hk⟩
 ·rw[Xb rfl]
  exact ⟨mG n,by dsimp only;omega,by simp[aM,aU];omega⟩
 ·rw[Xa (by omega),Xb rfl]
  have:=zW (ns:=ns) (hn s (by rw[Ex.names,Xb rfl];simp))
  exact ⟨Gr.refl X,this.1,by dsimp only;omega⟩
 ·rw[Xa (by omega),Xa (by omega),Xb rfl]
  rw[Ex.names,Xa (by omega),Xb rfl] at hn
  match ks,ih,hk,hn with
  | [a,b],ih,hk,hn=>
   rw[Wc] at hk
   simp only[b9,List.append_nil,List.mem_append] at hn
   rw[Sv]
   obtain ⟨a1,a2,a3⟩:=ih a (by simp) (X:=X) hk.1 (fun n h=>hn n (Or.inl h)) hX
   have a4:=a1.v
   obtain ⟨b1,b2,b3⟩:=ih b (by simp) (X:=(a.lw ns X).2) hk.2 (fun n h=>hn n (Or.inr h)) (by omega)
   have b4:=b1.v
   refine ⟨(a1.trans b1).trans (EL _ ⟨a2,by omega⟩ ⟨b2,b3⟩),by dsimp only;omega,by simp[jG,aU];omega⟩
theorem Fx  {mk ba:Int} (hi:0<=i/\i<X.v):Gr L X (iz i mk ba X).2/\0<=(iz i mk ba X).1/\(iz i mk ba X).1<(iz i mk ba X).2.v:=by
 unfold iz
 dsimp only
 have e1:(aM mk X).v=X.v+1:=rfl
 have e2:(jG 38 i X.v (aM mk X)).v=X.v+1+1:=rfl
 have e3:(aM 8 (jG 38 i X.v (aM mk X))).v=X.v+1+1+1:=rfl
 refine ⟨?_, ?_, ?_⟩
 ·refine (((((mG mk).trans (EL 38 ?_ ?_)).trans (mG 8)).trans (EL 42 ?_ ?_)).trans (mG ba)).trans (EL 43 ?_ ?_)
  all_goals (simp only[aM,jG,aU];omega)
 ·simp only[aM,jG,aU];omega
 ·simp only[aM,jG,aU];omega
theorem iR {s:Stm} (hw:s.i.wf) (hn:∀n∈s.i.names,n∈ns) (hX:(ns.length:Int)<=X.v):Gr ns.length X (aH cs ns s X).2/\0<=(aH cs ns s X).1/\(aH cs ns s X).1<(aH cs ns s X).2.v:=by
 obtain ⟨a1,a2,a3⟩:=fv (ns:=ns) s.i hw hn hX
 obtain ⟨b1,b2,b3⟩:=Fx (L:=ns.length) (i:=(s.i.lw ns X).1) (mk:=(oP cs (bC (cs.map (·.1)) s.ce) - 1) % 18446744073709551616) (ba:=He cs (bC (cs.map (·.1)) s.ce) % 18446744073709551616) (X:=(s.i.lw ns X).2) ⟨a2,a3⟩
 exact ⟨a1.trans b1,b2,b3⟩
theorem zN  (h:∀s∈l,∀{X:Ms},s.wf->(∀t∈s.all,∀n∈t.own,n∈ns)->(ns.length:Int)<=X.v->Gr ns.length X (s.lw cs ns X)):∀{X:Ms},jC l->(∀t∈aQ l,∀n∈t.own,n∈ns)->(ns.length:Int)<=X.v->Gr ns.length X (dZ cs ns l X):=by
 induction l with
 |nil=>intro X _ _ _;rw[dZ];exact Gr.refl X
 |cons s l ih=>
  intro X hw hn hX
  rw[jC] at hw
  rw[dZ]
  rw[aQ] at hn
  have h1:=h s (List.mem_cons_self ..) (X:=X) hw.1 (fun t ht=>hn t (List.mem_append_left _ ht)) hX
  exact h1.trans (ih (fun y hy=>h y (List.mem_cons_of_mem _ hy)) hw.2 (fun t ht=>hn t (List.mem_append_right _ ht)) (by have:=h1.v;omega))
theorem mi (t:Int):iK [aj 9 0 t]= [t]:=by simp[iK,aj]
theorem El  {Y Z:Ms} (hL:0<=L) (h0:Gr L (cw 2 X) Y) (h1:Gr L (aU (aj 9 0 X.lb) Y) Z):Gr L X (aU (aj 9 0 (X.lb+1)) Z):=by
 obtain ⟨n0,p⟩:=h0
 obtain ⟨n1,q⟩:=h1
 have pl:=p.lb
 have ql:=q.lb
 have e2:(cw 2 X).lb=X.lb+2:=rfl
 have e3:(aU (aj 9 0 X.lb) Y).lb=Y.lb:=rfl
 have hs:∀t v,kw L v [aj 9 0 t] v:=fun t v=>⟨by simp[eA,aj],Or.inl ⟨by simp[fV,aj];omega,rfl⟩⟩
 refine ⟨n0++([aj 9 0 X.lb]++(n1++ [aj 9 0 (X.lb+1)])), ?_, ?_, ?_, ?_, ?_⟩
 ·show Z.st++_=_
  rw[q.st]
  show (Y.st++ [_])++n1++_=_
  rw[p.st]
  simp[cw]
 ·exact pj p.sq (pj (hs _ _) (pj q.sq (hs _ _)))
 ·show X.lb<=Z.lb;omega
 ·rw[eL,eL,eL,mi,mi]
  rw[List.nodup_append]
  refine ⟨p.nd, ?_,fun x hx y hy e=> ?_⟩
  ·rw[List.singleton_append,List.nodup_cons,List.nodup_append]
   refine ⟨fun hm=> ?_,q.nd,by simp,fun x hx y hy e=> ?_⟩
   ·rcases List.mem_append.1 hm with hm|hm
    ·have:=q.rg _ hm;omega
    ·rw[List.mem_singleton] at hm;omega
   ·have:=q.rg _ hx;rw[List.mem_singleton] at hy;omega
  ·have:=p.rg _ hx
   rcases List.mem_append.1 hy with hy|hy
   ·rw[List.mem_singleton] at hy;omega
   ·rcases List.mem_append.1 hy with hy|hy
    ·have:=q.rg _ hy;omega
    ·rw[List.mem_singleton] at hy;omega
 ·intro t ht
  rw[eL,eL,eL,mi,mi] at ht
  show X.lb<=t/\t<Z.lb
  simp only[List.mem_append,List.mem_singleton] at ht
  rcases ht with ht|ht|ht|ht
  ·have:=p.rg _ ht;omega
  ·omega
  ·have:=q.rg _ ht;omega
  ·omega
theorem IN:∀(s:Stm) {X:Ms},s.wf->(∀t∈s.all,∀n∈t.own,n∈ns)->(ns.length:Int)<=X.v->Gr ns.length X (s.lw cs ns X):=by
 apply Stm.ind (P:=fun s=>∀{X:Ms},s.wf->(∀t∈s.all,∀n∈t.own,n∈ns)->(ns.length:Int)<=X.v->Gr ns.length X (s.lw cs ns X))
 intro k a nm ce i x y b e hb he X hw hn hX
 rw[Stm.wf] at hw
 obtain ⟨hi,hx,hy,hwb,hwe⟩:=hw
 rw[Stm.all] at hn
 have hown:=hn _ (List.mem_cons_self ..)
 rw[Stm.own] at hown
 simp only[List.mem_append] at hown
 have hnB:k=6∨k=7->∀t∈aQ b,∀n∈t.own,n∈ns:=fun q t ht=>hn t (List.mem_cons_of_mem _ (List.mem_append_left _ (by rw[Xb q];exact ht)))
 have hnE:k=6->∀t∈aQ e,∀n∈t.own,n∈ns:=fun q t ht=>hn t (List.mem_cons_of_mem _ (List.mem_append_right _ (by rw[Xb q];exact ht)))
 have hB:∀{X:Ms},jC b->(∀t∈aQ b,∀n∈t.own,n∈ns)->(ns.length:Int)<=X.v->Gr ns.length X (dZ cs ns b X):=zN hb
 have hE:∀{X:Ms},jC e->(∀t∈aQ e,∀n∈t.own,n∈ns)->(ns.length:Int)<=X.v->Gr ns.length X (dZ cs ns e X):=zN he
 have hL:(0:Int)<=ns.length:=by omega
 have hnm:k=0∨k=1∨k=3->0<=eo ns nm/\eo ns nm<ns.length:=fun q=>zW (hown nm (Or.inl (by rw[Xb q];simp)))
 have hni:k=1∨k=2∨k=3->∀n∈i.names,n∈ns:=fun q n h=>hown n (Or.inr (Or.inl (by rw[Xb q];exact h)))
 have hnx:k=0∨k=2∨k=3∨k=5∨k=6∨k=7->∀n∈x.names,n∈ns:=fun q n h=>hown n (Or.inr (Or.inr (Or.inl (by rw[Xb q];exact h))))
 have hny:k=3->∀n∈y.names,n∈ns:=fun q n h=>hown n (Or.inr (Or.inr (Or.inr (by rw[Xb q];exact h))))
 rw[Stm.lw]
 split
 ·rename_i q
  obtain ⟨a1,a2,a3⟩:=fv x hx (hnx (by omega)) hX
  refine a1.trans (gc ?_ ?_ ?_)
  ·simp[eA];omega
  ·have:=hnm (by omega);simp[fV];omega
  ·simp
 split
 ·rename_i q
  obtain ⟨a1,a2,a3⟩:=iR (cs:=cs) (s:= .mk k a nm ce i x y b e) hi (hni (by omega)) hX
  refine a1.trans (gc ?_ ?_ ?_)
  ·simp[eA];omega
  ·have:=hnm (by omega);simp[fV];omega
  ·simp
 split
 ·rename_i q
  obtain ⟨a1,a2,a3⟩:=iR (cs:=cs) (s:= .mk k a nm ce i x y b e) hi (hni (by omega)) hX
  have av:=a1.v
  obtain ⟨b1,b2,b3⟩:=fv x hx (hnx (by omega)) (X:=(aH cs ns (.mk k a nm ce i x y b e) X).2) (by omega)
  have bv:=b1.v
  refine (a1.trans b1).trans (gc ?_ ?_ ?_)
  ·simp[eA];omega
  ·simp[fV];omega
  ·simp
 split
 ·rename_i q
  obtain ⟨a1,a2,a3⟩:=iR (cs:=cs) (s:= .mk k a nm ce i x y b e) hi (hni (by omega)) hX
  have av:=a1.v
  obtain ⟨b1,b2,b3⟩:=fv x hx (hnx (by omega)) (X:=(aH cs ns (.mk k a nm ce i x y b e) X).2) (by omega)
  have bv:=b1.v
  obtain ⟨c1,c2,c3⟩:=fv y hy (hny (by omega)) (X:=(x.lw ns (aH cs ns (.mk k a nm ce i x y b e) X).2).2) (by omega)
  have cv:=c1.v
  refine ((a1.trans b1).trans c1).trans (gc ?_ ?_ ?_)
  ·simp[eA];omega
  ·have:=hnm (by omega);simp[fV];omega
  ·simp
 split
 ·exact gc (by simp[eA,aj]) (by simp[fV,aj];omega) (by simp[aj])
 split
 ·obtain ⟨a1,a2,a3⟩:=fv x hx (hnx (by omega)) hX
  exact a1.trans (gc (by simp[eA,aj];omega) (by simp[fV,aj];omega) (by simp[aj]))
 split
 ·rename_i q
  obtain ⟨a1,a2,a3⟩:=fv x hx (hnx (by omega)) (X:=cw 2 X) hX
  have av:=a1.v
  have z1:=a1.trans (gc (s:=aj 11 (x.lw ns (cw 2 X)).1 X.lb) (by simp[eA,aj];omega) (by simp[fV,aj];omega) (by simp[aj]))
  have zv:=z1.v
  have b1:=hB hwb (hnB (by omega)) (X:=aU (aj 11 (x.lw ns (cw 2 X)).1 X.lb) (x.lw ns (cw 2 X)).2) (by have:(cw 2 X).v=X.v:=rfl;omega)
  have bv:=b1.v
  have j1:=(z1.trans b1).trans (gc (s:=aj 10 0 (X.lb+1)) (by simp[eA,aj]) (by simp[fV,aj];omega) (by simp[aj]))
  have jv:=j1.v
  exact El hL j1 (hE hwe (hnE (by omega)) (by have:(cw 2 X).v=X.v:=rfl;simp only[aU] at jv ⊢;omega))
 split
 ·rename_i q
  obtain ⟨a1,a2,a3⟩:=fv x hx (hnx (by omega)) (X:=aU (aj 9 0 X.lb) (cw 2 X)) hX
  have av:=a1.v
  have z1:=a1.trans (gc (s:=aj 11 (x.lw ns (aU (aj 9 0 X.lb) (cw 2 X))).1 (X.lb+1)) (fun u hu=>by simp only[eA,aj,reduceCtorEq,if_false,if_true] at hu;simp at hu;subst hu;exact ⟨a2,a3⟩) (by simp[fV,aj];omega) (by simp[aj]))
  have zv:=z1.v
  have b1:=hB hwb (hnB (by omega)) (X:=aU (aj 11 (x.lw ns (aU (aj 9 0 X.lb) (cw 2 X))).1 (X.lb+1)) (x.lw ns (aU (aj 9 0 X.lb) (cw 2 X))).2) (by have:(aU (aj 9 0 X.lb) (cw 2 X)).v=X.v:=rfl;omega)
  have j1:=(z1.trans b1).trans (gc (s:=aj 10 0 X.lb) (by simp[eA,aj]) (by simp[fV,aj];omega) (by simp[aj]))
  exact El hL (Gr.refl _) j1
 ·exact Gr.refl X
theorem Sx  (hw:jC l) (hn:∀t∈aQ l,∀n∈t.own,n∈ns) (hX:(ns.length:Int)<=X.v):Gr ns.length X (dZ cs ns l X):=zN (fun s _=>IN s) hw hn hX
end
structure Fresh (L V:Int) (st:List Sp):Prop where
 lv:0<=L/\L<=V
 ne:∃n s,st=n++ [s]/\s.k=12
 us:∀(k:Nat) (h:k<st.length),∀u∈eA st[k],0<=u/\u<V/\(L<=u->lh (st.take k) u=1)
 se:∀(k:Nat) (h:k<st.length),fV st[k]<V
 on:∀u,L<=u->u<V->lh st u=1
 la:∀(j k:Nat) (h:k<st.length) (hj:j<k),st[j].k=9->st[k].k=9->st[j].t≠st[k].t
theorem LH  (h:(iK st).Nodup):∀(j k:Nat) (h:k<st.length) (hj:j<k),st[j].k=9->st[k].k=9->st[j].t≠st[k].t:=by
 intro j k hk hj e1 e2 e
 have hs:st=st.take k++st[k]::st.drop (k+1):=by rw[←List.drop_eq_getElem_cons hk,List.take_append_drop]
 rw[hs,eL,List.nodup_append] at h
 refine h.2.2 st[j].t ?_ st[k].t ?_ e
 ·refine List.mem_map_of_mem (f:=fun s:Sp=>s.t) (List.mem_filter.2 ⟨?_,by simpa using e1⟩)
  rw[List.mem_take_iff_getElem]
  exact ⟨j,by omega,rfl⟩
 ·exact List.mem_map_of_mem (f:=fun s:Sp=>s.t) (List.mem_filter.2 ⟨List.mem_cons_self ..,by simpa using e2⟩)
theorem i6  (hw:jC l):Fresh (locals l).length (bJ cs l).v (bJ cs l).st:=by
 have h:=Sx (cs:=cs) (ns:=locals l) (X:=⟨[],(locals l).length,0⟩) hw (fun t ht n hn=>by
  unfold locals
  exact (ei _ _).2 (Or.inr (List.mem_flatMap.2 ⟨t,ht,hn⟩))) (Int.le_refl _)
 obtain ⟨n,g⟩:=h.trans (gc (s:=aj 12 0 0) (by simp[eA,aj]) (by simp[fV,aj];omega) (by simp[aj]))
 have e:(bJ cs l).st=n:=by have:=g.st;rwa [List.nil_append] at this
 have sq:kw (locals l).length (locals l).length n (bJ cs l).v:=g.sq
 obtain ⟨f1,f2⟩:=Gl sq (Int.le_refl _) [] (fun u a b=>by omega) (fun u a=>by simp[lh])
 simp only[List.nil_append] at f1 f2
 rw[e]
 refine ⟨⟨by omega,tQ sq⟩,⟨(dZ cs (locals l) l ⟨[],(locals l).length,0⟩).st,aj 12 0 0,by rw[←e];rfl,rfl⟩,fun k h=>(f1 k h).1,fun k h=>(f1 k h).2,f2,LH g.nd⟩
section
variable {L:List Tok}
def Vb (E:Rs->Ex×Rs):Prop:=∀s,(E s).1.wf
theorem lc:zE.wf:=by rw[zE,Ex.wf];exact Or.inl rfl
theorem pG {E:Rs->Ex×Rs} {d:Nat} (hE:Vb E):Vb (db L E d):=by
 intro s
 unfold db
 split
 ·exact lc
 split
 ·exact lc
 split
 ·show (FP _).wf;rw[Ex.wf];exact Or.inl rfl
 split
 ·show (s7 _).wf;rw[Ex.wf];exact Or.inr (Or.inl rfl)
 split
 ·exact hE _
 ·exact lc
theorem CO {P:Rs->Ex×Rs} (hP:Vb P):∀(f:Nat) (x:Ex) (s:Rs),x.wf->(eQ L P f x s).1.wf:=by
 intro f
 induction f with
 |zero=>intro x s h;exact h
 |succ f ih=>
  intro x s h
  rw[eQ]
  split
  ·exact h
  split
  ·exact h
  split
  ·exact h
  ·refine ih _ _ ?_
   rw[Ex.wf]
   exact Or.inr (Or.inr ⟨rfl,h,hP _⟩)
theorem NQ:∀(n:Nat),Vb (jD L n):=by
 intro n
 induction n with
 |zero=>exact fun s=>CO (pG fun s=>lc) _ _ _ (pG (fun s=>lc) s)
 |succ n ih=>exact fun s=>CO (pG ih) _ _ _ (pG ih s)
def Ug (B:Rs->List Stm×Rs):Prop:=∀s,jC (B s).1
theorem mM (s:Rs):(fa L s).1.wf:=NQ 30 s
theorem qf (s:Rs):(bj L s).2.1.wf:=by
 unfold bj
 split
 ·exact mM _
 ·exact lc
theorem Nc {B:Rs->List Stm×Rs} (hB:Ug B) (s:Rs):(cU L B s).1.wf:=by
 have z:=lc
 have n:jC []:=by rw[jC];trivial
 unfold cU
 split
 ·show (Stm.mk ..).wf;rw[Stm.wf];exact ⟨z,mM _,z,n,n⟩
 split
 ·show (Stm.mk ..).wf;rw[Stm.wf];exact ⟨qf _,z,z,n,n⟩
 split
 ·show (Stm.mk ..).wf;rw[Stm.wf];exact ⟨qf _,mM _,z,n,n⟩
 split
 ·show (Stm.mk ..).wf;rw[Stm.wf];exact ⟨qf _,mM _,mM _,n,n⟩
 split
 ·show (Stm.mk ..).wf;rw[Stm.wf];exact ⟨z,z,z,n,n⟩
 split
 ·show (Stm.mk ..).wf;rw[Stm.wf];exact ⟨z,mM _,z,n,n⟩
 split
 ·unfold Ox
  split
  ·show (Stm.mk ..).wf;rw[Stm.wf];exact ⟨z,mM _,z,hB _,hB _⟩
  ·show (Stm.mk ..).wf;rw[Stm.wf];exact ⟨z,mM _,z,hB _,n⟩
 split
 ·show (Stm.mk ..).wf;rw[Stm.wf];exact ⟨z,mM _,z,hB _,n⟩
 ·show (Stm.mk ..).wf;rw[Stm.wf];exact ⟨z,z,z,n,n⟩
theorem vL {S:Rs->Stm×Rs} (hS:∀s,(S s).1.wf):∀(f:Nat) (l:List Stm) (s:Rs),jC l->jC (fq L S f l s).1:=by
 intro f
 induction f with
 |zero=>intro l s h;exact h
 |succ f ih=>
  intro l s h
  rw[fq]
  split
  ·exact h
  split
  ·exact h
  ·refine ih _ _ (BS.2 fun t ht=> ?_)
   rcases List.mem_append.1 ht with ht|ht
   ·exact BS.1 h t ht
   ·rw[List.mem_singleton] at ht;subst ht;exact hS _
theorem EE:∀(n:Nat),Ug (dQ L n):=by
 intro n
 have n0:jC []:=by rw[jC];trivial
 induction n with
 |zero=>exact fun s=>vL (fun s=>by rw[Stm.wf];exact ⟨lc,lc,lc,n0,n0⟩) _ _ _ n0
 |succ n ih=>exact fun s=>vL (fun s=>Nc ih s) _ _ _ n0
def Vf (P:Ps):Prop:=(∀t∈P.ts,jC t.2)/\jC P.rc
theorem Sa {P:Ps} {s:Rs} (h:Vf P):Vf (eX L P s).1:=by
 unfold eX
 split
 ·exact h
 split
 ·refine ⟨fun t ht=> ?_,h.2⟩
  rcases List.mem_append.1 ht with ht|ht
  ·exact h.1 t ht
  ·rw[List.mem_singleton] at ht;subst ht;exact EE 30 _
 ·exact ⟨h.1,EE 30 _⟩
theorem Lc:∀(f:Nat) (P:Ps) (s:Rs),Vf P->Vf (cP L f P s).1:=by
 intro f
 induction f with
 |zero=>intro P s h;exact h
 |succ f ih=>
  intro P s h
  rw[cP]
  split
  ·exact h
  split
  ·exact h
  ·exact ih _ _ (Sa h)
end
theorem HR {b:List Nat} (h:(gy b).1=some p):(∀t∈p.ts,jC t.2)/\jC p.r:=by
 unfold gy at h
 split at h
 ·cases h
 ·split at h
  ·cases h
  ·split at h
   ·cases h
   ·injection h with h
    subst h
    exact Lc (L:=(dM b).1) _ ⟨[], [], [],false⟩ ⟨0,0,0⟩ ⟨by simp,by show jC [];rw[jC];trivial⟩
structure Lan where
 (a:Nat)
 v:List Int
 (sk en:Bool)
def bw (v:List Int) (i:Int):Int:=if 0<=i/\i<v.length then (v[i.toNat]?).getD 0 else 0
def jc (v:List Int) (i z:Int):List Int:=if 0<=i/\i<v.length then v.set i.toNat z else v
def sj (to:Int) (s:Sp):Bool:=decide (s.k=9)&&decide (s.t=to)
def iQ (st:List Sp) (to:Int):Nat:=(st.findIdx? (sj to)).getD st.length
def bp (s:Sp):Prop:=s.k=3∨s.k=4∨s.k=5∨s.k=8
instance (s:Sp):Decidable (bp s):=by unfold bp;infer_instance
noncomputable def bE (st:List Sp) (s:Sp) (a:Nat) (v:List Int):Nat×List Int:=
 if s.k=0 then (a,jc v s.d s.n)
 else if s.k=1 then (a,jc v s.d (bw v s.a))
 else if s.k=2 then (a,jc v s.d (yu s.o.toNat (bw v s.a) (bw v s.b)))
 else if s.k=10 then (iQ st s.t,v)
 else if s.k=11 then (if bw v s.a=0 then (iQ st s.t,v) else (a,v))
 else if s.k=12 then (st.length,v)
 else (a,v)
def gT (z:Int):Int:=if 1099511627776<z then -1 else z
def dG (n:Nat) (z:Int):Int:=if z<4096∨(z - 4096) % 8≠0∨n<=(z - 4096) / 8 then -1 else (z - 4096) / 8
def mK (cl:List Int) (i:Int):Int:=if i<0 then 0 else (cl[i.toNat]?).getD 0
def OF (cl:List Int) (i z:Int):List Int:=if i<0 then cl else cl.set i.toNat z
noncomputable def fW (s:Sp) (v:List Int) (z:Mc):List Int×Mc:=
 if s.k=8 then (v,⟨z.cl,z.out++ [bw v s.a],z.ill⟩)
 else if s.k=3 then (jc v s.d (mK z.cl (dG z.cl.length (gT (bw v s.a)))),z)
 else if s.k=4 then (v,⟨OF z.cl (dG z.cl.length (gT (bw v s.a))) (bw v s.b),z.out,z.ill⟩)
 else if 0<=dG z.cl.length (gT (bw v s.a))/\mK z.cl (dG z.cl.length (gT (bw v s.a)))=bw v s.b then (jc v s.d 1,⟨OF z.cl (dG z.cl.length (gT (bw v s.a))) (bw v s.c),z.out,z.ill⟩)
 else (jc v s.d 0,z)
def KJ (st:List Sp) (a:Nat):Sp:=(st[a]?).getD ⟨0,0,0,0,0,0,0,0,0⟩
noncomputable def lp (st:List Sp):Nat->Lan->Mc->Bool×Lan×Mc
 |0,x,z=>if st.length<=x.a then (false,⟨x.a,x.v,false,true⟩,z) else (false,⟨x.a,x.v,true,false⟩,⟨z.cl,z.out,true⟩)
 |k+1,x,z=>if st.length<=x.a then (false,⟨x.a,x.v,false,true⟩,z)
  else if bp (KJ st x.a) then (true,⟨x.a+1,(fW (KJ st x.a) x.v z).1,false,x.en⟩,(fW (KJ st x.a) x.v z).2)
  else lp st k ⟨(bE st (KJ st x.a) (x.a+1) x.v).1,(bE st (KJ st x.a) (x.a+1) x.v).2,false,x.en⟩ z
inductive Rch (st:List Sp):Nat->Nat×List Int->Nat×List Int->Prop
 |nil (x:Nat×List Int):Rch st 0 x x
 |step {n:Nat} {a:Nat} {v:List Int} {s:Sp} {y:Nat×List Int} (h:st[a]? =some s) (hq:¬bp s) (r:Rch st n (bE st s (a+1) v) y):Rch st (n+1) (a,v) y
theorem Rch.trans  {z:Nat×List Int} (h:Rch st n x y) (h':Rch st k y z):Rch st (n+k) x z:=by
 induction h with
 |nil=>rwa [Nat.zero_add]
 |step h hq r ih=>rw[Nat.add_right_comm];exact .step h hq (ih h')
theorem Rch.go  (h:Rch st n x y):∀(f:Nat) (z:Mc) (en:Bool),(f<n->(lp st f ⟨x.1,x.2,false,en⟩ z).2.2.ill=true)/\lp st (n+f) ⟨x.1,x.2,false,en⟩ z=lp st f ⟨y.1,y.2,false,en⟩ z:=by
 induction h with
 |nil=>intro f z en;exact ⟨fun q=>W9 q (by omega),by rw[Nat.zero_add]⟩
 |@step n a v s y h hq r ih=>
  intro f z en
  have hl:=(List.getElem?_eq_some_iff.1 h).1
  have hs:KJ st a=s:=by unfold KJ;rw[h];rfl
  constructor
  ·intro hf
   cases f with
   |zero=>rw[lp,Xa (by dsimp only;omega)]
   |succ f=>
    rw[lp,Xa (by dsimp only;omega)]
    dsimp only
    rw[hs,Xa hq]
    exact (ih f z en).1 (by omega)
  ·rw[Nat.add_right_comm,lp,Xa (by dsimp only;omega)]
   dsimp only
   rw[hs,Xa hq]
   exact (ih f z en).2
theorem gQ (v:List Int) (i z:Int):(jc v i z).length=v.length:=by unfold jc;split<;>simp
theorem mF {v:List Int} {z:Int} (h:0<=i/\i<v.length):bw (jc v i z) i=z:=by
 unfold bw
 rw[gQ,Xb h]
 unfold jc
 rw[Xb h,List.getElem?_set_self (by omega)];rfl
theorem uu {v:List Int} {j z:Int} (h:i≠j):bw (jc v i z) j=bw v j:=by
 unfold bw
 rw[gQ]
 split
 ·rename_i hj
  unfold jc
  split
  ·rw[List.getElem?_set_ne (by omega)]
  ·rfl
 ·rfl
section
variable {st:List Sp} {ns:List (List Nat)}
theorem dT  {s:Sp} (h:(aU s X).st<+:st):st[X.st.length]? =some s:=by
 obtain ⟨t,rfl⟩:=h
 simp[aU]
theorem de {a b:List Sp} (h:a++b<+:st):a<+:st:=by
 obtain ⟨t,rfl⟩:=h
 exact ⟨b++t,by rw[List.append_assoc]⟩
theorem Gr.pre  {Y:Ms} (h:Gr L X Y) (hp:Y.st<+:st):X.st<+:st:=by
 obtain ⟨n,g⟩:=h
 rw[g.st] at hp
 exact de hp
theorem dh (s:Sp) (X:Ms):(aU s X).st.length=X.st.length+1:=by simp[aU]
def GA (n:Int) (v w:List Int):Prop:=w.length=v.length/\∀i,i<n->bw w i=bw v i
theorem GA.refl (n:Int) (v:List Int):GA n v v:=⟨rfl,fun _ _=>rfl⟩
theorem GA.trans {n k:Int} {u v w:List Int} (h:GA n u v) (h':GA k v w) (hk:n<=k):GA n u w:=⟨h'.1.trans h.1,fun i hi=>(h'.2 i (by omega)).trans (h.2 i hi)⟩
theorem ig  {n z:Int} {v:List Int} (h:n<=i):GA n v (jc v i z):=⟨gQ _ _ _,fun j hj=>uu (by omega)⟩
theorem ky {n:Int} {v:List Int} (hp:(aM n X).st<+:st):Rch st 1 (X.st.length,v) ((aM n X).st.length,jc v X.v n):=by
 have h:st[X.st.length]? =some ⟨0,X.v,0,0,0,0,0,n,0⟩:=dT (X:=⟨X.st,X.v+1,X.lb⟩) hp
 have e:(aM n X).st.length=X.st.length+1:=dh _ _
 rw[e]
 exact .step h (by simp[bp]) (.nil _)
theorem ud  {o:Int} {v:List Int} (hp:(jG o a b X).st<+:st):Rch st 1 (X.st.length,v) ((jG o a b X).st.length,jc v X.v (yu o.toNat (bw v a) (bw v b))):=by
 have h:st[X.st.length]? =some ⟨2,X.v,a,b,0,0,0,0,o⟩:=dT (X:=⟨X.st,X.v+1,X.lb⟩) hp
 have e:(jG o a b X).st.length=X.st.length+1:=dh _ _
 rw[e]
 exact .step h (by simp[bp]) (.nil _)
def qh (ns:List (List Nat)) (vs v:List Int):Prop:=vs.length=ns.length/\∀i:Nat,i<ns.length->bw v i=(vs[i]?).getD 0
theorem qh.agr  {v w:List Int} {n:Int} (h:qh ns vs v) (ha:GA n v w) (hn:(ns.length:Int)<=n):qh ns vs w:=⟨h.1,fun i hi=>(ha.2 i (by omega)).trans (h.2 i hi)⟩
theorem DF {s:List Nat} (h:s∈ns):bC ns s=eo ns s/\0<=eo ns s/\eo ns s<ns.length:=by
 have h1:=fw.2 h
 have h2:=zW h
 unfold eo at *
 omega
theorem RX  {v:List Int} {s:List Nat} (h:qh ns vs v) (hs:s∈ns):bw v (eo ns s)=K6 ns vs s:=by
 obtain ⟨e,h1,h2⟩:=DF hs
 unfold K6
 rw[e,Xb h1]
 have:=h.2 (eo ns s).toNat (by omega)
 rwa [Int.toNat_of_nonneg h1] at this
theorem jL:∀(x:Ex) {X:Ms} {v vs:List Int},x.wf->(∀n∈x.names,n∈ns)->(ns.length:Int)<=X.v->(x.lw ns X).2.st<+:st->(x.lw ns X).2.v<=v.length->qh ns vs v->
 ∃n w,Rch st n (X.st.length,v) ((x.lw ns X).2.st.length,w)/\GA X.v v w/\bw w (x.lw ns X).1=x.eval ns vs:=by
 apply Ex.ind (P:=fun x=>∀{X:Ms} {v vs:List Int},x.wf->(∀n∈x.names,n∈ns)->(ns.length:Int)<=X.v->(x.lw ns X).2.st<+:st->(x.lw ns X).2.v<=v.length->qh ns vs v->
  ∃n w,Rch st n (X.st.length,v) ((x.lw ns X).2.st.length,w)/\GA X.v v w/\bw w (x.lw ns X).1=x.eval ns vs)
 intro c n o s ks ih X v vs hw hn hX hp hV hL
 rw[Ex.wf] at hw
 rw[Ex.eval]
 rw[Ex.lw] at hp hV ⊢
 rcases hw with rfl|rfl|⟨rfl,hk⟩
 ·rw[Xb rfl] at hp hV ⊢
  rw[Xb rfl]
  refine ⟨1,_,ky hp,ig (Int.le_refl _),mF ⟨by omega, ?_⟩⟩
  simp only[aM,aU] at hV;omega
 ·rw[Xa (by omega),Xb rfl] at hp hV ⊢
  rw[Xa (by omega),Xb rfl]
  exact ⟨0,v,.nil _,GA.refl _ _,RX hL (hn s (by rw[Ex.names,Xb rfl];simp))⟩
 ·rw[Xa (by omega),Xa (by omega),Xb rfl] at hp hV ⊢
  rw[Xa (by omega),Xa (by omega),Xb rfl]
  rw[Ex.names,Xa (by omega),Xb rfl] at hn
  match ks,ih,hk,hn with
  | [a,b],ih,hk,hn=>
   rw[Wc] at hk
   simp only[b9,List.append_nil,List.mem_append] at hn
   rw[Sv] at hp hV ⊢
   simp only[lY,On]
   obtain ⟨a1,a2,a3⟩:=fv a (X:=X) hk.1 (fun n h=>hn n (Or.inl h)) hX
   have a4:=a1.v
   obtain ⟨b1,b2,b3⟩:=fv b (X:=(a.lw ns X).2) hk.2 (fun n h=>hn n (Or.inr h)) (by omega)
   have b4:=b1.v
   have hpb:(b.lw ns (a.lw ns X).2).2.st<+:st:=de (b:= [⟨2,(b.lw ns (a.lw ns X).2).2.v,(a.lw ns X).1,(b.lw ns (a.lw ns X).2).1,0,0,0,0,o⟩]) hp
   have hVb:(b.lw ns (a.lw ns X).2).2.v+1<=v.length:=hV
   obtain ⟨n1,v1,r1,g1,e1⟩:=ih a (by simp) (X:=X) (v:=v) (vs:=vs) hk.1 (fun n h=>hn n (Or.inl h)) hX (b1.pre hpb) (by omega) hL
   obtain ⟨n2,v2,r2,g2,e2⟩:=ih b (by simp) (X:=(a.lw ns X).2) (v:=v1) (vs:=vs) hk.2 (fun n h=>hn n (Or.inr h)) (by omega) hpb (by rw[g1.1];omega) (hL.agr g1 hX)
   refine ⟨n1+n2+1,_,(r1.trans r2).trans (ud hp),(g1.trans g2 a4).trans (ig (Int.le_refl _)) (by omega), ?_⟩
   rw[mF ⟨by omega,by rw[g2.1,g1.1];omega⟩,e2,g2.2 _ a3,e1,Int.toNat_natCast]
end
section
variable {st:List Sp} {ns:List (List Nat)} {cs:List (List Nat×Int)} {V:Nat}
theorem To (o a b:Int) (X:Ms):(jG o a b X).v=X.v+1:=rfl
theorem Ie (n:Int) (X:Ms):(aM n X).v=X.v+1:=rfl
theorem JB  {mk ba:Int} {v:List Int} (hi:0<=i/\i<X.v) (hp:(iz i mk ba X).2.st<+:st) (hV:(iz i mk ba X).2.v<=v.length):
 ∃n w,Rch st n (X.st.length,v) ((iz i mk ba X).2.st.length,w)/\GA X.v v w/\bw w (iz i mk ba X).1=yu 43 (yu 42 (yu 38 (bw v i) mk) 8) ba:=by
 unfold iz at hp hV ⊢
 dsimp only at hp hV ⊢
 have e1:(aM mk X).v=X.v+1:=rfl
 have e2:(jG 38 i X.v (aM mk X)).v=X.v+1+1:=rfl
 have e3:(aM 8 (jG 38 i X.v (aM mk X))).v=X.v+1+1+1:=rfl
 have e4:(jG 42 (aM mk X).v (jG 38 i X.v (aM mk X)).v (aM 8 (jG 38 i X.v (aM mk X)))).v=X.v+1+1+1+1:=rfl
 have e5:(aM ba (jG 42 (aM mk X).v (jG 38 i X.v (aM mk X)).v (aM 8 (jG 38 i X.v (aM mk X))))).v=X.v+1+1+1+1+1:=rfl
 have hV':X.v+1+1+1+1+1+1<=v.length:=hV
 have p5:=de hp
 have p4:=de p5
 have p3:=de p4
 have p2:=de p3
 have p1:=de p2
 refine ⟨_,_,((((((ky p1).trans (ud p2)).trans (ky p3)).trans (ud p4)).trans (ky p5)).trans (ud hp)), ?_, ?_⟩
 ·exact (((((ig (Int.le_refl _)).trans (ig (by omega)) (Int.le_refl _)).trans (ig (by omega)) (Int.le_refl _)).trans (ig (by omega)) (Int.le_refl _)).trans (ig (by omega)) (Int.le_refl _)).trans (ig (by omega)) (Int.le_refl _)
 ·simp only[To,Ie]
  simp (disch:=first|omega|(simp only[gQ];omega)) only[mF,uu]
  rfl
theorem nO {s:Stm} {v:List Int} (hw:s.i.wf) (hn:∀n∈s.i.names,n∈ns) (hX:(ns.length:Int)<=X.v) (hp:(aH cs ns s X).2.st<+:st) (hV:(aH cs ns s X).2.v<=v.length) (hL:qh ns vs v) (hcs:CsOk cs) (hce:s.ce∈cs.map (·.1)) (hv64:cI (s.i.eval ns vs)):
 ∃n w,Rch st n (X.st.length,v) ((aH cs ns s X).2.st.length,w)/\GA X.v v w/\bw w (aH cs ns s X).1=4096+8*eJ cs (s.i.eval ns vs) s:=by
 obtain ⟨a1,a2,a3⟩:=fv (ns:=ns) s.i hw hn hX
 have av:=a1.v
 unfold aH at hp hV ⊢
 obtain ⟨b1,b2,b3⟩:=Fx (L:=ns.length) (i:=(s.i.lw ns X).1) (mk:=(oP cs (bC (cs.map (·.1)) s.ce) - 1) % 18446744073709551616) (ba:=He cs (bC (cs.map (·.1)) s.ce) % 18446744073709551616) (X:=(s.i.lw ns X).2) ⟨a2,a3⟩
 have bv:=b1.v
 obtain ⟨n1,w1,r1,g1,l1⟩:=jL (st:=st) s.i (X:=X) (v:=v) (vs:=vs) hw hn hX (b1.pre hp) (by omega) hL
 obtain ⟨n2,w2,r2,g2,l2⟩:=JB (v:=w1) ⟨a2,a3⟩ hp (by rw[g1.1];omega)
 refine ⟨n1+n2,w2,r1.trans r2,g1.trans g2 av, ?_⟩
 rw[l2,l1]
 obtain ⟨i,hi,hl⟩:=JQ hce
 rw[hi,rO _ hi hl]
 have hsz:=hcs.sz _ (List.getElem_mem hl)
 have hsC:oP cs (i:Nat)=cs[i].2:=by
  unfold oP
  rw[Xb (by omega),Int.toNat_natCast,List.getElem?_eq_getElem hl];rfl
 have hat:=H8 hl
 have hwb:=cV (cs.take i)
 have hwl:=pQ cs i
 have hwc:=cV cs
 have hcl:=hcs.len
 have hle:=Nat.and_le_right (n:=(s.i.eval ns vs).toNat) (m:=(cs[i].2 - 1).toNat)
 rw[hsC,Int.emod_eq_of_lt (by omega) (by omega),Int.emod_eq_of_lt (a:=He cs (i:Nat)) (by omega) (by omega)]
 unfold yu
 simp only[if_true,reduceCtorEq,if_false,show (43:Nat)≠45 by omega,show (42:Nat)≠43 by omega,show (42:Nat)≠45 by omega,show (38:Nat)≠43 by omega,show (38:Nat)≠45 by omega,show (38:Nat)≠42 by omega]
 rw[Int.emod_eq_of_lt (a:=_*8) (by omega) (by omega),Int.emod_eq_of_lt (by omega) (by omega)]
 omega
theorem tG {W:Int} (h:0<=W/\W<n) (hn:n<=1000000):dG n (gT (4096+8*W))=W:=by
 unfold gT
 rw[Xa (by omega)]
 unfold dG
 rw[Xa (by omega)]
 omega
theorem pH (hla:∀(j k:Nat) (h:k<st.length) (hj:j<k),st[j].k=9->st[k].k=9->st[j].t≠st[k].t) {p:Nat} {s:Sp} (h:st[p]? =some s) (hk:s.k=9):iQ st s.t=p:=by
 obtain ⟨hl,rfl⟩:=List.getElem?_eq_some_iff.1 h
 have e:st.findIdx? (sj st[p].t)=some p:=by
  rw[List.findIdx?_eq_some_iff_getElem]
  refine ⟨hl,by simp[sj,hk],fun j hj=> ?_⟩
  simp only[sj,Bool.and_eq_true,decide_eq_true_eq,not_and]
  exact fun q1 q2=>hla j p hl hj q1 hk q2
 unfold iQ
 rw[e];rfl
structure EmS (st:List Sp) (cs:List (List Nat×Int)) (ns:List (List Nat)) (V:Nat) (t:Stm) (X:Ms):Prop where
 p:(t.lw cs ns X).st<+:st
 v0:(ns.length:Int)<=X.v
 v1:(t.lw cs ns X).v<=V
 wf:t.wf
 ow:∀u∈t.all,∀n∈u.own,n∈ns
structure EmB (st:List Sp) (cs:List (List Nat×Int)) (ns:List (List Nat)) (V:Nat) (l:List Stm) (X:Ms):Prop where
 p:(dZ cs ns l X).st<+:st
 v0:(ns.length:Int)<=X.v
 v1:(dZ cs ns l X).v<=V
 wf:jC l
 ow:∀u∈aQ l,∀n∈u.own,n∈ns
inductive Ctn (st:List Sp) (cs:List (List Nat×Int)) (ns:List (List Nat)) (V:Nat):Nat->rS->Prop
 |nil {a:Nat} {s:Sp} (h:st[a]? =some s) (hk:s.k=12):Ctn st cs ns V a []
 |hop {a b:Nat} {s:Sp} {K:rS} (h:st[a]? =some s) (hq:¬bp s) (hb:∀v,bE st s (a+1) v=(b,v)) (c:Ctn st cs ns V b K):Ctn st cs ns V a K
 |row {X:Ms} {l:List Stm} {i:Nat} {K:rS} (h:EmB st cs ns V (l.drop i) X) (c:Ctn st cs ns V (dZ cs ns (l.drop i) X).st.length K):Ctn st cs ns V X.st.length ((l,i)::K)
def sZ (st:List Sp) (n a b:Nat):Prop:=∀v,Rch st n (a,v) (b,v)
theorem sZ.refl (a:Nat):sZ st 0 a a:=fun _=> .nil _
theorem sZ.one  {a b c:Nat} {s:Sp} (h:st[a]? =some s) (hq:¬bp s) (hb:∀v,bE st s (a+1) v=(b,v)) (k:sZ st n b c):sZ st (n+1) a c:=fun v=> .step h hq (by rw[hb];exact k v)
theorem sZ.trans  {a b c:Nat} (h:sZ st n a b) (h':sZ st k b c):sZ st (n+k) a c:=fun v=>(h v).trans (h' v)
theorem E6 {a:Nat} (h:Ctn st cs ns V a K):K= []->∃n b,sZ st n a b/\st.length<=b:=by
 induction h with
 |@nil a s h hk=>exact fun _=>⟨1,st.length,sZ.one h (by simp[bp,hk]) (fun v=>by simp[bE,hk]) (sZ.refl _),Nat.le_refl _⟩
 |hop h hq hb c ih=>
  intro e
  obtain ⟨n,b,h1,h2⟩:=ih e
  exact ⟨n+1,b,sZ.one h hq hb h1,h2⟩
 |row h c=>exact fun e=>by simp at e
theorem Dv {a:Nat} (h:Ctn st cs ns V a K):∀{l:List Stm} {i:Nat} {K':rS},K=(l,i)::K'->∃n X,sZ st n a X.st.length/\EmB st cs ns V (l.drop i) X/\Ctn st cs ns V (dZ cs ns (l.drop i) X).st.length K':=by
 induction h with
 |nil h hk=>intro l i K' e;simp at e
 |hop h hq hb c ih=>
  intro l i K' e
  obtain ⟨n,X,h1,h2⟩:=ih e
  exact ⟨n+1,X,sZ.one h hq hb h1,h2⟩
 |@row X l i K h c=>
  intro l' i' K' e
  injection e with e1 e2
  injection e1 with e1 e3
  subst e1;subst e2;subst e3
  exact ⟨0,X,sZ.refl _,h,c⟩
theorem wo:∀{K:rS} {a:Nat},Ctn st cs ns V a K->∃n b,sZ st n a b/\Ctn st cs ns V b (bT K):=by
 intro K
 induction K with
 |nil=>exact fun h=>⟨0,_,sZ.refl _,h⟩
 |cons y K ih=>
  intro a h
  rw[bT]
  split
  ·exact ⟨0,_,sZ.refl _,h⟩
  ·rename_i hy
   obtain ⟨n,X,h1,h2,h3⟩:=Dv h (l:=y.1) (i:=y.2) rfl
   rw[List.drop_eq_nil_of_le (by omega),dZ] at h3
   obtain ⟨k,b,h4,h5⟩:=ih h3
   exact ⟨n+k,b,h1.trans h4,h5⟩
theorem MV {a:Nat} {i:Nat} (h:Ctn st cs ns V a ((l,i)::K)) (hi:i<l.length):∃n X,sZ st n a X.st.length/\EmS st cs ns V l[i] X/\Ctn st cs ns V X.st.length ((l,i)::K)/\Ctn st cs ns V (l[i].lw cs ns X).st.length ((l,i+1)::K):=by
 obtain ⟨n,X,h1,h2,h3⟩:=Dv h rfl
 have hd:l.drop i=l[i]::l.drop (i+1):=List.drop_eq_getElem_cons hi
 have h0:=Ctn.row h2 h3
 have hg2:=h2
 rw[hd] at h2 h3
 have hw:=h2.wf
 rw[jC] at hw
 have how:∀t∈l[i].all++aQ (l.drop (i+1)),∀n∈t.own,n∈ns:=by have:=h2.ow;rwa [aQ] at this
 have gs:=IN (cs:=cs) (ns:=ns) l[i] (X:=X) hw.1 (fun t ht=>how t (List.mem_append_left _ ht)) h2.v0
 have gv:=gs.v
 have v0:=h2.v0
 have gB:=Sx (cs:=cs) (ns:=ns) (X:=l[i].lw cs ns X) hw.2 (fun t ht=>how t (List.mem_append_right _ ht)) (by omega)
 have gBv:=gB.v
 have hp:=h2.p
 have hv1:=h2.v1
 rw[dZ] at hp hv1 h3
 exact ⟨n,X,h1,⟨gB.pre hp,v0,by omega,hw.1,fun t ht=>how t (List.mem_append_left _ ht)⟩,h0,Ctn.row ⟨hp,by omega,hv1,hw.2,fun t ht=>how t (List.mem_append_right _ ht)⟩ h3⟩
end
section
variable {st:List Sp} {ns:List (List Nat)} {cs:List (List Nat×Int)} {V:Nat}
theorem pD  {v:List Int} {nm:List Nat} (z:Int) (h:qh ns vs v) (hn:nm∈ns) (hV:ns.length<=v.length):qh ns (lJ ns vs nm z) (jc v (eo ns nm) z):=by
 obtain ⟨e,h1,h2⟩:=DF hn
 refine ⟨by rw[xu];exact h.1,fun i hi=> ?_⟩
 unfold lJ
 rw[e,Xb h1]
 have hl:=h.1
 by_cases q:(i:Int)=eo ns nm
 ·rw[←q,mF ⟨by omega,by omega⟩,Int.toNat_natCast,List.getElem?_set_self (by omega)];rfl
 ·rw[uu (fun w=>q w.symm),List.getElem?_set_ne (by omega)]
  exact h.2 i hi
theorem je  (h:∀u∈t.all,∀n∈u.own,n∈ns):(t.k=0∨t.k=1∨t.k=3->t.nm∈ns)/\(t.k=1∨t.k=2∨t.k=3->∀n∈t.i.names,n∈ns)/\(t.k=0∨t.k=2∨t.k=3∨t.k=5∨t.k=6∨t.k=7->∀n∈t.x.names,n∈ns)/\(t.k=3->∀n∈t.y.names,n∈ns)/\(t.k=6∨t.k=7->∀u∈aQ t.b,∀n∈u.own,n∈ns)/\(t.k=6->∀u∈aQ t.e,∀n∈u.own,n∈ns):=by
 obtain ⟨k,a,nm,ce,i,x,y,b,e⟩:=t
 rw[Stm.all] at h
 have hown:=h _ (List.mem_cons_self ..)
 rw[Stm.own] at hown
 simp only[List.mem_append] at hown
 simp only[Stm.k,Stm.nm,Stm.i,Stm.x,Stm.y,Stm.b,Stm.e]
 exact ⟨fun q=>hown nm (Or.inl (by rw[Xb q];simp)),fun q n w=>hown n (Or.inr (Or.inl (by rw[Xb q];exact w))),fun q n w=>hown n (Or.inr (Or.inr (Or.inl (by rw[Xb q];exact w)))),fun q n w=>hown n (Or.inr (Or.inr (Or.inr (by rw[Xb q];exact w)))),fun q t ht=>h t (List.mem_cons_of_mem _ (List.mem_append_left _ (by rw[Xb q];exact ht))),fun q t ht=>h t (List.mem_cons_of_mem _ (List.mem_append_right _ (by rw[Xb q];exact ht)))⟩
theorem lL  (h:t.wf):t.i.wf/\t.x.wf/\t.y.wf/\jC t.b/\jC t.e:=by
 obtain ⟨k,a,nm,ce,i,x,y,b,e⟩:=t
 rwa [Stm.wf] at h
theorem Qo  {v:List Int} (hla:∀(j k:Nat) (h:k<st.length) (hj:j<k),st[j].k=9->st[k].k=9->st[j].t≠st[k].t) (hE:EmS st cs ns V t X) (hk:t.k=6) (hK:Ctn st cs ns V X.st.length K) (hP:Ctn st cs ns V (t.lw cs ns X).st.length (dw K)) (hL:qh ns vs v) (hV:v.length=V):
 ∃n a w,Rch st n (X.st.length,v) (a,w)/\w.length=V/\qh ns (bH ns t ⟨K,vs,s⟩).v w/\Ctn st cs ns V a (bH ns t ⟨K,vs,s⟩).K:=by
 obtain ⟨o1,o2,o3,o4,o5,o6⟩:=je hE.ow
 obtain ⟨w1,w2,w3,w4,w5⟩:=lL hE.wf
 have hp:=hE.p
 have v0:=hE.v0
 have v1:=hE.v1
 have hL0:(0:Int)<=ns.length:=by omega
 have q6t:t.k=6->t.x.eval ns vs≠0->bH ns t ⟨K,vs,s⟩=⟨(t.b,0)::dw K,vs,s⟩:=fun h hx=>by unfold bH;rw[Xb h,Xb hx]
 have q6f:t.k=6->¬t.x.eval ns vs≠0->bH ns t ⟨K,vs,s⟩=⟨(t.e,0)::dw K,vs,s⟩:=fun h hx=>by unfold bH;rw[Xb h,Xa hx]
 obtain ⟨k,ap,nm,ce,i,x,y,b,e⟩:=t
 simp only[Stm.k,Stm.nm,Stm.i,Stm.x,Stm.y,Stm.b,Stm.e] at o1 o2 o3 o4 o5 o6 w1 w2 w3 w4 w5 q6t q6f
 simp only[Stm.k] at hk
 rw[Stm.lw] at hp v1 hP
 subst hk
 simp only[if_true,reduceCtorEq,if_false,show (6:Int)≠0 by omega,show (6:Int)≠1 by omega,show (6:Int)≠2 by omega,show (6:Int)≠3 by omega,show (6:Int)≠4 by omega,show (6:Int)≠5 by omega] at hp v1 hP
 obtain ⟨a1,a2,a3⟩:=fv (ns:=ns) x w2 (o3 (by omega)) (X:=cw 2 X) v0
 have av:=a1.v
 have lv:(cw 2 X).v=X.v:=rfl
 generalize hZ:aU (aj 11 (x.lw ns (cw 2 X)).1 X.lb) (x.lw ns (cw 2 X)).2=Z at *
 have zv:Z.v=(x.lw ns (cw 2 X)).2.v:=by rw[←hZ];rfl
 have gB:=Sx (cs:=cs) (ns:=ns) (l:=b) (X:=Z) w4 (o5 (by omega)) (by omega)
 have bv:=gB.v
 generalize hJ:aU (aj 10 0 (X.lb+1)) (dZ cs ns b Z)=J at *
 have jv:J.v=(dZ cs ns b Z).v:=by rw[←hJ];rfl
 generalize hO:aU (aj 9 0 X.lb) J=O at *
 have ov:O.v=J.v:=by rw[←hO];rfl
 have gE:=Sx (cs:=cs) (ns:=ns) (l:=e) (X:=O) w5 (o6 rfl) (by omega)
 have ev:=gE.v
 have v1':(dZ cs ns e O).v<=V:=v1
 have pE:(dZ cs ns e O).st<+:st:=de hp
 have pO:=gE.pre pE
 have l2:st[(dZ cs ns e O).st.length]? =some (aj 9 0 (X.lb+1)):=dT hp
 rw[←hO] at pO
 have l1:st[J.st.length]? =some (aj 9 0 X.lb):=dT pO
 have pJ:=de pO
 rw[←hJ] at pJ
 have lj:st[(dZ cs ns b Z).st.length]? =some (aj 10 0 (X.lb+1)):=dT pJ
 have pB:=de pJ
 have pZ:=gB.pre pB
 rw[←hZ] at pZ
 have lz:st[(x.lw ns (cw 2 X)).2.st.length]? =some (aj 11 (x.lw ns (cw 2 X)).1 X.lb):=dT pZ
 have px:=de pZ
 obtain ⟨n,w,r1,g1,e1⟩:=jL (st:=st) x (X:=cw 2 X) (v:=v) (vs:=vs) w2 (o3 (by omega)) v0 px (by omega) hL
 have hLw:=hL.agr g1 v0
 have hlw:=g1.1
 have lX:(cw 2 X).st.length=X.st.length:=rfl
 have hc2:(aU (aj 9 0 (X.lb+1)) (dZ cs ns e O)).st.length=(dZ cs ns e O).st.length+1:=dh _ _
 rw[hc2] at hP
 have j2:iQ st (X.lb+1)=(dZ cs ns e O).st.length:=pH hla l2 rfl
 have j1:iQ st X.lb=J.st.length:=pH hla l1 rfl
 have cE:Ctn st cs ns V (dZ cs ns e O).st.length (dw K):= .hop l2 (by simp[bp,aj]) (fun v=>by simp[bE,aj]) hP
 have cB:Ctn st cs ns V (dZ cs ns b Z).st.length (dw K):= .hop lj (by simp[bp,aj]) (fun v=>by simp[bE,aj,j2]) cE
 have hlen:J.st.length=(dZ cs ns b Z).st.length+1:=by rw[←hJ];exact dh _ _
 have olen:O.st.length=J.st.length+1:=by rw[←hO];exact dh _ _
 have zlen:Z.st.length=(x.lw ns (cw 2 X)).2.st.length+1:=by rw[←hZ];exact dh _ _
 by_cases hx:x.eval ns vs≠0
 ·rw[q6t rfl hx]
  refine ⟨_,Z.st.length,w,(show Rch st n (X.st.length,v) _ from r1).trans (.step lz (by simp[bp,aj]) (n:=0) ?_),by omega,hLw, ?_⟩
  ·have:bE st (aj 11 (x.lw ns (cw 2 X)).1 X.lb) ((x.lw ns (cw 2 X)).2.st.length+1) w=(Z.st.length,w):=by simp[bE,aj,e1,hx,zlen]
   rw[this];exact .nil _
  ·exact Ctn.row (l:=b) (i:=0) (X:=Z) ⟨pB,by omega,(by show (dZ cs ns b Z).v<=(V:Int);omega),w4,o5 (by omega)⟩ cB
 ·rw[q6f rfl hx]
  have hx0:x.eval ns vs=0:=by simpa using hx
  refine ⟨_,O.st.length,w,(show Rch st n (X.st.length,v) _ from r1).trans (.step lz (by simp[bp,aj]) (n:=1) ?_),by omega,hLw, ?_⟩
  ·have:bE st (aj 11 (x.lw ns (cw 2 X)).1 X.lb) ((x.lw ns (cw 2 X)).2.st.length+1) w=(J.st.length,w):=by simp[bE,aj,e1,hx0,j1]
   rw[this]
   refine .step l1 (by simp[bp,aj]) (n:=0) ?_
   have:bE st (aj 9 0 X.lb) (J.st.length+1) w=(O.st.length,w):=by simp[bE,aj,olen]
   rw[this];exact .nil _
  ·exact Ctn.row (l:=e) (i:=0) (X:=O) ⟨pE,by omega,(by show (dZ cs ns e O).v<=(V:Int);omega),w5,o6 rfl⟩ cE
theorem Gq  {v:List Int} (hla:∀(j k:Nat) (h:k<st.length) (hj:j<k),st[j].k=9->st[k].k=9->st[j].t≠st[k].t) (hE:EmS st cs ns V t X) (hk:t.k=7) (hK:Ctn st cs ns V X.st.length K) (hP:Ctn st cs ns V (t.lw cs ns X).st.length (dw K)) (hL:qh ns vs v) (hV:v.length=V):
 ∃n a w,Rch st n (X.st.length,v) (a,w)/\w.length=V/\qh ns (bH ns t ⟨K,vs,s⟩).v w/\Ctn st cs ns V a (bH ns t ⟨K,vs,s⟩).K:=by
 obtain ⟨o1,o2,o3,o4,o5,o6⟩:=je hE.ow
 obtain ⟨w1,w2,w3,w4,w5⟩:=lL hE.wf
 have hp:=hE.p
 have v0:=hE.v0
 have v1:=hE.v1
 have hL0:(0:Int)<=ns.length:=by omega
 have q7t:t.k=7->t.x.eval ns vs≠0->bH ns t ⟨K,vs,s⟩=⟨(t.b,0)::K,vs,s⟩:=fun h hx=>by unfold bH;rw[Xa (by omega),Xb h,Xb hx]
 have q7f:t.k=7->¬t.x.eval ns vs≠0->bH ns t ⟨K,vs,s⟩=⟨dw K,vs,s⟩:=fun h hx=>by unfold bH;rw[Xa (by omega),Xb h,Xa hx]
 obtain ⟨k,ap,nm,ce,i,x,y,b,e⟩:=t
 simp only[Stm.k,Stm.nm,Stm.i,Stm.x,Stm.y,Stm.b,Stm.e] at o1 o2 o3 o4 o5 o6 w1 w2 w3 w4 w5 q7t q7f
 simp only[Stm.k] at hk
 rw[Stm.lw] at hp v1 hP
 subst hk
 simp only[if_true,reduceCtorEq,if_false,show (7:Int)≠0 by omega,show (7:Int)≠1 by omega,show (7:Int)≠2 by omega,show (7:Int)≠3 by omega,show (7:Int)≠4 by omega,show (7:Int)≠5 by omega,show (7:Int)≠6 by omega] at hp v1 hP
 generalize hA:aU (aj 9 0 X.lb) (cw 2 X)=A at *
 have lv:A.v=X.v:=by rw[←hA];rfl
 obtain ⟨a1,a2,a3⟩:=fv (ns:=ns) x w2 (o3 (by omega)) (X:=A) (by omega)
 have av:=a1.v
 generalize hZ:aU (aj 11 (x.lw ns A).1 (X.lb+1)) (x.lw ns A).2=Z at *
 have zv:Z.v=(x.lw ns A).2.v:=by rw[←hZ];rfl
 have gB:=Sx (cs:=cs) (ns:=ns) (l:=b) (X:=Z) w4 (o5 (by omega)) (by omega)
 have bv:=gB.v
 generalize hJ:aU (aj 10 0 X.lb) (dZ cs ns b Z)=J at *
 have jv:J.v=(dZ cs ns b Z).v:=by rw[←hJ];rfl
 have v1':J.v<=V:=v1
 have pJ:J.st<+:st:=de hp
 have l2:st[J.st.length]? =some (aj 9 0 (X.lb+1)):=dT hp
 rw[←hJ] at pJ
 have lj:st[(dZ cs ns b Z).st.length]? =some (aj 10 0 X.lb):=dT pJ
 have pB:=de pJ
 have pZ:=gB.pre pB
 rw[←hZ] at pZ
 have lz:st[(x.lw ns A).2.st.length]? =some (aj 11 (x.lw ns A).1 (X.lb+1)):=dT pZ
 have px:=de pZ
 have pA:=a1.pre px
 rw[←hA] at pA
 have l1:st[X.st.length]? =some (aj 9 0 X.lb):=dT (X:=cw 2 X) pA
 have alen:A.st.length=X.st.length+1:=by rw[←hA];exact dh _ _
 obtain ⟨n,w,r1,g1,e1⟩:=jL (st:=st) x (X:=A) (v:=v) (vs:=vs) w2 (o3 (by omega)) (by omega) px (by omega) hL
 have hLw:=hL.agr g1 (by omega)
 have hlw:=g1.1
 have hc2:(aU (aj 9 0 (X.lb+1)) J).st.length=J.st.length+1:=dh _ _
 rw[hc2] at hP
 have j2:iQ st (X.lb+1)=J.st.length:=pH hla l2 rfl
 have j1:iQ st X.lb=X.st.length:=pH hla l1 rfl
 have cB:Ctn st cs ns V (dZ cs ns b Z).st.length K:= .hop lj (by simp[bp,aj]) (fun v=>by simp[bE,aj,j1]) hK
 have zlen:Z.st.length=(x.lw ns A).2.st.length+1:=by rw[←hZ];exact dh _ _
 have r0:Rch st 1 (X.st.length,v) (A.st.length,v):=by
  refine .step l1 (by simp[bp,aj]) (n:=0) ?_
  have:bE st (aj 9 0 X.lb) (X.st.length+1) v=(A.st.length,v):=by simp[bE,aj,alen]
  rw[this];exact .nil _
 by_cases hx:x.eval ns vs≠0
 ·rw[q7t rfl hx]
  refine ⟨_,Z.st.length,w,(r0.trans r1).trans (.step lz (by simp[bp,aj]) (n:=0) ?_),by omega,hLw, ?_⟩
  ·have:bE st (aj 11 (x.lw ns A).1 (X.lb+1)) ((x.lw ns A).2.st.length+1) w=(Z.st.length,w):=by simp[bE,aj,e1,hx,zlen]
   rw[this];exact .nil _
  ·exact Ctn.row (l:=b) (i:=0) (X:=Z) ⟨pB,by omega,(by show (dZ cs ns b Z).v<=(V:Int);omega),w4,o5 (by omega)⟩ cB
 ·rw[q7f rfl hx]
  have hx0:x.eval ns vs=0:=by simpa using hx
  refine ⟨_,J.st.length+1,w,(r0.trans r1).trans (.step lz (by simp[bp,aj]) (n:=1) ?_),by omega,hLw,hP⟩
  have:bE st (aj 11 (x.lw ns A).1 (X.lb+1)) ((x.lw ns A).2.st.length+1) w=(J.st.length,w):=by simp[bE,aj,e1,hx0,j2]
  rw[this]
  refine .step l2 (by simp[bp,aj]) (n:=0) ?_
  have:bE st (aj 9 0 (X.lb+1)) (J.st.length+1) w=(J.st.length+1,w):=by simp[bE,aj]
  rw[this];exact .nil _
theorem GJ  {v:List Int} (hla:∀(j k:Nat) (h:k<st.length) (hj:j<k),st[j].k=9->st[k].k=9->st[j].t≠st[k].t) (hE:EmS st cs ns V t X) (hk:¬iO t) (hK:Ctn st cs ns V X.st.length K) (hP:Ctn st cs ns V (t.lw cs ns X).st.length (dw K)) (hL:qh ns vs v) (hV:v.length=V):
 ∃n a w,Rch st n (X.st.length,v) (a,w)/\w.length=V/\qh ns (bH ns t ⟨K,vs,s⟩).v w/\Ctn st cs ns V a (bH ns t ⟨K,vs,s⟩).K:=by
 by_cases k6:t.k=6
 ·exact Qo hla hE k6 hK hP hL hV
 by_cases k7:t.k=7
 ·exact Gq hla hE k7 hK hP hL hV
 obtain ⟨o1,o2,o3,o4,o5,o6⟩:=je hE.ow
 obtain ⟨w1,w2,w3,w4,w5⟩:=lL hE.wf
 have hp:=hE.p
 have v0:=hE.v0
 have v1:=hE.v1
 have hL0:(0:Int)<=ns.length:=by omega
 have q0:t.k=0->bH ns t ⟨K,vs,s⟩=⟨dw K,lJ ns vs t.nm (t.x.eval ns vs),s⟩:=fun h=>by unfold bH;rw[Xa (by omega),Xa (by omega),Xb h]
 have qe:¬t.k=6->¬t.k=7->¬t.k=0->bH ns t ⟨K,vs,s⟩=⟨dw K,vs,s⟩:=fun h1 h2 h3=>by unfold bH;rw[Xa h1,Xa h2,Xa h3]
 obtain ⟨k,ap,nm,ce,i,x,y,b,e⟩:=t
 simp only[Stm.k,Stm.nm,Stm.i,Stm.x,Stm.y,Stm.b,Stm.e] at o1 o2 o3 o4 o5 o6 w1 w2 w3 w4 w5 q0 qe
 unfold iO at hk
 simp only[Stm.k] at hk k6 k7
 rw[Stm.lw] at hp v1 hP
 by_cases k0:k=0
 ·subst k0
  rw[Xb rfl] at hp v1 hP
  rw[q0 rfl]
  obtain ⟨a1,a2,a3⟩:=fv (ns:=ns) x w2 (o3 (by omega)) (X:=X) v0
  have px:=de hp
  have lm:=dT hp
  have v1':(x.lw ns X).2.v<=V:=v1
  obtain ⟨n,w,r1,g1,e1⟩:=jL (st:=st) x (X:=X) (v:=v) (vs:=vs) w2 (o3 (by omega)) v0 px (by omega) hL
  have hLw:=hL.agr g1 v0
  have hlw:=g1.1
  have av:=a1.v
  rw[dh] at hP
  refine ⟨_,(x.lw ns X).2.st.length+1,jc w (eo ns nm) (x.eval ns vs),r1.trans (.step lm (by simp[bp]) (n:=0) ?_),by rw[gQ];omega,pD _ hLw (o1 (by omega)) (by omega),hP⟩
  rw[←e1]
  exact .nil _
 rw[qe k6 k7 k0]
 rw[Xa k0] at hp v1 hP
 rw[Xa (show ¬k=1 by omega),Xa (show ¬k=2 by omega),Xa (show ¬k=3 by omega)] at hp v1 hP
 by_cases k4:k=4
 ·rw[Xb k4] at hp v1 hP
  have lm:=dT hp
  rw[dh] at hP
  refine ⟨1,X.st.length+1,v,.step lm (by simp[bp,aj]) (n:=0) ?_,hV,hL,hP⟩
  have:bE st (aj 13 0 0) (X.st.length+1) v=(X.st.length+1,v):=by simp[bE,aj]
  rw[this];exact .nil _
 rw[Xa k4,Xa (show ¬k=5 by omega),Xa k6,Xa k7] at hp v1 hP
 exact ⟨0,X.st.length,v,.nil _,hV,hL,hP⟩
end
section
variable {st:List Sp} {ns:List (List Nat)} {cs:List (List Nat×Int)} {V:Nat}
theorem tf:∀{K0:rS} {l:List Stm} {i:Nat} {K:rS},bT K0=(l,i)::K->i<l.length:=by
 intro K0
 induction K0 with
 |nil=>intro l i K h;simp[bT] at h
 |cons y K0 ih=>
  intro l i K h
  rw[bT] at h
  split at h
  ·injection h with h1 h2;subst h1;assumption
  ·exact ih h
def I1 (st:List Sp) (cs:List (List Nat×Int)) (ns:List (List Nat)) (V:Nat) (t:Stm) (X:Ms) (K:rS) (vs v:List Int) (s:Int) (z:Mc):Prop:=
 ∃n a w s',Rch st n (X.st.length,v) (a,w)/\st[a]? =some s'/\bp s'/\(fW s' w z).1.length=V/\qh ns (ek cs ns t ⟨K,vs,s⟩ z).1.v (fW s' w z).1/\(fW s' w z).2=(ek cs ns t ⟨K,vs,s⟩ z).2/\Ctn st cs ns V (a+1) (dw K)
theorem DZ (t:Stm) (X:Ms):(t.k=1->t.lw cs ns X=aU ⟨3,eo ns t.nm,(aH cs ns t X).1,0,0,0,jz cs t,0,0⟩ (aH cs ns t X).2)/\
 (t.k=2->t.lw cs ns X=aU ⟨4,0,(aH cs ns t X).1,(t.x.lw ns (aH cs ns t X).2).1,0,0,jz cs t,0,0⟩ (t.x.lw ns (aH cs ns t X).2).2)/\
 (t.k=3->t.lw cs ns X=aU ⟨5,eo ns t.nm,(aH cs ns t X).1,(t.x.lw ns (aH cs ns t X).2).1,(t.y.lw ns (t.x.lw ns (aH cs ns t X).2).2).1,0,jz cs t,0,0⟩ (t.y.lw ns (t.x.lw ns (aH cs ns t X).2).2).2)/\
 (t.k=5->t.lw cs ns X=aU (aj 8 (t.x.lw ns X).1 0) (t.x.lw ns X).2):=by
 obtain ⟨k,ap,nm,ce,i,x,y,b,e⟩:=t
 simp only[Stm.k,Stm.nm,Stm.x,Stm.y]
 rw[Stm.lw]
 refine ⟨fun h=> ?_,fun h=> ?_,fun h=> ?_,fun h=> ?_⟩
 ·rw[Xa (by omega),Xb h]
 ·rw[Xa (by omega),Xa (by omega),Xb h]
 ·rw[Xa (by omega),Xa (by omega),Xa (by omega),Xb h]
 ·rw[Xa (by omega),Xa (by omega),Xa (by omega),Xa (by omega),Xa (by omega),Xb h]
theorem IF  {v:List Int} (hE:EmS st cs ns V t X) (hk:t.k=1) (hP:Ctn st cs ns V (t.lw cs ns X).st.length (dw K)) (hL:qh ns vs v) (hV:v.length=V) (hcs:CsOk cs) (hce:t.ce∈cs.map (·.1)) (hi:cI (t.i.eval ns vs)) (hz:McOk cs z):I1 st cs ns V t X K vs v s z:=by
 obtain ⟨o1,o2,-,-,-,-⟩:=je hE.ow
 obtain ⟨w1,-,-,-,-⟩:=lL hE.wf
 have hp:=hE.p
 have v1:=hE.v1
 have v0:=hE.v0
 rw[(DZ t X).1 hk] at hp v1 hP
 have v1':(aH cs ns t X).2.v<=V:=v1
 obtain ⟨a1,-,-⟩:=iR (cs:=cs) (ns:=ns) (s:=t) (X:=X) w1 (o2 (by omega)) v0
 have av:=a1.v
 obtain ⟨n,w,r1,g1,e1⟩:=nO (st:=st) (v:=v) w1 (o2 (by omega)) v0 (de hp) (by omega) hL hcs hce hi
 obtain ⟨b1,b2⟩:=pF hcs hce (t.i.eval ns vs)
 have hzn:=hz.n
 have hcl:=hcs.len
 have hwb:=cV cs
 have hpl:=tG (W:=eJ cs (t.i.eval ns vs) t) (n:=z.cl.length) ⟨b1,by omega⟩ (by omega)
 have hlw:=g1.1
 rw[dh] at hP
 refine ⟨n,_,w,_,r1,dT hp,by simp[bp], ?_, ?_, ?_,hP⟩
 ·simp[fW,gQ];omega
 ·unfold ek
  rw[Xb hk]
  simp only[fW,reduceCtorEq,if_false,show (3:Int)≠8 by omega,if_true]
  rw[e1,hpl]
  have:mK z.cl (eJ cs (t.i.eval ns vs) t)=(z.cl[(eJ cs (t.i.eval ns vs) t).toNat]?).getD 0:=by unfold mK;rw[Xa (by omega)]
  rw[this]
  exact pD _ (hL.agr g1 v0) (o1 (by omega)) (by omega)
 ·unfold ek
  rw[Xb hk]
  simp[fW]
theorem FH  {v:List Int} (hE:EmS st cs ns V t X) (hk:t.k=2) (hP:Ctn st cs ns V (t.lw cs ns X).st.length (dw K)) (hL:qh ns vs v) (hV:v.length=V) (hcs:CsOk cs) (hce:t.ce∈cs.map (·.1)) (hi:cI (t.i.eval ns vs)) (hz:McOk cs z):I1 st cs ns V t X K vs v s z:=by
 obtain ⟨o1,o2,o3,-,-,-⟩:=je hE.ow
 obtain ⟨w1,w2,-,-,-⟩:=lL hE.wf
 have hp:=hE.p
 have v1:=hE.v1
 have v0:=hE.v0
 rw[(DZ t X).2.1 hk] at hp v1 hP
 obtain ⟨a1,a2,a3⟩:=iR (cs:=cs) (ns:=ns) (s:=t) (X:=X) w1 (o2 (by omega)) v0
 have av:=a1.v
 obtain ⟨c1,c2,c3⟩:=fv (ns:=ns) t.x w2 (o3 (by omega)) (X:=(aH cs ns t X).2) (by omega)
 have cv:=c1.v
 have v1':(t.x.lw ns (aH cs ns t X).2).2.v<=V:=v1
 have p1:=de hp
 obtain ⟨n,w,r1,g1,e1⟩:=nO (st:=st) (v:=v) w1 (o2 (by omega)) v0 (c1.pre p1) (by omega) hL hcs hce hi
 obtain ⟨n2,w',r2,g2,e2⟩:=jL (st:=st) t.x (X:=(aH cs ns t X).2) (v:=w) (vs:=vs) w2 (o3 (by omega)) (by omega) p1 (by rw[g1.1];omega) (hL.agr g1 v0)
 obtain ⟨b1,b2⟩:=pF hcs hce (t.i.eval ns vs)
 have hzn:=hz.n
 have hcl:=hcs.len
 have hwb:=cV cs
 have hpl:=tG (W:=eJ cs (t.i.eval ns vs) t) (n:=z.cl.length) ⟨b1,by omega⟩ (by omega)
 have hlw:=g1.1
 have hlw2:=g2.1
 have e3:=(g2.2 _ a3).trans e1
 rw[dh] at hP
 have hn1:¬t.k=1:=by omega
 refine ⟨_,_,w',_,r1.trans r2,dT hp,by simp[bp], ?_, ?_, ?_,hP⟩
 ·simp[fW];omega
 ·unfold ek
  rw[Xa hn1,Xb hk]
  simp only[fW,reduceCtorEq,if_false,show (4:Int)≠8 by omega,show (4:Int)≠3 by omega,if_true]
  exact (hL.agr g1 v0).agr g2 (by omega)
 ·unfold ek
  rw[Xa hn1,Xb hk]
  simp only[fW,reduceCtorEq,if_false,show (4:Int)≠8 by omega,show (4:Int)≠3 by omega,if_true]
  rw[e3,hpl,e2]
  unfold OF
  rw[Xa (by omega)]
theorem LG  {v:List Int} (hE:EmS st cs ns V t X) (hk:t.k=3) (hP:Ctn st cs ns V (t.lw cs ns X).st.length (dw K)) (hL:qh ns vs v) (hV:v.length=V) (hcs:CsOk cs) (hce:t.ce∈cs.map (·.1)) (hi:cI (t.i.eval ns vs)) (hz:McOk cs z):I1 st cs ns V t X K vs v s z:=by
 obtain ⟨o1,o2,o3,o4,-,-⟩:=je hE.ow
 obtain ⟨w1,w2,w3,-,-⟩:=lL hE.wf
 have hp:=hE.p
 have v1:=hE.v1
 have v0:=hE.v0
 rw[(DZ t X).2.2.1 hk] at hp v1 hP
 obtain ⟨a1,a2,a3⟩:=iR (cs:=cs) (ns:=ns) (s:=t) (X:=X) w1 (o2 (by omega)) v0
 have av:=a1.v
 obtain ⟨c1,c2,c3⟩:=fv (ns:=ns) t.x w2 (o3 (by omega)) (X:=(aH cs ns t X).2) (by omega)
 have cv:=c1.v
 obtain ⟨d1,d2,d3⟩:=fv (ns:=ns) t.y w3 (o4 hk) (X:=(t.x.lw ns (aH cs ns t X).2).2) (by omega)
 have dv:=d1.v
 have v1':(t.y.lw ns (t.x.lw ns (aH cs ns t X).2).2).2.v<=V:=v1
 have p2:=de hp
 have p1:=d1.pre p2
 obtain ⟨n,w,r1,g1,e1⟩:=nO (st:=st) (v:=v) w1 (o2 (by omega)) v0 (c1.pre p1) (by omega) hL hcs hce hi
 obtain ⟨n2,w',r2,g2,e2⟩:=jL (st:=st) t.x (X:=(aH cs ns t X).2) (v:=w) (vs:=vs) w2 (o3 (by omega)) (by omega) p1 (by rw[g1.1];omega) (hL.agr g1 v0)
 obtain ⟨n3,w'',r3,g3,e3⟩:=jL (st:=st) t.y (X:=(t.x.lw ns (aH cs ns t X).2).2) (v:=w') (vs:=vs) w3 (o4 hk) (by omega) p2 (by rw[g2.1,g1.1];omega) ((hL.agr g1 v0).agr g2 (by omega))
 obtain ⟨b1,b2⟩:=pF hcs hce (t.i.eval ns vs)
 have hzn:=hz.n
 have hcl:=hcs.len
 have hwb:=cV cs
 have hpl:=tG (W:=eJ cs (t.i.eval ns vs) t) (n:=z.cl.length) ⟨b1,by omega⟩ (by omega)
 have hlw:=g1.1
 have hlw2:=g2.1
 have hlw3:=g3.1
 have f1:=(g3.2 _ (show (aH cs ns t X).1<_ by omega)).trans ((g2.2 _ a3).trans e1)
 have f2:=(g3.2 _ c3).trans e2
 have hl:=((hL.agr g1 v0).agr g2 (by omega)).agr g3 (by omega)
 rw[dh] at hP
 have hn1:¬t.k=1:=by omega
 have hn2:¬t.k=2:=by omega
 have hnow:mK z.cl (eJ cs (t.i.eval ns vs) t)=(z.cl[(eJ cs (t.i.eval ns vs) t).toNat]?).getD 0:=by unfold mK;rw[Xa (by omega)]
 refine ⟨_,_,w'',_,(r1.trans r2).trans r3,dT hp,by simp[bp], ?_, ?_, ?_,hP⟩
 ·simp only[fW,reduceCtorEq,if_false,show (5:Int)≠8 by omega,show (5:Int)≠3 by omega,show (5:Int)≠4 by omega]
  split<;>(rw[gQ];omega)
 ·unfold ek
  rw[Xa hn1,Xa hn2,Xb hk]
  simp only[fW,reduceCtorEq,if_false,show (5:Int)≠8 by omega,show (5:Int)≠3 by omega,show (5:Int)≠4 by omega]
  rw[f1,hpl,f2,hnow]
  by_cases q:(z.cl[(eJ cs (t.i.eval ns vs) t).toNat]?).getD 0=t.x.eval ns vs
  ·rw[Xb q,Xb ⟨b1,q⟩]
   exact pD _ hl (o1 (by omega)) (by omega)
  ·rw[Xa q,Xa fun w=>q w.2]
   exact pD _ hl (o1 (by omega)) (by omega)
 ·unfold ek
  rw[Xa hn1,Xa hn2,Xb hk]
  simp only[fW,reduceCtorEq,if_false,show (5:Int)≠8 by omega,show (5:Int)≠3 by omega,show (5:Int)≠4 by omega]
  rw[f1,hpl,f2,hnow,e3]
  by_cases q:(z.cl[(eJ cs (t.i.eval ns vs) t).toNat]?).getD 0=t.x.eval ns vs
  ·rw[Xb q,Xb ⟨b1,q⟩]
   unfold OF
   rw[Xa (by omega)]
  ·rw[Xa q,Xa fun w=>q w.2]
theorem Lu  {v:List Int} (hE:EmS st cs ns V t X) (hk:t.k=5) (hP:Ctn st cs ns V (t.lw cs ns X).st.length (dw K)) (hL:qh ns vs v) (hV:v.length=V):I1 st cs ns V t X K vs v s z:=by
 obtain ⟨-,-,o3,-,-,-⟩:=je hE.ow
 obtain ⟨-,w2,-,-,-⟩:=lL hE.wf
 have hp:=hE.p
 have v1:=hE.v1
 have v0:=hE.v0
 rw[(DZ t X).2.2.2 hk] at hp v1 hP
 have v1':(t.x.lw ns X).2.v<=V:=v1
 obtain ⟨n,w,r1,g1,e1⟩:=jL (st:=st) t.x (X:=X) (v:=v) (vs:=vs) w2 (o3 (by omega)) v0 (de hp) (by omega) hL
 have hlw:=g1.1
 rw[dh] at hP
 refine ⟨n,_,w,_,r1,dT hp,by simp[bp,aj], ?_, ?_, ?_,hP⟩
 ·simp[fW,aj];omega
 ·unfold ek
  rw[Xa (by omega),Xa (by omega),Xa (by omega),Xb hk]
  simp only[fW,aj,if_true]
  exact hL.agr g1 v0
 ·unfold ek
  rw[Xa (by omega),Xa (by omega),Xa (by omega),Xb hk]
  simp only[fW,aj,if_true,e1]
theorem Lg  {v:List Int} (hE:EmS st cs ns V t X) (hk:iO t) (hP:Ctn st cs ns V (t.lw cs ns X).st.length (dw K)) (hL:qh ns vs v) (hV:v.length=V) (hcs:CsOk cs) (hG:Gs cs t) (hiv:∀z∈vs,cI z) (hz:McOk cs z):I1 st cs ns V t X K vs v s z:=by
 obtain ⟨g1,g2,-,-⟩:=mq hG
 have hi:=iT (ns:=ns) hiv t.i g2
 rcases hk with h|h|h|h
 ·exact IF hE h hP hL hV hcs (g1 (by omega)) hi hz
 ·exact FH hE h hP hL hV hcs (g1 (by omega)) hi hz
 ·exact LG hE h hP hL hV hcs (g1 (by omega)) hi hz
 ·exact Lu hE h hP hL hV
structure Sim (st:List Sp) (cs:List (List Nat×Int)) (ns:List (List Nat)) (V:Nat) (x:Bd) (t:Lan):Prop where
 sk:t.sk=false
 lv:t.v.length=V
 r:(x.s=0/\t.en=false/\qh ns x.v t.v/\Ctn st cs ns V t.a x.K)∨(x.s=1/\t.en=true/\st.length<=t.a)
theorem RJ (hla:∀(j k:Nat) (h:k<st.length) (hj:j<k),st[j].k=9->st[k].k=9->st[j].t≠st[k].t) (hcs:CsOk cs):∀(k:Nat) (x:Bd) (z:Mc) (a:Nat) (v:List Int),x.s=0->BdOk cs ns x->McOk cs z->qh ns x.v v->v.length=V->Ctn st cs ns V a x.K->(lC cs ns k x z).2.1.s≠2->∀f,
 (lp st f ⟨a,v,false,false⟩ z).2.2.ill=true∨((lp st f ⟨a,v,false,false⟩ z).1=(lC cs ns k x z).1/\(lp st f ⟨a,v,false,false⟩ z).2.2=(lC cs ns k x z).2.2/\Sim st cs ns V (lC cs ns k x z).2.1 (lp st f ⟨a,v,false,false⟩ z).2.1):=by
 intro k
 induction k with
 |zero=>
  intro x z a v h0 hB hz hL hV hK h2 f
  obtain ⟨n,b,hh,hc⟩:=wo hK
  cases hT:bT x.K with
  |nil=>
   rw[hT] at hc
   obtain ⟨n',b',hh',hb'⟩:=E6 hc rfl
   rw[jo hT]
   obtain ⟨q1,q2⟩:=((hh.trans hh') v).go (f - (n+n')) z false
   by_cases hf:f<n+n'
   ·exact Or.inl ((((hh.trans hh') v).go f z false).1 hf)
   ·rw[show n+n'+(f - (n+n'))=f by omega] at q2
    right
    dsimp only at q2
    rw[q2]
    cases f - (n+n')<;>(rw[lp,Xb hb'];exact ⟨rfl,rfl,rfl,hV,Or.inr ⟨rfl,rfl,hb'⟩⟩)
  |cons y K=>rw[ml hT] at h2;exact W9 rfl h2
 |succ k ih=>
  intro x z a v h0 hB hz hL hV hK h2 f
  obtain ⟨n,b,hh,hc⟩:=wo hK
  cases hT:bT x.K with
  |nil=>
   rw[hT] at hc
   obtain ⟨n',b',hh',hb'⟩:=E6 hc rfl
   rw[jo hT]
   obtain ⟨q1,q2⟩:=((hh.trans hh') v).go (f - (n+n')) z false
   by_cases hf:f<n+n'
   ·exact Or.inl ((((hh.trans hh') v).go f z false).1 hf)
   ·rw[show n+n'+(f - (n+n'))=f by omega] at q2
    right
    dsimp only at q2
    rw[q2]
    cases f - (n+n')<;>(rw[lp,Xb hb'];exact ⟨rfl,rfl,rfl,hV,Or.inr ⟨rfl,rfl,hb'⟩⟩)
  |cons y K=>
   rw[hT] at hc
   obtain ⟨l,i⟩:=y
   have hi:i<l.length:=tf hT
   obtain ⟨n',X,hh',hE,hK0,hP⟩:=MV hc hi
   have hBt:=hB.trim
   rw[hT] at hBt
   have hG:=hBt.gs (l,i) (by simp) l[i] (List.getElem_mem hi)
   have hsA:Hg (l,i)=l[i]:=zz (y:=(l,i)) hi
   rw[mC hT] at h2 ⊢
   rw[hsA] at h2 ⊢
   have hH:=(hh.trans hh') v
   by_cases hA:iO l[i]
   ·rw[Xb hA] at h2 ⊢
    obtain ⟨n2,a2,w,s',r2,e1,e2,e3,e4,e5,e6⟩:=Lg (s:=x.s) hE hA (K:=(l,i)::K) hP hL hV hcs hG hB.iv hz
    have r3:=hH.trans r2
    by_cases hf:f<n+n'+n2
    ·exact Or.inl ((r3.go f z false).1 hf)
    ·obtain ⟨-,q2⟩:=r3.go (f - (n+n'+n2)) z false
     rw[show n+n'+n2+(f - (n+n'+n2))=f by omega] at q2
     dsimp only at q2
     rw[q2]
     have hl:=(List.getElem?_eq_some_iff.1 e1).1
     have hs:KJ st a2=s':=by unfold KJ;rw[e1];rfl
     cases hfm:f - (n+n'+n2) with
     |zero=>left;rw[lp,Xa (by dsimp only;omega)]
     |succ g=>
      right
      rw[lp,Xa (by dsimp only;omega)]
      dsimp only
      rw[hs,Xb e2]
      refine ⟨rfl,e5,rfl,e3,Or.inl ⟨?_,rfl,e4, ?_⟩⟩
      ·unfold jx;dsimp only;rw[(n5 l[i]).2];exact h0
      ·unfold jx;dsimp only;rw[(n5 l[i]).1];exact e6
   ·rw[Xa hA] at h2 ⊢
    obtain ⟨n2,a2,w,r2,e1,e2,e3⟩:=GJ (s:=x.s) hla hE hA hK0 hP hL hV
    have r3:=hH.trans r2
    by_cases hf:f<n+n'+n2
    ·exact Or.inl ((r3.go f z false).1 hf)
    ·obtain ⟨-,q2⟩:=r3.go (f - (n+n'+n2)) z false
     rw[show n+n'+n2+(f - (n+n'+n2))=f by omega] at q2
     dsimp only at q2
     rw[q2]
     have hq:=hBt.quiet (y:=(l,i)) (K:=K) rfl hi
     refine ih _ z a2 w ?_ hq hz e2 e1 e3 h2 _
     have:∀(t:Stm) (q:Bd),(bH ns t q).s=q.s:=fun t q=>by
      unfold bH
      split
      ·rfl
      split
      ·split<;>rfl
      split<;>rfl
     rw[this];exact h0
end
theorem HU (n:Nat) (i:Int):bw (List.replicate n 0) i=0:=by
 unfold bw
 split
 ·rw[List.getElem?_replicate];split<;>rfl
 ·rfl
theorem CW  (hw:jC l):Sim (bJ cs l).st cs (locals l) (bJ cs l).v.toNat (kU l) ⟨0,List.replicate (bJ cs l).v.toNat 0,false,false⟩:=by
 have hown:∀t∈aQ l,∀n∈t.own,n∈locals l:=fun t ht n hn=>by
  unfold locals
  exact (ei _ _).2 (Or.inr (List.mem_flatMap.2 ⟨t,ht,hn⟩))
 have hF:=(i6 (cs:=cs) hw).lv
 refine ⟨rfl,by simp,Or.inl ⟨rfl,rfl,⟨by simp[kU],fun i hi=> ?_⟩, ?_⟩⟩
 ·rw[HU]
  simp only[kU]
  rw[List.getElem?_replicate];split<;>rfl
 ·have hg:=Sx (cs:=cs) (ns:=locals l) (X:=⟨[],(locals l).length,0⟩) hw hown (Int.le_refl _)
  have e:(bJ cs l).v=(dZ cs (locals l) l ⟨[],(locals l).length,0⟩).v:=rfl
  refine Ctn.row (X:=⟨[],(locals l).length,0⟩) (l:=l) (i:=0) ⟨⟨[aj 12 0 0],rfl⟩,Int.le_refl _, ?_,hw,hown⟩ (.nil (s:=aj 12 0 0) ?_ rfl)
  ·show (dZ cs (locals l) l _).v<=_
   rw[←e];omega
  ·show ((dZ cs (locals l) l _).st++ [aj 12 0 0])[(dZ cs (locals l) l _).st.length]? =_
   simp
structure Rn where
 ph:Bool
 rc:Bd
 th:List Bd
 z:Mc
def bL (p:Prg) (j:Nat):List Stm:=((p.ts[j]?).map (·.2)).getD []
noncomputable def vP (p:Prg) (c:Int) (x:Rn):Bool×Rn:=
 if 0<=c/\c<x.th.length then ((cF p.cs (locals (bL p c.toNat)) ((x.th[c.toNat]?).getD (kU [])) x.z).1,⟨true,x.rc,x.th.set c.toNat (cF p.cs (locals (bL p c.toNat)) ((x.th[c.toNat]?).getD (kU [])) x.z).2.1,(cF p.cs (locals (bL p c.toNat)) ((x.th[c.toNat]?).getD (kU [])) x.z).2.2⟩)
 else (false,⟨true,x.rc,x.th,x.z⟩)
noncomputable def ld (p:Prg) (c:Int) (x:Rn):Bool×Rn:=
 if x.ph=true then vP p c x
 else if (cF p.cs (locals p.r) x.rc x.z).1=true then (true,⟨false,(cF p.cs (locals p.r) x.rc x.z).2.1,x.th,(cF p.cs (locals p.r) x.rc x.z).2.2⟩)
 else if (cF p.cs (locals p.r) x.rc x.z).2.1.s=2 then (false,⟨false,(cF p.cs (locals p.r) x.rc x.z).2.1,x.th,(cF p.cs (locals p.r) x.rc x.z).2.2⟩)
 else vP p c ⟨true,(cF p.cs (locals p.r) x.rc x.z).2.1,x.th,(cF p.cs (locals p.r) x.rc x.z).2.2⟩
def ry (p:Prg) (z:Mc):Rn:=⟨false,kU p.r,p.ts.map fun t=>kU t.2,z⟩
structure Bl where
 b:D4
 (pl nm vv:NV)
def Bl.fp (q:Bl):List D4:=ec q.b q.pl q.nm q.vv
structure RunG (f:NV->NV->Bool->List NV) (mk:NV->NV->NV->Int->List NV) (p:Prg) (B m:NH) (r:D4) (x:Rn) (o:Nat) (vcl vo vth:NV) (q:Bl) (bs:List Bl):Prop where
 mc:Mac f B m r vcl vo x.z
 rb:Bod mk B m q.b q.pl q.nm q.vv (locals p.r) x.rc
 rk:BdOk p.cs (locals p.r) x.rc
 tv:aY B m vth 1 (bs.map fun t=> [.ptr t.b 0])
 ln:bs.length=p.ts.length/\x.th.length=p.ts.length
 tb:∀(j:Nat) (t:Bl) (y:Bd),bs[j]? =some t->x.th[j]? =some y->Bod mk B m t.b t.pl t.nm t.vv (locals (bL p j)) y/\BdOk p.cs (locals (bL p j)) y
 d0:∀i∈cR r vcl vo,i∉ids vth/\i∉q.fp/\∀t∈bs,i∉t.fp
 d1:∀i∈ids vth,i∉q.fp/\∀t∈bs,i∉t.fp
 d2:∀i∈q.fp,∀t∈bs,i∉t.fp
 d3:∀(j k:Nat) (t u:Bl),bs[j]? =some t->bs[k]? =some u->j≠k->∀i∈t.fp,i∉u.fp
 zk:McOk p.cs x.z
 ol:x.z.out.length<=o
structure RunC (p:Prg) (B:NH) (vc vt vr:NV):Prop where
 rp:RP B (fun _=>True) p vc vt vr
 cs:CsOk p.cs
 zt:∀t∈p.ts,bQ t.2<=400000
 zr:bQ p.r<=400000
 gt:∀t∈p.ts,∀s∈t.2,Gs p.cs s
 gr:∀s∈p.r,Gs p.cs s
 nt:p.ts.length<=1000
section
variable {f:NV->NV->Bool->List NV} {mk:NV->NV->NV->Int->List NV} {p:Prg} {B m m':NH} {vc vt vr vcl vo vth:NV} {r:D4} {x:Rn} {o:Nat} {q:Bl} {bs:List Bl}
def RunG.foot (r:D4) (vcl vo vth:NV) (q:Bl) (bs:List Bl):List D4:=cR r vcl vo++(ids vth++(q.fp++(bs.map Bl.fp).flatten))
theorem RunG.thr (h:RunG f mk p B m r x o vcl vo vth q bs) {t:Bl} (ht:t∈bs):∃(j:Nat) (y:Bd),bs[j]? =some t/\x.th[j]? =some y:=by
 obtain ⟨j,hj,rfl⟩:=List.mem_iff_getElem.1 ht
 exact ⟨j,x.th[j]'(by rw[h.ln.2,←h.ln.1];exact hj),List.getElem?_eq_getElem hj,List.getElem?_eq_getElem _⟩
theorem RunG.told (h:RunG f mk p B m r x o vcl vo vth q bs) {t:Bl} (ht:t∈bs):∀i∈t.fp,am m i/\¬am B i:=by
 obtain ⟨j,y,h1,h2⟩:=h.thr ht
 exact (h.tb j t y h1 h2).1.old
theorem RunG.recov (h:RunG f mk p B m r x o vcl vo vth q bs) {y:Bd} (hG:da f mk B m m' p.cs (locals p.r) r q.b (cR r vcl vo++q.fp) vcl vo' pl' q.nm q.vv y z o'):
 RunG f mk p B m' r ⟨x.ph,y,x.th,z⟩ o' vcl vo' vth ⟨q.b,pl',q.nm,q.vv⟩ bs:=by
 have hF:∀i∈cR r vcl vo++q.fp,¬am B i:=fun i hi=>(List.mem_append.1 hi).elim (fun u=>(h.mc.old i u).2) fun u=>(h.rb.old i u).2
 have n1:∀i∈ids vth,i∉cR r vcl vo++q.fp:=fun i hi u=>(List.mem_append.1 u).elim (fun u=>(h.d0 i u).1 hi) (h.d1 i hi).1
 have n2:∀t∈bs,∀i∈t.fp,i∉cR r vcl vo++q.fp:=fun t ht i hi u=>(List.mem_append.1 u).elim (fun u=>(h.d0 i u).2.2 t ht hi) fun u=>h.d2 i u t ht hi
 have k1:∀i∈ids vth,i∉cR r vcl vo'++ec q.b pl' q.nm q.vv:=fun i hi=>hG.ev.nin (h.tv.sl.old i hi) (n1 i hi)
 have k2:∀t∈bs,∀i∈t.fp,i∉cR r vcl vo'++ec q.b pl' q.nm q.vv:=fun t ht i hi=>hG.ev.nin (h.told ht i hi).1 (n2 t ht i hi)
 refine ⟨hG.mc,hG.bd,hG.bk,h.tv.chg hG.ev.c n1,h.ln,fun j t y h1 h2=> ?_,fun i hi=>⟨fun u=>k1 i u (List.mem_append_left _ hi),hG.dj i hi,fun t ht u=>k2 t ht i u (List.mem_append_left _ hi)⟩,fun i hi=>⟨fun u=>k1 i hi (List.mem_append_right _ u),(h.d1 i hi).2⟩,fun i hi t ht u=>k2 t ht i u (List.mem_append_right _ hi),h.d3,hG.zk,hG.ol⟩
 obtain ⟨u1,u2⟩:=h.tb j t y h1 h2
 exact ⟨u1.ev hG.ev (n2 t (List.mem_of_getElem? h1)) hF,u2⟩
theorem RunG.thread (h:RunG f mk p B m r x o vcl vo vth q bs) {t:Bl} (hk:bs[k]? =some t) {y:Bd} (hG:da f mk B m m' p.cs (locals (bL p k)) r t.b (cR r vcl vo++t.fp) vcl vo' pl' t.nm t.vv y z o'):
 RunG f mk p B m' r ⟨x.ph,x.rc,x.th.set k y,z⟩ o' vcl vo' vth q (bs.set k ⟨t.b,pl',t.nm,t.vv⟩):=by
 have ht:=List.mem_of_getElem? hk
 have hkl:=(List.getElem?_eq_some_iff.1 hk).1
 have hF:∀i∈cR r vcl vo++t.fp,¬am B i:=fun i hi=>(List.mem_append.1 hi).elim (fun u=>(h.mc.old i u).2) fun u=>(h.told ht i u).2
 have n1:∀i∈ids vth,i∉cR r vcl vo++t.fp:=fun i hi u=>(List.mem_append.1 u).elim (fun u=>(h.d0 i u).1 hi) ((h.d1 i hi).2 t ht)
 have n2:∀i∈q.fp,i∉cR r vcl vo++t.fp:=fun i hi u=>(List.mem_append.1 u).elim (fun u=>(h.d0 i u).2.1 hi) fun u=>h.d2 i hi t ht u
 have n3:∀(j:Nat) (u:Bl),bs[j]? =some u->j≠k->∀i∈u.fp,i∉cR r vcl vo++t.fp:=fun j u hj hne i hi w=>(List.mem_append.1 w).elim (fun w=>(h.d0 i w).2.2 u (List.mem_of_getElem? hj) hi) fun w=>h.d3 j k u t hj hk hne i hi w
 have k1:∀i∈ids vth,i∉cR r vcl vo'++ec t.b pl' t.nm t.vv:=fun i hi=>hG.ev.nin (h.tv.sl.old i hi) (n1 i hi)
 have k2:∀i∈q.fp,i∉cR r vcl vo'++ec t.b pl' t.nm t.vv:=fun i hi=>hG.ev.nin (h.rb.old i hi).1 (n2 i hi)
 have k3:∀(j:Nat) (u:Bl),bs[j]? =some u->j≠k->∀i∈u.fp,i∉cR r vcl vo'++ec t.b pl' t.nm t.vv:=fun j u hj hne i hi=>hG.ev.nin (h.told (List.mem_of_getElem? hj) i hi).1 (n3 j u hj hne i hi)
 have hset:∀(j:Nat) (u:Bl),(bs.set k ⟨t.b,pl',t.nm,t.vv⟩)[j]? =some u->(j=k/\u=⟨t.b,pl',t.nm,t.vv⟩)∨(j≠k/\bs[j]? =some u):=fun j u hj=>by
  by_cases e:j=k
  ·subst e;rw[List.getElem?_set_self hkl] at hj;cases hj;exact Or.inl ⟨rfl,rfl⟩
  ·rw[List.getElem?_set_ne (fun a=>e a.symm)] at hj;exact Or.inr ⟨e,hj⟩
 have hmem:∀u∈bs.set k ⟨t.b,pl',t.nm,t.vv⟩,u=⟨t.b,pl',t.nm,t.vv⟩∨∃j,j≠k/\bs[j]? =some u:=fun u hu=>by
  obtain ⟨j,hj⟩:=List.mem_iff_getElem?.1 hu
  rcases hset j u hj with ⟨-,e⟩|⟨e1,e2⟩
  ·exact Or.inl e
  ·exact Or.inr ⟨j,e1,e2⟩
 refine ⟨hG.mc,h.rb.ev hG.ev n2 hF,h.rk, ?_,by simp[h.ln],fun j u w h1 h2=> ?_,fun i hi=>⟨fun u=>k1 i u (List.mem_append_left _ hi),fun u=>k2 i u (List.mem_append_left _ hi),fun u hu w=> ?_⟩,fun i hi=>⟨(h.d1 i hi).1,fun u hu w=> ?_⟩,fun i hi u hu w=> ?_,fun j l u w h1 h2 hne i hi hw=> ?_,hG.zk,hG.ol⟩
 ·have:=h.tv.chg hG.ev.c n1
  have e:(bs.set k ⟨t.b,pl',t.nm,t.vv⟩).map (fun t=> [NV.ptr t.b 0])=bs.map fun t=> [NV.ptr t.b 0]:=by
   rw[List.map_set]
   apply List.ext_getElem?
   intro j
   by_cases e:j=k
   ·subst e;rw[List.getElem?_set_self (by simpa using hkl),List.getElem?_map,hk];rfl
   ·rw[List.getElem?_set_ne (fun a=>e a.symm)]
  rw[e];exact this
 ·rcases hset j u h1 with ⟨e,rfl⟩|⟨e,h1⟩
  ·subst e
   rw[List.getElem?_set_self (by rw[h.ln.2,←h.ln.1];exact hkl)] at h2
   cases h2
   exact ⟨hG.bd,hG.bk⟩
  ·rw[List.getElem?_set_ne (fun a=>e a.symm)] at h2
   obtain ⟨u1,u2⟩:=h.tb j u w h1 h2
   exact ⟨u1.ev hG.ev (n3 j u h1 e) hF,u2⟩
 ·rcases hmem u hu with rfl|⟨j,e1,e2⟩
  ·exact hG.dj i hi w
  ·exact k3 j u e2 e1 i w (List.mem_append_left _ hi)
 ·rcases hmem u hu with rfl|⟨j,e1,e2⟩
  ·exact k1 i hi (List.mem_append_right _ w)
  ·exact (h.d1 i hi).2 u (List.mem_of_getElem? e2) w
 ·rcases hmem u hu with rfl|⟨j,e1,e2⟩
  ·exact k2 i hi (List.mem_append_right _ w)
  ·exact h.d2 i hi u (List.mem_of_getElem? e2) w
 ·rcases hset j u h1 with ⟨e,rfl⟩|⟨e,h1⟩
  ·rcases hset l w h2 with ⟨e',-⟩|⟨e',h2⟩
   ·omega
   ·exact k3 l w h2 e' i hw (List.mem_append_right _ hi)
  ·rcases hset l w h2 with ⟨e',rfl⟩|⟨e',h2⟩
   ·exact k3 j u h1 e i hi (List.mem_append_right _ hw)
   ·exact h.d3 j l u w h1 h2 hne i hi hw
theorem RunG.grow (h:RunG f mk p B m r x o vcl vo vth q bs) (hC:Chg [] m m'):RunG f mk p B m' r x o vcl vo vth q bs:=
 ⟨h.mc.grow hC,h.rb.grow hC,h.rk,h.tv.chg hC fun _ _=>by simp,h.ln,fun j t y h1 h2=>⟨(h.tb j t y h1 h2).1.grow hC,(h.tb j t y h1 h2).2⟩,h.d0,h.d1,h.d2,h.d3,h.zk,h.ol⟩
theorem EvF.sup  {G G':List D4} (h:EvF F F' m m') (h1:∀i∈F,i∈G) (h2:∀j∈G',j∈G∨j∈F'):EvF G G' m m':=
 ⟨h.c.weak fun i hi _=>h1 i hi,fun j hj=>(h2 j hj).elim Or.inl fun q=>(h.f j q).imp (h1 j) id⟩
theorem RunG.evR  {nm' vv':NV} {b':D4} (h:EvF (cR r vcl vo++q.fp) (cR r vcl vo'++ec b' pl' nm' vv') m m'):EvF (RunG.foot r vcl vo vth q bs) (RunG.foot r vcl vo' vth ⟨b',pl',nm',vv'⟩ bs) m m':=by
 refine h.sup (fun i hi=> ?_) fun j hj=> ?_
 ·simp only[RunG.foot,List.mem_append] at hi ⊢
  rcases hi with hi|hi
  ·exact Or.inl hi
  ·exact Or.inr (Or.inr (Or.inl hi))
 ·simp only[RunG.foot,List.mem_append] at hj ⊢
  rcases hj with hj|hj|hj|hj
  ·exact Or.inr (Or.inl hj)
  ·exact Or.inl (Or.inr (Or.inl hj))
  ·exact Or.inr (Or.inr hj)
  ·exact Or.inl (Or.inr (Or.inr (Or.inr hj)))
theorem RunG.evT  {nm' vv':NV} {b':D4} {t:Bl} (hk:bs[k]? =some t) (h:EvF (cR r vcl vo++t.fp) (cR r vcl vo'++ec b' pl' nm' vv') m m'):EvF (RunG.foot r vcl vo vth q bs) (RunG.foot r vcl vo' vth q (bs.set k ⟨b',pl',nm',vv'⟩)) m m':=by
 refine h.sup (fun i hi=> ?_) fun j hj=> ?_
 ·simp only[RunG.foot,List.mem_append] at hi ⊢
  rcases hi with hi|hi
  ·exact Or.inl hi
  ·exact Or.inr (Or.inr (Or.inr (List.mem_flatten.2 ⟨_,List.mem_map_of_mem (List.mem_of_getElem? hk),hi⟩)))
 ·simp only[RunG.foot,List.mem_append] at hj ⊢
  rcases hj with hj|hj|hj|hj
  ·exact Or.inr (Or.inl hj)
  ·exact Or.inl (Or.inr (Or.inl hj))
  ·exact Or.inl (Or.inr (Or.inr (Or.inl hj)))
  ·obtain ⟨l,hl,hj⟩:=List.mem_flatten.1 hj
   obtain ⟨u,hu,rfl⟩:=List.mem_map.1 hl
   rcases List.mem_or_eq_of_mem_set hu with hu|rfl
   ·exact Or.inl (Or.inr (Or.inr (Or.inr (List.mem_flatten.2 ⟨_,List.mem_map_of_mem hu,hj⟩))))
   ·exact Or.inr (Or.inr hj)
theorem RunG.evM (h:EvF (cR r vcl vo) (cR r vcl vo) m m'):EvF (RunG.foot r vcl vo vth q bs) (RunG.foot r vcl vo vth q bs) m m':=
 h.sup (fun i hi=>by simp only[RunG.foot,List.mem_append];exact Or.inl hi) fun j hj=>Or.inl hj
theorem RunG.all (h:RunG f mk p B m r x o vcl vo vth q bs):∀i∈RunG.foot r vcl vo vth q bs,am m i/\¬am B i:=by
 intro i hi
 simp only[RunG.foot,List.mem_append] at hi
 rcases hi with hi|hi|hi|hi
 ·exact h.mc.old i hi
 ·exact ⟨h.tv.sl.old i hi,h.tv.new i hi⟩
 ·exact h.rb.old i hi
 ·obtain ⟨l,hl,hj⟩:=List.mem_flatten.1 hi
  obtain ⟨u,hu,rfl⟩:=List.mem_map.1 hl
  exact h.told hu i hj
theorem RunG.evS {t:Bl} {vth':NV} (hC:Chg [] m m') {m'':NH} (hC2:Chg (r::ids vth) m' m'') (hvn:∀i∈ids vth',i∈ids vth∨¬am m' i) (hnew:∀i∈t.fp,¬am m i):EvF (RunG.foot r vcl vo vth q bs) (RunG.foot r vcl vo vth' q (bs++ [t])) m m'':=by
 refine ⟨(hC.weak (T:=RunG.foot r vcl vo vth q bs) (by simp)).trans hC2 fun i hi _=> ?_,fun j hj=> ?_⟩
 ·simp only[RunG.foot,List.mem_append]
  rcases List.mem_cons.1 hi with rfl|hi
  ·exact Or.inl (by simp[cR])
  ·exact Or.inr (Or.inl hi)
 ·simp only[RunG.foot,List.mem_append,List.map_append,List.flatten_append,List.map_cons,List.map_nil,List.flatten_cons,List.flatten_nil,List.append_nil] at hj ⊢
  rcases hj with hj|hj|hj|hj|hj
  ·exact Or.inl (Or.inl hj)
  ·exact (hvn j hj).imp (fun q=>Or.inr (Or.inl q)) fun q w=>q (hC.old w)
  ·exact Or.inl (Or.inr (Or.inr (Or.inl hj)))
  ·exact Or.inl (Or.inr (Or.inr (Or.inr hj)))
  ·exact Or.inr (hnew j hj)
theorem RunG.ev0 {m'':NH} (hC:Chg [] m m') (e:EvF (cR r vcl vo) (cR r vcl vo) m' m'') (hnew:∀i∈q.fp,¬am m i):EvF (cR r vcl vo) (RunG.foot r vcl vo .nils q []) m m'':=by
 refine ⟨(e.pre hC).c,fun j hj=> ?_⟩
 simp only[RunG.foot,List.mem_append,ids,List.map_nil,List.flatten_nil,Xe,or_false,false_or] at hj
 exact hj.imp id (hnew j)
theorem RunG.off  (h:RunG f mk p B m r x o vcl vo vth q bs) (hC:Chg S m m') (hS:∀i∈RunG.foot r vcl vo vth q bs,i∉S) (hB:∀i∈S,¬am B i):RunG f mk p B m' r x o vcl vo vth q bs:=by
 have k1:∀i∈cR r vcl vo,i∉S:=fun i hi=>hS i (by simp only[RunG.foot,List.mem_append];exact Or.inl hi)
 have k2:∀i∈ids vth,i∉S:=fun i hi=>hS i (by simp only[RunG.foot,List.mem_append];exact Or.inr (Or.inl hi))
 have k3:∀i∈q.fp,i∉S:=fun i hi=>hS i (by simp only[RunG.foot,List.mem_append];exact Or.inr (Or.inr (Or.inl hi)))
 have k4:∀t∈bs,∀i∈t.fp,i∉S:=fun t ht i hi=>hS i (by simp only[RunG.foot,List.mem_append];exact Or.inr (Or.inr (Or.inr (List.mem_flatten.2 ⟨_,List.mem_map_of_mem ht,hi⟩))))
 exact ⟨h.mc.off hC k1 hB,h.rb.off hC k3 hB,h.rk,h.tv.chg hC k2,h.ln,fun j t y h1 h2=>⟨(h.tb j t y h1 h2).1.off hC (k4 t (List.mem_of_getElem? h1)) hB,(h.tb j t y h1 h2).2⟩,h.d0,h.d1,h.d2,h.d3,h.zk,h.ol⟩
end
theorem TJ :∀(k:Nat) (x:Bd) (z:Mc),(lC cs ns k x z).1=false->(lC cs ns k x z).2.1.s≠0:=by
 intro k
 induction k with
 |zero=>
  intro x z h
  rw[lC] at h ⊢
  split<;>simp
 |succ k ih=>
  intro x z h
  rw[lC] at h ⊢
  split
  ·simp
  ·rename_i y K hT
   simp only[hT] at h
   split
   ·rename_i hA;rw[Xb hA] at h;cases h
   ·rename_i hA;rw[Xa hA] at h;exact ih _ _ h
theorem Je  {x:Bd} (h:(cF cs ns x z).1=false):(cF cs ns x z).2.1.s≠0:=by
 unfold cF at h ⊢
 split
 ·rename_i hs;rw[Xb hs] at h;exact TJ _ _ _ h
 ·assumption
section
variable {f f':NV->NV->Bool->List NV} {mk:NV->NV->NV->Int->List NV} {p:Prg} {B m m':NH} {vc vt vr vcl vo vth:NV} {r:D4} {x:Rn} {o:Nat} {q:Bl} {bs:List Bl}
theorem Mac.refit  (h:Mac f B m r vcl vo z) (hg:m'.get r=some (.cells true (f' vcl vo z.ill))) (hC:Chg [r] m m'):Mac f' B m' r vcl vo z/\EvF (cR r vcl vo) (cR r vcl vo) m m':=by
 have hn:∀{v:NV},r∉ids v->∀i∈ids v,i∉ [r]:=fun hb i hi q=>by have q:=one q;subst q;exact hb hi
 exact ⟨⟨hg,hC.old h.o,h.nB,h.cl.chg hC (hn h.d.1),h.ou.chg hC (hn h.d.2.1),h.d,h.c.trans hC fun i hi ho=>by have hi:=one hi;subst hi;exact W9 ho h.nB⟩,hC.weak fun i hi _=>by have hi:=one hi;subst hi;simp[cR],fun j hj=>Or.inl hj⟩
theorem RunG.start (h:RunG f mk p B m r x o vcl vo vth q bs) (ph:Bool) (hg:m'.get r=some (.cells true (f' vcl vo x.z.ill))) (hC:Chg [r] m m'):RunG f' mk p B m' r ⟨ph,x.rc,x.th,x.z⟩ o vcl vo vth q bs/\EvF (RunG.foot r vcl vo vth q bs) (RunG.foot r vcl vo vth q bs) m m':=by
 obtain ⟨h1,h2⟩:=h.mc.refit (f':=f') hg hC
 have hF:∀i∈cR r vcl vo,¬am B i:=fun i hi=>(h.mc.old i hi).2
 exact ⟨⟨h1,h.rb.ev h2 (fun i hi u=>(h.d0 i u).2.1 hi) hF,h.rk,h.tv.chg h2.c fun i hi u=>(h.d0 i u).1 hi,h.ln,fun j t y a b=>⟨(h.tb j t y a b).1.ev h2 (fun i hi u=>(h.d0 i u).2.2 t (List.mem_of_getElem? a) hi) hF,(h.tb j t y a b).2⟩,h.d0,h.d1,h.d2,h.d3,h.zk,h.ol⟩,RunG.evM h2⟩
theorem RunG.goR (h:RunG f mk p B m r x o vcl vo vth q bs):da f mk B m m p.cs (locals p.r) r q.b (cR r vcl vo++q.fp) vcl vo q.pl q.nm q.vv x.rc x.z o:=
 ⟨h.mc,h.rb,fun i hi=>(h.d0 i hi).2.1,h.rk,h.zk,h.ol,EvF.refl m⟩
theorem RunG.goT (h:RunG f mk p B m r x o vcl vo vth q bs) {t:Bl} {y:Bd} (h1:bs[k]? =some t) (h2:x.th[k]? =some y):da f mk B m m p.cs (locals (bL p k)) r t.b (cR r vcl vo++t.fp) vcl vo t.pl t.nm t.vv y x.z o:=
 ⟨h.mc,(h.tb k t y h1 h2).1,fun i hi=>(h.d0 i hi).2.2 t (List.mem_of_getElem? h1),(h.tb k t y h1 h2).2,h.zk,h.ol,EvF.refl m⟩
end
section
variable {f f':NV->NV->Bool->List NV} {mk:NV->NV->NV->Int->List NV} {p:Prg} {B m m' m'':NH} {vc vt vr vcl vo vth rec:NV} {r:D4} {x:Rn} {z:Mc} {o:Nat} {q:Bl} {bs:List Bl} {st:Bool}
theorem uP  (hz:bQ l<=400000) (hg:∀s∈l,Gs cs s):BdOk cs (locals l) (kU l):=by
 have:=s9 l
 refine ⟨by show bQ l<=1000000;omega,fun y hy=> ?_,fun y hy=> ?_,fun y hy=> ?_,by omega,by simp[kU]⟩
 ·simp only[kU,List.mem_singleton] at hy;subst hy;exact hg
 ·simp only[kU,List.mem_singleton] at hy;subst hy;exact Nat.zero_le _
 ·simp only[kU,List.mem_replicate] at hy;rw[hy.2];exact ⟨by simp,by simp⟩
theorem RunG.snoc  {ts:List (List Nat×List Stm)} {rr:List Stm} {n:List Nat} {t:Bl} {vth':NV} (h:RunG f mk ⟨cs,ts,rr⟩ B m r x o vcl vo vth q bs) (hC:Chg [] m m') (ht:Bod mk B m' t.b t.pl t.nm t.vv (locals l) (kU l)) (hk:BdOk cs (locals l) (kU l)) (hnew:∀i∈t.fp,¬am m i)
 (hC2:Chg (r::ids vth) m' m'') (hg:m''.get r=some (.cells true (f' vcl vo x.z.ill))) (hv:aY B m'' vth' 1 ((bs++ [t]).map fun t=> [.ptr t.b 0])) (hvn:∀i∈ids vth',i∈ids vth∨¬am m' i):
 RunG f' mk ⟨cs,ts++ [(n,l)],rr⟩ B m'' r ⟨x.ph,x.rc,x.th++ [kU l],x.z⟩ o vcl vo vth' q (bs++ [t]):=by
 have h':=h.grow hC
 have hF:∀i∈r::ids vth,¬am B i:=fun i hi=>(List.mem_cons.1 hi).elim (fun e=>e▸h.mc.nB) fun u=>h.tv.new i u
 have nt:∀i,am m i->i∉t.fp:=fun i ho hi=>hnew i hi ho
 have hvo:∀i∈ids vth,am m i:=h.tv.sl.old
 have hr:=h.mc.o
 have nr:∀i∈ids vcl,i∉r::ids vth:=fun i hi u=>(List.mem_cons.1 u).elim (fun e=>h.mc.d.1 (e▸hi)) fun u=>(h.d0 i (by simp[cR,hi])).1 u
 have nr2:∀i∈ids vo,i∉r::ids vth:=fun i hi u=>(List.mem_cons.1 u).elim (fun e=>h.mc.d.2.1 (e▸hi)) fun u=>(h.d0 i (by simp[cR,hi])).1 u
 have nq:∀i∈q.fp,i∉r::ids vth:=fun i hi u=>(List.mem_cons.1 u).elim (fun e=>(h.d0 r (by simp[cR])).2.1 (e▸hi)) fun u=>(h.d1 i u).1 hi
 have nb:∀u∈bs,∀i∈u.fp,i∉r::ids vth:=fun u hu i hi w=>(List.mem_cons.1 w).elim (fun e=>(h.d0 r (by simp[cR])).2.2 u hu (e▸hi)) fun w=>(h.d1 i w).2 u hu hi
 have ntf:∀i∈t.fp,i∉r::ids vth:=fun i hi u=>(List.mem_cons.1 u).elim (fun e=>hnew i hi (e▸hr)) fun u=>hnew i hi (hvo i u)
 have hto:∀i∈t.fp,am m' i:=fun i hi=>(ht.old i hi).1
 have hMo:∀i∈cR r vcl vo,am m i:=fun i hi=>(h.mc.old i hi).1
 have hqo:∀i∈q.fp,am m i:=fun i hi=>(h.rb.old i hi).1
 have hbo:∀u∈bs,∀i∈u.fp,am m i:=fun u hu i hi=>(h.told hu i hi).1
 have hbt:∀(j:Nat),j<ts.length->bL ⟨cs,ts++ [(n,l)],rr⟩ j=bL ⟨cs,ts,rr⟩ j:=fun j hj=>by unfold bL;simp only;rw[List.getElem?_append_left hj]
 have hln:=h.ln
 simp only at hln
 refine ⟨⟨hg,hC2.old h'.mc.o,h.mc.nB,h'.mc.cl.chg hC2 nr,h'.mc.ou.chg hC2 nr2,h.mc.d,h'.mc.c.trans hC2 fun i hi ho=>W9 ho (hF i hi)⟩,h'.rb.off hC2 nq hF,h.rk,hv,by simp[hln],fun j u y h1 h2=> ?_,fun i hi=>⟨fun u=>(hvn i u).elim (h.d0 i hi).1 fun w=>w (hC.old (hMo i hi)),(h.d0 i hi).2.1,fun u hu=> ?_⟩,fun i hi=>⟨fun u=>(hvn i hi).elim (fun w=>(h.d1 i w).1 u) fun w=>w (hC.old (hqo i u)),fun u hu w=> ?_⟩,fun i hi u hu=> ?_,fun j k u w h1 h2 hne i hi hw=> ?_,h.zk,h.ol⟩
 ·by_cases hj:j<bs.length
  ·rw[List.getElem?_append_left hj] at h1
   simp only at h2
   rw[List.getElem?_append_left (by omega)] at h2
   rw[hbt j (by omega)]
   obtain ⟨a,b⟩:=h'.tb j u y h1 h2
   exact ⟨a.off hC2 (nb u (List.mem_of_getElem? h1)) hF,b⟩
  ·rw[List.getElem?_append_right (by omega)] at h1
   simp only at h2
   rw[List.getElem?_append_right (by omega)] at h2
   have hl:=(List.getElem?_eq_some_iff.1 h1).1
   simp only[List.length_singleton] at hl
   have e:j=bs.length:=by omega
   subst e
   rw[show bs.length - x.th.length=0 by omega] at h2
   rw[Nat.sub_self] at h1
   cases h1;cases h2
   have eb:bL ⟨cs,ts++ [(n,l)],rr⟩ bs.length=l:=by unfold bL;simp[hln.1]
   rw[eb]
   exact ⟨ht.off hC2 ntf hF,hk⟩
 ·rcases List.mem_append.1 hu with hu|hu
  ·exact (h.d0 i hi).2.2 u hu
  ·rw[List.mem_singleton] at hu;subst hu;exact nt i (hMo i hi)
 ·rcases List.mem_append.1 hu with hu|hu
  ·exact (hvn i hi).elim (fun a=>(h.d1 i a).2 u hu w) fun a=>a (hC.old (hbo u hu i w))
  ·rw[List.mem_singleton] at hu;subst hu
   exact (hvn i hi).elim (fun a=>hnew i w (hvo i a)) fun a=>a (hto i w)
 ·rcases List.mem_append.1 hu with hu|hu
  ·exact h.d2 i hi u hu
  ·rw[List.mem_singleton] at hu;subst hu;exact nt i (hqo i hi)
 ·have key:∀(j:Nat) (u:Bl),(bs++ [t])[j]? =some u->bs[j]? =some u∨(j=bs.length/\u=t):=fun j u hj=>by
   by_cases hl:j<bs.length
   ·rw[List.getElem?_append_left hl] at hj;exact Or.inl hj
   ·rw[List.getElem?_append_right (by omega)] at hj
    have hl2:=(List.getElem?_eq_some_iff.1 hj).1
    simp only[List.length_singleton] at hl2
    have e:j=bs.length:=by omega
    subst e
    rw[Nat.sub_self] at hj
    cases hj
    exact Or.inr ⟨rfl,rfl⟩
  rcases key j u h1 with a|⟨a,rfl⟩
  ·rcases key k w h2 with b|⟨b,rfl⟩
   ·exact h.d3 j k u w a b hne i hi hw
   ·exact nt i (hbo u (List.mem_of_getElem? a) i hi) hw
  ·rcases key k w h2 with b|⟨b,rfl⟩
   ·exact nt i (hbo w (List.mem_of_getElem? b) i hw) hi
   ·omega
end
theorem SS.weakT  {T':D4->Prop} (hT':∀i,T i->T' i) {v:NV} (h:SS m T v l C):SS m T' v l C:=⟨h.sl,fun i hi=>hT' i (h.hT i hi),h.len,fun i x c a b=>(h.R i x c a b).weak hT'⟩
structure PrgOk (p:Prg):Prop where
 cs:CsOk p.cs
 zt:∀t∈p.ts,bQ t.2<=400000
 zr:bQ p.r<=400000
 gt:∀t∈p.ts,∀s∈t.2,Gs p.cs s
 gr:∀s∈p.r,Gs p.cs s
 nt:p.ts.length<=1000
theorem PrgOk.run  {vt vr:NV} (h:PrgOk p) (hr:RP B (fun _=>True) p vc vt vr):RunC p B vc vt vr:=⟨hr,h.cs,h.zt,h.zr,h.gt,h.gr,h.nt⟩
def Hf (p:Prg):Mc:=⟨List.replicate (bo p.cs).toNat 0, [],false⟩
def qw (x:Rn):Bool:=x.ph&&x.th.all fun y=>decide (y.s=1)
section
variable {p:Prg} {B m m':NH} {vc vt vr vcl vo vth:NV} {r:D4} {x:Rn} {o:Nat} {q:Bl} {bs:List Bl}
end
def lr (p:Prg) (l:List Stm):Lan:=⟨0,List.replicate (bJ p.cs l).v.toNat 0,false,false⟩
structure Rl where
 ph:Bool
 ls:List Lan
 z:Mc
noncomputable def gL (p:Prg) (l:List Stm) (t:Lan) (z:Mc):Bool×Lan×Mc:=lp (bJ p.cs l).st 20000 t z
noncomputable def yt (p:Prg) (c:Int) (x:Rl):Bool×Rl:=
 if 0<=c/\c<x.ls.length then ((gL p (bL p c.toNat) ((x.ls[c.toNat]?).getD (lr p [])) x.z).1,⟨true,x.ls.set c.toNat (gL p (bL p c.toNat) ((x.ls[c.toNat]?).getD (lr p [])) x.z).2.1,(gL p (bL p c.toNat) ((x.ls[c.toNat]?).getD (lr p [])) x.z).2.2⟩)
 else (false,⟨true,x.ls,x.z⟩)
noncomputable def sg (p:Prg) (x:Rl):Bool×Lan×Mc:=gL p p.r ((x.ls[0]?).getD (lr p [])) x.z
noncomputable def kW (p:Prg) (c:Int) (x:Rl):Bool×Rl:=
 if x.ph=true then yt p c x
 else if (sg p x).1=true then (true,⟨false, [(sg p x).2.1],(sg p x).2.2⟩)
 else if (sg p x).2.1.sk=true then (false,⟨false, [(sg p x).2.1],(sg p x).2.2⟩)
 else yt p c ⟨true,p.ts.map fun t=>lr p t.2,(sg p x).2.2⟩
def tn (p:Prg) (z:Mc):Rl:=⟨false, [lr p p.r],z⟩
def vU (x:Rl):Bool:=x.ph&&x.ls.all fun t=>t.en
section
variable {cs:List (List Nat×Int)} {ns:List (List Nat)} {p:Prg} {l:List Stm}
theorem NJ (t:Stm) (q:Bd):(bH ns t q).s=q.s:=by
 unfold bH
 split
 ·rfl
 split
 ·split<;>rfl
 split<;>rfl
theorem OP:∀(k:Nat) (x:Bd) (z:Mc),BdOk cs ns x->McOk cs z->BdOk cs ns (lC cs ns k x z).2.1/\McOk cs (lC cs ns k x z).2.2:=by
 intro k
 induction k with
 |zero=>
  intro x z hB hz
  have hBt:=hB.trim
  cases hT:bT x.K with
  |nil=>rw[jo hT];rw[hT] at hBt;exact ⟨⟨hBt.ch,hBt.gs,hBt.pos,hBt.iv,hBt.ln,hBt.lv⟩,hz⟩
  |cons y K=>rw[ml hT];rw[hT] at hBt;exact ⟨⟨hBt.ch,hBt.gs,hBt.pos,hBt.iv,hBt.ln,hBt.lv⟩,⟨hz.iv,hz.io,hz.n⟩⟩
 |succ k ih=>
  intro x z hB hz
  have hBt:=hB.trim
  cases hT:bT x.K with
  |nil=>rw[jo hT];rw[hT] at hBt;exact ⟨⟨hBt.ch,hBt.gs,hBt.pos,hBt.iv,hBt.ln,hBt.lv⟩,hz⟩
  |cons y K=>
   rw[hT] at hBt
   have hi:y.2<y.1.length:=tf (l:=y.1) (i:=y.2) hT
   have hG:=hBt.gs y (by simp) y.1[y.2] (List.getElem_mem hi)
   have hsA:Hg y=y.1[y.2]:=zz hi
   rw[mC hT,hsA]
   split
   ·have hp:=hBt.pass (y:=y) (K:=K) rfl hi
    obtain ⟨a1,a2,-⟩:=CG hBt hz hG
    refine ⟨?_,a2⟩
    unfold jx
    dsimp only
    rw[(n5 _).1]
    exact ⟨hp.ch,hp.gs,hp.pos,a1.iv,a1.ln,a1.lv⟩
   ·exact ih _ _ (hBt.quiet (y:=y) (K:=K) rfl hi) hz
theorem Dz {x:Bd} (hB:BdOk cs ns x) (hz:McOk cs z):BdOk cs ns (cF cs ns x z).2.1/\McOk cs (cF cs ns x z).2.2:=by
 unfold cF
 split
 ·exact OP _ _ _ hB hz
 ·exact ⟨hB,hz⟩
theorem Ep:∀(k:Nat) (x:Bd) (z:Mc),x.s=0->((lC cs ns k x z).2.1.s=2->(lC cs ns k x z).1=false/\(lC cs ns k x z).2.2.ill=true)/\(z.ill=false->(lC cs ns k x z).2.2.ill=true->(lC cs ns k x z).1=false/\(lC cs ns k x z).2.1.s=2):=by
 intro k
 induction k with
 |zero=>
  intro x z h0
  cases hT:bT x.K with
  |nil=>rw[jo hT];simp
  |cons y K=>rw[ml hT];simp
 |succ k ih=>
  intro x z h0
  cases hT:bT x.K with
  |nil=>rw[jo hT];simp
  |cons y K=>
   rw[mC hT]
   split
   ·have e:(jx cs ns (Hg y) ⟨y::K,x.v,x.s⟩ z).1.s=x.s:=by unfold jx;dsimp only;exact (n5 _).2
    have e2:(jx cs ns (Hg y) ⟨y::K,x.v,x.s⟩ z).2.ill=z.ill:=by
     unfold jx ek
     dsimp only
     split
     ·rfl
     split
     ·rfl
     split
     ·split<;>rfl
     split<;>rfl
    dsimp only
    rw[e,e2,h0]
    exact ⟨fun q=>by omega,fun q w=>by rw[q] at w;cases w⟩
   ·exact ih _ _ (by rw[NJ];exact h0)
theorem L4 (st:List Sp):∀(k:Nat) (t:Lan) (z:Mc),z.ill=false->(lp st k t z).2.2.ill=true->(lp st k t z).1=false/\(lp st k t z).2.1.sk=true:=by
 intro k
 induction k with
 |zero=>
  intro t z hz h
  rw[lp] at h ⊢
  split at h
  ·rw[hz] at h;cases h
  ·rename_i q;rw[Xa q];exact ⟨rfl,rfl⟩
 |succ k ih=>
  intro t z hz h
  rw[lp] at h ⊢
  split at h
  ·rw[hz] at h;cases h
  ·rename_i q
   rw[Xa q]
   split at h
   ·exfalso
    have:∀s v,(fW s v z).2.ill=z.ill:=fun s v=>by
     unfold fW
     split
     ·rfl
     split
     ·rfl
     split
     ·rfl
     split<;>rfl
    rw[this,hz] at h;cases h
   ·rename_i q2
    rw[Xa q2]
    exact ih _ _ hz h
abbrev Na (p:Prg) (l:List Stm) (x:Bd) (t:Lan):Prop:=Sim (bJ p.cs l).st p.cs (locals l) (bJ p.cs l).v.toNat x t
theorem EV (hw:jC l) (hcs:CsOk p.cs) {x:Bd} {t:Lan} (hS:Na p l x t) (hB:BdOk p.cs (locals l) x) (hz:McOk p.cs z) (hi:z.ill=false):
 (cF p.cs (locals l) x z).2.2.ill=true∨(gL p l t z).2.2.ill=true∨((gL p l t z).1=(cF p.cs (locals l) x z).1/\(gL p l t z).2.2=(cF p.cs (locals l) x z).2.2/\Na p l (cF p.cs (locals l) x z).2.1 (gL p l t z).2.1):=by
 obtain ⟨a,v,sk,en⟩:=t
 obtain ⟨h1,h2,h3⟩:=hS
 dsimp only at h1 h2 h3
 subst h1
 unfold cF gL
 rcases h3 with ⟨q1,q2,q3,q4⟩|⟨q1,q2,q3⟩
 ·subst q2
  rw[Xb q1]
  by_cases h2':(lC p.cs (locals l) 1000 x z).2.1.s=2
  ·exact Or.inl ((Ep 1000 x z q1).1 h2').2
  ·rcases RJ (i6 (cs:=p.cs) hw).la hcs 1000 x z a v q1 hB hz q3 h2 q4 h2' 20000 with r|r
   ·exact Or.inr (Or.inl r)
   ·exact Or.inr (Or.inr r)
 ·subst q2
  rw[Xa (by omega)]
  right;right
  have e:lp (bJ p.cs l).st 20000 ⟨a,v,false,true⟩ z=(false,⟨a,v,false,true⟩,z):=by rw[lp,Xb q3]
  rw[e]
  exact ⟨rfl,rfl,rfl,h2,Or.inr ⟨q1,rfl,q3⟩⟩
structure SimR (p:Prg) (x:Rn) (y:Rl):Prop where
 ph:y.ph=x.ph
 z:y.z=x.z
 zk:McOk p.cs x.z
 r:x.ph=false->x.th=p.ts.map (fun t=>kU t.2)/\BdOk p.cs (locals p.r) x.rc/\∃t,y.ls= [t]/\Na p p.r x.rc t
 t:x.ph=true->x.th.length=p.ts.length/\y.ls.length=p.ts.length/\∀(j:Nat) (b:Bd) (t:Lan),x.th[j]? =some b->y.ls[j]? =some t->BdOk p.cs (locals (bL p j)) b/\Na p (bL p j) b t
theorem LL {j:Nat} (hj:j<p.ts.length):∃t∈p.ts,bL p j=t.2:=⟨p.ts[j],List.getElem_mem hj,by unfold bL;rw[List.getElem?_eq_getElem hj];rfl⟩
theorem Ff (hp:PrgOk p) (hw:∀t∈p.ts,jC t.2) {x:Rn} {y:Rl} (h:SimR p x y) (hph:x.ph=true) (hi:x.z.ill=false) (c:Int):
 (vP p c x).2.z.ill=true∨(yt p c y).2.z.ill=true∨((yt p c y).1=(vP p c x).1/\SimR p (vP p c x).2 (yt p c y).2):=by
 obtain ⟨h1,h2,h3⟩:=h.t hph
 have hyz:=h.z
 unfold vP yt
 rw[h1,h2]
 split
 ·rename_i hc
  obtain ⟨n,rfl⟩:=Xh hc.1
  have hn:n<p.ts.length:=by omega
  simp only[Int.toNat_natCast]
  rw[List.getElem?_eq_getElem (by omega),List.getElem?_eq_getElem (show n<y.ls.length by omega)]
  simp only[Option.getD_some]
  obtain ⟨b1,b2⟩:=h3 n x.th[n] y.ls[n] (List.getElem?_eq_getElem _) (List.getElem?_eq_getElem _)
  obtain ⟨t,ht,e⟩:=LL hn
  have hwb:jC (bL p n):=by rw[e];exact hw t ht
  obtain ⟨k1,k2⟩:=Dz b1 h.zk
  rw[hyz]
  rcases EV hwb hp.cs b2 b1 h.zk hi with r|r|⟨r1,r2,r3⟩
  ·exact Or.inl r
  ·exact Or.inr (Or.inl r)
  ·right;right
   refine ⟨r1,rfl,r2,k2,fun q=>(by cases q),fun _=>⟨by simp[h1],by simp[h2],fun j b t g1 g2=> ?_⟩⟩
   by_cases hj:j=n
   ·subst hj
    dsimp only at g1 g2
    rw[List.getElem?_set_self (by omega)] at g1 g2
    cases g1;cases g2
    exact ⟨k1,r3⟩
   ·dsimp only at g1 g2
    rw[List.getElem?_set_ne (fun w=>hj w.symm)] at g1 g2
    exact h3 j b t g1 g2
 ·right;right
  exact ⟨rfl,rfl,hyz,h.zk,fun q=>(by cases q),fun _=>⟨h1,h2,h3⟩⟩
theorem Jt (hp:PrgOk p) (hw:∀t∈p.ts,jC t.2) (hwr:jC p.r) {x:Rn} {y:Rl} (h:SimR p x y) (hi:x.z.ill=false) (c:Int):
 (ld p c x).2.z.ill=true∨(kW p c y).2.z.ill=true∨((kW p c y).1=(ld p c x).1/\SimR p (ld p c x).2 (kW p c y).2):=by
 unfold ld kW
 rw[h.ph]
 cases hph:x.ph with
 |true=>
  rw[Xb rfl,Xb rfl]
  exact Ff hp hw h hph hi c
 |false=>
  rw[Xa (show ¬(false=true) by simp),Xa (show ¬(false=true) by simp)]
  obtain ⟨h1,h2,t,h3,h4⟩:=h.r hph
  have e:sg p y=gL p p.r t x.z:=by unfold sg;rw[h3,h.z];rfl
  rw[e]
  obtain ⟨k1,k2⟩:=Dz h2 h.zk
  have hs2:(cF p.cs (locals p.r) x.rc x.z).2.2.ill=true->(cF p.cs (locals p.r) x.rc x.z).1=false/\(cF p.cs (locals p.r) x.rc x.z).2.1.s=2:=by
   unfold cF
   split
   ·rename_i q;exact (Ep 1000 _ _ q).2 hi
   ·intro q;rw[hi] at q;cases q
  rcases EV hwr hp.cs h4 h2 h.zk hi with r|r|⟨r1,r2,r3⟩
  ·left
   obtain ⟨q1,q2⟩:=hs2 r
   have q1':¬(cF p.cs (locals p.r) x.rc x.z).1=true:=by rw[q1];simp
   rw[Xa q1',Xb q2]
   exact r
  ·right;left
   obtain ⟨q1,q2⟩:=L4 _ _ _ _ hi r
   have q1':¬(gL p p.r t x.z).1=true:=by unfold gL;rw[q1];simp
   rw[Xa q1',Xb (show (gL p p.r t x.z).2.1.sk=true from q2)]
   exact r
  ·rw[r1]
   cases hb:(cF p.cs (locals p.r) x.rc x.z).1 with
   |true=>
    rw[Xb rfl,Xb rfl]
    right;right
    refine ⟨rfl,rfl,r2,k2,fun _=>⟨h1,k1,_,rfl,r3⟩,fun q=>(by cases q)⟩
   |false=>
    have hs:=Je hb
    have hs':(cF p.cs (locals p.r) x.rc x.z).2.1.s≠2:=fun q=>by
     rcases r3.r with w|w
     ·exact hs w.1
     ·rw[w.1] at q;cases q
    have hsk:¬(gL p p.r t x.z).2.1.sk=true:=by rw[r3.sk];simp
    rw[Xa (show ¬(false=true) by simp),Xa (show ¬(false=true) by simp),Xa hsk,Xa hs']
    by_cases hill:(cF p.cs (locals p.r) x.rc x.z).2.2.ill=true
    ·exact W9 (hs2 hill).2 hs'
    refine Ff hp hw (x:=⟨true,(cF p.cs (locals p.r) x.rc x.z).2.1,x.th,(cF p.cs (locals p.r) x.rc x.z).2.2⟩) ⟨rfl,r2,k2,fun q=>(by cases q),fun _=>⟨by rw[h1];simp,by simp,fun j b t g1 g2=> ?_⟩⟩ rfl (by simpa using hill) c
    dsimp only at g1 g2
    rw[h1,List.getElem?_map] at g1
    rw[List.getElem?_map] at g2
    cases hj:p.ts[j]? with
    |none=>rw[hj] at g1;cases g1
    |some u=>
     rw[hj] at g1 g2
     cases g1;cases g2
     have hu:=List.mem_of_getElem? hj
     have eb:bL p j=u.2:=by unfold bL;rw[hj];rfl
     rw[eb]
     exact ⟨uP (hp.zt u hu) (hp.gt u hu),CW (hw u hu)⟩
theorem yg (hp:PrgOk p) (hwr:jC p.r) (hz:McOk p.cs z):SimR p (ry p z) (tn p z):=
 ⟨rfl,rfl,hz,fun _=>⟨rfl,uP hp.zr hp.gr,_,rfl,CW hwr⟩,fun q=>(by cases q)⟩
theorem JI {x:Rn} {y:Rl} (h:SimR p x y):vU y=qw x:=by
 unfold vU qw
 rw[h.ph]
 cases hph:x.ph with
 |false=>rfl
 |true=>
  rw[Bool.true_and,Bool.true_and]
  obtain ⟨h1,h2,h3⟩:=h.t hph
  have key:∀(j:Nat) (b:Bd) (t:Lan),x.th[j]? =some b->y.ls[j]? =some t->t.en=decide (b.s=1):=fun j b t g1 g2=>by
   obtain ⟨-,k⟩:=h3 j b t g1 g2
   rcases k.r with ⟨q1,q2,-⟩|⟨q1,q2,-⟩
   ·rw[q2,q1];rfl
   ·rw[q2,q1];rfl
  rw[Bool.eq_iff_iff,List.all_eq_true,List.all_eq_true]
  constructor
  ·intro q b hb
   obtain ⟨j,hj⟩:=List.mem_iff_getElem?.1 hb
   have hl:=(List.getElem?_eq_some_iff.1 hj).1
   rw[←key j b _ hj (List.getElem?_eq_getElem (show j<y.ls.length by omega))]
   exact q _ (List.getElem_mem _)
  ·intro q t ht
   obtain ⟨j,hj⟩:=List.mem_iff_getElem?.1 ht
   have hl:=(List.getElem?_eq_some_iff.1 hj).1
   rw[key j _ t (List.getElem?_eq_getElem (show j<x.th.length by omega)) hj]
   exact q _ (List.getElem_mem _)
end
def Gx (s:Sp):Prop:=cI s.n/\0<=s.o
def nu (X:Ms):Prop:=∀s∈X.st,Gx s
section
variable {ns:List (List Nat)} {cs:List (List Nat×Int)}
theorem jr {s:Sp} (h:nu X) (hs:Gx s):nu (aU s X):=fun u hu=>by
 unfold aU at hu
 rcases List.mem_append.1 hu with q|q
 ·exact h u q
 ·rw[List.mem_singleton] at q;subst q;exact hs
theorem kL {n:Int} (h:nu X) (hn:cI n):nu (aM n X):=jr (X:=⟨X.st,X.v+1,X.lb⟩) h ⟨hn,Int.le_refl 0⟩
theorem Qt:cI 0:=⟨by omega,by omega⟩
theorem vd  {o:Int} (h:nu X) (ho:0<=o):nu (jG o a b X):=jr (X:=⟨X.st,X.v+1,X.lb⟩) h ⟨Qt,ho⟩
theorem eu  {k t:Int} (h:nu X):nu (aU (aj k a t) X):=jr h ⟨Qt,Int.le_refl 0⟩
theorem jK:∀(x:Ex) {X:Ms},Wid x->nu X->nu (x.lw ns X).2:=by
 apply Ex.ind (P:=fun x=>∀{X:Ms},Wid x->nu X->nu (x.lw ns X).2)
 intro c n o s ks ih X hw h
 cases hw with
 |mk hn hl hk=>
  rw[Ex.lw]
  split
  ·exact kL h ⟨by omega,by omega⟩
  ·split
   ·exact h
   ·split
    ·match ks,ih,hk with
     | [],_,_=>exact h
     | [_],_,_=>exact h
     |a::b::l,ih,hk=>
      rw[Sv]
      exact vd (ih b (by simp) (hk b (by simp)) (ih a (by simp) (hk a (by simp)) h)) (by omega)
    ·exact h
theorem GY {s:Stm} (hw:Wid s.i) (h:nu X):nu (aH cs ns s X).2:=by
 have in8:cI 8:=⟨by omega,by omega⟩
 unfold aH iz
 refine vd (kL (vd (kL (vd (kL (jK _ hw h) ?_) (by omega)) in8) (by omega)) ?_) (by omega)
 ·exact ⟨by omega,by omega⟩
 ·exact ⟨by omega,by omega⟩
def Vm (s:Stm):Prop:=∀u∈s.all,Wid u.i/\Wid u.x/\Wid u.y
theorem KE  (h:∀s∈l,∀{X:Ms},Vm s->nu X->nu (s.lw cs ns X)):∀{X:Ms},(∀u∈aQ l,Wid u.i/\Wid u.x/\Wid u.y)->nu X->nu (dZ cs ns l X):=by
 induction l with
 |nil=>intro X _ h;rw[dZ];exact h
 |cons s l ih=>
  intro X hw hX
  rw[dZ]
  rw[aQ] at hw
  exact ih (fun s hs=>h s (List.mem_cons_of_mem _ hs)) (fun u hu=>hw u (List.mem_append_right _ hu)) (h s (by simp) (fun u hu=>hw u (List.mem_append_left _ hu)) hX)
theorem NY:∀(s:Stm) {X:Ms},Vm s->nu X->nu (s.lw cs ns X):=by
 apply Stm.ind (P:=fun s=>∀{X:Ms},Vm s->nu X->nu (s.lw cs ns X))
 intro k a nm ce i x y b e hb he X hw hX
 unfold Vm at hw
 rw[Stm.all] at hw
 obtain ⟨hi,hx,hy⟩:=hw _ (List.mem_cons_self ..)
 simp only[Stm.i,Stm.x,Stm.y] at hi hx hy
 have hwb:k=6∨k=7->∀t∈aQ b,Wid t.i/\Wid t.x/\Wid t.y:=fun q t ht=>hw t (List.mem_cons_of_mem _ (List.mem_append_left _ (by rw[Xb q];exact ht)))
 have hwe:k=6->∀t∈aQ e,Wid t.i/\Wid t.x/\Wid t.y:=fun q t ht=>hw t (List.mem_cons_of_mem _ (List.mem_append_right _ (by rw[Xb q];exact ht)))
 have hB:∀{X:Ms},(∀u∈aQ b,Wid u.i/\Wid u.x/\Wid u.y)->nu X->nu (dZ cs ns b X):=KE hb
 have hE:∀{X:Ms},(∀u∈aQ e,Wid u.i/\Wid u.x/\Wid u.y)->nu X->nu (dZ cs ns e X):=KE he
 have hlab:nu (cw 2 X):=hX
 have hpl:nu (aH cs ns (.mk k a nm ce i x y b e) X).2:=GY hi hX
 have z0:∀{k d a b c t ce:Int},Gx ⟨k,d,a,b,c,t,ce,0,0⟩:=⟨Qt,Int.le_refl 0⟩
 rw[Stm.lw]
 split
 ·exact jr (jK x hx hX) z0
 split
 ·exact jr hpl z0
 split
 ·exact jr (jK x hx hpl) z0
 split
 ·exact jr (jK y hy (jK x hx hpl)) z0
 split
 ·exact eu hX
 split
 ·exact eu (jK x hx hX)
 split
 ·rename_i q
  exact eu (hE (hwe q) (eu (eu (hB (hwb (Or.inl q)) (eu (jK x hx hlab))))))
 split
 ·rename_i q
  exact eu (eu (hB (hwb (Or.inr q)) (eu (jK x hx (eu hlab)))))
 ·exact hX
theorem Fp  (h:∀s∈l,Gs cs s):∀s∈(bJ cs l).st,Gx s:=by
 have hw:∀u∈aQ l,Wid u.i/\Wid u.x/\Wid u.y:=by
  induction l with
  |nil=>intro u hu;simp[aQ] at hu
  |cons s l ih=>
   intro u hu
   rw[aQ] at hu
   rcases List.mem_append.1 hu with q|q
   ·exact (h s (by simp) u q).2
   ·exact ih (fun s hs=>h s (List.mem_cons_of_mem _ hs)) u q
 exact eu (KE (fun s _=>NY s) hw fun s hs=>by simp at hs)
end
section
variable {B m:NH} {b:D4} {pl nm vv:NV} {ns:List (List Nat)} {x:Bd} {cs:List (List Nat×Int)}
theorem DD (hC0:Chg [] B m) {vl:NV} (hS:SS B (fun _=>True) vl l E) (hz:bQ l<=1000000):
 ∃w m',rT 47 [vl] m w m'/\∃b pl nm vv,w= .ptr b 0/\Bod iS B m' b pl nm vv (locals l) (kU l)/\Chg [] m m'/\∀i∈ec b pl nm vv,¬am m i:=by
 refine WF.ex fun K' hK'=> ?_
 refine WF.of_wpG (fun _=>rfl) EB (L:= [(.e,vl)]) rfl ?_
 unfold Pv
 obtain ⟨nm,m1,r1,hn,hC1⟩:=Kl hS hC0 (by omega)
 have hlen:=hn.sl.len
 rw[List.length_map] at hlen
 have hn1:=hn.sl.one
 have hv1:=hS.sl.one
 have hls:=s9 l
 rw[aa]
 simp (disch:=first|assumption|omega|(simp only[aG]<;>omega)) only[go_sem,seval,r1.wf,hlen,hn1,hv1]
 generalize hM:hp _ 3 m1=M
 have hC2:Chg [] m1 M:=aR hM rfl
 have g0:M.get (na m1 1)=some (.cells true [vl,ii 0]):=bu hM
 have g1:M.get (na m1 0)=some (.cells true (rep (locals l).length [iu 0])):=bu hM
 have g2:M.get (na m1 2)=some (.cells true (iS (.slc (na m1 1) 0 1 2 1) nm (.slc (na m1 0) 0 (locals l).length 1 (locals l).length) 0)):=bu hM
 have o0:am M (na m1 0):=bt hM (by omega)
 have o1:am M (na m1 1):=bt hM (by omega)
 have o2:am M (na m1 2):=bt hM (by omega)
 have hCm:=hC1.tr hC2
 have new:∀j,¬am m (na m1 j):=fun j q=>aA (hC1.old q)
 have newB:∀j,¬am B (na m1 j):=fun j q=>new j (hC0.old q)
 have nno:∀j,na m1 j∉ids nm:=fun j q=>aA (hn.sl.old _ q)
 refine hK' _ _ ⟨na m1 2,.slc (na m1 1) 0 1 2 1,nm,.slc (na m1 0) 0 (locals l).length 1 (locals l).length,rfl,⟨g2,o2,newB 2,⟨[[vl,ii 0]],aY.of (by simp) (newB 1) g0 o1 rfl rfl rfl,⟨rfl,fun j z c h1 h2=> ?_⟩⟩, ?_,(hn.chg hC2 fun _ _=>by simp).back fun i hi=>hC0.old hi, ?_, ?_, ?_,hC0.tr hCm⟩,hCm, ?_⟩
 ·cases j with
  |zero=>cases h1;cases h2;exact ⟨vl,E,rfl,hS⟩
  |succ j=>simp[kU] at h1
 ·refine aY.of (by simp) (newB 0) g1 o0 (by rw[qB];simp[kU]) (by simp[kU]) (by simp[kU])
 ·simp only[ids,Xf,Xe,or_false,oE];exact ⟨by omega,by omega,nno 2⟩
 ·intro i hi;simp only[ids,Xf,Xe,or_false] at hi ⊢;subst hi;exact ⟨by rw[oE];omega,nno 1⟩
 ·intro i hi;simp only[ids,Xf,Xe,or_false] at hi;subst hi;exact nno 0
 ·intro i hi
  simp only[ec,ids,Xf,List.mem_append,Xe,or_false] at hi
  rcases hi with rfl|rfl|rfl|hi
  ·exact new 2
  ·exact new 1
  ·exact new 0
  ·exact hn.new i hi
theorem uA (h:Bod iS B m b pl nm vv ns x) (hk:BdOk cs ns x) (s:List Nat) (z:Int):
 ∃m',rT 81 [.ptr b 0,.str s,iu z] m (.tup []) m'/\Bod iS B m' b pl nm vv ns ⟨x.K,lJ ns x.v s z,x.s⟩/\EvF (ec b pl nm vv) (ec b pl nm vv) m m':=by
 have hln:=hk.ln
 have hlv:=hk.lv
 refine WF.ex1 fun K' hK'=> ?_
 refine WF.of_wpG (fun _=>rfl) DK (L:= [(.b .e,iu z),(.a .e,.str s),(.e,.ptr b 0)]) rfl ?_
 unfold Pp
 have g:=h.g
 have hlen:=h.n.sl.len
 rw[List.length_map] at hlen
 simp only[go_sem,seval,aa]
 refine W.loop (fun f d=>∃t i,d=⟨t, [],none,m⟩/\NT.get D4.e t=some (.ptr b 0)/\NT.get D4.e.a t=some (.str s)/\NT.get D4.e.b t=some (iu z)/\NT.get D4.e.a.b t=some (ii (i:Nat))/\i+f=ns.length/\∀j (hj:j<i) (hl:j<ns.length),s≠ns[j]) ?_ ns.length _ ⟨_,0,rfl,by exact gq rfl,by exact gq rfl,by exact gq rfl,by exact gq rfl,by omega,by omega⟩
 rintro f d ⟨t,i,rfl,t1,t2,t3,t4,hif,hn⟩
 apply ax
 unfold E9
 change wp _ _ _ _ ⟨ah [] t, [],none,m⟩ _
 by_cases hi:i<ns.length
 ·obtain ⟨idn,offn,wn,cn,d1,d2,d3,d4,d5⟩:=h.n.sl.at i (by simpa using hi)
  rw[List.getElem_map] at d5
  have e0:cn[offn]? =some (.str ns[i]):=aF d5 0 (by omega)
  by_cases hs:ns[i]=s
  ·obtain ⟨id,off,cc,a1,a2,a3,a4,a5,a6,a7,a8⟩:=h.v.at i (by rw[List.length_map];omega)
   have hfi:bC ns s=i:=f0 hi hs.symm fun j hj=>hn j hj (by omega)
   have hde:decide (ns[i]=s)=true:=Xd hs
   simp (disch:=first|assumption|omega) only[go_sem,seval,t1,t2,t3,t4,g,hlen,d1,d2,e0,hde,a1,a4]
   generalize hM:m.put id _=M
   have hM:M=hp [(.o id,.cells true (cc.set off (iu z)))] 0 m:=by rw[←hM,←bX a5,aa]
   refine hK' _ ?_
   refine h.vals (by rw[hM,a2];exact (dg _ _ _).weak (by simp[aC])) ?_
   have:=a8 [(0,iu z)] M (by simp) (by rw[hM];exact (aE a5).trans aq) (by rw[hM];exact cG a5)
   unfold lJ
   rw[hfi,Xb (by omega),Int.toNat_natCast]
   show aY B M vv 1 ((x.v.set i z).map fun z=> [iu z])
   rw[List.map_set]
   rw[List.getElem_map] at this
   exact this
  ·have hde:decide (ns[i]=s)=false:=Xc hs
   simp (disch:=first|assumption|omega) only[go_sem,seval,t1,t2,t3,t4,g,hlen,d1,d2,e0,hde]
   refine ⟨f - 1,by omega,_,i+1,by rfl,by exact gq t1,by exact gq t2,by exact gq t3,by exact gq rfl,by omega,fun j hj hl=> ?_⟩
   by_cases e:j=i
   ·subst e;exact fun q=>hs q.symm
   ·exact hn j (by omega) hl
 ·simp (disch:=first|assumption|omega) only[go_sem,seval,t1,t2,t3,t4,g,hlen]
  refine hK' _ ?_
  have hfi:bC ns s=-1:=eY fun j hj=>hn j (by omega) hj
  unfold lJ
  rw[hfi,Xa (by omega)]
  exact ⟨h,EvF.refl m⟩
theorem Q8 (h:Bod iS B m b pl nm vv ns x) (hk:BdOk cs ns x):
 ∃m',rT 79 [.ptr b 0] m (.bool (decide (bT x.K= []))) m'/\∃pl',Bod iS B m' b pl' nm vv ns ⟨bT x.K,x.v,x.s⟩/\EvF (ec b pl nm vv) (ec b pl' nm vv) m m':=by
 refine WF.ex1 fun K' hK'=> ?_
 refine WF.of_wpG (fun _=>rfl) BT (L:= [(.e,.ptr b 0)]) rfl ?_
 unfold PJ
 simp only[go_sem,seval,aa]
 refine W.loop (fun k d=>∃t M pl' K,d=⟨t, [],none,M⟩/\NT.get D4.e t=some (.ptr b 0)/\K.length=k/\bT K=bT x.K/\BdOk cs ns ⟨K,x.v,x.s⟩/\Bod iS B M b pl' nm vv ns ⟨K,x.v,x.s⟩/\EvF (ec b pl nm vv) (ec b pl' nm vv) m M) ?_ x.K.length _ ⟨_,m,pl,x.K,rfl,by exact gq rfl,rfl,rfl,hk,h,EvF.refl m⟩
 rintro k d ⟨t,M,pl',K,rfl,t1,hKk,hT,hk1,h1,hE⟩
 apply ax
 unfold Ei
 change wp _ _ _ _ ⟨ah [] t, [],none,M⟩ _
 have g:=h1.g
 obtain ⟨C,hP,hC⟩:=h1.p
 have hpl:=hP.sl.len
 rw[hC.n,List.length_reverse] at hpl
 cases K with
 |nil=>
  simp only[go_sem,seval,t1,g,hpl]
  rw[←hT] at hK'
  rw[Xd (show bT []= [] from rfl)] at hK'
  exact hK' _ ⟨pl',h1,hE⟩
 |cons y K=>
  obtain ⟨b1,b2,b3⟩:=hk1.bnd rfl
  simp only[List.reverse_cons] at hC
  obtain ⟨C0,c,rfl,hC0,vl,E,rfl,hS⟩:=hC.last
  have hn:=hC0.n
  rw[List.length_reverse] at hn
  obtain ⟨id,off,cc,a1,a2,a3,a4,a5,a6,a7,a8⟩:=hP.at C0.length (by simp)
  rw[List.getElem_append_right (by omega)] at a7
  simp only[Nat.sub_self,List.getElem_cons_zero] at a7
  have c0:cc[off+0]? =some vl:=aF a7 0 (by omega)
  have c1:cc[off+1]? =some (ii y.2):=aF a7 1 (by omega)
  have hlS:=hS.sl.len
  rw[hS.len] at hlS
  simp only[List.length_cons] at hKk hpl
  have e1:(((K.length+1:Nat):Int) - 1)=(C0.length:Nat):=by omega
  by_cases hy:y.2<y.1.length
  ·simp (disch:=first|assumption|omega) only[go_sem,seval,t1,g,hpl,e1,a1,a4,c0,c1,hlS]
   have e:bT (y::K)=y::K:=by rw[bT,Xb hy]
   rw[←hT,e,Xc (by simp)] at hK'
   exact hK' _ ⟨pl',h1,hE⟩
  ·have hPl:=hP
   obtain ⟨h0,⟨e,e'⟩|⟨idp,offp,kcp,cp,rfl,hbp,p1,p2,p3,p3',p4⟩⟩:=hPl
   ·simp at e'
   ·rw[←aa M]
    have hl2:(C0++ [[vl,ii y.2]]).length=C0.length+1:=by simp
    rw[hl2] at g a1
    have ob:=h1.o
    have e2:(((C0.length+1:Nat):Int) - 1)=(C0.length:Nat):=by omega
    simp (disch:=first|assumption|omega|(simp only[aG]<;>omega)) only[go_sem,seval,t1,g,e1,e2,a1,a4,c0,c1,hlS]
    generalize hM2:hp _ 0 M=M2
    rw[hl2] at h1
    obtain ⟨q1,q2⟩:=h1.cut (m':=M2) rfl (kR h1.o hM2) (li hM2 (by simp[aC]))
    have e:bT (y::K)=bT K:=by rw[bT,Xa hy]
    rw[e] at hT
    rw[hl2] at hE
    exact ⟨K.length,by omega,_,M2,_,K,by rfl,by exact gq t1,rfl,hT,⟨yf hk1.ch,fun z hz=>hk1.gs z (List.mem_cons_of_mem _ hz),fun z hz=>hk1.pos z (List.mem_cons_of_mem _ hz),hk1.iv,hk1.ln,hk1.lv⟩,q1,hE.trans q2⟩
end
section
variable {B m:NH} {r b:D4} {vcl vo pl nm vv vc vt vr rec vth:NV} {ns:List (List Nat)} {x:Bd} {z:Mc} {cs:List (List Nat×Int)}
theorem EP  {W:SV} (h:SP B (fun _=>True) t W):bg 4 (.agg (t.l W)) (.agg (t.l W))=true:=by
 obtain ⟨_,_,e1,s1⟩:=h.i.inv'
 obtain ⟨_,_,e2,s2⟩:=h.x.inv'
 obtain ⟨_,_,e3,s3⟩:=h.y.inv'
 injection e1 with _ e1;injection e1 with _ e1;injection e1 with _ e1;injection e1 with _ e1;injection e1 with e1 _
 injection e2 with _ e2;injection e2 with _ e2;injection e2 with _ e2;injection e2 with _ e2;injection e2 with e2 _
 injection e3 with _ e3;injection e3 with _ e3;injection e3 with _ e3;injection e3 with _ e3;injection e3 with e3 _
 obtain ⟨_,hb⟩:=h.b
 obtain ⟨_,he⟩:=h.e
 refine dH fun w hw=> ?_
 simp only[Xf,Xe,or_false] at hw
 rcases hw with rfl|rfl|rfl|rfl|rfl|rfl|rfl|rfl|rfl|rfl|rfl|rfl|rfl|rfl|rfl|rfl|rfl|rfl|rfl|rfl|rfl
 all_goals first|trivial|(rw[e1];exact s1.sl.flat)|(rw[e2];exact s2.sl.flat)|(rw[e3];exact s3.sl.flat)|exact hb.sl.flat|exact he.sl.flat
theorem MA (hM:Mac (fR vc vt vr rec vth) B m r vcl vo z) (hb:Bod iS B m b pl nm vv ns x) (hk:BdOk cs ns x) (hc:Sl B vc 2 (lU cs)) (hcs:CsOk cs) {W:SV} (hSP:SP B (fun _=>True) t W) (hce:t.ce∈cs.map (·.1)) (hwi:Wid t.i):
 ∃m',rT 121 [.ptr r 0,.ptr b 0,.agg (t.l W)] m (ii (eJ cs (t.i.eval ns x.v) t)) m'/\Chg [] m m':=by
 obtain ⟨i,hi,hl⟩:=JQ hce
 refine WF.ex1 fun K' hK'=> ?_
 refine WF.of_wpG (fun _=>rfl) yv (L:= [(.b .e,.agg (t.l W)),(.a .e,.ptr b 0),(.e,.ptr r 0)]) rfl ?_
 unfold JP
 have hlen:=hcs.len
 generalize hM1:hp [(.n 0,.cells true (t.l W))] 1 m=M1
 have hC1:Chg [] m M1:=aR hM1 rfl
 have q1:M1.get (na m 0)=some (.cells true (t.l W)):=bu hM1
 have u1:am M1 (na m 0):=bt hM1 (by omega)
 have hb1:=hb.grow hC1
 have hm1:=hM.grow hC1
 have r1:=vf (hc.grew hm1.c) (by omega) t.ce
 rw[hi] at r1
 obtain ⟨m2,r2,hC2⟩:=pV t.i hSP.i (kQ hm1.c _) hwi (hb1.env hk)
 have hm2:=hm1.grow hC2
 have hb2:=hb1.grow hC2
 obtain ⟨m3,r3,hC3⟩:=Wo (hc.grew hm2.c) (by omega) (i:Int)
 have q2:=(hC2.get u1 (by simp)).trans q1
 obtain ⟨idc,offc,wc,ccs,e1,e2,e3,e4,e5⟩:=hc.at i (by simpa using hl)
 rw[List.getElem_map] at e5
 have s1:ccs[offc+1]? =some (ii cs[i].2):=aF e5 1 (by omega)
 have hsz:=hcs.sz _ (List.getElem_mem hl)
 have g1:=hm1.g
 have g2:=hm2.g
 have gb1:=hb1.g
 have gb2:=hb2.g
 have e11:=(hm1.c.get e3 (by simp)).trans e2
 have e12:=(hm2.c.get e3 (by simp)).trans e2
 have hwt:=rO (t.i.eval ns x.v) hi hl
 have hat:=H8 hl
 have hev:=iT (ns:=ns) hk.iv t.i hwi
 have h64:(cs[i].2 - 1) % 18446744073709551616=cs[i].2 - 1:=by omega
 have hand:=OB hev (show cI (cs[i].2 - 1) by unfold cI;omega)
 have hW:=cV (cs.take i)
 have hW2:=pQ cs i
 have hW3:=cV cs
 have hq:=Wq hW.1 (by omega)
 have hle:=Nat.and_le_right (n:=(t.i.eval ns x.v).toNat) (m:=(cs[i].2 - 1).toNat)
 have hsI:=fO hSP.i
 have hvc:=hc.same (n:=3)
 have hnn:=hb.n.sl.same (n:=3)
 have hvv:=hb.v.sl.same (n:=3)
 simp (disch:=first|assumption|omega|(simp only[aG]<;>omega)) only[go_sem,seval,hM1,g1,g2,gb1,gb2,q1,q2,r1.wf',r2.wf',r3.wf',e1,e11,e12,s1,h64,hand,hat,hq,hsI,hvc,hnn,hvv]
 rw[hwt] at hK'
 exact hK' _ ((hC1.tr hC2).tr hC3)
theorem Tj (hM:Mac (fR vc vt vr rec vth) B m r vcl vo z) (hb:Bod iS B m b pl nm vv ns x) (hd:∀i∈cR r vcl vo,i∉ec b pl nm vv) (hk:BdOk cs ns x) (hc:Sl B vc 2 (lU cs)) (hcs:CsOk cs) (hz:McOk cs z) (ho:z.out.length<=1000000) {W:SV} (hSP:SP B (fun _=>True) t W) (hG:Gs cs t) (ht:t.k=1∨t.k=2∨t.k=3∨t.k=5):
 ∃m',rT 82 [.ptr r 0,.ptr b 0,.agg (t.l W)] m (.tup []) m'/\∃vo',Mac (fR vc vt vr rec vth) B m' r vcl vo' (ek cs ns t x z).2/\Bod iS B m' b pl nm vv ns (ek cs ns t x z).1/\EvF (cR r vcl vo++ec b pl nm vv) (cR r vcl vo'++ec b pl nm vv) m m'/\∀i∈cR r vcl vo',i∉ec b pl nm vv:=by
 refine WF.ex1 fun K' hK'=> ?_
 refine WF.of_wpG (fun _=>rfl) DH (L:= [(.b .e,.agg (t.l W)),(.a .e,.ptr b 0),(.e,.ptr r 0)]) rfl ?_
 unfold O6
 obtain ⟨g1,g2,g3,g4⟩:=mq hG
 generalize hM0:hp [(.n 0,.cells true (t.l W))] 1 m=M0
 have hC0:Chg [] m M0:=aR hM0 rfl
 have q0:M0.get (na m 0)=some (.cells true (t.l W)):=bu hM0
 have u0:am M0 (na m 0):=bt hM0 (by omega)
 have hb0:=hb.grow hC0
 have hm0:=hM.grow hC0
 have gb0:=hb0.g
 obtain ⟨m1,r1,hC1⟩:=pV t.x hSP.x (kQ hm0.c _) g3 (hb0.env hk)
 have hb1:=hb0.grow hC1
 have hm1:=hm0.grow hC1
 have q1:=(hC1.get u0 (by simp)).trans q0
 have u1:=hC1.old u0
 have gb1:=hb1.g
 have gm1:=hm1.g
 have hsX:=fO hSP.x
 have hsY:=fO hSP.y
 have hsT:=EP hSP
 have hnn:=hb.n.sl.same (n:=3)
 have hvv:=hb.v.sl.same (n:=3)
 have hcv:=hM.cl.sl.same (n:=3)
 have hC01:=hC0.tr hC1
 have hbB:∀i∈ec b pl nm vv,¬am B i:=fun i hi=>(hb.old i hi).2
 have hMB:∀i∈cR r vcl vo,¬am B i:=fun i hi=>(hM.old i hi).2
 have hd':∀i∈ec b pl nm vv,i∉cR r vcl vo:=fun i hi q=>hd i q hi
 have hna:na m 0∉ec b pl nm vv:=fun q=>aA (hb.old _ q).1
 have hna2:na m 0∉cR r vcl vo:=fun q=>aA (hM.old _ q).1
 unfold ek at hK'
 by_cases h5:t.k=5
 ·have h1:t.k≠1:=by omega
  have h2:t.k≠2:=by omega
  have h3:t.k≠3:=by omega
  simp only[Xa h1,Xa h2,Xa h3,Xb h5] at hK'
  have hvo:=hM.ou.sl.one
  have sb:=t.x.eval ns x.v
  simp (disch:=first|assumption|omega|(simp only[aG]<;>omega)) only[go_sem,seval,hM0,q0,gb0,gb1,q1,hsX,hnn,hvv,r1.wf,gm1,hvo]
  have hC2:Chg [] m1 (hp [(.n 0,.cells true [iu (t.x.eval ns x.v)])] 1 m1):=aI rfl
  have hM2:=hm1.grow hC2
  refine fm (cs:= [iu (t.x.eval ns x.v)]) hM2.ou bI (bN (by omega)) rfl (fun i hi=>hM2.c.old hi) (by simp;omega) (by simp;omega) ?_
  intro vo' M3 hO3 hC3 hF3
  have hvoB:∀i∈ids vo,¬am B i:=fun i hi=>hMB i (by simp[cR,hi])
  have hC23:Chg [] B M3:=hM2.c.trans hC3 fun i hi ho=>W9 ho (hvoB i hi)
  have g3':=(hC3.get hM2.o hM.d.2.1).trans hM2.g
  have o3:=hC3.old hM2.o
  have hvo':=hO3.sl.one
  simp (disch:=first|assumption|omega|(simp only[aG]<;>omega)) only[go_sem,seval,g3',hvo']
  generalize hM4:M3.put r _=M4
  have hM4:M4=hp [(.o r,.cells true (fR vc vt vr rec vth vcl vo' z.ill))] 0 M3:=by rw[←hM4,←bX o3,aa]
  have hC4:Chg [r] M3 M4:=by rw[hM4];exact (dg _ _ _).weak (by simp[aC])
  have hrv:r∉ids vo':=fun q=>(hF3 r q).elim hM.d.2.1 fun q=>q hM2.o
  have hvn:∀i∈ids vo',i∈ids vo∨¬am m i:=fun i hi=>(hF3 i hi).imp id fun q ho=>q (hC2.old (hC01.old ho))
  have hEv:EvF (cR r vcl vo) (cR r vcl vo') m M4:=by
   refine ⟨((((hC01.tr hC2).weak (T:=cR r vcl vo) (by simp)).trans hC3 fun i hi _=>by simp[cR,hi]).trans hC4 fun i hi _=>by have hi:=one hi;subst hi;simp[cR]),fun j hj=> ?_⟩
   simp only[cR,Xf,List.mem_append] at hj ⊢
   rcases hj with hj|hj|hj
   ·exact Or.inl (Or.inl hj)
   ·exact Or.inl (Or.inr (Or.inl hj))
   ·exact (hvn j hj).imp (fun q=>Or.inr (Or.inr q)) id
  have hn4:∀{v:NV} {C:List (List NV)},aY B M3 v 1 C->r∉ids v->aY B M4 v 1 C:=fun ho hr=>ho.chg hC4 fun i hi q=>by have q:=one q;subst q;exact hr hi
  refine hK' _ ⟨vo',⟨by rw[hM4];exact (aE o3).trans aq,hC4.old o3,hM.nB,hn4 (hM2.cl.chg hC3 fun i hi=>hM.d.2.2 i hi) hM.d.1, ?_,⟨hM.d.1,hrv,fun i hi q=>(hF3 i q).elim (hM.d.2.2 i hi) fun q=>q (hM2.cl.sl.old i hi)⟩,hC23.trans hC4 fun i hi ho=> ?_⟩,hb.ev hEv hd' hMB,hEv.addL _,fun i hi q=> ?_⟩
  ·have:=hn4 hO3 hrv
   show aY B M4 vo' 1 ((z.out++ [t.x.eval ns x.v]).map fun z=> [iu z])
   rw[List.map_append]
   exact this
  ·have hi:=one hi;subst hi;exact W9 ho hM.nB
  ·simp only[cR,Xf,List.mem_append] at hi
   rcases hi with hi|hi|hi
   ·exact hd i (by simp[cR,hi]) q
   ·exact hd i (by simp[cR,hi]) q
   ·exact (hvn i hi).elim (fun p=>hd i (by simp[cR,p]) q) fun p=>p (hb.old i q).1
 ·have h123:t.k=1∨t.k=2∨t.k=3:=by omega
  obtain ⟨m2,r2,hC2⟩:=MA hm1 hb1 hk hc hcs hSP (g1 h123) g2
  obtain ⟨w1,w2⟩:=pF hcs (g1 h123) (t.i.eval ns x.v)
  obtain ⟨n,hn⟩:=Xh w1
  have hzn:=hz.n
  have hnl:n<z.cl.length:=by omega
  rw[hn] at r2 hK'
  simp only[Int.toNat_natCast,List.getElem?_eq_getElem hnl,Option.getD_some] at hK'
  have hm2:=hm1.grow hC2
  have hb2:=hb1.grow hC2
  have q2:=(hC2.get u1 (by simp)).trans q1
  have u2:=hC2.old u1
  have gm2:=hm2.g
  have gb2:=hb2.g
  have hC02:=hC01.tr hC2
  rcases h123 with h|h|h
  ·simp only[Xb h] at hK'
   obtain ⟨id,off,w,c',a1,-⟩:=hm2.cl.sl.at n (by simpa using hnl)
   obtain ⟨hid,cc,c1,c2,c3,c4,-⟩:=hm2.put hnl 0 a1
   obtain ⟨m3,r3,hb3,e3⟩:=uA hb2 hk t.nm z.cl[n]
   have hm3:=hm2.ev e3 hd hbB
   have q3:=(e3.c.get u2 hna).trans q2
   have gm3:=hm3.g
   have c13:=(e3.c.get c2 (hd id (by simp[cR,hid]))).trans c1
   simp (disch:=first|assumption|omega|(simp only[aG]<;>omega)) only[go_sem,seval,hM0,q0,gb0,gb1,q1,hsX,hsT,hnn,hvv,hcv,r1.wf',gm1,r2.wf',q2,gm2,a1,c1,c4,r3.wf',q3,gm3,c13]
   exact hK' _ ⟨vo,hm3,hb3,(EvF.pre hC02 e3).addR _,hd⟩
  ·have h1:t.k≠1:=by omega
   simp only[Xa h1,Xb h] at hK'
   obtain ⟨id,off,w,c',a1,-⟩:=hm2.cl.sl.at n (by simpa using hnl)
   obtain ⟨hid,cc,c1,c2,c3,c4,hput⟩:=hm2.put hnl (t.x.eval ns x.v) a1
   simp (disch:=first|assumption|omega|(simp only[aG]<;>omega)) only[go_sem,seval,hM0,q0,gb0,gb1,q1,hsX,hsT,hnn,hvv,hcv,r1.wf',gm1,r2.wf',q2,gm2,a1,c1,c4]
   generalize hM3:m2.put id _=M3
   obtain ⟨u1',u2'⟩:=hput M3 hM3.symm
   exact hK' _ ⟨vo,u1',hb2.ev u2' hd' hMB,(EvF.pre hC02 u2').addL _,hd⟩
  ·have h1:t.k≠1:=by omega
   have h2:t.k≠2:=by omega
   simp only[Xa h1,Xa h2,Xb h] at hK'
   obtain ⟨id,off,w,c',a1,-⟩:=hm2.cl.sl.at n (by simpa using hnl)
   by_cases hq:z.cl[n]=t.x.eval ns x.v
   ·simp only[Xb hq] at hK'
    obtain ⟨hid,cc0,d1,d2,d3,d4,-⟩:=hm2.put hnl 0 a1
    obtain ⟨m3,r3,hC3⟩:=pV t.y hSP.y (kQ hm2.c _) g4 (hb2.env hk)
    have hm3:=hm2.grow hC3
    have hb3:=hb2.grow hC3
    have gm3:=hm3.g
    have gb3:=hb3.g
    have q3:=(hC3.get u2 (by simp)).trans q2
    have u3:=hC3.old u2
    obtain ⟨-,cc,c1,c2,c3,c4,hput⟩:=hm3.put hnl (t.y.eval ns x.v) a1
    have hde:decide (z.cl[n]=t.x.eval ns x.v)=true:=Xd hq
    simp (disch:=first|assumption|omega|(simp only[aG]<;>omega)) only[go_sem,seval,hM0,q0,gb0,gb1,q1,hsX,hsY,hsT,hnn,hvv,hcv,r1.wf',gm1,r2.wf',q2,gm2,gb2,a1,d1,d4,hde,r3.wf',gm3,gb3,q3,c1,c4]
    generalize hM4:m3.put id _=M4
    obtain ⟨u1',u2'⟩:=hput M4 hM4.symm
    have hb4:=hb3.ev u2' hd' hMB
    obtain ⟨m5,r5,hb5,e5⟩:=uA hb4 hk t.nm 1
    have hM5:=u1'.ev e5 hd hbB
    have q4:=(u2'.c.get u3 hna2).trans q3
    simp (config:={maxSteps:=1000000}) (disch:=first|assumption|omega|(apply bN;omega)|(apply cG;assumption)|(simp only[aG]<;>omega)) only[go_sem,seval,q4,r5.wf']
    exact hK' _ ⟨vo,hM5,hb5,(EvF.pre (hC02.tr hC3) (u2'.addL _)).trans (e5.addR _),hd⟩
   ·simp only[Xa hq] at hK'
    obtain ⟨hid,cc0,d1,d2,d3,d4,-⟩:=hm2.put hnl 0 a1
    obtain ⟨m3,r3,hb3,e3⟩:=uA hb2 hk t.nm 0
    have hm3:=hm2.ev e3 hd hbB
    have hde:decide (z.cl[n]=t.x.eval ns x.v)=false:=Xc hq
    simp (disch:=first|assumption|omega|(simp only[aG]<;>omega)) only[go_sem,seval,hM0,q0,gb0,gb1,q1,hsX,hsT,hnn,hvv,hcv,r1.wf',gm1,r2.wf',q2,gm2,gb2,a1,d1,d4,hde,r3.wf']
    exact hK' _ ⟨vo,hm3,hb3,(EvF.pre hC02 e3).addR _,hd⟩
end
section
variable {mk:NV->NV->NV->Int->List NV} {B m m1 M2:NH} {r b:D4} {vcl vo pl pl' nm vv vc vt vr rec vth:NV} {ns:List (List Nat)} {x:Bd} {z:Mc} {cs:List (List Nat×Int)}
theorem Bod.tops (h:Bod mk B m b pl nm vv ns x) {y:List Stm×Nat} (hK:x.K=y::K):∃id off cc vl E,ix 2 pl (ii (K.length:Nat))= .val (.ptr id off)/\ids pl= [id]/\m.get id=some (.cells true cc)/\am m id/\off+2<=cc.length/\cc[off+0]? =some vl/\cc[off+1]? =some (ii y.2)/\SS B (fun _=>True) vl y.1 E/\
 ∀(qi:Int) (q:Nat) (M:NH),qi=q->M=m.put id (.cells true (cc.set (off+1) (ii qi)))->Bod mk B M b pl nm vv ns ⟨(y.1,q)::K,x.v,x.s⟩/\EvF (ec b pl nm vv) (ec b pl nm vv) m M/\M.get id=some (.cells true (cc.set (off+1) (ii qi)))/\Chg [id] m M:=by
 obtain ⟨C,hP,hC⟩:=h.p
 rw[hK,List.reverse_cons] at hC
 obtain ⟨C0,c,rfl,hC0,vl,E,rfl,hS⟩:=hC.last
 have hn:=hC0.n
 rw[List.length_reverse] at hn
 obtain ⟨id,off,cc,a1,a2,a3,a4,a5,a6,a7,a8⟩:=hP.at C0.length (by simp)
 rw[List.getElem_append_right (by omega)] at a7 a8
 simp only[Nat.sub_self,List.getElem_cons_zero] at a7 a8
 rw[hn] at a1
 refine ⟨id,off,cc,vl,E,a1,a2,a4,a5,a6,aF a7 0 (by omega),aF a7 1 (by omega),hS,fun qi q M hq hM=> ?_⟩
 have hM:M=hp [(.o id,.cells true (cc.set (off+1) (ii qi)))] 0 m:=by rw[hM,←bX a5,aa]
 have hg:M.get id=some (.cells true (cc.set (off+1) (ii qi))):=by rw[hM];exact (aE a5).trans aq
 have hCh:Chg [id] m M:=by rw[hM];exact (dg _ _ _).weak (by simp[aC])
 obtain ⟨u1,u2⟩:=h.rows (K':=(y.1,q)::K) (by rw[a2];exact hCh) ⟨C0++ [[vl,ii qi]],by
  have:=a8 [(1,ii qi)] M (by simp) hg (hCh.old a5)
  rw[List.set_append_right _ _ (by omega),Nat.sub_self] at this
  exact this,by rw[List.reverse_cons];exact hC0.app ⟨vl,E,by rw[hq],hS⟩⟩
 exact ⟨u1,u2,hg,hCh⟩
theorem Bod.push (h:Bod mk B m b pl nm vv ns x) (hC1:Chg [] m m1) {v:NV} (hCk:StkC B x.K.reverse C) (hP2:aY B M2 pl' 2 (C++ [[v,ii 0]])) (hC2:Chg (ids pl) m1 M2) (hF2:∀i∈ids pl',i∈ids pl∨¬am m1 i) (hS:SS B (fun _=>True) v l E) {M:NH} (hM:M=M2.put b (.cells true (mk pl' nm vv x.s))):
 Bod mk B M b pl' nm vv ns ⟨(l,0)::x.K,x.v,x.s⟩/\EvF (ec b pl nm vv) (ec b pl' nm vv) m M:=by
 have ob2:=hC2.old (hC1.old h.o)
 have hM:M=hp [(.o b,.cells true (mk pl' nm vv x.s))] 0 M2:=by rw[hM,←bX ob2,aa]
 have hC3:Chg [b] M2 M:=by rw[hM];exact (dg _ _ _).weak (by simp[aC])
 have hCm2:Chg (ids pl) m M2:=(hC1.weak (by simp)).trans hC2 fun i hi _=>hi
 have hbp:b∉ids pl':=fun q=>(hF2 b q).elim h.d1.1 fun q=>q (hC1.old h.o)
 have hCm:Chg (ec b pl nm vv) m M:=(hCm2.weak fun i hi _=>by simp[ec,hi]).trans hC3 fun i hi _=>by have hi:=one hi;subst hi;simp[ec]
 refine h.putP (x':=⟨(l,0)::x.K,x.v,x.s⟩) ?_ hCm ⟨_,hP2.chg hC3 fun i hi q=> ?_, ?_⟩ ?_ ?_ ?_ rfl
 ·rw[hM];exact (aE ob2).trans aq
 ·have q:=one q;subst q;exact hbp hi
 ·rw[List.reverse_cons]
  exact hCk.app ⟨v,E,rfl,hS⟩
 ·exact (h.v.chg hCm2 fun i hi q=>(h.d2 i q).1 hi).chg hC3 fun i hi q=>by have q:=one q;subst q;exact h.d1.2.1 hi
 ·intro i hi
  have ho:=h.n.sl.old i hi
  exact (hC3.get (hCm2.old ho) (fun q=>by have q:=one q;subst q;exact h.d1.2.2 hi)).trans (hCm2.get ho fun q=>(h.d2 i q).2 hi)
 ·exact fun i hi=>(hF2 i hi).imp id fun q ho=>q (hC1.old ho)
theorem Gb (t:Stm) (K:rS) (v:List Int) (s:Int) (K':rS):ek cs ns t ⟨K',v,s⟩ z=(⟨K',(ek cs ns t ⟨K,v,s⟩ z).1.v,(ek cs ns t ⟨K,v,s⟩ z).1.s⟩,(ek cs ns t ⟨K,v,s⟩ z).2):=by
 unfold ek
 split
 ·rfl
 split
 ·rfl
 split
 ·split<;>rfl
 split<;>rfl
def Hh (x:Bd):Prop:=x.s=0∨(x.s=1/\x.K= [])∨x.s=2
theorem O9:∀(k:Nat) (x:Bd) (z:Mc),x.s=0->Hh (lC cs ns k x z).2.1:=by
 intro k
 induction k with
 |zero=>
  intro x z h
  rw[lC]
  split
  ·exact Or.inr (Or.inl ⟨rfl,rfl⟩)
  ·exact Or.inr (Or.inr rfl)
 |succ k ih=>
  intro x z h
  rw[lC]
  split
  ·exact Or.inr (Or.inl ⟨rfl,rfl⟩)
  ·split
   ·exact Or.inl ((n5 _).2.trans h)
   ·refine ih _ _ ?_
    rw[←h]
    unfold bH
    split
    ·rfl
    split
    ·split<;>rfl
    split<;>rfl
theorem CI (h:Hh x):Hh (cF cs ns x z).2.1:=by
 unfold cF
 split
 ·exact O9 _ _ _ ‹_›
 ·exact h
set_option maxHeartbeats 4000000 in
set_option maxRecDepth 20000 in
theorem OH (hc:Sl B vc 2 (lU cs)) (hcs:CsOk cs) {o:Nat} (ho:o<=1000000) (h3:Hh x) (h:da (fR vc vt vr rec vth) iS B m m cs ns r b (cR r vcl vo++ec b pl nm vv) vcl vo pl nm vv x z o):
 ∃m',rT 49 [.ptr r 0,.ptr b 0] m (.bool (cF cs ns x z).1) m'/\∃vo' pl',da (fR vc vt vr rec vth) iS B m m' cs ns r b (cR r vcl vo++ec b pl nm vv) vcl vo' pl' nm vv (cF cs ns x z).2.1 (cF cs ns x z).2.2 (o+1):=by
 refine WF.ex1 fun K' hK'=> ?_
 refine WF.of_wpG (fun _=>rfl) E0 (L:= [(.a .e,.ptr b 0),(.e,.ptr r 0)]) rfl ?_
 unfold Ra
 generalize hR:cF cs ns x z=R at hK'
 generalize hF0:cR r vcl vo++ec b pl nm vv=F0 at h hK'
 simp (disch:=first|assumption|omega|(simp only[aG]<;>omega)) only[go_sem,seval,aa]
 refine W.loop (fun k d=>∃t M pl vo x z n,d=⟨t, [],none,M⟩/\NT.get D4.e t=some (.ptr r 0)/\NT.get D4.e.a t=some (.ptr b 0)/\NT.get D4.e.a.a t=some (ii (n:Nat))/\da (fR vc vt vr rec vth) iS B m M cs ns r b F0 vcl vo pl nm vv x z o/\((x.s=0/\n+k=1001/\n<=1000/\lC cs ns (1000 - n) x z=R)∨(x.s≠0/\Hh x/\(false,x,z)=R))) ?_ 1001 _ ⟨_,m,pl,vo,x,z,0,rfl,by exact gq rfl,by exact gq rfl,by exact gq rfl,h, ?_⟩
 ·clear h hF0 hR h3
  rintro k d ⟨t,M,pl,vo,x,z,n,rfl,t1,t2,t3,h,hh⟩
  apply ax
  unfold EF
  change wp _ _ _ _ ⟨ah [] t, [],none,M⟩ _
  have ob:=h.bd.o
  by_cases hs2:x.s=2
  ·rcases hh with ⟨hs,-⟩|⟨hs,hst,hR⟩
   ·omega
   ·have g:M.get b=some (.cells true [nm,vv,pl,.bool true,.bool false]):=h.bd.g.trans (by rw[hs2];rfl)
    rw[←aa M]
    simp (disch:=first|assumption|omega|(simp only[aG]<;>omega)) only[go_sem,seval,t1,t2,t3,g]
    generalize hM2:hp _ 0 M=M2
    obtain ⟨hb2,e2⟩:=h.bd.state (s':=2) (m':=M2) (kR ob hM2) (li hM2 (by simp[aC]))
    subst hR
    have ex:(⟨x.K,x.v,2⟩:Bd)=x:=by rw[←hs2]
    rw[ex] at hb2
    exact hK' _ ⟨vo,pl,h.mc.ev e2 h.dj fun i hi=>(h.bd.old i hi).2,hb2,h.dj,h.bk,h.zk,Nat.le_succ_of_le h.ol,h.ev.trans (e2.addR _)⟩
  ·obtain ⟨M1,r1,pl1,hb1,e1⟩:=Q8 h.bd h.bk
   have hdd:∀i∈cR r vcl vo,i∉ec b pl1 nm vv:=fun i hi q=>(e1.f i q).elim (h.dj i hi) fun q=>q (h.mc.old i hi).1
   have hM1:=h.mc.ev e1 h.dj fun i hi=>(h.bd.old i hi).2
   have hk1:=h.bk.trim
   have gM:=hM1.g
   have oB:=hb1.o
   have oM:=hM1.o
   have hrb:r≠b:=fun e=>hdd r (by simp[cR]) (by rw[e];simp[ec])
   have g:M.get b=some (.cells true [nm,vv,pl,.bool false,.bool (decide (x.s=1))]):=h.bd.g.trans (by simp[iS,hs2])
   have g1:M1.get b=some (.cells true [nm,vv,pl1,.bool false,.bool (decide (x.s=1))]):=hb1.g.trans (by simp[iS,hs2])
   cases hT:bT x.K with
   |nil=>
    rw[hT,Xd rfl] at r1
    rw[hT] at hb1 hk1
    simp (disch:=first|assumption|omega|(simp only[aG]<;>omega)) only[go_sem,seval,t1,t2,t3,g,r1.wf,g1]
    generalize hM2:hp _ 0 M1=M2
    obtain ⟨hb2,e2⟩:=hb1.state (s':=1) (m':=M2) (kR oB hM2) (li hM2 (by simp[aC]))
    have hR:(false,(⟨[],x.v,1⟩:Bd),z)=R:=by
     rcases hh with ⟨hs,-,-,hR⟩|⟨hs,hst,hR⟩
     ·rw[jo hT] at hR;exact hR
     ·rcases hst with q|⟨q1,q2⟩|q
      ·exact W9 q hs
      ·rw[←hR];obtain ⟨K,v,s⟩:=x;simp only at q1 q2;subst q1 q2;rfl
      ·exact W9 q hs2
    subst hR
    exact hK' _ ⟨vo,pl1,hM1.ev e2 hdd fun i hi=>(hb1.old i hi).2,hb2,hdd,⟨hk1.ch,hk1.gs,hk1.pos,hk1.iv,hk1.ln,hk1.lv⟩,h.zk,Nat.le_succ_of_le h.ol,(h.ev.trans (e1.addR _)).trans (e2.addR _)⟩
   |cons y K=>
    rw[hT,Xc (by simp)] at r1
    rw[hT] at hb1 hk1
    obtain ⟨hs,hnk,hn,hR⟩:x.s=0/\n+k=1001/\n<=1000/\lC cs ns (1000 - n) x z=R:=by
     rcases hh with q|⟨q1,q2,-⟩
     ·exact q
     ·rcases q2 with q|⟨-,q⟩|q
      ·exact W9 q q1
      ·rw[q] at hT;cases hT
      ·exact W9 q hs2
    by_cases h1000:n=1000
    ·subst h1000
     rw[ml hT] at hR
     have hbr:=hrb.symm
     simp (disch:=first|assumption|omega|(simp only[aG]<;>omega)) only[go_sem,seval,t1,t2,t3,g,r1.wf,g1,gM]
     generalize hMe:hp _ 0 M1=Me
     have hMe:Me=((M1.put b (.cells true (iS pl1 nm vv 2))).put r (.cells true (fR vc vt vr rec vth vcl vo true))).put b (.cells true (iS pl1 nm vv 2)):=by
      rw[←hMe,←aa M1,bX oB,bX oM,bX oB,aa]
      rfl
     generalize hMa:M1.put b (.cells true (iS pl1 nm vv 2))=Ma at hMe
     have hMa:Ma=hp [(.o b,.cells true (iS pl1 nm vv 2))] 0 M1:=by rw[←hMa,←bX oB,aa]
     obtain ⟨hba,ea⟩:=hb1.state (s':=2) (m':=Ma) (by rw[hMa];exact (aE oB).trans aq) (by rw[hMa];exact (dg _ _ _).weak (by simp[aC]))
     have hma:=hM1.ev ea hdd fun i hi=>(hb1.old i hi).2
     have oMa:=hma.o
     generalize hMb:Ma.put r (.cells true (fR vc vt vr rec vth vcl vo true))=Mb at hMe
     have hMb:Mb=hp [(.o r,.cells true (fR vc vt vr rec vth vcl vo true))] 0 Ma:=by rw[←hMb,←bX oMa,aa]
     obtain ⟨hmb,eb⟩:=hma.sick (m':=Mb) (by rw[hMb];exact (aE oMa).trans aq) (by rw[hMb];exact (dg _ _ _).weak (by simp[aC]))
     have hbb:=hba.ev eb (fun i hi q=>hdd i q hi) fun i hi=>(hma.old i hi).2
     have oBb:=hbb.o
     have hMe:Me=hp [(.o b,.cells true (iS pl1 nm vv 2))] 0 Mb:=by rw[hMe,←bX oBb,aa]
     obtain ⟨hbe,ee⟩:=hbb.state (s':=2) (m':=Me) (by rw[hMe];exact (aE oBb).trans aq) (by rw[hMe];exact (dg _ _ _).weak (by simp[aC]))
     have hme:=hmb.ev ee hdd fun i hi=>(hbb.old i hi).2
     subst hR
     exact hK' _ ⟨vo,pl1,hme,hbe,hdd,⟨hk1.ch,hk1.gs,hk1.pos,hk1.iv,hk1.ln,hk1.lv⟩,⟨h.zk.iv,h.zk.io,h.zk.n⟩,Nat.le_succ_of_le h.ol,(((h.ev.trans (e1.addR _)).trans (ea.addR _)).trans (eb.addL _)).trans (ee.addR _)⟩
    ·have e1000:1000 - n=(999 - n)+1:=by omega
     obtain ⟨bb1,bb2,bb3⟩:=hk1.bnd rfl
     have hy:y.2<y.1.length:=by
      have:∀K0:rS,bT K0=y::K->y.2<y.1.length:=by
       intro K0
       induction K0 with
       |nil=>intro q;cases q
       |cons a K0 ih=>
        intro q
        rw[bT] at q
        split at q
        ·cases q;assumption
        ·exact ih q
      exact this _ hT
     have hGs:=hk1.gs y (by simp) _ (List.getElem_mem hy)
     obtain ⟨id,off,cc,vl,E,a1,a2,a3,a4,a5,c0,c1,hS,hset⟩:=hb1.tops rfl
     obtain ⟨w,hw,idt,offt,wrt,c,W,rfl,p1,p2,p3,p4,hSP⟩:=hS.ptr y.2 hy
     have p11:=(hM1.c.get p2 (by simp)).trans p1
     rw[e1000,mC hT,zz hy] at hR
     have hbe:=OD y.1[y.2]
     have hzm:=Ks (List.getElem_mem hy)
     have hcq:=hk1.quiet (y:=y) (K:=K) rfl hy
     generalize y.1[y.2]=tt at *
     have hpl:=(hb1.p.choose_spec.1).sl.len
     rw[(hb1.p.choose_spec.2).n,List.length_reverse,List.length_cons] at hpl
     have hpl1:(((K.length+1:Nat):Int) - 1)=(K.length:Nat):=by omega
     have hvls:=hS.sl.same (n:=3)
     have hpls:=(hb1.p.choose_spec.1).sl.same (n:=3)
     generalize hM2:hp [(.n 0,.cells true (tt.l W)),(.n 0,.cells true [ii 0,ii 0,.str [],.str [],ii 0,iu 0,ib 0,.str [],.nils,ii 0,iu 0,ib 0,.str [],.nils,ii 0,iu 0,ib 0,.str [],.nils,.nils,.nils])] 1 M1=M2
     have hC2:Chg [] M1 M2:=aR hM2 rfl
     have q2:M2.get (na M1 0)=some (.cells true (tt.l W)):=bu hM2
     have u2:am M2 (na M1 0):=bt hM2 (by omega)
     have hb2:=hb1.grow hC2
     have hm2:=hM1.grow hC2
     obtain ⟨id',off',cc',vl',E',b1,b2,b3,b4,b5,d0,d1,-,hset2⟩:=hb2.tops rfl
     rw[a1] at b1
     cases b1
     obtain ⟨M3,hM3⟩:∃M3,M3=M2.put id (.cells true (cc'.set (off+1) (ii ((y.2:Int)+1)))):=⟨_,rfl⟩
     obtain ⟨hb3,e3,b33,hC3⟩:=hset2 _ (y.2+1) M3 (by omega) hM3
     have hm3:=hm2.ev e3 hdd fun i hi=>(hb2.old i hi).2
     have hnid:na M1 0≠id:=fun e=>aA (e▸a4)
     have q3:=(hC3.get u2 (by simpa using hnid)).trans q2
     have u3:=hC3.old u2
     have g3:M3.get b=some (.cells true [nm,vv,pl1,.bool false,.bool (decide (x.s=1))]):=hb3.g.trans (by simp[iS,hs2])
     have hk3:BdOk cs ns ⟨(y.1,y.2+1)::K,x.v,x.s⟩:=hk1.pass rfl hy
     obtain ⟨gg1,gg2,gg3,gg4⟩:=mq hGs
     obtain ⟨M4,r4,hC4⟩:=pV tt.x hSP.x (kQ hm3.c _) gg3 (hb3.env hk3)
     have hb4:=hb3.grow hC4
     have hm4:=hm3.grow hC4
     have q4:=(hC4.get u3 (by simp)).trans q3
     have u4:=hC4.old u3
     have g4:M4.get b=some (.cells true [nm,vv,pl1,.bool false,.bool (decide (x.s=1))]):=hb4.g.trans (by simp[iS,hs2])
     have hsX:=fO hSP.x
     have hnn:=hb1.n.sl.same (n:=3)
     have hvv:=hb1.v.sl.same (n:=3)
     have eF:EvF F0 (cR r vcl vo++ec b pl1 nm vv) m M4:=(((h.ev.trans (e1.addR _)).post hC2).trans (e3.addR _)).post hC4
     have hids4:∀j∈ids pl1,j≠na M1 0:=fun j hj e=>aA (e▸(hb1.p.choose_spec.1).sl.old j hj)
     by_cases k0:tt.k=0
     ·rw[Xa (by unfold iO;omega)] at hR
      unfold bH at hR hcq
      rw[Xa (by omega),Xa (by omega),Xb k0] at hR hcq
      obtain ⟨M5,r5,hC5⟩:=pV tt.x hSP.x (kQ hm4.c _) gg3 (hb4.env hk3)
      have hb5:=hb4.grow hC5
      have hm5:=hm4.grow hC5
      have q5:=(hC5.get u4 (by simp)).trans q4
      have g5:M5.get b=some (.cells true [nm,vv,pl1,.bool false,.bool (decide (x.s=1))]):=hb5.g.trans (by simp[iS,hs2])
      obtain ⟨M6,r6,hb6,e6⟩:=uA hb5 hk3 tt.nm (tt.x.eval ns x.v)
      have q6:=(e6.c.get (hC5.old u4) (fun w=>aA (hb1.old _ w).1)).trans q5
      simp (disch:=first|assumption|omega|(simp only[aG]<;>omega)) only[go_sem,seval,t1,t2,t3,g,r1.wf,g1,hpl,hpl1,a1,a3,c0,c1,hw,p11,p4,hM2,b3,d1,hM3.symm,q3,g3,hsX,hnn,hvv,hvls,hpls,r4.wf',q4,g4,r5.wf',q5,g5,r6.wf',q6]
      exact ⟨k - 1,by omega,_,M6,pl1,vo,_,z,n+1,by rfl,by exact gq t1,by exact gq t2,by exact gq rfl,⟨hm5.ev e6 hdd fun i hi=>(hb5.old i hi).2,hb6,hdd,hcq,h.zk,h.ol,(eF.post hC5).trans (e6.addR _)⟩,Or.inl ⟨hs,by omega,by omega,by rw[show 1000 - (n+1)=999 - n by omega];exact hR⟩⟩
     by_cases k6:tt.k=6
     ·rw[Xa (by unfold iO;omega)] at hR
      unfold bH at hR hcq
      rw[Xb k6] at hR hcq
      obtain ⟨C4,hP4,hCk4⟩:=hb4.p
      have hn4:=hCk4.n
      rw[List.length_reverse,List.length_cons] at hn4
      have hC5:∀v,Chg [] M4 (hp [(.n 0,.cells true [v,ii 0])] 1 M4):=fun v=>aI rfl
      obtain ⟨Eb,hSb⟩:=hSP.b
      obtain ⟨Ee,hSe⟩:=hSP.e
      have hvb:=hSb.sl.one
      have hve:=hSe.sl.one
      have hvbs:=hSb.sl.same (n:=3)
      have hves:=hSe.sl.same (n:=3)
      by_cases hz:tt.x.eval ns x.v≠0
      ·rw[Xb hz] at hR hcq
       simp (disch:=first|assumption|omega|(simp only[aG]<;>omega)) only[go_sem,seval,t1,t2,t3,g,r1.wf,g1,hpl,hpl1,a1,a3,c0,c1,hw,p11,p4,hM2,b3,d1,hM3.symm,q3,g3,hsX,hnn,hvv,hvls,hpls,r4.wf,q4,g4,hvb,hvbs]
       have hC5':=hC5 W.vb
       refine dp (cs:= [W.vb,ii 0]) (hP4.chg hC5' fun _ _=>by simp) bI (bN (by omega)) rfl (fun i hi=>hC5'.old (hb4.c.old hi)) (by omega) (by omega) ?_
       intro pl6 M6 hP6 hC6 hF6
       have g6:M6.get b=some (.cells true [nm,vv,pl1,.bool false,.bool (decide (x.s=1))]):=((hC6.get (hC5'.old hb4.o) hb4.d1.1).trans ((hb4.grow hC5').g)).trans (by simp[iS,hs2])
       have q6:=(hC6.get (hC5'.old u4) (fun w=>hids4 _ w rfl)).trans ((hC5'.get u4 (by simp)).trans q4)
       have hp6:=hP6.sl.one
       simp (disch:=first|assumption|omega|(simp only[aG]<;>omega)) only[go_sem,seval,aa,g6,q6,hp6,t3]
       generalize hM7:M6.put b _=M7
       obtain ⟨hb7,e7⟩:=hb4.push hC5' hCk4 hP6 hC6 hF6 hSb (M:=M7) (by rw[←hM7];simp[iS,hs])
       have hdd7:∀i∈cR r vcl vo,i∉ec b pl6 nm vv:=fun i hi q=>(e7.f i q).elim (hdd i hi) fun q=>q (hm4.old i hi).1
       exact ⟨k - 1,by omega,_,M7,pl6,vo,_,z,n+1,by rfl,by exact gq t1,by exact gq t2,by exact gq rfl,⟨hm4.ev e7 hdd fun i hi=>(hb4.old i hi).2,hb7,hdd7,hcq,h.zk,h.ol,eF.trans (e7.addR _)⟩,Or.inl ⟨hs,by omega,by omega,by rw[show 1000 - (n+1)=999 - n by omega];exact hR⟩⟩
      ·rw[Xa hz] at hR hcq
       simp (disch:=first|assumption|omega|(simp only[aG]<;>omega)) only[go_sem,seval,t1,t2,t3,g,r1.wf,g1,hpl,hpl1,a1,a3,c0,c1,hw,p11,p4,hM2,b3,d1,hM3.symm,q3,g3,hsX,hnn,hvv,hvls,hpls,r4.wf,q4,g4,hve,hves]
       have hC5':=hC5 W.ve
       refine dp (cs:= [W.ve,ii 0]) (hP4.chg hC5' fun _ _=>by simp) bI (bN (by omega)) rfl (fun i hi=>hC5'.old (hb4.c.old hi)) (by omega) (by omega) ?_
       intro pl6 M6 hP6 hC6 hF6
       have g6:M6.get b=some (.cells true [nm,vv,pl1,.bool false,.bool (decide (x.s=1))]):=((hC6.get (hC5'.old hb4.o) hb4.d1.1).trans ((hb4.grow hC5').g)).trans (by simp[iS,hs2])
       have q6:=(hC6.get (hC5'.old u4) (fun w=>hids4 _ w rfl)).trans ((hC5'.get u4 (by simp)).trans q4)
       have hp6:=hP6.sl.one
       simp (disch:=first|assumption|omega|(simp only[aG]<;>omega)) only[go_sem,seval,aa,g6,q6,hp6,t3]
       generalize hM7:M6.put b _=M7
       obtain ⟨hb7,e7⟩:=hb4.push hC5' hCk4 hP6 hC6 hF6 hSe (M:=M7) (by rw[←hM7];simp[iS,hs])
       have hdd7:∀i∈cR r vcl vo,i∉ec b pl6 nm vv:=fun i hi q=>(e7.f i q).elim (hdd i hi) fun q=>q (hm4.old i hi).1
       exact ⟨k - 1,by omega,_,M7,pl6,vo,_,z,n+1,by rfl,by exact gq t1,by exact gq t2,by exact gq rfl,⟨hm4.ev e7 hdd fun i hi=>(hb4.old i hi).2,hb7,hdd7,hcq,h.zk,h.ol,eF.trans (e7.addR _)⟩,Or.inl ⟨hs,by omega,by omega,by rw[show 1000 - (n+1)=999 - n by omega];exact hR⟩⟩
     by_cases k7:tt.k=7
     ·rw[Xa (by unfold iO;omega)] at hR
      unfold bH at hR hcq
      rw[Xa k6,Xb k7] at hR hcq
      by_cases hz:tt.x.eval ns x.v≠0
      ·rw[Xb hz] at hR hcq
       obtain ⟨id4,off4,cc4,vl4,E4,f1,f2,f3,f4,f5,f6,f7,-,hset4⟩:=hb4.tops rfl
       rw[a1] at f1
       cases f1
       obtain ⟨M5,hM5⟩:∃M5,M5=M4.put id (.cells true (cc4.set (off+1) (ii (((y.2+1:Nat):Int) - 1)))):=⟨_,rfl⟩
       obtain ⟨hb5,e5,-,hC45⟩:=hset4 _ y.2 M5 (by omega) hM5
       have hm5:=hm4.ev e5 hdd fun i hi=>(hb4.old i hi).2
       have q5:=(hC45.get u4 (by simpa using hnid)).trans q4
       have u5:=hC45.old u4
       have g5:M5.get b=some (.cells true [nm,vv,pl1,.bool false,.bool (decide (x.s=1))]):=hb5.g.trans (by simp[iS,hs2])
       have hM5':M4.put id (.cells true (cc4.set (off+1) (ii (((y.2+1:Nat):Int) - 1))))=hp [] 0 M5:=by rw[aa,hM5]
       obtain ⟨C4,hP4,hCk4⟩:=hb5.p
       have hn4:=hCk4.n
       rw[List.length_reverse,List.length_cons] at hn4
       have hC5:∀v,Chg [] M5 (hp [(.n 0,.cells true [v,ii 0])] 1 M5):=fun v=>aI rfl
       obtain ⟨Eb,hSb⟩:=hSP.b
       have hvb:=hSb.sl.one
       have hvbs:=hSb.sl.same (n:=3)
       have eF5:=eF.trans (e5.addR _)
       simp (disch:=first|assumption|omega|(simp only[aG]<;>omega)) only[go_sem,seval,t1,t2,t3,g,r1.wf,g1,hpl,hpl1,a1,a3,c0,c1,hw,p11,p4,hM2,b3,d1,hM3.symm,q3,g3,hsX,hnn,hvv,hvls,hpls,r4.wf',q4,g4,f3,f7,hM5',q5,g5,hvb,hvbs]
       have hC5':=hC5 W.vb
       refine dp (cs:= [W.vb,ii 0]) (hP4.chg hC5' fun _ _=>by simp) bI (bN (by omega)) rfl (fun i hi=>hC5'.old (hb5.c.old hi)) (by omega) (by omega) ?_
       intro pl6 M6 hP6 hC6 hF6
       have g6:M6.get b=some (.cells true [nm,vv,pl1,.bool false,.bool (decide (x.s=1))]):=((hC6.get (hC5'.old hb5.o) hb5.d1.1).trans ((hb5.grow hC5').g)).trans (by simp[iS,hs2])
       have q6:=(hC6.get (hC5'.old u5) (fun w=>hids4 _ w rfl)).trans ((hC5'.get u5 (by simp)).trans q5)
       have hp6:=hP6.sl.one
       simp (disch:=first|assumption|omega|(simp only[aG]<;>omega)) only[go_sem,seval,aa,g6,q6,hp6,t3]
       generalize hM7:M6.put b _=M7
       obtain ⟨hb7,e7⟩:=hb5.push hC5' hCk4 hP6 hC6 hF6 hSb (M:=M7) (by rw[←hM7];simp[iS,hs])
       have hdd7:∀i∈cR r vcl vo,i∉ec b pl6 nm vv:=fun i hi q=>(e7.f i q).elim (hdd i hi) fun q=>q (hm5.old i hi).1
       exact ⟨k - 1,by omega,_,M7,pl6,vo,_,z,n+1,by rfl,by exact gq t1,by exact gq t2,by exact gq rfl,⟨hm5.ev e7 hdd fun i hi=>(hb5.old i hi).2,hb7,hdd7,hcq,h.zk,h.ol,eF5.trans (e7.addR _)⟩,Or.inl ⟨hs,by omega,by omega,by rw[show 1000 - (n+1)=999 - n by omega];exact hR⟩⟩
      ·rw[Xa hz] at hR hcq
       simp (disch:=first|assumption|omega|(simp only[aG]<;>omega)) only[go_sem,seval,t1,t2,t3,g,r1.wf,g1,hpl,hpl1,a1,a3,c0,c1,hw,p11,p4,hM2,b3,d1,hM3.symm,q3,g3,hsX,hnn,hvv,hvls,hpls,r4.wf',q4,g4]
       exact ⟨k - 1,by omega,_,M4,pl1,vo,_,z,n+1,by rfl,by exact gq t1,by exact gq t2,by exact gq rfl,⟨hm4,hb4,hdd,hcq,h.zk,h.ol,eF⟩,Or.inl ⟨hs,by omega,by omega,by rw[show 1000 - (n+1)=999 - n by omega];exact hR⟩⟩
     by_cases hA:iO tt
     ·rw[Xb hA] at hR
      obtain ⟨M5,r5,vo5,hm5,hb5,e5,hd5⟩:=Tj hm4 hb4 hdd hk3 hc hcs h.zk (by have:=h.ol;omega) hSP hGs hA
      obtain ⟨w1,w2,w3⟩:=CG hk3 h.zk hGs
      rw[Gb (cs:=cs) (ns:=ns) (z:=z) tt (y::K) x.v x.s ((y.1,y.2+1)::K)] at hm5 hb5 w1 w2 w3
      have hsT:=EP hSP
      subst hR
      have hGo:da (fR vc vt vr rec vth) iS B m M5 cs ns r b F0 vcl vo5 pl1 nm vv (jx cs ns tt ⟨y::K,x.v,x.s⟩ z).1 (jx cs ns tt ⟨y::K,x.v,x.s⟩ z).2 (o+1):=by
       have eK:=(n5 (cs:=cs) (ns:=ns) (z:=z) (x:=⟨y::K,x.v,x.s⟩) tt).1
       unfold jx
       rw[eK]
       exact ⟨hm5,hb5,hd5,w1,w2,Nat.le_trans w3 (by have:=h.ol;omega),eF.trans e5⟩
      have hA':=hA
      rcases hA' with hk|hk|hk|hk
      all_goals
       simp (disch:=first|assumption|omega|(simp only[aG]<;>omega)) only[go_sem,seval,t1,t2,t3,g,r1.wf,g1,hpl,hpl1,a1,a3,c0,c1,hw,p11,p4,hM2,b3,d1,hM3.symm,q3,g3,hsX,hnn,hvv,hvls,hpls,r4.wf',q4,g4,hsT,r5.wf']
       exact hK' _ ⟨vo5,pl1,hGo⟩
     ·rw[Xa hA] at hR
      unfold iO at hA
      simp only[not_or] at hA
      unfold bH at hR hcq
      rw[Xa k6,Xa k7,Xa k0] at hR hcq
      simp (disch:=first|assumption|omega|(simp only[aG]<;>omega)) only[go_sem,seval,t1,t2,t3,g,r1.wf,g1,hpl,hpl1,a1,a3,c0,c1,hw,p11,p4,hM2,b3,d1,hM3.symm,q3,g3,hsX,hnn,hvv,hvls,hpls,r4.wf',q4,g4]
      exact ⟨k - 1,by omega,_,M4,pl1,vo,_,z,n+1,by rfl,by exact gq t1,by exact gq t2,by exact gq rfl,⟨hm4,hb4,hdd,hcq,h.zk,h.ol,eF⟩,Or.inl ⟨hs,by omega,by omega,by rw[show 1000 - (n+1)=999 - n by omega];exact hR⟩⟩
 ·by_cases hs:x.s=0
  ·refine Or.inl ⟨hs,by omega,by omega, ?_⟩
   rw[←hR,cF,Xb hs]
  ·refine Or.inr ⟨hs,h3, ?_⟩
   rw[←hR,cF,Xa hs]
end
section
variable {p:Prg} {B m m':NH} {vc vt vr vcl vo vth:NV} {r:D4} {x:Rn} {o:Nat} {q:Bl} {bs:List Bl} {z:Mc}
def iy (p:Prg) (B:NH) (vc vt vr:NV) (m:NH) (r:D4) (x:Rn) (o:Nat) (F:List D4):Prop:=
 (x.ph=false/\x.th=p.ts.map (fun t=>kU t.2)/\Hh x.rc/\∃vcl vo q,RunG (fR vc vt vr (.ptr q.b 0) .nils) iS ⟨p.cs, [],p.r⟩ B m r ⟨false,x.rc, [],x.z⟩ o vcl vo .nils q []/\F=RunG.foot r vcl vo .nils q [])∨
 (x.ph=true/\(∀y∈x.th,Hh y)/\∃vcl vo vth q bs,RunG (fR vc vt vr .nilp vth) iS p B m r x o vcl vo vth q bs/\F=RunG.foot r vcl vo vth q bs)
theorem RunG.more {f:NV->NV->Bool->List NV} {mk:NV->NV->NV->Int->List NV} (h:RunG f mk p B m r x o vcl vo vth q bs) (ho:o<=o'):RunG f mk p B m r x o' vcl vo vth q bs:=⟨h.mc,h.rb,h.rk,h.tv,h.ln,h.tb,h.d0,h.d1,h.d2,h.d3,h.zk,Nat.le_trans h.ol ho⟩
theorem In (hc:RunC p B vc vt vr) (ho:o<=1000000) (h:RunG (fR vc vt vr .nilp vth) iS p B m r x o vcl vo vth q bs) (hst:∀y∈x.th,Hh y) (hk:k<x.th.length):
 ∃t,bs[k]? =some t/\(∃id off w c,ix 1 vth (ii (k:Nat))= .val (.ptr id off)/\m.get id=some (.cells w c)/\c[off]? =some (.ptr t.b 0))/\∃m',rT 49 [.ptr r 0,.ptr t.b 0] m (.bool (cF p.cs (locals (bL p k)) ((x.th[k]?).getD (kU [])) x.z).1) m'/\∃vo' bs',RunG (fR vc vt vr .nilp vth) iS p B m' r ⟨x.ph,x.rc,x.th.set k (cF p.cs (locals (bL p k)) ((x.th[k]?).getD (kU [])) x.z).2.1,(cF p.cs (locals (bL p k)) ((x.th[k]?).getD (kU [])) x.z).2.2⟩ (o+1) vcl vo' vth q bs'/\EvF (RunG.foot r vcl vo vth q bs) (RunG.foot r vcl vo' vth q bs') m m'/\∀y∈x.th.set k (cF p.cs (locals (bL p k)) ((x.th[k]?).getD (kU [])) x.z).2.1,Hh y:=by
 have hkb:k<bs.length:=by rw[h.ln.1,←h.ln.2];exact hk
 have h1:=List.getElem?_eq_getElem hkb
 have h2:=List.getElem?_eq_getElem hk
 obtain ⟨id,off,w,c,a1,a2,a3,a4,a5⟩:=h.tv.sl.at k (by simpa using hkb)
 rw[List.getElem_map] at a5
 rw[h2]
 simp only[Option.getD_some]
 have h3:=hst _ (List.getElem_mem hk)
 obtain ⟨m1,r1,vo',pl',hG⟩:=OH hc.rp.c hc.cs ho h3 (h.goT h1 h2)
 refine ⟨bs[k],h1,⟨id,off,w,c,a1,a2,aF a5 0 (by omega)⟩,m1,r1,vo',_,h.thread h1 hG,RunG.evT h1 hG.ev,fun y hy=> ?_⟩
 rcases List.mem_or_eq_of_mem_set hy with hy|rfl
 ·exact hst y hy
 ·exact CI h3
theorem IC (l:List Stm):Hh (kU l):=Or.inl rfl
set_option maxHeartbeats 1000000 in
theorem PK (hc:RunC p B vc vt vr) (ho:o+1<=1000000) (h:iy p B vc vt vr m r x o F) (c:Int):
 ∃m',rT 15 [.ptr r 0,ii c] m (.bool (ld p c x).1) m'/\∃F',iy p B vc vt vr m' r (ld p c x).2 (o+2) F'/\EvF F F' m m':=by
 refine WF.ex1 fun K' hK'=> ?_
 refine WF.of_wpG (fun _=>rfl) DO (L:= [(.a .e,ii c),(.e,.ptr r 0)]) rfl ?_
 unfold PT
 have hnt:=hc.nt
 obtain ⟨CT,hT⟩:=hc.rp.t
 have hlt:=hT.sl.len
 rw[hT.len] at hlt
 unfold ld at hK'
 rcases h with ⟨hph,hth,hst,vcl,vo,q,h,rfl⟩|⟨hph,hst,vcl,vo,vth,q,bs,h,rfl⟩
 ·have g:=h.mc.g
  simp only[hph,Bool.false_eq_true,if_false] at hK'
  obtain ⟨m1,r1,vo1,pl1,hG⟩:=OH hc.rp.c hc.cs (by omega) hst h.goR
  have h1:=h.recov hG
  have e1:EvF (RunG.foot r vcl vo .nils q []) (RunG.foot r vcl vo1 .nils ⟨q.b,pl1,q.nm,q.vv⟩ []) m m1:=RunG.evR hG.ev
  have hst1:Hh (cF p.cs (locals p.r) x.rc x.z).2.1:=CI hst
  simp only at r1 h1
  have g1:=h1.mc.g
  have gb1:=h1.rb.g
  have oM:=h1.mc.o
  cases hb:(cF p.cs (locals p.r) x.rc x.z).1 with
  |true=>
   rw[hb] at r1
   rw[Xb hb] at hK'
   rw[aa]
   simp only[go_sem,seval,g,tp,r1.wf']
   exact hK' _ ⟨_,Or.inl ⟨rfl,hth,hst1,vcl,vo1,⟨q.b,pl1,q.nm,q.vv⟩,h1.more (o':=o+2) (by omega),rfl⟩,e1⟩
  |false=>
   have hs:=Je hb
   rw[hb] at r1
   rw[Xa (by rw[hb];simp)] at hK'
   generalize cF p.cs (locals p.r) x.rc x.z=R at *
   obtain ⟨R1,rc,z⟩:=R
   simp only at *
   by_cases h2:rc.s=2
   ·rw[Xb h2] at hK'
    have gb:m1.get q.b=some (.cells true [q.nm,q.vv,pl1,.bool true,.bool false]):=gb1.trans (by simp[iS,h2])
    rw[aa]
    simp only[go_sem,seval,g,tp,r1.wf',g1,gb]
    exact hK' _ ⟨_,Or.inl ⟨rfl,hth,hst1,vcl,vo1,⟨q.b,pl1,q.nm,q.vv⟩,h1.more (o':=o+2) (by omega),rfl⟩,e1⟩
   ·rw[Xa h2] at hK'
    have gb:m1.get q.b=some (.cells true [q.nm,q.vv,pl1,.bool false,.bool (decide (rc.s=1))]):=gb1.trans (by simp[iS,h2])
    rw[aa]
    simp (disch:=first|assumption|omega|(simp only[aG]<;>omega)) only[go_sem,seval,g,tp,r1.wf,g1,gb]
    generalize hM2:hp _ 0 m1=M2
    obtain ⟨hq,eS⟩:=h1.start (f':=fR vc vt vr .nilp .nils) (m':=M2) true (kR oM hM2) (li hM2 (by simp[aC]))
    have eS:=e1.trans eS
    refine W.loop (fun k d=>∃t M i vth bs,d=⟨t, [],none,M⟩/\NT.get D4.e t=some (.ptr r 0)/\NT.get D4.e.a t=some (ii c)/\NT.get D4.e.a.a t=some (ii (i:Nat))/\i+k=p.ts.length/\RunG (fR vc vt vr .nilp vth) iS ⟨p.cs,p.ts.take i,p.r⟩ B M r ⟨true,rc,(p.ts.take i).map (fun t=>kU t.2),z⟩ (o+1) vcl vo1 vth ⟨q.b,pl1,q.nm,q.vv⟩ bs/\EvF (RunG.foot r vcl vo .nils q []) (RunG.foot r vcl vo1 vth ⟨q.b,pl1,q.nm,q.vv⟩ bs) m M) ?_ p.ts.length _ ⟨_,M2,0,.nils, [],rfl,by exact gq rfl,by exact gq rfl,by exact gq rfl,by omega,hq,eS⟩
    clear hq eS e1 h1 g gb gb1 g1 hG h r1 hM2
    rintro k d ⟨t,M,i,vth,bs,rfl,t1,t2,t3,hik,h,hE⟩
    apply ax
    unfold Fe
    change wp _ _ _ _ ⟨ah [] t, [],none,M⟩ _
    have g:=h.mc.g
    by_cases hi:i<p.ts.length
    ·obtain ⟨vb,E,id,off,wr,cc,hS,a1,a2,a3,a4,a5⟩:=hT.at i hi
     have a2M:=(h.mc.c.get a3 (by simp)).trans a2
     have hzt:=hc.zt _ (List.getElem_mem hi)
     have hvb:=hS.sl.one
     have s1:cc[off+1]? =some vb:=aF a5 1 (by omega)
     obtain ⟨w,m2,r2,b,pl,nm,vv,rfl,hb2,hC2,hnew⟩:=DD h.mc.c hS (by omega)
     have hM2:=h.mc.grow hC2
     have g2:=hM2.g
     have a22:=(hM2.c.get a3 (by simp)).trans a2
     have ht1:=h.tv.sl.one
     have htn:=(h.tv.sl.same (n:=3))
     have hvn:=hS.sl.same (n:=3)
     have hvt:=hT.sl.same (n:=3)
     simp (disch:=first|assumption|omega|(simp only[aG]<;>omega)) only[go_sem,seval,t1,t2,t3,g,hlt,a1,a2M,s1,r2.wf,g2,a22,htn,hvn,hvt]
     have hC3:Chg [] m2 (hp [(.n 0,.cells true [.ptr b 0])] 1 m2):=aI rfl
     have hCM3:=hC2.tr hC3
     have h3:=h.grow hCM3
     have hbl:bs.length<=1000:=by have:=h.ln.1;simp only[List.length_take] at this;omega
     refine dp (cs:= [.ptr b 0]) h3.tv bI (bN (by omega)) rfl (fun i hi=>h3.mc.c.old hi) (by simp;omega) (by simp;omega) ?_
     intro vth' M4 hv4 hC4 hF4
     have hrv:r∉ids vth:=fun u=>(h.d0 r (by simp[cR])).1 u
     have g4:=(hC4.get h3.mc.o hrv).trans h3.mc.g
     have o4:=hC4.old h3.mc.o
     have hC34:Chg [] B M4:=h3.mc.c.trans hC4 fun i hi ho=>W9 ho (h.tv.new i hi)
     have a24:=(hC34.get a3 (by simp)).trans a2
     have hv1:=hv4.sl.one
     simp (disch:=first|assumption|omega|(simp only[aG]<;>omega)) only[go_sem,seval,aa,g4,a24,s1,hv1,t1,t3]
     generalize hM5:M4.put r _=M5
     have hM5:M5=hp [(.o r,.cells true (fR vc vt vr .nilp vth' vcl vo1 z.ill))] 0 M4:=by rw[←hM5,←bX o4,aa]
     have hC5:Chg [r] M4 M5:=by rw[hM5];exact (dg _ _ _).weak (by simp[aC])
     have hrv':r∉ids vth':=fun u=>(hF4 r u).elim hrv fun u=>u h3.mc.o
     have hC45:=(hC4.weak (T:=r::ids vth) fun i hi _=>List.mem_cons_of_mem _ hi).trans hC5 fun i hi _=>by have hi:=one hi;subst hi;simp
     have hE5:=hE.trans (RunG.evS (vcl:=vcl) (vo:=vo1) (q:=⟨q.b,pl1,q.nm,q.vv⟩) (bs:=bs) (t:=⟨b,pl,nm,vv⟩) hCM3 hC45 hF4 hnew)
     have hq:=h.snoc (f':=fR vc vt vr .nilp vth') (n:=p.ts[i].1) (l:=p.ts[i].2) (t:=⟨b,pl,nm,vv⟩) (m':=hp [(.n 0,.cells true [.ptr b 0])] 1 m2) (m'':=M5) (vth':=vth') hCM3 (hb2.grow hC3) (uP hzt (hc.gt _ (List.getElem_mem hi))) hnew ((hC4.weak fun i hi _=>List.mem_cons_of_mem _ hi).trans hC5 fun i hi _=>by have hi:=one hi;subst hi;simp) (by rw[hM5];exact (aE o4).trans aq)
      (by
       have:=hv4.chg hC5 fun i hi u=>by have u:=one u;subst u;exact hrv' hi
       rw[List.map_append];exact this) hF4
     have et:p.ts.take i++ [(p.ts[i].1,p.ts[i].2)]=p.ts.take (i+1):=by rw[List.take_add_one,List.getElem?_eq_getElem hi];rfl
     have et2:(p.ts.take i).map (fun t=>kU t.2)++ [kU p.ts[i].2]=(p.ts.take (i+1)).map fun t=>kU t.2:=by rw[←et,List.map_append];rfl
     rw[et] at hq
     simp only[et2] at hq
     exact ⟨k - 1,by omega,_,M5,i+1,vth',_,by rfl,by exact gq t1,by exact gq t2,by exact gq rfl,by omega,hq,hE5⟩
    ·have e:i=p.ts.length:=by omega
     subst e
     rw[List.take_length,←hth] at h
     have hst3:∀y∈x.th,Hh y:=fun y hy=>by
      rw[hth,List.mem_map] at hy
      obtain ⟨t,-,rfl⟩:=hy
      exact IC _
     have hlen:=h.tv.sl.len
     rw[List.length_map,h.ln.1,←h.ln.2] at hlen
     have hln:=h.ln.2
     simp only at hln hlen
     unfold vP at hK'
     by_cases hcc:0<=c/\c<x.th.length
     ·simp only[Xb hcc] at hK'
      obtain ⟨k,rfl⟩:=Xh hcc.1
      simp only[Int.toNat_natCast] at hK'
      obtain ⟨t',ht',⟨id,off,w,cc,a1,a2,a3⟩,m2,r2,vo2,bs2,h2',e2,hst4⟩:=In hc (by omega) h hst3 (k:=k) (by simpa using hcc.2)
      simp only at r2 h2'
      simp (disch:=first|assumption|omega) only[go_sem,seval,t1,t2,t3,g,hlt,hlen,a1,a2,a3,r2.wf']
      exact hK' _ ⟨_,Or.inr ⟨rfl,hst4,vcl,vo2,vth,⟨q.b,pl1,q.nm,q.vv⟩,bs2,h2'.more (o':=o+2) (by omega),rfl⟩,hE.trans e2⟩
     ·simp only[Xa hcc] at hK'
      by_cases h0:0<=c
      ·have h3:¬c<x.th.length:=fun q=>hcc ⟨h0,q⟩
       simp (disch:=first|assumption|omega) only[go_sem,seval,t1,t2,t3,g,hlt,hlen]
       exact hK' _ ⟨_,Or.inr ⟨rfl,hst3,vcl,vo1,vth,⟨q.b,pl1,q.nm,q.vv⟩,bs,h.more (o':=o+2) (by omega),rfl⟩,hE⟩
      ·simp (disch:=first|assumption|omega) only[go_sem,seval,t1,t2,t3,g,hlt,hlen]
       exact hK' _ ⟨_,Or.inr ⟨rfl,hst3,vcl,vo1,vth,⟨q.b,pl1,q.nm,q.vv⟩,bs,h.more (o':=o+2) (by omega),rfl⟩,hE⟩
 ·have g:=h.mc.g
  have hlen:=h.tv.sl.len
  rw[List.length_map,h.ln.1,←h.ln.2] at hlen
  have hln:=h.ln.2
  obtain ⟨ph,rc,th,z⟩:=x
  simp only at hph hK' hlen hln g hst
  subst hph
  simp only[if_true] at hK'
  unfold vP at hK'
  rw[aa]
  by_cases hcc:0<=c/\c<th.length
  ·simp only[Xb hcc] at hK'
   obtain ⟨k,rfl⟩:=Xh hcc.1
   simp only[Int.toNat_natCast] at hK'
   obtain ⟨t',ht',⟨id,off,w,cc,a1,a2,a3⟩,m2,r2,vo2,bs2,h2',e2,hst4⟩:=In hc (by omega) h hst (k:=k) (by simpa using hcc.2)
   simp only at r2 h2'
   simp (disch:=first|assumption|omega) only[go_sem,seval,g,sR,hlen,a1,a2,a3,r2.wf']
   exact hK' _ ⟨_,Or.inr ⟨rfl,hst4,vcl,vo2,vth,q,bs2,h2'.more (o':=o+2) (by omega),rfl⟩,e2⟩
  ·simp only[Xa hcc] at hK'
   by_cases h0:0<=c
   ·have h3:¬c<th.length:=fun q=>hcc ⟨h0,q⟩
    simp (disch:=first|assumption|omega) only[go_sem,seval,g,sR,hlen]
    exact hK' _ ⟨_,Or.inr ⟨rfl,hst,vcl,vo,vth,q,bs,h.more (o':=o+2) (by omega),rfl⟩,EvF.refl m⟩
   ·simp (disch:=first|assumption|omega) only[go_sem,seval,g,sR,hlen]
    exact hK' _ ⟨_,Or.inr ⟨rfl,hst,vcl,vo,vth,q,bs,h.more (o':=o+2) (by omega),rfl⟩,EvF.refl m⟩
end
theorem EU  {v:NV} {l:List (List Nat×Int)} (hv:Sl m v 2 (lU l)) (hsz:l.length<=1000000):∃m',rT 12 [v] m (ii (bo l)) m'/\Chg [] m m':=by
 refine WF.ex1 fun K hK=> ?_
 refine WF.of_wpG (fun _=>rfl) EC (L:= [(.e,v)]) rfl ?_
 unfold PA
 have hlen:=hv.len
 rw[List.length_map] at hlen
 simp only[go_sem,seval,aa]
 refine W.loop (fun k d=>∃t M i,d=⟨t, [],none,M⟩/\NT.get D4.e t=some v/\NT.get D4.e.c t=some (ii (bo (l.take i)))/\NT.get D4.e.f t=some (ii (i:Nat))/\i+k=l.length/\Chg [] m M) ?_ l.length _ ⟨_,m,0,rfl,by exact gq rfl,by exact gq rfl,by exact gq rfl,by omega,Chg.refl m⟩
 rintro k d ⟨t,M,i,rfl,t1,t2,t3,hik,hC⟩
 apply ax
 unfold DE
 change wp _ _ _ _ ⟨ah [] t, [],none,M⟩ _
 by_cases hi:i<l.length
 ·obtain ⟨id,off,wr,c,a1,a2,a3,a4,a5⟩:=hv.at i (by simpa using hi)
  rw[List.getElem_map] at a5
  have a2M:=(hC.get a3 (by simp)).trans a2
  obtain ⟨M1,r1,hC1⟩:=H3 M l[i].1 l[i].2
  have hw:=jk l i hi
  have hb:=cV (l.take i)
  have hcl:=pi l[i].2
  rw[List.length_take] at hb
  simp (disch:=first|assumption|omega) only[go_sem,seval,t1,t2,t3,hlen,a1,a2M,a4,a5,r1.wf',hw.symm]
  exact ⟨k - 1,by omega,_,M1,i+1,by rfl,by exact gq t1,by exact gq rfl,by exact gq rfl,by omega,hC.tr hC1⟩
 ·simp (disch:=first|assumption|omega) only[go_sem,seval,t1,t2,t3,hlen]
  rw[List.take_of_length_le (by omega)]
  exact hK _ hC
section
variable {p:Prg} {B m m':NH} {vc vt vr vcl vo vth rec:NV} {r:D4} {x:Rn} {o:Nat} {z:Mc} {F:List D4}
theorem xV (hc:RunC p B vc vt vr) (h:Mac (fR vc vt vr rec vth) B m r vcl vo z) (hz:McOk p.cs z) (ho:z.out.length<=o):
 ∃m',rT 13 [.ptr r 0] m (.tup []) m'/\∃F',iy p B vc vt vr m' r (ry p z) o F'/\EvF (cR r vcl vo) F' m m':=by
 refine WF.ex1 fun K' hK'=> ?_
 refine WF.of_wpG (fun _=>rfl) Ef (L:= [(.e,.ptr r 0)]) rfl ?_
 unfold PF
 obtain ⟨CR,hR⟩:=hc.rp.r
 have hzr:=hc.zr
 have g:=h.g
 obtain ⟨w,m1,r1,b,pl,nm,vv,rfl,hb,hC1,hnew⟩:=DD h.c hR (by omega)
 have h1:=h.grow hC1
 have g1:=h1.g
 have o1:=h1.o
 rw[aa]
 simp (disch:=first|assumption|omega|(simp only[aG]<;>omega)) only[go_sem,seval,g,r1.wf,g1]
 generalize hM2:hp _ 0 m1=M2
 obtain ⟨hm2,e2⟩:=h1.refit (f':=fR vc vt vr (.ptr b 0) .nils) (m':=M2) (kR o1 hM2) (li hM2 (by simp[aC]))
 have hF:∀i∈cR r vcl vo,¬am B i:=fun i hi=>(h.old i hi).2
 have hd:∀i∈cR r vcl vo,i∉ec b pl nm vv:=fun i hi u=>hnew i u (h.old i hi).1
 exact hK' _ ⟨_,Or.inl ⟨rfl,rfl,IC _,vcl,vo,⟨b,pl,nm,vv⟩,⟨hm2,hb.ev e2 (fun i hi u=>hd i u hi) hF,uP hzr hc.gr,aY.nil,by simp,by simp,fun i hi=>⟨by simp[ids],hd i hi,by simp⟩,by simp[ids],by simp,by simp,hz,ho⟩,rfl⟩,RunG.ev0 hC1 e2 hnew⟩
theorem iy.mac (h:iy p B vc vt vr m r x o F):∃rec vth vcl vo,Mac (fR vc vt vr rec vth) B m r vcl vo x.z/\McOk p.cs x.z/\x.z.out.length<=o/\(∀i∈cR r vcl vo,i∈F)/\(rec= .nilp↔x.ph=true)/\(rec= .nilp∨∃b,rec= .ptr b 0):=by
 rcases h with ⟨hph,hth,hst,vcl,vo,q,h,rfl⟩|⟨hph,hst,vcl,vo,vth,q,bs,h,rfl⟩
 ·exact ⟨_,_,_,_,h.mc,h.zk,h.ol,fun i hi=>by simp only[RunG.foot,List.mem_append];exact Or.inl hi,by simp[hph],Or.inr ⟨_,rfl⟩⟩
 ·exact ⟨_,_,_,_,h.mc,h.zk,h.ol,fun i hi=>by simp only[RunG.foot,List.mem_append];exact Or.inl hi,by simp[hph],Or.inl rfl⟩
theorem iy.all (h:iy p B vc vt vr m r x o F):∀i∈F,am m i/\¬am B i:=by
 rcases h with ⟨hph,hth,hst,vcl,vo,q,h,rfl⟩|⟨hph,hst,vcl,vo,vth,q,bs,h,rfl⟩
 ·exact h.all
 ·exact h.all
theorem iy.off  (h:iy p B vc vt vr m r x o F) (hC:Chg S m m') (hS:∀i∈F,i∉S) (hB:∀i∈S,¬am B i):iy p B vc vt vr m' r x o F:=by
 rcases h with ⟨hph,hth,hst,vcl,vo,q,h,rfl⟩|⟨hph,hst,vcl,vo,vth,q,bs,h,rfl⟩
 ·exact Or.inl ⟨hph,hth,hst,vcl,vo,q,h.off hC hS hB,rfl⟩
 ·exact Or.inr ⟨hph,hst,vcl,vo,vth,q,bs,h.off hC hS hB,rfl⟩
theorem Ns (hc:RunC p B vc vt vr) (h:iy p B vc vt vr m r x o F):
 ∃m',rT 13 [.ptr r 0] m (.tup []) m'/\∃F',iy p B vc vt vr m' r (ry p x.z) o F'/\EvF F F' m m':=by
 obtain ⟨rec,vth,vcl,vo,h1,h2,h3,h4,-⟩:=h.mac
 obtain ⟨m',r1,F',h5,h6⟩:=xV hc h1 h2 h3
 exact ⟨m',r1,F',h5,h6.sup h4 fun j hj=>Or.inr hj⟩
theorem pK {v:NV} (h:Sl m v 1 C) (hl:C.length<=1000001):(AJ 1 8 m .nils v= .val .nils/\C= [])∨∃v' m',AJ 1 8 m .nils v= .mem v' m'/\aY m m' v' 1 C/\Chg [] m m':=by
 by_cases hC:C= []
 ·subst hC;exact Or.inl ⟨(Sl.nil:Sl m .nils 1 []).appNil h,rfl⟩
 ·obtain ⟨v',m',e1,e2,e3⟩:=(aY.nil:aY m m .nils 1 []).app (bytes:=8) h hC (fun i hi=>hi) (by simp;omega) (by simp;omega)
  exact Or.inr ⟨v',m',e1,by simpa using e2,e3⟩
theorem Uy (h:iy p B vc vt vr m r x o F) (ho:o<=1000000):
 ∃v m',rT 22 [.ptr r 0] m v m'/\aY m m' v 1 (kv x.z.out)/\Chg [] m m':=by
 obtain ⟨rec,vth,vcl,vo,h1,h2,h3,h4,-⟩:=h.mac
 refine WF.ex fun K' hK'=> ?_
 refine WF.of_wpG (fun _=>rfl) BU (L:= [(.e,.ptr r 0)]) rfl ?_
 unfold Ph
 have g:=h1.g
 rw[aa]
 simp only[go_sem,seval,g]
 rcases pK h1.ou.sl (by simp;omega) with ⟨e1,e2⟩|⟨v',m1,e1,e2,e3⟩
 ·rw[e1]
  simp only[go_sem,seval]
  exact hK' _ _ ⟨by rw[e2];exact aY.nil,Chg.refl m⟩
 ·rw[e1]
  simp only[go_sem,seval]
  exact hK' _ _ ⟨e2,e3⟩
theorem J1 (h:iy p B vc vt vr m r x o F) (hn:x.z.cl.length<=1000000):
 ∃v m',rT 24 [.ptr r 0] m v m'/\aY m m' v 1 (kv x.z.cl)/\Chg [] m m':=by
 obtain ⟨rec,vth,vcl,vo,h1,h2,h3,h4,-⟩:=h.mac
 refine WF.ex fun K' hK'=> ?_
 refine WF.of_wpG (fun _=>rfl) CX (L:= [(.e,.ptr r 0)]) rfl ?_
 unfold QL
 have g:=h1.g
 rw[aa]
 simp only[go_sem,seval,g]
 rcases pK h1.cl.sl (by simp;omega) with ⟨e1,e2⟩|⟨v',m1,e1,e2,e3⟩
 ·rw[e1]
  simp only[go_sem,seval]
  exact hK' _ _ ⟨by rw[e2];exact aY.nil,Chg.refl m⟩
 ·rw[e1]
  simp only[go_sem,seval]
  exact hK' _ _ ⟨e2,e3⟩
theorem Lo (h:iy p B vc vt vr m r x o F):∃m',rT 17 [.ptr r 0] m (.bool x.z.ill) m'/\Chg [] m m':=by
 obtain ⟨rec,vth,vcl,vo,h1,h2,h3,h4,-⟩:=h.mac
 refine WF.ex1 fun K' hK'=> ?_
 refine WF.of_wpG (fun _=>rfl) DC (L:= [(.e,.ptr r 0)]) rfl ?_
 unfold Pu
 have g:=h1.g
 simp only[go_sem,seval,g]
 exact hK' _ (aI rfl)
theorem RR (h:iy p B vc vt vr m r x o F) (hnt:p.ts.length<=1000):∃m',rT 19 [.ptr r 0] m (.bool (qw x)) m'/\Chg [] m m':=by
 refine WF.ex1 fun K' hK'=> ?_
 refine WF.of_wpG (fun _=>rfl) E5 (L:= [(.e,.ptr r 0)]) rfl ?_
 unfold Q6
 rcases h with ⟨hph,hth,hst,vcl,vo,q,h,rfl⟩|⟨hph,hst,vcl,vo,vth,q,bs,h,rfl⟩
 ·have g:=h.mc.g
  unfold qw at hK'
  rw[hph,Bool.false_and] at hK'
  simp only[go_sem,seval,aa]
  refine W.loop (fun f d=>∃t,d=⟨t, [],none,m⟩/\NT.get D4.e t=some (.ptr r 0)/\NT.get D4.e.c t=some (ii 0)) ?_ 0 _ ⟨_,rfl,by exact gq rfl,by exact gq rfl⟩
  rintro f d ⟨t,rfl,t1,t2⟩
  apply ax
  unfold uc
  change wp _ _ _ _ ⟨ah [] t, [],none,m⟩ _
  simp only[go_sem,seval,t1,t2,g,Ok]
  exact hK' _ (Chg.refl m)
 ·have g:=h.mc.g
  have hlen:=h.tv.sl.len
  rw[List.length_map,h.ln.1,←h.ln.2] at hlen
  have hln:=h.ln
  unfold qw at hK'
  rw[hph,Bool.true_and] at hK'
  simp only[go_sem,seval,aa]
  refine W.loop (fun f d=>∃t i,d=⟨t, [],none,m⟩/\NT.get D4.e t=some (.ptr r 0)/\NT.get D4.e.c t=some (ii (i:Nat))/\i+f=x.th.length/\(x.th.take i).all (fun y=>decide (y.s=1))=true) ?_ x.th.length _ ⟨_,0,rfl,by exact gq rfl,by exact gq rfl,by omega,by simp⟩
  rintro f d ⟨t,i,rfl,t1,t2,hif,hA⟩
  apply ax
  unfold uc
  change wp _ _ _ _ ⟨ah [] t, [],none,m⟩ _
  by_cases hi:i<x.th.length
  ·have hib:i<bs.length:=by omega
   obtain ⟨id,off,w,c,a1,a2,a3,a4,a5⟩:=h.tv.sl.at i (by simpa using hib)
   rw[List.getElem_map] at a5
   have c0:c[off]? =some (.ptr bs[i].b 0):=aF a5 0 (by omega)
   obtain ⟨hb,-⟩:=h.tb i bs[i] x.th[i] (List.getElem?_eq_getElem hib) (List.getElem?_eq_getElem hi)
   have gb:=hb.g
   have htk:(x.th.take (i+1)).all (fun y=>decide (y.s=1))=decide (x.th[i].s=1):=by
    rw[List.take_add_one,List.getElem?_eq_getElem hi,List.all_append,hA];simp
   by_cases hs:x.th[i].s=1
   ·have gb:m.get bs[i].b=some (.cells true [bs[i].nm,bs[i].vv,bs[i].pl,.bool false,.bool true]):=hb.g.trans (by simp[iS,hs])
    simp (disch:=first|assumption|omega) only[go_sem,seval,t1,t2,g,hlen,a1,a2,c0,gb]
    exact ⟨f - 1,by omega,_,i+1,by rfl,by exact gq t1,by exact gq rfl,by omega,by rw[htk];simpa using hs⟩
   ·have gb:m.get bs[i].b=some (.cells true [bs[i].nm,bs[i].vv,bs[i].pl,.bool (decide (x.th[i].s=2)),.bool false]):=hb.g.trans (by simp[iS,hs])
    have hfa:(x.th.all fun y=>decide (y.s=1))=false:=by
     rw[List.all_eq_false];exact ⟨x.th[i],List.getElem_mem hi,by simpa using hs⟩
    rw[hfa] at hK'
    simp (disch:=first|assumption|omega) only[go_sem,seval,t1,t2,g,hlen,a1,a2,c0,gb]
    exact hK' _ (Chg.refl m)
  ·rw[List.take_of_length_le (by omega)] at hA
   rw[hA] at hK'
   simp (disch:=first|assumption|omega) only[go_sem,seval,t1,t2,g,hlen,OM]
   exact hK' _ (Chg.refl m)
def Pq (p:Prg) (B:NH) (vc vt vr:NV) (m m':NH) (w:NV):Prop:=
 if (eI p).2≠0 then w= .tup [.nilp,ii (eI p).2]/\Chg [] m m'
 else ∃r F,w= .tup [.ptr r 0,ii 0]/\RunC p B vc vt vr/\iy p B vc vt vr m' r (ry p (Hf p)) 0 F/\Chg [] m m'/\∀i∈F,¬am m i
theorem S4 (h:RP B (fun _=>True) p vc vt vr) (hC:Chg [] B m) (hs:p.cs.length<=100000/\p.ts.length<=100000) (hz:∀t∈p.ts,bQ t.2<=400000) (hr:bQ p.r<=400000) (hok:(eI p).2=0->PrgOk p):
 ∃w m',rT 9 [.agg [vc,vt,vr]] m w m'/\Pq p B vc vt vr m m' w:=by
 refine WF.ex fun K' hK'=> ?_
 refine WF.of_wpG (fun _=>rfl) KG (L:= [(.e,.agg [vc,vt,vr])]) rfl ?_
 unfold WH
 obtain ⟨hcs,hts⟩:=hs
 generalize hM1:hp [(.n 0,.cells true [vc,vt,vr])] 1 m=M1
 have hC1:Chg [] m M1:=aR hM1 rfl
 have g1:M1.get (na m 0)=some (.cells true [vc,vt,vr]):=bu hM1
 have o1:am M1 (na m 0):=bt hM1 (by omega)
 have hCB1:=hC.tr hC1
 have h1:=h.stays (kQ hCB1 _)
 obtain ⟨M2,r2,hC2⟩:=S9 h1 ⟨by omega,by omega⟩ (fun t ht=>by have:=hz t ht;omega) (by omega)
 have g2:=(hC2.get o1 (by simp)).trans g1
 have o2:=hC2.old o1
 have hCm2:=hC1.tr hC2
 have hCB2:=hCB1.tr hC2
 unfold Pq at hK'
 by_cases hE:(eI p).2≠0
 ·simp only[Xb hE] at hK'
  simp (disch:=first|assumption|omega|(simp only[aG]<;>omega)) only[go_sem,seval,hM1,g1,r2.wf']
  exact hK' _ _ ⟨rfl,hCm2⟩
 ·simp only[Xa hE] at hK'
  have hE0:(eI p).2=0:=by simpa using hE
  have hRC:=(hok hE0).run h
  obtain ⟨CT,hT⟩:=h.t
  obtain ⟨CR,hR⟩:=h.r
  obtain ⟨M7,r7,hC7⟩:=EU (h.c.grew hCB2) (by omega)
  have hw:=cV p.cs
  obtain ⟨n,hn⟩:=Xh hw.1
  rw[hn] at r7
  have gM7:=(hC7.get o2 (by simp)).trans g2
  have kc:=h.c.one
  have kt:=hT.sl.one
  have kr:=hR.sl.one
  have ks:=h.c.same (n:=3)
  have kst:=hT.sl.same (n:=3)
  have ksr:=hR.sl.same (n:=3)
  have kag:bg 4 (.agg [vc,vt,vr]) (.agg [vc,vt,vr])=true:=dH fun w hw=>by
   simp only[Xf,Xe,or_false] at hw
   rcases hw with rfl|rfl|rfl
   ·exact h.c.flat
   ·exact hT.sl.flat
   ·exact hR.sl.flat
  generalize hM8:hp [(.n 1,.cells true [vc,vt,vr,.slc (na M7 0) 0 n 1 n,.nils,.nilp,.nils,.bool false]),(.n 0,.cells true (rep n [iu 0]))] 2 M7=M8
  have hC8:Chg [] M7 M8:=aR hM8 rfl
  have hCB8:=(hCB2.tr hC7).tr hC8
  have hCm8:=(hCm2.tr hC7).tr hC8
  have nw:∀j,¬am B (na M7 j):=fun j q=>aA (hC7.old (hCB2.old q))
  have nw2:∀j,¬am m (na M7 j):=fun j q=>aA (hC7.old (hCm2.old q))
  have g81:M8.get (na M7 1)=some (.cells true [vc,vt,vr,.slc (na M7 0) 0 n 1 n,.nils,.nilp,.nils,.bool false]):=bu hM8
  have g80:M8.get (na M7 0)=some (.cells true (rep n [iu 0])):=bu hM8
  have o81:am M8 (na M7 1):=bt hM8 (by omega)
  have o80:am M8 (na M7 0):=bt hM8 (by omega)
  have e0:(Hf p).cl=List.replicate n 0:=by unfold Hf;rw[hn];rfl
  have hMac:Mac (fR vc vt vr .nilp .nils) B M8 (na M7 1) (.slc (na M7 0) 0 n 1 n) .nils (Hf p):=by
   refine ⟨g81,o81,nw 1, ?_,aY.nil,⟨by simp[ids,oE],by simp[ids],by simp[ids]⟩,hCB8⟩
   rw[e0]
   exact aY.of (by simp) (nw 0) g80 o80 (by rw[qB];simp) (by simp) (by simp)
  have hMok:McOk p.cs (Hf p):=⟨fun y hy=>by rw[e0,List.mem_replicate] at hy;rw[hy.2];exact ⟨by simp,by simp⟩,by simp[Hf],by rw[e0,List.length_replicate,hn]⟩
  obtain ⟨M9,r9,F,hQ,hEv⟩:=xV hRC hMac hMok (o:=0) (by simp[Hf])
  have hnF:∀i∈cR (na M7 1) (.slc (na M7 0) 0 n 1 n) .nils,¬am m i:=fun i hi=>by
   simp only[cR,ids,Xf,List.append_nil,Xe,or_false] at hi
   rcases hi with rfl|rfl
   ·exact nw2 1
   ·exact nw2 0
  simp (disch:=first|assumption|omega|(simp only[aG]<;>omega)) only[go_sem,seval,hM1,g1,r2.wf',g2,hE0,r7.wf,gM7,kc,kt,kr,ks,kst,ksr,kag,hM8,r9.wf']
  exact hK' _ _ ⟨_,F,rfl,hRC,hQ,hCm8.trans (hEv.c.weak (T:=cR (na M7 1) (.slc (na M7 0) 0 n 1 n) .nils) fun i hi _=>hi) (fun i hi w=>W9 w (hnF i hi)),fun i hi w=>(hEv.f i hi).elim (fun q=>hnF i q w) fun q=>q (hCm8.old w)⟩
end
theorem oS  {u v:NV} {l:List Int} (hu:Sl m u 1 (kv l)) (hv:Sl m v 1 (kv l)) (hl:l.length<=1000000):rT 21 [u,v] m (.bool true) m:=by
 have h:∃w m',rT 21 [u,v] m w m'/\w= .bool true/\m'=m:=by
  refine WF.ex fun K' hK'=> ?_
  refine WF.of_wpG (fun _=>rfl) CP (L:= [(.a .e,v),(.e,u)]) rfl ?_
  unfold Si
  have h1:=hu.len
  have h2:=hv.len
  rw[List.length_map] at h1 h2
  simp (disch:=first|assumption|omega) only[go_sem,seval,aa,h1,h2]
  refine W.loop (fun f d=>∃t i,d=⟨t, [],none,m⟩/\NT.get D4.e t=some u/\NT.get D4.e.a t=some v/\NT.get D4.e.a.a t=some (ii (i:Nat))/\i+f=l.length) ?_ l.length _ ⟨_,0,rfl,by exact gq rfl,by exact gq rfl,by exact gq rfl,by omega⟩
  rintro f d ⟨t,i,rfl,t1,t2,t3,hif⟩
  apply ax
  unfold BO
  change wp _ _ _ _ ⟨ah [] t, [],none,m⟩ _
  by_cases hi:i<l.length
  ·obtain ⟨id,off,w,c,a1,a2,a3,a4,a5⟩:=hu.at i (by simpa using hi)
   obtain ⟨id',off',w',c',b1,b2,b3,b4,b5⟩:=hv.at i (by simpa using hi)
   rw[List.getElem_map] at a5 b5
   have c0:c[off]? =some (iu l[i]):=aF a5 0 (by omega)
   have d0:c'[off']? =some (iu l[i]):=aF b5 0 (by omega)
   simp (disch:=first|assumption|omega) only[go_sem,seval,t1,t2,t3,h1,a1,a2,c0,b1,b2,d0]
   exact ⟨f - 1,by omega,_,i+1,by rfl,by exact gq t1,by exact gq t2,by exact gq rfl,by omega⟩
  ·simp (disch:=first|assumption|omega) only[go_sem,seval,t1,t2,t3,h1]
   exact hK' _ _ ⟨rfl,rfl⟩
 obtain ⟨w,m',h,rfl,rfl⟩:=h
 exact h
structure Cd where
 (V lo:Int)
 vs:NV
 st:List Sp
abbrev LA (c:Cd) (vv:NV) (t:Lan):List NV:= [ii c.V,ii c.lo,c.vs,vv,ii (t.a:Nat),.bool t.sk,.bool t.en]
structure LanO (B m:NH) (b:D4) (vv:NV) (c:Cd) (t:Lan):Prop where
 g:m.get b=some (.cells true (LA c vv t))
 o:am m b
 nB:¬am B b
 s:Sl B c.vs 9 (Vk c.st)
 v:aY B m vv 1 (kv t.v)
 d:b∉ids vv
 ch:Chg [] B m
 ls:c.st.length<=1000000000
 iv:∀z∈t.v,cI z
 ok:∀s∈c.st,Gx s
def jJ (b:D4) (vv:NV):List D4:=b::ids vv
theorem rm {f:Int->NV} {v:NV} {l:List Int} (h:aY B m v 1 (l.map fun z=> [f z])) (hn:n<l.length):∃id off c,ix 1 v (ii (n:Nat))= .val (.ptr id off)/\ids v= [id]/\¬am B id/\m.get id=some (.cells true c)/\am m id/\off+1<=c.length/\c[off]? =some (f l[n])/\
 ∀(y:Int) (M:NH),M=m.put id (.cells true (c.set off (f y)))->aY B M v 1 ((l.set n y).map fun z=> [f z])/\Chg [id] m M:=by
 obtain ⟨id,off,c,a1,a2,a3,a4,a5,a6,a7,a8⟩:=h.at n (by simpa using hn)
 rw[List.getElem_map] at a7 a8
 refine ⟨id,off,c,a1,a2,a3,a4,a5,a6,aF a7 0 (by omega),fun y M hM=> ?_⟩
 have hM:M=hp [(.o id,.cells true (c.set off (f y)))] 0 m:=by rw[hM,←bX a5,aa]
 have hC:Chg [id] m M:=by rw[hM];exact (dg _ _ _).weak (by simp[aC])
 have ho:=a8 [(0,f y)] M (by simp) (by rw[hM];exact (aE a5).trans aq) (hC.old a5)
 have ho:aY B M v 1 ((l.map fun z=> [f z]).set n [f y]):=ho
 rw[←List.map_set (f:=fun z=> [f z])] at ho
 exact ⟨ho,hC⟩
section
variable {B m m':NH} {b:D4} {vv:NV} {c:Cd} {t:Lan}
theorem LanO.old (h:LanO B m b vv c t):∀i∈jJ b vv,am m i/\¬am B i:=by
 intro i hi
 rcases List.mem_cons.1 hi with rfl|hi
 ·exact ⟨h.o,h.nB⟩
 ·exact ⟨h.v.sl.old i hi,h.v.new i hi⟩
theorem LanO.off  (h:LanO B m b vv c t) (hC:Chg S m m') (hS:∀i∈jJ b vv,i∉S) (hB:∀i∈S,¬am B i):LanO B m' b vv c t:=
 ⟨(hC.get h.o (hS b (List.mem_cons_self ..))).trans h.g,hC.old h.o,h.nB,h.s,h.v.chg hC fun i hi=>hS i (by simp[jJ,hi]),h.d,h.ch.trans hC fun i hi ho=>W9 ho (hB i hi),h.ls,h.iv,h.ok⟩
theorem LanO.grow (h:LanO B m b vv c t) (hC:Chg [] m m'):LanO B m' b vv c t:=h.off hC (by simp) (by simp)
theorem LanO.ev  (h:LanO B m b vv c t) (hE:EvF F F' m m') (hd:∀i∈jJ b vv,i∉F) (hB:∀i∈F,¬am B i):LanO B m' b vv c t:=h.off hE.c hd hB
theorem LanO.self {t':Lan} (h:LanO B m b vv c t) (hv:t'.v=t.v) (hg:m'.get b=some (.cells true (LA c vv t'))) (hC:Chg [b] m m'):LanO B m' b vv c t'/\EvF (jJ b vv) (jJ b vv) m m':=by
 refine ⟨⟨hg,hC.old h.o,h.nB,h.s, ?_,h.d,h.ch.trans hC fun i hi ho=> ?_,h.ls,by rw[hv];exact h.iv,h.ok⟩,hC.weak fun i hi _=> ?_,fun j hj=>Or.inl hj⟩
 ·rw[hv]
  exact h.v.chg hC fun i hi q=>by have q:=one q;subst q;exact h.d hi
 ·have hi:=one hi;subst hi;exact W9 ho h.nB
 ·have hi:=one hi;subst hi;simp[jJ]
theorem re (h:LanO B m b vv c t) (i:Int):rT 85 [.ptr b 0,ii i] m (iu (bw t.v i)) m:=by
 have h:∃w m',rT 85 [.ptr b 0,ii i] m w m'/\w=iu (bw t.v i)/\m'=m:=by
  refine WF.ex fun K' hK'=> ?_
  refine WF.of_wpG (fun _=>rfl) DY (L:= [(.a .e,ii i),(.e,.ptr b 0)]) rfl ?_
  unfold So
  have g:=h.g
  have hlen:=h.v.sl.len
  rw[List.length_map] at hlen
  unfold bw at hK'
  by_cases hi:0<=i
  ·by_cases hl:i<t.v.length
   ·obtain ⟨n,rfl⟩:=Xh hi
    have hn:n<t.v.length:=by omega
    obtain ⟨id,off,w,cc,a1,a2,a3,a4,a5⟩:=h.v.sl.at n (by simpa using hn)
    rw[List.getElem_map] at a5
    have c0:cc[off]? =some (iu t.v[n]):=aF a5 0 (by omega)
    rw[Xb ⟨hi,hl⟩,Int.toNat_natCast,List.getElem?_eq_getElem hn] at hK'
    simp (disch:=first|assumption|omega) only[go_sem,seval,aa,g,hlen,a1,a2,c0]
    exact hK' _ _ ⟨rfl,rfl⟩
   ·rw[Xa (by omega)] at hK'
    simp (disch:=first|assumption|omega) only[go_sem,seval,aa,g,hlen]
    exact hK' _ _ ⟨rfl,rfl⟩
  ·rw[Xa (by omega)] at hK'
   simp (disch:=first|assumption|omega) only[go_sem,seval,aa,g,hlen]
   exact hK' _ _ ⟨rfl,rfl⟩
 obtain ⟨w,m',h,rfl,rfl⟩:=h
 exact h
theorem nA (h:LanO B m b vv c t) (i:Int) {z:Int} (hz:cI z):
 ∃m',rT 84 [.ptr b 0,ii i,iu z] m (.tup []) m'/\LanO B m' b vv c ⟨t.a,jc t.v i z,t.sk,t.en⟩/\EvF (jJ b vv) (jJ b vv) m m':=by
 refine WF.ex1 fun K' hK'=> ?_
 refine WF.of_wpG (fun _=>rfl) Fg (L:= [(.b .e,iu z),(.a .e,ii i),(.e,.ptr b 0)]) rfl ?_
 unfold Qj
 have g:=h.g
 have hlen:=h.v.sl.len
 rw[List.length_map] at hlen
 unfold jc at hK'
 by_cases hi:0<=i
 ·by_cases hl:i<t.v.length
  ·obtain ⟨n,rfl⟩:=Xh hi
   have hn:n<t.v.length:=by omega
   obtain ⟨id,off,cc,a1,a2,a3,a4,a5,a6,a7,a8⟩:=rm (f:=fun z=>iu z) h.v hn
   rw[Xb ⟨hi,hl⟩,Int.toNat_natCast] at hK'
   simp (disch:=first|assumption|omega) only[go_sem,seval,aa,g,hlen,a1,a4]
   generalize hM:m.put id _=M
   obtain ⟨ho,hC⟩:=a8 z M hM.symm
   have hbi:b≠id:=fun e=>h.d (by rw[a2,e];simp)
   refine hK' _ ⟨⟨(hC.get h.o (by simpa using hbi)).trans g,hC.old h.o,h.nB,h.s,ho,h.d,h.ch.trans hC fun i hi ho=> ?_,h.ls,uw h.iv hz n,h.ok⟩,hC.weak fun i hi _=> ?_,fun j hj=>Or.inl hj⟩
   ·have hi:=one hi;subst hi;exact W9 ho a3
   ·have hi:=one hi;subst hi;simp[jJ,a2]
  ·rw[Xa (by omega)] at hK'
   simp (disch:=first|assumption|omega) only[go_sem,seval,aa,g,hlen]
   exact hK' _ ⟨h,EvF.refl m⟩
 ·rw[Xa (by omega)] at hK'
  simp (disch:=first|assumption|omega) only[go_sem,seval,aa,g,hlen]
  exact hK' _ ⟨h,EvF.refl m⟩
theorem Qn (h:LanO B m b vv c t):rT 83 [.ptr b 0] m (.bool (decide (c.st.length<=t.a))) m:=by
 have h:∃w m',rT 83 [.ptr b 0] m w m'/\w= .bool (decide (c.st.length<=t.a))/\m'=m:=by
  refine WF.ex fun K' hK'=> ?_
  refine WF.of_wpG (fun _=>rfl) Dy (L:= [(.e,.ptr b 0)]) rfl ?_
  unfold QI
  have g:=h.g
  have hlen:=h.s.len
  rw[List.length_map] at hlen
  simp only[go_sem,seval,aa,g,hlen]
  by_cases q:c.st.length<=t.a
  ·have q':(c.st.length:Int)<=(t.a:Int):=by omega
   rw[Xd q] at hK'
   simp only[q',decide_true]
   exact hK' _ _ ⟨rfl,rfl⟩
  ·have q':¬(c.st.length:Int)<=(t.a:Int):=by omega
   rw[Xc q] at hK'
   simp only[q',decide_false]
   exact hK' _ _ ⟨rfl,rfl⟩
 obtain ⟨w,m',h,rfl,rfl⟩:=h
 exact h
theorem Hi (h:LanO B m b vv c t) (to:Int):
 ∃m',rT 87 [.ptr b 0,ii to] m (.tup []) m'/\LanO B m' b vv c ⟨iQ c.st to,t.v,t.sk,t.en⟩/\EvF (jJ b vv) (jJ b vv) m m':=by
 refine WF.ex1 fun K' hK'=> ?_
 refine WF.of_wpG (fun _=>rfl) Dq (L:= [(.a .e,ii to),(.e,.ptr b 0)]) rfl ?_
 unfold Re
 have g:=h.g
 have hlen:=h.s.len
 rw[List.length_map] at hlen
 have hls:=h.ls
 have ob:=h.o
 simp only[go_sem,seval,aa]
 refine W.loop (fun f d=>∃t i,d=⟨t, [],none,m⟩/\NT.get D4.e t=some (.ptr b 0)/\NT.get D4.e.a t=some (ii to)/\NT.get D4.e.f t=some (ii (i:Nat))/\i+f=c.st.length/\∀j (hj:j<i) (hl:j<c.st.length),sj to c.st[j]=false) ?_ c.st.length _ ⟨_,0,rfl,by exact gq rfl,by exact gq rfl,by exact gq rfl,by omega,fun j hj=>by omega⟩
 rintro f d ⟨T,i,rfl,t1,t2,t3,hif,hn⟩
 apply ax
 unfold DL
 change wp _ _ _ _ ⟨ah [] T, [],none,m⟩ _
 by_cases hi:i<c.st.length
 ·obtain ⟨ids',off,w,cc,a1,a2,a3,a4,a5⟩:=h.s.at i (by simpa using hi)
  rw[List.getElem_map] at a5
  have c0:cc[off+0]? =some (ii c.st[i].k):=aF a5 0 (by omega)
  have c5:cc[off+5]? =some (ii c.st[i].t):=aF a5 5 (by omega)
  have a2m:=(h.ch.get a3 (by simp)).trans a2
  by_cases h9:c.st[i].k=9
  ·by_cases ht:c.st[i].t=to
   ·have e:iQ c.st to=i:=by
     have:c.st.findIdx? (sj to)=some i:=by
      rw[List.findIdx?_eq_some_iff_getElem]
      exact ⟨hi,by simp[sj,h9,ht],fun j hj=>by rw[hn j hj (by omega)];simp⟩
     unfold iQ;rw[this];rfl
    rw[e] at hK'
    rw[←aa m]
    simp (disch:=first|assumption|omega|(simp only[aG]<;>omega)) only[go_sem,seval,t1,t2,t3,g,hlen,a1,a2m,c0,c5,h9,ht]
    generalize hM:hp _ 0 m=M
    exact hK' _ (h.self (t':=⟨i,t.v,t.sk,t.en⟩) rfl (kR ob hM) (li hM (by simp[aC])))
   ·have hde:decide (c.st[i].t=to)=false:=Xc ht
    simp (disch:=first|assumption|omega) only[go_sem,seval,t1,t2,t3,g,hlen,a1,a2m,c0,c5,h9,hde]
    refine ⟨f - 1,by omega,_,i+1,by rfl,by exact gq t1,by exact gq t2,by exact gq rfl,by omega,fun j hj hl=> ?_⟩
    by_cases e:j=i
    ·subst e;simp[sj,ht]
    ·exact hn j (by omega) hl
  ·simp (disch:=first|assumption|omega) only[go_sem,seval,t1,t2,t3,g,hlen,a1,a2m,c0,c5,h9]
   refine ⟨f - 1,by omega,_,i+1,by rfl,by exact gq t1,by exact gq t2,by exact gq rfl,by omega,fun j hj hl=> ?_⟩
   by_cases e:j=i
   ·subst e;simp[sj,h9]
   ·exact hn j (by omega) hl
 ·have e:iQ c.st to=c.st.length:=by
   have:c.st.findIdx? (sj to)=none:=by
    rw[List.findIdx?_eq_none_iff]
    intro x hx
    obtain ⟨j,hj,rfl⟩:=List.mem_iff_getElem.1 hx
    rw[hn j (by omega) hj]
   unfold iQ;rw[this];rfl
  rw[e] at hK'
  rw[←aa m]
  simp (disch:=first|assumption|omega|(simp only[aG]<;>omega)) only[go_sem,seval,t1,t2,t3,g,hlen]
  generalize hM:hp _ 0 m=M
  exact hK' _ (h.self (t':=⟨c.st.length,t.v,t.sk,t.en⟩) rfl (kR ob hM) (li hM (by simp[aC])))
end
structure Mp where
 mo:D4
 (vn vk vr:NV)
def Mp.fp (q:Mp):List D4:=q.mo::(ids q.vn++ids q.vr)
structure MemO (B m:NH) (q:Mp) (cl:List Int) (k:Nat):Prop where
 g:m.get q.mo=some (.cells true [q.vn,q.vk,q.vr])
 o:am m q.mo
 nB:¬am B q.mo
 n:aY B m q.vn 1 (kv cl)
 r:∃ver,aY B m q.vr 1 (uo ver)/\ver.length=cl.length/\∀y∈ver,0<=y/\y<=k
 d:q.mo∉ids q.vn/\q.mo∉ids q.vr/\∀i∈ids q.vn,i∉ids q.vr
 c:Chg [] B m
 ln:cl.length<=1000000
section
variable {B m m':NH} {q:Mp} {cl:List Int} {k:Nat}
theorem MemO.old (h:MemO B m q cl k):∀i∈q.fp,am m i/\¬am B i:=by
 intro i hi
 obtain ⟨ver,h1,-⟩:=h.r
 rcases List.mem_cons.1 hi with rfl|hi
 ·exact ⟨h.o,h.nB⟩
 rcases List.mem_append.1 hi with hi|hi
 ·exact ⟨h.n.sl.old i hi,h.n.new i hi⟩
 ·exact ⟨h1.sl.old i hi,h1.new i hi⟩
theorem MemO.off  (h:MemO B m q cl k) (hC:Chg S m m') (hS:∀i∈q.fp,i∉S) (hB:∀i∈S,¬am B i):MemO B m' q cl k:=by
 obtain ⟨ver,h1,h2⟩:=h.r
 exact ⟨(hC.get h.o (hS _ (List.mem_cons_self ..))).trans h.g,hC.old h.o,h.nB,h.n.chg hC fun i hi=>hS i (by simp[Mp.fp,hi]),⟨ver,h1.chg hC fun i hi=>hS i (by simp[Mp.fp,hi]),h2⟩,h.d,h.c.trans hC fun i hi ho=>W9 ho (hB i hi),h.ln⟩
theorem MemO.grow (h:MemO B m q cl k) (hC:Chg [] m m'):MemO B m' q cl k:=h.off hC (by simp) (by simp)
theorem MemO.more {k':Nat} (h:MemO B m q cl k) (hk:k<=k'):MemO B m q cl k':=by
 obtain ⟨ver,h1,h2,h3⟩:=h.r
 exact ⟨h.g,h.o,h.nB,h.n,⟨ver,h1,h2,fun y hy=>⟨(h3 y hy).1,by have:=(h3 y hy).2;omega⟩⟩,h.d,h.c,h.ln⟩
theorem Sm (m:NH) (z:Int) (hz:cI z):rT 123 [iu z] m (ii (gT z)) m:=by
 have h:∃w m',rT 123 [iu z] m w m'/\w=ii (gT z)/\m'=m:=by
  refine WF.ex fun K' hK'=> ?_
  refine WF.of_wpG (fun _=>rfl) xz (L:= [(.e,iu z)]) rfl ?_
  unfold JL
  unfold gT at hK'
  unfold cI at hz
  by_cases h:1099511627776<z
  ·rw[Xb h] at hK'
   simp (disch:=first|assumption|omega) only[go_sem,seval,aa]
   exact hK' _ _ ⟨rfl,rfl⟩
  ·rw[Xa h] at hK'
   have hw:bF .i64 z=z:=wrap_small (by show -9223372036854775808<=z;omega) (by show z<9223372036854775808;omega)
   simp (disch:=first|assumption|omega) only[go_sem,seval,aa,Kn]
   rw[hw]
   exact hK' _ _ ⟨rfl,rfl⟩
 obtain ⟨w,m',h,rfl,rfl⟩:=h
 exact h
theorem R9 (z:Int) (hz:cI z):-1<=gT z/\gT z<=1099511627776:=by
 unfold cI at hz
 unfold gT
 split<;>omega
theorem Uo {z:Int} (h0:0<=z) (h1:z<=1099511627776):dN .num .rem (ii z) (ii 8)=some (ii (z % 8)):=by
 obtain ⟨n,rfl⟩:=Xh h0
 refine (iU rfl).trans ?_
 show cD .i64 (.ofNat (Nat.mod n 8))=_
 rw[aS]
 rfl
theorem U4 {z:Int} (h0:0<=z) (h1:z<=1099511627776):dN .num .quo (ii z) (ii 8)=some (ii (z / 8)):=by
 obtain ⟨n,rfl⟩:=Xh h0
 refine (iU rfl).trans ?_
 show cD .i64 (bF .i64 (.ofNat (Nat.div n 8)))=_
 rw[show Nat.div n 8=n / 8 from rfl,wrap_small (by show -9223372036854775808<=((n / 8:Nat):Int);omega) (by show ((n / 8:Nat):Int)<9223372036854775808;omega),aS]
 rfl
theorem CJ (h:MemO B m q cl k) (z:Int) (hz:-1<=z/\z<=1099511627776):rT 147 [.ptr q.mo 0,ii z] m (ii (dG cl.length z)) m:=by
 have h:∃w m',rT 147 [.ptr q.mo 0,ii z] m w m'/\w=ii (dG cl.length z)/\m'=m:=by
  refine WF.ex fun K' hK'=> ?_
  refine WF.of_wpG (fun _=>rfl) yi (L:= [(.a .e,ii z),(.e,.ptr q.mo 0)]) rfl ?_
  unfold K4
  have g:=h.g
  have hlen:=h.n.sl.len
  rw[List.length_map] at hlen
  have hln:=h.ln
  unfold dG at hK'
  by_cases h0:z<4096
  ·rw[Xb (Or.inl h0)] at hK'
   simp (disch:=first|assumption|omega) only[go_sem,seval,aa,g,hlen]
   exact hK' _ _ ⟨rfl,rfl⟩
  ·have r8:=Uo (z:=z - 4096) (by omega) (by omega)
   have q8:=U4 (z:=z - 4096) (by omega) (by omega)
   by_cases h1:(z - 4096) % 8≠0
   ·rw[Xb (Or.inr (Or.inl h1))] at hK'
    simp (disch:=first|assumption|omega) only[go_sem,seval,aa,g,hlen,r8,q8]
    exact hK' _ _ ⟨rfl,rfl⟩
   ·by_cases h2:(cl.length:Int)<=(z - 4096) / 8
    ·rw[Xb (Or.inr (Or.inr h2))] at hK'
     simp (disch:=first|assumption|omega) only[go_sem,seval,aa,g,hlen,r8,q8]
     exact hK' _ _ ⟨rfl,rfl⟩
    ·rw[Xa (by omega)] at hK'
     simp (disch:=first|assumption|omega) only[go_sem,seval,aa,g,hlen,r8,q8]
     exact hK' _ _ ⟨rfl,rfl⟩
 obtain ⟨w,m',h,rfl,rfl⟩:=h
 exact h
theorem IS (n:Nat) (z:Int):-1<=dG n z/\(0<=dG n z->dG n z<n):=by
 unfold dG
 split
 ·exact ⟨by omega,fun q=>by omega⟩
 ·exact ⟨by omega,fun q=>by omega⟩
theorem Sk (h:MemO B m q cl k) (z:Int) (hz:-1<=z/\z<=1099511627776):rT 124 [.ptr q.mo 0,ii z] m (.tup [iu (mK cl (dG cl.length z)),.bool (decide (0<=dG cl.length z))]) m:=by
 have h:∃w m',rT 124 [.ptr q.mo 0,ii z] m w m'/\w= .tup [iu (mK cl (dG cl.length z)),.bool (decide (0<=dG cl.length z))]/\m'=m:=by
  refine WF.ex fun K' hK'=> ?_
  refine WF.of_wpG (fun _=>rfl) wW (L:= [(.a .e,ii z),(.e,.ptr q.mo 0)]) rfl ?_
  unfold IP
  have g:=h.g
  have r1:=CJ h z hz
  obtain ⟨p1,p2⟩:=IS cl.length z
  unfold mK at hK'
  by_cases h0:dG cl.length z<0
  ·rw[Xb h0,Xc (by omega)] at hK'
   simp (disch:=first|assumption|omega) only[go_sem,seval,aa,r1.wf']
   exact hK' _ _ ⟨rfl,rfl⟩
  ·rw[Xa h0,Xd (by omega)] at hK'
   obtain ⟨n,hn⟩:=Xh (show 0<=dG cl.length z by omega)
   rw[hn] at r1 p2 hK' h0
   have hnl:n<cl.length:=by omega
   obtain ⟨id,off,w,cc,a1,a2,a3,a4,a5⟩:=h.n.sl.at n (by simpa using hnl)
   rw[List.getElem_map] at a5
   have c0:cc[off]? =some (iu cl[n]):=aF a5 0 (by omega)
   rw[Int.toNat_natCast,List.getElem?_eq_getElem hnl] at hK'
   simp (disch:=first|assumption|omega) only[go_sem,seval,aa,r1.wf',g,a1,a2,c0]
   exact hK' _ _ ⟨rfl,rfl⟩
 obtain ⟨w,m',h,rfl,rfl⟩:=h
 exact h
theorem MN (h:MemO B m q cl k) (hk:k<=1000000) (z:Int) (hz:-1<=z/\z<=1099511627776) (y:Int):
 ∃m',rT 125 [.ptr q.mo 0,ii z,iu y] m (.bool (decide (0<=dG cl.length z))) m'/\MemO B m' q (OF cl (dG cl.length z) y) (k+1)/\EvF q.fp q.fp m m':=by
 refine WF.ex1 fun K' hK'=> ?_
 refine WF.of_wpG (fun _=>rfl) vW (L:= [(.b .e,iu y),(.a .e,ii z),(.e,.ptr q.mo 0)]) rfl ?_
 unfold Jo
 have g:=h.g
 have r1:=CJ h z hz
 obtain ⟨p1,p2⟩:=IS cl.length z
 unfold OF at hK'
 by_cases h0:dG cl.length z<0
 ·rw[Xc (by omega)] at hK'
  simp only[Xb h0] at hK'
  simp (disch:=first|assumption|omega) only[go_sem,seval,aa,r1.wf']
  exact hK' _ ⟨h.more (by omega),EvF.refl m⟩
 ·rw[Xd (by omega)] at hK'
  simp only[Xa h0] at hK'
  obtain ⟨n,hn⟩:=Xh (show 0<=dG cl.length z by omega)
  rw[hn] at r1 p2 hK' h0
  have hnl:n<cl.length:=by omega
  obtain ⟨ver,v1,v2,v3⟩:=h.r
  obtain ⟨d1,d2,d3⟩:=h.d
  obtain ⟨id,off,cc,a1,a2,a3,a4,a5,a6,a7,a8⟩:=rm (f:=fun z=>iu z) h.n hnl
  have hb:=v3 _ (List.getElem_mem (show n<ver.length by omega))
  have n1:q.mo≠id:=fun e=>d1 (by rw[a2,e];simp)
  simp (disch:=first|assumption|omega) only[go_sem,seval,aa,r1.wf',g,a1,a4]
  generalize hM:m.put id _=M
  obtain ⟨ho,hC⟩:=a8 y M hM.symm
  have v1M:=v1.chg hC fun i hi w=>by have w:=one w;subst w;exact d3 _ (by rw[a2];simp) hi
  obtain ⟨id',off',cc',b1,b2,b3,b4,b5,b6,b7,b8⟩:=rm (f:=fun z=>ii z) v1M (n:=n) (by omega)
  have n2:q.mo≠id':=fun e=>d2 (by rw[b2,e];simp)
  have gM:=(hC.get h.o (by simpa using n1)).trans g
  simp (disch:=first|assumption|omega) only[go_sem,seval,gM,b1,b4,b7]
  generalize hM2:M.put id' _=M2
  obtain ⟨ho2,hC2⟩:=b8 (ver[n]+1) M2 hM2.symm
  have nM:=ho.chg hC2 fun i hi w=>by have w:=one w;subst w;exact d3 _ hi (by rw[b2];simp)
  refine hK' _ ⟨⟨(hC2.get (hC.old h.o) (by simpa using n2)).trans gM,hC2.old (hC.old h.o),h.nB,nM,⟨ver.set n (ver[n]+1),ho2,by simp[v2],fun w hw=> ?_⟩,h.d,(h.c.trans hC fun i hi o=> ?_).trans hC2 fun i hi o=> ?_,by simpa using h.ln⟩,(hC.weak fun i hi _=> ?_).trans hC2 fun i hi _=> ?_,fun j hj=>Or.inl hj⟩
  ·rcases List.mem_or_eq_of_mem_set hw with hw|rfl
   ·have:=v3 w hw;omega
   ·omega
  ·have hi:=one hi;subst hi;exact W9 o a3
  ·have hi:=one hi;subst hi;exact W9 o b3
  ·have hi:=one hi;subst hi;simp[Mp.fp,a2]
  ·have hi:=one hi;subst hi;simp[Mp.fp,b2]
theorem UP (h:MemO B m q cl k):∃v m',rT 51 [.ptr q.mo 0] m v m'/\aY m m' v 1 (kv cl)/\Chg [] m m':=by
 refine WF.ex fun K' hK'=> ?_
 refine WF.of_wpG (fun _=>rfl) Dw (L:= [(.e,.ptr q.mo 0)]) rfl ?_
 unfold Rh
 have g:=h.g
 have hln:=h.ln
 rw[aa]
 simp only[go_sem,seval,g]
 rcases pK h.n.sl (by simp;omega) with ⟨e1,e2⟩|⟨v',m1,e1,e2,e3⟩
 ·rw[e1]
  simp only[go_sem,seval]
  exact hK' _ _ ⟨by rw[e2];exact aY.nil,Chg.refl m⟩
 ·rw[e1]
  simp only[go_sem,seval]
  exact hK' _ _ ⟨e2,e3⟩
theorem Ov (m:NH) {z:Int} (h:a<=z/\z<=b):rT 77 [ii z,ii a,ii b] m (ii z) m:=by
 have h:∃w m',rT 77 [ii z,ii a,ii b] m w m'/\w=ii z/\m'=m:=by
  refine WF.ex fun K' hK'=> ?_
  refine WF.of_wpG (fun _=>rfl) DJ (L:= [(.b .e,ii b),(.a .e,ii a),(.e,ii z)]) rfl ?_
  unfold PI
  simp (disch:=first|assumption|omega) only[go_sem,seval,aa]
  exact hK' _ _ ⟨rfl,rfl⟩
 obtain ⟨w,m',h,rfl,rfl⟩:=h
 exact h
theorem H6 (hC:Chg [] B m) (hn:n<=64):∃w m',rT 45 [ii (n:Nat)] m w m'/\∃q,w= .ptr q.mo 0/\MemO B m' q (List.replicate n 0) 0/\Chg [] m m'/\∀i∈q.fp,¬am m i:=by
 refine WF.ex fun K' hK'=> ?_
 refine WF.of_wpG (fun _=>rfl) EQ (L:= [(.e,ii (n:Nat))]) rfl ?_
 unfold Rw
 have r1:=Ov m (z:=(n:Nat)) (a:=0) (b:=64) ⟨by omega,by omega⟩
 rw[aa]
 simp (disch:=first|assumption|omega|(simp only[aG]<;>omega)) only[go_sem,seval,r1.wf]
 generalize hM:hp _ 4 m=M
 have hCm:Chg [] m M:=aR hM rfl
 have g0:M.get (na m 0)=some (.cells true (rep n [iu 0])):=bu hM
 have g2:M.get (na m 2)=some (.cells true (rep n [ii 0])):=bu hM
 have g3:M.get (na m 3)=some (.cells true [.slc (na m 0) 0 n 1 n,.slc (na m 1) 0 n 1 n,.slc (na m 2) 0 n 1 n]):=bu hM
 have o0:am M (na m 0):=bt hM (by omega)
 have o2:am M (na m 2):=bt hM (by omega)
 have o3:am M (na m 3):=bt hM (by omega)
 have nw:∀j,¬am m (na m j):=fun j q=>aA q
 have nB:∀j,¬am B (na m j):=fun j q=>nw j (hC.old q)
 refine hK' _ _ ⟨⟨na m 3,.slc (na m 0) 0 n 1 n,.slc (na m 1) 0 n 1 n,.slc (na m 2) 0 n 1 n⟩,rfl,⟨g3,o3,nB 3,aY.of (by simp) (nB 0) g0 o0 (by rw[qB];simp) (by simp) (by simp),⟨List.replicate n 0,aY.of (by simp) (nB 2) g2 o2 (by rw[qB];simp) (by simp) (by simp),rfl,fun y hy=> ?_⟩,⟨by simp[ids,oE],by simp[ids,oE],by simp[ids,oE]⟩,hC.tr hCm,by simp;omega⟩,hCm,fun i hi=> ?_⟩
 ·rw[List.mem_replicate] at hy;rw[hy.2];exact ⟨by omega,by omega⟩
 ·simp only[Mp.fp,ids,Xf,List.mem_append,Xe,or_false] at hi
  rcases hi with rfl|rfl|rfl
  ·exact nw 3
  ·exact nw 0
  ·exact nw 2
end
structure Hd where
 (v0 l0:Int)
 (s0 cd:NV)
def gd (r:D4) (q:Mp) (vo:NV):List D4:=r::(q.fp++ids vo)
structure StO (B m:NH) (r:D4) (H:Hd) (q:Mp) (vo rec vl:NV) (z:Mc) (k:Nat):Prop where
 g:m.get r=some (.cells true [ii H.v0,ii H.l0,H.s0,H.cd,.ptr q.mo 0,vo,rec,vl,.bool z.ill])
 o:am m r
 nB:¬am B r
 mo:MemO B m q z.cl k
 ou:aY B m vo 1 (kv z.out)
 d:r∉q.fp/\r∉ids vo/\∀i∈q.fp,i∉ids vo
 c:Chg [] B m
 iv:∀y∈z.cl,cI y
section
variable {B m m':NH} {r b:D4} {H:Hd} {q:Mp} {vo rec vl vv:NV} {z:Mc} {k:Nat} {c:Cd} {t:Lan}
theorem StO.old (h:StO B m r H q vo rec vl z k):∀i∈gd r q vo,am m i/\¬am B i:=by
 intro i hi
 rcases List.mem_cons.1 hi with rfl|hi
 ·exact ⟨h.o,h.nB⟩
 rcases List.mem_append.1 hi with hi|hi
 ·exact h.mo.old i hi
 ·exact ⟨h.ou.sl.old i hi,h.ou.new i hi⟩
theorem StO.off  (h:StO B m r H q vo rec vl z k) (hC:Chg S m m') (hS:∀i∈gd r q vo,i∉S) (hB:∀i∈S,¬am B i):StO B m' r H q vo rec vl z k:=
 ⟨(hC.get h.o (hS _ (List.mem_cons_self ..))).trans h.g,hC.old h.o,h.nB,h.mo.off hC (fun i hi=>hS i (by simp[gd,hi])) hB,h.ou.chg hC fun i hi=>hS i (by simp[gd,hi]),h.d,h.c.trans hC fun i hi ho=>W9 ho (hB i hi),h.iv⟩
theorem StO.grow (h:StO B m r H q vo rec vl z k) (hC:Chg [] m m'):StO B m' r H q vo rec vl z k:=h.off hC (by simp) (by simp)
theorem StO.ev  (h:StO B m r H q vo rec vl z k) (hE:EvF F F' m m') (hd:∀i∈gd r q vo,i∉F) (hB:∀i∈F,¬am B i):StO B m' r H q vo rec vl z k:=h.off hE.c hd hB
theorem StO.more {k':Nat} (h:StO B m r H q vo rec vl z k) (hk:k<=k'):StO B m r H q vo rec vl z k':=⟨h.g,h.o,h.nB,h.mo.more hk,h.ou,h.d,h.c,h.iv⟩
theorem StO.refit {rec' vl':NV} {ill':Bool} (h:StO B m r H q vo rec vl z k) (hg:m'.get r=some (.cells true [ii H.v0,ii H.l0,H.s0,H.cd,.ptr q.mo 0,vo,rec',vl',.bool ill'])) (hC:Chg [r] m m'):StO B m' r H q vo rec' vl' ⟨z.cl,z.out,ill'⟩ k/\EvF (gd r q vo) (gd r q vo) m m':=by
 have hB:∀i∈ [r],¬am B i:=fun i hi=>by have hi:=one hi;subst hi;exact h.nB
 refine ⟨⟨hg,hC.old h.o,h.nB,h.mo.off hC (fun i hi w=> ?_) hB,h.ou.chg hC fun i hi w=> ?_,h.d,h.c.trans hC fun i hi ho=>W9 ho (hB i hi),h.iv⟩,hC.weak fun i hi _=> ?_,fun j hj=>Or.inl hj⟩
 ·have w:=one w;subst w;exact h.d.1 hi
 ·have w:=one w;subst w;exact h.d.2.1 hi
 ·have hi:=one hi;subst hi;simp[gd]
theorem RY {cl:List Int} (h:∀y∈cl,cI y) (i:Int):cI (mK cl i):=by
 unfold mK
 split
 ·exact Qt
 ·exact zi h _
theorem mE {v:List Int} (h:∀y∈v,cI y) (i:Int):cI (bw v i):=by
 unfold bw
 split
 ·exact zi h _
 ·exact Qt
theorem OG (m:NH) (x:Bool):rT 122 [.bool x] m (iu (if x=true then 1 else 0)) m:=by
 have h:∃w m',rT 122 [.bool x] m w m'/\w=iu (if x=true then 1 else 0)/\m'=m:=by
  refine WF.ex fun K' hK'=> ?_
  refine WF.of_wpG (fun _=>rfl) rj (L:= [(.e,.bool x)]) rfl ?_
  unfold Ft
  cases x with
  |true=>simp only[go_sem,seval,aa];exact hK' _ _ ⟨rfl,rfl⟩
  |false=>simp only[go_sem,seval,aa];exact hK' _ _ ⟨rfl,rfl⟩
 obtain ⟨w,m',h,rfl,rfl⟩:=h
 exact h
theorem StO.wr (h:StO B m r H q vo rec vl z k) (hk:k<=1000000) (ha:-1<=a/\a<=1099511627776) {y:Int} (hy:cI y):
 ∃m',rT 125 [.ptr q.mo 0,ii a,iu y] m (.bool (decide (0<=dG z.cl.length a))) m'/\StO B m' r H q vo rec vl ⟨OF z.cl (dG z.cl.length a) y,z.out,z.ill⟩ (k+1)/\EvF (gd r q vo) (gd r q vo) m m'/\EvF q.fp q.fp m m':=by
 obtain ⟨m',r1,h1,e1⟩:=MN h.mo hk a ha y
 refine ⟨m',r1,⟨(e1.get h.o h.d.1).trans h.g,e1.c.old h.o,h.nB,h1,h.ou.chg e1.c fun i hi w=>h.d.2.2 i w hi,h.d,h1.c, ?_⟩,e1.sup (fun i hi=>by simp[gd,hi]) fun j hj=>Or.inl hj,e1⟩
 dsimp only
 unfold OF
 split
 ·exact h.iv
 ·exact uw h.iv hy _
theorem StO.outs {M3 M4:NH} {y:Int} (h:StO B m r H q vo rec vl z k) (hO:aY B M3 vo' 1 (kv z.out++ [[iu y]])) (hC3:Chg (ids vo) m M3) (hF3:∀i∈ids vo',i∈ids vo∨¬am m i) (hM:M4=M3.put r (.cells true [ii H.v0,ii H.l0,H.s0,H.cd,.ptr q.mo 0,vo',rec,vl,.bool z.ill])):
 StO B M4 r H q vo' rec vl ⟨z.cl,z.out++ [y],z.ill⟩ k/\EvF (gd r q vo) (gd r q vo') m M4:=by
 have o3:=hC3.old h.o
 have hM:M4=hp [(.o r,.cells true [ii H.v0,ii H.l0,H.s0,H.cd,.ptr q.mo 0,vo',rec,vl,.bool z.ill])] 0 M3:=by rw[hM,←bX o3,aa]
 have hC4:Chg [r] M3 M4:=by rw[hM];exact (dg _ _ _).weak (by simp[aC])
 have hrv:r∉ids vo':=fun w=>(hF3 r w).elim h.d.2.1 fun w=>w h.o
 have hB1:∀i∈ids vo,¬am B i:=h.ou.new
 have hB2:∀i∈ [r],¬am B i:=fun i hi=>by have hi:=one hi;subst hi;exact h.nB
 have hm:=(h.mo.off hC3 (fun i hi w=>h.d.2.2 i hi w) hB1).off hC4 (fun i hi w=>by have w:=one w;subst w;exact h.d.1 hi) hB2
 refine ⟨⟨by rw[hM];exact (aE o3).trans aq,hC4.old o3,h.nB,hm, ?_,⟨h.d.1,hrv,fun i hi w=>(hF3 i w).elim (h.d.2.2 i hi) fun w=>w (h.mo.old i hi).1⟩,hm.c,h.iv⟩,(hC3.weak fun i hi _=> ?_).trans hC4 fun i hi _=> ?_,fun j hj=> ?_⟩
 ·have:=hO.chg hC4 fun i hi w=>by have w:=one w;subst w;exact hrv hi
  show aY B M4 vo' 1 ((z.out++ [y]).map fun z=> [iu z])
  rw[List.map_append]
  exact this
 ·simp[gd,hi]
 ·have hi:=one hi;subst hi;simp[gd]
 ·simp only[gd,Xf,List.mem_append] at hj ⊢
  rcases hj with hj|hj|hj
  ·exact Or.inl (Or.inl hj)
  ·exact Or.inl (Or.inr (Or.inl hj))
  ·exact (hF3 j hj).imp (fun w=>Or.inr (Or.inr w)) id
structure ActO (B m m':NH) (r b:D4) (H:Hd) (q:Mp) (vo vo' rec vl vv:NV) (k:Nat) (c:Cd) (t:Lan) (v:List Int) (z:Mc):Prop where
 st:StO B m' r H q vo' rec vl z (k+1)
 la:LanO B m' b vv c ⟨t.a,v,t.sk,t.en⟩
 ev:EvF (gd r q vo++jJ b vv) (gd r q vo'++jJ b vv) m m'
 dj:∀i∈gd r q vo',i∉jJ b vv
set_option maxHeartbeats 1000000 in
theorem R5 (hS:StO B m r H q vo rec vl z k) (hL:LanO B m b vv c t) (hd:∀i∈gd r q vo,i∉jJ b vv) (hk:k<=1000000) (ho:z.out.length<=1000000) {s:Sp} (hs:bp s):
 ∃m',rT 88 [.ptr r 0,.ptr b 0,.agg s.l] m (.tup []) m'/\∃vo',ActO B m m' r b H q vo vo' rec vl vv k c t (fW s t.v z).1 (fW s t.v z).2:=by
 refine WF.ex1 fun K' hK'=> ?_
 refine WF.of_wpG (fun _=>rfl) CU (L:= [(.b .e,.agg s.l),(.a .e,.ptr b 0),(.e,.ptr r 0)]) rfl ?_
 unfold PE
 generalize hM0:hp [(.n 0,.cells true s.l)] 1 m=M0
 have hC0:Chg [] m M0:=aR hM0 rfl
 have q0:M0.get (na m 0)=some (.cells true s.l):=bu hM0
 have u0:am M0 (na m 0):=bt hM0 (by omega)
 have hS0:=hS.grow hC0
 have hL0:=hL.grow hC0
 have gS:=hS0.g
 have ia:=mE hL.iv s.a
 have ib:=mE hL.iv s.b
 have ic:=mE hL.iv s.c
 have r1:=re hL0 s.a
 have r2:=Sm M0 _ ia
 have ha:=R9 _ ia
 have r3:=Sk hS0.mo _ ha
 have rb:=re hL0 s.b
 have rc:=re hL0 s.c
 have inw:=RY hS.iv (dG z.cl.length (gT (bw t.v s.a)))
 have hLB:∀i∈jJ b vv,¬am B i:=fun i hi=>(hL.old i hi).2
 have hSB:∀i∈gd r q vo,¬am B i:=fun i hi=>(hS.old i hi).2
 have hd':∀i∈jJ b vv,i∉gd r q vo:=fun i hi w=>hd i w hi
 have hna:na m 0∉jJ b vv:=fun w=>aA (hL.old _ w).1
 have hna2:na m 0∉gd r q vo:=fun w=>aA (hS.old _ w).1
 unfold fW at hK'
 by_cases h8:s.k=8
 ·simp only[Xb h8] at hK'
  have hvo:=hS.ou.sl.one
  have hvs:=hS.ou.sl.same (n:=3)
  rw[←hM0] at gS r1 r2 r3
  simp (disch:=first|assumption|omega|(simp only[aG]<;>omega)) only[go_sem,seval,gS,r1.wf',r2.wf',r3.wf',hvo,hvs]
  have hCa:Chg [] m (hp [(.n 1,.cells true [iu (bw t.v s.a)]),(.n 0,.cells true s.l)] 2 m):=aI rfl
  have hSa:=hS.grow hCa
  have hLa:=hL.grow hCa
  refine dp (cs:= [iu (bw t.v s.a)]) hSa.ou bI (bN (by omega)) rfl (fun i hi=>hSa.c.old hi) (by simp;omega) (by simp;omega) ?_
  intro vo' M3 hO3 hC3 hF3
  have g3':=(hC3.get hSa.o hSa.d.2.1).trans hSa.g
  have hvo':=hO3.sl.one
  simp (disch:=first|assumption|omega|(simp only[aG]<;>omega)) only[go_sem,seval,aa,g3',hvo']
  generalize hM4:M3.put r _=M4
  obtain ⟨k1,k2⟩:=hSa.outs hO3 hC3 hF3 hM4.symm
  refine hK' _ ⟨vo',k1.more (by omega),hLa.ev k2 hd' hSB,(k2.pre hCa).addL _,fun i hi w=> ?_⟩
  exact k2.nin (hLa.old i w).1 (fun p=>hd i p w) hi
 ·simp only[Xa h8] at hK'
  have hs:s.k=3∨s.k=4∨s.k=5:=by unfold bp at hs;omega
  rcases hs with h|h|h
  ·simp only[Xb h] at hK'
   obtain ⟨m3,r4,hL3,e3⟩:=nA hL0 s.d inw
   have hS3:=hS0.ev e3 hd hLB
   simp (disch:=first|assumption|omega) only[go_sem,seval,hM0,q0,gS,r1.wf',r2.wf',r3.wf',r4.wf']
   exact hK' _ ⟨vo,hS3.more (by omega),hL3,EvF.pre hC0 (e3.addR _),hd⟩
  ·have h3:s.k≠3:=by omega
   simp only[Xa h3,Xb h] at hK'
   obtain ⟨m3,r4,hS3,e3,-⟩:=hS0.wr hk ha ib
   have hL3:=hL0.ev e3 hd' hSB
   simp (disch:=first|assumption|omega) only[go_sem,seval,hM0,q0,gS,r1.wf',r2.wf',r3.wf',rb.wf',r4.wf']
   exact hK' _ ⟨vo,hS3,hL3,EvF.pre hC0 (e3.addL _),hd⟩
  ·have h3:s.k≠3:=by omega
   have h4:s.k≠4:=by omega
   simp only[Xa h3,Xa h4] at hK'
   by_cases hc:0<=dG z.cl.length (gT (bw t.v s.a))/\mK z.cl (dG z.cl.length (gT (bw t.v s.a)))=bw t.v s.b
   ·simp only[Xb hc] at hK'
    obtain ⟨hc1,hc2⟩:=hc
    obtain ⟨m3,r4,hS3,e3,-⟩:=hS0.wr hk ha ic
    have hL3:=hL0.ev e3 hd' hSB
    obtain ⟨m4,r5,hL4,e4⟩:=nA hL3 s.d (z:=1) ⟨by omega,by omega⟩
    have hS4:=hS3.ev e4 hd hLB
    have q3:=(e3.c.get u0 hna2).trans q0
    have rbit:=OG m3 true
    rw[Xb rfl] at rbit
    have d1:decide (0<=dG z.cl.length (gT (bw t.v s.a)))=true:=Xd hc1
    have d2:decide (mK z.cl (dG z.cl.length (gT (bw t.v s.a)))=bw t.v s.b)=true:=Xd hc2
    simp (disch:=first|assumption|omega) only[go_sem,seval,hM0,q0,gS,r1.wf',r2.wf',r3.wf',rb.wf',rc.wf',d1,d2,r4.wf',q3,rbit.wf',r5.wf']
    exact hK' _ ⟨vo,hS4,hL4,EvF.pre hC0 ((e3.addL _).trans (e4.addR _)),hd⟩
   ·simp only[Xa hc] at hK'
    obtain ⟨m4,r5,hL4,e4⟩:=nA hL0 s.d (z:=0) ⟨by omega,by omega⟩
    have hS4:=hS0.ev e4 hd hLB
    have rbit:=OG M0 false
    rw[Xa (by simp)] at rbit
    by_cases hc1:0<=dG z.cl.length (gT (bw t.v s.a))
    ·have d1:decide (0<=dG z.cl.length (gT (bw t.v s.a)))=true:=Xd hc1
     have d2:decide (mK z.cl (dG z.cl.length (gT (bw t.v s.a)))=bw t.v s.b)=false:=Xc fun w=>hc ⟨hc1,w⟩
     simp (disch:=first|assumption|omega) only[go_sem,seval,hM0,q0,gS,r1.wf',r2.wf',r3.wf',rb.wf',d1,d2,rbit.wf',r5.wf']
     exact hK' _ ⟨vo,hS4.more (by omega),hL4,EvF.pre hC0 (e4.addR _),hd⟩
    ·have d1:decide (0<=dG z.cl.length (gT (bw t.v s.a)))=false:=Xc hc1
     simp (disch:=first|assumption|omega) only[go_sem,seval,hM0,q0,gS,r1.wf',r2.wf',r3.wf',rb.wf',d1,rbit.wf',r5.wf']
     exact hK' _ ⟨vo,hS4.more (by omega),hL4,EvF.pre hC0 (e4.addR _),hd⟩
end
end FR
