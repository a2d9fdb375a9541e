/- WholeSparing on the given program: part 5. -/
import Derived.Test.YtmgpgdahniehnaaGreatWsD
set_option linter.unusedSimpArgs false
set_option linter.unusedVariables false
set_option linter.unusedSectionVars false
set_option linter.defProp false
open Go Nm Go.Proofs
namespace FR
variable {a n i w j x y mid N start en s a' b' p:Nat} {d d' d1 d0:Array Int} {m B M m0 m':NH} {t:Tm} {Q:Out->Dyn->Prop} {v vl vs u w1 w2:NV} {C:List (List NV)} {c lo:Int} {o:D4} {T:List D4} {k:Int->Int} {cs:List NV} {sole tk:List Bool}
section
variable {m m' m0 M:NH} {b:List Nat} {v:NV}
theorem IL (hv:Sl m v 1 (up b)) (hl:b.length<=1000000) (hb:∀c∈b,c<256):
 ∃w m',rT 74 [v] m w m'/\(∃vc vt vr,w= .tup [.agg [vc,vt,vr],ii (eg b).2.1,ii (eg b).2.2]/\(match (eg b).1 with|none=>vc= .nils/\vt= .nils/\vr= .nils/\(eg b).2.2≠0|some p=>RP m' (gQ m) p vc vt vr/\(eg b).2.2=0))/\Chg [] m m':=by
 have early:∀(a e:Nat),(∀M,Sl M v 1 (up b)->∃M2,rT 125 [v] M (.tup [.nils,ii a,ii e]) M2/\Chg [] M M2)->e≠0->eg b=(none,a,e)->_:=λa e hT he hpe=>(show ∃w m',rT 74 [v] m w m'/\(∃vc vt vr,w= .tup [.agg [vc,vt,vr],ii (eg b).2.1,ii (eg b).2.2]/\(match (eg b).1 with|none=>vc= .nils/\vt= .nils/\vr= .nils/\(eg b).2.2≠0|some p=>RP m' (gQ m) p vc vt vr/\(eg b).2.2=0))/\Chg [] m m' from by
  rw[hpe]
  refine WF.ex λK hK=> ?_
  refine WF.of_wpG (λ_=>rfl) pH (L:= [(.e,v)]) rfl ?_
  unfold Lk
  generalize hM1:hp [(.n 2,.cells true [.int .i64 (.lit 0)]),(.n 1,.cells true [.int .i64 (.lit 0)]),(.n 0,.cells true [.nils,.nils,.nils])] 3 m=M1
  have hC1:Chg [] m M1:=az hM1 rfl
  obtain⟨M2,r2,hC2⟩:=hT M1 (hv.chg hC1 (by simp))
  have a0:ap M1 (na m 0):=aL hM1 (by omega)
  have a1:ap M1 (na m 1):=aL hM1 (by omega)
  have a2:ap M1 (na m 2):=aL hM1 (by omega)
  have b0:=hC2.old a0
  have b1:=hC2.old a1
  have b2:=hC2.old a2
  have g0:M2.get (na m 0)=some (.cells true [.nils,.nils,.nils]):=(hC2.get a0 (by simp)).trans (aI hM1)
  have g1:M2.get (na m 1)=some (.cells true [.int .i64 (.lit 0)]):=(hC2.get a1 (by simp)).trans (aI hM1)
  have g2:M2.get (na m 2)=some (.cells true [.int .i64 (.lit 0)]):=(hC2.get a2 (by simp)).trans (aI hM1)
  have n01:na m 0≠na m 1:=by simp[cn]
  have n02:na m 0≠na m 2:=by simp[cn]
  have n12:na m 1≠na m 2:=by simp[cn]
  have n10:=n01.symm
  have n20:=n02.symm
  have n21:=n12.symm
  have he2:decide ((e:Int)≠0)=true:=adH (by omega)
  simp (disch:=first|assumption|omega|(apply aq;omega)|(apply au;assumption)|(simp only[aA]<;>omega)) only[go_sem,seval,hM1,r2.wf,g0,g1,g2,he2]
  refine hK _ _ ⟨⟨.nils,.nils,.nils,rfl,rfl,rfl,rfl,he⟩,(hC1.tr hC2).trans (aw rfl) λi hi ho=> ?_⟩
  simp[bj] at hi
  rcases hi with rfl|rfl|rfl|rfl|rfl<;>exact adD ho ak)
 by_cases h16:16384<b.length
 ·refine early 0 3 (λM hM=> ?_) (by omega) (adF h16)
  obtain⟨w,M2,r2,hw,hC2⟩:=qg M hM hl hb
  rw[adF h16] at hw
  exact⟨M2,hw▸r2,hC2⟩
 cases ht:(bG b).2 with
 |some a=>
  refine early a 2 (λM hM=> ?_) (by omega) (by unfold eg;rw[adE h16,ht])
  obtain⟨w,M2,r2,hw,hC2⟩:=qg M hM hl hb
  rw[adE h16,ht] at hw
  have hw:w= .tup [.nils,ii a,ii 2]:=hw
  exact⟨M2,hw▸r2,hC2⟩
 |none=>
  clear early
  obtain⟨hok,hne⟩:=Q6 ht
  have hat:=JV _ _ hok
  have hlen:=(G2 _ _ hok).resolve_left hne
  have hpos:0<(bG b).1.length:=List.length_pos_iff.2 hne
  have hlast:=PM _ _ _ hok
  obtain⟨bl,bp,ba,be,⟨n1,n2,n3,n4,n5,n6⟩,o,d,hrun,hE⟩:=L8 (L:=(bG b).1) hv (by omega) hpos (λi x hx=>(hat i x hx).1) (λi x hx c hc=>hb c ((hat i x hx).2.2 c hc)) λM hM=>by
   obtain⟨w,M2,r2,hw,hC2⟩:=qg M hM (by omega) hb
   rw[adE (by omega),ht] at hw
   obtain⟨u,rfl,ho⟩:=hw
   exact⟨u,M2,r2,ho,hC2⟩
  have hpr:eg b=if (bu (bG b).1 ((bG b).1.length+1) ⟨[], [], [],false⟩ ⟨0,0,0⟩).2.e≠0 then (none,(aM (bG b).1 (bu (bG b).1 ((bG b).1.length+1) ⟨[], [], [],false⟩ ⟨0,0,0⟩).2.b).p,(bu (bG b).1 ((bG b).1.length+1) ⟨[], [], [],false⟩ ⟨0,0,0⟩).2.e)
   else (some ⟨(bu (bG b).1 ((bG b).1.length+1) ⟨[], [], [],false⟩ ⟨0,0,0⟩).1.cs,(bu (bG b).1 ((bG b).1.length+1) ⟨[], [], [],false⟩ ⟨0,0,0⟩).1.ts,(bu (bG b).1 ((bG b).1.length+1) ⟨[], [], [],false⟩ ⟨0,0,0⟩).1.rc⟩,b.length,0):=by
   unfold eg;rw[adE h16,ht]
  have hst:=Sv (L:=(bG b).1) ((bG b).1.length+1) ⟨[], [], [],false⟩ ⟨0,0,0⟩
  have hlim:=hst.lim2 hlast (Nat.zero_le _) (Nat.zero_le _)
  clear hst hlast
  generalize (bu (bG b).1 ((bG b).1.length+1) ⟨[], [], [],false⟩ ⟨0,0,0⟩).1=X at hE hpr
  generalize (bu (bG b).1 ((bG b).1.length+1) ⟨[], [], [],false⟩ ⟨0,0,0⟩).2=Z at hE hpr hlim
  rw[hpr]
  obtain⟨e1,e2,t1,t2,t3,hC,⟨nb1,nb2,nb3⟩,⟨ho,hz,p1,p2,p3,g1,hrp,g2,g3⟩|⟨hz,u,rfl,o1,g1,o2,⟨w1,w2,w3,g2⟩,o3,⟨w4,g3⟩,o4,⟨w5,g4⟩,hu,hd⟩⟩:=hE
  ·rw[adE (by omega)]
   obtain⟨o2,d2,h2,ho2,hd2,hc2,hh⟩:=LV (M:=d.h) (bl:=bl) (bp:=bp) (ba:=ba) (be:=be)
   have hrd:sq (puts [] d.t) d2.h [.cellN D4.e.b 3,.cell1 D4.e.c,.cell1 D4.e.f] (λl=>l= [.agg [p1,p2,p3],ii b.length,ii 0]):=by
    rw[hh]
    simp (disch:=first|assumption|omega|(apply aq;omega)|(apply au;assumption)|(simp only[aA]<;>omega)) only[go_sem,seval,t1,t2,t3,g1,g2,g3]
   obtain⟨l,q1,q2⟩:=rQ _ _ (λl=>CR.val (gS l) d.ctx d2.h) hrd
   subst q2
   refine⟨_,d2.h,⟨_,Call.of_dfr (λ_ _=>rfl) pH hrun e1 (Or.inl ⟨rfl,ho⟩) rj h2 ho2 hd2 hc2 rfl q1⟩,⟨p1,p2,p3,rfl, ?_,rfl⟩, ?_⟩
   ·rw[hh];exact hrp
   ·rw[hh];exact hC
  ·rw[adF hz]
   have hzb:Z.b<(bG b).1.length:=by omega
   have hx:=List.getElem?_eq_getElem hzb
   have en:aM (bG b).1 Z.b=(bG b).1[Z.b]:=by rw[aM,hx];rfl
   rw[en]
   obtain⟨o2',d2,h2,ho2,hd2,hc2,k1,k2,k3,hCd⟩:=LN (M:=d.h) (L:=(bG b).1) (e:=Z.e) (a:=Z.b) o1 g1 o2 g2 o3 g3 o4 g4 hu hzb (by omega) hx n1 n2 n3 n4 n5 n6 hd
   have hrd:sq (puts [] d.t) d2.h [.cellN D4.e.b 3,.cell1 D4.e.c,.cell1 D4.e.f] (λl=>l= [.agg [.nils,.nils,.nils],ii (bG b).1[Z.b].p,ii Z.e]):=by
    simp (disch:=first|assumption|omega|(apply aq;omega)|(apply au;assumption)|(simp only[aA]<;>omega)) only[go_sem,seval,t1,t2,t3,k1,k2,k3]
   obtain⟨l,q1,q2⟩:=rQ _ _ (λl=>CR.val (gS l) d.ctx d2.h) hrd
   subst q2
   refine⟨_,d2.h,⟨_,Call.of_dfr (λ_ _=>rfl) pH hrun e1 (Or.inr ⟨_,rfl,rfl⟩) rj h2 ho2 hd2 hc2 rfl q1⟩,⟨.nils,.nils,.nils,rfl,rfl,rfl,rfl,hz⟩,hC.trans hCd λi hi ho=> ?_⟩
   simp only[adJ,adI,or_false] at hi
   rcases hi with rfl|rfl|rfl
   ·exact adD ho nb1
   ·exact adD ho nb2
   ·exact adD ho nb3
end
def JB (s:Sp):Bool:=decide (s.k=3∨s.k=4∨s.k=5)
def flS (s:Sp):Sp:=⟨6,0,s.a,0,0,0,s.ce,0,0⟩
def syS:Sp:=⟨7,0,0,0,0,0,0,0,0⟩
def YC (s:Sp):List Sp:=if JB s=true then [s,flS s,syS] else [s]
def eu (l:List Sp):List Sp:=l.flatMap YC
theorem Vc (s:Sp):(YC s).length<=3:=by unfold YC;split<;>simp
theorem kB (l:List Sp):(eu l).length<=3*l.length:=by
 induction l with
 |nil=>simp[eu]
 |cons s l ih=>
  have:=Vc s
  unfold eu at ih ⊢
  rw[List.flatMap_cons,aa5,ab4];omega
theorem xq (l:List Sp) (hi:i<l.length):eu (l.take (i+1))=eu (l.take i)++YC l[i]:=by
 rw[ab7,List.getElem?_eq_getElem hi,ae6]
 unfold eu
 rw[List.flatMap_append];simp
section
variable {m m' M:NH} {vs:NV} {st:List Sp}
theorem tU (m:NH) (s:Sp):∃m',rT 213 [.agg s.l] m (.bool (JB s)) m'/\Chg [] m m':=by
 refine WF.ex1 λK hK=> ?_
 refine WF.of_wpG (λ_=>rfl) ym (L:= [(.e,.agg s.l)]) rfl ?_
 unfold NA
 unfold JB at hK
 by_cases h3:s.k=3
 ·rw[adH (Or.inl h3)] at hK
  simp (disch:=first|assumption|omega|(apply aq;omega)|(apply au;assumption)|(simp only[aA]<;>omega)) only[go_sem,seval,h3]
  exact hK _ (aw rfl)
 ·by_cases h4:s.k=4
  ·rw[adH (Or.inr (Or.inl h4))] at hK
   simp (disch:=first|assumption|omega|(apply aq;omega)|(apply au;assumption)|(simp only[aA]<;>omega)) only[go_sem,seval,h4]
   exact hK _ (aw rfl)
  ·by_cases h5:s.k=5
   ·rw[adH (Or.inr (Or.inr h5))] at hK
    simp (disch:=first|assumption|omega|(apply aq;omega)|(apply au;assumption)|(simp only[aA]<;>omega)) only[go_sem,seval,h5]
    exact hK _ (aw rfl)
   ·rw[adG (by simp[h3,h4,h5])] at hK
    simp (disch:=first|assumption|omega|(apply aq;omega)|(apply au;assumption)|(simp only[aA]<;>omega)) only[go_sem,seval,h3,h4,h5]
    exact hK _ (aw rfl)
theorem G8  {v:Int} (hv:Sl m vs 9 (mm st)) (hl:st.length<=1000000):
 ∃w m',rT 132 [.agg [ii v,ii lo,vs]] m w m'/\(∃vs',w= .agg [ii v,ii lo,vs']/\aQ m m' vs' 9 (mm (eu st)))/\Chg [] m m':=by
 refine WF.ex λK hK=> ?_
 refine WF.of_wpG (λ_=>rfl) Du (L:= [(.e,.agg [ii v,ii lo,vs])]) rfl ?_
 unfold NW
 have hlen:=hv.len
 rw[aa0] at hlen
 generalize hM1:hp [(.n 1,.cells true [ii 0,ii 0,.nils]),(.n 0,.cells true [ii v,ii lo,vs])] 2 m=M1
 have hC1:Chg [] m M1:=az hM1 rfl
 have g0:M1.get (na m 0)=some (.cells true [ii v,ii lo,vs]):=aI hM1
 have g1:M1.get (na m 1)=some (.cells true [ii 0,ii 0,.nils]):=aI hM1
 have o0:ap M1 (na m 0):=aL hM1 (by omega)
 have o1:ap M1 (na m 1):=aL hM1 (by omega)
 have hv1:Sl M1 vs 9 (mm st):=hv.chg hC1 (by simp)
 simp only[go_sem,seval,hM1,g0,hlen]
 have hle:∀i,(eu (st.take i)).length<=3*st.length:=λi=>ab9 (kB _) (Nat.mul_le_mul_left _ (by rw[aa7];omega))
 refine W.loop (λk D=>∃t M i v',D=⟨t, [],none,M⟩/\NT.get D4.e.a t=some (.ptr (na m 0) 0)/\NT.get D4.e.b t=some (.ptr (na m 1) 0)/\NT.get D4.e.c t=some v'/\NT.get D4.e.a.c t=some vs/\NT.get D4.e.a.f t=some (ii st.length)/\NT.get D4.e.b.a t=some (ii (i:Nat))/\i+k=st.length/\aQ M1 M v' 9 (mm (eu (st.take i)))/\Chg [] M1 M) ?_ st.length _
  ⟨_,M1,0,.nils,rfl,by simp only[go_sem,seval],by simp only[go_sem,seval],by simp only[go_sem,seval],by simp only[go_sem,seval],by simp only[go_sem,seval],by simp only[go_sem,seval],by omega,aQ.nil,Chg.refl M1⟩
 rintro k D ⟨t,M,i,v',rfl,t1,t2,t3,t4,t5,t6,hik,ho,hC⟩
 apply av
 unfold zl
 change wp _ _ _ _ ⟨puts [] t, [],none,M⟩ _
 by_cases hi:i<st.length
 ·obtain⟨id,off,wr,c,a1,a2,a3,a4,a5⟩:=(hv1.chg hC (by simp)).at i (by simpa using hi)
  rw[aa4] at a5
  have hsl:(Sp.l st[i]).length=9:=rfl
  have hfl:=xq st hi
  have hlei:=hle i
  generalize st[i]=s at a5 hsl hfl
  rw[←aa M]
  simp (disch:=first|omega|(simp only[aA]<;>omega)) only[go_sem,seval,t3,t4,t5,t6,a1,a2,a5]
  generalize hM2:hp _ 2 M=M2
  have hC2:Chg [] M M2:=az hM2 rfl
  have gx:M2.get (na M 1)=some (.cells true s.l):=aI hM2
  have gl:M2.get (na M 0)=some (.cells true s.l):=aI hM2
  have ol:ap M2 (na M 0):=aL hM2 (by omega)
  have nl:na M 0∉ids v':=λq=>ak (ho.sl.old _ q)
  obtain⟨v2,M3,q1,o3,hC3,hF3⟩:=(ho.chg hC2 (by simp)).app2 (bytes:=72) (kc:=1) gx (aL hM2 (by omega)) rfl (λi hi=>hC2.old (hC.old hi)) (by rw[aa0];omega) (by rw[aa0];omega)
  have gl3:=(hC3.get ol nl).trans gl
  have ol3:=hC3.old ol
  have c03:Chg [] M1 M3:=(hC.tr hC2).trans hC3 λi hi q=>adD q (ho.new i hi)
  obtain⟨M4,r4,hC4⟩:=tU M3 s
  have gl4:=(hC4.get ol3 (by simp)).trans gl3
  have ol4:=hC4.old ol3
  have c04:=c03.tr hC4
  have o4:=o3.chg hC4 (by simp)
  have hln:(mm (eu (st.take i))++ [s.l]).length<=3*st.length+1:=by simp;omega
  unfold YC at hfl
  cases hb:JB s with
  |false=>
   rw[hb] at r4
   rw[adE (by rw[hb];exact aa3)] at hfl
   simp (disch:=omega) only[go_sem,seval,t6,q1,gl3,r4.wf']
   exact⟨st.length - (i+1),by omega,_,M4,i+1,v2,by rfl,by simp only[go_sem,seval,t1],by simp only[go_sem,seval,t2],by simp only[go_sem,seval],by simp only[go_sem,seval,t4],by simp only[go_sem,seval,t5],by simp only[go_sem,seval]<;>rfl,by omega,by rw[hfl];simpa using o4,c04⟩
  |true=>
   rw[hb] at r4
   rw[adF hb] at hfl
   simp (disch:=first|omega|(simp only[aA]<;>omega)) only[go_sem,seval,t3,q1,gl3,r4.wf,gl4]
   generalize hM5:hp _ 1 M4=M5
   have hC5:Chg [] M4 M5:=az hM5 rfl
   have gy:M5.get (na M4 0)=some (.cells true ((flS s).l++syS.l)):=aI hM5
   have sy:Sl M5 (.slc (na M4 0) 0 2 9 2) 9 [(flS s).l,syS.l]:=⟨λy hy=>by simp at hy;rcases hy with rfl|rfl<;>rfl,Or.inr ⟨_,0,2,true,_,rfl,gy,aL hM5 (by omega),by simp,rfl⟩⟩
   obtain⟨v3,M6,q2,o6,hC6⟩:=(o4.chg hC5 (by simp)).app (bytes:=72) sy (by simp) (λi hi=>hC5.old (c04.old hi)) (by simp only[ab4,af0];omega) (by simp only[ab4,af0];omega)
   simp (disch:=omega) only[go_sem,seval,t6,q2]
   exact⟨st.length - (i+1),by omega,_,M6,i+1,v3,by rfl,by simp only[go_sem,seval,t1],by simp only[go_sem,seval,t2],by simp only[go_sem,seval],by simp only[go_sem,seval,t4],by simp only[go_sem,seval,t5],by simp only[go_sem,seval]<;>rfl,by omega,by rw[hfl];simpa using o6,(c04.tr hC5).trans hC6 λi hi q=>adD q (o3.new i hi)⟩
 ·have e:st.take i=st:=ac9 (by omega)
  rw[e] at ho
  have q0:=(hC.get o0 (by simp)).trans g0
  have q1:=(hC.get o1 (by simp)).trans g1
  have p0:=hC.old o0
  have p1:=hC.old o1
  have hvo:=ho.sl.one
  have n10:na m 1≠na m 0:=by simp[cn]
  rw[←aa M]
  simp (disch:=first|omega|(simp only[aA]<;>omega)) only[go_sem,seval,t1,t2,t3,t5,t6,q0,q1,hvo]
  generalize hM':hp _ 0 M=M'
  have hC':Chg [na m 1,na m 0] M M':=az hM' rfl
  have nv:∀i∈ids v',i∉ [na m 1,na m 0]:=λi hi q=>by
   simp only[adJ,adI,or_false] at q
   rcases q with rfl|rfl
   ·exact ho.new _ hi o1
   ·exact ho.new _ hi o0
  refine hK _ _ ⟨⟨v',rfl,(ho.chg hC' nv).back λi hi=>hC1.old hi⟩,(hC1.tr hC).trans hC' λi hi q=> ?_⟩
  simp only[adJ,adI,or_false] at hi
  rcases hi with rfl|rfl<;>exact adD q ak
end
def Qx (s:Sp) (c:Int):Bool:=JB s&&decide (s.ce=c)
def uQ (l:List Sp) (c:Int):Bool:=l.any λs=>Qx s c
theorem PZ {l:List Sp} (hi:i<l.length):uQ (l.take (i+1)) c=(uQ (l.take i) c||Qx l[i] c):=by
 unfold uQ
 rw[ab7,List.getElem?_eq_getElem hi,List.any_append]
 simp
theorem UW {l:List Sp} (hi:i<l.length) (h:Qx l[i] c=true):uQ l c=true:=List.any_eq_true.mpr ⟨_,aa9 hi,h⟩
def wZ (l:List Sp) (i:Nat):Bool:=match l[i]?,l[i+1]?,l[i+2]? with
 |some s,some f,some y=>decide (f.k=6/\f.a=s.a/\f.ce=s.ce/\y.k=7)
 |_,_,_=>false
section
variable {m m' M:NH} {vs:NV} {st:List Sp}
theorem UG  {v:Int} (hv:Sl m vs 9 (mm st)) (hl:st.length<=1000000) (c:Int):∃m',rT 214 [.agg [ii v,ii lo,vs],ii c] m (.bool (uQ st c)) m'/\Chg [] m m':=by
 refine WF.ex1 λK hK=> ?_
 refine WF.of_wpG (λ_=>rfl) AY (L:= [(.a .e,ii c),(.e,.agg [ii v,ii lo,vs])]) rfl ?_
 unfold Nu
 have hlen:=hv.len
 rw[aa0] at hlen
 have hone:=hv.one
 generalize hM1:hp [(.n 0,.cells true [ii v,ii lo,vs])] 1 m=M1
 have hC1:Chg [] m M1:=az hM1 rfl
 have g0:M1.get (na m 0)=some (.cells true [ii v,ii lo,vs]):=aI hM1
 have hv1:Sl M1 vs 9 (mm st):=hv.chg hC1 (by simp)
 simp only[go_sem,seval,hM1,g0,hlen]
 refine W.loop (λk D=>∃t M i,D=⟨t, [],none,M⟩/\NT.get D4.e.a t=some (ii c)/\NT.get D4.e.a.f t=some vs/\NT.get D4.e.b.a t=some (ii st.length)/\NT.get D4.e.b.b t=some (ii (i:Nat))/\i+k=st.length/\uQ (st.take i) c=false/\Chg [] M1 M) ?_ st.length _
  ⟨_,M1,0,rfl,by exact gq rfl,by exact gq rfl,by exact gq rfl,by exact gq rfl,by omega,rfl,Chg.refl M1⟩
 rintro k D ⟨t,M,i,rfl,t1,t2,t3,t4,hik,hno,hC⟩
 apply av
 unfold CG
 change wp _ _ _ _ ⟨puts [] t, [],none,M⟩ _
 by_cases hi:i<st.length
 ·obtain⟨id,off,wr,cs,a1,a2,a3,a4,a5⟩:=(hv1.chg hC (by simp)).at i (by simpa using hi)
  rw[aa4] at a5
  have hsl:(Sp.l st[i]).length=9:=rfl
  have hsu:=PZ (c:=c) hi
  have hat:=UW (c:=c) hi
  rw[hno,Bool.false_or] at hsu
  generalize st[i]=s at a5 hsl hsu hat
  generalize hM2:hp [(.n 0,.cells true s.l),(.n 0,.cells true [.int .i64 (.lit 0),.int .i64 (.lit 0),.int .i64 (.lit 0),.int .i64 (.lit 0),.int .i64 (.lit 0),.int .i64 (.lit 0),.int .i64 (.lit 0),.int .u64 (.lit 0),.int .u8 (.lit 0)])] 1 M=M2
  have hC2:Chg [] M M2:=az hM2 rfl
  have gl:M2.get (na M 0)=some (.cells true s.l):=aI hM2
  have ol:ap M2 (na M 0):=aL hM2 (by omega)
  obtain⟨M4,r4,hC4⟩:=tU M2 s
  have gl4:=(hC4.get ol (by simp)).trans gl
  have c4:=(hC.tr hC2).tr hC4
  unfold Qx at hsu hat
  rw[←aa M]
  cases hb:JB s with
  |false=>
   rw[hb] at r4 hsu
   simp (disch:=first|omega|(simp only[aA]<;>omega)) only[go_sem,seval,t2,t3,t4,a1,a2,a5,hM2,gl,r4.wf]
   exact⟨st.length - (i+1),by omega,_,_,i+1,by rfl,by exact gq t1,by exact gq t2,by exact gq t3,by exact gq rfl,by omega,hsu,c4.trans (T:= []) (aw rfl) (by simp)⟩
  |true=>
   rw[hb] at r4 hsu hat
   by_cases hc:s.ce=c
   ·subst hc
    have:=hat (by simp)
    rw[this] at hK
    simp (disch:=first|omega|(simp only[aA]<;>omega)) only[go_sem,seval,t1,t2,t3,t4,a1,a2,a5,hM2,gl,r4.wf,gl4]
    exact hK _ ((hC1.tr c4).trans (T:= []) (aw rfl) (by simp))
   ·have hc':decide (s.ce=c)=false:=adG hc
    rw[hc'] at hsu
    simp (disch:=first|omega|(simp only[aA]<;>omega)) only[go_sem,seval,t1,t2,t3,t4,a1,a2,a5,hM2,gl,r4.wf,gl4,hc']
    exact⟨st.length - (i+1),by omega,_,_,i+1,by rfl,by exact gq t1,by exact gq t2,by exact gq t3,by exact gq rfl,by omega,hsu,c4.trans (T:= []) (aw rfl) (by simp)⟩
 ·rw[ac9 (by omega)] at hno
  rw[hno] at hK
  rw[←aa M]
  simp (disch:=omega) only[go_sem,seval,t3,t4]
  exact hK _ ((hC1.tr hC).trans (T:= []) (aw rfl) (by simp))
theorem Ih  (hv:Sl m vs 9 (mm st)) (hl:st.length<=1000000) (hi:i<st.length):∃m',rT 215 [vs,ii i] m (.bool (wZ st i)) m'/\Chg [] m m':=by
 refine WF.ex1 λK hK=> ?_
 refine WF.of_wpG (λ_=>rfl) BO (L:= [(.a .e,ii i),(.e,vs)]) rfl ?_
 unfold J3
 have hlen:=hv.len
 rw[aa0] at hlen
 by_cases h3:st.length<i+3
 ·have e:wZ st i=false:=by
   unfold wZ
   rw[List.getElem?_eq_none (show st.length<=i+2 by omega)]
   split
   ·rename_i h;cases h
   ·rfl
  rw[e] at hK
  simp (disch:=omega) only[go_sem,seval,hlen]
  exact hK _ (aw rfl)
 ·obtain⟨id,off,wr,cs,a1,a2,a3,a4,a5⟩:=hv.at i (by simpa using hi)
  obtain⟨id1,off1,wr1,cs1,b1,b2,b3,b4,b5⟩:=hv.at (i+1) (by simp;omega)
  obtain⟨id2,off2,wr2,cs2,d1,d2,d3,d4,d5⟩:=hv.at (i+2) (by simp;omega)
  rw[aa4] at a5 b5 d5
  have e:wZ st i=decide (st[i+1].k=6/\st[i+1].a=st[i].a/\st[i+1].ce=st[i].ce/\st[i+2].k=7):=by
   unfold wZ
   rw[List.getElem?_eq_getElem (show i<st.length by omega),List.getElem?_eq_getElem (show i+1<st.length by omega),List.getElem?_eq_getElem (show i+2<st.length by omega)]
  rw[e] at hK
  clear e
  have hsl:(Sp.l st[i+1]).length=9:=rfl
  generalize st[i]=s at *
  generalize st[i+1]=f at *
  generalize st[i+2]=y at *
  have q2:=bm a5 2 (by omega)
  have q6:=bm a5 6 (by omega)
  have y0:=bm d5 0 (by omega)
  have q2:cs[off+2]? =some (ii s.a):=q2
  have q6:cs[off+6]? =some (ii s.ce):=q6
  have y0:cs2[off2+0]? =some (ii y.k):=y0
  have b1:fi 9 vs (.int .i64 (.lit ((i:Int)+1)))= .val (.ptr id1 off1):=by have:=b1;push_cast at this;exact this
  have d1:fi 9 vs (.int .i64 (.lit ((i:Int)+2)))= .val (.ptr id2 off2):=by have:=d1;push_cast at this;exact this
  by_cases k1:f.k=6
  ·by_cases k2:f.a=s.a
   ·by_cases k3:f.ce=s.ce
    ·by_cases k4:y.k=7
     ·rw[adH ⟨k1,k2,k3,k4⟩] at hK
      simp (disch:=first|omega|(simp only[aA]<;>omega)) only[go_sem,seval,hlen,a1,a2,b1,b2,b5,d1,d2,q2,q6,y0,k1,k2,k3,k4]
      exact hK _ (aw rfl)
     ·rw[adG λq=>k4 q.2.2.2] at hK
      simp (disch:=first|omega|(simp only[aA]<;>omega)) only[go_sem,seval,hlen,a1,a2,b1,b2,b5,d1,d2,q2,q6,y0,k1,k2,k3,k4]
      exact hK _ (aw rfl)
    ·rw[adG λq=>k3 q.2.2.1] at hK
     simp (disch:=first|omega|(simp only[aA]<;>omega)) only[go_sem,seval,hlen,a1,a2,b1,b2,b5,q2,q6,k1,k2,k3]
     exact hK _ (aw rfl)
   ·rw[adG λq=>k2 q.2.1] at hK
    simp (disch:=first|omega|(simp only[aA]<;>omega)) only[go_sem,seval,hlen,a1,a2,b1,b2,b5,q2,k1,k2]
    exact hK _ (aw rfl)
  ·rw[adG λq=>k1 q.1] at hK
   simp (disch:=first|omega|(simp only[aA]<;>omega)) only[go_sem,seval,hlen,b1,b2,b5,k1]
   exact hK _ (aw rfl)
end
structure Cd where
 (v lo:Int)
 st:List Sp
variable {L:List Cd}
structure Cods (m:NH) (vl:NV) (L:List Cd) (C:List (List NV)):Prop where
 s:Sl m vl 3 C
 n:C.length=L.length
 c:∀(j:Nat) (x:Cd) (c:List NV),L[j]? =some x->C[j]? =some c->∃vs,c= [ii x.v,ii x.lo,vs]/\Sl m vs 9 (mm x.st)
theorem Cods.grow  (h:Cods m vl L C) (hC:Chg [] m m'):Cods m' vl L C:=
 ⟨h.s.chg hC (by simp),h.n,λj x c a b=>by obtain⟨vs,e,q⟩:=h.c j x c a b;exact⟨vs,e,q.chg hC (by simp)⟩⟩
abbrev GL (l:List Bool):List (List NV):=l.map λb=> [.bool b]
def kX (L:List Cd) (c:Int):Nat:=L.countP λx=>uQ x.st c
def kK (L:List Cd) (n:Nat):List Bool:=(List.range n).map λ(c:Nat)=>decide (kX L (c:Int)<=1)
theorem IJ  (hi:i<L.length):kX (L.take (i+1)) c=kX (L.take i) c+(if uQ L[i].st c=true then 1 else 0):=by
 unfold kX
 rw[ab7,List.getElem?_eq_getElem hi,List.countP_append]
 simp[List.countP_cons]
theorem Th (L:List Cd) (c:Int):kX L c<=L.length:=List.countP_le_length
section
variable {m m' M:NH} {vl:NV} {L:List Cd} {C:List (List NV)}
theorem Rv (hv:Cods m vl L C) (hst:∀x∈L,x.st.length<=1000000) (hl:L.length<=1000000) {w0:NV} (t0:NT.get D4.e t=some vl) (t1:NT.get D4.e.a.a t=some w0) (t2:NT.get D4.e.b.f t=some w1) (t3:NT.get D4.e.c.a t=some w2) (t4:NT.get D4.e.a.b t=some (ii c)) (t5:NT.get D4.e.a.c t=some (ii 0)) (t6:NT.get D4.e.c.f t=some vl) (t7:NT.get D4.e.f.a t=some (ii L.length)) (t8:NT.get D4.e.f.b t=some (ii 0))
 (hQ:∀t' M,NT.get D4.e t'=some vl->NT.get D4.e.a.a t'=some w0->NT.get D4.e.b.f t'=some w1->NT.get D4.e.c.a t'=some w2->NT.get D4.e.a.b t'=some (ii c)->NT.get D4.e.a.c t'=some (ii (kX L c))->Chg [] m M->Q (.exit 2) ⟨puts [] t', [],none,M⟩):
 W af8 S0 none lF.loop ⟨t, [],none,m⟩ Q:=by
 refine W.loop (λk D=>∃t M i,D=⟨t, [],none,M⟩/\NT.get D4.e t=some vl/\NT.get D4.e.a.a t=some w0/\NT.get D4.e.b.f t=some w1/\NT.get D4.e.c.a t=some w2/\NT.get D4.e.a.b t=some (ii c)/\NT.get D4.e.a.c t=some (ii (kX (L.take i) c))/\NT.get D4.e.c.f t=some vl/\NT.get D4.e.f.a t=some (ii L.length)/\NT.get D4.e.f.b t=some (ii (i:Nat))/\i+k=L.length/\Chg [] m M) ?_ L.length _
  ⟨_,m,0,rfl,t0,t1,t2,t3,t4,t5,t6,t7,t8,by omega,Chg.refl m⟩
 clear t0 t1 t2 t3 t4 t5 t6 t7 t8
 rintro k D ⟨t,M,i,rfl,t0,t1,t2,t3,t4,t5,t6,t7,t8,hik,hC⟩
 apply av
 unfold lF
 change wp _ _ _ _ ⟨puts [] t, [],none,M⟩ _
 by_cases hi:i<L.length
 ·have hvM:=hv.grow hC
  have hiC:i<C.length:=by rw[hv.n];exact hi
  obtain⟨id,off,wr,cs,a1,a2,a3,a4,a5⟩:=hvM.s.at i hiC
  obtain⟨vs,e,hs⟩:=hvM.c i _ _ (List.getElem?_eq_getElem hi) (List.getElem?_eq_getElem hiC)
  rw[e] at a5
  have hsu:=IJ (c:=c) hi
  have hle:=Th (L.take i) c
  rw[aa7] at hle
  have hstl:=hst _ (aa9 hi)
  generalize L[i]=x at a5 hs hsu hstl
  generalize hM2:hp [(.n 0,.cells true [ii x.v,ii x.lo,vs]),(.n 0,.cells true [.int .i64 (.lit 0),.int .i64 (.lit 0),.nils])] 1 M=M2
  have hC2:Chg [] M M2:=az hM2 rfl
  have gl:M2.get (na M 0)=some (.cells true [ii x.v,ii x.lo,vs]):=aI hM2
  obtain⟨M4,r4,hC4⟩:=UG (v:=x.v) (lo:=x.lo) (hs.chg hC2 (by simp)) hstl c
  have c4:=(hC.tr hC2).tr hC4
  rw[←aa M]
  cases hb:uQ x.st c with
  |false=>
   rw[hb] at r4
   have hsu:kX (L.take (i+1)) c=kX (L.take i) c:=by rw[hsu,hb];simp
   simp (disch:=first|omega|(simp only[aA]<;>omega)) only[go_sem,seval,t4,t6,t7,t8,a1,a2,a5,hM2,gl,r4.wf']
   exact⟨L.length - (i+1),by omega,_,_,i+1,by rfl,by simp only[go_sem,seval,t0],by simp only[go_sem,seval,t1],by simp only[go_sem,seval,t2],by simp only[go_sem,seval,t3],by simp only[go_sem,seval,t4],by rw[hsu];simp (disch:=first|assumption|omega|(apply aq;omega)|(apply au;assumption)|(simp only[aA]<;>omega)) only[go_sem,seval,t5],by simp only[go_sem,seval,t6],by simp only[go_sem,seval,t7],by simp only[go_sem,seval]<;>rfl,by omega,c4⟩
  |true=>
   rw[hb] at r4
   rw[hb,adF rfl] at hsu
   have hec:((kX (L.take i) c:Nat):Int)+1=((kX (L.take i) c+1:Nat):Int):=by omega
   simp (disch:=first|omega|(simp only[aA]<;>omega)) only[go_sem,seval,t4,t5,t6,t7,t8,a1,a2,a5,hM2,gl,r4.wf']
   exact⟨L.length - (i+1),by omega,_,_,i+1,by rfl,by simp only[go_sem,seval,t0],by simp only[go_sem,seval,t1],by simp only[go_sem,seval,t2],by simp only[go_sem,seval,t3],by simp only[go_sem,seval,t4],by rw[hsu,←hec];simp (disch:=first|assumption|omega|(apply aq;omega)|(apply au;assumption)|(simp only[aA]<;>omega)) only[go_sem,seval]<;>rfl,by simp only[go_sem,seval,t6],by simp only[go_sem,seval,t7],by simp only[go_sem,seval]<;>rfl,by omega,c4⟩
 ·rw[ac9 (by omega)] at t5
  rw[←aa M]
  simp (disch:=omega) only[go_sem,seval,t7,t8]
  rw[aa]
  exact hQ _ _ (by simp only[go_sem,seval,t0]) (by simp only[go_sem,seval,t1]) (by simp only[go_sem,seval,t2]) (by simp only[go_sem,seval,t3]) (by simp only[go_sem,seval,t4]) (by simp only[go_sem,seval,t5]) hC
theorem Vz (hv:Cods m vl L C) (hst:∀x∈L,x.st.length<=1000000) (hl:L.length<=1000000) (hn:n<=1000000):∃w m',rT 133 [vl,ii n] m w m'/\aQ m m' w 1 (GL (kK L (min n 16)))/\Chg [] m m':=by
 refine WF.ex λK hK=> ?_
 refine WF.of_wpG (λ_=>rfl) AF (L:= [(.a .e,ii n),(.e,vl)]) rfl ?_
 unfold JU
 have hlen:=hv.s.len
 rw[hv.n] at hlen
 have hmn:max (0:Int) (min (n:Int) 16)=((min n 16:Nat):Int):=by omega
 rw[aa]
 simp only[go_sem,seval,hmn]
 refine W.loop (λk D=>∃t M i v',D=⟨t, [],none,M⟩/\NT.get D4.e t=some vl/\NT.get D4.e.a.a t=some v'/\NT.get D4.e.b.f t=some (ii (min n 16:Nat))/\NT.get D4.e.c.a t=some (ii (i:Nat))/\i+k=min n 16/\aQ m M v' 1 (GL (kK L i))/\Chg [] m M) ?_ (min n 16) _
  ⟨_,m,0,.nils,rfl,by simp only[go_sem,seval],by simp only[go_sem,seval],by simp only[go_sem,seval]<;>rfl,by simp only[go_sem,seval],by omega,aQ.nil,Chg.refl m⟩
 rintro k D ⟨t,M,i,v',rfl,t1,t2,t3,t4,hik,ho,hC⟩
 apply av
 unfold zw
 change wp _ _ _ _ ⟨puts [] t, [],none,M⟩ _
 rw[←aa M]
 by_cases hi:i<min n 16
 ·have hlt:(i:Int)<((min n 16:Nat):Int):=by omega
  simp only[go_sem,seval,t1,t3,t4,hlen,hlt]
  rw[aa]
  refine Rv (c:=(i:Int)) (w0:=v') (w1:=ii (min n 16:Nat)) (w2:=ii (i:Nat)) (hv.grow hC) hst hl (t:=_) ?_ ?_ ?_ ?_ ?_ ?_ ?_ ?_ ?_ ?_
  ·exact gq t1
  ·exact gq t2
  ·exact gq t3
  ·exact gq t4
  ·exact gq rfl
  ·exact gq rfl
  ·exact gq rfl
  ·exact gq rfl
  ·exact gq rfl
  intro t' M3 t1 t2 t3 t4 t5 t6 hC3
  have hsl:GL (kK L (i+1))=GL (kK L i)++ [[.bool (decide (kX L i<=1))]]:=by simp[kK,List.range_succ]
  have hcmp:decide ((kX L i:Int)<=1)=decide (kX L i<=1):=by congr 1;simp;omega
  rw[←aa M3]
  simp (disch:=first|omega|(simp only[aA]<;>omega)) only[go_sem,seval,t2,t6,hcmp]
  generalize hM5:hp _ 1 M3=M5
  have hC5:Chg [] M3 M5:=az hM5 rfl
  have gx:M5.get (na M3 0)=some (.cells true [.bool (decide (kX L i<=1))]):=aI hM5
  have c35:=hC3.tr hC5
  obtain⟨v2,M6,q1,o6,hC6,-⟩:=(ho.chg c35 (by simp)).app2 (bytes:=1) (kc:=1) gx (aL hM5 (by omega)) rfl (λi hi=>c35.old (hC.old hi)) (by simp[kK];omega) (by simp[kK];omega)
  simp (disch:=omega) only[go_sem,seval,t4,q1]
  exact⟨min n 16 - (i+1),by omega,_,M6,i+1,v2,by rfl,by simp only[go_sem,seval,t1],by simp only[go_sem,seval],by simp only[go_sem,seval,t3],by simp only[go_sem,seval]<;>rfl,by omega,by rw[hsl];exact o6,(hC.tr c35).trans hC6 λi hi q=>adD q (ho.new i hi)⟩
 ·have hge:¬(i:Int)<((min n 16:Nat):Int):=by omega
  have e:i=min n 16:=by omega
  rw[e] at ho
  simp only[go_sem,seval,t2,t3,t4,hge]
  rw[aa]
  exact hK _ _ ⟨ho,hC⟩
def Cv (l:List Sp) (sole:List Bool) (i:Nat):Bool:=match l[i]? with
 |some s=>decide (s.k=3/\0<=s.ce/\s.ce<sole.length)&&(sole[s.ce.toNat]?).getD false&&wZ l i
 |none=>false
def jG (l:List Sp) (sole:List Bool):Nat->Nat->List Sp
 |0,_=> []
 |f+1,i=>match l[i]? with
  |some s=>s::jG l sole f (if Cv l sole i=true then i+3 else i+1)
  |none=> []
def qF (l:List Sp) (sole:List Bool):List Sp:=jG l sole (l.length+1) 0
theorem HW  {v:Int} {vb:NV} {st:List Sp} (hv:Sl m vs 9 (mm st)) (hb:Sl m vb 1 (GL sole)) (hl:st.length<=1000000) (hsl:sole.length<=1000000):
 ∃w m',rT 134 [.agg [ii v,ii lo,vs],vb] m w m'/\(∃vs',w= .agg [ii v,ii lo,vs']/\aQ m m' vs' 9 (mm (qF st sole)))/\Chg [] m m':=by
 refine WF.ex λK hK=> ?_
 refine WF.of_wpG (λ_=>rfl) zK (L:= [(.a .e,vb),(.e,.agg [ii v,ii lo,vs])]) rfl ?_
 unfold MP
 have hlen:=hv.len
 rw[aa0] at hlen
 have hblen:=hb.len
 rw[aa0] at hblen
 generalize hM1:hp [(.n 1,.cells true [ii 0,ii 0,.nils]),(.n 0,.cells true [ii v,ii lo,vs])] 2 m=M1
 have hC1:Chg [] m M1:=az hM1 rfl
 have g0:M1.get (na m 0)=some (.cells true [ii v,ii lo,vs]):=aI hM1
 have g1:M1.get (na m 1)=some (.cells true [ii 0,ii 0,.nils]):=aI hM1
 have o0:ap M1 (na m 0):=aL hM1 (by omega)
 have o1:ap M1 (na m 1):=aL hM1 (by omega)
 have hv1:Sl M1 vs 9 (mm st):=hv.chg hC1 (by simp)
 have hb1:Sl M1 vb 1 (GL sole):=hb.chg hC1 (by simp)
 simp only[go_sem,seval,hM1]
 refine W.loop (λk D=>∃t M i v' out,D=⟨t, [],none,M⟩/\NT.get D4.e.b t=some (.ptr (na m 0) 0)/\NT.get D4.e.f t=some (.ptr (na m 1) 0)/\NT.get D4.e.a.a t=some v'/\NT.get D4.e.a t=some vb/\NT.get D4.e.a.b t=some (ii (i:Nat))/\i<=st.length+2/\st.length<k+i/\out.length<=i/\out++jG st sole k i=qF st sole/\aQ M1 M v' 9 (mm out)/\Chg [] M1 M) ?_ (st.length+1) _
  ⟨_,M1,0,.nils, [],rfl,by exact gq rfl,by exact gq rfl,by exact gq rfl,by exact gq rfl,by exact gq rfl,by omega,by omega,by simp,rfl,aQ.nil,Chg.refl M1⟩
 rintro k D ⟨t,M,i,v',out,rfl,t1,t2,t3,t4,t5,hi2,hk,hol,hout,ho,hC⟩
 apply av
 unfold AT
 change wp _ _ _ _ ⟨puts [] t, [],none,M⟩ _
 have q0:=(hC.get o0 (by simp)).trans g0
 have q1:=(hC.get o1 (by simp)).trans g1
 have p0:=hC.old o0
 have p1:=hC.old o1
 by_cases hi:i<st.length
 ·obtain⟨k,rfl⟩:∃k',k=k'+1:=⟨k - 1,by omega⟩
  obtain⟨id,off,wr,cs,a1,a2,a3,a4,a5⟩:=(hv1.chg hC (by simp)).at i (by simpa using hi)
  rw[aa4] at a5
  have hsl9:(Sp.l st[i]).length=9:=rfl
  have hlt:(i:Int)<(st.length:Int):=by omega
  rw[jG,List.getElem?_eq_getElem hi] at hout
  dsimp only at hout
  have hsk:Cv st sole i=(decide (st[i].k=3/\0<=st[i].ce/\st[i].ce<sole.length)&&(sole[st[i].ce.toNat]?).getD false&&wZ st i):=by
   unfold Cv;rw[List.getElem?_eq_getElem hi]
  have hfo:=fun {M:NH} (h:Chg [] m M)=>Ih (hv.chg h (by simp)) hl hi
  generalize st[i]=s at a5 hsl9 hout hsk
  generalize hM2:hp [(.n 1,.cells true s.l),(.n 0,.cells true s.l),(.n 0,.cells true [.int .i64 (.lit 0),.int .i64 (.lit 0),.int .i64 (.lit 0),.int .i64 (.lit 0),.int .i64 (.lit 0),.int .i64 (.lit 0),.int .i64 (.lit 0),.int .u64 (.lit 0),.int .u8 (.lit 0)])] 2 M=M2
  have hC2:Chg [] M M2:=az hM2 rfl
  have gx:M2.get (na M 1)=some (.cells true s.l):=aI hM2
  have gl:M2.get (na M 0)=some (.cells true s.l):=aI hM2
  have ol:ap M2 (na M 0):=aL hM2 (by omega)
  have nl:na M 0∉ids v':=λq=>ak (ho.sl.old _ q)
  obtain⟨v2,M3,e1,o3,hC3,-⟩:=(ho.chg hC2 (by simp)).app2 (bytes:=72) (kc:=1) gx (aL hM2 (by omega)) rfl (λi hi=>hC2.old (hC.old hi)) (by rw[aa0];omega) (by rw[aa0];omega)
  have gl3:=(hC3.get ol nl).trans gl
  have ol3:=hC3.old ol
  have c03:Chg [] M1 M3:=(hC.tr hC2).trans hC3 λi hi q=>adD q (ho.new i hi)
  have q3:=(c03.get o0 (by simp)).trans g0
  have os:aQ M1 M3 v2 9 (mm (out++ [s])):=by simpa using o3
  have hbl:nN vb= .val (.int .i64 (.lit (sole.length:Int))):=hblen
  have hb3:=hb1.chg c03 (by simp)
  have no:Cv st sole i=false->(out++ [s])++jG st sole k (i+1)=qF st sole:=λh=>by
   rw[h,adE aa3] at hout
   rw[←hout];simp
  have yes:Cv st sole i=true->(out++ [s])++jG st sole k (i+3)=qF st sole:=λh=>by
   rw[h,adF rfl] at hout
   rw[←hout];simp
  have hol':(out++ [s]).length<=i+1:=by simp;omega
  clear hout
  rw[←aa M]
  by_cases k3:s.k=3
  ·have hk3:decide (s.k=3)=true:=adH k3
   by_cases k4:0<=s.ce
   ·by_cases k5:s.ce<(sole.length:Int)
    ·obtain⟨j,hj⟩:∃j:Nat,s.ce=(j:Int):=⟨s.ce.toNat,by omega⟩
     have hjl:j<sole.length:=by omega
     obtain⟨id2,off2,wr2,cs2,b1,b2,b3,b4,b5⟩:=hb3.at j (by simpa using hjl)
     rw[aa4] at b5
     have b6:=bm b5 0 (by omega)
     rw[ad7] at b6
     have b6:cs2[off2]? =some (.bool sole[j]):=b6
     have b1:fi 1 vb (.int .i64 (.lit s.ce))= .val (.ptr id2 off2):=by rw[hj];exact b1
     have hg:(sole[s.ce.toNat]?).getD false=sole[j]:=by rw[hj,ac8,List.getElem?_eq_getElem hjl];rfl
     rw[adH ⟨k3,k4,k5⟩,Bool.true_and,hg] at hsk
     cases hsj:sole[j] with
     |false=>
      rw[hsj] at b6 hsk
      rw[Bool.false_and] at hsk
      simp (disch:=first|omega|(simp only[aA]<;>omega)) only[go_sem,seval,t1,t3,t4,t5,q0,hlen,hlt,a1,a2,a5,hM2,e1,gl3,hk3,k4,k5,hbl,b1,b2,b6]
      exact⟨k,by omega,_,M3,i+1,v2,out++ [s],by rfl,by exact gq t1,by exact gq t2,by exact gq rfl,by exact gq t4,by exact gq rfl,by omega,by omega,hol',no hsk,os,c03⟩
     |true=>
      rw[hsj] at b6 hsk
      rw[Bool.true_and] at hsk
      obtain⟨M4,r4,hC4⟩:=hfo (hC1.tr c03)
      have c04:=c03.tr hC4
      have o4:=os.chg hC4 (by simp)
      cases hfb:wZ st i with
      |false=>
       rw[hfb] at r4 hsk
       simp (disch:=first|omega|(simp only[aA]<;>omega)) only[go_sem,seval,t1,t3,t4,t5,q0,hlen,hlt,a1,a2,a5,hM2,e1,gl3,q3,hk3,k4,k5,hbl,b1,b2,b6,r4.wf']
       exact⟨k,by omega,_,M4,i+1,v2,out++ [s],by rfl,by exact gq t1,by exact gq t2,by exact gq rfl,by exact gq t4,by exact gq rfl,by omega,by omega,hol',no hsk,o4,c04⟩
      |true=>
       rw[hfb] at r4 hsk
       have hi3:i+3<=st.length:=by
        rcases ac2 (i+2) st.length with q|q
        ·omega
        ·unfold wZ at hfb
         rw[List.getElem?_eq_none q] at hfb
         split at hfb
         ·rename_i h;cases h
         ·cases hfb
       simp (disch:=first|omega|(simp only[aA]<;>omega)) only[go_sem,seval,t1,t3,t4,t5,q0,hlen,hlt,a1,a2,a5,hM2,e1,gl3,q3,hk3,k4,k5,hbl,b1,b2,b6,r4.wf']
       exact⟨k,by omega,_,M4,i+3,v2,out++ [s],by rfl,by exact gq t1,by exact gq t2,by exact gq rfl,by exact gq t4,by simp only[go_sem,seval];(show some (ii ((i:Int)+2+1))=some (ii ((i+3:Nat):Int));congr 3),by omega,by omega,by omega,yes hsk,o4,c04⟩
    ·rw[adG λq=>k5 q.2.2,Bool.false_and,Bool.false_and] at hsk
     simp (disch:=first|omega|(simp only[aA]<;>omega)) only[go_sem,seval,t1,t3,t4,t5,q0,hlen,hlt,a1,a2,a5,hM2,e1,gl3,hk3,k4,k5,hbl]
     exact⟨k,by omega,_,M3,i+1,v2,out++ [s],by rfl,by exact gq t1,by exact gq t2,by exact gq rfl,by exact gq t4,by exact gq rfl,by omega,by omega,hol',no hsk,os,c03⟩
   ·rw[adG λq=>k4 q.2.1,Bool.false_and,Bool.false_and] at hsk
    simp (disch:=first|omega|(simp only[aA]<;>omega)) only[go_sem,seval,t1,t3,t5,q0,hlen,hlt,a1,a2,a5,hM2,e1,gl3,hk3,k4]
    exact⟨k,by omega,_,M3,i+1,v2,out++ [s],by rfl,by exact gq t1,by exact gq t2,by exact gq rfl,by exact gq t4,by exact gq rfl,by omega,by omega,hol',no hsk,os,c03⟩
  ·rw[adG λq=>k3 q.1,Bool.false_and,Bool.false_and] at hsk
   simp (disch:=first|omega|(simp only[aA]<;>omega)) only[go_sem,seval,t1,t3,t5,q0,hlen,hlt,a1,a2,a5,hM2,e1,gl3,k3]
   exact⟨k,by omega,_,M3,i+1,v2,out++ [s],by rfl,by exact gq t1,by exact gq t2,by exact gq rfl,by exact gq t4,by exact gq rfl,by omega,by omega,hol',no hsk,os,c03⟩
 ·have hvo:=ho.sl.one
  have n01:na m 0≠na m 1:=by simp[cn]
  have n10:na m 1≠na m 0:=by simp[cn]
  have e:jG st sole k i= []:=by
   cases k with
   |zero=>rfl
   |succ k=>rw[jG,List.getElem?_eq_none (by omega)]
  rw[e,ac7] at hout
  have hge:¬(i:Int)<(st.length:Int):=by omega
  rw[←aa M]
  simp (disch:=first|omega|(simp only[aA]<;>omega)) only[go_sem,seval,t1,t2,t3,t5,q0,q1,hlen,hge,hvo]
  generalize hM':hp _ 0 M=M'
  have hC':Chg [na m 1,na m 0] M M':=az hM' rfl
  have nv:∀i∈ids v',i∉ [na m 1,na m 0]:=λi hi q=>by
   simp only[adJ,adI,or_false] at q
   rcases q with rfl|rfl
   ·exact ho.new _ hi o1
   ·exact ho.new _ hi o0
  rw[←hout] at hK
  refine hK _ _ ⟨⟨v',rfl,(ho.chg hC' nv).back λi hi=>hC1.old hi⟩,(hC1.tr hC).trans hC' λi hi q=> ?_⟩
  simp only[adJ,adI,or_false] at hi
  rcases hi with rfl|rfl<;>exact adD q ak
end
def Cd.fl (x:Cd):Cd:=⟨x.v,x.lo,eu x.st⟩
def Cd.el (x:Cd) (sole:List Bool):Cd:=⟨x.v,x.lo,qF x.st sole⟩
structure Codn (m0 M:NH) (w:NV) (L:List Cd) (C:List (List NV)):Prop where
 s:aQ m0 M w 3 C
 n:C.length=L.length
 c:∀(j:Nat) (x:Cd) (c:List NV),L[j]? =some x->C[j]? =some c->∃vs,c= [ii x.v,ii x.lo,vs]/\Sl M vs 9 (mm x.st)/\∀i∈ids vs,¬ap m0 i/\i∉ids w
theorem Codn.grow  {w:NV} (h:Codn m0 m w L C) (hC:Chg [] m m'):Codn m0 m' w L C:=
 ⟨h.s.chg hC (by simp),h.n,λj x c a b=>by obtain⟨vs,e,q,q2⟩:=h.c j x c a b;exact⟨vs,e,q.chg hC (by simp),q2⟩⟩
theorem Codn.cods  {w:NV} (h:Codn m0 m w L C):Cods m w L C:=
 ⟨h.s.sl,h.n,λj x c a b=>by obtain⟨vs,e,q,-⟩:=h.c j x c a b;exact⟨vs,e,q⟩⟩
theorem Codn.nil :Codn m0 m .nils [] []:=⟨aQ.nil,rfl,λj x c a b=>by simp at a⟩
section
variable {m m' M:NH} {vl:NV} {L:List Cd} {C:List (List NV)}
theorem Vm (hv:Cods m vl L C) (hst:∀x∈L,x.st.length<=300000) (hl:L.length<=1000000) {w0 w3:NV} (t0:NT.get D4.e.f t=some w0) (t1:NT.get D4.e.a.a t=some w1) (t2:NT.get D4.e.a.f t=some w2) (t3:NT.get D4.e.c t=some w3) (t4:NT.get D4.e.f.f t=some vl) (t5:NT.get D4.e.a.a.a t=some (ii L.length)) (t6:NT.get D4.e.a.a.b t=some (ii 0)) (t7:NT.get D4.e.b.b t=some .nils)
 (hQ:∀t' M w C',NT.get D4.e.f t'=some w0->NT.get D4.e.a.a t'=some w1->NT.get D4.e.a.f t'=some w2->NT.get D4.e.c t'=some w3->NT.get D4.e.b.b t'=some w->Codn m M w (L.map Cd.fl) C'->Chg [] m M->Q (.exit 0) ⟨puts [] t', [],none,M⟩):
 W af8 S0 none pq.loop ⟨t, [],none,m⟩ Q:=by
 refine W.loop (λk D=>∃t M i w C',D=⟨t, [],none,M⟩/\NT.get D4.e.f t=some w0/\NT.get D4.e.a.a t=some w1/\NT.get D4.e.a.f t=some w2/\NT.get D4.e.c t=some w3/\NT.get D4.e.f.f t=some vl/\NT.get D4.e.a.a.a t=some (ii L.length)/\NT.get D4.e.a.a.b t=some (ii (i:Nat))/\NT.get D4.e.b.b t=some w/\i+k=L.length/\Codn m M w ((L.take i).map Cd.fl) C'/\Chg [] m M) ?_ L.length _
  ⟨_,m,0,.nils, [],rfl,t0,t1,t2,t3,t4,t5,t6,t7,by omega,Codn.nil,Chg.refl m⟩
 clear t0 t1 t2 t3 t4 t5 t6 t7
 rintro k D ⟨t,M,i,w,C',rfl,t0,t1,t2,t3,t4,t5,t6,t7,hik,ho,hC⟩
 apply av
 unfold pq
 change wp _ _ _ _ ⟨puts [] t, [],none,M⟩ _
 rw[←aa M]
 by_cases hi:i<L.length
 ·have hvM:=hv.grow hC
  have hiC:i<C.length:=by rw[hv.n];exact hi
  obtain⟨id,off,wr,cs,a1,a2,a3,a4,a5⟩:=hvM.s.at i hiC
  obtain⟨vs,e,hs⟩:=hvM.c i _ _ (List.getElem?_eq_getElem hi) (List.getElem?_eq_getElem hiC)
  rw[e] at a5
  have hstl:=hst _ (aa9 hi)
  have htk:(L.take (i+1)).map Cd.fl=(L.take i).map Cd.fl++ [L[i].fl]:=by rw[ab7,List.getElem?_eq_getElem hi];simp only[ae6,ab5,ac1,List.map_nil]
  have hln:((L.take i).map Cd.fl).length=i:=by simp;omega
  generalize L[i]=x at a5 hs htk hstl
  generalize hM2:hp [(.n 0,.cells true [ii x.v,ii x.lo,vs]),(.n 0,.cells true [.int .i64 (.lit 0),.int .i64 (.lit 0),.nils])] 1 M=M2
  have hC2:Chg [] M M2:=az hM2 rfl
  have gl:M2.get (na M 0)=some (.cells true [ii x.v,ii x.lo,vs]):=aI hM2
  obtain⟨wv,M3,r3,⟨vf,rfl,of⟩,hC3⟩:=G8 (v:=x.v) (lo:=x.lo) (hs.chg hC2 (by simp)) (by omega)
  have c23:Chg [] M M3:=hC2.tr hC3
  simp (disch:=first|omega|(simp only[aA]<;>omega)) only[go_sem,seval,t4,t5,t6,t7,a1,a2,a5,hM2,gl,r3.wf]
  generalize hM4:hp _ 1 M3=M4
  have hC4:Chg [] M3 M4:=az hM4 rfl
  have gx:M4.get (na M3 0)=some (.cells true [ii x.v,ii x.lo,vf]):=aI hM4
  have c24:=c23.tr hC4
  have ho4:=ho.grow c24
  have hcl:=ho.n
  rw[hln] at hcl
  obtain⟨w',M6,q1,o6,hC6,hF⟩:=ho4.s.app2 (bytes:=40) (kc:=1) gx (aL hM4 (by omega)) rfl (λi hi=>c24.old (hC.old hi)) (by omega) (by omega)
  simp (disch:=omega) only[go_sem,seval,t6,q1]
  refine⟨L.length - (i+1),by omega,_,M6,i+1,w',C'++ [[ii x.v,ii x.lo,vf]],by rfl,by simp only[go_sem,seval,t0],by simp only[go_sem,seval,t1],by simp only[go_sem,seval,t2],by simp only[go_sem,seval,t3],by simp only[go_sem,seval,t4],by simp only[go_sem,seval,t5],by simp only[go_sem,seval]<;>rfl,by simp only[go_sem,seval],by omega, ?_,(hC.tr c24).trans hC6 λi hi q=>adD q (ho.s.new i hi)⟩
  rw[htk]
  have nv:∀i∈ids vf,¬ap M2 i:=λi hi=>of.new i hi
  refine⟨o6,by simp[hcl];omega,λj y c h1 h2=> ?_⟩
  rcases ac2 j i with h|h
  ·rw[List.getElem?_append_left (by omega)] at h1
   rw[List.getElem?_append_left (by omega)] at h2
   obtain⟨us,e,q,q2⟩:=ho4.c j y c h1 h2
   exact⟨us,e,q.chg hC6 λi hi=>(q2 i hi).2,λi hi=>⟨(q2 i hi).1,λh=>(hF i h).elim (q2 i hi).2 λp=>p (q.old i hi)⟩⟩
  ·rw[List.getElem?_append_right (by omega)] at h1
   rw[List.getElem?_append_right (by omega)] at h2
   rw[hln] at h1
   rw[hcl] at h2
   cases hj:j - i with
   |succ n=>rw[hj] at h1;simp at h1
   |zero=>
    rw[hj] at h1 h2
    cases h1
    cases h2
    have of4:=of.sl.chg hC4 (by simp)
    have nw:∀i∈ids vf,i∉ids w:=λi hi q=>nv i hi (hC2.old (ho.s.sl.old i q))
    exact⟨vf,rfl,of4.chg hC6 nw,λi hi=>⟨λq=>nv i hi (hC2.old (hC.old q)),λh=>(hF i h).elim (nw i hi) λp=>p (of4.old i hi)⟩⟩
 ·rw[ac9 (by omega)] at ho
  simp (disch:=omega) only[go_sem,seval,t5,t6]
  rw[aa]
  exact hQ _ _ w C' (by simp only[go_sem,seval,t0]) (by simp only[go_sem,seval,t1]) (by simp only[go_sem,seval,t2]) (by simp only[go_sem,seval,t3]) (by simp only[go_sem,seval,t7]) ho hC
end
section
variable {B m m' M:NH} {vl w:NV} {L:List Cd} {C:List (List NV)}
theorem WX {l:List Bool} (ho:aQ B m w 1 (GL l)) (hl:l.length<=1000000) {w0 w3:NV} (t0:NT.get D4.e.f t=some w0) (t1:NT.get D4.e.a.a t=some w1) (t2:NT.get D4.e.a.f t=some w2) (t3:NT.get D4.e.b.b t=some w3) (t4:NT.get D4.e.c.a t=some w) (t5:NT.get D4.e.b.b.a t=some (ii l.length)) (t6:NT.get D4.e.b.b.b t=some (ii 0))
 (hQ:∀t' M,NT.get D4.e.f t'=some w0->NT.get D4.e.a.a t'=some w1->NT.get D4.e.a.f t'=some w2->NT.get D4.e.b.b t'=some w3->NT.get D4.e.c.a t'=some w->aQ B M w 1 (GL (List.replicate l.length true))->Chg (ids w) m M->Q (.exit 2) ⟨puts [] t', [],none,M⟩):
 W af8 S0 none mA.loop ⟨t, [],none,m⟩ Q:=by
 refine W.loop (λk D=>∃t M i,D=⟨t, [],none,M⟩/\NT.get D4.e.f t=some w0/\NT.get D4.e.a.a t=some w1/\NT.get D4.e.a.f t=some w2/\NT.get D4.e.b.b t=some w3/\NT.get D4.e.c.a t=some w/\NT.get D4.e.b.b.a t=some (ii l.length)/\NT.get D4.e.b.b.b t=some (ii (i:Nat))/\i+k=l.length/\aQ B M w 1 (GL (List.replicate i true++l.drop i))/\Chg (ids w) m M) ?_ l.length _
  ⟨_,m,0,rfl,t0,t1,t2,t3,t4,t5,t6,by omega,ho,(Chg.refl m).weak (by simp)⟩
 clear t0 t1 t2 t3 t4 t5 t6 ho
 rintro k D ⟨t,M,i,rfl,t0,t1,t2,t3,t4,t5,t6,hik,ho,hC⟩
 apply av
 unfold mA
 change wp _ _ _ _ ⟨puts [] t, [],none,M⟩ _
 rw[←aa M]
 by_cases hi:i<l.length
 ·have hn:i<(GL (List.replicate i true++l.drop i)).length:=by simp;omega
  obtain⟨id,off,c,a1,a2,a3,a4,a5,a6,a7,a8⟩:=ho.at_all i hn
  have hd:l.drop i=l[i]::l.drop (i+1):=ab8 hi
  have hset:(GL (List.replicate i true++l.drop i)).set i [.bool true]=GL (List.replicate (i+1) true++l.drop (i+1)):=by
   rw[hd]
   show List.set (List.map _ _) i _=List.map _ _
   rw[ab5,List.set_append_right _ _ (by simp),ac1,List.replicate_succ',ab5,ab5]
   simp only[aa0,ae2,Nat.sub_self,List.set_cons_zero,ac1,List.map_nil,ab1,ad8,ae4]
  simp (disch:=first|assumption|omega|(apply aq;omega)|(apply au;assumption)|(simp only[aA]<;>omega)) only[go_sem,seval,t4,t5,t6,a1,a4]
  generalize hM2:hp _ 0 M=M2
  have hC2:Chg [id] M M2:=az hM2 rfl
  have g2:M2.get id=some (.cells true (c.set off (.bool true))):=nF a5 hM2
  have o2:=a8 [.bool true] M2 rfl (by rw[g2,List.set_eq_take_append_cons_drop,adF (by omega),ab1];rfl) (hC2.old a5)
  rw[hset] at o2
  exact⟨l.length - (i+1),by omega,_,M2,i+1,by rfl,by simp only[go_sem,seval,t0],by simp only[go_sem,seval,t1],by simp only[go_sem,seval,t2],by simp only[go_sem,seval,t3],by simp only[go_sem,seval,t4],by simp only[go_sem,seval,t5],by simp only[go_sem,seval]<;>rfl,by omega,o2,hC.trans (hC2.weak (T:=ids w) λi hi _=>by rw[a2];exact hi) λi hi _=>hi⟩
 ·have e:i=l.length:=by omega
  subst e
  rw[List.drop_length,ac7] at ho
  simp (disch:=first|assumption|omega|(apply aq;omega)|(apply au;assumption)|(simp only[aA]<;>omega)) only[go_sem,seval,t5,t6]
  rw[aa]
  exact hQ _ _ (by simp only[go_sem,seval,t0]) (by simp only[go_sem,seval,t1]) (by simp only[go_sem,seval,t2]) (by simp only[go_sem,seval,t3]) (by simp only[go_sem,seval,t4]) ho hC
end
section
variable {B m m' M:NH} {vb w:NV} {L:List Cd} {C:List (List NV)}
theorem VB  (ho:Codn B m w L C) (hB:∀i,ap B i->ap m i) (hs:Sl m vb 1 (GL sole)) (hd:∀i∈ids vb,i∉ids w) (hsz:sole.length<=1000000) (hst:∀x∈L,x.st.length<=1000000) (hl:L.length<=1000000) {w3:NV} (t0:NT.get D4.e.a.a t=some w1) (t1:NT.get D4.e.a.f t=some w2) (t2:NT.get D4.e.c.a t=some w3) (t3:NT.get D4.e.b.b t=some w) (t4:NT.get D4.e.c.c t=some vb) (t5:NT.get D4.e.c.a.b t=some w) (t6:NT.get D4.e.c.a.c t=some (ii L.length)) (t7:NT.get D4.e.c.a.f t=some (ii 0))
 (hQ:∀t' M C',NT.get D4.e.a.a t'=some w1->NT.get D4.e.a.f t'=some w2->NT.get D4.e.c.a t'=some w3->NT.get D4.e.b.b t'=some w->Codn B M w (L.map λx=>x.el sole) C'->Chg (ids w) m M->Q (.exit 4) ⟨puts [] t', [],none,M⟩):
 W af8 S0 none uT.loop ⟨t, [],none,m⟩ Q:=by
 refine W.loop (λk D=>∃t M i C',D=⟨t, [],none,M⟩/\NT.get D4.e.a.a t=some w1/\NT.get D4.e.a.f t=some w2/\NT.get D4.e.c.a t=some w3/\NT.get D4.e.b.b t=some w/\NT.get D4.e.c.c t=some vb/\NT.get D4.e.c.a.b t=some w/\NT.get D4.e.c.a.c t=some (ii L.length)/\NT.get D4.e.c.a.f t=some (ii (i:Nat))/\i+k=L.length/\Codn B M w ((L.take i).map (λx=>x.el sole)++L.drop i) C'/\Chg (ids w) m M) ?_ L.length _
  ⟨_,m,0,C,rfl,t0,t1,t2,t3,t4,t5,t6,t7,by omega,ho,(Chg.refl m).weak (by simp)⟩
 clear t0 t1 t2 t3 t4 t5 t6 t7 ho
 rintro k D ⟨t,M,i,C',rfl,t0,t1,t2,t3,t4,t5,t6,t7,hik,ho,hC⟩
 apply av
 unfold uT
 change wp _ _ _ _ ⟨puts [] t, [],none,M⟩ _
 rw[←aa M]
 by_cases hi:i<L.length
 ·have hn:=ho.n
  rw[aa5,aa0,aa7,ac6] at hn
  have hiC:i<C'.length:=by omega
  have hli:((L.take i).map (λx=>x.el sole)++L.drop i)[i]? =some L[i]:=by
   rw[List.getElem?_append_right (by simp;omega)]
   rw[aa0,aa7,ac5 (by omega),Nat.sub_self,List.getElem?_drop,ad7,List.getElem?_eq_getElem hi]
  obtain⟨id,off,wr,cs,a1,a2,a3,a4,a5⟩:=ho.s.sl.at i hiC
  obtain⟨vs,e,hvs,hvn⟩:=ho.c i _ _ hli (List.getElem?_eq_getElem hiC)
  rw[e] at a5
  have hstl:=hst _ (aa9 hi)
  have hset:(((L.take i).map (λx=>x.el sole)++L.drop i).set i (L[i].el sole))=(L.take (i+1)).map (λx=>x.el sole)++L.drop (i+1):=by
   rw[ab8 hi,List.set_append_right _ _ (by simp;omega),ab7,List.getElem?_eq_getElem hi]
   simp only[aa0,aa7,ac5 (Nat.le_of_lt hi),Nat.sub_self,List.set_cons_zero,ae6,ab5,ac1,List.map_nil,ab1,ad8,ae4]
  generalize L[i]=x at a5 hvs hset hstl
  generalize hM2:hp [(.n 0,.cells true [ii x.v,ii x.lo,vs]),(.n 0,.cells true [.int .i64 (.lit 0),.int .i64 (.lit 0),.nils])] 1 M=M2
  have hC2:Chg [] M M2:=az hM2 rfl
  have gl:M2.get (na M 0)=some (.cells true [ii x.v,ii x.lo,vs]):=aI hM2
  obtain⟨wv,M3,r3,⟨vf,rfl,of⟩,hC3⟩:=HW (v:=x.v) (lo:=x.lo) (hvs.chg hC2 (by simp)) ((hs.chg hC hd).chg hC2 (by simp)) hstl hsz
  have c23:Chg [] M M3:=hC2.tr hC3
  have ho3:=ho.grow c23
  obtain⟨id3,off3,c3,b1,b2,b3,b4,b5,b6,b7,b8⟩:=ho3.s.at_all i hiC
  obtain⟨rfl,rfl⟩:id3=id/\off3=off:=by have q:=b1.symm.trans a1;cases q;exact⟨rfl,rfl⟩
  simp (disch:=first|omega|(simp only[aA]<;>omega)) only[go_sem,seval,t3,t4,t5,t6,t7,a1,a2,a5,hM2,gl,r3.wf,b4]
  generalize hM4:hp _ 0 M3=M4
  have hC4:Chg [id3] M3 M4:=az hM4 rfl
  have g4:M4.get id3=_:=nF b5 hM4
  have o4:=b8 [ii x.v,ii x.lo,vf] M4 rfl g4 (hC4.old b5)
  have nv:∀i∈ids vf,¬ap M2 i:=λi hi=>of.new i hi
  have nw:∀i∈ids vf,i∉ids w:=λi hi q=>nv i hi (hC2.old (ho.s.sl.old i q))
  refine⟨L.length - (i+1),by omega,_,M4,i+1,C'.set i [ii x.v,ii x.lo,vf],by rfl,by simp only[go_sem,seval,t0],by simp only[go_sem,seval,t1],by simp only[go_sem,seval,t2],by simp only[go_sem,seval,t3],by simp only[go_sem,seval,t4],by simp only[go_sem,seval,t5],by simp only[go_sem,seval,t6],by simp only[go_sem,seval]<;>rfl,by omega, ?_,(hC.trans (c23.weak (T:=ids w) (by simp)) λi hi _=>hi).trans (hC4.weak (T:=ids w) λi hi _=>by rw[b2];exact hi) λi hi _=>hi⟩
  rw[←hset]
  refine⟨o4,by simp;omega,λj y c h1 h2=> ?_⟩
  have nid:∀{v:NV},(∀i∈ids v,i∉ids w)->∀i∈ids v,i∉ [id3]:=λh i hi q=>h i hi (by rw[b2];exact q)
  by_cases hj:j=i
  ·subst hj
   rw[List.getElem?_set_self (by simp;omega)] at h1
   rw[List.getElem?_set_self hiC] at h2
   cases h1
   cases h2
   exact⟨vf,rfl,of.sl.chg hC4 (nid nw),λi hi=>⟨λq=>nv i hi (hC2.old (hC.old (hB i q))),nw i hi⟩⟩
  ·rw[List.getElem?_set_ne (λq=>hj q.symm)] at h1 h2
   obtain⟨us,e,q,q2⟩:=ho3.c j y c h1 h2
   exact⟨us,e,q.chg hC4 (nid λi hi=>(q2 i hi).2),q2⟩
 ·have e:i=L.length:=by omega
  subst e
  rw[ae1,List.drop_length,ac7] at ho
  simp (disch:=omega) only[go_sem,seval,t6,t7]
  rw[aa]
  exact hQ _ _ C' (by simp only[go_sem,seval,t0]) (by simp only[go_sem,seval,t1]) (by simp only[go_sem,seval,t2]) (by simp only[go_sem,seval,t3]) ho hC
end
theorem Codn.back  {m1:NH} {w:NV} (h:Codn m1 M w L C) (hb:∀i,ap m0 i->ap m1 i):Codn m0 M w L C:=
 ⟨h.s.back hb,h.n,λj x c a b=>by obtain⟨vs,e,q,q2⟩:=h.c j x c a b;exact⟨vs,e,q,λi hi=>⟨λp=>(q2 i hi).1 (hb i p),(q2 i hi).2⟩⟩⟩
theorem Codn.chg  {w:NV} (h:Codn m0 m w L C) (hC:Chg T m m') (hT:∀i∈T,ap m0 i):Codn m0 m' w L C:=
 ⟨h.s.chg hC λi hi q=>h.s.new i hi (hT i q),h.n,λj x c a b=>by obtain⟨vs,e,q,q2⟩:=h.c j x c a b;exact⟨vs,e,q.chg hC λi hi p=>(q2 i hi).1 (hT i p),q2⟩⟩
def yO (x:Cd) (L:List Cd) (n:Nat) (sp:Bool):Cd×List Cd:=
 if sp=true then (x.fl.el (List.replicate n true),(L.map Cd.fl).map λy=>y.el (kK (L.map Cd.fl) (min n 16))) else (x.fl,L.map Cd.fl)
theorem Rl (n:Nat):rep n [.bool false]=(GL (List.replicate n false)).flatten:=by
 induction n with
 |zero=>rfl
 |succ n ih=>rw[List.replicate_succ];show [NV.bool false]++rep n [.bool false]=_;rw[ih];rfl
section
variable {m m' M:NH} {vl vc vt vr vs:NV} {L:List Cd} {C:List (List NV)} {x:Cd} {cs:List (List Nat×Int)}
set_option maxHeartbeats 2000000 in
theorem Jf (hv:Cods m vl L C) (hst:∀x∈L,x.st.length<=100000) (hl:L.length<=1000000) (hx:Sl m vs 9 (mm x.st)) (hxl:x.st.length<=100000) (hcs:Sl m vc 2 (jx cs)) (hcl:cs.length<=100000) (h1:cellsOf vt=some [vt]) (h2:cellsOf vr=some [vr]) (sp:Bool):
 ∃w m',rT 77 [.agg [vc,vt,vr],.agg [ii x.v,ii x.lo,vs],vl,.bool sp] m w m'/\(∃vs' wl C',w= .tup [.agg [ii (yO x L cs.length sp).1.v,ii (yO x L cs.length sp).1.lo,vs'],wl]/\Sl m' vs' 9 (mm (yO x L cs.length sp).1.st)/\(∀i∈ids vs',¬ap m i)/\Codn m m' wl (yO x L cs.length sp).2 C')/\Chg [] m m':=by
 refine WF.ex λK hK=> ?_
 refine WF.of_wpG (λ_=>rfl) Hm (L:= [(.c .e,.bool sp),(.b .e,vl),(.a .e,.agg [ii x.v,ii x.lo,vs]),(.e,.agg [vc,vt,vr])]) rfl ?_
 unfold UN
 have hlen:=hv.s.len
 rw[hv.n] at hlen
 have hclen:=hcs.len
 rw[aa0] at hclen
 generalize hM1:hp [(.n 2,.cells true [ii 0,ii 0,.nils]),(.n 1,.cells true [ii x.v,ii x.lo,vs]),(.n 0,.cells true [vc,vt,vr])] 3 m=M1
 have hC1:Chg [] m M1:=az hM1 rfl
 have g0:M1.get (na m 0)=some (.cells true [vc,vt,vr]):=aI hM1
 have g1:M1.get (na m 1)=some (.cells true [ii x.v,ii x.lo,vs]):=aI hM1
 have g2:M1.get (na m 2)=some (.cells true [ii 0,ii 0,.nils]):=aI hM1
 have o0:ap M1 (na m 0):=aL hM1 (by omega)
 have o1:ap M1 (na m 1):=aL hM1 (by omega)
 have o2:ap M1 (na m 2):=aL hM1 (by omega)
 have n01:na m 0≠na m 1:=by simp[cn]
 have n02:na m 0≠na m 2:=by simp[cn]
 have n12:na m 1≠na m 2:=by simp[cn]
 have n21:=n12.symm
 obtain⟨wv,M2,r2,⟨vf,rfl,of⟩,hC2⟩:=G8 (v:=x.v) (lo:=x.lo) (hx.chg hC1 (by simp)) (by omega)
 have q1:=(hC2.get o1 (by simp)).trans g1
 have p1:=hC2.old o1
 simp (disch:=first|omega|(simp only[aA]<;>omega)) only[go_sem,seval,hM1,g1,r2.wf,q1,hlen]
 generalize hM3:hp _ 0 M2=M3
 have hC3:Chg [na m 1] M2 M3:=az hM3 rfl
 have c13:Chg [na m 1] M1 M3:=(hC2.weak (T:= [na m 1]) (by simp)).trans hC3 λi hi _=>hi
 have c03:Chg [] m M3:=hC1.trans c13 λi hi q=>by rw[one hi] at q;exact adD q ak
 have g13:M3.get (na m 1)=some (.cells true [ii x.v,ii x.lo,vf]):=nF p1 hM3
 have g03:=(c13.get o0 (λq=>n01 (one q))).trans g0
 have g23:=(c13.get o2 (λq=>n21 (one q))).trans g2
 have o03:=c13.old o0
 have o13:=c13.old o1
 have o23:=c13.old o2
 have nvf:∀i∈ids vf,¬ap M1 i:=of.new
 have of3:Sl M3 vf 9 (mm (eu x.st)):=of.sl.chg hC3 λi hi q=>nvf i hi (one q▸o1)
 refine Vm (t:=_) (hv.grow c03) (λy hy=>by have:=hst y hy;omega) hl (w0:= .ptr (na m 0) 0) (w1:= .ptr (na m 1) 0) (w2:= .ptr (na m 2) 0) (w3:= .bool sp) ?_ ?_ ?_ ?_ ?_ ?_ ?_ ?_ ?_
 ·exact gq rfl
 ·exact gq rfl
 ·exact gq rfl
 ·exact gq rfl
 ·exact gq rfl
 ·exact gq rfl
 ·exact gq rfl
 ·exact gq rfl
 intro t M4 w C4 t0 t1 t2 t3 t4 ho4 hC4
 have c04:=c03.tr hC4
 have g14:=(hC4.get o13 (by simp)).trans g13
 have g04:=(hC4.get o03 (by simp)).trans g03
 have g24:=(hC4.get o23 (by simp)).trans g23
 have o04:=hC4.old o03
 have o14:=hC4.old o13
 have o24:=hC4.old o23
 have of4:=of3.chg hC4 (by simp)
 rw[←aa M4]
 unfold yO at hK
 cases sp with
 |false=>
  rw[adE aa3] at hK
  simp (disch:=first|omega|(simp only[aA]<;>omega)) only[go_sem,seval,t1,t2,t3,t4,g14,g24]
  generalize hM5:hp _ 0 M4=M5
  have hC5:Chg [na m 2] M4 M5:=az hM5 rfl
  refine hK _ _ ⟨⟨vf,w,C4,rfl,of4.chg hC5 λi hi q=>nvf i hi (one q▸o2),λi hi q=>nvf i hi (hC1.old q),(ho4.chg hC5 λi hi=>one hi▸o23).back λi hi=>c03.old hi⟩,c04.trans hC5 λi hi q=>by rw[one hi] at q;exact adD q ak⟩
 |true=>
  rw[adF rfl] at hK
  simp (disch:=omega) only[go_sem,seval,t0,t3,g04,hclen]
  generalize hM5:hp _ 1 M4=M5
  have hC5:Chg [] M4 M5:=az hM5 rfl
  have oa:aQ M4 M5 (.slc (na M4 0) 0 cs.length 1 cs.length) 1 (GL (List.replicate cs.length false)):=aQ.of (λy hy=>by obtain⟨b,-,rfl⟩:=ab3.1 hy;rfl) ak (aI hM5) (aL hM5 (by omega)) (Rl _) (by simp) (by simp)
  generalize hva:NV.slc (na M4 0) 0 cs.length 1 cs.length=va at oa ⊢
  refine WX (t:=_) oa (by simp;omega) (w0:= .ptr (na m 0) 0) (w1:= .ptr (na m 1) 0) (w2:= .ptr (na m 2) 0) (w3:=w) ?_ ?_ ?_ ?_ ?_ ?_ ?_ ?_
  ·exact gq t0
  ·exact gq t1
  ·exact gq t2
  ·exact gq t4
  ·exact gq rfl
  ·rw[ae2];exact gq rfl
  ·exact gq rfl
  intro t M6 t0 t1 t2 t4 t5 oa6 hC6
  rw[ae2] at oa6
  have c46:Chg [] M4 M6:=hC5.trans hC6 λi hi q=>adD q (oa.new i hi)
  have c06:=c04.tr c46
  have g06:=(c46.get o04 (by simp)).trans g04
  have ho6:=ho4.grow c46
  obtain⟨vb,M7,r7,ob,hC7⟩:=Vz ho6.cods (λy hy=>by
   obtain⟨z,hz,rfl⟩:=ab3.1 hy
   have h3:=kB z.st
   have h4:=hst z hz
   show (eu z.st).length<=_;omega) (by rw[aa0];exact hl) (n:=cs.length) (by omega)
  have hlw:=ho6.s.sl.len
  rw[ho6.n,aa0] at hlw
  simp only[go_sem,seval,t0,t4,g06,hclen,r7.wf',hlw]
  have ho7:=ho6.grow hC7
  have c47:=c46.tr hC7
  refine VB (t:=_) ho7 (λi hi=>(hC4.tr c47).old hi) ob.sl (λi hi q=>ob.new i hi (ho6.s.sl.old i q)) (by simp[kK];omega) (λy hy=>by
   obtain⟨z,hz,rfl⟩:=ab3.1 hy
   have h3:=kB z.st
   have h4:=hst z hz
   show (eu z.st).length<=_;omega) (by rw[aa0];exact hl) (w1:= .ptr (na m 1) 0) (w2:= .ptr (na m 2) 0) (w3:=va) ?_ ?_ ?_ ?_ ?_ ?_ ?_ ?_ ?_
  ·exact gq t1
  ·exact gq t2
  ·exact gq t5
  ·exact gq t4
  ·exact gq rfl
  ·exact gq rfl
  ·rw[aa0];exact gq rfl
  ·exact gq rfl
  intro t M8 C8 t1 t2 t5 t4 ho8 hC8
  have nw:∀{i:D4},ap M3 i->i∉ids w:=λh q=>ho4.s.new _ q h
  have g18:=(hC8.get (c47.old o14) (nw o13)).trans ((c47.get o14 (by simp)).trans g14)
  have g28:=(hC8.get (c47.old o24) (nw o23)).trans ((c47.get o24 (by simp)).trans g24)
  have o28:=hC8.old (c47.old o24)
  have oa8:=(oa6.chg hC7 (by simp)).chg hC8 λi hi q=>oa6.new i hi (ho4.s.sl.old i q)
  have of8:=(of4.chg c47 (by simp)).chg hC8 λi hi=>nw (of3.old i hi)
  have c38:Chg [] M3 M8:=(hC4.tr c47).trans hC8 λi hi q=>adD q (ho4.s.new i hi)
  obtain⟨wv9,M9,r9,⟨ve,rfl,oe⟩,hC9⟩:=HW (v:=x.v) (lo:=x.lo) of8 oa8.sl (by have:=kB x.st;omega) (by simp;omega)
  have g29:=(hC9.get o28 (by simp)).trans g28
  have o29:=hC9.old o28
  simp (disch:=first|omega|(simp only[aA]<;>omega)) only[go_sem,seval,t1,t2,t4,t5,g18,r9.wf,g29]
  generalize hM10:hp _ 0 M9=M10
  have hC10:Chg [na m 2] M9 M10:=az hM10 rfl
  have c39:Chg [] M3 M9:=c38.tr hC9
  refine hK _ _ ⟨⟨ve,w,C8,rfl,oe.sl.chg hC10 λi hi q=>oe.new i hi (one q▸o28),λi hi q=>oe.new i hi (c38.old (c03.old q)), ?_⟩,(c03.tr c39).trans hC10 λi hi q=>by rw[one hi] at q;exact adD q ak⟩
  exact ((ho8.grow hC9).chg hC10 λi hi=>one hi▸o23).back λi hi=>c03.old hi
end
structure Lt where
 (k d a b c to cell:Int) (n op:NV)
variable {steps:List Lt}
def Lt.l (s:Lt):List NV:= [ii s.k,ii s.d,ii s.a,ii s.b,ii s.c,ii s.to,ii s.cell,s.n,s.op]
def Lt.sets (s:Lt):Int:=if s.k=0∨s.k=1∨s.k=2∨s.k=3∨s.k=5 then s.d else -1
def Lt.uses (s:Lt):List Int:=if s.k=1∨s.k=3∨s.k=6∨s.k=8∨s.k=11 then [s.a] else if s.k=2∨s.k=4 then [s.a,s.b] else if s.k=5 then [s.a,s.b,s.c] else []
abbrev mJ (l:List (Int×Int)):List (List NV):=l.map λp=> [ii p.1,ii p.2]
abbrev XV (l:List Lt):List (List NV):=l.map Lt.l
theorem Jc (m:NH) (s:Lt):∃m',rT 288 [.agg s.l] m (ii s.sets) m'/\Chg [] m m':=by
 have h:WF af8 S0 288 [.agg s.l] m λv m'=>v=ii s.sets/\Chg [] m m':=by
  refine WF.of_wpH (λ_=>rfl) x9 (L:= [(.e,.agg s.l)]) rfl ?_
  unfold PQ
  obtain⟨k,d,a,b,c,to,cell,n,op⟩:=s
  by_cases h:k=0∨k=1∨k=2∨k=3∨k=5
  ·rcases h with h|h|h|h|h<;>subst h<;>simp only[go_sem,seval,Lt.l]<;>exact⟨rfl,aw rfl⟩
  ·simp (disch:=omega) only[go_sem,seval,Lt.l,Lt.sets,h]
   exact aw rfl
 obtain⟨v,m',h1,rfl,h2⟩:=h.ret
 exact⟨m',h1,h2⟩
def XQ (at_:Int) (p:Int×Int):Int×Int:=(if p.1<0 then at_ else p.1,max p.2 at_)
def gD (l:List (Int×Int)) (v at_:Int):List (Int×Int):=if 0<=v/\v<l.length then l.modify v.toNat (XQ at_) else l
theorem pM  {l:List (Int×Int)} (hl:aQ B m vl 2 (mJ l)) (v at_:Int):∃u m',rT 287 [vl,ii v,ii at_] m u m'/\aQ B m' vl 2 (mJ (gD l v at_))/\Chg (ids vl) m m':=by
 have h:WF af8 S0 287 [vl,ii v,ii at_] m λ_ m'=>aQ B m' vl 2 (mJ (gD l v at_))/\Chg (ids vl) m m':=by
  refine WF.of_wpH (λ_=>rfl) yU (L:= [(.b .e,ii at_),(.a .e,ii v),(.e,vl)]) rfl ?_
  unfold LW
  have hlen:=hl.sl.len
  rw[aa0] at hlen
  by_cases h1:v<0
  ·simp (disch:=omega) only[go_sem,seval]
   rw[aa,show gD l v at_=l from adE (by omega)]
   exact⟨hl,(Chg.refl m).weak λ_ h _=>by simp at h⟩
  ·by_cases h2:(l.length:Int)<=v
   ·simp (disch:=omega) only[go_sem,seval,hlen]
    rw[aa,show gD l v at_=l from adE (by omega)]
    exact⟨hl,(Chg.refl m).weak λ_ h _=>by simp at h⟩
   ·obtain⟨i,rfl⟩:=adL (by omega:0<=v)
    have hi:i<l.length:=by omega
    obtain⟨id,off,c,a1,a2,a3,a4,a5,a6,a7,a8⟩:=hl.at i (by simpa using hi)
    rw[aa4] at a7 a8
    have c0:=bm a7 0 (by omega)
    have c1:=bm a7 1 (by omega)
    have ht:mJ (gD l i at_)=(mJ l).set i [ii (XQ at_ l[i]).1,ii (XQ at_ l[i]).2]:=by
     rw[show gD l i at_=l.set i (XQ at_ l[i]) from (adF (by omega)).trans (GH l _ i hi)]
     exact List.map_set
    by_cases h3:l[i].1<0
    ·simp (disch:=first|omega|(simp only[aA]<;>omega)) only[go_sem,seval,hlen,a1,a4,c0,c1,List.getElem?_set_ne]
     refine⟨?_,by rw[a2];exact (aw rfl).weak (by simp[bj])⟩
     rw[ht]
     simp only[XQ,h3,if_true]
     exact a8 [(0,ii at_),(1,ii (max l[i].2 at_))] _ (by simp) ((aO a5).trans aC) (au a5)
    ·simp (disch:=omega) only[go_sem,seval,hlen,a1,a4,c0,c1]
     refine⟨?_,by rw[a2];exact (aw rfl).weak (by simp[bj])⟩
     rw[ht]
     simp only[XQ,h3,if_false]
     exact a8 [(1,ii (max l[i].2 at_))] _ (by simp) ((aO a5).trans aC) (au a5)
 obtain⟨v,m',h1,h2,h3⟩:=h.ret
 exact⟨v,m',h1,h2,h3⟩
theorem Dy  {q sl:D4} {us:List Int} {c:List NV} {nn:Nat} (hn:us.length=nn) (hsz:nn<=3) (hc:∀i (h:i<us.length),c[i]? =some (ii us[i])) (hT:sl∉T)
 (I:Nat->NH->Prop) (hY:∀j v M,us[j]? =some v->Chg T m M->I j M->∃M',mH af8 S0 q [ii v] M (.bool true) M'/\Chg T m M'/\I (j+1) M')
 {kc:Nat} (ht:Has t [(D4.e,.yld q),(D4.e.a.b.c,.slc sl 0 nn 1 kc),(D4.e.a.b.f,ii nn),(D4.e.a.c.a,ii 0)]) (hsl:m.get sl=some (.cells true c)) (hso:ap m sl) (h0:I 0 m) (hQ:∀t' M',Chg T m M'->I nn M'->Q (.exit 1) ⟨t', [],none,M'⟩):W af8 S0 none mC.loop ⟨t, [],none,m⟩ Q:=by
 obtain⟨g1,g2,g3,g4,-⟩:=ht
 refine W.loop (λk d=>∃t M i,d=⟨t, [],none,M⟩/\NT.get D4.e t=some (.yld q)/\NT.get D4.e.a.b.c t=some (.slc sl 0 nn 1 kc)/\NT.get D4.e.a.b.f t=some (ii nn)/\NT.get D4.e.a.c.a t=some (ii (i:Nat))/\i+k=nn/\Chg T m M/\I i M)
  ?_ nn _ ⟨t,m,0,rfl,g1,g2,g3,g4,by omega,(Chg.refl m).weak (by simp),h0⟩
 rintro k d ⟨t,M,i,rfl,g1,g2,g3,g4,hik,hC,hI⟩
 apply av
 unfold mC
 change wp _ _ _ _ ⟨puts [] t, [],none,M⟩ _
 rw[←aa M]
 by_cases hi:i<nn
 ·have hc1:=hc i (by omega)
  obtain⟨M',hy,hC',hI'⟩:=hY i us[i] M (by simp[hn,hi]) hC hI
  have hg:=(hC.get hso hT).trans hsl
  rw[aa]
  simp (disch:=omega) only[go_sem,seval,g1,g2,g3,g4,hg,hc1,Nat.mul_one,hy.wy]
  refine⟨k - 1,by omega,_,M',i+1,by rw[aa], ?_, ?_, ?_, ?_,by omega,hC',hI'⟩
  ·simp only[go_sem,seval,g1]
  ·simp only[go_sem,seval,g2]
  ·simp only[go_sem,seval,g3]
  ·simp only[go_sem,seval]<;>rfl
 ·simp (disch:=omega) only[go_sem,seval,g3,g4]
  rw[aa]
  have e:i=nn:=by omega
  subst e
  exact hQ _ _ hC hI
theorem XI  {s:Lt} {q sid:D4} {w:Bool} (hs:m.get sid=some (.cells w s.l)) (ho:ap m sid) (hTo:∀id∈T,ap m id)
 (I:NH->Nat->NH->Prop) (hI0:∀b,Chg [] m b->I b 0 b)
 (hY:∀b j v M,s.uses[j]? =some v->Chg [] m b->Chg T b M->I b j M->∃M',mH af8 S0 q [ii v] M (.bool true) M'/\Chg T b M'/\I b (j+1) M'):
 ∃v m',rT 338 [.yld q,.ptr sid 0] m v m'/\∃b,Chg [] m b/\Chg T b m'/\I b s.uses.length m':=by
 refine WF.ex λK hK=> ?_
 refine WF.of_wpH (λ_=>rfl) DW (L:= [(.a .e,.ptr sid 0),(.e,.yld q)]) rfl ?_
 unfold NE
 obtain⟨k,d,a,b,c,to,cell,n,op⟩:=s
 have fin:∀(M:NH) (nn:Nat) (t:Tm) (Q:Out->Dyn->Prop),M=hp [(.n 0,.cells true [ii a,ii b,ii c])] 1 m->(Lt.uses ⟨k,d,a,b,c,to,cell,n,op⟩)= [a,b,c].take nn->nn<=3->
  Has t [(D4.e,.yld q),(D4.e.a.b.c,.slc (na m 0) 0 nn 1 3),(D4.e.a.b.f,ii nn),(D4.e.a.c.a,ii 0)]->(∀t' M',(∃b',Chg [] m b'/\Chg T b' M'/\I b' (Lt.uses ⟨k,d,a,b,c,to,cell,n,op⟩).length M')->Q (.exit 1) ⟨t', [],none,M'⟩)->W af8 S0 none mC.loop ⟨t, [],none,M⟩ Q:=by
  rintro M nn t Q rfl hu hn ht hQ
  have hG:Chg [] m (hp [(.n 0,.cells true [ii a,ii b,ii c])] 1 m):=aw rfl
  have hl:(Lt.uses ⟨k,d,a,b,c,to,cell,n,op⟩).length=nn:=by rw[hu,aa7];exact ac5 hn
  refine Dy (m:=hp [(.n 0,.cells true [ii a,ii b,ii c])] 1 m) (T:=T) (c:= [ii a,ii b,ii c]) hl hn ?_ (λh=>ak (hTo _ h)) (I (hp [(.n 0,.cells true [ii a,ii b,ii c])] 1 m)) (λj v M h1 h2 h3=>hY _ j v M h1 hG h2 h3) ht ?_ (aq (by omega)) (hI0 _ hG) (λt' M' h1 h2=>hQ t' M' ⟨_,hG,h1,by rw[hl];exact h2⟩)
  ·intro i hi
   have e: [ii a,ii b,ii c]= [a,b,c].map ii:=rfl
   rw[e,List.getElem?_map]
   have e2: [a,b,c][i]? =(Lt.uses ⟨k,d,a,b,c,to,cell,n,op⟩)[i]? :=by rw[hu,List.getElem?_take_of_lt (by omega)]
   rw[e2,List.getElem?_eq_getElem hi];rfl
  ·exact bt
 by_cases h:k=1∨k=3∨k=6∨k=8∨k=11
 ·have e:Lt.uses ⟨k,d,a,b,c,to,cell,n,op⟩= [a]:=adF h
  rcases h with h|h|h|h|h<;>subst h<;>simp (disch:=first|omega|(simp only[aA]<;>omega)) only[go_sem,seval,Lt.l,hs]<;>
   exact fin _ 1 _ _ rfl e (by omega) (by (simp (disch:=first|assumption|omega|(apply aq;omega)|(apply au;assumption)|(simp only[aA]<;>omega)) only[go_sem,seval,fu,Rx])) (λt' M' h=>by simp only[go_sem,seval];exact hK _ _ h)
 ·by_cases h2:k=2∨k=4
  ·have e:Lt.uses ⟨k,d,a,b,c,to,cell,n,op⟩= [a,b]:=by simp[Lt.uses,h,h2]
   rcases h2 with h|h<;>subst h<;>simp (disch:=first|omega|(simp only[aA]<;>omega)) only[go_sem,seval,Lt.l,hs]<;>
    exact fin _ 2 _ _ rfl e (by omega) (by (simp (disch:=first|assumption|omega|(apply aq;omega)|(apply au;assumption)|(simp only[aA]<;>omega)) only[go_sem,seval,fu,Rx])) (λt' M' h=>by simp only[go_sem,seval];exact hK _ _ h)
  ·by_cases h3:k=5
   ·have e:Lt.uses ⟨k,d,a,b,c,to,cell,n,op⟩= [a,b,c]:=by simp[Lt.uses,h3]
    subst h3
    simp (disch:=first|omega|(simp only[aA]<;>omega)) only[go_sem,seval,Lt.l,hs]
    exact fin _ 3 _ _ rfl e (by omega) (by (simp (disch:=first|assumption|omega|(apply aq;omega)|(apply au;assumption)|(simp only[aA]<;>omega)) only[go_sem,seval,fu,Rx])) (λt' M' h=>by simp only[go_sem,seval];exact hK _ _ h)
   ·have e:Lt.uses ⟨k,d,a,b,c,to,cell,n,op⟩= []:=by simp[Lt.uses,h,h2,h3]
    simp (disch:=first|omega|(simp only[aA]<;>omega)) only[go_sem,seval,Lt.l,hs]
    exact fin _ 0 _ _ rfl e (by omega) (by (simp (disch:=first|assumption|omega|(apply aq;omega)|(apply au;assumption)|(simp only[aA]<;>omega)) only[go_sem,seval,fu,Rx])) (λt' M' h=>by simp only[go_sem,seval];exact hK _ _ h)
theorem Jo (m:NH) (s:Lt):rT 286 [.agg s.l] m (.fn 338 [.ptr m.next 0]) (m.add (.cells true s.l)):=by
 have h:WF af8 S0 286 [.agg s.l] m λv m'=>v= .fn 338 [.ptr m.next 0]/\m'=m.add (.cells true s.l):=by
  refine WF.of_wpH (λ_=>rfl) yw (L:= [(.e,.agg s.l)]) rfl ?_
  unfold Oi
  simp only[go_sem,seval,pg,rP]
 obtain⟨v,m',h1,rfl,rfl⟩:=h.ret
 exact h1
theorem Lt.len (s:Lt):s.l.length=9:=rfl
theorem Lt.all (s:Lt):s.l.take 9=s.l:=rfl
def ff (n i:Nat):List (Int×Int):=(List.range n).map λj=>if j<i then (-1,0) else (0,0)
theorem tz (n i:Nat):(ff n i).length=n:=by simp[ff]
theorem FK (n:Nat):ff n 0=List.replicate n (0,0):=by
 apply List.ext_getElem<;>simp[ff]
theorem H6 (n:Nat):ff n n=List.replicate n (-1,0):=by
 apply List.ext_getElem
 ·simp[ff]
 ·intro i h1 h2;simp[ff] at h1 ⊢;exact h1
theorem FD  (h:i<n):ff n (i+1)=(ff n i).set i (-1,0):=by
 apply List.ext_getElem
 ·simp[ff]
 ·intro j h1 h2
  rw[List.getElem_set]
  simp only[ff,aa4,List.getElem_range]
  by_cases e:i=j
  ·subst e;simp
  ·have e2:(j<i+1)=(j<i):=by apply propext;omega
   simp only[e2,e,if_false]
theorem Hs (l:List (Int×Int)) (i:Nat) (p:Int×Int):mJ (l.set i p)=(mJ l).set i [ii p.1,ii p.2]:=List.map_set
abbrev ZL:List D4:= [D4.e.f.a,D4.e.f.b,D4.e.f,D4.e.f.c,D4.e.f.f,D4.e.a.a.a,D4.e.a.a.b,D4.e.a.a.c,D4.e.c.f]
theorem aaC  (ho:M.get o=some (.cells true [u])) (hoo:ap M o) (hu:aQ B M u 2 (mJ (ff n 0))) (hou:o∉ids u) (hn:n<=400) (g1:NT.get D4.e.c t=some (.ptr o 0)) (g2:NT.get D4.e.c.f t=some (ii 0)) (g3:NT.get D4.e.c.c t=some (ii n)) (hQ:∀t' M',mB ZL t t'->Chg (ids u) M M'->aQ B M' u 2 (mJ (ff n n))->Q (.exit 0) ⟨puts [] t', [],none,hp [] 0 M'⟩):
 W af8 S0 none jW.loop ⟨t, [],none,M⟩ Q:=by
 refine W.loop (λk d=>∃t' M' i,d=⟨t', [],none,M'⟩/\mB ZL t t'/\Chg (ids u) M M'/\aQ B M' u 2 (mJ (ff n i))/\NT.get D4.e.c.f t'=some (ii (i:Nat))/\i+k=n)
  ?_ n _ ⟨t,M,0,rfl,mB.refl _ _,(Chg.refl _).weak (by simp),hu,g2,by omega⟩
 rintro k d ⟨t',M',i,rfl,hS,hC,hu',g2,hik⟩
 have g1:=hS.get g1 (by simp)
 have g3:=hS.get g3 (by simp)
 have ho':=(hC.get hoo hou).trans ho
 have hoo':=hC.old hoo
 apply av
 unfold jW
 change wp _ _ _ _ ⟨puts [] t', [],none,M'⟩ _
 rw[←aa M']
 by_cases hi:i<n
 ·obtain⟨id,off,c,a1,a2,a3,a4,a5,a6,a7,a8⟩:=hu'.at i (by simpa [tz] using hi)
  simp (disch:=omega) only[go_sem,seval,g1,g2,g3,ho',a1,a4]
  refine⟨k - 1,by omega,_,_,i+1,rfl,hS.puts _ ?_, ?_, ?_, ?_,by omega⟩
  ·simp
  ·exact hC.trans (aw rfl) λj hj _=>by rw[a2];exact hj
  ·have eb:(ff n i)[i]'(by simpa [tz] using hi)=(0,0):=by simp[ff]
   rw[aa4,eb] at a8
   rw[FD hi,Hs]
   exact a8 [(0,ii (-1))] _ (by simp) ((aO a5).trans aC) (au a5)
  ·simp only[go_sem,seval]<;>rfl
 ·simp (disch:=omega) only[go_sem,seval,g2,g3]
  have e:i=n:=by omega
  subst e
  have hQ':=λL t'=>hQ (puts L t')
  simp only[rz] at hQ'
  refine hQ' _ _ _ (hS.puts _ ?_) hC hu'
  simp
theorem tF (l:List (Int×Int)) (v at_:Int):(gD l v at_).length=l.length:=by unfold gD;split<;>simp
theorem BW  {q ab:D4} {l:List (Int×Int)} {v at_:Int} (h1:NT.get D4.e.c t=some (.ptr o 0)) (h2:NT.get D4.e.a.a t=some (.ptr ab 0))
 (hq:M.get q=some (.loop 0 .none t [D4.e.a.f.b] bV cA)) (ho:M.get o=some (.cells true [u])) (hab:M.get ab=some (.cells true [ii at_])) (hu:aQ B M u 2 (mJ l))
 (hqo:ap M q) (hoo:ap M o) (habo:ap M ab) (oq:o≠q) (abq:ab≠q) (uq:q∉ids u):
 ∃w M',mH af8 S0 q [ii v] M w M'/\w= .bool true/\Chg (q::ids u) M M'/\M'.get q=some (.loop 0 .none t [D4.e.a.f.b] bV cA)/\aQ B M' u 2 (mJ (gD l v at_)):=by
 refine WY.ex λK hK=> ?_
 refine WY.of_wp hq rfl bV.eq_1 cA.eq_1 ?_
 change wp _ _ _ _ ⟨puts [(D4.e.a.f.b,ii v)] t, [],none,hp [] 0 M⟩ _
 have hC1:Chg [q] M (hp [(.o q,.loop 1 .none t [D4.e.a.f.b] bV cA)] 0 M):=aw rfl
 obtain⟨w,M2,hr,hu2,hC2⟩:=pM (hu.chg hC1 λj hj=>by simp;rintro rfl;exact uq hj) v at_
 have hq2:=(hC2.get (hC1.old hqo) uq).trans ((aO hqo).trans aC)
 have oq2:=hC2.old (hC1.old hqo)
 simp (disch:=omega) only[go_sem,seval,h1,h2,hq,ho,hab,hr.wf,hq2]
 refine hK _ _ ⟨rfl,(((hC1.weak (T:=q::ids u) (by simp)).trans hC2 λj hj _=>aa8 _ hj).trans (aw rfl) λj hj _=> ?_),(aO oq2).trans aC, ?_⟩
 ·simp[bj] at hj;simp[hj]
 ·exact hu2.chg (aw rfl) λj hj=>by simp[bj];rintro rfl;exact uq hj
def dn (l:List (Int×Int)) (us:List Int) (at_:Int):List (Int×Int):=us.foldl (λl v=>gD l v at_) l
theorem vX (l:List (Int×Int)) (us:List Int) (at_:Int):(dn l us at_).length=l.length:=by
 induction us generalizing l with
 |nil=>rfl
 |cons v us ih=>show (dn (gD l v at_) us at_).length=_;rw[ih,tF]
theorem s8 (l:List (Int×Int)) (us:List Int) (v at_:Int):dn l (us++ [v]) at_=gD (dn l us at_) v at_:=by simp[dn]
theorem AD  {s:Lt} {dfs:List Dfr} {ab sid:D4} {l:List (Int×Int)} {at_:Int} (h1:NT.get D4.e.c t=some (.ptr o 0)) (h2:NT.get D4.e.a.a t=some (.ptr ab 0)) (h3:NT.get D4.e.a.f.a t=some (.fn 338 [.ptr sid 0]))
 (ho:M.get o=some (.cells true [u])) (hab:M.get ab=some (.cells true [ii at_])) (hs:M.get sid=some (.cells true s.l)) (hu:aQ B M u 2 (mJ l)) (hoo:ap M o) (habo:ap M ab) (hso:ap M sid) (uo:o∉ids u) (uab:ab∉ids u) (us:sid∉ids u) (hQ:∀M',aQ B M' u 2 (mJ (dn l s.uses at_))->M'.get (na M 0)=some (.defd true)->ap M' (na M 0)->Chg (ids u) M M'->Q .norm ⟨puts [] t,.mark (na M 0)::dfs,none,hp [] 0 M'⟩):
 W af8 S0 none (.rangeFunc (.tmp D4.e.a.f.a) [D4.e.a.f.b] bV cA) ⟨t,dfs,none,M⟩ Q:=by
 have key:∀M1,M1=hp [(.n 1,.loop 0 .none t [D4.e.a.f.b] bV cA),(.n 0,.defd true)] 2 M->W af8 S0 none (.rangeFunc (.tmp D4.e.a.f.a) [D4.e.a.f.b] bV cA) ⟨t,dfs,none,M⟩ Q:=by
  intro M1 hM1
  have hG:Chg [] M M1:=by rw[hM1];exact aw rfl
  have oq:ap M1 (na M 1):=by rw[hM1];exact aq (by omega)
  have om:ap M1 (na M 0):=by rw[hM1];exact aq (by omega)
  have gq:M1.get (na M 1)=some (.loop 0 .none t [D4.e.a.f.b] bV cA):=by rw[hM1];exact bt
  have gm:M1.get (na M 0)=some (.defd true):=by rw[hM1];exact bt
  have hidu:∀j∈ids u,ap M j:=hu.sl.old
  have uq:na M 1∉ids u:=λh=>ak (hidu _ h)
  have um:na M 0∉ids u:=λh=>ak (hidu _ h)
  obtain⟨v,m',hr,b,hb,hC,hq,hown⟩:=XI (m:=M1) (s:=s) (q:=na M 1) (sid:=sid) (w:=true) ((hG.get hso (by simp)).trans hs) (hG.old hso) (T:=na M 1::ids u)
   (by intro i hi;rcases aa1.mp hi with rfl|hi;exact oq;exact hG.old (hidu i hi))
   (λb j N=>N.get (na M 1)=some (.loop 0 .none t [D4.e.a.f.b] bV cA)/\aQ B N u 2 (mJ (dn l (s.uses.take j) at_)))
   (λb hb=>⟨(hb.get oq (by simp)).trans gq,(hu.chg hG λ_ _=>by simp).chg hb λ_ _=>by simp⟩)
   (by
    rintro b j v N hj hb hC ⟨hq,hown⟩
    have nin:∀j,ap M j->j∉ids u->j∉na M 1::ids u:=λj hj h=>by
     simp only[adJ,not_or];exact⟨λe=>ak (e▸hj),h⟩
    have get2:∀j x,ap M j->j∉ids u->M.get j=some x->N.get j=some x:=λj x hj h hx=>
     (hC.get (hb.old (hG.old hj)) (nin j hj h)).trans ((hb.get (hG.old hj) (by simp)).trans ((hG.get hj (by simp)).trans hx))
    obtain⟨w,M',h4,rfl,h5,h6,h7⟩:=BW h1 h2 hq (get2 o _ hoo uo ho) (get2 ab _ habo uab hab) hown (hC.old (hb.old oq)) (hC.old (hb.old (hG.old hoo))) (hC.old (hb.old (hG.old habo))) (hoo.ne 1) (habo.ne 1) uq (v:=v)
    refine⟨M',h4,hC.trans h5 λj hj _=>hj,h6, ?_⟩
    rw[ab7,hj]
    show aQ B M' u 2 (mJ (dn l (s.uses.take j++ [v]) at_))
    rw[s8];exact h7)
  rw[ae1] at hown
  refine W.rangeN h3 (hM1▸hr) hq ?_ (hC.old (hb.old oq))
  have hC2:Chg [na M 1] m' (hp [(AK.o (na M 1),NO.loop 3 Jump.none t [D4.e.a.f.b] bV cA)] 0 m'):=aw rfl
  rw[←aa (hp [(AK.o (na M 1),NO.loop 3 Jump.none t [D4.e.a.f.b] bV cA)] 0 m')]
  refine hQ _ ?_ ?_ (hC2.old (hC.old (hb.old om))) ?_
  ·exact hown.chg hC2 λi hi=>by simp;rintro rfl;exact uq hi
  ·refine (hC2.get (hC.old (hb.old om)) (by simp[cn])).trans ((hC.get (hb.old om) ?_).trans ((hb.get om (by simp)).trans gm))
   simp only[adJ,not_or];exact⟨λe=>by have:=fp e;omega,um⟩
  ·refine (((hG.trans hb λ_ h _=>h).weak (T:=ids u) (by simp)).trans hC ?_).trans hC2 ?_
   ·intro i hi hio;rcases aa1.mp hi with rfl|hi
    ·exact adD hio ak
    ·exact hi
   ·intro i hi hio;simp at hi;subst hi;exact adD hio ak
 exact key _ rfl
def dX (steps:List Lt) (l:List (Int×Int)):Nat->List (Int×Int)
 |0=>l
 |i+1=>match steps[i]? with
  |some s=>gD (dn (dX steps l i) s.uses i) s.sets i
  |none=>dX steps l i
theorem EN (steps:List Lt) (l:List (Int×Int)) (i:Nat):(dX steps l i).length=l.length:=by
 induction i with
 |zero=>rfl
 |succ i ih=>
  show (match steps[i]? with|some s=>gD (dn (dX steps l i) s.uses i) s.sets i|none=>dX steps l i).length=_
  cases steps[i]? with
  |none=>exact ih
  |some s=>dsimp only;rw[tF,vX,ih]
theorem aaF  {l:List (Int×Int)} (ho:M.get o=some (.cells true [u])) (hoo:ap M o) (hu:aQ B M u 2 (mJ l)) (hou:o∉ids u) (hs:Sl M vs 9 (XV steps)) (hn:steps.length<=1000000) (hvu:∀j∈ids vs,ap B j) (g1:NT.get D4.e.c t=some (.ptr o 0)) (g2:NT.get D4.e.a.b.a t=some vs) (g3:NT.get D4.e.a.b.b t=some (ii steps.length)) (g4:NT.get D4.e.a.b.c t=some (ii 0)) (ks:List D4) (hks:ks= [D4.e.a])
 {x:NV} (g5:NT.get D4.e.a t=some x) (hQ:∀(t':Tm) (M':NH) (ml:List D4),NT.get D4.e.a t'=some x->NT.get D4.e.c t'=some (.ptr o 0)->Chg (ids u) M M'->aQ B M' u 2 (mJ (dX steps l steps.length))->ml.Nodup->(∀i∈ml,¬ap M i/\ap M' i/\M'.get i=some (.defd true)/\i∉ids u)->Q (.exit 2) ⟨puts [] t',ml.map .mark,none,hp [] 0 M'⟩):
 W af8 S0 none rp.loop ⟨t, [],none,M⟩ Q:=by
 have hlen:=hs.len
 rw[aa0] at hlen
 refine W.loop (λk d=>∃t' M' i ml,d=⟨t',ml.map .mark,none,M'⟩/\NT.get D4.e.c t'=some (.ptr o 0)/\NT.get D4.e.a.b.a t'=some vs/\NT.get D4.e.a.b.b t'=some (ii steps.length)/\NT.get D4.e.a t'=some x/\Chg (ids u) M M'/\aQ B M' u 2 (mJ (dX steps l i))/\ml.Nodup/\(∀j∈ml,¬ap M j/\ap M' j/\M'.get j=some (.defd true)/\j∉ids u)/\NT.get D4.e.a.b.c t'=some (ii (i:Nat))/\i+k=steps.length)
  ?_ steps.length _ ⟨t,M,0, [],rfl,g1,g2,g3,g5,(Chg.refl _).weak (by simp),hu,List.nodup_nil,by simp,g4,by omega⟩
 rintro k d ⟨t',M',i,ml,rfl,g1,g2,g3,g5,hC,hu',hnd,hml,g4,hik⟩
 have ho':=(hC.get hoo hou).trans ho
 have hoo':=hC.old hoo
 have hs':=hs.chg hC λj hj hju=>hu.new j hju (hvu j hj)
 apply av
 unfold rp
 change wp _ _ _ _ ⟨puts [] t',_,none,M'⟩ _
 rw[←aa M']
 by_cases hi:i<steps.length
 ·obtain⟨id,off,w',c,a1,a2,a3,a4,a5⟩:=hs'.at i (by simpa using hi)
  rw[aa4] at a5
  have hl9:=Lt.len steps[i]
  simp (disch:=first|omega|(simp only[aA]<;>omega)) only[go_sem,seval,g2,g3,g4,a1,a2,a5,Lt.all,(Jo _ steps[i]).wf']
  have huM:∀j∈ids u,ap M' j:=hu'.sl.old
  refine AD (B:=B) (s:=steps[i]) (o:=o) (ab:=na M' 0) (sid:=na M' 2) (u:=u) (l:=dX steps l i) (at_:=i) ?_ ?_ ?_ ?_ ?_ ?_ (hu'.chg (aw rfl) ?_) (au hoo') (aq (by omega)) (aq (by omega)) hou (λh=>ak (huM _ h)) (λh=>ak (huM _ h)) ?_
  ·simp only[go_sem,seval,g1]
  ·simp only[go_sem,seval]
  ·simp only[go_sem,seval]
  ·simp (disch:=omega) only[go_sem,seval,ho']
  ·simp only[go_sem,seval]
  ·simp only[go_sem,seval]
  ·intro _ _;simp[bj]
  intro M2 hu2 hm2 hmo2 hC2
  have e0:ap M2 (na M' 0):=hC2.old (aq (by omega))
  have e1:ap M2 (na M' 1):=hC2.old (aq (by omega))
  have f0:M2.get (na M' 0)=some (.cells true [ii i]):=(hC2.get (aq (by omega)) (λh=>ak (huM _ h))).trans (by (simp only[go_sem,seval]))
  have f1:M2.get (na M' 1)=some (.cells true steps[i].l):=(hC2.get (aq (by omega)) (λh=>ak (huM _ h))).trans (by (simp only[go_sem,seval]))
  have fo:M2.get o=some (.cells true [u]):=(hC2.get (au hoo') hou).trans (by (simp (disch:=omega) only[go_sem,seval,ho']))
  have oo2:=hC2.old (au hoo')
  obtain⟨M3,hr3,hC3⟩:=Jc M2 steps[i]
  have f03:=(hC3.get e0 (by simp)).trans f0
  have f13:=(hC3.get e1 (by simp)).trans f1
  have fo3:=(hC3.get oo2 (by simp)).trans fo
  obtain⟨w4,M4,hr4,hu4,hC4⟩:=pM (hu2.chg hC3 λ_ _=>by simp) steps[i].sets i
  have hsu:aU 4 u u=true:=hu'.sl.same
  have fo4:=(hC4.get (hC3.old oo2) hou).trans fo3
  have f04:=(hC4.get (hC3.old e0) (λh=>ak (huM _ h))).trans f03
  simp (disch:=omega) only[go_sem,seval,g1,g4,f0,f1,fo,Lt.all,aa,hr3.wf',hr4.wf',f03,f13,fo3,fo4,f04,hsu]
  have hC5:Chg (ids u) M' M4:=((((aw rfl:Chg [] M' _).weak (T:=ids u) (by simp)).trans hC2 λ_ h _=>h).trans hC3 λ_ h _=>by simp at h).trans hC4 λ_ h _=>h
  have hmk:∀p l,na (hp l p M') 0=na M' p:=λp l=>by
   apply D4.toNat_inj
   unfold na
   rw[D4.toNat_of,D4.toNat_of]
   show (na M' p).toNat+0=_
   unfold na;rw[D4.toNat_of];omega
  rw[hmk] at hm2 hmo2 ⊢
  refine⟨k - 1,by omega,_,_,i+1,na M' 3::ml,rfl, ?_, ?_, ?_, ?_,hC.trans hC5 λ_ h _=>h, ?_, ?_, ?_, ?_,by omega⟩
  ·simp only[go_sem,seval,g1]
  ·simp only[go_sem,seval,g2]
  ·simp only[go_sem,seval,g3]
  ·simp only[go_sem,seval,g5]
  ·show aQ B M4 u 2 (mJ (match steps[i]? with|some s=>gD (dn (dX steps l i) s.uses i) s.sets i|none=>dX steps l i))
   rw[List.getElem?_eq_getElem hi];exact hu4
  ·rw[List.nodup_cons];exact⟨λh=>ak (hml _ h).2.1,hnd⟩
  ·intro j hj
   rcases aa1.mp hj with rfl|hj
   ·refine⟨λh=>ak (hC.old h),hC4.old (hC3.old hmo2), ?_,λh=>ak (huM _ h)⟩
    exact (hC4.get (hC3.old hmo2) (λh=>ak (huM _ h))).trans ((hC3.get hmo2 (by simp)).trans hm2)
   ·obtain⟨q1,q2,q3,q4⟩:=hml j hj
    exact⟨q1,hC5.old q2,(hC5.get q2 q4).trans q3,q4⟩
  ·simp only[go_sem,seval]<;>rfl
 ·simp (disch:=omega) only[go_sem,seval,g3,g4]
  have e:i=steps.length:=by omega
  subst e
  have hQ':=λL t'=>hQ (puts L t')
  simp only[rz] at hQ'
  refine hQ' _ _ _ _ ?_ ?_ hC hu' hnd hml
  ·simp only[go_sem,seval,g5]
  ·simp only[go_sem,seval,g1]
def wJ (l:List (Int×Int)) (p:Int×Int):Nat->List (Int×Int)
 |0=>l
 |i+1=>(wJ l p i).set i p
theorem Lz (l:List (Int×Int)) (p:Int×Int) (i:Nat):(wJ l p i).length=l.length:=by
 induction i with
 |zero=>rfl
 |succ i ih=>show ((wJ l p i).set i p).length=_;rw[ac3,ih]
theorem Zh  {bx:D4} {l:List (Int×Int)} {vars locals:Int} {w:Bool} (ho:M.get o=some (.cells true [u])) (hoo:ap M o) (hou:o∉ids u) (hu:aQ B M u 2 (mJ l)) (hbx:M.get bx=some (.cells w [ii vars,ii locals,vs])) (hbo:ap M bx) (hbu:bx∉ids u) (hs:Sl M vs 9 (XV steps)) (hn:steps.length<=1000000) (hvu:∀j∈ids vs,ap B j) (hnl:n<=l.length) (hll:l.length<=400) (dfs:List Dfr) (g1:NT.get D4.e.c t=some (.ptr o 0)) (g2:NT.get D4.e.a t=some (.ptr bx 0)) (g3:NT.get D4.e.c.a.a t=some (ii n)) (g4:NT.get D4.e.c.a.b t=some (ii 0)) (hQ:∀t' M',NT.get D4.e.c t'=some (.ptr o 0)->Chg (ids u) M M'->aQ B M' u 2 (mJ (if steps.length>0 then wJ l (0,(steps.length:Int) - 1) n else l))->Q (.exit 6) ⟨puts [] t',dfs,none,hp [] 0 M'⟩):
 W af8 S0 none mt.loop ⟨t,dfs,none,M⟩ Q:=by
 have hlen:=hs.len
 rw[aa0] at hlen
 refine W.loop (λk d=>∃t' M' i,d=⟨t',dfs,none,M'⟩/\NT.get D4.e.c t'=some (.ptr o 0)/\NT.get D4.e.a t'=some (.ptr bx 0)/\NT.get D4.e.c.a.a t'=some (ii n)/\Chg (ids u) M M'/\aQ B M' u 2 (mJ (if steps.length>0 then wJ l (0,(steps.length:Int) - 1) i else l))/\NT.get D4.e.c.a.b t'=some (ii (i:Nat))/\i+k=n)
  ?_ n _ ⟨t,M,0,rfl,g1,g2,g3,(Chg.refl _).weak (by simp),by simpa [wJ] using hu,g4,by omega⟩
 rintro k d ⟨t',M',i,rfl,g1,g2,g3,hC,hu',g4,hik⟩
 have ho':=(hC.get hoo hou).trans ho
 have hoo':=hC.old hoo
 have hb':=(hC.get hbo hbu).trans hbx
 have hbo':=hC.old hbo
 apply av
 unfold mt
 change wp _ _ _ _ ⟨puts [] t',_,none,M'⟩ _
 rw[←aa M']
 by_cases hi:i<n
 ·by_cases hp:steps.length>0
  ·simp only[hp,if_true] at hu'
   obtain⟨id,off,c,a1,a2,a3,a4,a5,a6,a7,a8⟩:=hu'.at_all i (by simp[Lz];omega)
   simp (disch:=first|omega|(simp only[aA]<;>omega)) only[go_sem,seval,g1,g2,g3,g4,hb',hlen,ho',a1,a4]
   refine⟨k - 1,by omega,_,_,i+1,rfl, ?_, ?_, ?_,hC.trans (aw rfl) λj hj _=>by rw[a2];exact hj, ?_, ?_,by omega⟩
   ·simp (disch:=first|omega|(simp only[aA]<;>omega)) only[go_sem,seval,g1]
   ·simp only[go_sem,seval,g2]
   ·simp only[go_sem,seval,g3]
   ·simp only[hp,if_true]
    show aQ B _ u 2 (mJ ((wJ l (0,(steps.length:Int) - 1) i).set i (0,(steps.length:Int) - 1)))
    rw[Hs]
    exact a8 _ _ rfl ((aO a5).trans aC) (au a5)
   ·simp only[go_sem,seval]<;>rfl
  ·simp only[hp,if_false] at hu'
   simp (disch:=omega) only[go_sem,seval,g2,g3,g4,hb',hlen]
   refine⟨k - 1,by omega,_,_,i+1,rfl, ?_, ?_, ?_, ?_, ?_, ?_,by omega⟩
   ·simp only[go_sem,seval,g1]
   ·simp only[go_sem,seval,g2]
   ·simp only[go_sem,seval,g3]
   ·rw[aa];exact hC
   ·simp only[hp,if_false];rw[aa];exact hu'
   ·simp only[go_sem,seval]<;>rfl
 ·simp (disch:=omega) only[go_sem,seval,g3,g4]
  have e:i=n:=by omega
  subst e
  have hQ':=λL t'=>hQ (puts L t')
  simp only[rz] at hQ'
  refine hQ' _ _ _ ?_ hC hu'
  simp only[go_sem,seval,g1]
def wu (vars locals:Int) (steps:List Lt):List (Int×Int):=
 let n:=(max 0 (min vars 400)).toNat
 let l:=dX steps (List.replicate n (-1,0)) steps.length
 if steps.length>0 then wJ l (0,(steps.length:Int) - 1) (max 0 (min locals n)).toNat else l
theorem GC  {vars locals:Int} (hs:Sl m vs 9 (XV steps)) (hn:steps.length<=1000000):
 ∃u m',rT 218 [.agg [ii vars,ii locals,vs]] m u m'/\aQ m m' u 2 (mJ (wu vars locals steps))/\Chg [] m m':=by
 refine WF.ex λK hK=> ?_
 refine WF.of_wpM (λ_=>rfl) yN (L:= [(.e,.agg [ii vars,ii locals,vs])]) rfl ?_
 unfold Lu
 have hlen:=hs.len
 rw[aa0] at hlen
 obtain⟨N,hN⟩:=adL (show 0<=max 0 (min vars 400) by omega)
 have hN4:N<=400:=by omega
 have hsp:wu vars locals steps=if steps.length>0 then wJ (dX steps (List.replicate N (-1,0)) steps.length) (0,(steps.length:Int) - 1) (max 0 (min locals N)).toNat else dX steps (List.replicate N (-1,0)) steps.length:=by
  unfold wu;rw[hN];rfl
 obtain⟨n2,hn2⟩:=adL (show 0<=max 0 (min locals N) by omega)
 have hn2N:n2<=N:=by omega
 rw[hn2] at hsp
 simp (disch:=first|omega|(simp only[aA]<;>omega)) only[go_sem,seval,hN]
 have hown:∀M,M.get (na m 1)=some (.cells true (rep N [ii 0,ii 0]))->ap M (na m 1)->aQ m M (.slc (na m 1) 0 N 2 N) 2 (mJ (ff N 0)):=by
  intro M h1 h2
  rw[FK]
  refine aQ.of ?_ ak h1 h2 ?_ ?_ ?_
  ·intro x hx;simp at hx;rw[hx.2];rfl
  ·rw[xi];simp
  ·simp
  ·simp
 have hids:ids (.slc (na m 1) 0 N 2 N)= [na m 1]:=rfl
 refine aaC (B:=m) (o:=na m 2) (u:= .slc (na m 1) 0 N 2 N) (n:=N) ?_ (aq (by omega)) (hown _ ?_ (aq (by omega))) ?_ hN4 ?_ ?_ ?_ ?_
 ·simp only[go_sem,seval]
 ·simp only[go_sem,seval]
 ·rw[hids];simp[cn]
 ·simp only[go_sem,seval]
 ·simp only[go_sem,seval]
 ·simp only[go_sem,seval]
 intro t1 M1 hS1 hC1 hu1
 rw[H6] at hu1
 have g1:NT.get D4.e.c t1=some (.ptr (na m 2) 0):=hS1.get (by (simp only[go_sem,seval])) (by simp)
 have g2:NT.get D4.e.a t1=some (.ptr (na m 0) 0):=hS1.get (by (simp only[go_sem,seval])) (by simp)
 have fb:M1.get (na m 0)=some (.cells true [ii vars,ii locals,vs]):=(hC1.get (aq (by omega)) (by rw[hids];simp[cn])).trans (by (simp only[go_sem,seval]))
 have fo:M1.get (na m 2)=some (.cells true [.slc (na m 1) 0 N 2 N]):=(hC1.get (aq (by omega)) (by rw[hids];simp[cn])).trans (by (simp only[go_sem,seval]))
 have ob:ap M1 (na m 0):=hC1.old (aq (by omega))
 have oo:ap M1 (na m 2):=hC1.old (aq (by omega))
 have hs1:Sl M1 vs 9 (XV steps):=(hs.grew (aw rfl)).chg hC1 λj hj h=>by rw[hids] at h;simp at h;subst h;exact ak (hs.old _ hj)
 have hm1:Chg [na m 1] m M1:=((aw rfl:Chg [] m _).weak (T:= [na m 1]) (by simp)).trans hC1 λ_ h _=>h
 simp only[go_sem,seval,g2,fb,hlen]
 refine aaF (B:=m) (o:=na m 2) (u:= .slc (na m 1) 0 N 2 N) (vs:=vs) (steps:=steps) ?_ (au oo) (hu1.chg (aw rfl) ?_) ?_ (hs1.grew (aw rfl)) hn (λj hj=>hs.old j hj) ?_ ?_ ?_ ?_ _ rfl (x:= .ptr (na m 0) 0) ?_ ?_
 ·simp only[go_sem,seval,fo]
 ·intro _ _;simp[bj]
 ·rw[hids];simp[cn]
 ·simp only[go_sem,seval,g1]
 ·simp only[go_sem,seval]
 ·simp only[go_sem,seval]
 ·simp only[go_sem,seval]
 ·simp only[go_sem,seval,g2]
 intro t2 M2 ml g2 g1 hC2 hu2 hnd hml
 rw[aa] at hC2
 have fb2:=(hC2.get ob (by rw[hids];simp[cn])).trans fb
 have fo2:=(hC2.get oo (by rw[hids];simp[cn])).trans fo
 have ob2:=hC2.old ob
 have oo2:=hC2.old oo
 have hs2:Sl M2 vs 9 (XV steps):=hs1.chg hC2 λj hj h=>by rw[hids] at h;simp at h;subst h;exact ak (hs.old _ hj)
 have hm2:=hm1.trans hC2 λ_ h _=>h
 have hlL:(dX steps (List.replicate N (-1,0)) steps.length).length=N:=by rw[EN];simp
 simp (disch:=omega) only[go_sem,seval,g1,g2,fb2,fo2,hn2]
 refine Zh (B:=m) (o:=na m 2) (bx:=na m 0) (u:= .slc (na m 1) 0 N 2 N) (vs:=vs) (steps:=steps) (vars:=vars) (locals:=locals) (n:=n2) (w:=true) ?_ ?_ ?_ ?_ ?_ ?_ ?_ ?_ hn (λj hj=>hs.old j hj) (by rw[hlL];exact hn2N) (by rw[hlL];exact hN4) (ml.map .mark) ?_ ?_ ?_ ?_ ?_
 ·simp only[go_sem,seval,fo2]
 ·exact au oo2
 ·rw[hids];simp[cn]
 ·exact hu2.chg (aw rfl) λ_ _=>by simp[bj]
 ·simp only[go_sem,seval,fb2]
 ·exact au ob2
 ·rw[hids];simp[cn]
 ·exact hs2.grew (aw rfl)
 ·simp only[go_sem,seval,g1]
 ·simp only[go_sem,seval,g2]
 ·simp only[go_sem,seval]
 ·simp only[go_sem,seval]
 intro t3 M3 g1 hC3 hu3
 rw[aa] at hC3
 have fo3:=(hC3.get oo2 (by rw[hids];simp[cn])).trans fo2
 have hml1:∀j∈ml,¬ap M1 j:=λj hj=>by have:=(hml j hj).1;rw[aa] at this;exact this
 obtain⟨M4,hM4,hC4⟩:=TH ml M3 hnd λj hj=>(hC3.get (hml j hj).2.1 (hml j hj).2.2.2).trans (hml j hj).2.2.1
 simp only[go_sem,seval,g1,fo3,aa,hM4]
 refine hK _ _ ⟨by rw[hsp];exact hu3.chg hC4 λj hj h=>(hml j h).2.2.2 hj,((hm2.trans hC3 λ_ h _=>h).trans (hC4.weak (T:=ml) λ_ h _=>h) ?_).weak ?_⟩
 ·intro j hj ho;exact adD (hm1.old ho) (hml1 j hj)
 ·intro j hj ho;simp at hj;subst hj;exact adD ho ak
def Sp.lt (s:Sp):Lt:=⟨s.k,s.d,s.a,s.b,s.c,s.t,s.ce,iu s.n,ib s.o⟩
theorem Xq (l:List Sp):XV (l.map Sp.lt)=mm l:=by show List.map Lt.l (List.map Sp.lt l)=List.map Sp.l l;rw[List.map_map];rfl
def rZ (x:Cd):List (Int×Int):=wu x.v x.lo (x.st.map Sp.lt)
theorem Rt  {x:Cd} (hs:Sl m vs 9 (mm x.st)) (hn:x.st.length<=1000000):∃w m',rT 218 [.agg [ii x.v,ii x.lo,vs]] m w m'/\aQ m m' w 2 (mJ (rZ x))/\Chg [] m m':=
 GC (steps:=x.st.map Sp.lt) (by rw[Xq];exact hs) (by rw[aa0];exact hn)
structure Iw where
 (k d a b s c n:Int)
abbrev Iw.l (i:Iw):List NV:= [ii i.k,ii i.d,ii i.a,ii i.b,ii i.s,ii i.c,ii i.n]
structure Pc where
 slot:Bool
 n:Int
abbrev Pc.l (p:Pc):List NV:= [.bool p.slot,ii p.n]
abbrev Qn (l:List Iw):List (List NV):=l.map Iw.l
abbrev Pcs (l:List Pc):List (List NV):=l.map Pc.l
structure Em where
 l:List Iw
 lb:List Int
def cU (i:Iw) (X:Em):Em:=⟨X.l++ [i],X.lb⟩
structure EK (B m:NH) (r:D4) (vp vi vb:NV) (ps:List Pc) (X:Em):Prop where
 g:m.get r=some (.cells true [vp,vi,vb])
 o:ap m r
 nB:¬ap B r
 i:aQ B m vi 7 (Qn X.l)
 n:r∉ids vi
 c:Chg [] B m
 p:Sl B vp 2 (Pcs ps)
 b:aQ B m vb 1 (dM X.lb)
 nb:r∉ids vb
 d:∀i∈ids vi,i∉ids vb
section
variable {B m m' m'' M:NH} {r i:D4} {vp vi vi' vb:NV} {ps:List Pc} {X X':Em}
theorem EK.grow (h:EK B m r vp vi vb ps X) (hC:Chg [] m m'):EK B m' r vp vi vb ps X:=
 ⟨(hC.get h.o (by simp)).trans h.g,hC.old h.o,h.nB,h.i.chg hC λ_ _=>by simp,h.n,h.c.tr hC,h.p,h.b.chg hC λ_ _=>by simp,h.nb,h.d⟩
theorem dK (h:EK B m r vp vi vb ps X) (x:Iw) (hl:X.l.length<=10000000):∃m',rT 282 [.ptr r 0,.agg x.l] m (.tup []) m'/\∃vi',EK B m' r vp vi' vb ps (cU x X)/\Ev r vi vi' m m':=by
 refine WF.ex1 λK hK=> ?_
 refine WF.of_wpG (λ_=>rfl) BK (L:= [(.a .e,.agg x.l),(.e,.ptr r 0)]) rfl ?_
 unfold NM
 have hg:=h.g
 have ho:=h.o
 have hs1:=h.i.sl.same (n:=3)
 simp (disch:=first|omega|(simp only[aA]<;>omega)) only[go_sem,seval,hg]
 generalize hM:hp _ 2 m=M
 have hC:Chg [] m M:=az hM rfl
 have gx:M.get (na m 1)=some (.cells true x.l):=aI hM
 have h1:=h.grow hC
 have g0:M.get (na m 0)=some (.cells true x.l):=aI hM
 have o0:ap M (na m 0):=aL hM (by omega)
 refine zP h1.i gx (aL hM (by omega)) rfl (λi hi=>h1.c.old hi) (by rw[aa0];omega) (by rw[aa0];omega) ?_
 intro v' M2 o2 hC2 hF
 have g2:=(hC2.get h1.o h1.n).trans h1.g
 have or2:=hC2.old h1.o
 have hv':=o2.sl.one
 have gx2:=(hC2.get o0 (λq=>ak (h.i.sl.old _ q))).trans g0
 simp (disch:=first|omega|(simp only[aA]<;>omega)) only[go_sem,seval,g2,hs1,gx2,hv']
 generalize hM3:hp _ 0 M2=M3
 have hC3:Chg [r] M2 M3:=az hM3 rfl
 have nr:r∉ids v':=λq=>(hF r q).elim h1.n λp=>p h1.o
 have hE:Ev r vi v' m M3:=⟨((hC.weak (T:=r::ids vi) (by simp)).trans (hC2.weak (T:=r::ids vi) λi hi _=>aa8 _ hi) λi hi _=>hi).trans (hC3.weak (T:=r::ids vi) λi hi _=>by rw[one hi];exact ab2 ..) λi hi _=>hi,λj hj=>(hF j hj).imp id λq p=>q (hC.old p)⟩
 have hb2:=(h1.b.chg hC2 λi hi q=>h1.d i q hi).chg hC3 λi hi q=>h1.nb (one q▸hi)
 refine hK _ ⟨v',⟨nF or2 hM3,hC3.old or2,h.nB, ?_,nr,(h1.c.trans hC2 λi hi q=>adD q (h1.i.new i hi)).trans hC3 λi hi q=>adD q (one hi▸h.nB),h.p,hb2,h.nb,λi hi q=>(hF i hi).elim (λp=>h1.d i p q) λp=>p (h1.b.sl.old i q)⟩,hE⟩
 have:=o2.chg hC3 λi hi q=>nr (one q▸hi)
 simpa [cU] using this
end
section
variable {k:Int->Int}
def fK (k:Int->Int) (d:Array Int) (a b:Nat):Prop:=∀i j (hi:i<d.size) (hj:j<d.size),a<=i->i<j->j<b->k d[i]<=k d[j]
theorem fK.sub  {b:Nat} (h:fK k d a b) (h1:a<=a') (h2:b'<=b):fK k d a' b':=λi j hi hj q1 q2 q3=>h i j hi hj (by omega) q2 (by omega)
theorem fK.one  {b:Nat} (h:b<=a+1):fK k d a b:=λi j hi hj q1 q2 q3=>by omega
structure Sam (d d':Array Int) (a b:Nat):Prop where
 n:d'.size=d.size
 p:d'.Perm d
 o:∀i (hi:i<d.size) (hi':i<d'.size),i<a∨b<=i->d'[i]=d[i]
theorem Sam.refl (d:Array Int) (a b:Nat):Sam d d a b:=⟨rfl,Array.Perm.refl d,λ_ _ _ _=>rfl⟩
theorem Sam.trans  {d'':Array Int} {b:Nat} (h:Sam d d' a b) (h':Sam d' d'' a b):Sam d d'' a b:=
 ⟨h'.n.trans h.n,h'.p.trans h.p,λi hi hi' q=>(h'.o i (by rw[h.n];exact hi) hi' q).trans (h.o i hi (by rw[h.n];exact hi) q)⟩
theorem Sam.wide  {b:Nat} (h:Sam d d' a b) (h1:a'<=a) (h2:b<=b'):Sam d d' a' b':=⟨h.n,h.p,λi hi hi' q=>h.o i hi hi' (by omega)⟩
theorem Sam.swap  {b:Nat} (hi:i<d.size) (hj:j<d.size) (h1:a<=i/\i<b) (h2:a<=j/\j<b):Sam d (d.swap i j hi hj) a b:=
 ⟨by simp,Array.swap_perm hi hj,λx hx hx' q=>by rw[ae3];rw[adE (by omega),adE (by omega)]⟩
theorem Sam.srt  {b:Nat} (h:Sam d d' a b) (hs:fK k d x y) (hq:y<=a∨b<=x):fK k d' x y:=λi j hi hj q1 q2 q3=>by
 have e1:=h.o i (by rw[←h.n];exact hi) hi (by omega)
 have e2:=h.o j (by rw[←h.n];exact hj) hj (by omega)
 rw[e1,e2]
 exact hs i j _ _ q1 q2 q3
end
section
variable {k:Int->Int}
def Zu (k:Int->Int) (d:Array Int) (a j i:Nat):Prop:=∀x y (hx:x<d.size) (hy:y<d.size),a<=x->x<y->y<=i->y≠j->k d[x]<=k d[y]
theorem Jl  (h:fK k d a i):Zu k d a i i:=λx y hx hy q1 q2 q3 q4=>h x y hx hy q1 q2 (by omega)
theorem OY  (h:Zu k d a j i) (hj:j<d.size) (ha:a<j) (hi:j<=i) (hlt:k d[j]<k d[j - 1]):Zu k (d.swap j (j - 1) hj (by omega)) a (j - 1) i:=by
 intro x y hx hy q1 q2 q3 q4
 simp only[Array.size_swap] at hx hy
 rw[ae3,ae3]
 by_cases y1:y=j
 ·subst y1
  rw[adF rfl]
  by_cases x1:x=y - 1
  ·rw[adE (by omega),adF x1];omega
  ·rw[adE (by omega),adE x1]
   exact h x (y - 1) _ _ q1 (by omega) (by omega) (by omega)
 ·rw[adE y1,adE q4]
  by_cases x1:x=j
  ·subst x1
   rw[adF rfl]
   exact h (x - 1) y _ _ (by omega) (by omega) q3 y1
  ·rw[adE x1]
   by_cases x2:x=j - 1
   ·rw[adF x2]
    exact h j y _ _ (by omega) (by omega) q3 y1
   ·rw[adE x2]
    exact h x y _ _ q1 q2 q3 y1
theorem G4  (h:Zu k d a j i) (hj:j<d.size) (he:j=a∨(a<j/\k d[j - 1]<=k d[j])):fK k d a (i+1):=by
 intro x y hx hy q1 q2 q3
 by_cases y1:y=j
 ·rcases he with e|⟨e1,e2⟩
  ·omega
  ·subst y1
   by_cases x1:x=y - 1
   ·subst x1;exact e2
   ·have:=h x (y - 1) hx (by omega) q1 (by omega) (by omega) (by omega)
    omega
 ·exact h x y hx hy q1 q2 (by omega) y1
structure Up (k:Int->Int) (d0 d:Array Int) (a c b:Nat):Prop where
 s:Sam d0 d a b
 l:∀x (hx:x<d.size) (hx':x+1<d0.size),a<=x->x<c->d[x]=d0[x+1]
 m:∀(hc:c<d.size) (ha:a<d0.size),d[c]=d0[a]
 r:∀x (hx:x<d.size) (hx':x<d0.size),c<x->d[x]=d0[x]
theorem MQ  {b:Nat}:Up k d d a a b:=⟨Sam.refl d a b,λ_ _ _ _ _=>by omega,λ_ _=>rfl,λ_ _ _ _=>rfl⟩
theorem QL  {c b:Nat} (h:Up k d0 d a c b) (ha:a<=c) (hc:c+1<d.size) (hb:c+1<b):Up k d0 (d.swap c (c+1) (by omega) hc) a (c+1) b:=by
 refine⟨h.s.trans (Sam.swap _ _ (by omega) (by omega)),λx hx hx' q1 q2=> ?_,λhc' ha'=> ?_,λx hx hx' q=> ?_⟩
 ·simp only[Array.size_swap] at hx
  rw[ae3]
  by_cases e:x=c
  ·rw[adF e];subst e;exact h.r (x+1) _ _ (by omega)
  ·rw[adE e,adE (by omega)];exact h.l x hx hx' q1 (by omega)
 ·rw[ae3,adE (by omega),adF rfl];exact h.m _ ha'
 ·simp only[Array.size_swap] at hx
  rw[ae3,adE (by omega),adE (by omega)];exact h.r x hx hx' (by omega)
theorem Wz  {b:Nat} (hb:b<=d0.size) (h:Up k d0 d a (i - 1) b) (hs:fK k d0 (a+1) b) (h1:a+1<=i/\i<=b) (hl:i=a+1∨∃(q:i - 1<d0.size) (q':a<d0.size),k d0[i - 1]<k d0[a]) (hr:i=b∨∃(q:i<d0.size) (q':a<d0.size),k d0[a]<=k d0[i]):fK k d a b:=by
 have hn:=h.s.n
 intro x y hx hy q1 q2 q3
 have hA:∀z (hz:z<d.size),a<=z->z<i - 1->k d[z]<=k (d0[a]'(by omega)):=λz hz z1 z2=>by
  rw[h.l z hz (by omega) z1 z2]
  rcases hl with e|⟨q,q',e⟩
  ·omega
  ·by_cases w:z+1=i - 1
   ·have:d0[z+1]'(by omega)=d0[i - 1]:=by congr 1
    rw[this];omega
   ·have:=hs (z+1) (i - 1) (by omega) q (by omega) (by omega) (by omega)
    omega
 have hR:∀z (hz:z<d.size),i - 1<z->z<b->k (d0[a]'(by omega))<=k d[z]:=λz hz z1 z2=>by
  rw[h.r z hz (by omega) z1]
  rcases hr with e|⟨q,q',e⟩
  ·omega
  ·by_cases w:z=i
   ·subst w;exact e
   ·have:=hs i z q (by omega) (by omega) (by omega) z2
    omega
 by_cases x1:x<i - 1
 ·by_cases y1:y<i - 1
  ·rw[h.l x hx (by omega) q1 x1,h.l y hy (by omega) (by omega) y1]
   exact hs _ _ _ _ (by omega) (by omega) (by omega)
  ·by_cases y2:y=i - 1
   ·subst y2;rw[h.m hy (by omega)];exact hA x hx q1 x1
   ·have e1:=hA x hx q1 x1
    have e2:=hR y hy (by omega) q3
    omega
 ·by_cases x2:x=i - 1
  ·subst x2;rw[h.m hx (by omega)];exact hR y hy (by omega) q3
  ·rw[h.r x hx (by omega) (by omega),h.r y hy (by omega) (by omega)]
   exact hs _ _ _ _ (by omega) q2 q3
structure Dn (k:Int->Int) (d0 d:Array Int) (a c b:Nat):Prop where
 s:Sam d0 d a b
 l:∀x (hx:x<d.size) (hx':x<d0.size),x<c->d[x]=d0[x]
 m:∀(hc:c<d.size) (hb:b - 1<d0.size),d[c]=d0[b - 1]
 r:∀x (hx:x<d.size) (hx':x - 1<d0.size),c<x->x<b->d[x]=d0[x - 1]
theorem O2  {b:Nat}:Dn k d d a (b - 1) b:=⟨Sam.refl d a b,λ_ _ _ _=>rfl,λ_ _=>rfl,λ_ _ _ _ _=>by omega⟩
theorem Sa  {c b:Nat} (h:Dn k d0 d a c b) (ha:a<c) (hc:c<d.size) (hb:c<b):Dn k d0 (d.swap c (c - 1) hc (by omega)) a (c - 1) b:=by
 refine⟨h.s.trans (Sam.swap _ _ (by omega) (by omega)),λx hx hx' q=> ?_,λhc' hb'=> ?_,λx hx hx' q1 q2=> ?_⟩
 ·simp only[Array.size_swap] at hx
  rw[ae3,adE (by omega),adE (by omega)];exact h.l x hx hx' (by omega)
 ·rw[ae3,adE (by omega),adF rfl];exact h.m _ hb'
 ·simp only[Array.size_swap] at hx
  rw[ae3]
  by_cases e:x=c
  ·rw[adF e];subst e;exact h.l (x - 1) _ _ (by omega)
  ·rw[adE e,adE (by omega)];exact h.r x hx hx' (by omega) q2
def X0 (k:Int->Int) (d:Array Int) (z:Nat) (P:Int->Prop):Prop:=∃q:z<d.size,P (k d[z])
theorem UY  {b:Nat} {v:Int} (hb:b<=d0.size) (h:Dn k d0 d a i b) (hs:fK k d0 a (b - 1)) (h1:a<=i/\i<=b - 1/\a<b) (hv:∀q:b - 1<d0.size,k d0[b - 1]=v) (hl:i=a∨X0 k d0 (i - 1) (·<=v)) (hr:i=b - 1∨X0 k d0 i (v<·)):fK k d a b:=by
 have hn:=h.s.n
 intro x y hx hy q1 q2 q3
 have hbq:b - 1<d0.size:=by omega
 have hM:∀(hc:i<d.size),k d[i]=v:=λhc=>by rw[h.m hc hbq];exact hv hbq
 clear hv
 have hA:∀z (hz:z<d.size),a<=z->z<i->k d[z]<=v:=λz hz z1 z2=>by
  rw[h.l z hz (by omega) z2]
  rcases hl with e|⟨q,e⟩
  ·omega
  ·by_cases w:z=i - 1
   ·subst w;exact e
   ·exact Int.le_trans (hs z (i - 1) (by omega) q z1 (by omega) (by omega)) e
 have hR:∀z (hz:z<d.size),i<z->z<b->v<=k d[z]:=λz hz z1 z2=>by
  rw[h.r z hz (by omega) z1 z2]
  rcases hr with e|⟨q,e⟩
  ·omega
  ·by_cases w:z - 1=i
   ·have e2:d0[z - 1]'(by omega)=d0[i]:=by congr 1
    rw[e2];exact Int.le_of_lt e
   ·exact Int.le_trans (Int.le_of_lt e) (hs i (z - 1) q (by omega) (by omega) (by omega) (by omega))
 by_cases x1:x<i
 ·by_cases y1:y<i
  ·rw[h.l x hx (by omega) x1,h.l y hy (by omega) y1]
   exact hs _ _ _ _ (by omega) (by omega) (by omega)
  ·by_cases y2:y=i
   ·subst y2;rw[hM hy];exact hA x hx q1 x1
   ·exact Int.le_trans (hA x hx q1 x1) (hR y hy (by omega) q3)
 ·by_cases x2:x=i
  ·subst x2;rw[hM hx];exact hR y hy (by omega) q3
  ·rw[h.r x hx (by omega) (by omega) (by omega),h.r y hy (by omega) (by omega) q3]
   exact hs _ _ _ _ (by omega) (by omega) (by omega)
end
def gt (d:Array Int) (x:Nat):Int:=if h:x<d.size then d[x] else 0
theorem dc  (h:x<d.size):gt d x=d[x]:=by unfold gt;rw[dif_pos h]
theorem g9 (d:Array Int) (h:x=y):gt d x=gt d y:=by rw[h]
theorem Sam.g  {b:Nat} (h:Sam d d' a b) (q:x<a∨b<=x):gt d' x=gt d x:=by
 unfold gt
 have:=h.n
 by_cases hx:x<d.size
 ·rw[dif_pos hx,dif_pos (by omega)];exact h.o x hx (by omega) q
 ·rw[dif_neg hx,dif_neg (by omega)]
theorem lB  (hi:i<d.size) (hj:j<d.size):gt (d.swap i j hi hj) x=if x=i then gt d j else if x=j then gt d i else gt d x:=by
 by_cases hx:x<d.size
 ·rw[dc (by simpa using hx),ae3]
  split
  ·rw[dc hj]
  split
  ·rw[dc hi]
  ·rw[dc hx]
 ·unfold gt
  rw[dif_neg (by simpa using hx),adE (by omega),adE (by omega),dif_neg hx]
structure Swr (d d1:Array Int) (x y n t:Nat):Prop where
 s:Sam d d1 x (y+n)
 l:∀u,u<t->gt d1 (x+u)=gt d (y+u)
 r:∀u,u<t->gt d1 (y+u)=gt d (x+u)
 o:∀z,(z<x∨x+t<=z)->(z<y∨y+t<=z)->gt d1 z=gt d z
theorem Ip (d:Array Int) (x y n:Nat):Swr d d x y n 0:=⟨Sam.refl _ _ _,λu h=>by omega,λu h=>by omega,λ_ _ _=>rfl⟩
theorem Mc  {t:Nat} (h:Swr d d1 x y n t) (hxy:x+n<=y) (ht:t<n) (hy:y+n<=d.size):Swr d (d1.swap (x+t) (y+t) (by have:=h.s.n;omega) (by have:=h.s.n;omega)) x y n (t+1):=by
 refine⟨h.s.trans (Sam.swap _ _ (by omega) (by omega)),λu hu=> ?_,λu hu=> ?_,λz q1 q2=> ?_⟩
 ·rw[lB]
  by_cases e:u=t
  ·subst e;rw[adF rfl];exact h.o _ (by omega) (by omega)
  ·rw[adE (by omega),adE (by omega)];exact h.l u (by omega)
 ·rw[lB]
  by_cases e:u=t
  ·subst e;rw[adE (by omega),adF rfl];exact h.o _ (by omega) (by omega)
  ·rw[adE (by omega),adE (by omega)];exact h.r u (by omega)
 ·rw[lB,adE (by omega),adE (by omega)]
  exact h.o z (by omega) (by omega)
structure Rot (d d':Array Int) (a m b:Nat):Prop where
 s:Sam d d' a b
 l:∀x,a<=x->x<a+(b - m)->gt d' x=gt d (x+(m - a))
 r:∀x,a+(b - m)<=x->x<b->gt d' x=gt d (x - (b - m))
theorem O6  {m:Nat} (hi:i<=m) (hij:j<i) (h:Swr d d1 (m - i) m j j) (hR:Rot d1 d' (m - i+j) m (m+j)):Rot d d' (m - i) m (m+j):=by
 refine⟨h.s.trans (hR.s.wide (by omega) (by omega)),λx q1 q2=> ?_,λx q1 q2=> ?_⟩
 ·rw[hR.s.g (by omega)]
  have:=h.l (x - (m - i)) (by omega)
  rw[g9 d1 (show x=m - i+(x - (m - i)) by omega),this]
  exact g9 d (by omega)
 ·by_cases q:x<m - i+j+(m+j - m)
  ·rw[hR.l x (by omega) q]
   have:=h.r (x+(i - j) - m) (by omega)
   rw[g9 d1 (show x+(m - (m - i+j))=m+(x+(i - j) - m) by omega),this]
   exact g9 d (by omega)
  ·rw[hR.r x (by omega) q2,h.o _ (by omega) (by omega)]
theorem OX  {m:Nat} (hi:i<=m) (hij:i<j) (h:Swr d d1 (m - i) (m+j - i) i i) (hR:Rot d1 d' (m - i) m (m+j - i)):Rot d d' (m - i) m (m+j):=by
 have e:m+j - i+i=m+j:=by omega
 have hs:=h.s
 rw[e] at hs
 refine⟨hs.trans (hR.s.wide (by omega) (by omega)),λx q1 q2=> ?_,λx q1 q2=> ?_⟩
 ·by_cases q:x<m - i+(m+j - i - m)
  ·rw[hR.l x q1 q,h.o _ (by omega) (by omega)]
  ·rw[hR.r x (by omega) (by omega)]
   have:=h.l (x - (m+j - i - m) - (m - i)) (by omega)
   rw[g9 d1 (show x - (m+j - i - m)=m - i+(x - (m+j - i - m) - (m - i)) by omega),this]
   exact g9 d (by omega)
 ·rw[hR.s.g (by omega)]
  have:=h.r (x - (m+j - i)) (by omega)
  rw[g9 d1 (show x=m+j - i+(x - (m+j - i)) by omega),this]
  exact g9 d (by omega)
theorem P5  {m:Nat} (hi:i<=m) (h:Swr d d1 (m - i) m i i):Rot d d1 (m - i) m (m+i):=by
 refine⟨h.s,λx q1 q2=> ?_,λx q1 q2=> ?_⟩
 ·have:=h.l (x - (m - i)) (by omega)
  rw[g9 d1 (show x=m - i+(x - (m - i)) by omega),this]
  exact g9 d (by omega)
 ·have:=h.r (x - m) (by omega)
  rw[g9 d1 (show x=m+(x - m) by omega),this]
  exact g9 d (by omega)
section
variable {k:Int->Int}
theorem fK.g  {b:Nat} (h:fK k d a b) (hb:b<=d.size) (q1:a<=i) (q2:i<=j) (q3:j<b):k (gt d i)<=k (gt d j):=by
 by_cases e:i=j
 ·subst e;exact Int.le_refl _
 ·rw[dc (by omega),dc (by omega)];exact h i j _ _ q1 (by omega) q3
theorem rl  {b:Nat} (h:∀i j,a<=i->i<j->j<b->k (gt d i)<=k (gt d j)):fK k d a b:=λi j hi hj q1 q2 q3=>by
 have:=h i j q1 q2 q3
 rwa [dc hi,dc hj] at this
theorem Q1  {m b:Nat} (hm:m<=b) (hb:b<=d.size) (h1:fK k d a m) (h2:fK k d m b) (h:∀i j,a<=i->i<m->m<=j->j<b->k (gt d i)<=k (gt d j)):fK k d a b:=by
 refine rl λi j q1 q2 q3=> ?_
 by_cases w:j<m
 ·exact h1.g (by omega) q1 (by omega) w
 ·by_cases w2:i<m
  ·exact h i j q1 w2 (by omega) q3
  ·exact h2.g hb (by omega) (by omega) q3
def Lo (d:Array Int) (a p b:Nat):Prop:=∀i j,a<=i->i<p->p<=j->j<b->gt d i<gt d j
def Inc (d:Array Int) (a b:Nat):Prop:=∀i j,a<=i->i<j->j<b->gt d i<gt d j
theorem lL  {b:Nat} (h:Sam d d' a b) (hb:b<=d.size) {P:Int->Prop} (hP:∀x,a<=x->x<b->P (gt d x)):∀x,a<=x->x<b->P (gt d' x):=by
 have hn:=h.n
 intro x q1 q2
 have hsp:∀l:List Int,l=l.take a++(((l.drop a).take (b - a))++l.drop b):=λl=>by
  conv=>lhs;rw[←af7 a l]
  congr 1
  conv=>lhs;rw[←af7 (b - a) (l.drop a)]
  rw[List.drop_drop,show a+(b - a)=b by omega]
 have e1:d'.toList.take a=d.toList.take a:=by
  apply List.ext_getElem
  ·simp;omega
  ·intro z h1 h2
   simp only[aa7,af2] at h1
   rw[List.getElem_take,List.getElem_take]
   exact h.o z (by omega) (by omega) (by omega)
 have e2:d'.toList.drop b=d.toList.drop b:=by
  apply List.ext_getElem
  ·simp;omega
  ·intro z h1 h2
   simp only[ac6,af2] at h1
   rw[List.getElem_drop,List.getElem_drop]
   exact h.o (b+z) (by omega) (by omega) (by omega)
 have hp:d'.toList.Perm d.toList:=by simpa [Array.perm_iff_toList_perm] using h.p
 rw[hsp d'.toList,hsp d.toList,e1,e2] at hp
 have hp:=(List.perm_append_right_iff _).1 ((List.perm_append_left_iff _).1 hp)
 have hx:x<d'.size:=by omega
 have hmem:gt d' x∈(d'.toList.drop a).take (b - a):=by
  rw[dc hx]
  refine List.mem_iff_getElem.2 ⟨x - a,by simp;omega, ?_⟩
  rw[List.getElem_take,List.getElem_drop]
  simp only[Array.getElem_toList]
  congr 1;omega
 obtain⟨y,hy,e⟩:=List.mem_iff_getElem.1 (hp.mem_iff.1 hmem)
 simp only[aa7,ac6,af2] at hy
 rw[List.getElem_take,List.getElem_drop,Array.getElem_toList] at e
 have:=hP (a+y) (by omega) (by omega)
 rw[dc (by omega),e] at this
 exact this
end
section
variable {k:Int->Int}
theorem zC  {m b:Nat} (h1:a<=m/\m<=b) (h:a=m∨m=b):Rot d d a m b:=by
 refine⟨Sam.refl _ _ _,λx q1 q2=>g9 d ?_,λx q1 q2=>g9 d ?_⟩<;>omega
structure Cut (k:Int->Int) (d:Array Int) (a m b mid start en:Nat):Prop where
 am:a<m/\m<b
 hm:mid=(a+b) / 2
 he:start+en=mid+m
 rng:(mid<m->mid+m<=start+b/\start<=mid)/\(m<=mid->a<=start/\start<=m)
 hl:(mid<m/\start+b=mid+m)∨(m<=mid/\start=a)∨k (gt d (start - 1))<=k (gt d en)
 hr:(mid<m/\start=mid)∨(m<=mid/\start=m)∨k (gt d (en - 1))<=k (gt d start)
theorem Cut.b  {m b:Nat} (h:Cut k d a m b mid start en):a<=start/\start<=mid/\start<=m/\m<=en/\mid<=en/\en<=b/\mid<b:=by
 have h1:=h.am;have h2:=h.hm;have h3:=h.he;have h4:=h.rng
 omega
structure Four (k:Int->Int) (d1:Array Int) (a start mid en b:Nat):Prop where
 s1:fK k d1 a start
 s2:fK k d1 start mid
 s3:fK k d1 mid en
 s4:fK k d1 en b
 le:∀i j,a<=i->i<mid->mid<=j->j<b->k (gt d1 i)<=k (gt d1 j)
theorem O7  {m b:Nat} (hb:b<=d.size) (hA:fK k d a m) (hB:fK k d m b) (h:Cut k d a m b mid start en) (hR:Rot d d1 start m en):Four k d1 a start mid en b:=by
 obtain⟨b1,b2,b3,b4,b5,b6,b7⟩:=h.b
 have he:=h.he
 have ham:=h.am
 have f1:∀x,x<start->gt d1 x=gt d x:=λx q=>hR.s.g (Or.inl q)
 have f2:∀x,start<=x->x<mid->gt d1 x=gt d (x+(m - start)):=λx q1 q2=>hR.l x q1 (by omega)
 have f3:∀x,mid<=x->x<en->gt d1 x=gt d (x - (en - m)):=λx q1 q2=>hR.r x (by omega) q2
 have f4:∀x,en<=x->gt d1 x=gt d x:=λx q=>hR.s.g (Or.inr q)
 have gA:∀{i j:Nat},a<=i->i<=j->j<m->k (gt d i)<=k (gt d j):=λq1 q2 q3=>hA.g (by omega) q1 q2 q3
 have gB:∀{i j:Nat},m<=i->i<=j->j<b->k (gt d i)<=k (gt d j):=λq1 q2 q3=>hB.g hb q1 q2 q3
 refine⟨rl λi j q1 q2 q3=> ?_,rl λi j q1 q2 q3=> ?_,rl λi j q1 q2 q3=> ?_,rl λi j q1 q2 q3=> ?_,λi j q1 q2 q3 q4=> ?_⟩
 ·rw[f1 i (by omega),f1 j (by omega)];exact gA q1 (by omega) (by omega)
 ·rw[f2 i q1 (by omega),f2 j (by omega) q3];exact gB (by omega) (by omega) (by omega)
 ·rw[f3 i q1 (by omega),f3 j (by omega) q3];exact gA (by omega) (by omega) (by omega)
 ·rw[f4 i q1,f4 j (by omega)];exact gB (by omega) (by omega) q3
 ·by_cases i1:i<start
  ·rw[f1 i i1]
   by_cases j1:j<en
   ·rw[f3 j q3 j1];exact gA q1 (by omega) (by omega)
   ·rw[f4 j (by omega)]
    rcases h.hl with w|w|w
    ·omega
    ·omega
    ·exact Int.le_trans (gA q1 (show i<=start - 1 by omega) (by omega)) (Int.le_trans w (gB (by omega) (by omega) q4))
  ·rw[f2 i (by omega) q2]
   by_cases j1:j<en
   ·rw[f3 j q3 j1]
    rcases h.hr with w|w|w
    ·omega
    ·omega
    ·exact Int.le_trans (gB (by omega) (show i+(m - start)<=en - 1 by omega) (by omega)) (Int.le_trans w (gA (by omega) (by omega) (by omega)))
   ·rw[f4 j (by omega)];exact gB (by omega) (by omega) q4
theorem UU  {m b:Nat} (hL:Lo d a m b) (h:Cut k d a m b mid start en) (hR:Rot d d1 start m en):Lo d1 a start mid/\Lo d1 mid en b:=by
 obtain⟨b1,b2,b3,b4,b5,b6,b7⟩:=h.b
 have he:=h.he
 have f1:∀x,x<start->gt d1 x=gt d x:=λx q=>hR.s.g (Or.inl q)
 have f2:∀x,start<=x->x<mid->gt d1 x=gt d (x+(m - start)):=λx q1 q2=>hR.l x q1 (by omega)
 have f3:∀x,mid<=x->x<en->gt d1 x=gt d (x - (en - m)):=λx q1 q2=>hR.r x (by omega) q2
 have f4:∀x,en<=x->gt d1 x=gt d x:=λx q=>hR.s.g (Or.inr q)
 refine⟨λi j q1 q2 q3 q4=> ?_,λi j q1 q2 q3 q4=> ?_⟩
 ·rw[f1 i q2,f2 j q3 q4];exact hL _ _ q1 (by omega) (by omega) (by omega)
 ·rw[f3 i q1 q2,f4 j q3];exact hL _ _ (by omega) (by omega) (by omega) q4
theorem NQ  {d2 d3:Array Int} {b:Nat} (hb:b<=d1.size) (hmb:a<=mid/\mid<=b) (h:Four k d1 a start mid en b) (h2:Sam d1 d2 a mid) (s2:fK k d2 a mid) (h3:Sam d2 d3 mid b) (s3:fK k d3 mid b):fK k d3 a b:=by
 have n2:=h2.n
 have n3:=h3.n
 refine Q1 hmb.2 (by omega) (h3.srt s2 (Or.inl (aa2 _))) s3 λi j q1 q2 q3 q4=> ?_
 rw[h3.g (Or.inl q2)]
 have key:∀i,a<=i->i<mid->∀j,mid<=j->j<b->k (gt d2 i)<=k (gt d2 j):=λi p1 p2=>lL (P:=λy=>∀j,mid<=j->j<b->k y<=k (gt d2 j)) h2 (by omega) (λx p3 p4 j p5 p6=>by rw[h2.g (Or.inr p5)];exact h.le x j p3 p4 p5 p6) i p1 p2
 exact lL (P:=λy=>k (gt d2 i)<=k y) h3 (by omega) (λx p3 p4=>key i q1 q2 x p3 p4) j q3 q4
theorem md  {m:Nat} (h1:fK k d a s) (h2:fK k d s m) (h:¬(a<s/\s<m)) (hb:a<=s/\s<=m):fK k d a m:=by
 by_cases e:s=a
 ·subst e;exact h2
 ·have:s=m:=by omega
  subst this;exact h1
end
structure Dat (B m:NH) (v:NV) (d:Array Int):Prop where
 o:aQ B m v 1 (d.toList.map λz=> [ii z])
 c:Chg [] B m
 n:d.size<=100000
theorem jU {f:Int->NV} {l:List Int} (h:aQ B m v 1 (l.map λz=> [f z])) (hn:n<l.length):∃id off c,fi 1 v (ii (n:Nat))= .val (.ptr id off)/\ids v= [id]/\¬ap B id/\m.get id=some (.cells true c)/\ap m id/\off+1<=c.length/\c[off]? =some (f l[n])/\
 ∀(y:Int) (M:NH),M=m.put id (.cells true (c.set off (f y)))->aQ B M v 1 ((l.set n y).map λz=> [f z])/\Chg [id] m M:=by
 obtain⟨id,off,c,a1,a2,a3,a4,a5,a6,a7,a8⟩:=h.at n (by simpa using hn)
 rw[aa4] at a7 a8
 refine⟨id,off,c,a1,a2,a3,a4,a5,a6,bm a7 0 (by omega),λy M hM=> ?_⟩
 have hM:M=hp [(.o id,.cells true (c.set off (f y)))] 0 m:=by rw[hM,←fy a5,aa]
 have hC:Chg [id] m M:=by rw[hM];exact (fA _ _ _).weak (by simp[bj])
 have ho:=a8 [(0,f y)] M (by simp) (by rw[hM];exact (aO a5).trans aC) (hC.old a5)
 have ho:aQ B M v 1 ((l.map λz=> [f z]).set n [f y]):=ho
 rw[←List.map_set (f:=λz=> [f z])] at ho
 exact⟨ho,hC⟩
section
variable {B m m':NH} {v fv:NV} {d:Array Int}
theorem Dat.swap (h:Dat B m v d) (hi:i<d.size) (hj:j<d.size):∃id off off' c,fi 1 v (ii (i:Nat))= .val (.ptr id off)/\fi 1 v (ii (j:Nat))= .val (.ptr id off')/\m.get id=some (.cells true c)/\c[off]? =some (ii d[i])/\c[off']? =some (ii d[j])/\(off+1<=c.length/\off'+1<=c.length)/\
 ∀M1,M1=m.put id (.cells true (c.set off (ii d[j])))->M1.get id=some (.cells true (c.set off (ii d[j])))/\∀M2,M2=M1.put id (.cells true ((c.set off (ii d[j])).set off' (ii d[i])))->Dat B M2 v (d.swap i j hi hj)/\Chg (ids v) m M2:=by
 obtain⟨id,off,c,a1,a2,a3,a4,a5,a6,a7,a8⟩:=jU (f:=λz=>ii z) h.o (n:=i) (by simpa using hi)
 obtain⟨id',off',c',b1,b2,b3,b4,b5,b6,b7,-⟩:=jU (f:=λz=>ii z) h.o (n:=j) (by simpa using hj)
 have e:id'=id:=by rw[a2] at b2;injection b2 with b2;exact b2.symm
 subst e
 rw[a4] at b4;cases b4
 refine⟨id',off,off',c,a1,b1,a4,a7,b7,⟨a6,b6⟩,λM1 hM1=> ?_⟩
 obtain⟨o1,C1⟩:=a8 d[j] M1 hM1
 have g1:M1.get id'=some (.cells true (c.set off (ii d[j]))):=by
  rw[hM1,show m.put id' (.cells true (c.set off (ii d[j])))=hp [(.o id',.cells true (c.set off (ii d[j])))] 0 m by rw[←fy a5,aa]]
  exact (aO a5).trans aC
 refine⟨g1,λM2 hM2=> ?_⟩
 obtain⟨id2,off2,c2,d1,d2,d3,d4,d5,d6,d7,d8⟩:=jU (f:=λz=>ii z) o1 (n:=j) (by simpa using hj)
 rw[b1] at d1;cases d1
 rw[g1] at d4;cases d4
 obtain⟨o2,C2⟩:=d8 d[i] M2 hM2
 have hid:∀x∈ [id'],x∈ids v:=λx hx=>by have hx:=one hx;subst hx;rw[a2];simp
 refine⟨⟨?_,(h.c.trans C1 λx hx hb=>adD hb (h.o.new x (hid x hx))).trans C2 λx hx hb=>adD hb (h.o.new x (hid x hx)),by simpa using h.n⟩,(C1.weak λx hx _=>hid x hx).trans C2 λx hx _=>hid x hx⟩
 have e:(d.swap i j hi hj).toList=(d.toList.set i d[j]).set j d[i]:=by simp[Array.toList_swap]
 rw[e]
 exact o2
theorem vT (h:Dat B m v d) (hxy:x+n<=y) (hy:y+n<=d.size):
 ∃m',rT 386 [v,ii (x:Nat),ii (y:Nat),ii (n:Nat),fv] m (.tup []) m'/\∃d',Dat B m' v d'/\Swr d d' x y n n/\Chg (ids v) m m':=by
 refine WF.ex1 λK' hK'=> ?_
 refine WF.of_wpG (λ_=>rfl) xt (L:= [(.f .e,fv),(.c .e,ii (n:Nat)),(.b .e,ii (y:Nat)),(.a .e,ii (x:Nat)),(.e,v)]) rfl ?_
 unfold LT
 have hn0:=h.n
 simp only[go_sem,seval,aa]
 refine W.loop (λf q=>∃T M t d1,q=⟨T, [],none,M⟩/\NT.get D4.e T=some v/\NT.get D4.e.a T=some (ii (x:Nat))/\NT.get D4.e.b T=some (ii (y:Nat))/\NT.get D4.e.c T=some (ii (n:Nat))/\NT.get D4.e.b.b T=some (ii (t:Nat))/\t+f=n/\Dat B M v d1/\Swr d d1 x y n t/\Chg (ids v) m M) ?_ n _ ⟨_,m,0,d,rfl,by simp only[go_sem,seval],by simp only[go_sem,seval],by simp only[go_sem,seval],by simp only[go_sem,seval],by simp only[go_sem,seval]<;>rfl,by omega,h,Ip d x y n,(Chg.refl m).weak (by simp)⟩
 rintro f q ⟨T,M,t,d1,rfl,t1,t2,t3,t4,t5,htf,hD,hS,hC⟩
 apply av
 unfold DZ
 change wp _ _ _ _ ⟨puts [] T, [],none,M⟩ _
 have hsz:=hS.s.n
 by_cases ht:t<n
 ·obtain⟨id,off,off',c,a1,b1,g1,c1,c2,⟨l1,l2⟩,hsw⟩:=hD.swap (i:=x+t) (j:=y+t) (by omega) (by omega)
  have ex:((x+t:Nat):Int)=(x:Int)+t:=by omega
  have ey:((y+t:Nat):Int)=(y:Int)+t:=by omega
  rw[ex] at a1
  rw[ey] at b1
  simp (disch:=omega) only[go_sem,seval,t1,t2,t3,t4,t5,a1,b1,g1,c1,c2]
  generalize hM1:M.put id _=M1
  obtain⟨g2,hsw2⟩:=hsw M1 hM1.symm
  have l3:off'+1<=(c.set off (ii d1[y+t])).length:=by rw[ac3];exact l2
  simp (disch:=first|assumption|omega) only[go_sem,seval,g2,t5]
  generalize hM2:M1.put id _=M2
  obtain⟨hD2,hC2⟩:=hsw2 M2 hM2.symm
  exact⟨f - 1,by omega,_,M2,t+1,_,by rfl,by simp only[go_sem,seval,t1],by simp only[go_sem,seval,t2],by simp only[go_sem,seval,t3],by simp only[go_sem,seval,t4],by simp only[go_sem,seval]<;>rfl,by omega,hD2,Mc hS hxy ht hy,hC.trans hC2 λi hi _=>hi⟩
 ·simp (disch:=omega) only[go_sem,seval,t4,t5]
  have e:t=n:=by omega
  subst e
  exact hK' _ ⟨d1,hD,hS,hC⟩
end
section
variable {B m m':NH} {v fv:NV} {d:Array Int}
theorem PB (h:Dat B m v d) {b:Nat} (hap:a<p) (hpb:p<b) (hb:b<=d.size) (hfv:aU 4 fv fv=true):
 ∃m',rT 383 [v,ii (a:Nat),ii (p:Nat),ii (b:Nat),fv] m (.tup []) m'/\∃d',Dat B m' v d'/\Rot d d' a p b/\Chg (ids v) m m':=by
 refine WF.ex1 λK' hK'=> ?_
 refine WF.of_wpG (λ_=>rfl) zQ (L:= [(.f .e,fv),(.c .e,ii (b:Nat)),(.b .e,ii (p:Nat)),(.a .e,ii (a:Nat)),(.e,v)]) rfl ?_
 unfold Pm
 have hn0:=h.n
 simp (disch:=omega) only[go_sem,seval,aa]
 refine W.loop (λf q=>∃T M i j d1,q=⟨T, [],none,M⟩/\NT.get D4.e T=some v/\NT.get D4.e.b T=some (ii (p:Nat))/\NT.get D4.e.f T=some fv/\NT.get D4.e.b.b T=some (ii (i:Nat))/\NT.get D4.e.b.c T=some (ii (j:Nat))/\i+j<=f/\1<=i/\1<=j/\a+i<=p/\p+j<=b/\Dat B M v d1/\d1.size=d.size/\Chg (ids v) m M/\∀d',Rot d1 d' (p - i) p (p+j)->Rot d d' a p b) ?_ (b - a) _ ⟨_,m,p - a,b - p,d,rfl,by simp only[go_sem,seval],by simp only[go_sem,seval],by simp only[go_sem,seval],by simp only[go_sem,seval];rw[show ((p - a:Nat):Int)=(p:Int) - a by omega],by simp only[go_sem,seval];rw[show ((b - p:Nat):Int)=(b:Int) - p by omega],by omega,by omega,by omega,by omega,by omega,h,rfl,(Chg.refl m).weak (by simp),λd' q=>by rw[show p - (p - a)=a by omega,show p+(b - p)=b by omega] at q;exact q⟩
 rintro f q ⟨T,M,i,j,d1,rfl,t1,t2,t3,t4,t5,hf,hi,hj,hai,hbj,hD,hz,hC,hR⟩
 apply av
 unfold CQ
 change wp _ _ _ _ ⟨puts [] T, [],none,M⟩ _
 by_cases hij:i=j
 ·subst hij
  obtain⟨m2,r2,d2,hD2,hS2,hC2⟩:=vT (fv:=fv) hD (x:=p - i) (y:=p) (n:=i) (by omega) (by omega)
  rw[show ((p - i:Nat):Int)=(p:Int) - i by omega] at r2
  simp (disch:=omega) only[go_sem,seval,t1,t2,t3,t4,t5,r2.wf']
  exact hK' _ ⟨d2,hD2,hR d2 (P5 (by omega) hS2),hC.trans hC2 λi hi _=>hi⟩
 ·have hne:(i:Int)≠(j:Int):=by omega
  by_cases hlt:j<i
  ·obtain⟨m2,r2,d2,hD2,hS2,hC2⟩:=vT (fv:=fv) hD (x:=p - i) (y:=p) (n:=j) (by omega) (by omega)
   rw[show ((p - i:Nat):Int)=(p:Int) - i by omega] at r2
   simp (disch:=omega) only[go_sem,seval,t1,t2,t3,t4,t5,r2.wf']
   exact⟨f - j,by omega,_,m2,i - j,j,d2,by rfl,by simp only[go_sem,seval,t1],by simp only[go_sem,seval,t2],by simp only[go_sem,seval,t3],by simp only[go_sem,seval];rw[show ((i - j:Nat):Int)=(i:Int) - j by omega],by simp only[go_sem,seval,t5],by omega,by omega,hj,by omega,hbj,hD2,by rw[hS2.s.n,hz],hC.trans hC2 λi hi _=>hi,λd' q=>hR d' (O6 (by omega) hlt hS2 (by rw[show p - (i - j)=p - i+j by omega] at q;exact q))⟩
  ·obtain⟨m2,r2,d2,hD2,hS2,hC2⟩:=vT (fv:=fv) hD (x:=p - i) (y:=p+j - i) (n:=i) (by omega) (by omega)
   rw[show ((p - i:Nat):Int)=(p:Int) - i by omega,show ((p+j - i:Nat):Int)=(p:Int)+j - i by omega] at r2
   simp (disch:=omega) only[go_sem,seval,t1,t2,t3,t4,t5,r2.wf']
   exact⟨f - i,by omega,_,m2,i,j - i,d2,by rfl,by simp only[go_sem,seval,t1],by simp only[go_sem,seval,t2],by simp only[go_sem,seval,t3],by simp only[go_sem,seval,t4],by simp only[go_sem,seval];rw[show ((j - i:Nat):Int)=(j:Int) - i by omega],by omega,hi,by omega,hai,by omega,hD2,by rw[hS2.s.n,hz],hC.trans hC2 λi hi _=>hi,λd' q=>hR d' (OX (by omega) (by omega) hS2 (by rw[show p+(j - i)=p+j - i by omega] at q;exact q))⟩
def nY (B:NH) (g:Nat) (cap:NV) (key:Int->Int) (V:Int->Prop):Prop:=∀m,Chg [] B m->∀x y,V x->V y->y<x->∃z,rT g [ii x,ii y,cap] m (ii z) m/\(z<0↔key x<key y)
def qy (V:Int->Prop) (d:Array Int):Prop:=∀i (h:i<d.size),V d[i]
theorem qy.sam {V:Int->Prop} {b:Nat} (h:qy V d) (hs:Sam d d' a b):qy V d':=λi hi=>by
 have hm:d'[i]∈d':=Array.getElem_mem hi
 obtain⟨j,hj,e⟩:=Array.mem_iff_getElem.1 (hs.p.mem_iff.1 hm)
 rw[←e];exact h j hj
theorem Dat.at (h:Dat B m v d) (hi:i<d.size):∃id off c,fi 1 v (ii (i:Nat))= .val (.ptr id off)/\m.get id=some (.cells true c)/\c[off]? =some (ii d[i]):=by
 obtain⟨id,off,c,a1,a2,a3,a4,a5,a6,a7,-⟩:=jU (f:=λz=>ii z) h.o (n:=i) (by simpa using hi)
 exact⟨id,off,c,a1,a4,a7⟩
section
variable {g:Nat} {cap:NV} {key:Int->Int} {V:Int->Prop}
theorem P9 (hc:nY B g cap key V) (hcap:aU 4 (.fn g [cap]) (.fn g [cap])=true) (h:Dat B m v d) (hV:qy V d) {b:Nat} (hab:a<=b) (hb:b<=d.size) (hI:Inc d a b):
 ∃m',rT 374 [v,ii (a:Nat),ii (b:Nat),.fn g [cap]] m (.tup []) m'/\∃d',Dat B m' v d'/\Sam d d' a b/\fK key d' a b/\Chg (ids v) m m':=by
 refine WF.ex1 λK' hK'=> ?_
 refine WF.of_wpG (λ_=>rfl) yd (L:= [(.c .e,.fn g [cap]),(.b .e,ii (b:Nat)),(.a .e,ii (a:Nat)),(.e,v)]) rfl ?_
 unfold Os
 have hn0:=h.n
 simp (disch:=omega) only[go_sem,seval,aa]
 refine W.loop (λf q=>∃T M i d1,q=⟨T, [],none,M⟩/\NT.get D4.e T=some v/\NT.get D4.e.a T=some (ii (a:Nat))/\NT.get D4.e.b T=some (ii (b:Nat))/\NT.get D4.e.c T=some (.fn g [cap])/\NT.get D4.e.a.f T=some (ii (i:Nat))/\a<i/\i+f=b+1/\Dat B M v d1/\Sam d d1 a (min i b)/\fK key d1 a i/\Chg (ids v) m M) ?_ (b - a) _ ⟨_,m,a+1,d,rfl,by simp only[go_sem,seval],by simp only[go_sem,seval],by simp only[go_sem,seval],by simp only[go_sem,seval],by simp only[go_sem,seval]<;>rfl,by omega,by omega,h,Sam.refl d a _,fK.one (by omega),(Chg.refl m).weak (by simp)⟩
 rintro f q ⟨T,M,i,d1,rfl,t1,t2,t3,t4,t5,hai,hif,hD,hS,hO,hC⟩
 apply av
 unfold DO
 change wp _ _ _ _ ⟨puts [] T, [],none,M⟩ _
 have hsz:=hS.n
 by_cases hi:i<b
 ·simp (disch:=omega) only[go_sem,seval,t3,t5]
  rw[show min i b=i by omega] at hS
  have hmx:∀x,a<=x->x<i+1->x≠i->gt d1 x<gt d1 i:=λx q1 q2 q3=>by
   rw[hS.g (x:=i) (Or.inr (aa2 _))]
   exact lL (P:=λy=>y<gt d i) hS (by omega) (λx p1 p2=>hI x i p1 p2 hi) x q1 (by omega)
  replace hS:=hS.wide (a':=a) (b':=i+1) (aa2 _) (by omega)
  refine W.loop (λf2 q=>∃T M j d2,q=⟨T, [],none,M⟩/\NT.get D4.e T=some v/\NT.get D4.e.a T=some (ii (a:Nat))/\NT.get D4.e.b T=some (ii (b:Nat))/\NT.get D4.e.c T=some (.fn g [cap])/\NT.get D4.e.a.f T=some (ii (i:Nat))/\NT.get D4.e.b.a T=some (ii (j:Nat))/\a<=j/\j<=i/\j=a+f2/\Dat B M v d2/\Sam d d2 a (i+1)/\Zu key d2 a j i/\(∀x,a<=x->x<i+1->x≠j->gt d2 x<gt d2 j)/\Chg (ids v) m M) ?_ (i - a) _ ⟨_,M,i,d1,rfl,by simp only[go_sem,seval,t1],by simp only[go_sem,seval,t2],by simp only[go_sem,seval,t3],by simp only[go_sem,seval,t4],by simp only[go_sem,seval,t5],by simp only[go_sem,seval],by omega,by omega,by omega,hD,hS,Jl hO,hmx,hC⟩
  clear hD hS hO hC hmx
  rintro f2 q ⟨T2,M2,j,d2,rfl,u1,u2,u3,u4,u5,u6,haj,hji,hjf,hD,hS,hO,hmx,hC⟩
  apply av
  unfold AP
  change wp _ _ _ _ ⟨puts [] T2, [],none,M2⟩ _
  have hsz2:=hS.n
  by_cases hja:a<j
  ·obtain⟨id,off,off',c,a1,b1,g1,c1,c2,⟨l1,l2⟩,hsw⟩:=hD.swap (i:=j) (j:=j - 1) (by omega) (by omega)
   have ey:((j - 1:Nat):Int)=(j:Int) - 1:=by omega
   rw[ey] at b1
   have hVd:=hV.sam hS
   have hlt:d2[j - 1]<d2[j]:=by have:=hmx (j - 1) (by omega) (by omega) (by omega);rwa [dc (by omega),dc (by omega)] at this
   obtain⟨z,rc,hz⟩:=hc M2 hD.c d2[j] d2[j - 1] (hVd _ _) (hVd _ _) hlt
   by_cases hk:key d2[j]<key d2[j - 1]
   ·have hz0:=hz.2 hk
    simp (disch:=omega) only[go_sem,seval,u1,u2,u4,u6,a1,b1,g1,c1,c2,rc.wf']
    generalize hM1:M2.put id _=M1'
    obtain⟨g2,hsw2⟩:=hsw M1' hM1.symm
    have l3:off'+1<=(c.set off (ii d2[j - 1])).length:=by rw[ac3];exact l2
    simp (disch:=first|assumption|omega) only[go_sem,seval,g2,u6]
    generalize hM2:M1'.put id _=M2'
    obtain⟨hD2,hC2⟩:=hsw2 M2' hM2.symm
    exact⟨f2 - 1,by omega,_,M2',j - 1,_,by rfl,by simp only[go_sem,seval,u1],by simp only[go_sem,seval,u2],by simp only[go_sem,seval,u3],by simp only[go_sem,seval,u4],by simp only[go_sem,seval,u5],by simp only[go_sem,seval];rw[show ((j - 1:Nat):Int)=(j:Int) - 1 by omega],by omega,by omega,by omega,hD2,hS.trans (Sam.swap _ _ (by omega) (by omega)),OY hO (by omega) hja hji hk,λx p1 p2 p3=>by
     rw[lB (by omega) (by omega),lB (by omega) (by omega)]
     rw[adE (show ¬j - 1=j by omega),adF rfl]
     by_cases e:x=j
     ·rw[adF e];exact hmx _ (by omega) (by omega) (by omega)
     ·rw[adE e,adE p3];exact hmx _ p1 p2 e,hC.trans hC2 λi hi _=>hi⟩
   ·have hz0:¬z<0:=λq=>hk (hz.1 q)
    simp (disch:=omega) only[go_sem,seval,u1,u2,u4,u5,u6,a1,b1,g1,c1,c2,rc.wf']
    exact⟨f - 1,by omega,_,M2,i+1,d2,by rfl,by simp only[go_sem,seval,u1],by simp only[go_sem,seval,u2],by simp only[go_sem,seval,u3],by simp only[go_sem,seval,u4],by simp only[go_sem,seval]<;>rfl,by omega,by omega,hD,by rw[show min (i+1) b=i+1 by omega];exact hS,G4 hO (by omega) (Or.inr ⟨hja,by omega⟩),hC⟩
  ·simp (disch:=omega) only[go_sem,seval,u2,u5,u6]
   exact⟨f - 1,by omega,_,M2,i+1,d2,by rfl,by simp only[go_sem,seval,u1],by simp only[go_sem,seval,u2],by simp only[go_sem,seval,u3],by simp only[go_sem,seval,u4],by simp only[go_sem,seval]<;>rfl,by omega,by omega,hD,by rw[show min (i+1) b=i+1 by omega];exact hS,G4 hO (by omega) (Or.inl (by omega)),hC⟩
 ·simp (disch:=omega) only[go_sem,seval,t3,t5]
  rw[show min i b=b by omega] at hS
  exact hK' _ ⟨d1,hD,hS,hO.sub (aa2 _) (by omega),hC⟩
end
end
theorem lK  (h:i+j<=1000000):yY .u64 (.int .i64 (.lit ((i:Int)+j)))= .val (.int .u64 (.lit ((i:Int)+j)))/\bH .num .shr (.int .u64 (.lit ((i:Int)+j))) (.int .u64 (.lit 1))=some (.int .u64 (.lit (((i+j) / 2:Nat):Int)))/\yY .i64 (.int .u64 (.lit (((i+j) / 2:Nat):Int)))= .val (.int .i64 (.lit (((i+j) / 2:Nat):Int))):=by
 refine⟨?_, ?_, ?_⟩
 ·rw[Fh,show ((i:Int)+j) % 18446744073709551616=(i:Int)+j by omega]
 ·rw[show ((i:Int)+j)=((i+j:Nat):Int) by omega]
  exact ul (a:=i+j) (n:=1) (by omega)
 ·show NR.val (.int .i64 (.lit (bM .i64 _)))=_
  rw[Nm.wrap_small (by omega) (by omega)]
section
variable {B m m':NH} {v:NV} {d:Array Int} {g:Nat} {cap:NV} {key:Int->Int} {V:Int->Prop}
def Ml (B m m':NH) (v:NV) (d:Array Int) (key:Int->Int) (a b:Nat):Prop:=∃d',Dat B m' v d'/\Sam d d' a b/\fK key d' a b/\Chg (ids v) m m'
theorem V4 (hc:nY B g cap key V) (hcap:aU 4 (.fn g [cap]) (.fn g [cap])=true) (h:Dat B m v d) (hV:qy V d) {b:Nat} (hab:a+1<b) (hb:b<=d.size) (hs:fK key d (a+1) b) (hLo:Lo d a (a+1) b):
 ∃m',rT 375 [v,ii (a:Nat),ii ((a:Int)+1),ii (b:Nat),.fn g [cap]] m (.tup []) m'/\Ml B m m' v d key a b:=by
 refine WF.ex1 λK' hK'=> ?_
 refine WF.of_wpG (λ_=>rfl) lY (L:= [(.f .e,.fn g [cap]),(.c .e,ii (b:Nat)),(.b .e,ii ((a:Int)+1)),(.a .e,ii (a:Nat)),(.e,v)]) rfl ?_
 unfold y9
 have hn0:=h.n
 have ea:(a:Int)+1 - a=1:=by omega
 simp only[go_sem,seval,aa,ea]
 refine W.loop (λf q=>∃T i j,q=⟨T, [],none,m⟩/\NT.get D4.e T=some v/\NT.get D4.e.a T=some (ii (a:Nat))/\NT.get D4.e.f T=some (.fn g [cap])/\NT.get D4.e.b.b T=some (ii (i:Nat))/\NT.get D4.e.b.c T=some (ii (j:Nat))/\a+1<=i/\i<=j/\j<=b/\j=i+f/\(i=a+1∨X0 key d (i - 1) (·<key (gt d a)))/\(j=b∨X0 key d j (key (gt d a)<=·))) ?_ (b - (a+1)) _ ⟨_,a+1,b,rfl,by simp only[go_sem,seval],by simp only[go_sem,seval],by simp only[go_sem,seval],by simp only[go_sem,seval]<;>rfl,by simp only[go_sem,seval],by omega,by omega,by omega,by omega,Or.inl rfl,Or.inl rfl⟩
 rintro f q ⟨T,i,j,rfl,t1,t2,t3,t4,t5,hi,hij,hj,hf,hL,hR⟩
 apply av
 unfold DH
 change wp _ _ _ _ ⟨puts [] T, [],none,m⟩ _
 by_cases hlt:i<j
 ·obtain⟨e1,e2,e3⟩:=lK (i:=i) (j:=j) (by omega)
  have hh:i<=(i+j) / 2/\(i+j) / 2<j:=by omega
  generalize (i+j) / 2=q at *
  obtain⟨id,off,c,a1,g1,c1⟩:=h.at (i:=q) (by omega)
  obtain⟨id',off',c',b1,g2,c2⟩:=h.at (i:=a) (by omega)
  have ga:gt d a=d[a]:=dc (by omega)
  obtain⟨z,rc,hz⟩:=hc m h.c d[q] d[a] (hV _ _) (hV _ _) (by have:=hLo a q (by omega) (by omega) (by omega) (by omega);rwa [ga,dc (by omega)] at this)
  by_cases hk:key d[q]<key d[a]
  ·have hz0:=hz.2 hk
   simp (disch:=omega) only[go_sem,seval,t1,t2,t3,t4,t5,e1,e2,e3,a1,b1,g1,g2,c1,c2,rc.wf']
   exact⟨j - (q+1),by omega,_,q+1,j,by rfl,by simp only[go_sem,seval,t1],by simp only[go_sem,seval,t2],by simp only[go_sem,seval,t3],by simp only[go_sem,seval]<;>rfl,by simp only[go_sem,seval,t5],by omega,by omega,hj,by omega,Or.inr ⟨by omega,by rw[ga];exact hk⟩,hR⟩
  ·have hz0:¬z<0:=λq=>hk (hz.1 q)
   simp (disch:=omega) only[go_sem,seval,t1,t2,t3,t4,t5,e1,e2,e3,a1,b1,g1,g2,c1,c2,rc.wf']
   exact⟨q - i,by omega,_,i,q,by rfl,by simp only[go_sem,seval,t1],by simp only[go_sem,seval,t2],by simp only[go_sem,seval,t3],by simp only[go_sem,seval,t4],by simp only[go_sem,seval],hi,by omega,by omega,by omega,hL,Or.inr ⟨by omega,by rw[ga];omega⟩⟩
 ·have hji:j=i:=by omega
  subst hji
  simp (disch:=omega) only[go_sem,seval,t2,t4,t5]
  refine W.loop (λf q=>∃T M k d1,q=⟨T, [],none,M⟩/\NT.get D4.e T=some v/\NT.get D4.e.b.b T=some (ii (j:Nat))/\NT.get D4.e.c.a T=some (ii (k:Nat))/\a<=k/\k+f=j - 1/\Dat B M v d1/\Up key d d1 a k b/\Chg (ids v) m M) ?_ (j - 1 - a) _ ⟨_,m,a,d,rfl,by simp only[go_sem,seval,t1],by simp only[go_sem,seval,t4],by simp only[go_sem,seval],by omega,by omega,h,MQ,(Chg.refl m).weak (by simp)⟩
  rintro f2 q ⟨T2,M2,k,d1,rfl,u1,u2,u3,hak,hkf,hD,hU,hC⟩
  apply av
  unfold Cj
  change wp _ _ _ _ ⟨puts [] T2, [],none,M2⟩ _
  have hsz2:=hU.s.n
  by_cases hk:k<j - 1
  ·obtain⟨id,off,off',c,a1,b1,g1,c1,c2,⟨l1,l2⟩,hsw⟩:=hD.swap (i:=k) (j:=k+1) (by omega) (by omega)
   have ey:((k+1:Nat):Int)=(k:Int)+1:=by omega
   rw[ey] at b1
   simp (disch:=omega) only[go_sem,seval,u1,u2,u3,a1,b1,g1,c1,c2]
   generalize hM1:M2.put id _=M1'
   obtain⟨g2,hsw2⟩:=hsw M1' hM1.symm
   have l3:off'+1<=(c.set off (ii d1[k+1])).length:=by rw[ac3];exact l2
   simp (disch:=first|assumption|omega) only[go_sem,seval,g2,u3]
   generalize hM2:M1'.put id _=M2'
   obtain⟨hD2,hC2⟩:=hsw2 M2' hM2.symm
   exact⟨f2 - 1,by omega,_,M2',k+1,_,by rfl,by simp only[go_sem,seval,u1],by simp only[go_sem,seval,u2],by simp only[go_sem,seval]<;>rfl,by omega,by omega,hD2,QL hU hak (by omega) (by omega),hC.trans hC2 λi hi _=>hi⟩
  ·have e:k=j - 1:=by omega
   subst e
   simp (disch:=omega) only[go_sem,seval,u2,u3]
   refine hK' _ ⟨d1,hD,hU.s,Wz hb hU hs ⟨by omega,by omega⟩ (hL.imp id λ⟨q1,q2⟩=>⟨q1,by omega, ?_⟩) (hR.imp id λ⟨q1,q2⟩=>⟨q1,by omega, ?_⟩),hC⟩
   ·rw[dc (by omega)] at q2;exact q2
   ·rw[dc (by omega)] at q2;exact q2
theorem Wx (hc:nY B g cap key V) (hcap:aU 4 (.fn g [cap]) (.fn g [cap])=true) (h:Dat B m v d) (hV:qy V d) (hap:a+1<p) (hb:p+1<=d.size) (hs:fK key d a p) (hLo:Lo d a p (p+1)):
 ∃m',rT 375 [v,ii (a:Nat),ii (p:Nat),ii ((p:Int)+1),.fn g [cap]] m (.tup []) m'/\Ml B m m' v d key a (p+1):=by
 refine WF.ex1 λK' hK'=> ?_
 refine WF.of_wpG (λ_=>rfl) lY (L:= [(.f .e,.fn g [cap]),(.c .e,ii ((p:Int)+1)),(.b .e,ii (p:Nat)),(.a .e,ii (a:Nat)),(.e,v)]) rfl ?_
 unfold y9
 have hn0:=h.n
 have ea:(p:Int)+1 - p=1:=by omega
 have eb:¬(p:Int) - a=1:=by omega
 simp (disch:=omega) only[go_sem,seval,aa,ea,eb]
 refine W.loop (λf q=>∃T i j,q=⟨T, [],none,m⟩/\NT.get D4.e T=some v/\NT.get D4.e.b T=some (ii (p:Nat))/\NT.get D4.e.f T=some (.fn g [cap])/\NT.get D4.e.c.b T=some (ii (i:Nat))/\NT.get D4.e.c.c T=some (ii (j:Nat))/\a<=i/\i<=j/\j<=p/\j=i+f/\(i=a∨X0 key d (i - 1) (·<=key (gt d p)))/\(j=p∨X0 key d j (key (gt d p)<·))) ?_ (p - a) _ ⟨_,a,p,rfl,by simp only[go_sem,seval],by simp only[go_sem,seval],by simp only[go_sem,seval],by simp only[go_sem,seval]<;>rfl,by simp only[go_sem,seval],by omega,by omega,by omega,by omega,Or.inl rfl,Or.inl rfl⟩
 rintro f q ⟨T,i,j,rfl,t1,t2,t3,t4,t5,hi,hij,hj,hf,hL,hR⟩
 apply av
 unfold xJ
 change wp _ _ _ _ ⟨puts [] T, [],none,m⟩ _
 by_cases hlt:i<j
 ·obtain⟨e1,e2,e3⟩:=lK (i:=i) (j:=j) (by omega)
  have hh:i<=(i+j) / 2/\(i+j) / 2<j:=by omega
  generalize (i+j) / 2=q at *
  obtain⟨id,off,c,a1,g1,c1⟩:=h.at (i:=p) (by omega)
  obtain⟨id',off',c',b1,g2,c2⟩:=h.at (i:=q) (by omega)
  have ga:gt d p=d[p]:=dc (by omega)
  obtain⟨z,rc,hz⟩:=hc m h.c d[p] d[q] (hV _ _) (hV _ _) (by have:=hLo q p (by omega) (by omega) (by omega) (by omega);rwa [ga,dc (by omega)] at this)
  by_cases hk:key d[p]<key d[q]
  ·have hz0:=hz.2 hk
   simp (disch:=omega) only[go_sem,seval,t1,t2,t3,t4,t5,e1,e2,e3,a1,b1,g1,g2,c1,c2,rc.wf']
   exact⟨q - i,by omega,_,i,q,by rfl,by simp only[go_sem,seval,t1],by simp only[go_sem,seval,t2],by simp only[go_sem,seval,t3],by simp only[go_sem,seval,t4],by simp only[go_sem,seval],hi,by omega,by omega,by omega,hL,Or.inr ⟨by omega,by rw[ga];exact hk⟩⟩
  ·have hz0:¬z<0:=λq=>hk (hz.1 q)
   simp (disch:=omega) only[go_sem,seval,t1,t2,t3,t4,t5,e1,e2,e3,a1,b1,g1,g2,c1,c2,rc.wf']
   exact⟨j - (q+1),by omega,_,q+1,j,by rfl,by simp only[go_sem,seval,t1],by simp only[go_sem,seval,t2],by simp only[go_sem,seval,t3],by simp only[go_sem,seval]<;>rfl,by simp only[go_sem,seval,t5],by omega,by omega,hj,by omega,Or.inr ⟨by omega,by rw[ga];show key d[q]<=_;omega⟩,hR⟩
 ·have hji:j=i:=by omega
  subst hji
  simp (disch:=omega) only[go_sem,seval,t2,t4,t5]
  refine W.loop (λf q=>∃T M k d1,q=⟨T, [],none,M⟩/\NT.get D4.e T=some v/\NT.get D4.e.c.b T=some (ii (j:Nat))/\NT.get D4.e.f.a T=some (ii (k:Nat))/\k<=p/\k=j+f/\Dat B M v d1/\Dn key d d1 a k (p+1)/\Chg (ids v) m M) ?_ (p - j) _ ⟨_,m,p,d,rfl,by simp only[go_sem,seval,t1],by simp only[go_sem,seval,t4],by simp only[go_sem,seval],by omega,by omega,h,O2 (b:=p+1),(Chg.refl m).weak (by simp)⟩
  rintro f2 q ⟨T2,M2,k,d1,rfl,u1,u2,u3,hak,hkf,hD,hU,hC⟩
  apply av
  unfold zr
  change wp _ _ _ _ ⟨puts [] T2, [],none,M2⟩ _
  have hsz2:=hU.s.n
  by_cases hk:j<k
  ·obtain⟨id,off,off',c,a1,b1,g1,c1,c2,⟨l1,l2⟩,hsw⟩:=hD.swap (i:=k) (j:=k - 1) (by omega) (by omega)
   have ey:((k - 1:Nat):Int)=(k:Int) - 1:=by omega
   rw[ey] at b1
   simp (disch:=omega) only[go_sem,seval,u1,u2,u3,a1,b1,g1,c1,c2]
   generalize hM1:M2.put id _=M1'
   obtain⟨g2,hsw2⟩:=hsw M1' hM1.symm
   have l3:off'+1<=(c.set off (ii d1[k - 1])).length:=by rw[ac3];exact l2
   simp (disch:=first|assumption|omega) only[go_sem,seval,g2,u3]
   generalize hM2:M1'.put id _=M2'
   obtain⟨hD2,hC2⟩:=hsw2 M2' hM2.symm
   exact⟨f2 - 1,by omega,_,M2',k - 1,_,by rfl,by simp only[go_sem,seval,u1],by simp only[go_sem,seval,u2],by simp only[go_sem,seval];rw[show ((k - 1:Nat):Int)=(k:Int) - 1 by omega],by omega,by omega,hD2,Sa hU (by omega) (by omega) (by omega),hC.trans hC2 λi hi _=>hi⟩
  ·have e:k=j:=by omega
   subst e
   simp (disch:=omega) only[go_sem,seval,u2,u3]
   exact hK' _ ⟨d1,hD,hU.s,UY (v:=key (gt d p)) (by omega) hU hs ⟨by omega,by omega,by omega⟩ (λq=>by rw[dc (by omega)];rfl) hL hR,hC⟩
end
section
variable {B m m':NH} {v:NV} {d:Array Int} {g:Nat} {cap:NV} {key:Int->Int} {V:Int->Prop}
theorem Mm (hc:nY B g cap key V) (hcap:aU 4 (.fn g [cap]) (.fn g [cap])=true) (h:Dat B m v d) (hV:qy V d) {b lo r0:Nat} (hm:mid=(a+b) / 2) (hap:a<p) (hpb:p<b) (hb:b<=d.size) (hLo:Lo d a p b) (hlr:(mid<p/\lo+b=mid+p/\r0=mid)∨(p<=mid/\lo=a/\r0=p)) {T:Tm}
 (t0:NT.get D4.e T=some v) (t1:NT.get D4.e.f T=some (.fn g [cap])) (t2:NT.get D4.e.a.a.b T=some (ii ((mid:Int)+p - 1))) (t3:NT.get D4.e.f.f T=some (ii (lo:Nat))) (t4:NT.get D4.e.a.a.a T=some (ii (r0:Nat))) (t5:NT.get D4.e.a T=some (ii (a:Nat))) (t6:NT.get D4.e.b T=some (ii (p:Nat))) (t7:NT.get D4.e.c T=some (ii (b:Nat))) (t8:NT.get D4.e.f.b T=some (ii (mid:Nat))) (t9:NT.get D4.e.f.c T=some (ii ((mid:Int)+p)))
 (hQ:∀T start en,NT.get D4.e T=some v->NT.get D4.e.f T=some (.fn g [cap])->NT.get D4.e.f.f T=some (ii (start:Nat))->NT.get D4.e.a T=some (ii (a:Nat))->NT.get D4.e.b T=some (ii (p:Nat))->NT.get D4.e.c T=some (ii (b:Nat))->NT.get D4.e.f.b T=some (ii (mid:Nat))->NT.get D4.e.f.c T=some (ii ((mid:Int)+p))->Cut key d a p b mid start en->Q (.exit 8) ⟨puts [] T, [],none,m⟩):
 W af8 S0 none (qM.loop) ⟨T, [],none,m⟩ Q:=by
 have hn0:=h.n
 refine W.loop (λf q=>∃T s r,q=⟨T, [],none,m⟩/\NT.get D4.e T=some v/\NT.get D4.e.f T=some (.fn g [cap])/\NT.get D4.e.a.a.b T=some (ii ((mid:Int)+p - 1))/\NT.get D4.e.f.f T=some (ii (s:Nat))/\NT.get D4.e.a.a.a T=some (ii (r:Nat))/\NT.get D4.e.a T=some (ii (a:Nat))/\NT.get D4.e.b T=some (ii (p:Nat))/\NT.get D4.e.c T=some (ii (b:Nat))/\NT.get D4.e.f.b T=some (ii (mid:Nat))/\NT.get D4.e.f.c T=some (ii ((mid:Int)+p))/\lo<=s/\s<=r/\r<=r0/\r=s+f/\(s=lo∨key (gt d (s - 1))<=key (gt d (mid+p - s)))/\(r=r0∨key (gt d (mid+p - 1 - r))<=key (gt d r))) ?_ (r0 - lo) _ ⟨T,lo,r0,rfl,t0,t1,t2,t3,t4,t5,t6,t7,t8,t9,by omega,by omega,by omega,by omega,Or.inl rfl,Or.inl rfl⟩
 clear t0 t1 t2 t3 t4 t5 t6 t7 t8 t9
 rintro f q ⟨T,s,r,rfl,t0,t1,t2,t3,t4,t5,t6,t7,t8,t9,hs,hsr,hr,hf,hL,hR⟩
 apply av
 unfold qM
 change wp _ _ _ _ ⟨puts [] T, [],none,m⟩ _
 by_cases hlt:s<r
 ·obtain⟨e1,e2,e3⟩:=lK (i:=s) (j:=r) (by omega)
  have hh:s<=(s+r) / 2/\(s+r) / 2<r:=by omega
  generalize (s+r) / 2=c at *
  have hpc:mid+p - 1 - c<d.size:=by omega
  obtain⟨id,off,cc,a1,g1,c1⟩:=h.at hpc
  obtain⟨id',off',cc',b1,g2,c2⟩:=h.at (i:=c) (by omega)
  rw[show ((mid+p - 1 - c:Nat):Int)=(mid:Int)+p - 1 - c by omega] at a1
  have hcd:c<d.size:=by omega
  have ga:gt d (mid+p - 1 - c)=d[mid+p - 1 - c]:=dc hpc
  have gb:gt d c=d[c]:=dc hcd
  obtain⟨z,rc,hz⟩:=hc m h.c d[mid+p - 1 - c] d[c] (hV _ _) (hV _ _) (by have:=hLo c (mid+p - 1 - c) (by omega) (by omega) (by omega) (by omega);rwa [ga,gb] at this)
  generalize d[mid+p - 1 - c]=x at *
  generalize d[c]=y at *
  by_cases hk:key x<key y
  ·have hz0:=hz.2 hk
   simp (disch:=omega) only[go_sem,seval,t0,t1,t2,t3,t4,e1,e2,e3,a1,b1,g1,g2,c1,c2,rc.wf']
   exact⟨c - s,by omega,_,s,c,by rfl,by simp only[go_sem,seval,t0],by simp only[go_sem,seval,t1],by simp only[go_sem,seval,t2],by simp only[go_sem,seval,t3],by simp only[go_sem,seval],by simp only[go_sem,seval,t5],by simp only[go_sem,seval,t6],by simp only[go_sem,seval,t7],by simp only[go_sem,seval,t8],by simp only[go_sem,seval,t9],hs,by omega,by omega,by omega,hL,Or.inr (by rw[ga,gb];omega)⟩
  ·have hz0:¬z<0:=λq=>hk (hz.1 q)
   simp (disch:=omega) only[go_sem,seval,t0,t1,t2,t3,t4,e1,e2,e3,a1,b1,g1,g2,c1,c2,rc.wf']
   refine⟨r - (c+1),by omega,_,c+1,r,by rfl,by simp only[go_sem,seval,t0],by simp only[go_sem,seval,t1],by simp only[go_sem,seval,t2],by simp only[go_sem,seval]<;>rfl,by simp only[go_sem,seval,t4],by simp only[go_sem,seval,t5],by simp only[go_sem,seval,t6],by simp only[go_sem,seval,t7],by simp only[go_sem,seval,t8],by simp only[go_sem,seval,t9],by omega,by omega,by omega,by omega,Or.inr ?_,hR⟩
   rw[show mid+p - (c+1)=mid+p - 1 - c by omega,show c+1 - 1=c by omega,ga,gb];omega
 ·have e:r=s:=by omega
  subst e
  simp (disch:=omega) only[go_sem,seval,t3,t4]
  refine hQ _ r (mid+p - r) (by simp only[go_sem,seval,t0]) (by simp only[go_sem,seval,t1]) (by simp only[go_sem,seval,t3]) (by simp only[go_sem,seval,t5]) (by simp only[go_sem,seval,t6]) (by simp only[go_sem,seval,t7]) (by simp only[go_sem,seval,t8]) (by simp only[go_sem,seval,t9]) ⟨⟨hap,hpb⟩,hm,by omega,⟨λq=>by omega,λq=>by omega⟩, ?_, ?_⟩
  ·rcases hL with q|q
   ·rcases hlr with w|w
    ·exact Or.inl ⟨w.1,by omega⟩
    ·exact Or.inr (Or.inl ⟨w.1,by omega⟩)
   ·exact Or.inr (Or.inr q)
  ·rcases hR with q|q
   ·rcases hlr with w|w
    ·exact Or.inl ⟨w.1,by omega⟩
    ·exact Or.inr (Or.inl ⟨w.1,by omega⟩)
   ·rw[show mid+p - 1 - r=mid+p - r - 1 by omega] at q
    exact Or.inr (Or.inr q)
set_option maxHeartbeats 2000000 in
theorem Uw (hc:nY B g cap key V) (hcap:aU 4 (.fn g [cap]) (.fn g [cap])=true):∀(n:Nat) {m:NH} {d:Array Int} {a p b:Nat},b - a<=n->Dat B m v d->qy V d->a<p->p<b->b<=d.size->fK key d a p->fK key d p b->Lo d a p b->
 ∃m',rT 375 [v,ii (a:Nat),ii (p:Nat),ii (b:Nat),.fn g [cap]] m (.tup []) m'/\Ml B m m' v d key a b:=by
 intro n
 induction n with
 |zero=>intro m d a p b hn h hV hap hpb;omega
 |succ n ih=>
 intro m d a p b hn h hV hap hpb hb hA hB hLo
 by_cases h1:p=a+1
 ·subst h1
  have:=V4 hc hcap h hV (a:=a) (b:=b) (by omega) hb hB hLo
  rw[show ((a+1:Nat):Int)=(a:Int)+1 by omega]
  exact this
 by_cases h2:b=p+1
 ·subst h2
  have:=Wx hc hcap h hV (a:=a) (p:=p) (by omega) hb hA hLo
  rw[show ((p+1:Nat):Int)=(p:Int)+1 by omega]
  exact this
 refine WF.ex1 λK' hK'=> ?_
 refine WF.of_wpG (λ_=>rfl) lY (L:= [(.f .e,.fn g [cap]),(.c .e,ii (b:Nat)),(.b .e,ii (p:Nat)),(.a .e,ii (a:Nat)),(.e,v)]) rfl ?_
 unfold y9
 have hn0:=h.n
 have ea:¬(p:Int) - a=1:=by omega
 have eb:¬(b:Int) - p=1:=by omega
 obtain⟨q1,q2,q3⟩:=lK (i:=a) (j:=b) (by omega)
 obtain⟨mid,hmid⟩:∃mid,mid=(a+b) / 2:=⟨_,rfl⟩
 rw[←hmid] at q2 q3
 have hmb:a<mid/\mid<b:=by omega
 obtain⟨z0,hz0⟩:∃z0,rT g [ii (gt d p),ii (gt d a),cap] m (ii z0) m:=by
  have q:=hLo a p (aa2 _) hap (aa2 _) hpb
  rw[dc (show a<d.size by omega),dc (show p<d.size by omega)] at q ⊢
  obtain⟨z,rc,-⟩:=hc m h.c _ _ (hV _ _) (hV _ _) q
  exact⟨z,rc⟩
 have hend:∀T start en,NT.get D4.e T=some v->NT.get D4.e.f T=some (.fn g [cap])->NT.get D4.e.f.f T=some (ii (start:Nat))->NT.get D4.e.a T=some (ii (a:Nat))->NT.get D4.e.b T=some (ii (p:Nat))->NT.get D4.e.c T=some (ii (b:Nat))->NT.get D4.e.f.b T=some (ii (mid:Nat))->NT.get D4.e.f.c T=some (ii ((mid:Int)+p))->Cut key d a p b mid start en->∃M3 d3,Dat B M3 v d3/\Sam d d3 a b/\fK key d3 a b/\Chg (ids v) m M3/\∃M1 M2,((start<p/\p<en/\rT 383 [v,ii (start:Nat),ii (p:Nat),ii (en:Nat),.fn g [cap]] m (.tup []) M1)∨(¬start<p/\rT g [ii (gt d p),ii (gt d a),cap] m (ii z0) m/\M1=m)∨(start<p/\¬p<en/\rT g [ii (gt d p),ii (gt d a),cap] m (ii z0) m/\M1=m))/\
  ((a<start/\start<mid/\rT 375 [v,ii (a:Nat),ii (start:Nat),ii (mid:Nat),.fn g [cap]] M1 (.tup []) M2)∨(¬a<start/\rT g [ii (gt d p),ii (gt d a),cap] m (ii z0) m/\M2=M1)∨(a<start/\¬start<mid/\rT g [ii (gt d p),ii (gt d a),cap] m (ii z0) m/\M2=M1))/\
  ((mid<en/\en<b/\rT 375 [v,ii (mid:Nat),ii (en:Nat),ii (b:Nat),.fn g [cap]] M2 (.tup []) M3)∨(¬mid<en/\rT g [ii (gt d p),ii (gt d a),cap] m (ii z0) m/\M3=M2)∨(mid<en/\¬en<b/\rT g [ii (gt d p),ii (gt d a),cap] m (ii z0) m/\M3=M2)):=by
  intro T start en _ _ _ _ _ _ _ _ hcut
  obtain⟨b1,b2,b3,b4,b5,b6,b7⟩:=hcut.b
  obtain⟨M1,d1,hD1,hR1,hC1,hrot⟩:∃M1 d1,Dat B M1 v d1/\Rot d d1 start p en/\Chg (ids v) m M1/\((start<p/\p<en/\rT 383 [v,ii (start:Nat),ii (p:Nat),ii (en:Nat),.fn g [cap]] m (.tup []) M1)∨(¬start<p/\rT g [ii (gt d p),ii (gt d a),cap] m (ii z0) m/\M1=m)∨(start<p/\¬p<en/\rT g [ii (gt d p),ii (gt d a),cap] m (ii z0) m/\M1=m)):=by
   by_cases w1:start<p
   ·by_cases w2:p<en
    ·obtain⟨M1,r1,d1,k1,k2,k3⟩:=PB (fv:= .fn g [cap]) h w1 w2 (by omega) hcap
     exact⟨M1,d1,k1,k2,k3,Or.inl ⟨w1,w2,r1⟩⟩
    ·exact⟨m,d,h,zC ⟨by omega,by omega⟩ (by omega),(Chg.refl m).weak (by simp),Or.inr (Or.inr ⟨w1,w2,hz0,rfl⟩)⟩
   ·exact⟨m,d,h,zC ⟨by omega,by omega⟩ (by omega),(Chg.refl m).weak (by simp),Or.inr (Or.inl ⟨w1,hz0,rfl⟩)⟩
  have hF:=O7 hb hA hB hcut hR1
  obtain⟨hLo1,hLo2⟩:=UU hLo hcut hR1
  have n1:=hR1.s.n
  have hS1:=hR1.s.wide (a':=a) (b':=b) (by omega) (by omega)
  obtain⟨M2,d2,hD2,hS2,hO2,hC2,hr2⟩:∃M2 d2,Dat B M2 v d2/\Sam d1 d2 a mid/\fK key d2 a mid/\Chg (ids v) M1 M2/\((a<start/\start<mid/\rT 375 [v,ii (a:Nat),ii (start:Nat),ii (mid:Nat),.fn g [cap]] M1 (.tup []) M2)∨(¬a<start/\rT g [ii (gt d p),ii (gt d a),cap] m (ii z0) m/\M2=M1)∨(a<start/\¬start<mid/\rT g [ii (gt d p),ii (gt d a),cap] m (ii z0) m/\M2=M1)):=by
   by_cases w1:a<start
   ·by_cases w2:start<mid
    ·obtain⟨M2,r2,d2,k1,k2,k3,k4⟩:=ih (a:=a) (p:=start) (b:=mid) (by omega) hD1 (hV.sam hS1) w1 w2 (by omega) hF.s1 hF.s2 hLo1
     exact⟨M2,d2,k1,k2,k3,k4,Or.inl ⟨w1,w2,r2⟩⟩
    ·exact⟨M1,d1,hD1,Sam.refl _ _ _,md hF.s1 hF.s2 (by omega) ⟨by omega,by omega⟩,(Chg.refl M1).weak (by simp),Or.inr (Or.inr ⟨w1,w2,hz0,rfl⟩)⟩
   ·exact⟨M1,d1,hD1,Sam.refl _ _ _,md hF.s1 hF.s2 (by omega) ⟨by omega,by omega⟩,(Chg.refl M1).weak (by simp),Or.inr (Or.inl ⟨w1,hz0,rfl⟩)⟩
  have n2:=hS2.n
  have hS12:=hS1.trans (hS2.wide (a':=a) (b':=b) (by omega) (by omega))
  have f3:fK key d2 mid en:=hS2.srt hF.s3 (Or.inr (aa2 _))
  have f4:fK key d2 en b:=hS2.srt hF.s4 (Or.inr (by omega))
  obtain⟨M3,d3,hD3,hS3,hO3,hC3,hr3⟩:∃M3 d3,Dat B M3 v d3/\Sam d2 d3 mid b/\fK key d3 mid b/\Chg (ids v) M2 M3/\((mid<en/\en<b/\rT 375 [v,ii (mid:Nat),ii (en:Nat),ii (b:Nat),.fn g [cap]] M2 (.tup []) M3)∨(¬mid<en/\rT g [ii (gt d p),ii (gt d a),cap] m (ii z0) m/\M3=M2)∨(mid<en/\¬en<b/\rT g [ii (gt d p),ii (gt d a),cap] m (ii z0) m/\M3=M2)):=by
   by_cases w1:mid<en
   ·by_cases w2:en<b
    ·obtain⟨M3,r3,d3,k1,k2,k3,k4⟩:=ih (a:=mid) (p:=en) (b:=b) (by omega) hD2 (hV.sam hS12) w1 w2 (by omega) f3 f4 (λi j x1 x2 x3 x4=>by rw[hS2.g (Or.inr x1),hS2.g (Or.inr (by omega))];exact hLo2 i j x1 x2 x3 x4)
     exact⟨M3,d3,k1,k2,k3,k4,Or.inl ⟨w1,w2,r3⟩⟩
    ·exact⟨M2,d2,hD2,Sam.refl _ _ _,md f3 f4 (by omega) ⟨by omega,by omega⟩,(Chg.refl M2).weak (by simp),Or.inr (Or.inr ⟨w1,w2,hz0,rfl⟩)⟩
   ·exact⟨M2,d2,hD2,Sam.refl _ _ _,md f3 f4 (by omega) ⟨by omega,by omega⟩,(Chg.refl M2).weak (by simp),Or.inr (Or.inl ⟨w1,hz0,rfl⟩)⟩
  exact⟨M3,d3,hD3,hS12.trans (hS3.wide (by omega) (by omega)),NQ (by omega) ⟨by omega,by omega⟩ hF hS2 hO2 hS3 hO3,(hC1.trans hC2 λi hi _=>hi).trans hC3 λi hi _=>hi,M1,M2,hrot,hr2,hr3⟩
 obtain⟨lo,r0,hlr⟩:∃lo r0:Nat,(mid<p/\lo+b=mid+p/\r0=mid)∨(p<=mid/\lo=a/\r0=p):=by
  by_cases hm:mid<p
  ·exact⟨mid+p - b,mid,Or.inl ⟨hm,by omega,rfl⟩⟩
  ·exact⟨a,p,Or.inr ⟨by omega,rfl,rfl⟩⟩
 have hlr0:=hlr
 rcases hlr with⟨hm,e1,e2⟩|⟨hm,e1,e2⟩
 all_goals
  simp (disch:=omega) only[go_sem,seval,aa,ea,eb,q1,q2,q3]
  refine Mm (lo:=lo) (r0:=r0) hc hcap h hV hmid hap hpb hb hLo hlr0 (by simp only[go_sem,seval]) (by simp only[go_sem,seval]) (by simp only[go_sem,seval]) (by simp only[go_sem,seval];exact congrArg (λz:Int=>some (ii z)) (by omega)) (by simp only[go_sem,seval];exact congrArg (λz:Int=>some (ii z)) (by omega)) (by simp only[go_sem,seval]) (by simp only[go_sem,seval]) (by simp only[go_sem,seval]) (by simp only[go_sem,seval]) (by simp only[go_sem,seval]) ?_
  intro T start en t0 t1 t2 t3 t4 t5 t6 t7 hcut
  obtain⟨M3,d3,k1,k2,k3,k4,M1,M2,hr1,hr2,hr3⟩:=hend T start en t0 t1 t2 t3 t4 t5 t6 t7 hcut
  obtain⟨b1,b2,b3,b4,b5,b6,b7⟩:=hcut.b
  have hhe:=hcut.he
  have een:(mid:Int)+p - start=(en:Nat):=by omega
  have hfin:=hK' M3 ⟨d3,k1,k2,k3,k4⟩
  clear k1 k2 k3 k4 hend hK'
  rcases hr1 with⟨v1,v2,r1⟩|⟨v1,r1,rfl⟩|⟨v1,v2,r1,rfl⟩<;>rcases hr2 with⟨v3,v4,r2⟩|⟨v3,r2,rfl⟩|⟨v3,v4,r2,rfl⟩<;>rcases hr3 with⟨v5,v6,r3⟩|⟨v5,r3,rfl⟩|⟨v5,v6,r3,rfl⟩
  all_goals first
   |(exfalso;omega)
   |(simp (disch:=omega) only[go_sem,seval,t0,t1,t2,t3,t4,t5,t6,t7,een,r1.wf',r2.wf',r3.wf'];exact hfin)
end
section
variable {B m m':NH} {v:NV} {d:Array Int} {g:Nat} {cap:NV} {key:Int->Int} {V:Int->Prop}
def UJ (key:Int->Int) (d:Array Int) (s lo:Nat):Prop:=∀x,x % s=0->lo<=x->fK key d x (min (x+s) d.size)
def Yr (key:Int->Int) (d:Array Int) (s hi:Nat):Prop:=∀x,x % s=0->x<hi->fK key d x (x+s)
theorem Yr.sam  {hi b:Nat} (h:Yr key d s hi) (hs:Sam d d' hi b) (hq:∀x,x % s=0->x<hi->x+s<=hi):Yr key d' s hi:=λx q1 q2=>hs.srt (h x q1 q2) (Or.inl (hq x q1 q2))
theorem UJ.sam  {lo:Nat} (h:UJ key d s lo) (hs:Sam d d' a lo):UJ key d' s lo:=λx q1 q2=>by rw[hs.n];exact hs.srt (h x q1 q2) (Or.inr q2)
theorem Zm  (hs:1<=s) (ha:a % (2*s)=0):a % s=0/\(a+s) % s=0/\(a+2*s) % (2*s)=0/\(∀x,x % (2*s)=0->a<=x->x<a+2*s->x=a)/\(∀x,x % (2*s)=0->x<a->x+2*s<=a):=by
 obtain⟨q,rfl⟩:=Nat.dvd_of_mod_eq_zero ha
 have e1:(2*s*q) % s=0:=by rw[show 2*s*q=s*(2*q) by rw[Nat.mul_comm 2 s,Nat.mul_assoc]];exact Nat.mul_mod_right _ _
 have ht:0<2*s:=by omega
 refine⟨e1,by rw[Nat.add_mod_right];exact e1,by rw[Nat.add_mod_right];exact ha,λx hx q1 q2=> ?_,λx hx q1=> ?_⟩
 ·obtain⟨r,rfl⟩:=Nat.dvd_of_mod_eq_zero hx
  have h1:=Nat.le_of_mul_le_mul_left q1 ht
  have h2:r<q+1:=Nat.lt_of_mul_lt_mul_left (a:=2*s) (by rw[Nat.mul_add,Nat.mul_one];exact q2)
  rw[show r=q by omega]
 ·obtain⟨r,rfl⟩:=Nat.dvd_of_mod_eq_zero hx
  have h2:r<q:=Nat.lt_of_mul_lt_mul_left (a:=2*s) q1
  have:=Nat.mul_le_mul_left (2*s) (show r+1<=q by omega)
  rw[Nat.mul_add,Nat.mul_one] at this;exact this
theorem ut  {c:Nat} (h:Sam d d' x y) (hy:y<=d.size) (hc:c<=x∨y<=c) (hL:Lo d 0 c n) (hyn:y<=n):Lo d' 0 c n:=λi j q1 q2 q3 q4=>by
 rcases hc with w|w
 ·rw[h.g (Or.inl (by omega))]
  by_cases e:x<=j/\j<y
  ·exact lL (P:=λz=>gt d i<z) h hy (λk p1 p2=>hL i k q1 q2 (by omega) (by omega)) j e.1 e.2
  ·rw[h.g (by omega)];exact hL i j q1 q2 q3 q4
 ·rw[h.g (x:=j) (Or.inr (by omega))]
  by_cases e:x<=i/\i<y
  ·exact lL (P:=λz=>z<gt d j) h hy (λk p1 p2=>hL k j (by omega) (by omega) q3 q4) i e.1 e.2
  ·rw[h.g (by omega)];exact hL i j q1 q2 q3 q4
theorem Lo.sub  {c b:Nat} (h:Lo d a c b) (h1:a<=a') (h2:b'<=b):Lo d a' c b':=λi j q1 q2 q3 q4=>h i j (by omega) q2 q3 (by omega)
set_option maxHeartbeats 2000000 in
theorem VZ (hc:nY B g cap key V) (hcap:aU 4 (.fn g [cap]) (.fn g [cap])=true) (h:Dat B m v d) (hV:qy V d) (hI:Inc d 0 d.size) (hn:d.size<=1000000):
 ∃m',rT 358 [v,ii (d.size:Nat),.fn g [cap]] m (.tup []) m'/\Ml B m m' v d key 0 d.size:=by
 refine WF.ex1 λK' hK'=> ?_
 refine WF.of_wpG (λ_=>rfl) xz (L:= [(.b .e,.fn g [cap]),(.a .e,ii (d.size:Nat)),(.e,v)]) rfl ?_
 unfold NP
 obtain⟨n,hnd⟩:∃n,n=d.size:=⟨_,rfl⟩
 obtain⟨N0,hN0⟩:∃N0,N0=n / 20+1:=⟨_,rfl⟩
 rw[←hnd] at hI ⊢
 simp only[go_sem,seval,aa]
 refine W.loop (λf q=>∃T M a d1,q=⟨T, [],none,M⟩/\NT.get D4.e T=some v/\NT.get D4.e.a T=some (ii (n:Nat))/\NT.get D4.e.b T=some (.fn g [cap])/\NT.get D4.e.a.b T=some (ii 20)/\NT.get D4.e.a.c T=some (ii (a:Nat))/\NT.get D4.e.a.f T=some (ii ((a:Int)+20))/\a % 20=0/\a<=n/\a+20*f=20*N0/\Dat B M v d1/\Sam d d1 0 n/\Yr key d1 20 a/\Inc d1 a n/\(∀c,c % 20=0->Lo d1 0 c n)/\Chg (ids v) m M) ?_ N0 _ ⟨_,m,0,d,rfl,by simp only[go_sem,seval],by simp only[go_sem,seval],by simp only[go_sem,seval],by simp only[go_sem,seval],by simp only[go_sem,seval]<;>rfl,by simp only[go_sem,seval]<;>rfl,by omega,by omega,by omega,h,Sam.refl _ _ _,λx q1 q2=>by omega,hI,λc _ i j q1 q2 q3 q4=>hI i j q1 (by omega) q4,(Chg.refl m).weak (by simp)⟩
 rintro f q ⟨T,M,a,d1,rfl,t1,t2,t3,t4,t5,t6,ha,han,hf,hD,hS,hO,hJ,hL,hC⟩
 apply av
 unfold mj
 change wp _ _ _ _ ⟨puts [] T, [],none,M⟩ _
 have hsz:=hS.n
 by_cases hab:a+20<=n
 ·obtain⟨M2,r2,d2,hD2,hS2,hO2,hC2⟩:=P9 hc hcap hD (hV.sam hS) (a:=a) (b:=a+20) (by omega) (by omega) λi j q1 q2 q3=>hJ i j q1 q2 (by omega)
  rw[show ((a+20:Nat):Int)=(a:Int)+20 by omega] at r2
  simp (disch:=omega) only[go_sem,seval,t1,t2,t3,t4,t5,t6,r2.wf']
  refine⟨f - 1,by omega,_,M2,a+20,d2,by rfl,by simp only[go_sem,seval,t1],by simp only[go_sem,seval,t2],by simp only[go_sem,seval,t3],by simp only[go_sem,seval,t4],by simp only[go_sem,seval]<;>rfl,by simp only[go_sem,seval]<;>rfl,by omega,by omega,by omega,hD2,hS.trans (hS2.wide (by omega) (by omega)),λx q1 q2=> ?_,λi j q1 q2 q3=>by rw[hS2.g (Or.inr (by omega)),hS2.g (Or.inr (by omega))];exact hJ i j (by omega) q2 q3,λc q=>ut hS2 (by omega) (by omega) (hL c q) (by omega),hC.trans hC2 λi hi _=>hi⟩
  by_cases w:x<a
  ·exact hO.sam hS2 (λx q1 q2=>by omega) x q1 w
  ·have:x=a:=by omega
   subst this;exact hO2
 ·obtain⟨M2,r2,d2,hD2,hS2,hO2,hC2⟩:=P9 hc hcap hD (hV.sam hS) (a:=a) (b:=n) (by omega) (by omega) hJ
  have hL2:∀c,c % 20=0->Lo d2 0 c n:=λc q=>by
   by_cases w:c<n
   ·exact ut hS2 (by omega) (by omega) (hL c q) (aa2 _)
   ·exact λi j q1 q2 q3 q4=>by omega
  simp (disch:=omega) only[go_sem,seval,t1,t2,t3,t5,t6,r2.wf']
  have hB0:UJ key d2 20 0:=λx q1 q2=>by
   rw[show min (x+20) d2.size=min (x+20) n by rw[hS2.n,hsz,hnd]]
   by_cases w:x<a
   ·rw[show min (x+20) n=x+20 by omega];exact hO.sam hS2 (λx q1 q2=>by omega) x q1 w
   ·by_cases w2:x=a
    ·subst w2;rw[show min (x+20) n=n by omega];exact hO2
    ·exact fK.one (by omega)
  have hS02:=hS.trans (hS2.wide (a':=0) (b':=n) (by omega) (by omega))
  have hC02:=hC.trans hC2 λi hi _=>hi
  refine W.loop (λf q=>∃T M s d1,q=⟨T, [],none,M⟩/\NT.get D4.e T=some v/\NT.get D4.e.a T=some (ii (n:Nat))/\NT.get D4.e.b T=some (.fn g [cap])/\NT.get D4.e.a.b T=some (ii (s:Nat))/\20<=s/\s<=2*n+20/\f=n - s/\Dat B M v d1/\Sam d d1 0 n/\UJ key d1 s 0/\(∀c,c % s=0->Lo d1 0 c n)/\Chg (ids v) m M) ?_ (n - 20) _ ⟨_,M2,20,d2,rfl,by simp only[go_sem,seval,t1],by simp only[go_sem,seval,t2],by simp only[go_sem,seval,t3],by simp only[go_sem,seval,t4]<;>rfl,by omega,by omega,rfl,hD2,hS02,hB0,hL2,hC02⟩
  clear hD2 hS2 hO2 hC2 hB0 hS02 hC02 hL2 hD hS hO hC hJ hL t1 t2 t3 t4 t5 t6 r2
  rintro f q ⟨T,M,s,d1,rfl,t1,t2,t3,t4,hs,hs2,hfs,hD,hS,hB,hL,hC⟩
  apply av
  unfold zY
  change wp _ _ _ _ ⟨puts [] T, [],none,M⟩ _
  have hsz1:=hS.n
  by_cases hsn:s<n
  ·have hm1:bH .num .mul (ii 2) (ii (s:Nat))=some (ii ((2*s:Nat):Int)):=by rw[AS (by omega) (by omega)];rfl
   have hm2:bH .num .mul (ii (s:Nat)) (ii 2)=some (ii ((2*s:Nat):Int)):=by rw[AS (by omega) (by omega),Int.mul_comm];rfl
   simp (disch:=omega) only[go_sem,seval,t2,t4,hm1]
   refine W.loop (λf2 q=>∃T M a b d2,q=⟨T, [],none,M⟩/\NT.get D4.e T=some v/\NT.get D4.e.a T=some (ii (n:Nat))/\NT.get D4.e.b T=some (.fn g [cap])/\NT.get D4.e.a.b T=some (ii (s:Nat))/\NT.get D4.e.a.c T=some (ii (a:Nat))/\NT.get D4.e.a.f T=some (ii (b:Nat))/\b=a+2*s/\a % (2*s)=0/\a<=n/\a+f2=n/\Dat B M v d2/\Sam d d2 0 n/\Yr key d2 (2*s) a/\UJ key d2 s a/\(∀c,c % s=0->(a<=c∨c % (2*s)=0)->Lo d2 0 c n)/\Chg (ids v) m M) ?_ n _ ⟨_,M,0,2*s,d1,rfl,by simp only[go_sem,seval,t1],by simp only[go_sem,seval,t2],by simp only[go_sem,seval,t3],by simp only[go_sem,seval,t4],by simp only[go_sem,seval]<;>rfl,by simp only[go_sem,seval],by omega,Nat.zero_mod _,by omega,by omega,hD,hS,λx q1 q2=>by omega,hB,λc q _=>hL c q,hC⟩
   clear hD hS hB hL hC t1 t2 t3 t4
   rintro f2 q ⟨T,M,a,b,d2,rfl,t1,t2,t3,t4,t5,t6,hb,ha,han,hf2,hD,hS,hO,hB,hL,hC⟩
   apply av
   unfold qC
   change wp _ _ _ _ ⟨puts [] T, [],none,M⟩ _
   have hsz2:=hS.n
   have hsp:1<=s:=by omega
   obtain⟨k1,k2,k3,k4,k5⟩:=Zm hsp ha
   have hd2:∀x,x % (2*s)=0->x % s=0:=λx hx=>(Zm hsp hx).1
   by_cases hbn:b<=n
   ·have o1:=hB a k1 (aa2 _)
    have o2:=hB (a+s) k2 (by omega)
    rw[show min (a+s) d2.size=a+s by omega] at o1
    rw[show min (a+s+s) d2.size=b by omega] at o2
    obtain⟨M3,r3,d3,hD3,hS3,hO3,hC3⟩:=Uw hc hcap (b - a) (a:=a) (p:=a+s) (b:=b) (aa2 _) hD (hV.sam hS) (by omega) (by omega) (by omega) o1 o2 ((hL _ k2 (Or.inl (by omega))).sub (by omega) (by omega))
    rw[show ((a+s:Nat):Int)=(a:Int)+s by omega] at r3
    simp (disch:=omega) only[go_sem,seval,t1,t2,t3,t4,t5,t6,hm1,r3.wf']
    refine⟨f2 - 2*s,by omega,_,M3,b,b+2*s,d3,by rfl,by simp only[go_sem,seval,t1],by simp only[go_sem,seval,t2],by simp only[go_sem,seval,t3],by simp only[go_sem,seval,t4],by simp only[go_sem,seval],by simp only[go_sem,seval]<;>rfl,by omega,by rw[hb];exact k3,by omega,by omega,hD3,hS.trans (hS3.wide (by omega) (by omega)),λx q1 q2=> ?_,λx q1 q2=> ?_,λc q1 q2=> ?_,hC.trans hC3 λi hi _=>hi⟩
    ·by_cases w:x<a
     ·exact hO.sam hS3 (λx q1 q2=>k5 x q1 q2) x q1 w
     ·have e:=k4 x q1 (by omega) (by omega)
      subst e;rw[←hb];exact hO3
    ·have:UJ key d2 s b:=λx q1 q2=>hB x q1 (by omega)
     exact this.sam hS3 x q1 q2
    ·refine ut hS3 (by omega) ?_ (hL c q1 (q2.imp (λq=>by omega) id)) hbn
     rcases q2 with q|q
     ·exact Or.inr q
     ·by_cases w:c<a
      ·exact Or.inl (by omega)
      ·by_cases w2:c<a+2*s
       ·exact Or.inl (by rw[k4 c q (by omega) w2];exact aa2 _)
       ·exact Or.inr (by omega)
   ·by_cases hms:a+s<n
    ·have o1:=hB a k1 (aa2 _)
     have o2:=hB (a+s) k2 (by omega)
     rw[show min (a+s) d2.size=a+s by omega] at o1
     rw[show min (a+s+s) d2.size=n by omega] at o2
     obtain⟨M3,r3,d3,hD3,hS3,hO3,hC3⟩:=Uw hc hcap (n - a) (a:=a) (p:=a+s) (b:=n) (aa2 _) hD (hV.sam hS) (by omega) (by omega) (by omega) o1 o2 ((hL _ k2 (Or.inl (by omega))).sub (by omega) (by omega))
     rw[show ((a+s:Nat):Int)=(a:Int)+s by omega] at r3
     simp (disch:=omega) only[go_sem,seval,t1,t2,t3,t4,t5,t6,hm2,r3.wf']
     refine⟨n - 2*s,by omega,_,M3,2*s,d3,by rfl,by simp only[go_sem,seval,t1],by simp only[go_sem,seval,t2],by simp only[go_sem,seval,t3],by simp only[go_sem,seval],by omega,by omega,by omega,hD3,hS.trans (hS3.wide (by omega) (by omega)),λx q1 q2=> ?_,λc q=> ?_,hC.trans hC3 λi hi _=>hi⟩
     rotate_left
     ·by_cases w:c<n
      ·refine ut hS3 (by omega) (Or.inl ?_) (hL c (hd2 c q) (Or.inr q)) (aa2 _)
       by_cases w2:c<a
       ·omega
       ·rw[k4 c q (by omega) (by omega)];exact aa2 _
      ·exact λi j q1 q2 q3 q4=>by omega
     rw[show min (x+2*s) d3.size=min (x+2*s) n by rw[hS3.n,hsz2,hnd]]
     by_cases w:x<a
     ·rw[show min (x+2*s) n=x+2*s by have:=k5 x q1 w;omega]
      exact hO.sam hS3 (λx q1 q2=>k5 x q1 q2) x q1 w
     ·by_cases w2:x<a+2*s
      ·have e:=k4 x q1 (by omega) w2
       subst e
       rw[show min (x+2*s) n=n by omega];exact hO3
      ·exact fK.one (by omega)
    ·simp (disch:=omega) only[go_sem,seval,t2,t4,t5,t6,hm2]
     refine⟨n - 2*s,by omega,_,M,2*s,d2,by rfl,by simp only[go_sem,seval,t1],by simp only[go_sem,seval,t2],by simp only[go_sem,seval,t3],by simp only[go_sem,seval],by omega,by omega,by omega,hD,hS,λx q1 q2=> ?_,λc q=>hL c (hd2 c q) (Or.inr q),hC⟩
     rw[show min (x+2*s) d2.size=min (x+2*s) n by rw[hsz2,hnd]]
     by_cases w:x<a
     ·rw[show min (x+2*s) n=x+2*s by have:=k5 x q1 w;omega]
      exact hO x q1 w
     ·by_cases w2:x<a+2*s
      ·have e:=k4 x q1 (by omega) w2
       subst e
       have o1:=hB x k1 (aa2 _)
       rw[show min (x+s) d2.size=n by omega] at o1
       rw[show min (x+2*s) n=n by omega];exact o1
      ·exact fK.one (by omega)
  ·simp (disch:=omega) only[go_sem,seval,t2,t4]
   refine hK' _ ⟨d1,hD,by rw[←hnd];exact hS, ?_,hC⟩
   have:=hB 0 (Nat.zero_mod s) (by omega)
   rwa [show min (0+s) d1.size=d.size by omega] at this
end
section
variable {B m m':NH} {v:NV} {d:Array Int} {g:Nat} {cap:NV} {key:Int->Int} {V:Int->Prop}
theorem QW (hc:nY B g cap key V) (hcap:aU 4 (.fn g [cap]) (.fn g [cap])=true) (h:Dat B m v d) (hV:qy V d) (hI:Inc d 0 d.size) (hn:d.size<=1000000):
 ∃m',rT 331 [v,.fn g [cap]] m (.tup []) m'/\Ml B m m' v d key 0 d.size:=by
 refine WF.ex1 λK' hK'=> ?_
 refine WF.of_wpG (λ_=>rfl) y7 (L:= [(.a .e,.fn g [cap]),(.e,v)]) rfl ?_
 unfold No
 have hlen:=h.o.sl.len
 rw[aa0,af2] at hlen
 obtain⟨m1,r1,h1⟩:=VZ hc hcap h hV hI hn
 simp only[go_sem,seval,aa,hlen,r1.wf']
 exact hK' _ h1
theorem Ug (x:Int) (m:NH):rT 359 [ii x] m (.bool false) m:=by
 have h:∃w m',rT 359 [ii x] m w m'/\w= .bool false/\m'=m:=by
  refine WF.ex λK' hK'=> ?_
  refine WF.of_wpG (λ_=>rfl) DP (L:= [(.e,ii x)]) rfl ?_
  unfold Pj
  simp (disch:=omega) only[go_sem,seval,aa]
  exact hK' _ _ ⟨rfl,rfl⟩
 obtain⟨w,m',h,rfl,rfl⟩:=h
 exact h
theorem ZV (x y:Int) (m:NH):rT 333 [ii x,ii y] m (ii (if x<y then -1 else if y<x then 1 else 0)) m:=by
 have h:∃w m',rT 333 [ii x,ii y] m w m'/\w=ii (if x<y then -1 else if y<x then 1 else 0)/\m'=m:=by
  refine WF.ex λK' hK'=> ?_
  refine WF.of_wpG (λ_=>rfl) yX (L:= [(.a .e,ii y),(.e,ii x)]) rfl ?_
  unfold OC
  have r1:=Ug x m
  have r2:=Ug y m
  by_cases h1:x<y
  ·rw[adF h1] at hK'
   simp (disch:=omega) only[go_sem,seval,aa,r1.wf',r2.wf']
   exact hK' _ _ ⟨rfl,rfl⟩
  ·rw[adE h1] at hK'
   by_cases h2:y<x
   ·rw[adF h2] at hK'
    simp (disch:=omega) only[go_sem,seval,aa,r1.wf',r2.wf']
    exact hK' _ _ ⟨rfl,rfl⟩
   ·rw[adE h2] at hK'
    simp (disch:=omega) only[go_sem,seval,aa,r1.wf',r2.wf']
    exact hK' _ _ ⟨rfl,rfl⟩
 obtain⟨w,m',h,rfl,rfl⟩:=h
 exact h
def jz (l:List (Int×Int)) (x:Int):Int:=((l[x.toNat]?).map (·.1)).getD 0
def too (l:List (Int×Int)) (x:Int):Int:=((l[x.toNat]?).map (·.2)).getD 0
abbrev Ul (l:List (Int×Int)):List (List NV):=l.map λp=> [ii p.1,ii p.2]
theorem pO  {l:List (Int×Int)} (h:Sl m vl 2 (Ul l)) (hn:n<l.length):∃id off w c,fi 2 vl (ii (n:Nat))= .val (.ptr id off)/\m.get id=some (.cells w c)/\ap m id/\c[off+0]? =some (ii (jz l n))/\c[off+1]? =some (ii (too l n)):=by
 obtain⟨id,off,w,c,a1,a2,a3,a4,a5⟩:=h.at n (by simpa using hn)
 rw[aa4] at a5
 refine⟨id,off,w,c,a1,a2,a3, ?_, ?_⟩
 ·have:=bm a5 0 (by omega)
  rw[this];unfold jz;rw[ac8,List.getElem?_eq_getElem hn];rfl
 ·have:=bm a5 1 (by omega)
  rw[this];unfold too;rw[ac8,List.getElem?_eq_getElem hn];rfl
def XR (l:List (Int×Int)) (x:Int):Int:=jz l x*1000001+x
theorem VW {s sb:D4} {l:List (Int×Int)} (hB:B.get sb=some (.cells true [.ptr s 0])) (hBo:ap B sb) (hs:B.get s=some (.cells true (vl::cs))) (hso:ap B s) (hl:Sl B vl 2 (Ul l)) (hn:l.length<=1000000):
 nY B 332 (.ptr sb 0) (XR l) (λx=>0<=x/\x<l.length):=by
 intro m hC x y hx hy hxy
 obtain⟨i,rfl⟩:=adL hx.1
 obtain⟨j,rfl⟩:=adL hy.1
 have hlm:=hl.grew hC
 have h:∃w m',rT 332 [ii (i:Nat),ii (j:Nat),.ptr sb 0] m w m'/\w=ii (if jz l i<jz l j then -1 else if jz l j<jz l i then 1 else 0)/\m'=m:=by
  refine WF.ex λK' hK'=> ?_
  refine WF.of_wpG (λ_=>rfl) BJ (L:= [(.b .e,.ptr sb 0),(.a .e,ii (j:Nat)),(.e,ii (i:Nat))]) rfl ?_
  unfold KK
  obtain⟨id,off,w,c,a1,a2,-,a3,-⟩:=pO hlm (n:=i) (by omega)
  obtain⟨id',off',w',c',b1,b2,-,b3,-⟩:=pO hlm (n:=j) (by omega)
  have g1:=(hC.get hBo (by simp)).trans hB
  have g2:=(hC.get hso (by simp)).trans hs
  have r1:=ZV (jz l i) (jz l j) m
  have hvs:=hl.same (n:=3)
  simp only[go_sem,seval,aa,g1,g2,a1,a2,a3,b1,b2,b3,hvs,r1.wf']
  exact hK' _ _ ⟨rfl,rfl⟩
 obtain⟨w,m',h,rfl,rfl⟩:=h
 refine⟨_,h, ?_⟩
 unfold XR
 split
 ·omega
 ·split<;>omega
end
theorem zh  {g:Nat} {l:List NV} (h:∀v∈l,tK v):aU (n+2) (.fn g l) (.fn g l)=true:=by
 show cond (Nat.beq g g) (eV _ l l) false=true
 rw[Nat.beq_refl g]
 exact iY h
def vW (n:Nat):List Int:=(List.range n).map Int.ofNat
theorem Iv (n:Nat):vW (n+1)=vW n++ [(n:Int)]:=by unfold vW;rw[List.range_succ,ab5];rfl
theorem Mr (n:Nat):(vW n).length=n:=by unfold vW;simp
def EB (k:Int->Int) (x:Int):List Int->List Int
 | []=> [x]
 |y::l=>if k x<=k y then x::y::l else y::EB k x l
def Rn (k:Int->Int):List Int->List Int
 | []=> []
 |x::l=>EB k x (Rn k l)
theorem mX (k:Int->Int) (x:Int):∀l,(EB k x l).Perm (x::l)
 | []=>List.Perm.refl _
 |y::l=>by
  unfold EB
  split
  ·exact List.Perm.refl _
  ·exact ((mX k x l).cons y).trans (List.Perm.swap x y l)
theorem kk (k:Int->Int):∀l,(Rn k l).Perm l
 | []=>List.Perm.refl _
 |x::l=>(mX k x _).trans ((kk k l).cons x)
theorem yG  (x:Int):∀{l:List Int},l.Pairwise (λa b=>k a<=k b)->(EB k x l).Pairwise λa b=>k a<=k b
 | [],_=>by simp[EB]
 |y::l,h=>by
  obtain⟨h1,h2⟩:=ae9.1 h
  unfold EB
  split
  ·rename_i q
   refine ae9.2 ⟨λz hz=> ?_,h⟩
   rcases aa1.1 hz with rfl|hz
   ·exact q
   ·exact Int.le_trans q (h1 z hz)
  ·rename_i q
   refine ae9.2 ⟨λz hz=> ?_,yG x h2⟩
   rcases aa1.1 ((mX k x l).mem_iff.1 hz) with rfl|hz
   ·omega
   ·exact h1 z hz
theorem xp (k:Int->Int):∀l,(Rn k l).Pairwise λa b=>k a<=k b
 | []=>List.Pairwise.nil
 |x::l=>yG x (xp k l)
theorem xP :∀{a b:List Int},a.Perm b->a.Pairwise (λx y=>k x<=k y)->b.Pairwise (λx y=>k x<=k y)->(∀x∈a,∀y∈a,k x=k y->x=y)->a=b
 | [],b,h,_,_,_=>(List.Perm.nil_eq h)
 |x::a, [],h,_,_,_=>by have:=h.length_eq;simp at this
 |x::a,y::b,h,ha,hb,hi=>by
  obtain⟨a1,a2⟩:=ae9.1 ha
  obtain⟨b1,b2⟩:=ae9.1 hb
  have hy:y∈x::a:=h.mem_iff.2 ab2
  have hx:x∈y::b:=h.mem_iff.1 ab2
  have e:x=y:=by
   rcases aa1.1 hy with q|q
   ·exact q.symm
   ·rcases aa1.1 hx with q'|q'
    ·exact q'
    ·exact hi x ab2 y hy (Int.le_antisymm (a1 y q) (b1 x q'))
  subst e
  rw[xP (List.Perm.cons_inv h) a2 b2 λu hu v hv=>hi u (aa8 _ hu) v (aa8 _ hv)]
def sn (l:List (Int×Int)) (n:Nat):List Int:=(vW n).filter λx=>decide (jz l x≠-1)
def ni (l:List (Int×Int)):List Int:=Rn (XR l) (sn l l.length)
theorem Qc  {x:Int} (h:x∈vW n):0<=x/\x<n:=by
 unfold vW at h
 obtain⟨q,hq,rfl⟩:=ab3.1 h
 rw[List.mem_range] at hq
 exact⟨Int.natCast_nonneg q,by show (q:Int)<n;omega⟩
theorem pD {l:List (Int×Int)} {x:Int} (h:x∈sn l n):0<=x/\x<n:=Qc (List.mem_filter.1 h).1
theorem Y1 (l:List (Int×Int)) (n:Nat):sn l (n+1)=if jz l n≠-1 then sn l n++ [(n:Int)] else sn l n:=by
 unfold sn
 rw[Iv,List.filter_append]
 by_cases h:jz l n≠-1
 ·rw[adF h];simp[h]
 ·rw[adE h];simp[h]
theorem wI (l:List (Int×Int)) (n:Nat):(sn l n).length<=n:=by
 have:=List.length_filter_le (λx=>decide (jz l x≠-1)) (vW n)
 rw[Mr] at this;exact this
theorem Re (l:List (Int×Int)) (n:Nat):(sn l n).Pairwise (·<·):=
 List.Pairwise.filter _ (List.Pairwise.map _ (λa b h=>Int.ofNat_lt.2 h) List.pairwise_lt_range)
theorem Kt (l:List (Int×Int)):(ni l).length<=l.length:=by
 have:=(kk (XR l) (sn l l.length)).length_eq
 have:=wI l l.length
 unfold ni;omega
theorem Lq {l:List (Int×Int)} {x:Int} (h:x∈ni l):0<=x/\x<l.length:=pD ((kk _ _).mem_iff.1 h)
theorem Q2  {s:D4} {l:List (Int×Int)} (hs:m.get s=some (.cells true (vl::cs))) (hso:ap m s) (hl:Sl m vl 2 (Ul l)) (hn:l.length<=100000):
 ∃v m',rT 284 [.ptr s 0] m v m'/\aQ m m' v 1 ((ni l).map λz=> [ii z])/\Chg [] m m':=by
 refine WF.ex λK' hK'=> ?_
 refine WF.of_wpG (λ_=>rfl) DU (L:= [(.e,.ptr s 0)]) rfl ?_
 unfold Ns
 have hlen:=hl.len
 rw[aa0] at hlen
 generalize hM1:hp [(.n 0,.cells true [.ptr s 0])] 1 m=M1
 have hC1:Chg [] m M1:=az hM1 rfl
 have gb:M1.get (na m 0)=some (.cells true [.ptr s 0]):=aI hM1
 have ob:ap M1 (na m 0):=aL hM1 (by omega)
 have gs:=(hC1.get hso (by simp)).trans hs
 have os:=hC1.old hso
 have hl1:=hl.grew hC1
 have hcmp:=VW gb ob gs os hl1 (by omega)
 simp only[go_sem,seval,hM1,gb,gs,hlen]
 refine W.loop (λf q=>∃T M v i,q=⟨T, [],none,M⟩/\NT.get D4.e.a T=some (.ptr (na m 0) 0)/\NT.get D4.e.c T=some v/\NT.get D4.e.b.a T=some vl/\NT.get D4.e.b.b T=some (ii (l.length:Nat))/\NT.get D4.e.b.c T=some (ii (i:Nat))/\i+f=l.length/\Chg [] M1 M/\aQ M1 M v 1 ((sn l i).map λz=> [ii z])) ?_ l.length _ ⟨_,M1,.nils,0,rfl,by simp only[go_sem,seval],by simp only[go_sem,seval],by simp only[go_sem,seval],by simp only[go_sem,seval],by simp only[go_sem,seval]<;>rfl,by omega,Chg.refl M1,aQ.nil⟩
 rintro f q ⟨T,M,v,i,rfl,t1,t2,t3,t4,t5,hif,hC,hO⟩
 apply av
 unfold BN
 change wp _ _ _ _ ⟨puts [] T, [],none,M⟩ _
 by_cases hi:i<l.length
 ·obtain⟨id,off,w,c,a1,a2,a3,a4,a5⟩:=pO hl1 hi
  obtain⟨id0,off0,w0,c0,b1,b2,b3,b4,b5⟩:=hl1.at i (by simpa using hi)
  rw[aa4] at b5
  have b2M:=(hC.get b3 (by simp)).trans b2
  have hfi:jz l i=l[i].1:=by unfold jz;rw[ac8,List.getElem?_eq_getElem hi];rfl
  have hls:=Y1 l i
  have hll:=wI l i
  rw[hfi] at hls
  have hvo:=hO.sl.one
  rw[←aa M]
  by_cases hne:l[i].1=-1
  ·rw[adE λq=>q hne] at hls
   simp (disch:=first|omega|(simp only[aA]<;>omega)) only[go_sem,seval,t3,t4,t5,b1,b2M,b5,hne]
   generalize hM2:hp _ 1 M=M2
   have hC2:Chg [] M M2:=az hM2 rfl
   exact⟨f - 1,by omega,_,M2,v,i+1,by rfl,by simp only[go_sem,seval,t1],by simp only[go_sem,seval,t2],by simp only[go_sem,seval,t3],by simp only[go_sem,seval,t4],by simp only[go_sem,seval]<;>rfl,by omega,hC.tr hC2,by rw[hls];exact hO.chg hC2 (by simp)⟩
  rw[adF hne] at hls
  simp (disch:=first|omega|(simp only[aA]<;>omega)) only[go_sem,seval,t2,t3,t4,t5,b1,b2M,b5]
  have hC2:Chg [] M (hp [(.n 1,.cells true [ii (i:Nat)]),(.n 0,.cells true [ii l[i].1,ii l[i].2]),(.n 0,.cells true [ii 0,ii 0])] 2 M):=aw rfl
  have hO2:=hO.chg hC2 λ_ _=>by simp
  refine gh (bytes:=8) (cs:= [ii (i:Nat)]) hO2 bt (aq (by omega)) rfl (λi hi=>hC2.old (hC.old hi)) (by rw[aa0];omega) (by rw[aa0];omega) ?_
  intro v' M3 hO3 hC3 hF3
  simp (disch:=omega) only[go_sem,seval,t5]
  refine⟨f - 1,by omega,_,M3,v',i+1,by rfl,by simp only[go_sem,seval,t1],by simp only[go_sem,seval],by simp only[go_sem,seval,t3],by simp only[go_sem,seval,t4],by simp only[go_sem,seval]<;>rfl,by omega,(hC.tr hC2).trans hC3 λi hi ho=>adD ho (hO.new i hi), ?_⟩
  rw[hls,ab5];exact hO3
 ·have e:i=l.length:=by omega
  subst e
  have hll:=wI l l.length
  have hat:∀j (hj:j<(sn l l.length).length),gt ⟨sn l l.length⟩ j=(sn l l.length)[j]:=λj hj=>dc (d:=⟨sn l l.length⟩) hj
  have hD:Dat M1 M v ⟨sn l l.length⟩:=⟨hO,hC,by show (sn l l.length).length<=_;omega⟩
  have hV:qy (λx=>0<=x/\x<l.length) ⟨sn l l.length⟩:=λj hj=>pD (aa9 (l:=sn l l.length) hj)
  have hI:Inc ⟨sn l l.length⟩ 0 (sn l l.length).length:=λa b q1 q2 q3=>by
   rw[hat a (by omega),hat b q3]
   exact List.pairwise_iff_getElem.1 (Re l l.length) a b (by omega) q3 q2
  have hcs:aU 4 (.fn 332 [.ptr (na m 0) 0]) (.fn 332 [.ptr (na m 0) 0])=true:=zh λw hw=>by
   simp only[adJ,adI,or_false] at hw
   subst hw;trivial
  obtain⟨m2,r2,d',hD2,hS2,hO2,hC2⟩:=QW hcmp hcs hD hV hI (by show (sn l l.length).length<=_;omega)
  simp (disch:=omega) only[go_sem,seval,t1,t2,t4,t5,r2.wf']
  have hp:d'.toList.Perm (sn l l.length):=by have:=hS2.p;simpa [Array.perm_iff_toList_perm] using this
  have e:d'.toList=ni l:=by
   refine xP (k:=XR l) (hp.trans (kk _ _).symm) (List.pairwise_iff_getElem.2 λa b ha hb hab=> ?_) (xp _ _) λx hx y hy q=> ?_
   ·have hz:d'.size=d'.toList.length:=af2.symm
    have hz2:=hS2.n
    have:=hO2 a b (by omega) (by omega) (by omega) hab (by omega)
    simpa using this
   ·have h1:=pD (hp.mem_iff.1 hx)
    have h2:=pD (hp.mem_iff.1 hy)
    unfold XR at q
    omega
  have ho:=hD2.o
  rw[e] at ho
  exact hK' _ _ ⟨ho.back λi hi=>hC1.old hi,hC1.trans (hC.trans hC2 λi hi ho=>adD ho (hO.new i hi)) (by simp)⟩
structure Sc (B m:NH) (s:D4) (vl vo vh vt:NV) (sl:Int) (out:List Pc) (has:List Int) (tk:List Bool):Prop where
 g:m.get s=some (.cells true [vl,vo,vh,vt,ii sl])
 o:ap m s
 nB:¬ap B s
 oo:aQ B m vo 2 (Pcs out)
 oh:aQ B m vh 1 (has.map λz=> [ii z])
 ot:aQ B m vt 1 (tk.map λb=> [.bool b])
 d1:s∉ids vo/\s∉ids vh/\s∉ids vt
 d2:(∀i∈ids vo,i∉ids vh/\i∉ids vt)/\∀i∈ids vh,i∉ids vt
 c:Chg [] B m
def rg (out:List Pc) (x:Int):Int:=((out[x.toNat]?).getD ⟨true,0⟩).n
def mO (l:List (Int×Int)) (fr x:Int):Bool:=decide (too l x<fr)
def eU (l:List (Int×Int)) (out:List Pc) (fr:Int) (tk:List Bool) (x:Int):List Bool:=if mO l fr x=true then tk.set (rg out x).toNat false else tk
theorem Jj {l:List (Int×Int)} {out:List Pc} {fr:Int} {x:Int}:(eU l out fr tk x).length=tk.length:=by unfold eU;split<;>simp
section
variable {B m m':NH} {s sb fb:D4} {vl vo vh vt:NV} {out:List Pc} {has:List Int} {sl:Int} {tk:List Bool} {l:List (Int×Int)} {fr:Int}
theorem Sc.off {S:List D4} (h:Sc B m s vl vo vh vt sl out has tk) (hC:Chg S m m') (hS:∀i∈S,i≠s/\i∉ids vo/\i∉ids vh/\i∉ids vt) (hB:∀i∈S,¬ap B i):Sc B m' s vl vo vh vt sl out has tk:=
 ⟨(hC.get h.o λw=>(hS s w).1 rfl).trans h.g,hC.old h.o,h.nB,h.oo.chg hC λi hi w=>(hS i w).2.1 hi,h.oh.chg hC λi hi w=>(hS i w).2.2.1 hi,h.ot.chg hC λi hi w=>(hS i w).2.2.2 hi,h.d1,h.d2,h.c.trans hC λi hi ho=>adD ho (hB i hi)⟩
theorem Sc.grow (h:Sc B m s vl vo vh vt sl out has tk) (hC:Chg [] m m'):Sc B m' s vl vo vh vt sl out has tk:=h.off hC (by simp) (by simp)
theorem CL  {l:List Bool} (h:aQ B m v 1 (l.map λb=> [.bool b])) (hn:n<l.length):∃id off c,fi 1 v (ii (n:Nat))= .val (.ptr id off)/\ids v= [id]/\m.get id=some (.cells true c)/\ap m id/\off+1<=c.length/\c[off]? =some (.bool l[n])/\
 ∀(y:Bool) (M:NH),M=m.put id (.cells true (c.set off (.bool y)))->aQ B M v 1 ((l.set n y).map λb=> [.bool b])/\Chg [id] m M:=by
 obtain⟨id,off,c,a1,a2,a3,a4,a5,a6,a7,a8⟩:=h.at n (by simpa using hn)
 rw[aa4] at a7 a8
 refine⟨id,off,c,a1,a2,a4,a5,a6,bm a7 0 (by omega),λy M hM=> ?_⟩
 have hM:M=hp [(.o id,.cells true (c.set off (.bool y)))] 0 m:=by rw[hM,←fy a5,aa]
 have hC:Chg [id] m M:=by rw[hM];exact (fA _ _ _).weak (by simp[bj])
 have ho:=a8 [(0,.bool y)] M (by simp) (by rw[hM];exact (aO a5).trans aC) (hC.old a5)
 have ho:aQ B M v 1 ((l.map λb=> [NV.bool b]).set n [.bool y]):=ho
 rw[←List.map_set (f:=λb=> [NV.bool b])] at ho
 exact⟨ho,hC⟩
theorem UE (h:Sc B m s vl vo vh vt sl out has tk) (hl:Sl B vl 2 (Ul l)) (ho:out.length=l.length) (hsb:m.get sb=some (.cells true [.ptr s 0])) (hfb:m.get fb=some (.cells true [ii fr])) {x:Int} (hx:0<=x/\x<l.length) (hr:0<=rg out x/\rg out x<tk.length):
 ∃m',rT 361 [ii x,.ptr sb 0,.ptr fb 0] m (.bool (mO l fr x)) m'/\Sc B m' s vl vo vh vt sl out has (eU l out fr tk x)/\Chg (ids vt) m m':=by
 obtain⟨n,rfl⟩:=adL hx.1
 refine WF.ex1 λK' hK'=> ?_
 refine WF.of_wpG (λ_=>rfl) yQ (L:= [(.b .e,.ptr fb 0),(.a .e,.ptr sb 0),(.e,ii (n:Nat))]) rfl ?_
 unfold Oj
 have hn:n<l.length:=by omega
 have hno:n<out.length:=by omega
 obtain⟨id,off,w,c,a1,a2,-,-,a4⟩:=pO (hl.grew h.c) hn
 have g:=h.g
 unfold rg at hr
 unfold eU mO rg at hK'
 simp only[ac8,List.getElem?_eq_getElem hno,ae5] at hK' hr
 by_cases hg:too l n<fr
 ·simp only[adH hg,if_true] at hK'
  obtain⟨id2,off2,w2,c2,b1,b2,b3,b4,b5⟩:=h.oo.sl.at n (by simpa using hno)
  rw[aa4] at b5
  have b6:c2[off2+1]? =some (ii out[n].n):=bm b5 1 (by omega)
  obtain⟨r,hro⟩:=adL hr.1
  rw[hro] at b6 hK' hr
  obtain⟨id3,off3,c3,e1,e2,e3,e4,e5,e6,e7⟩:=CL h.ot (n:=r) (by omega)
  simp (disch:=omega) only[go_sem,seval,aa,hsb,hfb,g,a1,a2,a4,b1,b2,b6,e1,e3]
  generalize hM:m.put id3 _=M
  obtain⟨k1,k2⟩:=e7 false M hM.symm
  have hid:∀i∈ [id3],i∈ids vt:=λi hi=>by have hi:=one hi;subst hi;rw[e2];simp
  refine hK' _ ⟨⟨(k2.get h.o λq=>h.d1.2.2 (hid _ q)).trans h.g,k2.old h.o,h.nB,h.oo.chg k2 λi hi q=>(h.d2.1 i hi).2 (hid i q),h.oh.chg k2 λi hi q=>h.d2.2 i hi (hid i q), ?_,h.d1,h.d2,h.c.trans k2 λi hi q=>adD q (h.ot.new i (hid i hi))⟩,k2.weak λi hi _=>hid i hi⟩
  simpa using k1
 ·simp only[adG hg,Bool.false_eq_true,if_false] at hK'
  simp (disch:=omega) only[go_sem,seval,aa,hsb,hfb,g,a1,a2,a4]
  exact hK' _ ⟨h,(Chg.refl m).weak (by simp)⟩
end
noncomputable def ZQ (z:List NV) (m:NH) (v:NV):NR:=match v with
 | .nils=> .val aK
 | .slc id off len _ _=>Nat.rec (.val aK) (λ_ _=>vH len z λl=>storeAt m id off l λh=> .mem aK h) len
 |_=> .fail
theorem ZY {z:List NV} {x:NOpd}:ai (.clearSlc z x) t m=oN (ρ t x) (ZQ z m):=by
 show wV t x _=_
 rw[bC]
 congr 1
theorem Jg  {id:D4} {off:Nat} {c:List NV} {K:NH->NR} (hg:m.get id=some (.cells true c)) (hl:off+cs.length<=c.length):storeAt m id off cs K=K (m.put id (.cells true (c.take off++cs++c.drop (off+cs.length)))):=by
 unfold storeAt eA
 rw[hg]
 show aS (dx cs off c) (λc=>m.set id (.cells true c) K)=_
 rw[ez,adF hl]
 exact NH.set_eq m id _ K
theorem Zr  {id:D4} {off k:Nat} {c:List NV} (hg:m.get id=some (.cells true c)) (hl:off+n<=c.length) (hn:0<n):ZQ [ii 0] m (.slc id off n 1 k)= .mem aK (m.put id (.cells true (c.take off++List.replicate n (ii 0)++c.drop (off+n)))):=by
 cases n with
 |zero=>omega
 |succ n=>
  show vH (n+1) [ii 0] (λl=>storeAt m id off l λh=> .mem aK h)=_
  rw[fG,xi,show (List.replicate (n+1) [ii 0]).flatten=List.replicate (n+1) (ii 0) by simp,Jg hg (by simpa using hl),ae2]
section
variable {B m m':NH} {s sb fb:D4} {vl vo vh vt:NV} {out:List Pc} {has:List Int} {sl:Int} {tk:List Bool} {l:List (Int×Int)} {fr:Int}
structure Srn (B m:NH) (s sb fb:D4) (vl vt vh:NV) (l:List (Int×Int)) (fr:Int) (out:List Pc) (N:Nat):Prop where
 hl:Sl B vl 2 (Ul l)
 n:N=l.length/\out.length=l.length/\N<=100000
 sb:m.get sb=some (.cells true [.ptr s 0])/\ap m sb/\sb∉ids vt/\sb∉ids vh
 fb:m.get fb=some (.cells true [ii fr])/\ap m fb/\fb∉ids vt/\fb∉ids vh
theorem Srn.chg  {S:List D4} (h:Srn B m s sb fb vl vt vh l fr out N) (hC:Chg S m m') (hS:∀i∈S,i∈ids vt∨i∈ids vh):Srn B m' s sb fb vl vt vh l fr out N:=
 ⟨h.hl,h.n,⟨(hC.get h.sb.2.1 λw=>(hS _ w).elim h.sb.2.2.1 h.sb.2.2.2).trans h.sb.1,hC.old h.sb.2.1,h.sb.2.2⟩,⟨(hC.get h.fb.2.1 λw=>(hS _ w).elim h.fb.2.2.1 h.fb.2.2.2).trans h.fb.1,hC.old h.fb.2.1,h.fb.2.2⟩⟩
def FJ (N:Nat) (out:List Pc) (R:Nat) (x:Int):Prop:=0<=x/\x<N/\0<=rg out x/\rg out x<R
abbrev yH (sb fb:D4):NV:= .fn 361 [.ptr sb 0,.ptr fb 0]
theorem Jx (sb fb:D4):aU 4 (yH sb fb) (yH sb fb)=true:=zh λw hw=>by
 simp only[adJ,adI,or_false] at hw
 rcases hw with rfl|rfl<;>trivial
theorem Zy  (h:Sc B m s vl vo vh vt sl out has tk) (hr:Srn B m s sb fb vl vt vh l fr out N) (hv:∀x∈has,FJ N out tk.length x) (hh:has.length<=100000):
 ∃r m',rT 376 [vh,yH sb fb] m r m'/\Chg (ids vt) m m'/\((r=ii (-1)/\(∀x∈has,mO l fr x=false)/\Sc B m' s vl vo vh vt sl out has tk)∨∃n,∃hn:n<has.length,r=ii (n:Nat)/\(∀x∈has.take n,mO l fr x=false)/\mO l fr has[n]=true/\Sc B m' s vl vo vh vt sl out has (eU l out fr tk has[n])):=by
 refine WF.ex λK' hK'=> ?_
 refine WF.of_wpG (λ_=>rfl) CO (L:= [(.a .e,yH sb fb),(.e,vh)]) rfl ?_
 unfold PC
 have hlen:=h.oh.sl.len
 rw[aa0] at hlen
 simp only[go_sem,seval,aa,hlen]
 refine W.loop (λf q=>∃T M i,q=⟨T, [],none,M⟩/\NT.get D4.e T=some vh/\NT.get D4.e.a T=some (yH sb fb)/\NT.get D4.e.a.c T=some (ii (has.length:Nat))/\NT.get D4.e.a.f T=some (ii (i:Nat))/\i+f=has.length/\(∀x∈has.take i,mO l fr x=false)/\Sc B M s vl vo vh vt sl out has tk/\Chg (ids vt) m M) ?_ has.length _ ⟨_,m,0,rfl,by simp only[go_sem,seval],by simp only[go_sem,seval],by simp only[go_sem,seval],by simp only[go_sem,seval]<;>rfl,by omega,by simp,h,(Chg.refl m).weak (by simp)⟩
 rintro f q ⟨T,M,i,rfl,t1,t2,t3,t4,hif,hg,hS,hC⟩
 apply av
 unfold zV
 change wp _ _ _ _ ⟨puts [] T, [],none,M⟩ _
 by_cases hi:i<has.length
 ·obtain⟨id,off,w,c,a1,a2,a3,a4,a5⟩:=hS.oh.sl.at i (by simpa using hi)
  rw[aa4] at a5
  have c0:c[off]? =some (ii has[i]):=bm a5 0 (by omega)
  have hrM:=hr.chg hC λi hi=>Or.inl hi
  obtain⟨v1,v2,v3⟩:=hv _ (aa9 hi)
  obtain⟨m2,r2,hS2,hC2⟩:=UE hS hr.hl hr.n.2.1 hrM.sb.1 hrM.fb.1 (x:=has[i]) ⟨v1,by have:=hr.n.1;omega⟩ v3
  cases hgo:mO l fr has[i] with
  |true=>
   rw[hgo] at r2
   simp (disch:=omega) only[go_sem,seval,t1,t2,t3,t4,a1,a2,c0,r2.wf']
   exact hK' _ _ ⟨hC.trans hC2 λi hi _=>hi,Or.inr ⟨i,hi,rfl,hg,hgo,hS2⟩⟩
  |false=>
   rw[hgo] at r2
   have e:eU l out fr tk has[i]=tk:=by unfold eU;rw[hgo];simp
   rw[e] at hS2
   simp (disch:=omega) only[go_sem,seval,t1,t2,t3,t4,a1,a2,c0,r2.wf']
   refine⟨f - 1,by omega,_,m2,i+1,by rfl,by simp only[go_sem,seval,t1],by simp only[go_sem,seval,t2],by simp only[go_sem,seval,t3],by simp only[go_sem,seval]<;>rfl,by omega,λx hx=> ?_,hS2,hC.trans hC2 λi hi _=>hi⟩
   rw[ab7,List.getElem?_eq_getElem hi,aa6] at hx
   rcases hx with hx|hx
   ·exact hg x hx
   ·simp at hx;subst hx;exact hgo
 ·simp (disch:=omega) only[go_sem,seval,t3,t4]
  rw[ac9 (by omega)] at hg
  exact hK' _ _ ⟨hC,Or.inl ⟨rfl,hg,hS⟩⟩
end
section
variable {B m m':NH} {s sb fb:D4} {vl vo vh vt:NV} {out:List Pc} {has:List Int} {sl:Int} {tk:List Bool} {l:List (Int×Int)} {fr:Int}
def oK (l:List (Int×Int)) (fr:Int) (xs:List Int):List Int:=xs.filter λx=> !mO l fr x
def mf (l:List (Int×Int)) (out:List Pc) (fr:Int) (tk:List Bool) (xs:List Int):List Bool:=xs.foldl (eU l out fr) tk
theorem pG (xs:List Int):∀tk,(mf l out fr tk xs).length=tk.length:=by
 induction xs with
 |nil=>intro tk;rfl
 |cons x xs ih=>intro tk;exact (ih _).trans Jj
theorem CV {xs:List Int} (h:∀x∈xs,mO l fr x=false):oK l fr xs=xs/\∀tk,mf l out fr tk xs=tk:=by
 induction xs with
 |nil=>exact⟨rfl,λtk=>rfl⟩
 |cons x xs ih=>
  obtain⟨h1,h2⟩:=ih λy hy=>h y (aa8 _ hy)
  have hx:=h x (by simp)
  refine⟨?_,λtk=> ?_⟩
  ·unfold oK at h1 ⊢;rw[List.filter_cons,hx,h1];rfl
  ·show mf l out fr (eU l out fr tk x) xs=tk
   rw[h2];unfold eU;rw[hx];simp
theorem pZ (xs:List Int) (x:Int):oK l fr (xs++ [x])=if mO l fr x=true then oK l fr xs else oK l fr xs++ [x]:=by
 unfold oK
 rw[List.filter_append]
 cases hgx:mO l fr x with
 |true=>simp[hgx]
 |false=>simp[hgx]
theorem Cc (tk:List Bool) (xs:List Int) (x:Int):mf l out fr tk (xs++ [x])=eU l out fr (mf l out fr tk xs) x:=by unfold mf;rw[List.foldl_append];rfl
theorem Sc.setH (h:Sc B m s vl vo vh vt sl out has tk) (hi:i<has.length) (x:Int):∃id off c,fi 1 vh (ii (i:Nat))= .val (.ptr id off)/\m.get id=some (.cells true c)/\off+1<=c.length/\∀M,M=m.put id (.cells true (c.set off (ii x)))->Sc B M s vl vo vh vt sl out (has.set i x) tk/\Chg (ids vh) m M:=by
 obtain⟨id,off,c,a1,a2,a3,a4,a5,a6,a7,a8⟩:=jU (f:=λz=>ii z) h.oh hi
 refine⟨id,off,c,a1,a4,a6,λM hM=> ?_⟩
 obtain⟨k1,k2⟩:=a8 x M hM
 have hid:∀i∈ [id],i∈ids vh:=λi hi=>by have hi:=one hi;subst hi;rw[a2];simp
 exact⟨⟨(k2.get h.o λq=>h.d1.2.1 (hid _ q)).trans h.g,k2.old h.o,h.nB,h.oo.chg k2 λi hi q=>(h.d2.1 i hi).1 (hid i q),k1,h.ot.chg k2 λi hi q=>h.d2.2 i (hid i q) hi,h.d1,h.d2,h.c.trans k2 λi hi q=>adD q (h.oh.new i (hid i hi))⟩,k2.weak λi hi _=>hid i hi⟩
theorem take_set (xs:List Int) (i:Nat) (x:Int) (hi:i<xs.length):(xs.set i x).take (i+1)=xs.take i++ [x]:=by
 rw[ab7,List.getElem?_set_self hi]
 congr 1
 exact List.take_set_of_le (aa2 _)
theorem Ir {c F:List NV} {off k L:Nat} (hle:off+L<=c.length) (hf:(c.drop off).take L=F) (hk:k<=L):(c.take (off+k)++List.replicate (L - k) (ii 0)++c.drop (off+k+(L - k))).length=c.length/\((c.take (off+k)++List.replicate (L - k) (ii 0)++c.drop (off+k+(L - k))).drop off).take L=F.take k++List.replicate (L - k) (ii 0)/\((c.take (off+k)++List.replicate (L - k) (ii 0)++c.drop (off+k+(L - k))).drop off).take k=F.take k:=by
 have hFl:F.length=L:=by rw[←hf,aa7,ac6];omega
 have e:c.take (off+k)=c.take off++F.take k:=by rw[List.take_add,←hf,List.take_take,ac5 hk]
 have hA:(c.take off).length=off:=by rw[aa7];omega
 have hB:(F.take k).length=k:=by rw[aa7];omega
 refine⟨by simp;omega, ?_, ?_⟩
 ·rw[e,ab1,ab1,List.drop_left' hA,←ab1,List.take_left' (by simp;omega)]
 ·rw[e,ab1,ab1,List.drop_left' hA,List.take_left' hB]
theorem K6 (xs:List Int):(xs.map λz=> [ii z]).flatten=xs.map λz=>ii z:=by
 induction xs with
 |nil=>rfl
 |cons x xs ih=>simp[ih]
set_option maxHeartbeats 1000000 in
theorem VO  (h:Sc B m s vl vo vh vt sl out has tk) (hr:Srn B m s sb fb vl vt vh l fr out N) (hv:∀x∈has,FJ N out tk.length x) (hh:has.length<=100000):
 ∃v' m',rT 360 [vh,yH sb fb] m v' m'/\∃fu,Sc B m' s vl vo vh vt sl out fu (mf l out fr tk has)/\aQ B m' v' 1 ((oK l fr has).map λz=> [ii z])/\(∀i∈ids v',i∈ids vh)/\Chg (ids vt++ids vh) m m':=by
 refine WF.ex λK' hK'=> ?_
 refine WF.of_wpG (λ_=>rfl) Dj (L:= [(.a .e,yH sb fb),(.e,vh)]) rfl ?_
 unfold Nq
 obtain⟨r,m1,r1,hC1,hcase⟩:=Zy h hr hv hh
 have hwk:∀i∈ids vt,i∈ids vt++ids vh:=λi hi=>List.mem_append_left _ hi
 rcases hcase with⟨rfl,hg,hS⟩|⟨n,hn,rfl,hg,hgo,hS⟩
 ·obtain⟨e1,e2⟩:=CV (out:=out) hg
  simp only[go_sem,seval,aa,r1.wf']
  rw[e1,e2] at hK'
  exact hK' _ _ ⟨has,hS,hS.oh,λi hi=>hi,hC1.weak λi hi _=>hwk i hi⟩
 ·simp (disch:=omega) only[go_sem,seval,aa,r1.wf']
  obtain⟨e1,e2⟩:=CV (out:=out) hg
  have hlen:=h.oh.sl.len
  rw[aa0] at hlen
  have et:has.take (n+1)=has.take n++ [has[n]]:=by rw[ab7,List.getElem?_eq_getElem hn];rfl
  have ef:oK l fr (has.take (n+1))=has.take n:=by rw[et,pZ,adF hgo,e1]
  have er:mf l out fr tk (has.take (n+1))=eU l out fr tk has[n]:=by rw[et,Cc,e2]
  refine W.loop (λf q=>∃T M j fu,q=⟨T, [],none,M⟩/\NT.get D4.e T=some vh/\NT.get D4.e.a T=some (yH sb fb)/\NT.get D4.e.a.a T=some (ii ((oK l fr (has.take j)).length:Nat))/\NT.get D4.e.a.b T=some (ii (j:Nat))/\j<=has.length/\j+f=has.length/\(oK l fr (has.take j)).length<j/\fu.length=has.length/\fu.take (oK l fr (has.take j)).length=oK l fr (has.take j)/\(∀q,j<=q->fu[q]? =has[q]?)/\Sc B M s vl vo vh vt sl out fu (mf l out fr tk (has.take j))/\Chg (ids vt++ids vh) m M) ?_ (has.length - (n+1)) _ ⟨_,m1,n+1,has,rfl,by simp only[go_sem,seval],by simp only[go_sem,seval],by simp only[go_sem,seval];rw[ef,aa7,ac5 (by omega)],by simp only[go_sem,seval]<;>rfl,by omega,by omega,by rw[ef,aa7];omega,rfl,by rw[ef,aa7,ac5 (by omega)],λq hq=>rfl,by rw[er];exact hS,hC1.weak λi hi _=>hwk i hi⟩
  clear hS hC1 r1
  rintro f q ⟨T,M,j,fu,rfl,t1,t2,t3,t4,hj,hjf,hij,hl1,htk,hrest,hS,hC⟩
  apply av
  unfold Cm
  change wp _ _ _ _ ⟨puts [] T, [],none,M⟩ _
  by_cases hjl:j<has.length
  ·have hj1:j<fu.length:=by omega
   have ex:fu[j]=has[j]:=by
    have:=hrest j (aa2 _)
    rw[List.getElem?_eq_getElem hj1,List.getElem?_eq_getElem hjl] at this
    exact Option.some.inj this
   obtain⟨id,off,w,c,a1,a2,a3,a4,a5⟩:=hS.oh.sl.at j (by simpa using hj1)
   rw[aa4] at a5
   have c0:c[off]? =some (ii fu[j]):=bm a5 0 (by omega)
   rw[ex] at c0
   obtain⟨v1,v2,v3⟩:=hv _ (aa9 hjl)
   have hrM:=hr.chg hC λi hi=>aa6.1 hi
   obtain⟨m2,r2,hS2,hC2⟩:=UE hS hr.hl hr.n.2.1 hrM.sb.1 hrM.fb.1 (x:=has[j]) ⟨v1,by have:=hr.n.1;omega⟩ (by rw[pG];exact v3)
   have et2:has.take (j+1)=has.take j++ [has[j]]:=by rw[ab7,List.getElem?_eq_getElem hjl];rfl
   rw[←Cc,←et2] at hS2
   have hCm2:=hC.trans hC2 λi hi _=>hwk i hi
   cases hgo2:mO l fr has[j] with
   |true=>
    have ef2:oK l fr (has.take (j+1))=oK l fr (has.take j):=by rw[et2,pZ,adF hgo2]
    rw[hgo2] at r2
    simp (disch:=omega) only[go_sem,seval,t1,t2,t4,hlen,a1,a2,c0,r2.wf']
    exact⟨f - 1,by omega,_,m2,j+1,fu,by rfl,by simp only[go_sem,seval,t1],by simp only[go_sem,seval,t2],by simp only[go_sem,seval,t3];rw[ef2],by simp only[go_sem,seval]<;>rfl,by omega,by omega,by rw[ef2];omega,hl1,by rw[ef2];exact htk,λq hq=>hrest q (by omega),hS2,hCm2⟩
   |false=>
    have ef2:oK l fr (has.take (j+1))=oK l fr (has.take j)++ [has[j]]:=by rw[et2,pZ,adE (by rw[hgo2];simp)]
    rw[hgo2] at r2
    obtain⟨id3,off3,c3,b1,b2,b3,b4⟩:=hS2.setH (i:=(oK l fr (has.take j)).length) (by omega) has[j]
    simp (disch:=omega) only[go_sem,seval,t1,t2,t3,t4,hlen,a1,a2,c0,r2.wf',b1,b2]
    generalize hM:m2.put id3 _=M3
    obtain⟨hS3,hC3⟩:=b4 M3 hM.symm
    refine⟨f - 1,by omega,_,M3,j+1,_,by rfl,by simp only[go_sem,seval,t1],by simp only[go_sem,seval,t2],by simp only[go_sem,seval];rw[ef2,aa5];rfl,by simp only[go_sem,seval]<;>rfl,by omega,by omega,by rw[ef2,aa5];simp;omega,by rw[ac3];exact hl1, ?_,λq hq=> ?_,hS3,hCm2.trans hC3 λi hi _=>List.mem_append_right _ hi⟩
    ·rw[ef2,aa5,List.length_singleton,take_set _ _ _ (by omega),htk]
    ·rw[List.getElem?_set_ne (by omega)];exact hrest q (by omega)
  ·have ej:j=has.length:=by omega
   subst ej
   rw[ae1] at t3 hij htk hS
   have hlv:=hS.oh.sl.len
   rw[aa0,hl1] at hlv
   obtain⟨h0,⟨e,e'⟩|⟨id,off,kc,c,evh,hb,hg',hod,hle,hke,hf⟩⟩:=hS.oh
   ·have:fu.length=0:=by simpa using congrArg List.length e'
    omega
   ·have eL:(fu.map λz=> [ii z]).length=has.length:=by simp[hl1]
    rw[eL] at evh hle hf
    generalize hK:(oK l fr has).length=k at *
    have hclr:=Zr (k:=kc - k) (n:=has.length - k) (off:=off+k*1) hg' (by omega) (by omega)
    have hks:k<=has.length:=by omega
    subst evh
    simp (disch:=omega) only[go_sem,seval,t1,t3,t4,hlen,ZY,hclr]
    generalize hM:M.put id _=M2
    rw[Nat.mul_one] at hle hf
    rw[K6] at hf
    obtain⟨q1,q2,q3⟩:=Ir (k:=k) hle hf hks
    rw[Nat.mul_one] at hM
    generalize hc':c.take (off+k)++List.replicate (has.length - k) (ii 0)++c.drop (off+k+(has.length - k))=c' at hM q1 q2 q3
    have hM':M2=hp [(.o id,.cells true c')] 0 M:=by rw[←hM,←fy hod,aa]
    have hC2:Chg [id] M M2:=by rw[hM'];exact (fA _ _ _).weak (by simp[bj])
    have g2:M2.get id=some (.cells true c'):=by rw[hM'];exact (aO hod).trans aC
    have o2:=hC2.old hod
    have hid:∀i∈ [id],i∈ids (NV.slc id off has.length 1 kc):=λi hi=>by have hi:=one hi;subst hi;simp[ids]
    have ek:(oK l fr has).length=k:=hK
    have hO2:aQ B M2 (.slc id off has.length 1 kc) 1 ((fu.take k++List.replicate (has.length - k) 0).map λz=> [ii z]):=by
     refine⟨λx hx=>by obtain⟨y,-,rfl⟩:=ab3.1 hx;rfl,Or.inr ⟨id,off,kc,c', ?_,hb,g2,o2, ?_,by rw[q1];exact hke, ?_⟩⟩
     ·simp only[aa0,aa5,aa7,ae2]
      rw[show min k fu.length+(has.length - k)=has.length by omega]
     ·simp only[aa0,aa5,aa7,ae2];rw[q1];omega
     ·simp only[aa0,aa5,aa7,ae2]
      rw[show (min k fu.length+(has.length - k))*1=has.length by omega,q2,K6,ab5,List.map_replicate,List.map_take]
    have hV2:aQ B M2 (.slc id (off+0) k 1 kc) 1 ((oK l fr has).map λz=> [ii z]):=by
     refine⟨by simp,Or.inr ⟨id,off+0,kc,c',by rw[aa0,ek],hb,g2,o2,by rw[aa0,ek,q1];omega,by rw[q1];exact hke, ?_⟩⟩
     rw[aa0,ek,Nat.mul_one,ad7,q3,K6,←htk,List.map_take]
    refine hK' _ _ ⟨_,⟨(hC2.get hS.o λq=>hS.d1.2.1 (hid _ q)).trans hS.g,hC2.old hS.o,hS.nB,hS.oo.chg hC2 λi hi q=>(hS.d2.1 i hi).1 (hid i q),hO2,hS.ot.chg hC2 λi hi q=>hS.d2.2 i (hid i q) hi,hS.d1,hS.d2,hS.c.trans hC2 λi hi q=>adD q (hS.oh.new i (hid i hi))⟩,hV2,λi hi=>by simpa [ids] using hi,hC.trans hC2 λi hi _=>List.mem_append_right _ (hid i hi)⟩
end
def xg (s:D4) (vo vh vt:NV):List D4:=s::(ids vo++(ids vh++ids vt))
section
variable {B m m':NH} {s sb fb:D4} {vl vo vh vt:NV} {out:List Pc} {has:List Int} {sl:Int} {tk:List Bool} {l:List (Int×Int)} {fr:Int}
theorem Sc.old (h:Sc B m s vl vo vh vt sl out has tk):∀i∈xg s vo vh vt,ap m i/\¬ap B i:=by
 intro i hi
 unfold xg at hi
 rcases aa1.1 hi with rfl|hi
 ·exact⟨h.o,h.nB⟩
 rcases aa6.1 hi with hi|hi
 ·exact⟨h.oo.sl.old i hi,h.oo.new i hi⟩
 rcases aa6.1 hi with hi|hi
 ·exact⟨h.oh.sl.old i hi,h.oh.new i hi⟩
 ·exact⟨h.ot.sl.old i hi,h.ot.new i hi⟩
def XW (F F':List D4) (m m':NH):Prop:=Chg F m m'/\∀j∈F',j∈F∨¬ap m j
theorem WS  (h:Sc B m s vl vo vh vt sl out has tk) (hl:Sl B vl 2 (Ul l)) (hN:N=l.length/\out.length=l.length/\N<=100000) (hv:∀x∈has,FJ N out tk.length x) (hh:has.length<=100000):
 ∃m',rT 334 [.ptr s 0,ii fr] m (.tup []) m'/\∃vh',Sc B m' s vl vo vh' vt sl out (oK l fr has) (mf l out fr tk has)/\XW (xg s vo vh vt) (xg s vo vh' vt) m m':=by
 refine WF.ex1 λK' hK'=> ?_
 refine WF.of_wpG (λ_=>rfl) AW (L:= [(.a .e,ii fr),(.e,.ptr s 0)]) rfl ?_
 unfold N7
 generalize hM1:hp [(.n 1,.cells true [ii fr]),(.n 0,.cells true [.ptr s 0])] 2 m=M1
 have hC1:Chg [] m M1:=az hM1 rfl
 have g0:M1.get (na m 0)=some (.cells true [.ptr s 0]):=aI hM1
 have g1:M1.get (na m 1)=some (.cells true [ii fr]):=aI hM1
 have o0:ap M1 (na m 0):=aL hM1 (by omega)
 have o1:ap M1 (na m 1):=aL hM1 (by omega)
 have h1:=h.grow hC1
 have nn:∀j,na m j∉xg s vo vh vt:=λj q=>ak (h.old _ q).1
 have nt:∀j,na m j∉ids vt:=λj q=>nn j (by simp[xg,q])
 have nh:∀j,na m j∉ids vh:=λj q=>nn j (by simp[xg,q])
 have hr:Srn B M1 s (na m 0) (na m 1) vl vt vh l fr out N:=⟨hl,hN,⟨g0,o0,nt 0,nh 0⟩,⟨g1,o1,nt 1,nh 1⟩⟩
 obtain⟨v',m2,r2,fu,hS2,hO2,hsub,hC2⟩:=VO h1 hr hv hh
 have gs:=h1.g
 have gs2:=hS2.g
 have os2:=hS2.o
 have hvs:=h.oh.sl.same (n:=3)
 have hv1:=hO2.sl.one
 have g02:m2.get (na m 0)=some (.cells true [.ptr s 0]):=(hC2.get o0 λq=>(aa6.1 q).elim (nt 0) (nh 0)).trans g0
 simp (disch:=first|omega|(simp only[aA]<;>omega)) only[go_sem,seval,hM1,g0,gs,hvs,r2.wf',g02,gs2,hv1]
 generalize hM3:m2.put s _=M3
 have hM3:M3=hp [(.o s,.cells true [vl,vo,v',vt,ii sl])] 0 m2:=by rw[←hM3,←fy os2,aa]
 have hC3:Chg [s] m2 M3:=by rw[hM3];exact (fA _ _ _).weak (by simp[bj])
 have ns:∀{v:NV},s∉ids v->∀i∈ids v,i∉ [s]:=λhb i hi q=>by have q:=one q;subst q;exact hb hi
 have hsv:s∉ids v':=λq=>h.d1.2.1 (hsub _ q)
 refine hK' _ ⟨v',⟨by rw[hM3];exact (aO os2).trans aC,hC3.old os2,h.nB,hS2.oo.chg hC3 (ns h.d1.1),hO2.chg hC3 (ns hsv) |>.back λi hi=> ?_,hS2.ot.chg hC3 (ns h.d1.2.2),⟨h.d1.1,hsv,h.d1.2.2⟩,⟨λi hi=>⟨λq=>(h.d2.1 i hi).1 (hsub i q),(h.d2.1 i hi).2⟩,λi hi=>h.d2.2 i (hsub i hi)⟩,hS2.c.trans hC3 λi hi ho=>by have hi:=one hi;subst hi;exact adD ho h.nB⟩,⟨((hC1.weak (by simp)).trans hC2 λi hi _=> ?_).trans hC3 λi hi _=> ?_,λj hj=> ?_⟩⟩
 ·exact hi
 ·rcases aa6.1 hi with q|q<;>simp[xg,q]
 ·have hi:=one hi;subst hi;simp[xg]
 ·left
  unfold xg at hj ⊢
  simp only[adJ,aa6] at hj ⊢
  rcases hj with hj|hj|hj|hj
  ·exact Or.inl hj
  ·exact Or.inr (Or.inl hj)
  ·exact Or.inr (Or.inr (Or.inl (hsub j hj)))
  ·exact Or.inr (Or.inr (Or.inr hj))
def Hw:List Bool->Nat->Int
 | [],_=>-1
 |b::l,i=>if b=true then Hw l (i+1) else i
def Er (tk:List Bool):Int:=Hw tk 0
theorem My:∀(tk:List Bool) (i:Nat),Hw tk i=-1∨((i:Int)<=Hw tk i/\Hw tk i<i+tk.length)
 | [],i=> .inl rfl
 |b::l,i=>by
  unfold Hw
  split
  ·rcases My l (i+1) with h|h
   ·exact .inl h
   ·rw[ab4];omega
  ·rw[ab4];omega
theorem Zb  (h:Sl m v 1 (tk.map λb=> [.bool b])) (hl:tk.length<=1000):rT 335 [v,.bool false] m (ii (Er tk)) m:=by
 have h:∃w m',rT 335 [v,.bool false] m w m'/\w=ii (Er tk)/\m'=m:=by
  refine WF.ex λK' hK'=> ?_
  refine WF.of_wpG (λ_=>rfl) Eb (L:= [(.a .e,.bool false),(.e,v)]) rfl ?_
  unfold JO
  have hlen:=h.len
  rw[aa0] at hlen
  simp only[go_sem,seval,aa,hlen]
  refine W.loop (λf d=>∃T i,d=⟨T, [],none,m⟩/\NT.get D4.e T=some v/\NT.get D4.e.a T=some (.bool false)/\NT.get D4.e.a.c T=some (ii (tk.length:Nat))/\NT.get D4.e.a.f T=some (ii (i:Nat))/\i+f=tk.length/\Er tk=Hw (tk.drop i) i) ?_ tk.length _ ⟨_,0,rfl,by simp only[go_sem,seval],by simp only[go_sem,seval],by simp only[go_sem,seval],by simp only[go_sem,seval]<;>rfl,by omega,rfl⟩
  rintro f d ⟨T,i,rfl,t1,t2,t3,t4,hif,hn⟩
  apply av
  unfold yZ
  change wp _ _ _ _ ⟨puts [] T, [],none,m⟩ _
  by_cases hi:i<tk.length
  ·obtain⟨id,off,w,c,a1,a2,a3,a4,a5⟩:=h.at i (by simpa using hi)
   rw[aa4] at a5
   have c0:c[off]? =some (.bool tk[i]):=bm a5 0 (by omega)
   rw[ab8 hi] at hn
   unfold Hw at hn
   cases hb:tk[i] with
   |false=>
    rw[hb] at c0 hn
    rw[adE aa3] at hn
    simp (disch:=omega) only[go_sem,seval,t1,t2,t3,t4,a1,a2,c0]
    exact hK' _ _ ⟨by rw[hn],rfl⟩
   |true=>
    rw[hb] at c0 hn
    rw[adF rfl] at hn
    simp (disch:=omega) only[go_sem,seval,t1,t2,t3,t4,a1,a2,c0]
    exact⟨f - 1,by omega,_,i+1,by rfl,by simp only[go_sem,seval,t1],by simp only[go_sem,seval,t2],by simp only[go_sem,seval,t3],by simp only[go_sem,seval]<;>rfl,by omega,hn⟩
  ·rw[ad0 (by omega)] at hn
   simp (disch:=omega) only[go_sem,seval,t3,t4]
   exact hK' _ _ ⟨by rw[hn];rfl,rfl⟩
 obtain⟨w,m',h,rfl,rfl⟩:=h
 exact h
end
section
variable {B m m':NH} {s:D4} {vl vo vh vt:NV} {out:List Pc} {has:List Int} {sl:Int} {tk:List Bool} {l:List (Int×Int)}
theorem XW.trans {F F' F'':List D4} {m'':NH} (h:XW F F' m m') (h':XW F' F'' m' m''):XW F F'' m m'':=
 ⟨h.1.trans h'.1 λi hi ho=>(h.2 i hi).elim id λq=>adD ho q,λj hj=>(h'.2 j hj).elim (h.2 j) λq=>Or.inr λw=>q (h.1.old w)⟩
set_option maxHeartbeats 1000000 in
theorem Ri  (h:Sc B m s vl vo vh vt sl out has tk) (hl:Sl B vl 2 (Ul l)) (hN:N=l.length/\out.length=l.length/\N<=100000) (hv:∀x∈has,FJ N out tk.length x) (hh:has.length<=90000) (ht:tk.length<=16) (hn:n<N) {r:Nat} (hrf:Er (mf l out (jz l n) tk has)=r):
 ∃m',rT 285 [.ptr s 0,ii (n:Nat)] m (.tup []) m'/\∃vh',Sc B m' s vl vo vh' vt sl (out.set n ⟨false,r⟩) (oK l (jz l n) has++ [(n:Int)]) ((mf l out (jz l n) tk has).set r true)/\XW (xg s vo vh vt) (xg s vo vh' vt) m m':=by
 refine WF.ex1 λK' hK'=> ?_
 refine WF.of_wpG (λ_=>rfl) Dq (L:= [(.a .e,ii (n:Nat)),(.e,.ptr s 0)]) rfl ?_
 unfold N6
 have g:=h.g
 obtain⟨id,off,w,c,a1,a2,-,a3,-⟩:=pO (hl.grew h.c) (n:=n) (by omega)
 obtain⟨m1,r1,vh1,h1,e1⟩:=WS (fr:=jz l n) h hl hN hv (by omega)
 have hfl:(mf l out (jz l n) tk has).length=tk.length:=pG _ _
 have hfll:(oK l (jz l n) has).length<=has.length:=List.length_filter_le _ _
 generalize mf l out (jz l n) tk has=tk1 at *
 generalize oK l (jz l n) has=fu at *
 have r2:=Zb h1.ot.sl (by omega)
 rw[hrf] at r2
 have hr:r<tk1.length:=by
  have:=My tk1 0
  unfold Er at hrf
  omega
 have g1:=h1.g
 obtain⟨id2,off2,c2,b1,b2,b3,b4,b5,b6,b7⟩:=CL h1.ot hr
 have hno:n<out.length:=by omega
 simp (disch:=omega) only[go_sem,seval,aa,g,a1,a2,a3,r1.wf',g1,r2.wf',b1,b3]
 generalize hM2:m1.put id2 _=M2
 obtain⟨k1,k2⟩:=b7 true M2 hM2.symm
 have ht2:∀i∈ [id2],i∈ids vt:=λi hi=>by have hi:=one hi;subst hi;rw[b2];simp
 have hS2:Sc B M2 s vl vo vh1 vt sl out fu (tk1.set r true):=⟨(k2.get h1.o λq=>h1.d1.2.2 (ht2 _ q)).trans h1.g,k2.old h1.o,h1.nB,h1.oo.chg k2 λi hi q=>(h1.d2.1 i hi).2 (ht2 i q),h1.oh.chg k2 λi hi q=>h1.d2.2 i hi (ht2 i q),k1,h1.d1,h1.d2,h1.c.trans k2 λi hi q=>adD q (h1.ot.new i (ht2 i hi))⟩
 have g2:=hS2.g
 obtain⟨id3,off3,c3,d1,d2,d3,d4,d5,d6,d7,d8⟩:=hS2.oo.at_all n (by simpa using hno)
 simp (disch:=first|assumption|omega|(simp only[aA]<;>omega)) only[go_sem,seval,g2,d1,d4]
 generalize hM3:M2.put id3 _=M3
 have hM3':M3=hp [(.o id3,.cells true (c3.take off3++ [.bool false,ii (r:Nat)]++c3.drop (off3+2)))] 0 M2:=by rw[←hM3,←fy d5,aa]
 have k3:Chg [id3] M2 M3:=by rw[hM3'];exact (fA _ _ _).weak (by simp[bj])
 have k4:=d8 [.bool false,ii (r:Nat)] M3 rfl (by rw[hM3'];exact (aO d5).trans aC) (k3.old d5)
 have ho3:∀i∈ [id3],i∈ids vo:=λi hi=>by have hi:=one hi;subst hi;rw[d2];simp
 have hS3:Sc B M3 s vl vo vh1 vt sl (out.set n ⟨false,r⟩) fu (tk1.set r true):=⟨(k3.get hS2.o λq=>h1.d1.1 (ho3 _ q)).trans hS2.g,k3.old hS2.o,h1.nB,by show aQ B M3 vo 2 ((out.set n ⟨false,r⟩).map Pc.l);rw[List.map_set];exact k4,hS2.oh.chg k3 λi hi q=>(h1.d2.1 i (ho3 i q)).1 hi,hS2.ot.chg k3 λi hi q=>(h1.d2.1 i (ho3 i q)).2 hi,h1.d1,h1.d2,hS2.c.trans k3 λi hi q=>adD q (hS2.oo.new i (ho3 i hi))⟩
 have g3:=hS3.g
 rw[←aa M3]
 simp (disch:=first|omega|(simp only[aA]<;>omega)) only[go_sem,seval,g3]
 have hC4:Chg [] M3 (hp [(.n 0,.cells true [ii (n:Nat)])] 1 M3):=aw rfl
 have hS4:=hS3.grow hC4
 refine gh (bytes:=8) (cs:= [ii (n:Nat)]) hS4.oh bt (aq (by omega)) rfl (λi hi=>hS4.c.old hi) (by rw[aa0];omega) (by rw[aa0];omega) ?_
 intro vh' M5 hO5 hC5 hF5
 have g5:=(hC5.get hS4.o hS4.d1.2.1).trans hS4.g
 have o5:=hC5.old hS4.o
 have hv5:=hO5.sl.one
 simp (disch:=first|omega|(simp only[aA]<;>omega)) only[go_sem,seval,g5,hv5]
 generalize hM6:M5.put s _=M6
 have hM6:M6=hp [(.o s,.cells true [vl,vo,vh',vt,ii sl])] 0 M5:=by rw[←hM6,←fy o5,aa]
 have hC6:Chg [s] M5 M6:=by rw[hM6];exact (fA _ _ _).weak (by simp[bj])
 have n6:∀{v:NV},s∉ids v->∀i∈ids v,i∉ [s]:=λhb i hi q=>by have q:=one q;subst q;exact hb hi
 have hnew:∀i∈ids vh',i∈ids vh1∨¬ap (hp [(.n 0,.cells true [ii (n:Nat)])] 1 M3) i:=hF5
 have hsv:s∉ids vh':=λw=>(hnew s w).elim h1.d1.2.1 λw=>w hS4.o
 have hvB:∀i∈ids vh1,¬ap B i:=hS4.oh.new
 refine hK' _ ⟨vh',⟨by rw[hM6];exact (aO o5).trans aC,hC6.old o5,h1.nB,(hS4.oo.chg hC5 λi hi=>(h1.d2.1 i hi).1).chg hC6 (n6 h1.d1.1), ?_,(hS4.ot.chg hC5 λi hi q=>h1.d2.2 i q hi).chg hC6 (n6 h1.d1.2.2),⟨h1.d1.1,hsv,h1.d1.2.2⟩,⟨λi hi=>⟨λw=>(hnew i w).elim (h1.d2.1 i hi).1 λw=>w (hS4.oo.sl.old i hi),(h1.d2.1 i hi).2⟩,λi hi w=>(hnew i hi).elim (λq=>h1.d2.2 i q w) λq=>q (hS4.ot.sl.old i w)⟩,(hS4.c.trans hC5 λi hi ho=>adD ho (hvB i hi)).trans hC6 λi hi ho=>by have hi:=one hi;subst hi;exact adD ho h1.nB⟩,e1.trans ⟨?_,λj hj=> ?_⟩⟩
 ·rw[ab5];exact hO5.chg hC6 (n6 hsv)
 ·refine ((((k2.weak λi hi _=> ?_).trans k3 λi hi _=> ?_).tr hC4).trans hC5 λi hi _=> ?_).trans hC6 λi hi _=> ?_
  ·simp[xg,ht2 i hi]
  ·simp[xg,ho3 i hi]
  ·simp[xg,hi]
  ·have hi:=one hi;subst hi;simp[xg]
 ·simp only[xg,adJ,aa6] at hj ⊢
  rcases hj with hj|hj|hj|hj
  ·exact Or.inl (Or.inl hj)
  ·exact Or.inl (Or.inr (Or.inl hj))
  ·exact (hnew j hj).imp (λq=>Or.inr (Or.inr (Or.inl q))) λq w=>q (hC4.old (k3.old (k2.old w)))
  ·exact Or.inl (Or.inr (Or.inr (Or.inr hj)))
end
theorem Z5 {R:Nat} (h:1<=R/\R<=16) (m:NH):rT 283 [ii (R:Nat)] m (ii (R:Nat)) m:=by
 have h:∃w m',rT 283 [ii (R:Nat)] m w m'/\w=ii (R:Nat)/\m'=m:=by
  refine WF.ex λK' hK'=> ?_
  refine WF.of_wpG (λ_=>rfl) BX (L:= [(.e,ii (R:Nat))]) rfl ?_
  unfold Ok
  simp only[go_sem,seval,aa]
  rw[show max (0:Int) (min (R:Int) 16)=R by omega]
  exact hK' _ _ ⟨rfl,rfl⟩
 obtain⟨w,m',h,rfl,rfl⟩:=h
 exact h
structure Pst where
 out:List Pc
 has:List Int
 tk:List Bool
def XT (l:List (Int×Int)) (S:Pst) (v:Int):Option Pst:=
 if Er (mf l S.out (jz l v) S.tk S.has)<0 then none else
  some ⟨S.out.set v.toNat ⟨false,Er (mf l S.out (jz l v) S.tk S.has)⟩,oK l (jz l v) S.has++ [v],(mf l S.out (jz l v) S.tk S.has).set (Er (mf l S.out (jz l v) S.tk S.has)).toNat true⟩
def Ua (l:List (Int×Int)):List Int->Pst->Option Pst
 | [],S=>some S
 |v::r,S=>match XT l S v with
  |some S'=>Ua l r S'
  |none=>none
def kM (l:List (Int×Int)) (R:Nat):Option (List Pc):=(Ua l (ni l) ⟨List.replicate l.length ⟨false,0⟩, [],List.replicate R false⟩).map (·.out)
structure POk (N R i:Nat) (S:Pst):Prop where
 ol:S.out.length=N
 tl:S.tk.length=R
 hl:S.has.length<=i
 vl:∀x∈S.has,FJ N S.out R x
set_option maxHeartbeats 1000000 in
theorem ON  {l:List (Int×Int)} (hl:Sl m vl 2 (Ul l)) (hN:l.length<=80000) {R:Nat} (hR:1<=R/\R<=16) {out:List Pc} (hc:kM l R=some out):
 ∃v m',rT 217 [vl,ii (R:Nat)] m v m'/\aQ m m' v 2 (Pcs out)/\Chg [] m m':=by
 refine WF.ex λK' hK'=> ?_
 refine WF.of_wpG (λ_=>rfl) Dl (L:= [(.a .e,ii (R:Nat)),(.e,vl)]) rfl ?_
 unfold PK
 have hlen:=hl.len
 rw[aa0] at hlen
 have hlo:=hl.one
 have r0:=Z5 hR (hp [(.n 0,.cells true (rep l.length [.bool false,ii 0]))] 1 m)
 generalize hM1:hp [(.n 2,.cells true [vl,.slc (na m 0) 0 l.length 2 l.length,.nils,.slc (na m 1) 0 R 1 R,ii 0]),(.n 1,.cells true (rep R [.bool false])),(.n 0,.cells true (rep l.length [.bool false,ii 0]))] 3 m=M1
 have hC1:Chg [] m M1:=az hM1 rfl
 have gs:M1.get (na m 2)=some (.cells true [vl,.slc (na m 0) 0 l.length 2 l.length,.nils,.slc (na m 1) 0 R 1 R,ii 0]):=aI hM1
 have g1:M1.get (na m 1)=some (.cells true (rep R [.bool false])):=aI hM1
 have g0:M1.get (na m 0)=some (.cells true (rep l.length [.bool false,ii 0])):=aI hM1
 have os:ap M1 (na m 2):=aL hM1 (by omega)
 have o1:ap M1 (na m 1):=aL hM1 (by omega)
 have o0:ap M1 (na m 0):=aL hM1 (by omega)
 have nw:∀j,¬ap m (na m j):=λj q=>ak q
 have hS1:Sc m M1 (na m 2) vl (.slc (na m 0) 0 l.length 2 l.length) .nils (.slc (na m 1) 0 R 1 R) 0 (List.replicate l.length ⟨false,0⟩) [] (List.replicate R false):=
  ⟨gs,os,nw 2,aQ.of (by simp) (nw 0) g0 o0 (by rw[xi];simp) (by simp) (by simp),aQ.nil,aQ.of (by simp) (nw 1) g1 o1 (by rw[xi];simp) (by simp) (by simp),⟨by simp[ids,cn],by simp[ids],by simp[ids,cn]⟩,⟨λi hi=>⟨by simp[ids],by simp only[ids,adJ,adI,or_false] at hi ⊢;subst hi;rw[cn];omega⟩,by simp[ids]⟩,hC1⟩
 obtain⟨v,M2,r2,hO2,hC2⟩:=Q2 gs os (hl.grew hC1) (by omega)
 have hdl:=Kt l
 have hlv:=hO2.sl.len
 rw[aa0] at hlv
 have hS2:=hS1.grow hC2
 obtain⟨Sf,hSf,hSo⟩:=Option.map_eq_some_iff.1 hc
 have hno0:∀i∈ids v,i∉xg (na m 2) (.slc (na m 0) 0 l.length 2 l.length) .nils (.slc (na m 1) 0 R 1 R):=λi hi q=>hO2.new i hi (hS1.old i q).1
 simp (disch:=first|omega|(simp only[aA]<;>omega)) only[go_sem,seval,hlen,hlo,r0.wf',hM1,r2.wf',hlv]
 refine W.loop (λf q=>∃T M i vh S,q=⟨T, [],none,M⟩/\NT.get D4.e.a.a T=some (.ptr (na m 2) 0)/\NT.get D4.e.f.b T=some v/\NT.get D4.e.f.c T=some (ii ((ni l).length:Nat))/\NT.get D4.e.f.f T=some (ii (i:Nat))/\i+f=(ni l).length/\Sl M v 1 ((ni l).map λz=> [ii z])/\(∀j∈ids v,j∉xg (na m 2) (.slc (na m 0) 0 l.length 2 l.length) vh (.slc (na m 1) 0 R 1 R))/\Sc m M (na m 2) vl (.slc (na m 0) 0 l.length 2 l.length) vh (.slc (na m 1) 0 R 1 R) 0 S.out S.has S.tk/\POk l.length R i S/\Ua l ((ni l).drop i) S=some Sf) ?_ (ni l).length _ ⟨_,M2,0,.nils,⟨_,_,_⟩,rfl,by simp only[go_sem,seval],by simp only[go_sem,seval],by simp only[go_sem,seval],by simp only[go_sem,seval]<;>rfl,by omega,hO2.sl,hno0,hS2,⟨by simp,by simp,by simp,by simp⟩,hSf⟩
 rintro f q ⟨T,M,i,vh,S,rfl,t1,t2,t3,t4,hif,hv,hno,hS,hI,hA⟩
 apply av
 unfold xw
 change wp _ _ _ _ ⟨puts [] T, [],none,M⟩ _
 by_cases hi:i<(ni l).length
 ·obtain⟨id,off,w,c,a1,a2,a3,a4,a5⟩:=hv.at i (by simpa using hi)
  rw[aa4] at a5
  obtain⟨n1,n2⟩:=Lq (aa9 hi)
  rw[ab8 hi] at hA
  obtain⟨n,hn⟩:=adL n1
  have c0:c[off]? =some (ii (n:Nat)):=by rw[←hn];exact bm a5 0 (by omega)
  have hnN:n<l.length:=by omega
  have hhl:=hI.hl
  unfold Ua XT at hA
  rw[hn] at hA
  by_cases hz:Er (mf l S.out (jz l n) S.tk S.has)<0
  ·rw[adF hz] at hA;cases hA
  rw[adE hz] at hA
  dsimp only at hA
  obtain⟨r,hr⟩:=adL (show 0<=Er (mf l S.out (jz l n) S.tk S.has) by omega)
  have hrl:r<R:=by
   have:=My (mf l S.out (jz l n) S.tk S.has) 0
   rw[pG,hI.tl] at this
   unfold Er at hr
   omega
  rw[hr,ac8,ac8] at hA
  obtain⟨M3,r3,vh',hS3,hE⟩:=Ri hS hl ⟨rfl,hI.ol,by omega⟩ (by rw[hI.tl];exact hI.vl) (by omega) (by rw[hI.tl];omega) hnN hr
  simp (disch:=omega) only[go_sem,seval,t1,t2,t3,t4,a1,a2,c0,r3.wf']
  have hfl:(oK l (jz l n) S.has).length<=S.has.length:=List.length_filter_le _ _
  refine⟨f - 1,by omega,_,M3,i+1,vh',⟨_,_,_⟩,by rfl,by simp only[go_sem,seval,t1],by simp only[go_sem,seval,t2],by simp only[go_sem,seval,t3],by simp only[go_sem,seval]<;>rfl,by omega,hv.chg hE.1 hno,λj hj w=>(hE.2 j w).elim (hno j hj) λu=>u (hv.old j hj),hS3,⟨by rw[ac3];exact hI.ol,by rw[ac3,pG];exact hI.tl,by rw[aa5];show _+1<=_;omega,λx hx=> ?_⟩,hA⟩
  have hrg:∀x,rg (S.out.set n ⟨false,r⟩) x=if x.toNat=n then (r:Int) else rg S.out x:=λx=>by
   unfold rg
   by_cases e:x.toNat=n
   ·rw[adF e,e,List.getElem?_set_self (by rw[hI.ol];exact hnN)];rfl
   ·rw[adE e,List.getElem?_set_ne λq=>e q.symm]
  have hb:FJ l.length S.out R x∨x=n:=by
   rcases aa6.1 hx with q|q
   ·exact .inl (hI.vl x (List.mem_filter.1 q).1)
   ·exact .inr (by simpa using q)
  unfold FJ
  rw[hrg]
  rcases hb with⟨q1,q2,q3⟩|rfl
  ·split
   ·exact⟨q1,q2,by omega⟩
   ·exact⟨q1,q2,q3⟩
  ·rw[adF (ac8 n)]
   exact⟨by omega,by omega,by omega⟩
 ·have g:=hS.g
  have hvo:=hS.oo.sl.one
  rw[ad0 (by omega)] at hA
  injection hA with hA
  subst hA
  simp (disch:=omega) only[go_sem,seval,t1,t3,t4,g]
  exact hK' _ _ ⟨by rw[←hSo];exact hS.oo,hS.c⟩
structure WForm where
 w:Nat
 d:Nat×Nat
 a:Nat×Nat
 b:Nat×Nat
 s:Nat×Nat
 n:Nat×Nat
 c:Nat×Nat
 sg:Bool
 tn:Bool
variable {f:WForm}
abbrev u32 (z:Int):NV:= .int .u32 (.lit z)
def WForm.cells (f:WForm):List NV:= [u32 f.w,ii f.d.1,ii f.d.2,ii f.a.1,ii f.a.2,ii f.b.1,ii f.b.2,ii f.s.1,ii f.s.2,ii f.n.1,ii f.n.2,ii f.c.1,ii f.c.2,.bool f.sg,.bool f.tn]
def cu:List WForm:= [
 ⟨3531603968,(0,5),(0,0),(0,0),(21,2),(5,16),(0,0),false,false⟩,
 ⟨4068474880,(0,5),(0,0),(0,0),(21,2),(5,16),(0,0),false,false⟩,
 ⟨2332033024,(0,5),(5,5),(16,5),(0,0),(0,0),(0,0),false,false⟩,
 ⟨3405774848,(0,5),(5,5),(16,5),(0,0),(0,0),(0,0),false,false⟩,
 ⟨2600500224,(0,5),(5,5),(16,5),(0,0),(0,0),(0,0),false,false⟩,
 ⟨2315255808,(0,5),(5,5),(16,5),(0,0),(0,0),(0,0),false,false⟩,
 ⟨3942645791,(0,0),(5,5),(16,5),(0,0),(0,0),(0,0),false,false⟩,
 ⟨2594113504,(0,5),(0,0),(0,0),(0,0),(0,0),(12,4),false,true⟩,
 ⟨335544320,(0,0),(0,0),(0,0),(0,0),(0,26),(0,0),true,false⟩,
 ⟨1409286144,(0,0),(0,0),(0,0),(0,0),(5,19),(0,4),true,false⟩,
 ⟨3019898880,(0,0),(0,5),(0,0),(0,0),(5,19),(0,0),true,false⟩,
 ⟨3036676096,(0,0),(0,5),(0,0),(0,0),(5,19),(0,0),true,false⟩,
 ⟨4181721088,(0,5),(5,5),(0,0),(0,0),(10,12),(0,0),false,false⟩,
 ⟨4177526784,(0,5),(5,5),(0,0),(0,0),(10,12),(0,0),false,false⟩,
 ⟨3370122240,(0,5),(5,5),(0,0),(0,0),(0,0),(0,0),false,false⟩,
 ⟨3365927936,(0,5),(5,5),(0,0),(0,0),(0,0),(0,0),false,false⟩,
 ⟨3361700864,(0,5),(5,5),(0,0),(0,0),(0,0),(0,0),false,false⟩,
 ⟨3355474944,(0,5),(5,5),(0,0),(16,5),(0,0),(0,0),false,false⟩,
 ⟨3573758911,(0,0),(0,0),(0,0),(0,0),(0,0),(0,0),false,false⟩,
 ⟨3573758879,(0,0),(0,0),(0,0),(0,0),(0,0),(0,0),false,false⟩,
 ⟨3574299680,(0,0),(0,5),(0,0),(0,0),(0,0),(0,0),false,false⟩,
 ⟨3573751839,(0,0),(0,0),(0,0),(0,0),(0,0),(0,0),false,false⟩,
 ⟨3560964096,(0,0),(0,0),(0,0),(0,0),(0,0),(0,0),false,false⟩,
 ⟨3556769793,(0,0),(0,0),(0,0),(0,0),(0,0),(0,0),false,false⟩]
section
variable {m:NH} {A B C:D4}
theorem tW (m:NH) (x:Int):∃m',rT 241 [ii x] m (.agg [ii x,ii 5]) m'/\Chg [] m m':=by
 refine WF.ex1 λK hK=> ?_
 refine WF.of_wpG (λ_=>rfl) yS (L:= [(.e,ii x)]) rfl ?_
 unfold LL
 simp (disch:=first|omega|(simp only[aA]<;>omega)) only[go_sem,seval]
 exact hK _ (aw rfl)
theorem PN (hA:m.get A=some (.cells true [ii 0,ii 5])) (oA:ap m A) (w:Int):∃m',rT 242 [u32 w,.ptr A 0] m (.agg [u32 w,ii 0,ii 5,ii 0,ii 0,ii 0,ii 0,ii 21,ii 2,ii 5,ii 16,ii 0,ii 0,.bool false,.bool false]) m'/\Chg [] m m':=by
 refine WF.ex1 λK hK=> ?_
 refine WF.of_wpG (λ_=>rfl) ye (L:= [(.a .e,.ptr A 0),(.e,u32 w)]) rfl ?_
 unfold LE
 simp (disch:=first|omega|(simp only[aA]<;>omega)) only[go_sem,seval,hA]
 exact hK _ (aw rfl)
theorem pk (hA:m.get A=some (.cells true [ii 0,ii 5])) (oA:ap m A) (hB:m.get B=some (.cells true [ii 5,ii 5])) (oB:ap m B) (hC:m.get C=some (.cells true [ii 16,ii 5])) (oC:ap m C) (w:Int):∃m',rT 243 [u32 w,.ptr A 0,.ptr B 0,.ptr C 0] m (.agg [u32 w,ii 0,ii 5,ii 5,ii 5,ii 16,ii 5,ii 0,ii 0,ii 0,ii 0,ii 0,ii 0,.bool false,.bool false]) m'/\Chg [] m m':=by
 refine WF.ex1 λK hK=> ?_
 refine WF.of_wpG (λ_=>rfl) DC (L:= [(.c .e,.ptr C 0),(.b .e,.ptr B 0),(.a .e,.ptr A 0),(.e,u32 w)]) rfl ?_
 unfold N3
 simp (disch:=first|omega|(simp only[aA]<;>omega)) only[go_sem,seval,hA,hB,hC]
 exact hK _ (aw rfl)
theorem TZ (hA:m.get A=some (.cells true [ii 0,ii 5])) (oA:ap m A) (hB:m.get B=some (.cells true [ii 5,ii 5])) (oB:ap m B) (w:Int):∃m',rT 245 [u32 w,.ptr A 0,.ptr B 0] m (.agg [u32 w,ii 0,ii 5,ii 5,ii 5,ii 0,ii 0,ii 0,ii 0,ii 10,ii 12,ii 0,ii 0,.bool false,.bool false]) m'/\Chg [] m m':=by
 refine WF.ex1 λK hK=> ?_
 refine WF.of_wpG (λ_=>rfl) Dz (L:= [(.b .e,.ptr B 0),(.a .e,.ptr A 0),(.e,u32 w)]) rfl ?_
 unfold MG
 simp (disch:=first|omega|(simp only[aA]<;>omega)) only[go_sem,seval,hA,hB]
 exact hK _ (aw rfl)
theorem L5 (hA:m.get A=some (.cells true [ii 0,ii 5])) (oA:ap m A) (hB:m.get B=some (.cells true [ii 5,ii 5])) (oB:ap m B) (w:Int):∃m',rT 246 [u32 w,.ptr A 0,.ptr B 0] m (.agg [u32 w,ii 0,ii 5,ii 5,ii 5,ii 0,ii 0,ii 0,ii 0,ii 0,ii 0,ii 0,ii 0,.bool false,.bool false]) m'/\Chg [] m m':=by
 refine WF.ex1 λK hK=> ?_
 refine WF.of_wpG (λ_=>rfl) Dh (L:= [(.b .e,.ptr B 0),(.a .e,.ptr A 0),(.e,u32 w)]) rfl ?_
 unfold Ni
 simp (disch:=first|omega|(simp only[aA]<;>omega)) only[go_sem,seval,hA,hB]
 exact hK _ (aw rfl)
theorem rA (m:NH) (w:Int):∃m',rT 247 [u32 w] m (.agg [u32 w,ii 0,ii 0,ii 0,ii 0,ii 0,ii 0,ii 0,ii 0,ii 0,ii 0,ii 0,ii 0,.bool false,.bool false]) m'/\Chg [] m m':=by
 refine WF.ex1 λK hK=> ?_
 refine WF.of_wpG (λ_=>rfl) yA (L:= [(.e,u32 w)]) rfl ?_
 unfold Kv
 simp (disch:=first|omega|(simp only[aA]<;>omega)) only[go_sem,seval]
 exact hK _ (aw rfl)
theorem Pa (m:NH) (w:Int):∃m',rT 244 [u32 w] m (.agg [u32 w,ii 0,ii 0,ii 0,ii 5,ii 0,ii 0,ii 0,ii 0,ii 5,ii 19,ii 0,ii 0,.bool true,.bool false]) m'/\Chg [] m m':=by
 refine WF.ex1 λK hK=> ?_
 refine WF.of_wpG (λ_=>rfl) BP (L:= [(.e,u32 w)]) rfl ?_
 unfold P7
 generalize hM1:hp [(.n 0,.cells true [u32 0,ii 0,ii 0,ii 0,ii 0,ii 0,ii 0,ii 0,ii 0,ii 0,ii 0,ii 0,ii 0,.bool false,.bool false])] 1 m=M1
 have hC1:Chg [] m M1:=az hM1 rfl
 have g1:M1.get (na m 0)=some (.cells true [u32 0,ii 0,ii 0,ii 0,ii 0,ii 0,ii 0,ii 0,ii 0,ii 0,ii 0,ii 0,ii 0,.bool false,.bool false]):=aI hM1
 have o1:ap M1 (na m 0):=aL hM1 (by omega)
 obtain⟨m2,r2,C2⟩:=tW M1 0
 have g2:=(C2.get o1 (by simp)).trans g1
 have o2:=C2.old o1
 simp (disch:=first|omega|(simp only[aA]<;>omega)) only[go_sem,seval,hM1,r2.wf,g2]
 generalize hM3:hp _ 0 m2=M3
 have hC3:Chg [na m 0] m2 M3:=az hM3 rfl
 exact hK _ ((hC1.tr C2).trans hC3 λi hi q=>by rw[one hi] at q;exact adD q ak)
end
def fU:List (List NV):=cu.map WForm.cells
theorem tp:fU.length=24:=rfl
set_option maxHeartbeats 4000000 in
set_option maxRecDepth 100000 in
theorem vA (m:NH):∃v m',rT 164 [] m v m'/\Sl m' v 15 fU/\Chg [] m m':=by
 refine WF.ex λK hK=> ?_
 refine WF.of_wpG (λ_=>rfl) y6 (L:= []) rfl ?_
 unfold MY
 obtain⟨m1,r1,C1⟩:=tW m 0
 obtain⟨m2,r2,C2⟩:=tW m1 5
 obtain⟨m3,r3,C3⟩:=tW m2 16
 have c3:=(C1.tr C2).tr C3
 generalize hM:hp [(.n 2,.cells true [ii 16,ii 5]),(.n 1,.cells true [ii 5,ii 5]),(.n 0,.cells true [ii 0,ii 5]),(.n 2,.cells true [ii 0,ii 0]),(.n 1,.cells true [ii 0,ii 0]),(.n 0,.cells true [ii 0,ii 0])] 3 m3=M0
 have CM:Chg [] m3 M0:=az hM rfl
 have gA0:M0.get (na m3 0)=some (.cells true [ii 0,ii 5]):=aI hM
 have gB0:M0.get (na m3 1)=some (.cells true [ii 5,ii 5]):=aI hM
 have gC0:M0.get (na m3 2)=some (.cells true [ii 16,ii 5]):=aI hM
 have oA0:ap M0 (na m3 0):=aL hM (by omega)
 have oB0:ap M0 (na m3 1):=aL hM (by omega)
 have oC0:ap M0 (na m3 2):=aL hM (by omega)
 have D0:=c3.tr CM
 obtain⟨M1,R1,E1⟩:=PN gA0 oA0 3531603968
 have D1:=D0.tr E1
 have gA1:=(E1.get oA0 (by simp)).trans gA0
 have oA1:=E1.old oA0
 have gB1:=(E1.get oB0 (by simp)).trans gB0
 have oB1:=E1.old oB0
 have gC1:=(E1.get oC0 (by simp)).trans gC0
 have oC1:=E1.old oC0
 obtain⟨M2,R2,E2⟩:=PN gA1 oA1 4068474880
 have D2:=D1.tr E2
 have gA2:=(E2.get oA1 (by simp)).trans gA1
 have oA2:=E2.old oA1
 have gB2:=(E2.get oB1 (by simp)).trans gB1
 have oB2:=E2.old oB1
 have gC2:=(E2.get oC1 (by simp)).trans gC1
 have oC2:=E2.old oC1
 obtain⟨M3,R3,E3⟩:=pk gA2 oA2 gB2 oB2 gC2 oC2 2332033024
 have D3:=D2.tr E3
 have gA3:=(E3.get oA2 (by simp)).trans gA2
 have oA3:=E3.old oA2
 have gB3:=(E3.get oB2 (by simp)).trans gB2
 have oB3:=E3.old oB2
 have gC3:=(E3.get oC2 (by simp)).trans gC2
 have oC3:=E3.old oC2
 obtain⟨M4,R4,E4⟩:=pk gA3 oA3 gB3 oB3 gC3 oC3 3405774848
 have D4:=D3.tr E4
 have gA4:=(E4.get oA3 (by simp)).trans gA3
 have oA4:=E4.old oA3
 have gB4:=(E4.get oB3 (by simp)).trans gB3
 have oB4:=E4.old oB3
 have gC4:=(E4.get oC3 (by simp)).trans gC3
 have oC4:=E4.old oC3
 obtain⟨M5,R5,E5⟩:=pk gA4 oA4 gB4 oB4 gC4 oC4 2600500224
 have D5:=D4.tr E5
 have gA5:=(E5.get oA4 (by simp)).trans gA4
 have oA5:=E5.old oA4
 have gB5:=(E5.get oB4 (by simp)).trans gB4
 have oB5:=E5.old oB4
 have gC5:=(E5.get oC4 (by simp)).trans gC4
 have oC5:=E5.old oC4
 obtain⟨M6,R6,E6⟩:=pk gA5 oA5 gB5 oB5 gC5 oC5 2315255808
 have D6:=D5.tr E6
 have gA6:=(E6.get oA5 (by simp)).trans gA5
 have oA6:=E6.old oA5
 have gB6:=(E6.get oB5 (by simp)).trans gB5
 have oB6:=E6.old oB5
 have gC6:=(E6.get oC5 (by simp)).trans gC5
 have oC6:=E6.old oC5
 obtain⟨M7,R7,E7⟩:=Pa M6 3019898880
 have D7:=D6.tr E7
 have gA7:=(E7.get oA6 (by simp)).trans gA6
 have oA7:=E7.old oA6
 have gB7:=(E7.get oB6 (by simp)).trans gB6
 have oB7:=E7.old oB6
 have gC7:=(E7.get oC6 (by simp)).trans gC6
 have oC7:=E7.old oC6
 obtain⟨M8,R8,E8⟩:=Pa M7 3036676096
 have D8:=D7.tr E8
 have gA8:=(E8.get oA7 (by simp)).trans gA7
 have oA8:=E8.old oA7
 have gB8:=(E8.get oB7 (by simp)).trans gB7
 have oB8:=E8.old oB7
 have gC8:=(E8.get oC7 (by simp)).trans gC7
 have oC8:=E8.old oC7
 obtain⟨M9,R9,E9⟩:=TZ gA8 oA8 gB8 oB8 4181721088
 have D9:=D8.tr E9
 have gA9:=(E9.get oA8 (by simp)).trans gA8
 have oA9:=E9.old oA8
 have gB9:=(E9.get oB8 (by simp)).trans gB8
 have oB9:=E9.old oB8
 have gC9:=(E9.get oC8 (by simp)).trans gC8
 have oC9:=E9.old oC8
 obtain⟨M10,R10,E10⟩:=TZ gA9 oA9 gB9 oB9 4177526784
 have D10:=D9.tr E10
 have gA10:=(E10.get oA9 (by simp)).trans gA9
 have oA10:=E10.old oA9
 have gB10:=(E10.get oB9 (by simp)).trans gB9
 have oB10:=E10.old oB9
 have gC10:=(E10.get oC9 (by simp)).trans gC9
 have oC10:=E10.old oC9
 obtain⟨M11,R11,E11⟩:=L5 gA10 oA10 gB10 oB10 3370122240
 have D11:=D10.tr E11
 have gA11:=(E11.get oA10 (by simp)).trans gA10
 have oA11:=E11.old oA10
 have gB11:=(E11.get oB10 (by simp)).trans gB10
 have oB11:=E11.old oB10
 have gC11:=(E11.get oC10 (by simp)).trans gC10
 have oC11:=E11.old oC10
 obtain⟨M12,R12,E12⟩:=L5 gA11 oA11 gB11 oB11 3365927936
 have D12:=D11.tr E12
 have gA12:=(E12.get oA11 (by simp)).trans gA11
 have oA12:=E12.old oA11
 have gB12:=(E12.get oB11 (by simp)).trans gB11
 have oB12:=E12.old oB11
 have gC12:=(E12.get oC11 (by simp)).trans gC11
 have oC12:=E12.old oC11
 obtain⟨M13,R13,E13⟩:=L5 gA12 oA12 gB12 oB12 3361700864
 have D13:=D12.tr E13
 have gA13:=(E13.get oA12 (by simp)).trans gA12
 have oA13:=E13.old oA12
 have gB13:=(E13.get oB12 (by simp)).trans gB12
 have oB13:=E13.old oB12
 have gC13:=(E13.get oC12 (by simp)).trans gC12
 have oC13:=E13.old oC12
 obtain⟨M14,R14,E14⟩:=tW M13 16
 have D14:=D13.tr E14
 have gA14:=(E14.get oA13 (by simp)).trans gA13
 have oA14:=E14.old oA13
 have gB14:=(E14.get oB13 (by simp)).trans gB13
 have oB14:=E14.old oB13
 have gC14:=(E14.get oC13 (by simp)).trans gC13
 have oC14:=E14.old oC13
 obtain⟨M15,R15,E15⟩:=rA M14 3573758911
 have D15:=D14.tr E15
 have gA15:=(E15.get oA14 (by simp)).trans gA14
 have oA15:=E15.old oA14
 have gB15:=(E15.get oB14 (by simp)).trans gB14
 have oB15:=E15.old oB14
 have gC15:=(E15.get oC14 (by simp)).trans gC14
 have oC15:=E15.old oC14
 obtain⟨M16,R16,E16⟩:=rA M15 3573758879
 have D16:=D15.tr E16
 have gA16:=(E16.get oA15 (by simp)).trans gA15
 have oA16:=E16.old oA15
 have gB16:=(E16.get oB15 (by simp)).trans gB15
 have oB16:=E16.old oB15
 have gC16:=(E16.get oC15 (by simp)).trans gC15
 have oC16:=E16.old oC15
 obtain⟨M17,R17,E17⟩:=tW M16 0
 have D17:=D16.tr E17
 have gA17:=(E17.get oA16 (by simp)).trans gA16
 have oA17:=E17.old oA16
 have gB17:=(E17.get oB16 (by simp)).trans gB16
 have oB17:=E17.old oB16
 have gC17:=(E17.get oC16 (by simp)).trans gC16
 have oC17:=E17.old oC16
 obtain⟨M18,R18,E18⟩:=rA M17 3573751839
 have D18:=D17.tr E18
 have gA18:=(E18.get oA17 (by simp)).trans gA17
 have oA18:=E18.old oA17
 have gB18:=(E18.get oB17 (by simp)).trans gB17
 have oB18:=E18.old oB17
 have gC18:=(E18.get oC17 (by simp)).trans gC17
 have oC18:=E18.old oC17
 obtain⟨M19,R19,E19⟩:=rA M18 3560964096
 have D19:=D18.tr E19
 have gA19:=(E19.get oA18 (by simp)).trans gA18
 have oA19:=E19.old oA18
 have gB19:=(E19.get oB18 (by simp)).trans gB18
 have oB19:=E19.old oB18
 have gC19:=(E19.get oC18 (by simp)).trans gC18
 have oC19:=E19.old oC18
 obtain⟨M20,R20,E20⟩:=rA M19 3556769793
 have D20:=D19.tr E20
 have gA20:=(E20.get oA19 (by simp)).trans gA19
 have oA20:=E20.old oA19
 have gB20:=(E20.get oB19 (by simp)).trans gB19
 have oB20:=E20.old oB19
 have gC20:=(E20.get oC19 (by simp)).trans gC19
 have oC20:=E20.old oC19
 have s1:aU 4 (.agg [ii 0,ii 5]) (.agg [ii 0,ii 5])=true:=rfl
 have s2:aU 4 (.agg [ii 5,ii 5]) (.agg [ii 5,ii 5])=true:=rfl
 have s3:aU 4 (.agg [ii 16,ii 5]) (.agg [ii 16,ii 5])=true:=rfl
 rw[aa]
 simp (disch:=first|omega|(simp only[aA]<;>omega)) only[go_sem,seval,r1.wf',r2.wf',r3.wf,hM,s1,s2,s3,R1.wf',R2.wf',R3.wf',R4.wf',R5.wf',R6.wf',R7.wf',R8.wf',R9.wf',R10.wf',R11.wf',R12.wf',R13.wf',R14.wf',R15.wf',R16.wf',R17.wf',R18.wf',R19.wf',R20.wf,gA0,gB0,gC0,gA1,gB1,gC1,gA2,gB2,gC2,gA3,gB3,gC3,gA4,gB4,gC4,gA5,gB5,gC5,gA6,gB6,gC6,gA7,gB7,gC7,gA8,gB8,gC8,gA9,gB9,gC9,gA10,gB10,gC10,gA11,gB11,gC11,gA12,gB12,gC12,gA13,gB13,gC13,gA14,gB14,gC14,gA15,gB15,gC15,gA16,gB16,gC16,gA17,gB17,gC17,gA18,gB18,gC18,gA19,gB19,gC19,gA20,gB20,gC20]
 generalize hMF:hp _ 1 M20=MF
 have CF:Chg [] M20 MF:=az hMF rfl
 have gF:MF.get (na M20 0)=some (.cells true fU.flatten):=aI hMF
 have hf:Sl MF (.slc (na M20 0) 0 24 15 24) 15 fU:=⟨λy hy=>by obtain⟨z,-,rfl⟩:=ab3.1 hy;rfl,Or.inr ⟨_,0,24,true,_,by rw[tp],gF,aL hMF (by omega),by rw[tp];decide,rfl⟩⟩
 exact hK _ _ ⟨hf,D20.tr CF⟩
theorem Hf (x:Int) {k:IntKind} (hn:n<=62) {z:Int} (hz:x*(2 ^ n:Nat)=z) (h0:-9223372036854775808<=z) (h1:z<9223372036854775808):bH .num .shl (.int .i64 (.lit x)) (.int k (.lit (n:Int)))=some (.int .i64 (.lit z)):=by
 show Py .i64 x (Int.ofNat n)=_
 show cS .i64 (bM .i64 (xe x (.ofNat (Nat.pow 2 (ss .i64 n)))))=_
 rw[show ss .i64 n=n from by unfold ss;rw[show Nat.ble n (IntKind.bits .i64)=true from ab0 (by show n<=64;omega)];rfl,kq,show x*Int.ofNat (Nat.pow 2 n)=z from hz,cN,show IntKind.i64.wrap z=z from by rw[IntKind.wrap_i64];omega,bc]
def fq (v:Int) (n:Nat):Bool:=decide (0<=v)&&decide (v<((2 ^ n:Nat):Int))
def It (v:Int) (n:Nat):Bool:=if n=0 then decide (v=0) else decide (-((2 ^ (n - 1):Nat):Int)<=v)&&decide (v<((2 ^ (n - 1):Nat):Int))
theorem ry (m:NH) (n:Nat) (hn:n<=32):rT 297 [ii 0,ii n] m (.tup [ii 0,ii n]) m:=by
 have h:∃v m',rT 297 [ii 0,ii n] m v m'/\v= .tup [ii 0,ii n]/\m'=m:=by
  refine WF.ex λK hK=> ?_
  refine WF.of_wpG (λ_=>rfl) rW (L:= [(.a .e,ii n),(.e,ii 0)]) rfl ?_
  unfold GU
  simp (disch:=omega) only[go_sem,seval]
  refine hK _ _ ⟨?_,aa m⟩
  rw[show max (0:Int) (min (n:Int) (32 - max 0 (min 0 32)))=n by omega,show max (0:Int) (min 0 32)=0 by omega]
 obtain⟨v,m',h,rfl,rfl⟩:=h
 exact h
theorem th  (hn:n<=32):1<=2 ^ n/\2 ^ n<=4294967296:=by
 have h1:0<2 ^ n:=Nat.pow_pos (by omega)
 have h2:2 ^ n<=2 ^ 32:=Nat.pow_le_pow_right (by omega) hn
 exact⟨h1,h2⟩
theorem Ce (m:NH) (v:Int) (n:Nat) (hn:n<=32):rT 251 [ii v,ii n] m (.bool (fq v n)) m:=by
 have h:∃u m',rT 251 [ii v,ii n] m u m'/\u= .bool (fq v n)/\m'=m:=by
  refine WF.ex λK hK=> ?_
  refine WF.of_wpG (λ_=>rfl) zi (L:= [(.a .e,ii n),(.e,ii v)]) rfl ?_
  unfold Kz
  obtain⟨p1,p2⟩:=th hn
  have hs:=Hf 1 (k:= .i64) (n:=n) (by omega) (z:=((2 ^ n:Nat):Int)) (by omega) (by omega) (by omega)
  unfold fq at hK
  generalize 2 ^ n=p at p1 p2 hs hK
  by_cases h:0<=v
  ·simp only[go_sem,seval,(ry _ n hn).wf',hs,adH h]
   refine hK _ _ ⟨?_,aa m⟩
   simp[h]
  ·simp only[go_sem,seval,(ry _ n hn).wf',adG h]
   refine hK _ _ ⟨?_,aa m⟩
   simp[h]
 obtain⟨v,m',h,rfl,rfl⟩:=h
 exact h
theorem VF (m:NH) (v:Int) (n:Nat) (hn:n<=32):rT 252 [ii v,ii n] m (.bool (It v n)) m:=by
 have h:∃u m',rT 252 [ii v,ii n] m u m'/\u= .bool (It v n)/\m'=m:=by
  refine WF.ex λK hK=> ?_
  refine WF.of_wpG (λ_=>rfl) Dk (L:= [(.a .e,ii n),(.e,ii v)]) rfl ?_
  unfold MB
  by_cases h0:n=0
  ·subst h0
   have hc:∀m,rT 297 [ii 0,ii 0] m (.tup [ii 0,ii 0]) m:=λm=>ry m 0 hn
   simp only[go_sem,seval,(hc _).wf']
   refine hK _ _ ⟨?_,aa m⟩
   simp[It]
  ·obtain⟨p1,p2⟩:=th (n:=n - 1) (by omega)
   have e:((n:Int) - 1)=((n - 1:Nat):Int):=by omega
   have hs:=Hf 1 (k:= .i64) (n:=n - 1) (by omega) (z:=((2 ^ (n - 1):Nat):Int)) (by omega) (by omega) (by omega)
   have ht:=Hf (-1) (k:= .i64) (n:=n - 1) (by omega) (z:=-((2 ^ (n - 1):Nat):Int)) (by omega) (by omega) (by omega)
   rw[←e] at hs ht
   unfold It at hK
   rw[adE h0] at hK
   generalize 2 ^ (n - 1)=p at p1 p2 hs ht hK
   by_cases h:-(p:Int)<=v
   ·simp (disch:=omega) only[go_sem,seval,(ry _ n hn).wf',hs,ht,adH h]
    refine hK _ _ ⟨?_,aa m⟩
    simp[h]
   ·simp (disch:=omega) only[go_sem,seval,(ry _ n hn).wf',ht,adG h]
    refine hK _ _ ⟨?_,aa m⟩
    simp[h]
 obtain⟨v,m',h,rfl,rfl⟩:=h
 exact h
def cG (c:Int):Bool:=decide (c=0)||decide (c=1)||decide (c=11)||decide (c=10)
def Lg (f:WForm) (i:Iw):Bool:=fq i.d f.d.2&&fq i.a f.a.2&&fq i.b f.b.2&&fq i.s f.s.2
def aac (f:WForm) (i:Iw):Bool:=if f.sg then It i.n f.n.2 else fq i.n f.n.2
def Vq (f:WForm) (i:Iw):Bool:=if 0<f.c.2 then cG i.c else decide (i.c=0)
def je (f:WForm) (i:Iw):Bool:=aac f i&&Lg f i&&Vq f i
theorem WZ (m:NH) (c:Int):rT 253 [ii c] m (.bool (cG c)) m:=by
 have h:∃u m',rT 253 [ii c] m u m'/\u= .bool (cG c)/\m'=m:=by
  refine WF.ex λK hK=> ?_
  refine WF.of_wpG (λ_=>rfl) Cw (L:= [(.e,ii c)]) rfl ?_
  unfold P6
  unfold cG at hK
  by_cases h0:c=0
  ·subst h0;simp (disch:=first|assumption|omega) only[go_sem,seval];refine hK _ _ ⟨?_,aa m⟩;simp
  by_cases h1:c=1
  ·subst h1;simp (disch:=first|assumption|omega) only[go_sem,seval];refine hK _ _ ⟨?_,aa m⟩;simp
  by_cases h2:c=11
  ·subst h2;simp (disch:=first|assumption|omega) only[go_sem,seval];refine hK _ _ ⟨?_,aa m⟩;simp
  simp (disch:=first|assumption|omega) only[go_sem,seval,adG h0,adG h1,adG h2]
  refine hK _ _ ⟨?_,aa m⟩;simp[h0,h1,h2]
 obtain⟨v,m',h,rfl,rfl⟩:=h
 exact h
set_option maxHeartbeats 8000000 in
set_option maxRecDepth 100000 in
theorem HX (m:NH) (f:WForm) (i:Iw) (hd:f.d.2<=32) (ha:f.a.2<=32) (hb:f.b.2<=32) (hs:f.s.2<=32) (hn:f.n.2<=32):∃v m',rT 166 [.agg f.cells,.agg i.l] m v m'/\v= .bool (je f i)/\Chg [] m m':=by
 refine WF.ex λK hK=> ?_
 refine WF.of_wpG (λ_=>rfl) xI (L:= [(.a .e,.agg i.l),(.e,.agg f.cells)]) rfl ?_
 obtain⟨k,d,a,b,s,c,n⟩:=i
 obtain⟨w,⟨d0,d1⟩,⟨a0,a1⟩,⟨b0,b1⟩,⟨s0,s1⟩,⟨n0,n1⟩,⟨c0,c1⟩,sg,tn⟩:=f
 unfold PR
 simp only[WForm.cells,Iw.l]
 simp only[je,aac,Lg,Vq] at hK
 dsimp only at hd ha hb hs hn
 have hfn:∀m,_:=λm=>Ce m n n1 hn
 have hgn:∀m,_:=λm=>VF m n n1 hn
 have hfd:∀m,_:=λm=>Ce m d d1 hd
 have hfa:∀m,_:=λm=>Ce m a a1 ha
 have hfb:∀m,_:=λm=>Ce m b b1 hb
 have hfs:∀m,_:=λm=>Ce m s s1 hs
 have hcc:∀m,_:=λm=>WZ m c
 cases sg with
 |true=>
  cases h5:It n n1 with
  |false=>
   cases h1:fq d d1 with
   |false=>
    simp (disch:=first|assumption|omega) only[go_sem,seval,(hfn _).wf',(hgn _).wf',(hfd _).wf',h5,h1]
    refine hK _ _ ⟨?_,aw rfl⟩
    simp[h5,h1]
   |true=>
    cases h2:fq a a1 with
    |false=>
     simp (disch:=first|assumption|omega) only[go_sem,seval,(hfn _).wf',(hgn _).wf',(hfd _).wf',(hfa _).wf',h5,h1,h2]
     refine hK _ _ ⟨?_,aw rfl⟩
     simp[h5,h1,h2]
    |true=>
     cases h3:fq b b1 with
     |false=>
      simp (disch:=first|assumption|omega) only[go_sem,seval,(hfn _).wf',(hgn _).wf',(hfd _).wf',(hfa _).wf',(hfb _).wf',h5,h1,h2,h3]
      refine hK _ _ ⟨?_,aw rfl⟩
      simp[h5,h1,h2,h3]
     |true=>
      cases h4:fq s s1 with
      |false=>
       simp (disch:=first|assumption|omega) only[go_sem,seval,(hfn _).wf',(hgn _).wf',(hfd _).wf',(hfa _).wf',(hfb _).wf',(hfs _).wf',h5,h1,h2,h3,h4]
       refine hK _ _ ⟨?_,aw rfl⟩
       simp[h5,h1,h2,h3,h4]
      |true=>
       simp (disch:=first|assumption|omega) only[go_sem,seval,(hfn _).wf',(hgn _).wf',(hfd _).wf',(hfa _).wf',(hfb _).wf',(hfs _).wf',h5,h1,h2,h3,h4]
       refine hK _ _ ⟨?_,aw rfl⟩
       simp[h5,h1,h2,h3,h4]
  |true=>
   cases h1:fq d d1 with
   |false=>
    simp (disch:=first|assumption|omega) only[go_sem,seval,(hfn _).wf',(hgn _).wf',(hfd _).wf',h5,h1]
    refine hK _ _ ⟨?_,aw rfl⟩
    simp[h5,h1]
   |true=>
    cases h2:fq a a1 with
    |false=>
     simp (disch:=first|assumption|omega) only[go_sem,seval,(hfn _).wf',(hgn _).wf',(hfd _).wf',(hfa _).wf',h5,h1,h2]
     refine hK _ _ ⟨?_,aw rfl⟩
     simp[h5,h1,h2]
    |true=>
     cases h3:fq b b1 with
     |false=>
      simp (disch:=first|assumption|omega) only[go_sem,seval,(hfn _).wf',(hgn _).wf',(hfd _).wf',(hfa _).wf',(hfb _).wf',h5,h1,h2,h3]
      refine hK _ _ ⟨?_,aw rfl⟩
      simp[h5,h1,h2,h3]
     |true=>
      cases h4:fq s s1 with
      |false=>
       simp (disch:=first|assumption|omega) only[go_sem,seval,(hfn _).wf',(hgn _).wf',(hfd _).wf',(hfa _).wf',(hfb _).wf',(hfs _).wf',h5,h1,h2,h3,h4]
       refine hK _ _ ⟨?_,aw rfl⟩
       simp[h5,h1,h2,h3,h4]
      |true=>
       by_cases h6:0<c1
       ·cases h9:cG c with
        |false=>
         simp (disch:=first|assumption|omega) only[go_sem,seval,(hfn _).wf',(hgn _).wf',(hfd _).wf',(hfa _).wf',(hfb _).wf',(hfs _).wf',(hcc _).wf',h5,h1,h2,h3,h4,h9]
         refine hK _ _ ⟨?_,aw rfl⟩
         simp[h5,h1,h2,h3,h4,h6,h9]
        |true=>
         simp (disch:=first|assumption|omega) only[go_sem,seval,(hfn _).wf',(hgn _).wf',(hfd _).wf',(hfa _).wf',(hfb _).wf',(hfs _).wf',(hcc _).wf',h5,h1,h2,h3,h4,h9]
         refine hK _ _ ⟨?_,aw rfl⟩
         simp[h5,h1,h2,h3,h4,h6,h9]
       ·have h7:¬0<c1:=h6
        simp (disch:=first|assumption|omega) only[go_sem,seval,(hfn _).wf',(hgn _).wf',(hfd _).wf',(hfa _).wf',(hfb _).wf',(hfs _).wf',h5,h1,h2,h3,h4]
        refine hK _ _ ⟨?_,aw rfl⟩
        have h8:c1=0:=by omega
        simp[h5,h1,h2,h3,h4,h8]
 |false=>
  cases h5:fq n n1 with
  |false=>
   cases h1:fq d d1 with
   |false=>
    simp (disch:=first|assumption|omega) only[go_sem,seval,(hfn _).wf',(hfd _).wf',h5,h1]
    refine hK _ _ ⟨?_,aw rfl⟩
    simp[h5,h1]
   |true=>
    cases h2:fq a a1 with
    |false=>
     simp (disch:=first|assumption|omega) only[go_sem,seval,(hfn _).wf',(hfd _).wf',(hfa _).wf',h5,h1,h2]
     refine hK _ _ ⟨?_,aw rfl⟩
     simp[h5,h1,h2]
    |true=>
     cases h3:fq b b1 with
     |false=>
      simp (disch:=first|assumption|omega) only[go_sem,seval,(hfn _).wf',(hfd _).wf',(hfa _).wf',(hfb _).wf',h5,h1,h2,h3]
      refine hK _ _ ⟨?_,aw rfl⟩
      simp[h5,h1,h2,h3]
     |true=>
      cases h4:fq s s1 with
      |false=>
       simp (disch:=first|assumption|omega) only[go_sem,seval,(hfn _).wf',(hfd _).wf',(hfa _).wf',(hfb _).wf',(hfs _).wf',h5,h1,h2,h3,h4]
       refine hK _ _ ⟨?_,aw rfl⟩
       simp[h5,h1,h2,h3,h4]
      |true=>
       simp (disch:=first|assumption|omega) only[go_sem,seval,(hfn _).wf',(hfd _).wf',(hfa _).wf',(hfb _).wf',(hfs _).wf',h5,h1,h2,h3,h4]
       refine hK _ _ ⟨?_,aw rfl⟩
       simp[h5,h1,h2,h3,h4]
  |true=>
   cases h1:fq d d1 with
   |false=>
    simp (disch:=first|assumption|omega) only[go_sem,seval,(hfn _).wf',(hfd _).wf',h5,h1]
    refine hK _ _ ⟨?_,aw rfl⟩
    simp[h5,h1]
   |true=>
    cases h2:fq a a1 with
    |false=>
     simp (disch:=first|assumption|omega) only[go_sem,seval,(hfn _).wf',(hfd _).wf',(hfa _).wf',h5,h1,h2]
     refine hK _ _ ⟨?_,aw rfl⟩
     simp[h5,h1,h2]
    |true=>
     cases h3:fq b b1 with
     |false=>
      simp (disch:=first|assumption|omega) only[go_sem,seval,(hfn _).wf',(hfd _).wf',(hfa _).wf',(hfb _).wf',h5,h1,h2,h3]
      refine hK _ _ ⟨?_,aw rfl⟩
      simp[h5,h1,h2,h3]
     |true=>
      cases h4:fq s s1 with
      |false=>
       simp (disch:=first|assumption|omega) only[go_sem,seval,(hfn _).wf',(hfd _).wf',(hfa _).wf',(hfb _).wf',(hfs _).wf',h5,h1,h2,h3,h4]
       refine hK _ _ ⟨?_,aw rfl⟩
       simp[h5,h1,h2,h3,h4]
      |true=>
       by_cases h6:0<c1
       ·cases h9:cG c with
        |false=>
         simp (disch:=first|assumption|omega) only[go_sem,seval,(hfn _).wf',(hfd _).wf',(hfa _).wf',(hfb _).wf',(hfs _).wf',(hcc _).wf',h5,h1,h2,h3,h4,h9]
         refine hK _ _ ⟨?_,aw rfl⟩
         simp[h5,h1,h2,h3,h4,h6,h9]
        |true=>
         simp (disch:=first|assumption|omega) only[go_sem,seval,(hfn _).wf',(hfd _).wf',(hfa _).wf',(hfb _).wf',(hfs _).wf',(hcc _).wf',h5,h1,h2,h3,h4,h9]
         refine hK _ _ ⟨?_,aw rfl⟩
         simp[h5,h1,h2,h3,h4,h6,h9]
       ·have h7:¬0<c1:=h6
        simp (disch:=first|assumption|omega) only[go_sem,seval,(hfn _).wf',(hfd _).wf',(hfa _).wf',(hfb _).wf',(hfs _).wf',h5,h1,h2,h3,h4]
        refine hK _ _ ⟨?_,aw rfl⟩
        have h8:c1=0:=by omega
        simp[h5,h1,h2,h3,h4,h8]
def it (i:Iw):Bool:=decide (0<=i.k)&&decide (i.k<24)&&(match cu[i.k.toNat]? with|some f=>je f i|none=>false)
theorem Cf:∀f∈cu,f.d.2<=32/\f.a.2<=32/\f.b.2<=32/\f.s.2<=32/\f.n.2<=32:=by decide
theorem G6 (m:NH) (i:Iw):∃v m',rT 168 [.agg i.l] m v m'/\v= .bool (it i)/\Chg [] m m':=by
 refine WF.ex λK hK=> ?_
 refine WF.of_wpG (λ_=>rfl) AC (L:= [(.e,.agg i.l)]) rfl ?_
 obtain⟨k,d,a,b,s,c,n⟩:=i
 unfold Pd
 simp only[Iw.l]
 generalize hm0:hp [(AK.n 0,NO.cells true [ii k,ii d,ii a,ii b,ii s,ii c,ii n])] 1 m=m0
 obtain⟨v,m1,h1,hS,hC⟩:=vA m0
 have g0:m0.get (na m 0)=some (.cells true [ii k,ii d,ii a,ii b,ii s,ii c,ii n]):=by rw[←hm0];exact bt
 have o0:ap m0 (na m 0):=by rw[←hm0];exact aq (by omega)
 have g1:=(hC.get o0 (by simp)).trans g0
 have hC0:Chg [] m m0:=by rw[←hm0];exact aw rfl
 have hl:(fU.length:Int)=24:=rfl
 rw[←hm0] at h1
 by_cases h0:0<=k
 ·by_cases h2:k<24
  ·obtain⟨j,rfl⟩:=adL h0
   have hj:j<24:=by omega
   have hjf:j<cu.length:=hj
   obtain⟨id,off,w,cc,a1,a2,a3,a4,a5⟩:=hS.at j (by show j<24;exact hj)
   have e5:fU[j]'(by show j<24;exact hj)=(cu[j]'hjf).cells:=by simp[fU]
   rw[e5] at a5
   obtain⟨q1,q2,q3,q4,q5⟩:=Cf _ (aa9 hjf)
   obtain⟨u,m2,h3,hu,hC2⟩:=HX m1 (cu[j]'hjf) ⟨j,d,a,b,s,c,n⟩ q1 q2 q3 q4 q5
   subst hu
   have g2:=(hC2.get (hC.old o0) (by simp)).trans g1
   have a2':=(hC2.get a3 (by simp)).trans a2
   simp only[Iw.l] at h3
   generalize hf:cu[j]'hjf=f at *
   simp (disch:=first|assumption|omega|(simp only[aA]<;>omega)) only[go_sem,seval,h1.wf',g1,hS.len,hl,adH h0,adH h2,a1,a2,a5,h3.wf',g2,a2']
   refine hK _ _ ⟨?_,(hC0.tr hC).tr hC2⟩
   have hq:cu[j]? =some f:=by rw[List.getElem?_eq_getElem hjf,hf]
   simp[it,h2,hq]
  ·simp (disch:=first|assumption|omega) only[go_sem,seval,h1.wf',g1,hS.len,hl,adH h0,adG h2]
   refine hK _ _ ⟨?_,hC0.tr hC⟩
   simp[it,h2]
 ·simp (disch:=first|assumption|omega) only[go_sem,seval,h1.wf',g1,adG h0]
  refine hK _ _ ⟨?_,hC0.tr hC⟩
  simp[it,h0]
theorem G7 {op:BinOp} {b r:Nat} (ho:fB op=false) (hi:iK op .u32=gC op .u32) (ha:a<4294967296) (hb:b<4294967296) (hr:rx op .u32 a b=some r):bH .num op (u32 a) (u32 b)=some (u32 r):=by
 refine (jy ho).trans ?_
 rw[hi]
 show gC op .u32 (Int.ofNat a) (Int.ofNat b)=_
 unfold gC
 dsimp only
 rw[show Nat.ble (Nat.succ a) (bE .u32)=true from ab0 ha,show Nat.ble (Nat.succ b) (bE .u32)=true from ab0 hb,hr]
 show cS .u32 (.ofNat r)=_
 rw[bc];rfl
theorem uh  (hn:n<=32):bH .num .shl (u32 a) (ii n)=some (u32 ((a*2 ^ n % 4294967296:Nat):Int)):=by
 show Py .u32 (Int.ofNat a) (Int.ofNat n)=_
 show cS .u32 (bM .u32 (xe (.ofNat a) (.ofNat (Nat.pow 2 (ss .u32 n)))))=_
 rw[show ss .u32 n=n from by unfold ss;rw[show Nat.ble n (IntKind.bits .u32)=true from ab0 hn];rfl,bc]
 rfl
theorem zL {n:Int}:bM .u32 n=n % 4294967296:=by rw[cN];rfl
theorem WQ:∀n,n<33->(((1*2 ^ n % 4294967296:Nat):Int) - 1) % 4294967296=((2 ^ n - 1:Nat):Int):=by decide
theorem Xh {a b:Int}:bH .num .sub (u32 a) (u32 b)=some (u32 ((a - b) % 4294967296)):=by
 refine (jy rfl).trans ?_
 show cS .u32 (bM .u32 (Fd a b))=_
 rw[bc,zL,lW]
theorem QC {v:Int}:yY .u32 (ii v)= .val (u32 (v % 4294967296)):=by show NR.val (.int .u32 (.lit (bM .u32 v)))=_;rw[zL]
theorem Gi (m:NH) (a n:Nat) (h:a+n<=32):rT 297 [ii a,ii n] m (.tup [ii a,ii n]) m:=by
 have h:∃v m',rT 297 [ii a,ii n] m v m'/\v= .tup [ii a,ii n]/\m'=m:=by
  refine WF.ex λK hK=> ?_
  refine WF.of_wpG (λ_=>rfl) rW (L:= [(.a .e,ii n),(.e,ii a)]) rfl ?_
  unfold GU
  simp (disch:=omega) only[go_sem,seval]
  rw[show max (0:Int) (min (a:Int) 32)=a by omega,show max (0:Int) (min (n:Int) (32 - (a:Int)))=n by omega]
  exact hK _ _ ⟨rfl,aa m⟩
 obtain⟨v,m',h,rfl,rfl⟩:=h
 exact h
theorem Uh (m:NH) (n:Nat) (h:n<=32):rT 298 [ii n] m (u32 ((2 ^ n - 1:Nat):Int)) m:=by
 have h:∃v m',rT 298 [ii n] m v m'/\v=u32 ((2 ^ n - 1:Nat):Int)/\m'=m:=by
  refine WF.ex λK hK=> ?_
  refine WF.of_wpG (λ_=>rfl) zU (L:= [(.e,ii n)]) rfl ?_
  unfold Kx
  have e:bH .num .shl (u32 1) (ii n)=some (u32 ((1*2 ^ n % 4294967296:Nat):Int)):=uh (a:=1) h
  simp only[go_sem,seval,e,Xh]
  exact hK _ _ ⟨by rw[WQ n (by omega)],aa m⟩
 obtain⟨v,m',h,rfl,rfl⟩:=h
 exact h
def oW (a n:Nat):Nat:=(2 ^ n - 1)*2 ^ a % 4294967296
def PO (w a n:Nat) (v:Int):Nat:=Nat.lor (Nat.land w (4294967295 - oW a n)) (Nat.land ((v % 4294967296).toNat*2 ^ a % 4294967296) (oW a n))
theorem LQ (a n:Nat):oW a n<4294967296:=Nat.mod_lt _ (by decide)
theorem uw  {b:Nat} (h:a<4294967296):Nat.land a b<4294967296:=Nat.lt_of_le_of_lt Nat.and_le_left h
theorem W5  {v:Int} (hw:w<4294967296):PO w a n v<4294967296:=Nat.or_lt_two_pow (n:=32) (uw hw) (uw (Nat.mod_lt _ (by decide)))
theorem aai (m:NH) (v:Int) (hw:w<4294967296) (h:a+n<=32):rT 299 [u32 w,ii a,ii n,ii v] m (u32 (PO w a n v)) m:=by
 have h:∃u m',rT 299 [u32 w,ii a,ii n,ii v] m u m'/\u=u32 (PO w a n v)/\m'=m:=by
  refine WF.ex λK hK=> ?_
  refine WF.of_wpG (λ_=>rfl) zm (L:= [(.c .e,ii v),(.b .e,ii n),(.a .e,ii a),(.e,u32 w)]) rfl ?_
  unfold Ku
  have r1:=Gi m a n h
  have r2:=Uh m n (by omega)
  have e1:bH .num .shl (u32 ((2 ^ n - 1:Nat):Int)) (ii a)=some (u32 (oW a n)):=uh (a:=2 ^ n - 1) (by omega)
  have hv0:=Int.emod_nonneg v (b:=4294967296) (by decide)
  obtain⟨V,hV⟩:=adL hv0
  have e2:bH .num .shl (u32 (v % 4294967296)) (ii a)=some (u32 ((V*2 ^ a % 4294967296:Nat):Int)):=by rw[hV];exact uh (a:=V) (by omega)
  have e3:bH .num .andNot (u32 w) (u32 (oW a n))=some (u32 (Nat.land w (4294967295 - oW a n):Nat)):=G7 rfl rfl hw (LQ _ _) rfl
  have e4:bH .num .and (u32 ((V*2 ^ a % 4294967296:Nat):Int)) (u32 (oW a n))=some (u32 (Nat.land (V*2 ^ a % 4294967296) (oW a n):Nat)):=G7 rfl rfl (Nat.mod_lt _ (by decide)) (LQ _ _) rfl
  have e5:bH .num .or (u32 (Nat.land w (4294967295 - oW a n):Nat)) (u32 (Nat.land (V*2 ^ a % 4294967296) (oW a n):Nat))=some (u32 (Nat.lor (Nat.land w (4294967295 - oW a n)) (Nat.land (V*2 ^ a % 4294967296) (oW a n)):Nat)):=G7 rfl rfl (uw hw) (uw (Nat.mod_lt _ (by decide))) rfl
  rw[aa]
  simp only[go_sem,seval,r1.wf',r2.wf',e1,QC,e2,e3,e4,e5]
  refine hK _ _ ⟨?_,rfl⟩
  unfold PO
  rw[hV];rfl
 obtain⟨v,m',h,rfl,rfl⟩:=h
 exact h
def lj (w:Nat) (x:Nat×Nat) (v:Int):Nat:=if x.2=0 then w else PO w x.1 x.2 v
theorem gd  {x:Nat×Nat} {v:Int} (hw:w<4294967296):lj w x v<4294967296:=by unfold lj;split;exact hw;exact W5 hw
theorem tX (m:NH) (x:Nat×Nat) (v:Int) (hw:w<4294967296) (h:x.1+x.2<=32):∃m',rT 254 [u32 w,.agg [ii x.1,ii x.2],ii v] m (u32 (lj w x v)) m'/\Chg [] m m':=by
 refine WF.ex1 λK hK=> ?_
 refine WF.of_wpG (λ_=>rfl) xo (L:= [(.b .e,ii v),(.a .e,.agg [ii x.1,ii x.2]),(.e,u32 w)]) rfl ?_
 unfold N9
 obtain⟨a,n⟩:=x
 dsimp only at h ⊢
 generalize hM:hp [(.n 0,.cells true [ii a,ii n])] 1 m=M
 have hC:Chg [] m M:=az hM rfl
 have g:M.get (na m 0)=some (.cells true [ii a,ii n]):=aI hM
 unfold lj at hK
 dsimp only at hK
 by_cases hn:n=0
 ·subst hn
  rw[adF rfl] at hK
  simp only[go_sem,seval]
  exact hK _ (aw rfl)
 ·rw[adE hn] at hK
  have r1:=aai M v hw h
  simp (disch:=omega) only[go_sem,seval,hM,g,r1.wf']
  exact hK _ hC
def cxN (c:Int):Int:=if c=0 then 1 else if c=1 then 0 else if c=10 then 11 else 10
def Ry (c:Int):Prop:=c=0∨c=1∨c=10∨c=11
theorem acn  (h:Ry c):bH .num .xor (ii c) (ii 1)=some (ii (cxN c)):=by
 rcases h with rfl|rfl|rfl|rfl<;>rfl
theorem vK (a b:Int):aU 4 (.agg [ii a,ii b]) (.agg [ii a,ii b])=true:=by
 show eV (aU 3) [ii a,ii b] [ii a,ii b]=true
 refine iY λv hv=> ?_
 simp only[adJ,adI,or_false] at hv
 rcases hv with rfl|rfl<;>trivial
def zc (f:WForm) (i:Iw):Nat:=
 lj (lj (lj (lj (lj (lj f.w f.d i.d) f.a i.a) f.b i.b) f.s i.s) f.n i.n) f.c (if f.tn=true then cxN i.c else i.c)
def xS (f:WForm):Prop:=f.w<4294967296/\f.d.1+f.d.2<=32/\f.a.1+f.a.2<=32/\f.b.1+f.b.2<=32/\f.s.1+f.s.2<=32/\f.n.1+f.n.2<=32/\f.c.1+f.c.2<=32
instance (f:WForm):Decidable (xS f):=by unfold xS;infer_instance
theorem qf:∀f∈cu,xS f:=by decide
theorem WC  (i:Iw) (h:xS f):zc f i<4294967296:=gd (gd (gd (gd (gd (gd h.1)))))
set_option maxHeartbeats 2000000 in
theorem Ur (m:NH) (f:WForm) (i:Iw) (hf:xS f) (hc:f.tn=true->Ry i.c):∃m',rT 167 [.agg f.cells,.agg i.l] m (u32 (zc f i)) m'/\Chg [] m m':=by
 refine WF.ex1 λK hK=> ?_
 refine WF.of_wpG (λ_=>rfl) Cu (L:= [(.a .e,.agg i.l),(.e,.agg f.cells)]) rfl ?_
 obtain⟨k,d,a,b,s,c,n⟩:=i
 obtain⟨w,⟨d0,d1⟩,⟨a0,a1⟩,⟨b0,b1⟩,⟨s0,s1⟩,⟨n0,n1⟩,⟨c0,c1⟩,sg,tn⟩:=f
 unfold Ks
 obtain⟨f0,fd,fa,fb,fs,fn,fc⟩:=hf
 dsimp only at f0 fd fa fb fs fn fc hc
 unfold zc at hK
 dsimp only at hK
 simp only[WForm.cells]
 obtain⟨C,hCC⟩:∃C,C=(if tn=true then cxN c else c):=⟨_,rfl⟩
 rw[←hCC] at hK
 obtain⟨M,hC,g0,g1,o0,o1,hM⟩:∃M,Chg [] m M/\M.get (na m 0)=some (.cells true [u32 w,ii d0,ii d1,ii a0,ii a1,ii b0,ii b1,ii s0,ii s1,ii n0,ii n1,ii c0,ii c1,.bool sg,.bool tn])/\M.get (na m 1)=some (.cells true [ii k,ii d,ii a,ii b,ii s,ii C,ii n])/\ap M (na m 0)/\ap M (na m 1)/\
  M=(if tn=true then hp [(.n 1,.cells true [ii k,ii d,ii a,ii b,ii s,ii C,ii n]),(.n 1,.cells true [ii k,ii d,ii a,ii b,ii s,ii c,ii n]),(.n 0,.cells true [u32 w,ii d0,ii d1,ii a0,ii a1,ii b0,ii b1,ii s0,ii s1,ii n0,ii n1,ii c0,ii c1,.bool sg,.bool tn])] 2 m else hp [(.n 1,.cells true [ii k,ii d,ii a,ii b,ii s,ii C,ii n]),(.n 0,.cells true [u32 w,ii d0,ii d1,ii a0,ii a1,ii b0,ii b1,ii s0,ii s1,ii n0,ii n1,ii c0,ii c1,.bool sg,.bool tn])] 2 m):=by
  cases tn with
  |true=>exact⟨_,aw rfl,bt,bt,aq (by omega),aq (by omega),(adF rfl).symm⟩
  |false=>exact⟨_,aw rfl,bt,bt,aq (by omega),aq (by omega),(adE aa3).symm⟩
 obtain⟨m1,r1,c1'⟩:=tX M (d0,d1) d f0 fd
 have b1':=gd (x:=(d0,d1)) (v:=d) f0
 generalize lj w (d0,d1) d=w1 at *
 obtain⟨m2,r2,c2'⟩:=tX m1 (a0,a1) a b1' fa
 have b2':=gd (x:=(a0,a1)) (v:=a) b1'
 generalize lj w1 (a0,a1) a=w2 at *
 obtain⟨m3,r3,c3'⟩:=tX m2 (b0,b1) b b2' fb
 have b3':=gd (x:=(b0,b1)) (v:=b) b2'
 generalize lj w2 (b0,b1) b=w3 at *
 obtain⟨m4,r4,c4'⟩:=tX m3 (s0,s1) s b3' fs
 have b4':=gd (x:=(s0,s1)) (v:=s) b3'
 generalize lj w3 (s0,s1) s=w4 at *
 obtain⟨m5,r5,c5'⟩:=tX m4 (n0,n1) n b4' fn
 have b5':=gd (x:=(n0,n1)) (v:=n) b4'
 generalize lj w4 (n0,n1) n=w5 at *
 obtain⟨m6,r6,c6'⟩:=tX m5 (c0,c1) C b5' fc
 dsimp only at r1 r2 r3 r4 r5 r6
 have d2:=c1'.tr c2'
 have d3:=d2.tr c3'
 have d4:=d3.tr c4'
 have d5:=d4.tr c5'
 have x0:=(c1'.get o0 (by simp)).trans g0
 have y0:=(c1'.get o1 (by simp)).trans g1
 have x2:=(d2.get o0 (by simp)).trans g0
 have y2:=(d2.get o1 (by simp)).trans g1
 have x3:=(d3.get o0 (by simp)).trans g0
 have y3:=(d3.get o1 (by simp)).trans g1
 have x4:=(d4.get o0 (by simp)).trans g0
 have y4:=(d4.get o1 (by simp)).trans g1
 have x5:=(d5.get o0 (by simp)).trans g0
 have y5:=(d5.get o1 (by simp)).trans g1
 have hfin:=hK _ ((hC.tr d5).tr c6')
 cases tn with
 |true=>
  rw[adF rfl] at hM hCC
  have hx:=acn (hc rfl)
  rw[←hCC] at hx
  simp (disch:=first|omega|(simp only[aA]<;>omega)) only[go_sem,seval,hx,hM.symm,g0,g1,r1.wf',x0,y0,r2.wf',x2,y2,r3.wf',x3,y3,r4.wf',x4,y4,r5.wf',x5,y5,r6.wf',vK]
  exact hfin
 |false=>
  rw[adE aa3] at hM hCC
  subst hCC
  simp (disch:=first|omega|(simp only[aA]<;>omega)) only[go_sem,seval,hM.symm,g0,g1,r1.wf',x0,y0,r2.wf',x2,y2,r3.wf',x3,y3,r4.wf',x4,y4,r5.wf',x5,y5,r6.wf',vK]
  exact hfin
theorem vI {L:List NV} (h:∀v∈L,tK v):aU 4 (.agg L) (.agg L)=true:=by
 show eV (aU 3) L L=true
 exact iY h
def Pg (i:Iw):Option Nat:=if it i=true then (cu[i.k.toNat]?).map λf=>zc f i else none
theorem Ng:∀f∈cu,f.tn=true->0<f.c.2:=by decide
theorem Ef  {i:Iw} (hf:f∈cu) (h:je f i=true) (ht:f.tn=true):Ry i.c:=by
 have hc:=Ng f hf ht
 unfold je Vq cG at h
 rw[adF hc] at h
 simp only[ab6,Bool.or_eq_true,decide_eq_true_eq] at h
 unfold Ry
 omega
theorem EC {i:Iw} (h:it i=true):∃j:Nat,∃hj:j<cu.length,i.k=j/\je cu[j] i=true:=by
 unfold it at h
 simp only[ab6,decide_eq_true_eq] at h
 obtain⟨⟨h0,h1⟩,h2⟩:=h
 obtain⟨j,hj⟩:=adL h0
 have hjl:j<cu.length:=by show j<24;omega
 rw[hj,ac8,List.getElem?_eq_getElem hjl] at h2
 exact⟨j,hjl,hj,h2⟩
theorem xO  (hS:Sl m v 15 fU) (hj:j<cu.length):∃id off w c,fi 15 v (ii (j:Nat))= .val (.ptr id off)/\m.get id=some (.cells w c)/\ap m id/\off+15<=c.length/\(c.drop off).take 15=(cu[j]'hj).cells:=by
 obtain⟨id,off,w,cc,a1,a2,a3,a4,a5⟩:=hS.at j (by show j<24;exact hj)
 have e5:fU[j]'(by show j<24;exact hj)=(cu[j]'hj).cells:=by simp[fU]
 rw[e5] at a5
 exact⟨id,off,w,cc,a1,a2,a3,a4,a5⟩
theorem KB (m:NH) (i:Iw):∃v m',rT 290 [.agg i.l] m v m'/\v=(match Pg i with|some w=> .tup [u32 w,ii 0]|none=> .tup [u32 0,ii 1])/\Chg [] m m':=by
 refine WF.ex λK hK=> ?_
 refine WF.of_wpG (λ_=>rfl) CD (L:= [(.e,.agg i.l)]) rfl ?_
 unfold NJ
 generalize hM:hp [(.n 0,.cells true i.l)] 1 m=M
 have hC:Chg [] m M:=az hM rfl
 have g:M.get (na m 0)=some (.cells true i.l):=aI hM
 have o:ap M (na m 0):=aL hM (by omega)
 have hil:i.l.length=7:=rfl
 obtain⟨v1,m1,r1,e1,C1⟩:=G6 M i
 subst e1
 have g1:=(C1.get o (by simp)).trans g
 have o1:=C1.old o
 unfold Pg at hK
 cases hb:it i with
 |false=>
  rw[hb] at r1
  rw[hb,adE aa3] at hK
  simp only[go_sem,seval,hM,g,hil,r1.wf']
  exact hK _ _ ⟨rfl,hC.tr C1⟩
 |true=>
  rw[hb] at r1
  rw[hb,adF rfl] at hK
  obtain⟨j,hj,hk,hr⟩:=EC hb
  rw[hk,ac8,List.getElem?_eq_getElem hj] at hK
  obtain⟨v2,m2,r2,hS,C2⟩:=vA m1
  have g2:=(C2.get o1 (by simp)).trans g1
  obtain⟨id,off,w,cc,a1,a2,a3,a4,a5⟩:=xO hS hj
  have hfm:=aa9 hj
  obtain⟨m3,r3,C3⟩:=Ur m2 cu[j] i (qf _ hfm) (Ef hfm hr)
  dsimp only[Option.map_some] at hK
  generalize cu[j]=f at *
  obtain⟨k,d,a,b,s,c,n⟩:=i
  dsimp only at hk
  subst hk
  simp only[go_sem,seval,hM,g,r1.wf',g1,r2.wf',g2,a1,a2,a4,a5,r3.wf']
  refine⟨?_,hK _ _ ⟨rfl,((hC.tr C1).tr C2).tr C3⟩⟩
  refine vI λv hv=> ?_
  simp only[adJ,adI,or_false] at hv
  rcases hv with rfl|rfl|rfl|rfl|rfl|rfl|rfl<;>trivial
def KR (i:Iw):Bool:=decide (8<=i.k)&&decide (i.k<=11)
theorem PG (m:NH) (i:Iw):∃m',rT 289 [.agg i.l] m (.bool (KR i)) m'/\Chg [] m m':=by
 refine WF.ex1 λK hK=> ?_
 refine WF.of_wpG (λ_=>rfl) zt (L:= [(.e,.agg i.l)]) rfl ?_
 unfold J5
 unfold KR at hK
 obtain⟨k,d,a,b,s,c,n⟩:=i
 dsimp only at hK
 by_cases h1:8<=k
 ·by_cases h2:k<=11
  ·rw[adH h1,adH h2] at hK
   simp only[go_sem,seval,h1,h2];exact hK _ (aw rfl)
  ·rw[adH h1,adG h2] at hK
   simp only[go_sem,seval,h1,h2];exact hK _ (aw rfl)
 ·rw[adG h1] at hK
  simp only[go_sem,seval,h1];exact hK _ (aw rfl)
abbrev Ek (l:List Nat):List (List NV):=l.map λ(w:Nat)=> [u32 w]
def xf:List Iw->Option (List Nat)
 | []=>some []
 |i::l=>match Pg i with
  |some w=>(xf l).map (w::·)
  |none=>none
theorem Vf (i:Iw) (l:List Iw):xf (i::l)=(match Pg i with|some w=>(xf l).map (w::·)|none=>none):=rfl
theorem LB  {l:List Iw} (hv:Sl m v 7 (Qn l)) (hl:l.length<=9000000):∃w m',rT 220 [v] m w m'/\(match xf l with|some ws=>∃u,w= .tup [u,ii 0]/\aQ m m' u 1 (Ek ws)|none=>w= .tup [.nils,ii 1])/\Chg [] m m':=by
 refine WF.ex λK hK=> ?_
 refine WF.of_wpG (λ_=>rfl) BI (L:= [(.e,v)]) rfl ?_
 unfold PI
 have hlen:=hv.len
 rw[aa0] at hlen
 rw[aa]
 simp only[go_sem,seval,hlen]
 refine W.loop (λk D=>∃t M i u A,D=⟨t, [],none,M⟩/\NT.get D4.e.f t=some u/\NT.get D4.e.b.a t=some v/\NT.get D4.e.b.b t=some (ii l.length)/\NT.get D4.e.b.c t=some (ii (i:Nat))/\i+k=l.length/\A.length=i/\xf l=(xf (l.drop i)).map (A++·)/\aQ m M u 1 (Ek A)/\Chg [] m M) ?_ l.length _
  ⟨_,m,0,.nils, [],rfl,by simp only[go_sem,seval],by simp only[go_sem,seval],by simp only[go_sem,seval],by simp only[go_sem,seval],by omega,rfl,by simp,aQ.nil,Chg.refl m⟩
 rintro k D ⟨t,M,i,u,A,rfl,t1,t2,t3,t4,hik,hAl,hA,hO,hC⟩
 apply av
 unfold Cb
 change wp _ _ _ _ ⟨puts [] t, [],none,M⟩ _
 rw[←aa M]
 by_cases hi:i<l.length
 ·obtain⟨id,off,wr,c,a1,a2,a3,a4,a5⟩:=(hv.chg hC (by simp)).at i (by simpa using hi)
  rw[aa4] at a5
  have hsl:(Iw.l l[i]).length=7:=rfl
  rw[ab8 hi] at hA
  rw[Vf] at hA
  generalize l[i]=x at a5 hsl hA
  generalize hM2:hp [(.n 0,.cells true x.l),(.n 0,.cells true [.int .i64 (.lit 0),.int .i64 (.lit 0),.int .i64 (.lit 0),.int .i64 (.lit 0),.int .i64 (.lit 0),.int .i64 (.lit 0),.int .i64 (.lit 0)])] 1 M=M2
  have hC2:Chg [] M M2:=az hM2 rfl
  have gl:M2.get (na M 0)=some (.cells true x.l):=aI hM2
  obtain⟨w3,M3,r3,e3,C3⟩:=KB M2 x
  cases hx:Pg x with
  |none=>
   rw[hx] at hA e3
   dsimp only at e3
   subst e3
   dsimp only[Option.map_none] at hA
   simp (disch:=first|omega|(simp only[aA]<;>omega)) only[go_sem,seval,t2,t3,t4,a1,a2,a5,hM2,gl,r3.wf']
   exact hK _ _ ⟨by rw[hA],(hC.tr hC2).tr C3⟩
  |some w=>
   rw[hx] at hA e3
   dsimp only at e3
   subst e3
   simp (disch:=first|omega|(simp only[aA]<;>omega)) only[go_sem,seval,t1,t2,t3,t4,a1,a2,a5,hM2,gl,r3.wf]
   generalize hM4:hp _ 1 M3=M4
   have hC4:Chg [] M3 M4:=az hM4 rfl
   have gx:M4.get (na M3 0)=some (.cells true [u32 w]):=aI hM4
   have c24:=(hC2.tr C3).tr hC4
   obtain⟨u',M6,q1,o6,hC6,hF⟩:=(hO.chg c24 (by simp)).app2 (bytes:=4) (kc:=1) gx (aL hM4 (by omega)) rfl (λi hi=>c24.old (hC.old hi)) (by rw[aa0];omega) (by rw[aa0];omega)
   simp (disch:=omega) only[go_sem,seval,t4,q1]
   refine⟨l.length - (i+1),by omega,_,M6,i+1,u',A++ [w],by rfl,by simp only[go_sem,seval],by simp only[go_sem,seval,t2],by simp only[go_sem,seval,t3],by simp only[go_sem,seval]<;>rfl,by omega,by simp[hAl], ?_,by show aQ m M6 u' 1 ((A++ [w]).map _);rw[ab5];exact o6,(hC.tr c24).trans hC6 λi hi q=>adD q (hO.new i hi)⟩
   rw[hA,Option.map_map]
   congr 1
   funext z
   simp
 ·rw[ad0 (by omega)] at hA
  have hA:xf l=some A:=by rw[hA];simp[xf]
  simp (disch:=omega) only[go_sem,seval,t1,t3,t4]
  rw[aa]
  exact hK _ _ ⟨by rw[hA];exact⟨u,rfl,hO⟩,hC⟩
def VM (lb:List Int) (N at_:Nat) (i:Iw):Option Iw:=
 if KR i=true/\i.b=1 then
  if i.n<0∨(lb.length:Int)<=i.n∨((lb[i.n.toNat]?).getD 0)<0∨(N:Int)<(lb[i.n.toNat]?).getD 0 then none
  else if it ⟨i.k,i.d,i.a,0,i.s,i.c,(lb[i.n.toNat]?).getD 0 - at_⟩=true then some ⟨i.k,i.d,i.a,0,i.s,i.c,(lb[i.n.toNat]?).getD 0 - at_⟩ else none
 else some i
def Jn (lb:List Int) (N:Nat):Nat->List Iw->Option (List Iw)
 |_, []=>some []
 |k,i::l=>match VM lb N k i with
  |some j=>(Jn lb N (k+1) l).map (j::·)
  |none=>none
theorem XC (lb:List Int) (N k:Nat) (i:Iw) (l:List Iw):Jn lb N k (i::l)=(match VM lb N k i with|some j=>(Jn lb N (k+1) l).map (j::·)|none=>none):=rfl
def ID (l:List Iw) (lb:List Int):Option (List Iw):=Jn lb l.length 0 l
theorem pK  {l:List Int} (h:Sl m v 1 (dM l)) (hn:n<l.length):∃id off w c,fi 1 v (ii (n:Nat))= .val (.ptr id off)/\m.get id=some (.cells w c)/\ap m id/\c[off]? =some (ii l[n]):=by
 obtain⟨id,off,w,c,a1,a2,a3,a4,a5⟩:=h.at n (by simpa using hn)
 rw[aa4] at a5
 exact⟨id,off,w,c,a1,a2,a3,bm a5 0 (by omega)⟩
set_option maxHeartbeats 2000000 in
theorem Wa  {vb:NV} {l:List Iw} {lb:List Int} (hv:Sl m v 7 (Qn l)) (hb:Sl m vb 1 (dM lb)) (hl:l.length<=9000000) (hlb:lb.length<=1000000):∃w m',rT 219 [v,vb] m w m'/\(match ID l lb with|some ws=>∃u,w= .tup [u,ii 0]/\aQ m m' u 7 (Qn ws)|none=>w= .tup [.nils,ii 10])/\Chg [] m m':=by
 refine WF.ex λK hK=> ?_
 refine WF.of_wpG (λ_=>rfl) DK (L:= [(.a .e,vb),(.e,v)]) rfl ?_
 unfold Nf
 have hlen:=hv.len
 rw[aa0] at hlen
 have hblen:=hb.len
 rw[aa0] at hblen
 rw[aa]
 simp only[go_sem,seval,hlen]
 refine W.loop (λk D=>∃t M i u A,D=⟨t, [],none,M⟩/\NT.get D4.e.a t=some vb/\NT.get D4.e t=some v/\NT.get D4.e.a.b t=some u/\NT.get D4.e.b.a t=some v/\NT.get D4.e.b.b t=some (ii l.length)/\NT.get D4.e.b.c t=some (ii (i:Nat))/\i+k=l.length/\A.length=i/\ID l lb=(Jn lb l.length i (l.drop i)).map (A++·)/\aQ m M u 7 (Qn A)/\Chg [] m M) ?_ l.length _
  ⟨_,m,0,.nils, [],rfl,by simp only[go_sem,seval],by simp only[go_sem,seval],by simp only[go_sem,seval],by simp only[go_sem,seval],by simp only[go_sem,seval],by simp only[go_sem,seval],by omega,rfl,by simp[ID],aQ.nil,Chg.refl m⟩
 rintro k D ⟨t,M,i,u,A,rfl,t0,t00,t1,t2,t3,t4,hik,hAl,hA,hO,hC⟩
 apply av
 unfold BT
 change wp _ _ _ _ ⟨puts [] t, [],none,M⟩ _
 rw[←aa M]
 by_cases hi:i<l.length
 ·obtain⟨id,off,wr,c,a1,a2,a3,a4,a5⟩:=(hv.chg hC (by simp)).at i (by simpa using hi)
  rw[aa4] at a5
  have hsl:(Iw.l l[i]).length=7:=rfl
  rw[ab8 hi,XC] at hA
  generalize l[i]=x at a5 hsl hA
  generalize hM2:hp [(.n 0,.cells true x.l),(.n 0,.cells true [.int .i64 (.lit 0),.int .i64 (.lit 0),.int .i64 (.lit 0),.int .i64 (.lit 0),.int .i64 (.lit 0),.int .i64 (.lit 0),.int .i64 (.lit 0)])] 1 M=M2
  have hC2:Chg [] M M2:=az hM2 rfl
  have gl:M2.get (na M 0)=some (.cells true x.l):=aI hM2
  have ol:ap M2 (na M 0):=aL hM2 (by omega)
  obtain⟨M3,r3,C3⟩:=PG M2 x
  have g3:=(C3.get ol (by simp)).trans gl
  have o3:=C3.old ol
  have nm:na M 0∉ids u:=λq=>ak (hO.sl.old _ q)
  unfold VM at hA
  by_cases hbr:KR x=true/\x.b=1
  ·rw[adF hbr] at hA
   obtain⟨hbr1,hbr2⟩:=hbr
   rw[hbr1] at r3
   obtain⟨k',d',a',b',s',c',n'⟩:=x
   dsimp only at hA hbr2
   subst hbr2
   by_cases h1:n'<0
   ·rw[adF (.inl h1)] at hA
    dsimp only at hA
    rw[Option.map_none] at hA
    simp (disch:=first|omega|(simp only[aA]<;>omega)) only[go_sem,seval,t2,t3,t4,a1,a2,a5,hM2,gl,r3.wf,g3,h1]
    rw[aa];exact hK _ _ ⟨by rw[hA],(hC.tr hC2).tr C3⟩
   by_cases h2:(lb.length:Int)<=n'
   ·rw[adF (.inr (.inl h2))] at hA
    dsimp only at hA
    rw[Option.map_none] at hA
    simp (disch:=first|omega|(simp only[aA]<;>omega)) only[go_sem,seval,t0,t2,t3,t4,a1,a2,a5,hM2,gl,r3.wf,g3,h1,hblen,h2]
    rw[aa];exact hK _ _ ⟨by rw[hA],(hC.tr hC2).tr C3⟩
   obtain⟨n,rfl⟩:=adL (by omega:0<=n')
   have hn:n<lb.length:=by omega
   obtain⟨id2,off2,wr2,c2,b1,b2',b3,b4⟩:=pK hb hn
   have cm3:Chg [] m M3:=(hC.tr hC2).tr C3
   have b2:=(cm3.get b3 (by simp)).trans b2'
   have o2:=cm3.old b3
   have ne:na M 0≠id2:=λq=>ak (hC.old (q▸b3))
   have ne':id2≠na M 0:=λq=>ne q.symm
   rw[ac8,List.getElem?_eq_getElem hn,ae5] at hA
   generalize lb[n]=y at hA b4
   by_cases h3:y<0
   ·rw[adF (.inr (.inr (.inl h3)))] at hA
    dsimp only at hA
    rw[Option.map_none] at hA
    simp (disch:=first|omega|(simp only[aA]<;>omega)) only[go_sem,seval,t0,t2,t3,t4,a1,a2,a5,hM2,gl,r3.wf,g3,h1,hblen,h2,b1,b2,b4,h3]
    rw[aa];exact hK _ _ ⟨by rw[hA],(hC.tr hC2).tr C3⟩
   by_cases h4:(l.length:Int)<y
   ·rw[adF (.inr (.inr (.inr h4)))] at hA
    dsimp only at hA
    rw[Option.map_none] at hA
    simp (disch:=first|omega|(simp only[aA]<;>omega)) only[go_sem,seval,t0,t00,t2,t3,t4,a1,a2,a5,hM2,gl,r3.wf,g3,h1,hblen,h2,b1,b2,b4,h3,hlen,h4]
    rw[aa];exact hK _ _ ⟨by rw[hA],(hC.tr hC2).tr C3⟩
   rw[adE (by omega)] at hA
   simp (disch:=first|omega|(simp only[aA]<;>omega)) only[go_sem,seval,t0,t00,t2,t3,t4,a1,a2,a5,hM2,gl,r3.wf,g3,h1,hblen,h2,b1,b2,b4,h3,hlen,h4,bf ne',lT]
   generalize hM5:hp [(_,_),(_,_)] 0 M3=M5
   have hC5:Chg [na M 0,na M 0] M3 M5:=az hM5 rfl
   have c5:Chg [] M M5:=(((hC2.tr C3).trans hC5 (λi q hi=>adD ((by simpa using q:i=na M 0)▸hi) ak)))
   obtain⟨w7,M7,r7,rfl,C7⟩:=G6 M5 ⟨k',d',a',0,s',c',y - i⟩
   have gg:M5.get (na M 0)=some (.cells true (Iw.l ⟨k',d',a',0,s',c',y - i⟩)):=nF o3 hM5
   have g7:=(C7.get (hC5.old o3) (by simp)).trans gg
   have c7:=c5.tr C7
   cases hR:it ⟨k',d',a',0,s',c',y - i⟩ with
   |false=>
    rw[hR] at hA r7
    try rw[adE (by decide)] at hA
    try rw[adF rfl] at hA
    try dsimp only at hA
    simp only[go_sem,seval,r7.wf]
    rw[aa];exact hK _ _ ⟨by rw[hA];rfl,hC.tr c7⟩
   |true=>
    rw[hR] at hA r7
    try rw[adE (by decide)] at hA
    try rw[adF rfl] at hA
    try dsimp only at hA
    simp (disch:=first|omega|(simp only[aA]<;>omega)) only[go_sem,seval,r7.wf,t1,g7]
    generalize hM4:hp _ 1 M7=M4
    have hC4:Chg [] M7 M4:=az hM4 rfl
    have gx:M4.get (na M7 0)=some (.cells true (⟨k',d',a',0,s',c',y - i⟩:Iw).l):=aI hM4
    have c24:Chg [] M M4:=c7.tr hC4
    obtain⟨u',M6,q1,o6,hC6,hF⟩:=(hO.chg c24 (by simp)).app2 (bytes:=56) (kc:=1) gx (aL hM4 (by omega)) rfl (λi hi=>c24.old (hC.old hi)) (by rw[aa0];omega) (by rw[aa0];omega)
    simp (disch:=omega) only[go_sem,seval,t4,q1]
    refine⟨l.length - (i+1),by omega,_,M6,i+1,u',A++ [(⟨k',d',a',0,s',c',y - i⟩:Iw)],by rfl,by simp only[go_sem,seval,t0],by simp only[go_sem,seval,t00],by simp only[go_sem,seval],by simp only[go_sem,seval,t2],by simp only[go_sem,seval,t3],by simp only[go_sem,seval]<;>rfl,by omega,by simp[hAl], ?_,by show aQ m M6 u' 7 ((A++ [(⟨k',d',a',0,s',c',y - i⟩:Iw)]).map _);rw[ab5];exact o6,(hC.tr c24).trans hC6 λi hi q=>adD q (hO.new i hi)⟩
    rw[hA,Option.map_map]
    congr 1
    funext z
    simp
  ·rw[adE hbr] at hA
   have hbr':KR x=false∨x.b≠1:=by by_cases q:KR x=true;exact .inr λh=>hbr ⟨q,h⟩;exact .inl (by simpa using q)
   dsimp only at hA
   rcases hbr' with q|q
   ·rw[q] at r3
    simp (disch:=first|omega|(simp only[aA]<;>omega)) only[go_sem,seval,t1,t2,t3,t4,a1,a2,a5,hM2,gl,r3.wf,g3]
    generalize hM4:hp _ 1 M3=M4
    have hC4:Chg [] M3 M4:=az hM4 rfl
    have gx:M4.get (na M3 0)=some (.cells true x.l):=aI hM4
    have c24:Chg [] M M4:=(hC2.tr C3).tr hC4
    obtain⟨u',M6,q1,o6,hC6,hF⟩:=(hO.chg c24 (by simp)).app2 (bytes:=56) (kc:=1) gx (aL hM4 (by omega)) rfl (λi hi=>c24.old (hC.old hi)) (by rw[aa0];omega) (by rw[aa0];omega)
    simp (disch:=omega) only[go_sem,seval,t4,q1]
    refine⟨l.length - (i+1),by omega,_,M6,i+1,u',A++ [x],by rfl,by simp only[go_sem,seval,t0],by simp only[go_sem,seval,t00],by simp only[go_sem,seval],by simp only[go_sem,seval,t2],by simp only[go_sem,seval,t3],by simp only[go_sem,seval]<;>rfl,by omega,by simp[hAl], ?_,by show aQ m M6 u' 7 ((A++ [x]).map _);rw[ab5];exact o6,(hC.tr c24).trans hC6 λi hi q=>adD q (hO.new i hi)⟩
    rw[hA,Option.map_map]
    congr 1
    funext z
    simp
   ·cases qq:KR x<;>rw[qq] at r3
    all_goals
     simp (disch:=first|omega|(simp only[aA]<;>omega)) only[go_sem,seval,t1,t2,t3,t4,a1,a2,a5,hM2,gl,r3.wf,g3,q]
     generalize hM4:hp _ 1 M3=M4
     have hC4:Chg [] M3 M4:=az hM4 rfl
     have gx:M4.get (na M3 0)=some (.cells true x.l):=aI hM4
     have c24:Chg [] M M4:=(hC2.tr C3).tr hC4
     obtain⟨u',M6,q1,o6,hC6,hF⟩:=(hO.chg c24 (by simp)).app2 (bytes:=56) (kc:=1) gx (aL hM4 (by omega)) rfl (λi hi=>c24.old (hC.old hi)) (by rw[aa0];omega) (by rw[aa0];omega)
     simp (disch:=omega) only[go_sem,seval,t4,q1]
     refine⟨l.length - (i+1),by omega,_,M6,i+1,u',A++ [x],by rfl,by simp only[go_sem,seval,t0],by simp only[go_sem,seval,t00],by simp only[go_sem,seval],by simp only[go_sem,seval,t2],by simp only[go_sem,seval,t3],by simp only[go_sem,seval]<;>rfl,by omega,by simp[hAl], ?_,by show aQ m M6 u' 7 ((A++ [x]).map _);rw[ab5];exact o6,(hC.tr c24).trans hC6 λi hi q=>adD q (hO.new i hi)⟩
     rw[hA,Option.map_map]
     congr 1
     funext z
     simp
 ·rw[ad0 (by omega)] at hA
  have hA:ID l lb=some A:=by rw[hA];simp[Jn]
  simp (disch:=omega) only[go_sem,seval,t1,t3,t4]
  rw[aa]
  exact hK _ _ ⟨by rw[hA];exact⟨u,rfl,hO⟩,hC⟩
theorem VL  (hn:n<=32):bH .num .shr (u32 a) (ii n)=some (u32 ((a / 2 ^ n:Nat):Int)):=by
 show Jq .u32 (Int.ofNat a) (Int.ofNat n)=_
 show cS .u32 (.ofNat (Nat.div a (Nat.pow 2 (ss .u32 n))))=_
 rw[show ss .u32 n=n from by unfold ss;rw[show Nat.ble n (IntKind.bits .u32)=true from ab0 hn];rfl,bc]
 rfl
theorem WN  (hn:n<=64):bH .num .shr (ii a) (ii n)=some (ii ((a / 2 ^ n:Nat):Int)):=by
 show Jq .i64 (Int.ofNat a) (Int.ofNat n)=_
 show cS .i64 (.ofNat (Nat.div a (Nat.pow 2 (ss .i64 n))))=_
 rw[show ss .i64 n=n from by unfold ss;rw[show Nat.ble n (IntKind.bits .i64)=true from ab0 hn];rfl,bc]
 rfl
theorem Wc  (ha:a<9223372036854775808):bH .num .xor (ii a) (ii 1)=some (ii (Nat.xor a 1:Nat)):=by
 refine (jy rfl).trans ?_
 show gC .xor .i64 (Int.ofNat a) (Int.ofNat 1)=_
 unfold gC
 dsimp only
 rw[show Nat.ble (Nat.succ a) (bE .i64)=true from ab0 ha,show Nat.ble (Nat.succ 1) (bE .i64)=true from rfl]
 show cS .i64 (.ofNat (Nat.xor a 1))=_
 rw[bc];rfl
def rv (w a n:Nat):Nat:=Nat.land (w / 2 ^ a) (2 ^ n - 1)
def zR (w a n:Nat):Int:=if 0<n/\rv w a n / 2 ^ (n - 1)=1 then (rv w a n:Int) - (2 ^ n:Nat) else rv w a n
theorem rk  (hn:n<=32):rv w a n<4294967296:=by
 have h:rv w a n<=2 ^ n - 1:=Nat.and_le_right
 have:=th hn
 omega
theorem Uy (m:NH) (hw:w<4294967296) (h:a+n<=32):rT 249 [u32 w,ii a,ii n] m (u32 (rv w a n)) m:=by
 have h:∃u m',rT 249 [u32 w,ii a,ii n] m u m'/\u=u32 (rv w a n)/\m'=m:=by
  refine WF.ex λK hK=> ?_
  refine WF.of_wpG (λ_=>rfl) xV (L:= [(.b .e,ii n),(.a .e,ii a),(.e,u32 w)]) rfl ?_
  unfold OM
  have r1:=Gi m a n h
  have r2:=Uh m n (by omega)
  have e1:bH .num .shr (u32 w) (ii a)=some (u32 ((w / 2 ^ a:Nat):Int)):=VL (by omega)
  have p:=th (n:=n) (by omega)
  have e2:bH .num .and (u32 ((w / 2 ^ a:Nat):Int)) (u32 ((2 ^ n - 1:Nat):Int))=some (u32 (rv w a n:Nat)):=G7 rfl rfl (Nat.lt_of_le_of_lt (Nat.div_le_self _ _) hw) (by omega) rfl
  rw[aa]
  simp only[go_sem,seval,r1.wf',r2.wf',e1,e2]
  exact hK _ _ ⟨rfl,rfl⟩
 obtain⟨v,m',h,rfl,rfl⟩:=h
 exact h
theorem Ze (m:NH) (hw:w<4294967296) (h:a+n<=32):rT 250 [u32 w,ii a,ii n] m (ii (zR w a n)) m:=by
 have h:∃u m',rT 250 [u32 w,ii a,ii n] m u m'/\u=ii (zR w a n)/\m'=m:=by
  refine WF.ex λK hK=> ?_
  refine WF.of_wpG (λ_=>rfl) yu (L:= [(.b .e,ii n),(.a .e,ii a),(.e,u32 w)]) rfl ?_
  unfold Pz
  have r1:=Gi m a n h
  have r2:=Uy m hw h
  have gb:=rk (w:=w) (a:=a) (n:=n) (by omega)
  have p:=th (n:=n) (by omega)
  rw[aa]
  unfold zR at hK
  generalize rv w a n=g at *
  by_cases h0:n=0
  ·subst h0
   rw[adE (by omega)] at hK
   have r1:rT 297 [ii a,ii 0] m (.tup [ii a,ii 0]) m:=r1
   have r2:rT 249 [u32 w,ii a,ii 0] m (u32 g) m:=r2
   simp (disch:=omega) only[go_sem,seval,r1.wf',r2.wf']
   exact hK _ _ ⟨rfl,rfl⟩
  ·have e:((n:Int) - 1)=((n - 1:Nat):Int):=by omega
   have e1:bH .num .shr (ii g) (ii (n - 1))=some (ii ((g / 2 ^ (n - 1):Nat):Int)):=by rw[e];exact WN (by omega)
   have hs:=Hf 1 (k:= .i64) (n:=n) (by omega) (z:=((2 ^ n:Nat):Int)) (by omega) (by omega) (by omega)
   by_cases h1:g / 2 ^ (n - 1)=1
   ·rw[adF ⟨by omega,h1⟩] at hK
    rw[h1] at e1
    generalize 2 ^ n=q at *
    simp (disch:=omega) only[go_sem,seval,r1.wf',r2.wf',e1,hs]
    exact hK _ _ ⟨rfl,rfl⟩
   ·rw[adE (by omega)] at hK
    generalize g / 2 ^ (n - 1)=q at *
    simp (disch:=omega) only[go_sem,seval,r1.wf',r2.wf',e1]
    exact hK _ _ ⟨rfl,rfl⟩
 obtain⟨v,m',h,rfl,rfl⟩:=h
 exact h
def gW (w:Nat) (x:Nat×Nat):Nat:=rv w x.1 x.2
def pf (f:WForm) (k:Int) (w:Nat):Iw:=⟨k,gW w f.d,gW w f.a,gW w f.b,gW w f.s,if f.tn=true then (Nat.xor (gW w f.c) 1:Nat) else (gW w f.c:Nat),if f.sg=true then zR w f.n.1 f.n.2 else gW w f.n⟩
theorem I2  {A:D4} (hA:m.get A=some (.cells true [u32 w])) (oA:ap m A) (hw:w<4294967296) (x:Nat×Nat) (h:x.1+x.2<=32):∃m',rT 248 [.agg [ii x.1,ii x.2],.ptr A 0] m (ii (gW w x)) m'/\Chg [] m m':=by
 refine WF.ex1 λK hK=> ?_
 refine WF.of_wpG (λ_=>rfl) zG (L:= [(.a .e,.ptr A 0),(.e,.agg [ii x.1,ii x.2])]) rfl ?_
 unfold OS
 obtain⟨a,n⟩:=x
 dsimp only at h
 unfold gW at hK
 dsimp only at hK ⊢
 generalize hM:hp [(.n 0,.cells true [ii a,ii n])] 1 m=M
 have hC:Chg [] m M:=az hM rfl
 have g:M.get (na m 0)=some (.cells true [ii a,ii n]):=aI hM
 have r1:=Uy M hw h
 have gb:=rk (w:=w) (a:=a) (n:=n) (by omega)
 generalize rv w a n=z at *
 have gA:=(hC.get oA (by simp)).trans hA
 simp (disch:=omega) only[go_sem,seval,hM,gA,g,r1.wf']
 exact hK _ hC
set_option maxHeartbeats 2000000 in
theorem aaA (m:NH) (f:WForm) (k:Int) (hw:w<4294967296) (hf:xS f):∃v m',rT 165 [.agg f.cells,ii k,u32 w] m v m'/\v= .agg (pf f k w).l/\Chg [] m m':=by
 refine WF.ex λK hK=> ?_
 refine WF.of_wpG (λ_=>rfl) xZ (L:= [(.b .e,u32 w),(.a .e,ii k),(.e,.agg f.cells)]) rfl ?_
 obtain⟨fw,⟨d0,d1⟩,⟨a0,a1⟩,⟨b0,b1⟩,⟨s0,s1⟩,⟨n0,n1⟩,⟨c0,c1⟩,sg,tn⟩:=f
 unfold L7
 obtain⟨f0,fd,fa,fb,fs,fn,fc⟩:=hf
 dsimp only at f0 fd fa fb fs fn fc
 unfold pf at hK
 dsimp only at hK
 simp only[WForm.cells]
 simp (disch:=first|omega|(simp only[aA]<;>omega)) only[go_sem,seval]
 generalize hM:hp _ 4 m=M
 have hC:Chg [] m M:=az hM rfl
 have g0:M.get (na m 0)=some (.cells true [u32 fw,ii d0,ii d1,ii a0,ii a1,ii b0,ii b1,ii s0,ii s1,ii n0,ii n1,ii c0,ii c1,.bool sg,.bool tn]):=aI hM
 have g1:M.get (na m 1)=some (.cells true [u32 w]):=aI hM
 have g2:M.get (na m 2)=some (.cells true [ii 0,ii 0,ii 0,ii 0,ii 0,ii 0,ii 0]):=aI hM
 have g3:M.get (na m 3)=some (.cells true [ii 0,ii 0,ii 0,ii 0,ii 0,ii 0,ii 0]):=aI hM
 have o0:ap M (na m 0):=aL hM (by omega)
 have o1:ap M (na m 1):=aL hM (by omega)
 have o2:ap M (na m 2):=aL hM (by omega)
 have o3:ap M (na m 3):=aL hM (by omega)
 have e0:Chg [] M M:=Chg.refl M
 obtain⟨m1,r1,c1'⟩:=I2 ((e0.get o1 (by simp)).trans g1) (e0.old o1) hw (d0,d1) fd
 have e1:=e0.tr c1'
 obtain⟨m2,r2,c2'⟩:=I2 ((e1.get o1 (by simp)).trans g1) (e1.old o1) hw (a0,a1) fa
 have e2:=e1.tr c2'
 obtain⟨m3,r3,c3'⟩:=I2 ((e2.get o1 (by simp)).trans g1) (e2.old o1) hw (b0,b1) fb
 have e3:=e2.tr c3'
 obtain⟨m4,r4,c4'⟩:=I2 ((e3.get o1 (by simp)).trans g1) (e3.old o1) hw (s0,s1) fs
 have e4:=e3.tr c4'
 obtain⟨m5,r5,c5'⟩:=I2 ((e4.get o1 (by simp)).trans g1) (e4.old o1) hw (n0,n1) fn
 have e5:=e4.tr c5'
 obtain⟨m6,r6,c6'⟩:=I2 ((e5.get o1 (by simp)).trans g1) (e5.old o1) hw (c0,c1) fc
 have e6:=e5.tr c6'
 dsimp only at r1 r2 r3 r4 r5 r6
 have z1:=(e1.get o0 (by simp)).trans g0
 have z2:=(e2.get o0 (by simp)).trans g0
 have z3:=(e3.get o0 (by simp)).trans g0
 have z4:=(e4.get o0 (by simp)).trans g0
 have z5:=(e5.get o0 (by simp)).trans g0
 have x0:=(e6.get o0 (by simp)).trans g0
 have x2:=(e6.get o2 (by simp)).trans g2
 have x3:=(e6.get o3 (by simp)).trans g3
 have y0:=e6.old o0
 have y2:=e6.old o2
 have y3:=e6.old o3
 have w1:=(e6.get o1 (by simp)).trans g1
 have y1:=e6.old o1
 have hs:∀M,rT 250 [u32 w,ii n0,ii n1] M (ii (zR w n0 n1)) M:=λM=>Ze M hw fn
 have gb:gW w (c0,c1)<4294967296:=rk (by omega)
 have hx:=Wc (a:=gW w (c0,c1)) (by omega)
 have hCC:=hC.tr e6
 have q6:(na m 1=na m 3)=False:=by simp[go_sem]
 rw[←aa m6] at r6
 simp (disch:=first|omega|(simp only[aA]<;>omega)) only[go_sem,seval,r1.wf',r2.wf',r3.wf',r4.wf',r5.wf',r6.wf',x0,x3,z1,z2,z3,z4,z5,vK]
 have n13:(na m 0=na m 3)=False:=by simp[go_sem]
 have n03:na m 0≠na m 3:=by rw[Ne,n13];exact id
 have n1':na m 1≠na m 3:=by rw[Ne,q6];exact id
 have n23':(na m 2=na m 3)=False:=by simp[go_sem]
 have n23:na m 2≠na m 3:=by rw[Ne,n23'];exact id
 cases sg<;>cases tn
 all_goals
  simp (disch:=first|assumption|omega|(apply aq;omega)|(apply au;assumption)|(simp only[aA]<;>omega)) only[go_sem,seval,x0,x2,x3,w1,bf n03,bf n23,bf n1',lT,(hs _).wf',hx]
  refine hK _ _ ⟨rfl,hCC.trans (aw rfl) λi q hi=> ?_⟩
  simp only[bj,adJ,adI,or_false] at q
  first
   |(rcases q with rfl|rfl|rfl|rfl<;>exact adD hi ak)
   |(rcases q with rfl|rfl|rfl<;>exact adD hi ak)
   |(rcases q with rfl|rfl<;>exact adD hi ak)
def EX (w:Nat):Nat->List WForm->Option Iw
 |_, []=>none
 |k,f::l=>if je f (pf f k w)=true/\zc f (pf f k w)=w then some (pf f k w) else EX w (k+1) l
theorem Qa (w k:Nat) (f:WForm) (l:List WForm):EX w k (f::l)=(if je f (pf f k w)=true/\zc f (pf f k w)=w then some (pf f k w) else EX w (k+1) l):=rfl
def oV (w:Nat):Option Iw:=EX w 0 cu
def iw0:Iw:=⟨0,0,0,0,0,0,0⟩
set_option maxHeartbeats 2000000 in
theorem LK (m:NH) (hw:w<4294967296):∃v m',rT 106 [u32 w] m v m'/\v=(match oV w with|some i=> .tup [.agg i.l,ii 0]|none=> .tup [.agg iw0.l,ii 8])/\Chg [] m m':=by
 refine WF.ex λK hK=> ?_
 refine WF.of_wpG (λ_=>rfl) yW (L:= [(.e,u32 w)]) rfl ?_
 unfold MO
 generalize hM0:hp [(.n 0,.cells true iw0.l)] 1 m=M0
 have hC0:Chg [] m M0:=az hM0 rfl
 have g0:M0.get (na m 0)=some (.cells true iw0.l):=aI hM0
 have o0:ap M0 (na m 0):=aL hM0 (by omega)
 obtain⟨v,m1,r1,hS,C1⟩:=vA M0
 have hlen:=hS.len
 have e24:(fU.length:Int)=24:=rfl
 have g1:=(C1.get o0 (by simp)).trans g0
 have o1:=C1.old o0
 have hC1:=hC0.tr C1
 unfold iw0 at hM0
 dsimp only[Iw.l] at hM0
 simp only[go_sem,seval,hM0,r1.wf',hlen,e24]
 refine W.loop (λk D=>∃t M i,D=⟨t, [],none,M⟩/\NT.get D4.e t=some (u32 w)/\NT.get D4.e.b t=some (.ptr (na m 0) 0)/\NT.get D4.e.a.c t=some v/\NT.get D4.e.a.f t=some (ii 24)/\NT.get D4.e.b.a t=some (ii (i:Nat))/\i+k=cu.length/\oV w=EX w i (cu.drop i)/\Chg [] m1 M) ?_ cu.length _
  ⟨_,m1,0,rfl,by exact gq rfl,by exact gq rfl,by exact gq rfl,by exact gq rfl,by exact gq rfl,by omega,rfl,Chg.refl _⟩
 rintro k D ⟨t,M,i,rfl,t0,t1,t2,t3,t4,hik,hA,hC⟩
 apply av
 unfold AN
 change wp _ _ _ _ ⟨puts [] t, [],none,M⟩ _
 rw[←aa M]
 have hm:=hC1.tr hC
 have gz:=(hC.get o1 (by simp)).trans g1
 have oz:=hC.old o1
 have e24':cu.length=24:=rfl
 by_cases hi:i<cu.length
 ·obtain⟨id,off,wr,cc,a1,a2,a3,a4,a5⟩:=xO (hS.chg hC (by simp)) hi
  have hfm:=aa9 hi
  rw[ab8 hi,Qa] at hA
  have hfo:=qf _ hfm
  obtain⟨q1,q2,q3,q4,q5⟩:=Cf _ hfm
  have hcx:=λii=>Ef (i:=ii) hfm
  generalize cu[i]=f at *
  have hi':(i:Int)<24:=by omega
  have hfl:f.cells.length=15:=rfl
  have hft:f.cells.take 15=f.cells:=rfl
  generalize hM2:hp [(.n 0,.cells true f.cells),(.n 0,.cells true [u32 0,ii 0,ii 0,ii 0,ii 0,ii 0,ii 0,ii 0,ii 0,ii 0,ii 0,ii 0,ii 0,.bool false,.bool false])] 1 M=M2
  have hC2:Chg [] M M2:=az hM2 rfl
  have gf:M2.get (na M 0)=some (.cells true f.cells):=aI hM2
  have of:ap M2 (na M 0):=aL hM2 (by omega)
  obtain⟨v3,M3,r3,e3,C3⟩:=aaA M2 f i hw hfo
  subst e3
  generalize pf f i w=x at *
  have hxl:x.l.length=7:=rfl
  have hxt:x.l.take 7=x.l:=rfl
  generalize hM4:hp [(.n 0,.cells true x.l),(.n 0,.cells true [ii 0,ii 0,ii 0,ii 0,ii 0,ii 0,ii 0])] 1 M3=M4
  have hC4:Chg [] M3 M4:=az hM4 rfl
  have gx:M4.get (na M3 0)=some (.cells true x.l):=aI hM4
  have ox:ap M4 (na M3 0):=aL hM4 (by omega)
  have c34:=C3.tr hC4
  have gf4:=(c34.get of (by simp)).trans gf
  have of4:=c34.old of
  obtain⟨v5,M5,r5,e5,C5⟩:=HX M4 f x q1 q2 q3 q4 q5
  subst e5
  have gf5:=(C5.get of4 (by simp)).trans gf4
  have gx5:=(C5.get ox (by simp)).trans gx
  have c15:=((hC2.tr c34).tr C5)
  rw[←aa M3] at r3
  cases hr:je f x with
  |false=>
   rw[hr] at r5 hA
   rw[adE (by simp)] at hA
   simp (disch:=first|omega|(simp only[aA]<;>omega)) only[go_sem,seval,t0,t2,t3,t4,hi',a1,a2,a5,hft,hM2,gf,r3.wf',hxt,hM4,gf4,gx,r5.wf']
   refine⟨cu.length - (i+1),by omega,_,_,i+1,rfl,by exact gq t0,by exact gq t1,by exact gq t2,by exact gq t3,by exact gq rfl,by omega,hA,hC.tr c15⟩
  |true=>
   rw[hr] at r5 hA
   obtain⟨m6,r6,C6⟩:=Ur M5 f x hfo (hcx x hr)
   by_cases he:zc f x=w
   ·rw[adF ⟨rfl,he⟩] at hA
    rw[he] at r6
    have hz:=(((c15.tr C6)).get oz (by simp)).trans gz
    have gx6:=(C6.get (C5.old ox) (by simp)).trans gx5
    have oz6:=(c15.tr C6).old oz
    rw[←aa m6] at r6
    simp (disch:=first|omega|(simp only[aA]<;>omega)) only[go_sem,seval,t0,t1,t2,t3,t4,hi',a1,a2,a5,hft,hM2,gf,r3.wf',hxt,hM4,gf4,gx,r5.wf',gf5,gx5,r6.wf',hz,gx6]
    rw[hA] at hK
    refine hK _ _ ⟨rfl,(hm.trans (c15.tr C6) (by simp)).trans (aw rfl) λi q hi=> ?_⟩
    exact adD ((by simpa [bj] using q:i=na m 0)▸hi) ak
   ·rw[adE (λq=>he q.2)] at hA
    have hew:=WC x hfo
    generalize zc f x=z at *
    simp (disch:=first|omega|(simp only[aA]<;>omega)) only[go_sem,seval,t0,t2,t3,t4,hi',a1,a2,a5,hft,hM2,gf,r3.wf',hxt,hM4,gf4,gx,r5.wf',gf5,gx5,r6.wf']
    refine⟨cu.length - (i+1),by omega,_,_,i+1,rfl,by exact gq t0,by exact gq t1,by exact gq t2,by exact gq t3,by exact gq rfl,by omega,hA,hC.trans (c15.tr C6) (by simp)⟩
 ·have hii:i=24:=by omega
  subst hii
  rw[ad0 (by omega)] at hA
  have hA:oV w=none:=by rw[hA];rfl
  rw[hA] at hK
  simp (disch:=first|omega|(simp only[aA]<;>omega)) only[go_sem,seval,t1,t3,t4,gz]
  exact hK _ _ ⟨rfl,hm.trans (aw rfl) λi q hi=>adD ((by simpa [bj] using q:i=na m 0)▸hi) ak⟩
theorem WU  (hn:n<=32):-4294967296<=zR w a n/\zR w a n<4294967296:=by
 have h:=rk (w:=w) (a:=a) hn
 have p:=th hn
 unfold zR
 split<;>omega
theorem VU  (hf:xS f) (k:Int) (w:Nat):-4294967296<=(pf f k w).n/\(pf f k w).n<4294967296:=by
 obtain⟨_,_,_,_,_,fn,_⟩:=hf
 unfold pf
 dsimp only
 split
 ·exact WU (by omega)
 ·have h:=rk (w:=w) (a:=f.n.1) (n:=f.n.2) (by omega)
  unfold gW;omega
theorem OK  {i:Iw}:∀{l:List WForm} {k:Nat},(∀f∈l,xS f)->EX w k l=some i->-4294967296<=i.n/\i.n<4294967296
 | [],_,_,h=>by simp[EX] at h
 |f::l,k,hf,h=>by
  rw[Qa] at h
  split at h
  ·cases h;exact VU (hf f (by simp)) _ _
  ·exact OK (λg hg=>hf g (by simp[hg])) h
theorem Wu  {i:Iw} (h:oV w=some i):-4294967296<=i.n/\i.n<4294967296:=OK qf h
attribute [local irreducible] oV
def IR (N k:Nat) (o:Option Iw) (r:Bool):Bool:=
 match o with
 |none=>false
 |some i=>if KR i=true/\((k:Int)+i.n<0∨(N:Int)<=k+i.n) then false else r
def BU (N:Nat):Nat->List Nat->Bool
 |_, []=>true
 |k,w::l=>IR N k (oV w) (BU N (k+1) l)
theorem XB (N k w:Nat) (l:List Nat):BU N k (w::l)=IR N k (oV w) (BU N (k+1) l):=rfl
def Fp (l:List Nat):Bool:=BU l.length 0 l
set_option maxHeartbeats 2000000 in
theorem Sk  {l:List Nat} (hv:Sl m v 1 (Ek l)) (hw:∀w∈l,w<4294967296) (hl:l.length<=9000000):∃u m',rT 291 [v] m u m'/\u= .bool (Fp l)/\Chg [] m m':=by
 refine WF.ex λK hK=> ?_
 refine WF.of_wpG (λ_=>rfl) DM (L:= [(.e,v)]) rfl ?_
 unfold NK
 have hlen:=hv.len
 rw[aa0] at hlen
 have hone:=hv.one
 rw[aa]
 simp only[go_sem,seval,hlen]
 refine W.loop (λk D=>∃t M i,D=⟨t, [],none,M⟩/\NT.get D4.e t=some v/\NT.get D4.e.a.f t=some v/\NT.get D4.e.b.a t=some (ii l.length)/\NT.get D4.e.b.b t=some (ii (i:Nat))/\i+k=l.length/\Fp l=BU l.length i (l.drop i)/\Chg [] m M) ?_ l.length _
  ⟨_,m,0,rfl,by exact gq rfl,by exact gq rfl,by exact gq rfl,by exact gq rfl,by omega,rfl,Chg.refl m⟩
 rintro k D ⟨t,M,i,rfl,t0,t1,t2,t3,hik,hA,hC⟩
 apply av
 unfold Cz
 change wp _ _ _ _ ⟨puts [] t, [],none,M⟩ _
 by_cases hi:i<l.length
 ·obtain⟨id,off,wr,c,a1,a2,a3,a4,a5⟩:=(hv.chg hC (by simp)).at i (by simpa using hi)
  rw[aa4] at a5
  have a5:=bm a5 0 (by omega)
  rw[ab8 hi,XB] at hA
  have hwi:=hw _ (aa9 hi)
  generalize l[i]=w at *
  have a5:c[off]? =some (u32 w):=a5
  obtain⟨u,m2,r2,e2,C2⟩:=LK M hwi
  subst e2
  rw[←aa m2] at r2
  have hc2:=hC.tr C2
  cases hd:oV w with
  |none=>
   rw[hd] at r2 hA
   dsimp only[IR] at r2 hA
   simp (disch:=first|omega|(simp only[aA]<;>omega)) only[go_sem,seval,t1,t2,t3,a1,a2,a5,r2.wf']
   rw[hA] at hK
   exact hK _ _ ⟨rfl,hc2.trans (aw (S:= []) rfl) (by simp)⟩
  |some x=>
   rw[hd] at r2 hA
   dsimp only[IR] at r2 hA
   have hn:=Wu hd
   obtain⟨n1,n2⟩:=hn
   obtain⟨xk,xd,xa,xb,xs,xc,xn⟩:=x
   dsimp only at hA n1 n2
   unfold KR at hA
   dsimp only at hA
   have go:(∀P:Prop, [Decidable P]->Fp l=(if P then false else BU l.length (i+1) (List.drop (i+1) l))->¬P->Fp l=BU l.length (i+1) (List.drop (i+1) l)):=λP _ h hn=>by rw[h,adE hn]
   by_cases h1:8<=xk
   ·by_cases h2:xk<=11
    ·by_cases h3:(i:Int)+xn<0
     ·rw[adF ⟨by simp[h1,h2],.inl h3⟩] at hA
      rw[hA] at hK
      simp (disch:=first|omega|(simp only[aA]<;>omega)) only[go_sem,seval,t1,t2,t3,a1,a2,a5,r2.wf',h1,h2,h3]
      exact hK _ _ ⟨rfl,hc2.trans (aw (S:= []) rfl) (by simp)⟩
     ·by_cases h4:(l.length:Int)<=i+xn
      ·rw[adF ⟨by simp[h1,h2],.inr h4⟩] at hA
       rw[hA] at hK
       simp (disch:=first|omega|(simp only[aA]<;>omega)) only[go_sem,seval,t0,t1,t2,t3,a1,a2,a5,r2.wf',h1,h2,h3,h4,hlen]
       exact hK _ _ ⟨rfl,hc2.trans (aw (S:= []) rfl) (by simp)⟩
      ·have hA:=go _ hA (by omega)
       simp (disch:=first|omega|(simp only[aA]<;>omega)) only[go_sem,seval,t0,t1,t2,t3,a1,a2,a5,r2.wf',h1,h2,h3,h4,hlen]
       exact⟨l.length - (i+1),by omega,_,_,i+1,rfl,by exact gq t0,by exact gq t1,by exact gq t2,by exact gq rfl,by omega,hA,hc2.trans (aw (S:= []) rfl) (by simp)⟩
    ·have hA:=go _ hA (by simp[h2])
     simp (disch:=first|omega|(simp only[aA]<;>omega)) only[go_sem,seval,t1,t2,t3,a1,a2,a5,r2.wf',h1,h2]
     exact⟨l.length - (i+1),by omega,_,_,i+1,rfl,by exact gq t0,by exact gq t1,by exact gq t2,by exact gq rfl,by omega,hA,hc2.trans (aw (S:= []) rfl) (by simp)⟩
   ·have hA:=go _ hA (by simp[h1])
    simp (disch:=first|omega|(simp only[aA]<;>omega)) only[go_sem,seval,t1,t2,t3,a1,a2,a5,r2.wf',h1]
    exact⟨l.length - (i+1),by omega,_,_,i+1,rfl,by exact gq t0,by exact gq t1,by exact gq t2,by exact gq rfl,by omega,hA,hc2.trans (aw (S:= []) rfl) (by simp)⟩
 ·rw[ad0 (by omega)] at hA
  have hA:Fp l=true:=hA
  rw[hA] at hK
  simp (disch:=omega) only[go_sem,seval,t2,t3]
  exact hK _ _ ⟨rfl,by first|exact hC|(rw[aa];exact hC)⟩
def GR (N:Nat):List Int->Bool
 | []=>true
 |a::l=>decide (0<=a)&&decide (a<N)&&GR N l
def IZ (s:Int) (en:List Int) (co:List Nat):Bool:=GR co.length (s::en)&&Fp co
set_option maxHeartbeats 2000000 in
theorem Oo  {ve vc:NV} {W s:Int} {en:List Int} {co:List Nat} (he:Sl m ve 1 (dM en)) (hc:Sl m vc 1 (Ek co)) (hw:∀w∈co,w<4294967296) (hW:0<=W) (hW':W<=64) (h1:1<=en.length) (h2:en.length<=4) (h3:co.length<=20000):∃u m',rT 221 [.agg [ii W,ii s,ve,vc]] m u m'/\u= .bool (IZ s en co)/\Chg [] m m':=by
 refine WF.ex λK hK=> ?_
 refine WF.of_wpG (λ_=>rfl) zf (L:= [(.e,.agg [ii W,ii s,ve,vc])]) rfl ?_
 unfold Qg
 have hen:nN ve= .val (ii en.length):=by rw[he.len,aa0]
 have hcl:nN vc= .val (ii co.length):=by rw[hc.len,aa0]
 have hone:=he.one
 have honc:=hc.one
 generalize hM1:hp [(.n 1,.cells true [ii s]),(.n 0,.cells true [ii W,ii s,ve,vc])] 2 m=M1
 have hC1:Chg [] m M1:=az hM1 rfl
 have g1:M1.get (na m 0)=some (.cells true [ii W,ii s,ve,vc]):=aI hM1
 have o1:ap M1 (na m 0):=aL hM1 (by omega)
 have ho:aQ m M1 (.slc (na m 1) 0 1 1 1) 1 (dM [s]):=by
  have g2:M1.get (na m 1)=some (.cells true [ii s]):=aI hM1
  exact aQ.of (by simp) ak g2 (aL hM1 (by omega)) (by simp) (by simp) (by simp)
 have hne:en≠ []:=λq=>by rw[q] at h1;exact adD h1 (by decide)
 obtain⟨u,M2,q1,o2,hC2⟩:=ho.app (bytes:=8) (he.grew hC1) (by simpa using hne) (λi hi=>hC1.old hi) (by simp;omega) (by simp;omega)
 have o2:aQ m M2 u 1 (dM (s::en)):=by simpa using o2
 have c2:Chg [] m M2:=hC1.trans hC2 λi hi q=>by
  simp only[ids,adJ,adI,or_false] at hi
  subst hi;exact adD q ak
 have n01:na m 0≠na m 1:=by rw[Ne,show (na m 0=na m 1)=False by simp[go_sem]];exact id
 have g2:=(hC2.get o1 (by simp[ids,n01])).trans g1
 have o1':=hC2.old o1
 have hul:nN u= .val (ii ((en.length+1:Nat):Int)):=by rw[o2.sl.len,aa0];rfl
 simp (disch:=first|omega|(simp only[aA]<;>omega)) only[go_sem,seval,hen,hcl,hM1,g1,q1,hul]
 have hEE:(s::en).length=en.length+1:=rfl
 generalize hE:s::en=E at *
 refine Nm.W.loop (λk D=>∃t M i,D=⟨t, [],none,M⟩/\NT.get D4.e.a t=some (.ptr (na m 0) 0)/\NT.get D4.e.a.f.f t=some u/\NT.get D4.e.b.a.a t=some (ii ((en.length+1:Nat):Int))/\NT.get D4.e.b.a.b t=some (ii (i:Nat))/\i+k=E.length/\GR co.length E=GR co.length (E.drop i)/\Chg [] M2 M) ?_ E.length _
  ⟨_,M2,0,rfl,by simp only[go_sem,seval],by simp only[go_sem,seval],by simp only[go_sem,seval],by simp only[go_sem,seval]<;>rfl,by omega,rfl,Chg.refl _⟩
 rintro k D ⟨t,M,i,rfl,t0,t1,t2,t3,hik,hA,hC⟩
 apply av
 unfold zy
 change wp _ _ _ _ ⟨puts [] t, [],none,M⟩ _
 have hm:=c2.tr hC
 have gz:=(hC.get o1' (by simp)).trans g2
 unfold IZ at hK
 rw[hE] at hK
 by_cases hi:i<E.length
 ·obtain⟨id,off,wr,c,a1,a2,a3,a4⟩:=pK (o2.sl.chg hC (by simp)) hi
  rw[ab8 hi,GR] at hA
  generalize E[i]=y at *
  by_cases h0:y<0
  ·rw[hA,show decide (0<=y)=false by simp[h0]] at hK
   simp (disch:=omega) only[go_sem,seval,t1,t2,t3,a1,a2,a4,h0]
   exact hK _ _ ⟨by simp,by first|exact hm|(rw[aa];exact hm)⟩
  by_cases h4:(co.length:Int)<=y
  ·rw[hA,show decide (y<(co.length:Int))=false by simp;omega] at hK
   simp (disch:=omega) only[go_sem,seval,t0,t1,t2,t3,a1,a2,a4,h0,gz,hcl,h4]
   exact hK _ _ ⟨by simp,by first|exact hm|(rw[aa];exact hm)⟩
  rw[show decide (0<=y)=true by simp;omega,show decide (y<(co.length:Int))=true by simp;omega] at hA
  simp (disch:=omega) only[go_sem,seval,t0,t1,t2,t3,a1,a2,a4,h0,gz,hcl,h4]
  exact⟨E.length - (i+1),by omega,_,_,i+1,rfl,by simp only[go_sem,seval,t0],by simp only[go_sem,seval,t1],by simp only[go_sem,seval,t2],by simp only[go_sem,seval]<;>rfl,by omega,hA,by first|exact hC|(rw[aa];exact hC)⟩
 ·rw[ad0 (by omega)] at hA
  rw[hA] at hK
  obtain⟨u',m3,r3,e3,C3⟩:=Sk ((hc.grew hm)) hw (by omega)
  subst e3
  simp (disch:=omega) only[go_sem,seval,t0,t2,t3,gz,r3.wf']
  exact hK _ _ ⟨by simp[GR],hm.tr C3⟩
theorem WV:bH .slc .eql .nils .nils=some (.bool true):=_root_.id rfl
theorem Vh {id:D4} {off e k:Nat}:bH .slc .eql (.slc id off n e k) .nils=some (.bool false):=_root_.id rfl
theorem Wg  (h:Sl m v 1 C) (hl:C.length<=1000001):∃v' m',rT 52 [v] m v' m'/\aQ m m' v' 1 C/\Chg [] m m':=by
 refine WF.ex λK hK=> ?_
 refine WF.of_wpG (λ_=>rfl) Hp (L:= [(.e,v)]) rfl ?_
 unfold WH
 have h':=h
 obtain⟨h0,⟨rfl,rfl⟩|⟨id,off,kc,w,c,rfl,h1,h2,h3,h4⟩⟩:=h'
 ·simp only[go_sem,seval,WV]
  exact hK _ _ ⟨aQ.nil,aw rfl⟩
 ·simp only[go_sem,seval,Vh]
  have hC1:Chg [] m (hp [(.n 0,.cells true [])] 1 m):=aw rfl
  have ho:aQ m (hp [(.n 0,.cells true [])] 1 m) (.slc (na m 0) 0 0 1 0) 1 []:=aQ.of (by simp) ak bt (aq (by omega)) rfl rfl rfl
  by_cases hC:C= []
  ·subst hC
   rw[ho.sl.appNil (h.grew hC1)]
   simp only[go_sem,seval]
   exact hK _ _ ⟨ho,hC1⟩
  ·obtain⟨v',m',e1,e2,e3⟩:=ho.app (bytes:=4) (h.grew hC1) hC (λi hi=>hC1.old hi) (by simp;omega) (by simp;omega)
   rw[e1]
   simp only[go_sem,seval]
   refine hK _ _ ⟨by simpa using e2,hC1.trans e3 λi hi q=> ?_⟩
   simp only[ids,adJ,adI,or_false] at hi
   subst hi;exact adD q ak
end FR
