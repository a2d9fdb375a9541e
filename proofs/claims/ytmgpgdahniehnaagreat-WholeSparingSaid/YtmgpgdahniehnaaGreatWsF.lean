/- WholeSparing on the given program: part 6. -/
import Derived.Test.YtmgpgdahniehnaaGreatWsE
set_option linter.unusedSimpArgs false
set_option linter.unusedVariables false
set_option linter.unusedSectionVars false
set_option linter.defProp false
open Go Nm Go.Proofs
namespace FR
variable {m m':NH} {C:List (List NV)} {id:D4} {d R i n:Nat} {v vl:NV} {L ws:List (List Nat)} {N:D4->Prop} {l:List (Int×Int)} {a:Int} {out:List Pc} {p:Prg} {tk:List Bool} {Q:Out->Dyn->Prop} {cs:List (List Nat×Int)}
structure Wrds (m:NH) (vt:NV) (L:List (List Nat)) (C:List (List NV)):Prop where
 s:Sl m vt 1 C
 n:C.length=L.length
 c:∀(j:Nat) (x:List Nat) (c:List NV),L[j]? =some x->C[j]? =some c->∃v,c= [v]/\Sl m v 1 (Ek x)
theorem Wrds.grow  {vt:NV} (h:Wrds m vt L C) (hC:Chg [] m m'):Wrds m' vt L C:=
 ⟨h.s.grew hC,h.n,λj x c a b=>by obtain⟨v,e,q⟩:=h.c j x c a b;exact⟨v,e,q.grew hC⟩⟩
theorem Wrds.at  {vt:NV} (h:Wrds m vt L C) (hi:i<L.length):∃id off w c v,fi 1 vt (ii (i:Nat))= .val (.ptr id off)/\m.get id=some (.cells w c)/\ap m id/\c[off]? =some v/\Sl m v 1 (Ek L[i]):=by
 have hi':i<C.length:=by rw[h.n];exact hi
 obtain⟨id,off,w,c,a1,a2,a3,a4,a5⟩:=h.s.at i hi'
 obtain⟨v,e,q⟩:=h.c i _ _ (List.getElem?_eq_getElem hi) (List.getElem?_eq_getElem hi')
 rw[e] at a5
 exact⟨id,off,w,c,v,a1,a2,a3,bm a5 0 (by omega),q⟩
def mQ:List Int->List Nat->List (List Nat)->List Int×List Nat
 |en,co, []=>(en,co)
 |en,co,w::l=>mQ (en++ [(co.length:Int)]) (co++w) l
theorem pV (en:List Int) (co w:List Nat) (l:List (List Nat)):mQ en co (w::l)=mQ (en++ [(co.length:Int)]) (co++w) l:=rfl
structure JoS (m M:NH) (A:D4) (W:Int) (en:List Int) (co:List Nat) (ve vc:NV):Prop where
 g:M.get A=some (.cells true [ii W,ii 0,ve,vc])
 o:ap M A
 e:aQ m M ve 1 (dM en)
 c:aQ m M vc 1 (Ek co)
 a1:A∉ids ve
 a2:A∉ids vc
 d:∀i∈ids ve,i∉ids vc
set_option maxHeartbeats 4000000 in
theorem Tg  {vs vt:NV} {W:Int} {st:List Nat} (hs:Sl m vs 1 (Ek st)) (hL:Wrds m vt L C) (hW:0<=W) (hW':W<=64) (h1:1<=L.length) (h4:L.length<=4) (hst:st.length<=4000) (hLl:∀w∈L,w≠ []/\w.length<=4000) (hw:∀w∈(mQ [] st L).2,w<4294967296) (hB:IZ 0 (mQ [] st L).1 (mQ [] st L).2=true):
 ∃u m',rT 136 [vs,vt,ii W] m u m'/\(∃ve vc,u= .tup [.agg [ii W,ii 0,ve,vc],ii 0]/\aQ m m' ve 1 (dM (mQ [] st L).1)/\aQ m m' vc 1 (Ek (mQ [] st L).2))/\Chg [] m m':=by
 refine WF.ex λK hK=> ?_
 refine WF.of_wpG (λ_=>rfl) CN (L:= [(.b .e,ii W),(.a .e,vt),(.e,vs)]) rfl ?_
 unfold Mw
 generalize hM0:hp [(.n 0,.cells true [ii 0,ii 0,.nils,.nils])] 1 m=M0
 have hC0:Chg [] m M0:=az hM0 rfl
 have g0:M0.get (na m 0)=some (.cells true [ii 0,ii 0,.nils,.nils]):=aI hM0
 have o0:ap M0 (na m 0):=aL hM0 (by omega)
 obtain⟨vc0,m1,r1,oc1,C1⟩:=Wg (hs.grew hC0) (by rw[aa0];omega)
 rw[←aa m1] at r1
 have hvt:nN vt= .val (ii L.length):=by rw[hL.s.len,hL.n]
 have hc0:=oc1.sl.one
 simp (disch:=first|omega|(simp only[aA]<;>omega)) only[go_sem,seval,hM0,r1.wf',hvt,hc0]
 generalize hM2:hp _ _ m1=M2
 have hC2:Chg [] m1 M2:=az hM2 rfl
 have gA:M2.get (na m1 0)=some (.cells true [ii W,ii 0,.nils,vc0]):=aI hM2
 have oA:ap M2 (na m1 0):=aL hM2 (by omega)
 have nA:¬ap M0 (na m1 0):=λq=>ak (C1.old q)
 have aV:na m1 0∉ids vc0:=λq=>ak (oc1.sl.old _ q)
 generalize na m1 0=A at *
 have hJ:JoS M0 M2 A W [] st .nils vc0:=⟨gA,oA,aQ.nil,oc1.chg hC2 (by simp),by simp[ids],aV,by simp[ids]⟩
 have c02:Chg [] M0 M2:=C1.tr hC2
 refine Nm.W.loop (λk D=>∃t M i ve vc en co,D=⟨t, [],none,M⟩/\NT.get D4.e.a.f t=some (.ptr A 0)/\NT.get D4.e.a.b t=some (.ptr (na m 0) 0)/\NT.get D4.e.c.c t=some vt/\NT.get D4.e.c.f t=some (ii L.length)/\NT.get D4.e.f.a t=some (ii (i:Nat))/\i+k=L.length/\mQ en co (L.drop i)=mQ [] st L/\en.length=i/\co.length<=4000*(i+1)/\JoS M0 M A W en co ve vc/\Chg [] M0 M) ?_ L.length _
  ⟨_,M2,0,.nils,vc0, [],st,rfl,by exact gq rfl,by exact gq rfl,by exact gq rfl,by exact gq rfl,by exact gq rfl,by omega,rfl,rfl,by omega,hJ,c02⟩
 clear hJ gA oA aV c02 hC2 hM2
 rintro k D ⟨t,M,i,ve,vc,en,co,rfl,t0,t1,t2,t3,t4,hik,hA,hen,hco,hJ,hC⟩
 obtain⟨gA,oA,oe,oc,ae,ac,dd⟩:=hJ
 apply av
 unfold Ej
 change wp _ _ _ _ ⟨puts [] t, [],none,M⟩ _
 rw[←aa M]
 have hvel:=oe.sl.len
 have hvcl:nN vc= .val (ii co.length):=by rw[oc.sl.len,aa0]
 have hve1:=oe.sl.one
 have hvc1:=oc.sl.one
 by_cases hi:i<L.length
 ·obtain⟨id,off,wr,c,x,b1,b2',b3,b4,b5⟩:=(hL.grow hC0).at hi
  have b2:=(hC.get b3 (by simp)).trans b2'
  have hwi:=hLl _ (aa9 hi)
  rw[ab8 hi,pV] at hA
  generalize L[i]=w at *
  obtain⟨hw1,hw2⟩:=hwi
  generalize hM3:hp [(.n 0,.cells true [ii co.length])] 1 M=M3
  have hC3:Chg [] M M3:=az hM3 rfl
  have g3:M3.get (na M 0)=some (.cells true [ii co.length]):=aI hM3
  obtain⟨ve',M4,q4,o4,hC4,hF4⟩:=(oe.chg hC3 (by simp)).app2 (bytes:=8) (kc:=1) g3 (aL hM3 (by omega)) rfl (λi hi=>hC3.old (hC.old hi)) (by rw[aa0];omega) (by rw[aa0];omega)
  have gA3:=(hC3.get oA (by simp)).trans gA
  have oA3:=hC3.old oA
  have gA4:=(hC4.get oA3 ae).trans gA3
  have oA4:=hC4.old oA3
  have ae':A∉ids ve':=λq=>(hF4 _ q).elim ae λz=>z oA3
  have oc4:=(oc.chg hC3 (by simp)).chg hC4 λi hi q=>dd i q hi
  have dd':∀i∈ids ve',i∉ids vc:=λi hi q=>(hF4 i hi).elim (λz=>dd i z q) λz=>z (hC3.old (oc.sl.old _ q))
  generalize hM5:hp [(.o A,.cells true [ii W,ii 0,ve',vc])] 0 M4=M5
  have hC5:Chg [A] M4 M5:=az hM5 rfl
  have gA5:M5.get A=some (.cells true [ii W,ii 0,ve',vc]):=nF oA4 hM5
  have oA5:=hC5.old oA4
  have oe5:=o4.chg hC5 λi hi q=>ae' ((ac0.mp q)▸hi)
  have oc5:=oc4.chg hC5 λi hi q=>ac ((ac0.mp q)▸hi)
  have c04:Chg [] M0 M4:=(hC.tr hC3).trans hC4 λi hi q=>adD q (oe.new i hi)
  have c05:Chg [] M0 M5:=c04.trans hC5 λi hi q=>adD ((ac0.mp hi)▸q) nA
  obtain⟨vc',M6,q6,o6,hC6⟩:=oc5.app (bytes:=4) (b5.grew c05) (by simpa using hw1) (λi hi=>c05.old hi) (by simp only[aa0];omega) (by simp only[aa0];omega)
  have hF6:=OU q6
  have gA6:=(hC6.get oA5 ac).trans gA5
  have oA6:=hC6.old oA5
  have ac':A∉ids vc':=λq=>(hF6 _ q).elim ac λz=>z oA5
  have oe6:=oe5.chg hC6 λi hi q=>dd' i hi q
  have dd6:∀i∈ids ve',i∉ids vc':=λi hi q=>(hF6 i q).elim (λz=>dd' i hi z) λz=>z (oe5.sl.old _ hi)
  generalize hM7:hp [(.o A,.cells true [ii W,ii 0,ve',vc'])] 0 M6=M7
  have hC7:Chg [A] M6 M7:=az hM7 rfl
  have gA7:M7.get A=some (.cells true [ii W,ii 0,ve',vc']):=nF oA6 hM7
  have oe7:=oe6.chg hC7 λi hi q=>ae' ((ac0.mp q)▸hi)
  have oc7:aQ M0 M7 vc' 1 (Ek (co++w)):=by
   show aQ M0 M7 vc' 1 ((co++w).map _)
   rw[ab5]
   exact o6.chg hC7 λi hi q=>ac' ((ac0.mp q)▸hi)
  have oe7':aQ M0 M7 ve' 1 (dM (en++ [(co.length:Int)])):=by
   show aQ M0 M7 ve' 1 ((en++ [(co.length:Int)]).map _)
   rw[ab5]
   exact oe7
  have c06:Chg [] M0 M6:=c05.trans hC6 λi hi q=>adD q (oc5.new i hi)
  have c07:Chg [] M0 M7:=c06.trans hC7 λi hi q=>adD ((ac0.mp hi)▸q) nA
  rw[←aa M4] at q4
  rw[←aa M6] at q6
  have hve2:=o4.sl.one
  have hvc2:=o6.sl.one
  simp (disch:=first|omega|(simp only[aA]<;>omega)) only[go_sem,seval,t0,t2,t3,t4,b1,b2,b4,gA,hvcl,hM3,q4,gA4,hve2,hM5,gA5,q6,gA6,hvc2,hM7]
  exact⟨L.length - (i+1),by omega,_,M7,i+1,ve',vc',en++ [(co.length:Int)],co++w,rfl,by exact gq t0,by exact gq t1,by exact gq t2,by exact gq t3,by exact gq rfl,by omega,hA,by simp[hen],by rw[aa5];omega,⟨gA7,hC7.old oA6,oe7',oc7,ae',ac',dd6⟩,c07⟩
 ·have hii:i=L.length:=by omega
  subst hii
  rw[ad0 (by omega)] at hA
  have hA:mQ [] st L=(en,co):=hA.symm
  rw[hA] at hK hB hw
  dsimp only at hK hB hw
  obtain⟨u3,M3,r3,e3,C3⟩:=Oo (W:=W) (s:=0) oe.sl oc.sl hw hW hW' (by omega) (by omega) (by omega)
  subst e3
  rw[hB] at r3
  have g0M:=(C3.get (hC.old o0) (by simp)).trans ((hC.get o0 (by simp)).trans g0)
  have o0M:=C3.old (hC.old o0)
  have gA3:=(C3.get oA (by simp)).trans gA
  have hsm:aU 4 (.agg [ii W,ii 0,ve,vc]) (.agg [ii W,ii 0,ve,vc])=true:=vI λv hv=>by
   simp only[adJ,adI,or_false] at hv
   rcases hv with rfl|rfl|rfl|rfl
   ·trivial
   ·trivial
   ·exact oe.sl.flat
   ·exact oc.sl.flat
  have hn0:∀{v:NV} {e:Nat} {D:List (List NV)},aQ M0 M v e D->na m 0∉ids v:=λh q=>h.new _ q o0
  rw[←aa M3] at r3
  rw[aa M]
  simp (disch:=first|omega|(simp only[aA]<;>omega)) only[go_sem,seval,t0,t1,t3,t4,gA,r3.wf',gA3,g0M]
  generalize hM9:hp _ 0 M3=M9
  have hC9:Chg [na m 0] M3 M9:=az hM9 rfl
  have c9:Chg [] m M9:=((hC0.tr hC).tr C3).trans hC9 λi hi q=>adD ((ac0.mp hi)▸q) ak
  refine hK _ _ ⟨⟨ve,vc,rfl, ?_, ?_⟩,c9⟩
  ·exact ((oe.chg C3 (by simp)).chg hC9 λi hi q=>hn0 oe ((ac0.mp q)▸hi)).back λi hi=>hC0.old hi
  ·exact ((oc.chg C3 (by simp)).chg hC9 λi hi q=>hn0 oc ((ac0.mp q)▸hi)).back λi hi=>hC0.old hi
def lH (ps:List Pc) (v:Int):Pc:=if 0<=v then (ps[v.toNat]?).getD ⟨true,0⟩ else ⟨true,0⟩
def fF (ps:List Pc) (v w:Int) (X:Em):Int×Em:=if (lH ps v).slot=true then (17+w,cU ⟨12,17+w,28,0,0,0,(lH ps v).n⟩ X) else ((lH ps v).n+1,X)
def oZ (ps:List Pc) (v:Int):Int:=if (lH ps v).slot=true then 20 else (lH ps v).n+1
def QY (ps:List Pc) (v:Int) (X:Em):Em:=if (lH ps v).slot=true then cU ⟨13,20,28,0,0,0,(lH ps v).n⟩ X else X
section
variable {B m m' m'' M:NH} {r i:D4} {vp vi vi' vb:NV} {ps:List Pc} {X X':Em}
theorem w8 (h:EK B m r vp vi vb ps X) (v:Int) (hps:ps.length<=1000000):∃m',rT 357 [.ptr r 0,ii v] m (.agg (lH ps v).l) m'/\Chg [] m m':=by
 refine WF.ex1 λK hK=> ?_
 refine WF.of_wpG (λ_=>rfl) AM (L:= [(.a .e,ii v),(.e,.ptr r 0)]) rfl ?_
 unfold PL
 have hg:=h.g
 have ho:=h.o
 have hp:=h.p.chg h.c (by simp)
 have hlen:=hp.len
 rw[aa0] at hlen
 unfold lH at hK
 by_cases h0:v<0
 ·rw[adE (by omega)] at hK
  simp (disch:=first|omega|(simp only[aA]<;>omega)) only[go_sem,seval,h0]
  exact hK _ (aw rfl)
 ·rw[adF (by omega)] at hK
  by_cases h1:(ps.length:Int)<=v
  ·rw[List.getElem?_eq_none (by omega)] at hK
   simp (disch:=first|omega|(simp only[aA]<;>omega)) only[go_sem,seval,hg,h0,hlen,h1]
   exact hK _ (aw rfl)
  ·obtain⟨j,rfl⟩:∃j:Nat,v=(j:Int):=⟨v.toNat,by omega⟩
   have hj:j<ps.length:=by omega
   rw[ac8,List.getElem?_eq_getElem hj] at hK
   obtain⟨id,off,wr,cs,a1,a2,a3,a4,a5⟩:=hp.at j (by simpa using hj)
   rw[aa4] at a5
   have hl2:(Pc.l ps[j]).length=2:=rfl
   simp only[ae5] at hK
   generalize ps[j]=p at a5 hl2 hK
   simp (disch:=first|omega|(simp only[aA]<;>omega)) only[go_sem,seval,hg,h0,hlen,h1,a1,a2,a5]
   exact hK _ (aw rfl)
theorem jS (h:EK B m r vp vi vb ps X) (v:Int) (hps:ps.length<=1000000) (hn:-1000000<=(lH ps v).n/\(lH ps v).n<=1000000):∃m',rT 325 [.ptr r 0,ii v] m (ii (oZ ps v)) m'/\Chg [] m m':=by
 refine WF.ex1 λK hK=> ?_
 refine WF.of_wpG (λ_=>rfl) DD (L:= [(.a .e,ii v),(.e,.ptr r 0)]) rfl ?_
 unfold O5
 obtain⟨m1,r1,hC1⟩:=w8 h v hps
 unfold oZ at hK
 generalize lH ps v=p at *
 obtain⟨sl,n⟩:=p
 dsimp only at hK hn
 rw[aa]
 cases sl with
 |true=>
  rw[adF rfl] at hK
  simp (disch:=first|omega|(simp only[aA]<;>omega)) only[go_sem,seval,r1.wf]
  exact hK _ (hC1.trans (T:= []) (aw rfl) (by simp))
 |false=>
  rw[adE aa3] at hK
  simp (disch:=first|omega|(simp only[aA]<;>omega)) only[go_sem,seval,r1.wf]
  exact hK _ (hC1.trans (T:= []) (aw rfl) (by simp))
end
section
variable {B m m' m'' M:NH} {r i:D4} {vp vi vi' vb:NV} {ps:List Pc} {X X':Em}
theorem kV (h:EK B m r vp vi vb ps X) (v:Int) (hps:ps.length<=1000000) (hl:X.l.length<=10000000):∃m',rT 326 [.ptr r 0,ii v] m (.tup []) m'/\∃vi',EK B m' r vp vi' vb ps (QY ps v X)/\Ev r vi vi' m m':=by
 refine WF.ex1 λK hK=> ?_
 refine WF.of_wpG (λ_=>rfl) CW (L:= [(.a .e,ii v),(.e,.ptr r 0)]) rfl ?_
 unfold Kr
 obtain⟨m1,r1,hC1⟩:=w8 h v hps
 unfold QY at hK
 generalize lH ps v=p at *
 obtain⟨sl,n⟩:=p
 dsimp only at hK
 generalize hM:hp [(.n 0,.cells true [.bool sl,ii n]),(.n 0,.cells true [.bool false,.int .i64 (.lit 0)])] 1 m1=M
 have hC2:Chg [] m1 M:=az hM rfl
 have g0:M.get (na m1 0)=some (.cells true [.bool sl,ii n]):=aI hM
 have c2:=hC1.tr hC2
 have h2:=h.grow c2
 rw[aa]
 cases sl with
 |true=>
  rw[adF rfl] at hK
  obtain⟨m3,r3,vi',h3,hE3⟩:=dK h2 ⟨13,20,28,0,0,0,n⟩ hl
  simp (disch:=first|omega|(simp only[aA]<;>omega)) only[go_sem,seval,r1.wf,hM,g0,r3.wf']
  exact hK _ ⟨vi',h3,hE3.pre c2⟩
 |false=>
  rw[adE aa3] at hK
  simp (disch:=first|omega|(simp only[aA]<;>omega)) only[go_sem,seval,r1.wf,hM,g0]
  exact hK _ ⟨vi,h2,Ev.grow c2⟩
theorem ft (h:EK B m r vp vi vb ps X) (v w:Int) (hw:0<=w/\w<=2) (hps:ps.length<=1000000) (hl:X.l.length<=10000000) (hn:-1000000<=(lH ps v).n/\(lH ps v).n<=1000000):∃m',rT 327 [.ptr r 0,ii v,ii w] m (ii (fF ps v w X).1) m'/\∃vi',EK B m' r vp vi' vb ps (fF ps v w X).2/\Ev r vi vi' m m':=by
 refine WF.ex1 λK hK=> ?_
 refine WF.of_wpG (λ_=>rfl) yp (L:= [(.b .e,ii w),(.a .e,ii v),(.e,.ptr r 0)]) rfl ?_
 unfold MH
 obtain⟨m1,r1,hC1⟩:=w8 h v hps
 unfold fF at hK
 generalize lH ps v=p at *
 obtain⟨sl,n⟩:=p
 dsimp only at hK hn
 generalize hM:hp [(.n 0,.cells true [.bool sl,ii n]),(.n 0,.cells true [.bool false,.int .i64 (.lit 0)])] 1 m1=M
 have hC2:Chg [] m1 M:=az hM rfl
 have g0:M.get (na m1 0)=some (.cells true [.bool sl,ii n]):=aI hM
 have c2:=hC1.tr hC2
 have h2:=h.grow c2
 rw[aa]
 cases sl with
 |true=>
  rw[adF rfl] at hK
  obtain⟨m3,r3,vi',h3,hE3⟩:=dK h2 ⟨12,17+w,28,0,0,0,n⟩ hl
  simp (disch:=first|omega|(simp only[aA]<;>omega)) only[go_sem,seval,r1.wf,hM,g0,r3.wf']
  exact hK _ ⟨vi',h3,hE3.pre c2⟩
 |false=>
  rw[adE aa3] at hK
  simp (disch:=first|omega|(simp only[aA]<;>omega)) only[go_sem,seval,r1.wf,hM,g0]
  exact hK _ ⟨vi,h2,Ev.grow c2⟩
end
def lbE (to:Int) (X:Em):Em:=if 0<=to/\(X.lb[to.toNat]?).getD 0<0 then ⟨X.l,X.lb.set to.toNat X.l.length⟩ else X
section
variable {B m m' m'' M:NH} {r i:D4} {vp vi vi' vb:NV} {ps:List Pc} {X X':Em}
theorem Rr (h:EK B m r vp vi vb ps X) (to:Int) (hl:X.l.length<=10000000) (hb:X.lb.length<=1000000):∃m',rT 330 [.ptr r 0,ii to] m (.tup []) m'/\EK B m' r vp vi vb ps (lbE to X)/\Chg (ids vb) m m':=by
 refine WF.ex1 λK hK=> ?_
 refine WF.of_wpG (λ_=>rfl) zx (L:= [(.a .e,ii to),(.e,.ptr r 0)]) rfl ?_
 unfold Qb
 have hg:=h.g
 have ho:=h.o
 have hlen:=h.b.sl.len
 rw[aa0] at hlen
 have hil:=h.i.sl.len
 rw[aa0] at hil
 unfold lbE at hK
 by_cases h0:0<=to
 ·by_cases h1:to<(X.lb.length:Int)
  ·obtain⟨j,rfl⟩:∃j:Nat,to=(j:Int):=⟨to.toNat,by omega⟩
   have hj:j<X.lb.length:=by omega
   rw[ac8,List.getElem?_eq_getElem hj,ae5] at hK
   obtain⟨id,off,c,a1,a2,a3,a4,a5,a6,a7,a8⟩:=h.b.at_all j (by simpa using hj)
   rw[aa4] at a7
   have c0:=bm a7 0 (by omega)
   rw[ad7] at c0
   have c0:c[off]? =some (ii X.lb[j]):=c0
   by_cases h2:X.lb[j]<0
   ·rw[adF ⟨h0,h2⟩] at hK
    simp (disch:=omega) only[go_sem,seval,hg,h0,h1,hlen,hil,a1,a4,c0,h2]
    generalize hM:hp _ 0 m=M
    have hC:Chg [id] m M:=az hM rfl
    have hid:id∈ids vb:=by rw[a2];exact List.mem_singleton_self _
    have g2:M.get id=some (.cells true (c.set off (ii X.l.length))):=nF a5 hM
    have ob:=a8 [ii X.l.length] M rfl (by rw[g2,List.set_eq_take_append_cons_drop,adF (by omega),ab1];rfl) (hC.old a5)
    have hr:r∉ [id]:=λq=>h.nb (one q▸hid)
    have hvi:∀i∈ids vi,i∉ [id]:=λi hi q=>h.d i hi (one q▸hid)
    have hCb:Chg (ids vb) m M:=hC.weak λi hi _=>one hi▸hid
    refine hK _ ⟨⟨(hC.get ho hr).trans hg,hC.old ho,h.nB,h.i.chg hC hvi,h.n,h.c.trans hC λi hi q=>adD q (one hi▸a3),h.p, ?_,h.nb,h.d⟩,hCb⟩
    simpa [dM,List.map_set] using ob
   ·rw[adE λq=>h2 q.2] at hK
    simp only[go_sem,seval,hg,h0,h1,hlen,a1,a4,c0,h2]
    rw[aa];exact hK _ ⟨h,(Chg.refl m).weak (by simp)⟩
  ·have:(X.lb[to.toNat]?).getD 0=0:=by rw[List.getElem?_eq_none (by omega)];rfl
   rw[this,adE (by omega)] at hK
   simp only[go_sem,seval,hg,h0,h1,hlen]
   rw[aa];exact hK _ ⟨h,(Chg.refl m).weak (by simp)⟩
 ·rw[adE λq=>h0 q.1] at hK
  simp only[go_sem,seval,h0]
  rw[aa];exact hK _ ⟨h,(Chg.refl m).weak (by simp)⟩
end
def ptN (n:Int) (s:Nat):Int:=n / 65536 ^ s % 65536
def Ep (d n:Int) (s:Nat) (X:Em):Em:=if ptN n s≠0 then cU ⟨1,d,0,0,s,0,ptN n s⟩ X else X
def Zo (d n:Int) (X:Em):Em:=Ep d n 3 (Ep d n 2 (Ep d n 1 (cU ⟨0,d,0,0,0,0,n % 65536⟩ X)))
theorem Hl  (h:0<=a) (h':a<18446744073709551616):bH .num .and (iu a) (iu 65535)=some (iu (a % 65536)):=by
 obtain⟨n,rfl⟩:=adL h
 have:=GI (a:=n) (b:=65535) (by omega) (by omega)
 rw[Nat.and_two_pow_sub_one_eq_mod n 16] at this
 exact this
theorem QG  (h:0<=a) {s:Nat} (hs:s<=3):bH .num .shr (iu a) (ii (16*s))=some (iu (a / 65536 ^ s)):=by
 obtain⟨n,rfl⟩:=adL h
 have:=ul (a:=n) (k:= .i64) (n:=16*s) (by omega)
 rw[show (2:Nat) ^ (16*s)=65536 ^ s by rw[Nat.pow_mul]] at this
 exact this
section
variable {B m m' m'' M:NH} {r i:D4} {vp vi vi' vb:NV} {ps:List Pc} {X X':Em}
def Qo (d n:Int) (X:Em):Nat->Em
 |0=>X
 |1=>cU ⟨0,d,0,0,0,0,n % 65536⟩ X
 |s+1=>Ep d n s (Qo d n X s)
theorem aaP (d n:Int) (X:Em) {s:Nat} (h:1<=s):Qo d n X (s+1)=Ep d n s (Qo d n X s):=by
 cases s with
 |zero=>omega
 |succ s=>rfl
theorem pI (d n:Int) (s:Nat) (X:Em):(Ep d n s X).l.length<=X.l.length+1:=by unfold Ep cU;split<;>simp
theorem Gl (h:EK B m r vp vi vb ps X) {d n:Int} (hd:-1000000<=d/\d<=1000000) (hn:0<=n/\n<18446744073709551616) (hl:X.l.length<=9000000):∃m',rT 324 [.ptr r 0,ii d,iu n] m (.tup []) m'/\∃vi',EK B m' r vp vi' vb ps (Zo d n X)/\Ev r vi vi' m m':=by
 refine WF.ex1 λK hK=> ?_
 refine WF.of_wpG (λ_=>rfl) zZ (L:= [(.b .e,iu n),(.a .e,ii d),(.e,.ptr r 0)]) rfl ?_
 unfold Mf
 have ha:=Hl hn.1 hn.2
 have h0:=Int.emod_nonneg n (b:=65536) (by omega)
 obtain⟨m1,r1,v1,k1,E1⟩:=dK h ⟨0,d,0,0,0,0,n % 65536⟩ (by omega)
 rw[aa]
 simp (disch:=first|omega|(simp only[aA]<;>omega)) only[go_sem,seval,ha,r1.wf']
 refine W.loop (λk D=>∃t M s v,D=⟨t, [],none,M⟩/\NT.get D4.e t=some (.ptr r 0)/\NT.get D4.e.a t=some (ii d)/\NT.get D4.e.b t=some (iu n)/\NT.get D4.e.a.b t=some (ii (s:Nat))/\1<=s/\s+k=4/\EK B M r vp v vb ps (Qo d n X s)/\(Qo d n X s).l.length<=X.l.length+s/\Ev r vi v m M) ?_ 3 _
  ⟨_,m1,1,v1,rfl,by simp only[go_sem,seval],by simp only[go_sem,seval],by simp only[go_sem,seval],by simp only[go_sem,seval]<;>rfl,by omega,by omega,k1,by show (X.l++ [_]).length<=_;simp,E1⟩
 rintro k D ⟨t,M,s,v,rfl,t1,t2,t3,t4,hs1,hsk,hk,hlen,hE⟩
 apply av
 unfold AE
 change wp _ _ _ _ ⟨puts [] t, [],none,M⟩ _
 rw[←aa M]
 by_cases hs:s<4
 ·have hsh:=QG hn.1 (s:=s) (by omega)
  have hq0:0<=n / 65536 ^ s:=Int.ediv_nonneg hn.1 (Int.pow_nonneg (by omega))
  have hq1:n / 65536 ^ s<18446744073709551616:=Int.lt_of_le_of_lt (Int.ediv_le_self _ hn.1) hn.2
  have hb:=Hl hq0 hq1
  have hp0:=Int.emod_nonneg (n / 65536 ^ s) (b:=65536) (by omega)
  have hcs:=aaP d n X hs1
  have hcl:=pI d n s (Qo d n X s)
  by_cases hz:n / 65536 ^ s % 65536=0
  ·have e:Ep d n s (Qo d n X s)=Qo d n X s:=by unfold Ep ptN;rw[adE λq=>q hz]
   simp (disch:=omega) only[go_sem,seval,t3,t4,hsh,hb,hz,AS]
   rw[aa]
   exact⟨4 - (s+1),by omega,_,M,s+1,v,by rfl,by simp only[go_sem,seval,t1],by simp only[go_sem,seval,t2],by simp only[go_sem,seval,t3],by simp only[go_sem,seval]<;>rfl,by omega,by omega,by rw[hcs,e];exact hk,by rw[hcs,e];omega,hE⟩
  ·have e:Ep d n s (Qo d n X s)=cU ⟨1,d,0,0,s,0,n / 65536 ^ s % 65536⟩ (Qo d n X s):=by unfold Ep ptN;rw[adF hz]
   obtain⟨m2,r2,v2,k2,E2⟩:=dK hk ⟨1,d,0,0,s,0,n / 65536 ^ s % 65536⟩ (by omega)
   rw[aa]
   simp (disch:=first|omega|(simp only[aA]<;>omega)) only[go_sem,seval,t1,t2,t3,t4,hsh,hb,AS,r2.wf']
   exact⟨4 - (s+1),by omega,_,m2,s+1,v2,by rfl,by simp only[go_sem,seval,t1],by simp only[go_sem,seval,t2],by simp only[go_sem,seval,t3],by simp only[go_sem,seval]<;>rfl,by omega,by omega,by rw[hcs,e];exact k2,by rw[hcs];omega,hE.trans E2⟩
 ·obtain rfl:s=4:=by omega
  simp only[go_sem,seval,t4]
  rw[aa]
  exact hK _ ⟨v,hk,hE⟩
end
def knN (o:Int):Option Int:=if o=43 then some 2 else if o=45 then some 3 else if o=42 then some 4 else if o=38 then some 5 else none
def cdN (o:Int):Option Int:=if o=61 then some 0 else if o=60 then some 11 else none
def rkO (o d a b:Int) (X:Em):Em:=match knN o with
 |some k=>cU ⟨k,d,a,b,0,0,0⟩ X
 |none=>match cdN o with
  |some c=>cU ⟨7,d,0,0,0,c,0⟩ (cU ⟨6,0,a,b,0,0,0⟩ X)
  |none=>cU ⟨21,0,0,0,0,0,0⟩ X
def rkE (ps:List Pc) (s:Sp) (X:Em):Em:=
 let A:=fF ps s.a 0 X
 let B:=fF ps s.b 1 A.2
 QY ps s.d (rkO s.o (oZ ps s.d) A.1 B.1 B.2)
theorem kx {s:Bool} {k:NV} {l l':List (NV×NV)} (h:mN s k v l=some l'):JK s id k v m (some (.map l))= .mem aK (m.put id (.map l')):=by
 show aS (mN s k v l) _=_;rw[h];rfl
theorem qt {z k:NV} {l:List (NV×NV)} {r:Option NV} (h:gP false k l=some r):Xd false z true k l= .val (match (generalizing:=false) r with|some v=> .tup [v,.bool true]|none=> .tup [z,.bool false]):=by
 unfold Xd;rw[h];cases r<;>rfl
theorem eqB (a b:Int):jw false (ib a) (ib b)=some (decide (a=b)):=by
 show cond (EF .u8 .u8) (some (ww a b)) none=_
 rw[iw];rfl
theorem Yn (o:Int):gP false (ib o) [(ib 43,ii 2),(ib 45,ii 3),(ib 42,ii 4),(ib 38,ii 5)]=some ((knN o).map ii):=by
 unfold gP knN
 simp only[eqB]
 by_cases h1:o=43
 ·simp[h1]
 by_cases h2:o=45
 ·simp[h2]
 by_cases h3:o=42
 ·simp[h3]
 by_cases h4:o=38
 ·simp[h4]
 simp[h1,h2,h3,h4]
theorem aaG (o:Int):gP false (ib o) [(ib 61,ii 0),(ib 60,ii 11)]=some ((cdN o).map ii):=by
 unfold gP cdN
 simp only[eqB]
 by_cases h1:o=61
 ·simp[h1]
 by_cases h2:o=60
 ·simp[h2]
 simp[h1,h2]
theorem mu1 :JK false id (ib 43) (ii 2) m (some (.map []))= .mem aK (m.put id (.map [(ib 43,ii 2)])):=kx rfl
theorem mu2 :JK false id (ib 45) (ii 3) m (some (.map [(ib 43,ii 2)]))= .mem aK (m.put id (.map [(ib 43,ii 2),(ib 45,ii 3)])):=kx rfl
theorem mu3 :JK false id (ib 42) (ii 4) m (some (.map [(ib 43,ii 2),(ib 45,ii 3)]))= .mem aK (m.put id (.map [(ib 43,ii 2),(ib 45,ii 3),(ib 42,ii 4)])):=kx rfl
theorem mu4 :JK false id (ib 38) (ii 5) m (some (.map [(ib 43,ii 2),(ib 45,ii 3),(ib 42,ii 4)]))= .mem aK (m.put id (.map [(ib 43,ii 2),(ib 45,ii 3),(ib 42,ii 4),(ib 38,ii 5)])):=kx rfl
theorem mu5 :JK false id (ib 61) (ii 0) m (some (.map []))= .mem aK (m.put id (.map [(ib 61,ii 0)])):=kx rfl
theorem mu6 :JK false id (ib 60) (ii 11) m (some (.map [(ib 61,ii 0)]))= .mem aK (m.put id (.map [(ib 61,ii 0),(ib 60,ii 11)])):=kx rfl
section
variable {B m m' m'' M:NH} {r i:D4} {vp vi vi' vb:NV} {ps:List Pc} {X X':Em}
theorem jm (ps:List Pc) (v w:Int) (X:Em):(fF ps v w X).2.l.length<=X.l.length+1:=by unfold fF cU;split<;>simp
set_option maxHeartbeats 1000000 in
theorem OT (h:EK B m r vp vi vb ps X) (s:Sp) (hps:ps.length<=1000000) (hn:∀v,0<=(lH ps v).n/\(lH ps v).n<=1000000) (hl:X.l.length<=9000000):∃m',rT 328 [.ptr r 0,.agg s.l] m (.tup []) m'/\∃vi',EK B m' r vp vi' vb ps (rkE ps s X)/\Ev r vi vi' m m':=by
 refine WF.ex1 λK hK=> ?_
 refine WF.of_wpG (λ_=>rfl) yi (L:= [(.a .e,.agg s.l),(.e,.ptr r 0)]) rfl ?_
 unfold LA
 generalize hM1:hp [(.n 0,.cells true s.l)] 1 m=M1
 have hC1:Chg [] m M1:=az hM1 rfl
 have g1:M1.get (na m 0)=some (.cells true s.l):=aI hM1
 have o1:ap M1 (na m 0):=aL hM1 (by omega)
 have nr:na m 0≠r:=λq=>ak (q▸h.o)
 have nvi:na m 0∉ids vi:=λq=>ak (h.i.sl.old _ q)
 have h1:=h.grow hC1
 obtain⟨m2,r2,v2,h2,E2⟩:=ft h1 s.a 0 (by omega) hps (by omega) ⟨by have:=(hn s.a).1;omega,(hn s.a).2⟩
 have g2:=(E2.get o1 nr nvi).trans g1
 have o2:=E2.c.old o1
 have nv2:=E2.nin o1 nvi
 have l2:=jm ps s.a 0 X
 obtain⟨m3,r3,v3,h3,E3⟩:=ft h2 s.b 1 (by omega) hps (by omega) ⟨by have:=(hn s.b).1;omega,(hn s.b).2⟩
 have g3:=(E3.get o2 nr nv2).trans g2
 have o3:=E3.c.old o2
 have l3:=jm ps s.b 1 (fF ps s.a 0 X).2
 obtain⟨m4,r4,C4⟩:=jS h3 s.d hps ⟨by have:=(hn s.d).1;omega,(hn s.d).2⟩
 have g4:=(C4.get o3 (by simp)).trans g3
 have h4:=h3.grow C4
 unfold rkE at hK
 dsimp only at hK
 generalize (fF ps s.a 0 X).1=xa at *
 generalize (fF ps s.a 0 X).2=X2 at *
 generalize (fF ps s.b 1 X2).1=xb at *
 generalize (fF ps s.b 1 X2).2=X3 at *
 generalize oZ ps s.d=d at *
 have o4:=C4.old o3
 have f3:=Yn s.o
 have f2:=aaG s.o
 unfold rkO at hK
 have hX3:X3.l.length<=9000002:=by omega
 have c14:Chg [] m M1:=hC1
 cases hk:knN s.o with
 |some k=>
  rw[hk] at f3 hK
  dsimp only[Option.map_some] at f3 hK
  simp only[go_sem,seval,hM1,g1,r2.wf',g2,r3.wf',g3,r4.wf,g4,o4,mu1,mu2,mu3,mu4,mu5,mu6,qt f3]
  generalize hM5:hp _ 2 m4=M5
  have C5:Chg [] m4 M5:=az hM5 rfl
  have g5:=(C5.get o4 (by simp)).trans g4
  have o5:=C5.old o4
  have h5:=h4.grow C5
  have nv5:=E3.nin o2 nv2
  obtain⟨m6,r6,v6,h6,E6⟩:=dK h5 ⟨k,d,xa,xb,0,0,0⟩ (by omega)
  have g6:=(E6.get o5 nr nv5).trans g5
  obtain⟨m7,r7,v7,h7,E7⟩:=kV h6 s.d hps (by simp[cU];omega)
  simp (disch:=first|omega|(simp only[aA]<;>omega)) only[go_sem,seval,r6.wf',g6,r7.wf']
  exact hK _ ⟨v7,h7,(E2.pre hC1).trans (E3.trans ((E6.pre (C4.tr C5)).trans E7))⟩
 |none=>
  rw[hk] at f3 hK
  dsimp only[Option.map_none] at f3 hK
  cases hc:cdN s.o with
  |some c=>
   rw[hc] at f2 hK
   dsimp only[Option.map_some] at f2 hK
   simp only[go_sem,seval,hM1,g1,r2.wf',g2,r3.wf',g3,r4.wf,g4,o4,mu1,mu2,mu3,mu4,mu5,mu6,qt f3,qt f2]
   generalize hM5:hp _ 2 m4=M5
   have C5:Chg [] m4 M5:=az hM5 rfl
   have g5:=(C5.get o4 (by simp)).trans g4
   have o5:=C5.old o4
   have h5:=h4.grow C5
   have nv5:=E3.nin o2 nv2
   obtain⟨m6,r6,v6,h6,E6⟩:=dK h5 ⟨6,0,xa,xb,0,0,0⟩ (by omega)
   have g6:=(E6.get o5 nr nv5).trans g5
   have o6:=E6.c.old o5
   have nv6:=E6.nin o5 nv5
   obtain⟨m7,r7,v7,h7,E7⟩:=dK h6 ⟨7,d,0,0,0,c,0⟩ (by simp[cU];omega)
   have g7:=(E7.get o6 nr nv6).trans g6
   obtain⟨m8,r8,v8,h8,E8⟩:=kV h7 s.d hps (by simp[cU];omega)
   simp (disch:=first|omega|(simp only[aA]<;>omega)) only[go_sem,seval,r6.wf',r7.wf',g7,r8.wf']
   exact hK _ ⟨v8,h8,(E2.pre hC1).trans (E3.trans ((E6.pre (C4.tr C5)).trans (E7.trans E8)))⟩
  |none=>
   rw[hc] at f2 hK
   dsimp only[Option.map_none] at f2 hK
   simp only[go_sem,seval,hM1,g1,r2.wf',g2,r3.wf',g3,r4.wf,g4,o4,mu1,mu2,mu3,mu4,mu5,mu6,qt f3,qt f2]
   generalize hM5:hp _ 2 m4=M5
   have C5:Chg [] m4 M5:=az hM5 rfl
   have g5:=(C5.get o4 (by simp)).trans g4
   have o5:=C5.old o4
   have h5:=h4.grow C5
   have nv5:=E3.nin o2 nv2
   obtain⟨m6,r6,v6,h6,E6⟩:=dK h5 ⟨21,0,0,0,0,0,0⟩ (by omega)
   have g6:=(E6.get o5 nr nv5).trans g5
   obtain⟨m7,r7,v7,h7,E7⟩:=kV h6 s.d hps (by simp[cU];omega)
   simp (disch:=first|omega|(simp only[aA]<;>omega)) only[go_sem,seval,r6.wf',g6,r7.wf']
   exact hK _ ⟨v7,h7,(E2.pre hC1).trans (E3.trans ((E6.pre (C4.tr C5)).trans E7))⟩
end
def Ff (d a b c:Int):List Iw:= [⟨16,21,a,0,0,0,0⟩,⟨6,0,21,b,0,0,0⟩,⟨9,0,0,0,0,1,5⟩,⟨17,c,a,0,22,0,0⟩,⟨11,0,22,0,0,0,-4⟩,⟨0,d,0,0,0,0,1⟩,⟨8,0,0,0,0,0,2⟩,⟨0,d,0,0,0,0,0⟩]
def swE (ps:List Pc) (s:Sp) (X:Em):Em:=
 let A:=fF ps s.a 0 X
 let B:=fF ps s.b 1 A.2
 let C:=fF ps s.c 2 B.2
 QY ps s.d ⟨C.2.l++Ff (oZ ps s.d) A.1 B.1 C.1,C.2.lb⟩
section
variable {B m m' m'' M:NH} {r i:D4} {vp vi vi' vb sv w1:NV} {ps:List Pc} {X X':Em} {L:List Iw}
theorem UX (hv:Sl m sv 7 (Qn L)) (hs:∀i∈ids sv,i≠r/\i∉ids vi) (h:EK B m r vp vi vb ps X) (hl:X.l.length+L.length<=9999999) {t:Tm} (t0:NT.get D4.e t=some (.ptr r 0)) (t1:NT.get D4.e.c t=some w1) (t2:NT.get D4.e.b.a.f t=some sv) (t3:NT.get D4.e.b.b.a t=some (ii L.length)) (t4:NT.get D4.e.b.b.b t=some (ii 0))
 (hQ:∀t' M vi',NT.get D4.e t'=some (.ptr r 0)->NT.get D4.e.c t'=some w1->EK B M r vp vi' vb ps ⟨X.l++L,X.lb⟩->Ev r vi vi' m M->Q (.exit 0) ⟨puts [] t', [],none,M⟩):
 W af8 S0 none qh.loop ⟨t, [],none,m⟩ Q:=by
 refine W.loop (λk D=>∃t M i v,D=⟨t, [],none,M⟩/\NT.get D4.e t=some (.ptr r 0)/\NT.get D4.e.c t=some w1/\NT.get D4.e.b.a.f t=some sv/\NT.get D4.e.b.b.a t=some (ii L.length)/\NT.get D4.e.b.b.b t=some (ii (i:Nat))/\i+k=L.length/\EK B M r vp v vb ps ⟨X.l++L.take i,X.lb⟩/\Ev r vi v m M) ?_ L.length _
  ⟨_,m,0,vi,rfl,t0,t1,t2,t3,t4,by omega,by simpa using h,Ev.grow (Chg.refl m)⟩
 clear t0 t1 t2 t3 t4
 rintro k D ⟨t,M,i,v,rfl,t0,t1,t2,t3,t4,hik,hk,hE⟩
 apply av
 unfold qh
 change wp _ _ _ _ ⟨puts [] t, [],none,M⟩ _
 rw[←aa M]
 by_cases hi:i<L.length
 ·have hv2:Sl M sv 7 (Qn L):=hv.chg hE.c λj hj q=>by
   rcases aa1.1 q with e|e
   ·exact (hs j hj).1 e
   ·exact (hs j hj).2 e
  obtain⟨id,off,wr,c,a1,a2,a3,a4,a5⟩:=hv2.at i (by simpa using hi)
  rw[aa4] at a5
  have hsl:(Iw.l L[i]).length=7:=rfl
  have htk:L.take (i+1)=L.take i++ [L[i]]:=by rw[ab7,List.getElem?_eq_getElem hi];rfl
  generalize L[i]=x at a5 hsl htk
  generalize hM2:hp [(.n 0,.cells true x.l),(.n 0,.cells true [.int .i64 (.lit 0),.int .i64 (.lit 0),.int .i64 (.lit 0),.int .i64 (.lit 0),.int .i64 (.lit 0),.int .i64 (.lit 0),.int .i64 (.lit 0)])] 1 M=M2
  have hC2:Chg [] M M2:=az hM2 rfl
  have gl:M2.get (na M 0)=some (.cells true x.l):=aI hM2
  obtain⟨m3,r3,v3,h3,E3⟩:=dK (hk.grow hC2) x (by simp;omega)
  simp (disch:=first|omega|(simp only[aA]<;>omega)) only[go_sem,seval,t0,t2,t3,t4,a1,a2,a5,hM2,gl,r3.wf']
  exact⟨L.length - (i+1),by omega,_,m3,i+1,v3,by rfl,by simp only[go_sem,seval,t0],by simp only[go_sem,seval,t1],by simp only[go_sem,seval,t2],by simp only[go_sem,seval,t3],by simp only[go_sem,seval]<;>rfl,by omega,by rw[htk,←ab1];exact h3,hE.trans (E3.pre hC2)⟩
 ·rw[ac9 (by omega)] at hk
  simp (disch:=omega) only[go_sem,seval,t3,t4]
  rw[aa]
  exact hQ _ _ v (by simp only[go_sem,seval,t0]) (by simp only[go_sem,seval,t1]) hk hE
set_option maxHeartbeats 1000000 in
theorem UQ (h:EK B m r vp vi vb ps X) (s:Sp) (hps:ps.length<=1000000) (hn:∀v,0<=(lH ps v).n/\(lH ps v).n<=1000000) (hl:X.l.length<=9000000):∃m',rT 329 [.ptr r 0,.agg s.l] m (.tup []) m'/\∃vi',EK B m' r vp vi' vb ps (swE ps s X)/\Ev r vi vi' m m':=by
 refine WF.ex1 λK hK=> ?_
 refine WF.of_wpG (λ_=>rfl) xH (L:= [(.a .e,.agg s.l),(.e,.ptr r 0)]) rfl ?_
 unfold PS
 generalize hM1:hp [(.n 0,.cells true s.l)] 1 m=M1
 have hC1:Chg [] m M1:=az hM1 rfl
 have g1:M1.get (na m 0)=some (.cells true s.l):=aI hM1
 have o1:ap M1 (na m 0):=aL hM1 (by omega)
 have nr:na m 0≠r:=λq=>ak (q▸h.o)
 have nvi:na m 0∉ids vi:=λq=>ak (h.i.sl.old _ q)
 have h1:=h.grow hC1
 obtain⟨m2,r2,v2,h2,E2⟩:=ft h1 s.a 0 (by omega) hps (by omega) ⟨by have:=(hn s.a).1;omega,(hn s.a).2⟩
 have g2:=(E2.get o1 nr nvi).trans g1
 have o2:=E2.c.old o1
 have nv2:=E2.nin o1 nvi
 have l2:=jm ps s.a 0 X
 obtain⟨m3,r3,v3,h3,E3⟩:=ft h2 s.b 1 (by omega) hps (by omega) ⟨by have:=(hn s.b).1;omega,(hn s.b).2⟩
 have g3:=(E3.get o2 nr nv2).trans g2
 have o3:=E3.c.old o2
 have nv3:=E3.nin o2 nv2
 have l3:=jm ps s.b 1 (fF ps s.a 0 X).2
 obtain⟨m4,r4,v4,h4,E4⟩:=ft h3 s.c 2 (by omega) hps (by omega) ⟨by have:=(hn s.c).1;omega,(hn s.c).2⟩
 have g4:=(E4.get o3 nr nv3).trans g3
 have o4:=E4.c.old o3
 have nv4:=E4.nin o3 nv3
 have l4:=jm ps s.c 2 (fF ps s.b 1 (fF ps s.a 0 X).2).2
 obtain⟨m5,r5,C5⟩:=jS h4 s.d hps ⟨by have:=(hn s.d).1;omega,(hn s.d).2⟩
 have g5:=(C5.get o4 (by simp)).trans g4
 have h5:=h4.grow C5
 unfold swE at hK
 dsimp only at hK
 generalize (fF ps s.a 0 X).1=xa at *
 generalize (fF ps s.a 0 X).2=X2 at *
 generalize (fF ps s.b 1 X2).1=xb at *
 generalize (fF ps s.b 1 X2).2=X3 at *
 generalize (fF ps s.c 2 X3).1=xc at *
 generalize (fF ps s.c 2 X3).2=X4 at *
 generalize oZ ps s.d=d at *
 simp (disch:=first|omega|(simp only[aA]<;>omega)) only[go_sem,seval,hM1,g1,r2.wf',g2,r3.wf',g3,r4.wf',g4,r5.wf]
 generalize hM6:hp _ 1 m5=M6
 have C6:Chg [] m5 M6:=az hM6 rfl
 have gy:M6.get (na m5 0)=some (.cells true (Qn (Ff d xa xb xc)).flatten):=aI hM6
 have hv:Sl M6 (.slc (na m5 0) 0 8 7 8) 7 (Qn (Ff d xa xb xc)):=⟨λy hy=>by obtain⟨z,-,rfl⟩:=ab3.1 hy;rfl,Or.inr ⟨_,0,8,true,_,rfl,gy,aL hM6 (by omega),by simp[Ff],rfl⟩⟩
 have c46:=C5.tr C6
 have g6:=(C6.get (C5.old o4) (by simp)).trans g5
 have o6:=C6.old (C5.old o4)
 have h6:=h5.grow C6
 refine UX (t:=_) (w1:= .ptr (na m 0) 0) hv (λj hj=> ?_) h6 (by show X4.l.length+8<=_;omega) ?_ ?_ ?_ ?_ ?_ ?_
 ·rw[show j=na m5 0 from one hj]
  exact⟨λq=>ak (q▸h5.o),λq=>ak (h5.i.sl.old _ q)⟩
 ·exact gq rfl
 ·exact gq rfl
 ·exact gq rfl
 ·exact gq rfl
 ·exact gq rfl
 intro t' M7 v7 t0 t1 h7 E7
 have g7:=(E7.get o6 nr nv4).trans g6
 obtain⟨m8,r8,v8,h8,E8⟩:=kV h7 s.d hps (by simp[Ff];omega)
 simp only[go_sem,seval,t0,t1,g7,r8.wf']
 exact hK _ ⟨v8,h8,(E2.pre hC1).trans (E3.trans (E4.trans ((E7.pre c46).trans E8)))⟩
end
def TV (ps:List Pc) (s:Sp) (X:Em):Em:=
 if s.k=0 then QY ps s.d (Zo (oZ ps s.d) s.n X) else
 if s.k=1 then QY ps s.d (cU ⟨2,oZ ps s.d,(fF ps s.a 0 X).1,31,0,0,0⟩ (fF ps s.a 0 X).2) else
 if s.k=2 then rkE ps s X else
 if s.k=3 then QY ps s.d (cU ⟨14,oZ ps s.d,(fF ps s.a 0 X).1,0,0,0,0⟩ (fF ps s.a 0 X).2) else
 if s.k=4 then cU ⟨15,(fF ps s.b 1 (fF ps s.a 0 X).2).1,(fF ps s.a 0 X).1,0,0,0,0⟩ (fF ps s.b 1 (fF ps s.a 0 X).2).2 else
 if s.k=5 then swE ps s X else
 if s.k=6 then cU ⟨20,0,(fF ps s.a 0 X).1,0,0,0,0⟩ (fF ps s.a 0 X).2 else
 if s.k=7 then cU ⟨19,0,0,0,0,0,0⟩ X else
 if s.k=13 then cU ⟨18,0,0,0,0,0,0⟩ X else
 if s.k=8 then cU ⟨23,0,0,0,0,0,0⟩ (cU ⟨2,0,(fF ps s.a 0 X).1,31,0,0,0⟩ (fF ps s.a 0 X).2) else
 if s.k=9 then lbE s.t X else
 if s.k=10 then cU ⟨8,0,0,1,0,0,s.t⟩ X else
 if s.k=11 then cU ⟨10,0,(fF ps s.a 0 X).1,1,0,0,s.t⟩ (fF ps s.a 0 X).2 else
 if s.k=12 then cU ⟨22,0,0,0,0,0,0⟩ X else X
section
variable {B m m' m'' M:NH} {r i:D4} {vp vi vi' vb:NV} {ps:List Pc} {X X':Em}
set_option maxHeartbeats 1000000 in
theorem Xb (h:EK B m r vp vi vb ps X) (s:Sp) (hsn:0<=s.n/\s.n<18446744073709551616) (hps:ps.length<=1000000) (hn:∀v,0<=(lH ps v).n/\(lH ps v).n<=900000) (hl:X.l.length<=8000000) (hlb:X.lb.length<=1000000):∃m',rT 281 [.ptr r 0,.agg s.l] m (.tup []) m'/\∃vi',EK B m' r vp vi' vb ps (TV ps s X):=by
 refine WF.ex1 λK hK=> ?_
 refine WF.of_wpG (λ_=>rfl) AU (L:= [(.a .e,.agg s.l),(.e,.ptr r 0)]) rfl ?_
 unfold Ph
 generalize hM1:hp [(.n 0,.cells true s.l)] 1 m=M1
 have hC1:Chg [] m M1:=az hM1 rfl
 have g1:M1.get (na m 0)=some (.cells true s.l):=aI hM1
 have o1:ap M1 (na m 0):=aL hM1 (by omega)
 have nr:na m 0≠r:=λq=>ak (q▸h.o)
 have nvi:na m 0∉ids vi:=λq=>ak (h.i.sl.old _ q)
 have h1:=h.grow hC1
 have hn':∀v,-1000000<=(lH ps v).n/\(lH ps v).n<=1000000:=λv=>⟨by have:=(hn v).1;omega,by have:=(hn v).2;omega⟩
 have htg:∀v,-1000000<=oZ ps v/\oZ ps v<=1000000:=λv=>by have:=hn v;unfold oZ;split<;>omega
 have l2:=jm ps s.a 0 X
 unfold TV at hK
 by_cases hk0:s.k=0
 ·rw[adF hk0] at hK
  obtain⟨m2,r2,C2⟩:=jS h1 s.d hps (hn' _)
  have g2:=(C2.get o1 (by simp)).trans g1
  obtain⟨m3,r3,v3,h3,E3⟩:=Gl (h1.grow C2) (htg s.d) hsn (by omega)
  have g3:=(E3.get (C2.old o1) nr nvi).trans g2
  have hl3:(Zo (oZ ps s.d) s.n X).l.length<=X.l.length+4:=by
   have q1:=pI (oZ ps s.d) s.n 1 (cU ⟨0,oZ ps s.d,0,0,0,0,s.n % 65536⟩ X)
   have q2:=pI (oZ ps s.d) s.n 2 (Ep (oZ ps s.d) s.n 1 (cU ⟨0,oZ ps s.d,0,0,0,0,s.n % 65536⟩ X))
   have q3:=pI (oZ ps s.d) s.n 3 (Ep (oZ ps s.d) s.n 2 (Ep (oZ ps s.d) s.n 1 (cU ⟨0,oZ ps s.d,0,0,0,0,s.n % 65536⟩ X)))
   have q0:(cU ⟨0,oZ ps s.d,0,0,0,0,s.n % 65536⟩ X).l.length=X.l.length+1:=by simp[cU]
   unfold Zo;omega
  obtain⟨m4,r4,v4,h4,E4⟩:=kV h3 s.d hps (by omega)
  simp only[go_sem,seval,hM1,g1,hk0,r2.wf',g2,r3.wf',g3,r4.wf']
  exact hK _ ⟨v4,h4⟩
 rw[adE hk0] at hK
 by_cases hk1:s.k=1
 ·rw[adF hk1] at hK
  obtain⟨m2,r2,v2,h2,E2⟩:=ft h1 s.a 0 (by omega) hps (by omega) (hn' _)
  have g2:=(E2.get o1 nr nvi).trans g1
  have o2:=E2.c.old o1
  have nv2:=E2.nin o1 nvi
  obtain⟨m3,r3,C3⟩:=jS h2 s.d hps (hn' _)
  have g3:=(C3.get o2 (by simp)).trans g2
  obtain⟨m4,r4,v4,h4,E4⟩:=dK (h2.grow C3) ⟨2,oZ ps s.d,(fF ps s.a 0 X).1,31,0,0,0⟩ (by omega)
  have g4:=(E4.get (C3.old o2) nr nv2).trans g3
  obtain⟨m5,r5,v5,h5,E5⟩:=kV h4 s.d hps (by simp[cU];omega)
  simp (disch:=first|omega|(simp only[aA]<;>omega)) only[go_sem,seval,hM1,g1,hk1,r2.wf',g2,r3.wf',g3,r4.wf',g4,r5.wf']
  exact hK _ ⟨v5,h5⟩
 rw[adE hk1] at hK
 by_cases hk2:s.k=2
 ·rw[adF hk2] at hK
  obtain⟨m2,r2,v2,h2,E2⟩:=OT h1 s hps (λv=>⟨(hn v).1,(hn' v).2⟩) (by omega)
  dsimp only[Sp.l] at r2
  rw[hk2] at r2
  simp (disch:=first|omega|(simp only[aA]<;>omega)) only[go_sem,seval,hM1,g1,hk2,r2.wf']
  exact hK _ ⟨v2,h2⟩
 rw[adE hk2] at hK
 by_cases hk3:s.k=3
 ·rw[adF hk3] at hK
  obtain⟨m2,r2,v2,h2,E2⟩:=ft h1 s.a 0 (by omega) hps (by omega) (hn' _)
  have g2:=(E2.get o1 nr nvi).trans g1
  have o2:=E2.c.old o1
  have nv2:=E2.nin o1 nvi
  obtain⟨m3,r3,C3⟩:=jS h2 s.d hps (hn' _)
  have g3:=(C3.get o2 (by simp)).trans g2
  obtain⟨m4,r4,v4,h4,E4⟩:=dK (h2.grow C3) ⟨14,oZ ps s.d,(fF ps s.a 0 X).1,0,0,0,0⟩ (by omega)
  have g4:=(E4.get (C3.old o2) nr nv2).trans g3
  obtain⟨m5,r5,v5,h5,E5⟩:=kV h4 s.d hps (by simp[cU];omega)
  simp (disch:=first|omega|(simp only[aA]<;>omega)) only[go_sem,seval,hM1,g1,hk3,r2.wf',g2,r3.wf',g3,r4.wf',g4,r5.wf']
  exact hK _ ⟨v5,h5⟩
 rw[adE hk3] at hK
 by_cases hk4:s.k=4
 ·rw[adF hk4] at hK
  obtain⟨m2,r2,v2,h2,E2⟩:=ft h1 s.a 0 (by omega) hps (by omega) (hn' _)
  have g2:=(E2.get o1 nr nvi).trans g1
  obtain⟨m3,r3,v3,h3,E3⟩:=ft h2 s.b 1 (by omega) hps (by omega) (hn' _)
  have l3:=jm ps s.b 1 (fF ps s.a 0 X).2
  obtain⟨m4,r4,v4,h4,E4⟩:=dK h3 ⟨15,(fF ps s.b 1 (fF ps s.a 0 X).2).1,(fF ps s.a 0 X).1,0,0,0,0⟩ (by omega)
  simp (disch:=first|omega|(simp only[aA]<;>omega)) only[go_sem,seval,hM1,g1,hk4,r2.wf',g2,r3.wf',r4.wf']
  exact hK _ ⟨v4,h4⟩
 rw[adE hk4] at hK
 by_cases hk5:s.k=5
 ·rw[adF hk5] at hK
  obtain⟨m2,r2,v2,h2,E2⟩:=UQ h1 s hps (λv=>⟨(hn v).1,(hn' v).2⟩) (by omega)
  dsimp only[Sp.l] at r2
  rw[hk5] at r2
  simp (disch:=first|omega|(simp only[aA]<;>omega)) only[go_sem,seval,hM1,g1,hk5,r2.wf']
  exact hK _ ⟨v2,h2⟩
 rw[adE hk5] at hK
 by_cases hk6:s.k=6
 ·rw[adF hk6] at hK
  obtain⟨m2,r2,v2,h2,E2⟩:=ft h1 s.a 0 (by omega) hps (by omega) (hn' _)
  obtain⟨m4,r4,v4,h4,E4⟩:=dK h2 ⟨20,0,(fF ps s.a 0 X).1,0,0,0,0⟩ (by omega)
  simp (disch:=first|omega|(simp only[aA]<;>omega)) only[go_sem,seval,hM1,g1,hk6,r2.wf',r4.wf']
  exact hK _ ⟨v4,h4⟩
 rw[adE hk6] at hK
 by_cases hk7:s.k=7
 ·rw[adF hk7] at hK
  obtain⟨m2,r2,v2,h2,E2⟩:=dK h1 ⟨19,0,0,0,0,0,0⟩ (by omega)
  simp (disch:=first|omega|(simp only[aA]<;>omega)) only[go_sem,seval,hM1,g1,hk7,r2.wf']
  exact hK _ ⟨v2,h2⟩
 rw[adE hk7] at hK
 by_cases hk13:s.k=13
 ·rw[adF hk13] at hK
  obtain⟨m2,r2,v2,h2,E2⟩:=dK h1 ⟨18,0,0,0,0,0,0⟩ (by omega)
  simp (disch:=first|omega|(simp only[aA]<;>omega)) only[go_sem,seval,hM1,g1,hk13,r2.wf']
  exact hK _ ⟨v2,h2⟩
 rw[adE hk13] at hK
 by_cases hk8:s.k=8
 ·rw[adF hk8] at hK
  obtain⟨m2,r2,v2,h2,E2⟩:=ft h1 s.a 0 (by omega) hps (by omega) (hn' _)
  obtain⟨m4,r4,v4,h4,E4⟩:=dK h2 ⟨2,0,(fF ps s.a 0 X).1,31,0,0,0⟩ (by omega)
  obtain⟨m5,r5,v5,h5,E5⟩:=dK h4 ⟨23,0,0,0,0,0,0⟩ (by simp[cU];omega)
  simp (disch:=first|omega|(simp only[aA]<;>omega)) only[go_sem,seval,hM1,g1,hk8,r2.wf',r4.wf',r5.wf']
  exact hK _ ⟨v5,h5⟩
 rw[adE hk8] at hK
 by_cases hk9:s.k=9
 ·rw[adF hk9] at hK
  obtain⟨m2,r2,h2,E2⟩:=Rr h1 s.t (by omega) hlb
  simp only[go_sem,seval,hM1,g1,hk9,r2.wf']
  exact hK _ ⟨vi,h2⟩
 rw[adE hk9] at hK
 by_cases hk10:s.k=10
 ·rw[adF hk10] at hK
  obtain⟨m2,r2,v2,h2,E2⟩:=dK h1 ⟨8,0,0,1,0,0,s.t⟩ (by omega)
  simp (disch:=first|omega|(simp only[aA]<;>omega)) only[go_sem,seval,hM1,g1,hk10,r2.wf']
  exact hK _ ⟨v2,h2⟩
 rw[adE hk10] at hK
 by_cases hk11:s.k=11
 ·rw[adF hk11] at hK
  obtain⟨m2,r2,v2,h2,E2⟩:=ft h1 s.a 0 (by omega) hps (by omega) (hn' _)
  have g2:=(E2.get o1 nr nvi).trans g1
  obtain⟨m4,r4,v4,h4,E4⟩:=dK h2 ⟨10,0,(fF ps s.a 0 X).1,1,0,0,s.t⟩ (by omega)
  simp (disch:=first|omega|(simp only[aA]<;>omega)) only[go_sem,seval,hM1,g1,hk11,r2.wf',g2,r4.wf']
  exact hK _ ⟨v4,h4⟩
 rw[adE hk11] at hK
 by_cases hk12:s.k=12
 ·rw[adF hk12] at hK
  obtain⟨m2,r2,v2,h2,E2⟩:=dK h1 ⟨22,0,0,0,0,0,0⟩ (by omega)
  simp (disch:=first|omega|(simp only[aA]<;>omega)) only[go_sem,seval,hM1,g1,hk12,r2.wf']
  exact hK _ ⟨v2,h2⟩
 rw[adE hk12] at hK
 simp only[go_sem,seval,hM1,g1,hk0,hk1,hk2,hk3,hk4,hk5,hk6,hk7,hk13,hk8,hk9,hk10,hk11,hk12]
 exact hK _ ⟨vi,h1⟩
end
def Uj (n:Int) (s:Sp):Int:=if s.k=9/\0<=s.t/\s.t<=400 then max n (s.t+1) else n
def Uo (l:List Sp):Int:=l.foldl Uj 0
def e0 (l:List Sp):Em:=⟨[],List.replicate (Uo l).toNat (-1)⟩
def X9 (l:List Sp) (ps:List Pc):Em:=cU ⟨22,0,0,0,0,0,0⟩ (l.foldl (λX s=>TV ps s X) (e0 l))
theorem aaq {n:Int} (s:Sp) (h:0<=n/\n<=401):0<=Uj n s/\Uj n s<=401:=by unfold Uj;split<;>omega
theorem HQ:∀(l:List Sp) {n:Int},0<=n/\n<=401->0<=l.foldl Uj n/\l.foldl Uj n<=401
 | [],_,h=>h
 |s::l,_,h=>HQ l (aaq s h)
theorem Uu (l:List Sp):0<=Uo l/\Uo l<=401:=HQ l (by omega)
theorem OF (l:List Sp) (hi:i<l.length):Uo (l.take (i+1))=Uj (Uo (l.take i)) l[i]:=by
 rw[ab7,List.getElem?_eq_getElem hi];unfold Uo;rw[List.foldl_append];rfl
def F9 (X Y:Em) (n:Nat):Prop:=Y.l.length<=X.l.length+n/\Y.lb.length=X.lb.length
theorem F9.trans {X Y Z:Em} {a b:Nat} (h:F9 X Y a) (k:F9 Y Z b) {c:Nat} (hc:a+b<=c):F9 X Z c:=⟨by have:=h.1;have:=k.1;omega,k.2.trans h.2⟩
theorem ew (i:Iw) (X:Em) (hn:1<=n):F9 X (cU i X) n:=⟨by show (X.l++ [i]).length<=_;rw[aa5];show _+1<=_;omega,rfl⟩
theorem tE (X:Em):F9 X X n:=⟨by omega,rfl⟩
theorem V6 (ps:List Pc) (v w:Int) (X:Em):F9 X (fF ps v w X).2 1:=by unfold fF;split;exact ew _ _ (by omega);exact tE _
theorem Gx (ps:List Pc) (v:Int) (X:Em):F9 X (QY ps v X) 1:=by unfold QY;split;exact ew _ _ (by omega);exact tE _
theorem UV (d n:Int) (s:Nat) (X:Em):F9 X (Ep d n s X) 1:=by unfold Ep;split;exact ew _ _ (by omega);exact tE _
theorem il {c:Prop} [Decidable c] {X a b:Em} (h1:F9 X a n) (h2:F9 X b n):F9 X (if c then a else b) n:=by
 by_cases h:c
 ·rw[adF h];exact h1
 ·rw[adE h];exact h2
theorem VN (ps:List Pc) (s:Sp) (X:Em):F9 X (TV ps s X) 12:=by
 have a:=V6 ps s.a 0 X
 have ab:=a.trans (V6 ps s.b 1 _) (c:=2) (by omega)
 unfold TV
 refine il ?_ ?_
 ·refine F9.trans (a:=4) ?_ (Gx _ _ _) (by omega)
  unfold Zo
  exact (((ew _ _ (n:=1) (by omega)).trans (UV _ _ _ _) (c:=2) (by omega)).trans (UV _ _ _ _) (c:=3) (by omega)).trans (UV _ _ _ _) (by omega)
 refine il ?_ ?_
 ·exact (a.trans (ew _ _ (n:=1) (by omega)) (c:=2) (by omega)).trans (Gx _ _ _) (by omega)
 refine il ?_ ?_
 ·unfold rkE rkO
  dsimp only
  split
  ·exact (ab.trans (ew _ _ (n:=1) (by omega)) (c:=3) (by omega)).trans (Gx _ _ _) (by omega)
  ·split
   ·exact ((ab.trans (ew _ _ (n:=1) (by omega)) (c:=3) (by omega)).trans (ew _ _ (n:=1) (by omega)) (c:=4) (by omega)).trans (Gx _ _ _) (by omega)
   ·exact (ab.trans (ew _ _ (n:=1) (by omega)) (c:=3) (by omega)).trans (Gx _ _ _) (by omega)
 refine il ?_ ?_
 ·exact (a.trans (ew _ _ (n:=1) (by omega)) (c:=2) (by omega)).trans (Gx _ _ _) (by omega)
 refine il ?_ ?_
 ·exact ab.trans (ew _ _ (n:=1) (by omega)) (by omega)
 refine il ?_ ?_
 ·unfold swE
  dsimp only
  have abc:=ab.trans (V6 ps s.c 2 _) (c:=3) (by omega)
  exact (abc.trans (Z:=⟨_++Ff _ _ _ _,_⟩) (b:=8) ⟨by simp[Ff],rfl⟩ (c:=11) (by omega)).trans (Gx _ _ _) (by omega)
 refine il ?_ ?_
 ·exact a.trans (ew _ _ (n:=1) (by omega)) (by omega)
 refine il ?_ ?_
 ·exact ew _ _ (by omega)
 refine il ?_ ?_
 ·exact ew _ _ (by omega)
 refine il ?_ ?_
 ·exact (a.trans (ew _ _ (n:=1) (by omega)) (c:=2) (by omega)).trans (ew _ _ (n:=1) (by omega)) (by omega)
 refine il ?_ ?_
 ·unfold lbE;split
  ·exact⟨Nat.le_add_right _ _,by simp⟩
  ·exact tE _
 refine il ?_ ?_
 ·exact ew _ _ (by omega)
 refine il ?_ ?_
 ·exact a.trans (ew _ _ (n:=1) (by omega)) (by omega)
 refine il ?_ ?_
 ·exact ew _ _ (by omega)
 exact tE _
def Ga (l:List Sp) (ps:List Pc) (i:Nat):Em:=(l.take i).foldl (λX s=>TV ps s X) (e0 l)
theorem Mg (l:List Sp) (ps:List Pc) (hi:i<l.length):Ga l ps (i+1)=TV ps l[i] (Ga l ps i):=by
 unfold Ga;rw[ab7,List.getElem?_eq_getElem hi,List.foldl_append];rfl
theorem Nc (l:List Sp) (ps:List Pc):∀i,i<=l.length->F9 (e0 l) (Ga l ps i) (12*i)
 |0,_=>tE _
 |i+1,h=>by rw[Mg l ps h];exact (Nc l ps i (by omega)).trans (VN ps _ _) (by omega)
section
variable {B m m' m'' M:NH} {r i:D4} {vp vi vi' vb vs w:NV} {ps:List Pc} {X X':Em} {st:List Sp}
theorem VJ {l:List Int} (ho:aQ B m w 1 (dM l)) (hl:l.length<=1000000) {t:Tm} (t1:NT.get D4.e.a.b t=some w) (t5:NT.get D4.e.b.a.a t=some (ii l.length)) (t6:NT.get D4.e.b.a.b t=some (ii 0))
 (hQ:∀t' M,NT.get D4.e.a.b t'=some w->aQ B M w 1 (dM (List.replicate l.length (-1)))->Chg (ids w) m M->Q (.exit 2) ⟨puts [] t', [],none,M⟩):
 W af8 S0 none mi.loop ⟨t, [],none,m⟩ Q:=by
 refine W.loop (λk D=>∃t M i,D=⟨t, [],none,M⟩/\NT.get D4.e.a.b t=some w/\NT.get D4.e.b.a.a t=some (ii l.length)/\NT.get D4.e.b.a.b t=some (ii (i:Nat))/\i+k=l.length/\aQ B M w 1 (dM (List.replicate i (-1)++l.drop i))/\Chg (ids w) m M) ?_ l.length _
  ⟨_,m,0,rfl,t1,t5,t6,by omega,ho,(Chg.refl m).weak (by simp)⟩
 clear t1 t5 t6 ho
 rintro k D ⟨t,M,i,rfl,t1,t5,t6,hik,ho,hC⟩
 apply av
 unfold mi
 change wp _ _ _ _ ⟨puts [] t, [],none,M⟩ _
 rw[←aa M]
 by_cases hi:i<l.length
 ·have hn:i<(dM (List.replicate i (-1)++l.drop i)).length:=by simp;omega
  obtain⟨id,off,c,a1,a2,a3,a4,a5,a6,a7,a8⟩:=ho.at_all i hn
  have hd:l.drop i=l[i]::l.drop (i+1):=ab8 hi
  have hset:(dM (List.replicate i (-1)++l.drop i)).set i [ii (-1)]=dM (List.replicate (i+1) (-1)++l.drop (i+1)):=by
   rw[hd]
   show List.set (List.map _ _) i _=List.map _ _
   rw[ab5,List.set_append_right _ _ (by simp),ac1,List.replicate_succ',ab5,ab5]
   simp only[aa0,ae2,Nat.sub_self,List.set_cons_zero,ac1,List.map_nil,ab1,ad8,ae4]
  simp (disch:=omega) only[go_sem,seval,t1,t5,t6,a1,a4]
  generalize hM2:hp _ 0 M=M2
  have hC2:Chg [id] M M2:=az hM2 rfl
  have g2:M2.get id=some (.cells true (c.set off (ii (-1)))):=nF a5 hM2
  have o2:=a8 [ii (-1)] M2 rfl (by rw[g2,List.set_eq_take_append_cons_drop,adF (by omega),ab1];rfl) (hC2.old a5)
  rw[hset] at o2
  exact⟨l.length - (i+1),by omega,_,M2,i+1,by rfl,by simp only[go_sem,seval,t1],by simp only[go_sem,seval,t5],by simp only[go_sem,seval]<;>rfl,by omega,o2,hC.trans (hC2.weak (T:=ids w) λi hi _=>by rw[a2];exact hi) λi hi _=>hi⟩
 ·have e:i=l.length:=by omega
  subst e
  rw[List.drop_length,ac7] at ho
  simp (disch:=omega) only[go_sem,seval,t5,t6]
  rw[aa]
  exact hQ _ _ (by simp only[go_sem,seval,t1]) ho hC
theorem NY (n:Nat):rep n [ii 0]=(dM (List.replicate n 0)).flatten:=by
 induction n with
 |zero=>rfl
 |succ n ih=>rw[List.replicate_succ];show [ii 0]++rep n [ii 0]=_;rw[ih];rfl
theorem Wy {v lo:Int} (hv:Sl m vs 9 (mm st)) (hl:st.length<=300000):
 ∃w m',rT 280 [.agg [ii v,ii lo,vs]] m w m'/\aQ m m' w 1 (dM (e0 st).lb)/\Chg [] m m':=by
 refine WF.ex λK hK=> ?_
 refine WF.of_wpG (λ_=>rfl) yC (L:= [(.e,.agg [ii v,ii lo,vs])]) rfl ?_
 unfold LR
 have hlen:=hv.len
 rw[aa0] at hlen
 generalize hM1:hp [(.n 0,.cells true [ii v,ii lo,vs])] 1 m=M1
 have hC1:Chg [] m M1:=az hM1 rfl
 have g0:M1.get (na m 0)=some (.cells true [ii v,ii lo,vs]):=aI hM1
 have hv1:Sl M1 vs 9 (mm st):=hv.chg hC1 (by simp)
 simp only[go_sem,seval,hM1,g0,hlen]
 refine W.loop (λk D=>∃t M i,D=⟨t, [],none,M⟩/\NT.get D4.e.c t=some (ii (Uo (st.take i)))/\NT.get D4.e.b.a t=some vs/\NT.get D4.e.b.b t=some (ii st.length)/\NT.get D4.e.b.c t=some (ii (i:Nat))/\i+k=st.length/\Chg [] M1 M) ?_ st.length _
  ⟨_,M1,0,rfl,by exact gq rfl,by exact gq rfl,by exact gq rfl,by exact gq rfl,by omega,Chg.refl M1⟩
 rintro k D ⟨t,M,i,rfl,t1,t2,t3,t4,hik,hC⟩
 apply av
 unfold xW
 change wp _ _ _ _ ⟨puts [] t, [],none,M⟩ _
 rw[←aa M]
 have hb:=Uu (st.take i)
 by_cases hi:i<st.length
 ·obtain⟨id,off,wr,c,a1,a2,a3,a4,a5⟩:=(hv1.chg hC (by simp)).at i (by simpa using hi)
  rw[aa4] at a5
  have hsl:(Sp.l st[i]).length=9:=rfl
  have htk:=OF st hi
  generalize st[i]=s at a5 hsl htk
  generalize Uo (st.take i)=n at t1 htk hb
  unfold Uj at htk
  by_cases h9:s.k=9
  ·by_cases h0:0<=s.t
   ·by_cases h4:s.t<=400
    ·rw[adF ⟨h9,h0,h4⟩] at htk
     simp (disch:=first|omega|(simp only[aA]<;>omega)) only[go_sem,seval,t1,t2,t3,t4,a1,a2,a5,h9,h0,h4]
     generalize hM2:hp _ 1 M=M2
     have hC2:Chg [] M M2:=az hM2 rfl
     refine⟨st.length - (i+1),by omega,_,M2,i+1,by rfl, ?_,by exact gq t2,by exact gq t3,by exact gq rfl,by omega,hC.tr hC2⟩
     rw[htk]
     simp only[go_sem,seval]
    ·rw[adE λq=>h4 q.2.2] at htk
     simp (disch:=first|omega|(simp only[aA]<;>omega)) only[go_sem,seval,t2,t3,t4,a1,a2,a5,h9,h0,h4]
     generalize hM2:hp _ 1 M=M2
     have hC2:Chg [] M M2:=az hM2 rfl
     exact⟨st.length - (i+1),by omega,_,M2,i+1,by rfl,by rw[htk];simp (disch:=first|assumption|omega|(apply aq;omega)|(apply au;assumption)|(simp only[aA]<;>omega)) only[go_sem,seval,t1],by exact gq t2,by exact gq t3,by exact gq rfl,by omega,hC.tr hC2⟩
   ·rw[adE λq=>h0 q.2.1] at htk
    simp (disch:=first|omega|(simp only[aA]<;>omega)) only[go_sem,seval,t2,t3,t4,a1,a2,a5,h9,h0]
    generalize hM2:hp _ 1 M=M2
    have hC2:Chg [] M M2:=az hM2 rfl
    exact⟨st.length - (i+1),by omega,_,M2,i+1,by rfl,by rw[htk];simp (disch:=first|assumption|omega|(apply aq;omega)|(apply au;assumption)|(simp only[aA]<;>omega)) only[go_sem,seval,t1],by exact gq t2,by exact gq t3,by exact gq rfl,by omega,hC.tr hC2⟩
  ·rw[adE λq=>h9 q.1] at htk
   simp (disch:=first|omega|(simp only[aA]<;>omega)) only[go_sem,seval,t2,t3,t4,a1,a2,a5,h9]
   generalize hM2:hp _ 1 M=M2
   have hC2:Chg [] M M2:=az hM2 rfl
   exact⟨st.length - (i+1),by omega,_,M2,i+1,by rfl,by rw[htk];simp (disch:=first|assumption|omega|(apply aq;omega)|(apply au;assumption)|(simp only[aA]<;>omega)) only[go_sem,seval,t1],by exact gq t2,by exact gq t3,by exact gq rfl,by omega,hC.tr hC2⟩
 ·rw[ac9 (by omega)] at t1 hb
  obtain⟨N,hN⟩:=adL hb.1
  rw[hN] at t1
  simp (disch:=omega) only[go_sem,seval,t1,t3,t4]
  generalize hM2:hp _ 1 M=M2
  have hC2:Chg [] M M2:=az hM2 rfl
  have oa:aQ M M2 (.slc (na M 0) 0 N 1 N) 1 (dM (List.replicate N 0)):=aQ.of (λy hy=>by obtain⟨b,-,rfl⟩:=ab3.1 hy;rfl) ak (aI hM2) (aL hM2 (by omega)) (NY _) (by simp) (by simp)
  refine VJ (t:=_) oa (by simp;omega) ?_ ?_ ?_ ?_
  ·exact gq rfl
  ·rw[ae2];exact gq rfl
  ·exact gq rfl
  intro t' M3 t1 ho hC3
  rw[ae2] at ho
  simp only[go_sem,seval,t1]
  have e:(e0 st).lb=List.replicate N (-1):=by unfold e0;rw[hN];rfl
  have c03:=hC1.tr hC
  refine hK _ _ ⟨by rw[e];exact ho.back λi hi=>c03.old hi,(c03.tr hC2).trans hC3 λi hi q=> ?_⟩
  exact adD (c03.old q) (oa.new i hi)
end
section
variable {B m m' m'' M:NH} {r i:D4} {vp vi vi' vb vs w:NV} {ps:List Pc} {X X':Em} {st:List Sp}
theorem WE {v lo:Int} (hv:Sl m vs 9 (mm st)) (hl:st.length<=300000) (hst:∀s∈st,0<=s.n/\s.n<18446744073709551616) (hpl:Sl m vp 2 (Pcs ps)) (hps:ps.length<=1000000) (hn:∀v,0<=(lH ps v).n/\(lH ps v).n<=900000):
 ∃w m',rT 216 [.agg [ii v,ii lo,vs],vp] m w m'/\(∃vi vb,w= .tup [vi,vb]/\aQ m m' vi 7 (Qn (X9 st ps).l)/\aQ m m' vb 1 (dM (X9 st ps).lb))/\Chg [] m m':=by
 refine WF.ex λK hK=> ?_
 refine WF.of_wpG (λ_=>rfl) DY (L:= [(.a .e,vp),(.e,.agg [ii v,ii lo,vs])]) rfl ?_
 unfold Ny
 have hlen:=hv.len
 rw[aa0] at hlen
 have hpo:=hpl.one
 generalize hM1:hp [(.n 0,.cells true [ii v,ii lo,vs])] 1 m=M1
 have hC1:Chg [] m M1:=az hM1 rfl
 have g0:M1.get (na m 0)=some (.cells true [ii v,ii lo,vs]):=aI hM1
 have hv1:Sl M1 vs 9 (mm st):=hv.chg hC1 (by simp)
 obtain⟨vb,M2,r2,ob,hC2⟩:=Wy (v:=v) (lo:=lo) hv1 hl
 have hbo:=ob.sl.one
 generalize hM3:hp [(.n 0,.cells true [vp,.nils,vb])] 1 M2=M3
 have hC3:Chg [] M2 M3:=az hM3 rfl
 have g3:M3.get (na M2 0)=some (.cells true [vp,.nils,vb]):=aI hM3
 have o3:ap M3 (na M2 0):=aL hM3 (by omega)
 have c13:=hC2.tr hC3
 have e0k:EK M1 M3 (na M2 0) vp .nils vb ps (e0 st):=⟨g3,o3,λq=>ak (hC2.old q),aQ.nil,by simp[ids],c13,(hpl.chg hC1 (by simp)),ob.chg hC3 (by simp),λq=>ak (ob.sl.old _ q),by simp[ids]⟩
 have o0:ap M1 (na m 0):=aL hM1 (by omega)
 have g03:=(c13.get o0 (by simp)).trans g0
 simp (disch:=first|omega|(simp only[aA]<;>omega)) only[go_sem,seval,hpo,hM1,g0,r2.wf,hbo,hM3,g03,hlen]
 refine W.loop (λk D=>∃t M i v,D=⟨t, [],none,M⟩/\NT.get D4.e.a.b t=some (.ptr (na M2 0) 0)/\NT.get D4.e.c.c t=some vs/\NT.get D4.e.c.f t=some (ii st.length)/\NT.get D4.e.f.a t=some (ii (i:Nat))/\i+k=st.length/\EK M1 M (na M2 0) vp v vb ps (Ga st ps i)) ?_ st.length _
  ⟨_,M3,0,.nils,rfl,by exact gq rfl,by exact gq rfl,by exact gq rfl,by exact gq rfl,by omega,e0k⟩
 rintro k D ⟨t,M,i,v',rfl,t1,t2,t3,t4,hik,hk⟩
 apply av
 unfold yM
 change wp _ _ _ _ ⟨puts [] t, [],none,M⟩ _
 rw[←aa M]
 have hg:=Nc st ps i (by omega)
 have hlb:(e0 st).lb.length<=401:=by have:=Uu st;unfold e0;simp;omega
 have hl0:(e0 st).l.length=0:=rfl
 by_cases hi:i<st.length
 ·obtain⟨id,off,wr,c,a1,a2,a3,a4,a5⟩:=(hv1.chg hk.c (by simp)).at i (by simpa using hi)
  rw[aa4] at a5
  have hsl:(Sp.l st[i]).length=9:=rfl
  have hb:=hst _ (aa9 hi)
  have hs:=Mg st ps hi
  generalize st[i]=s at a5 hsl hb hs
  generalize hM4:hp [(.n 0,.cells true s.l),(.n 0,.cells true [.int .i64 (.lit 0),.int .i64 (.lit 0),.int .i64 (.lit 0),.int .i64 (.lit 0),.int .i64 (.lit 0),.int .i64 (.lit 0),.int .i64 (.lit 0),.int .u64 (.lit 0),.int .u8 (.lit 0)])] 1 M=M4
  have hC4:Chg [] M M4:=az hM4 rfl
  have g4:M4.get (na M 0)=some (.cells true s.l):=aI hM4
  obtain⟨m5,r5,v5,h5⟩:=Xb (hk.grow hC4) s hb hps hn (by have:=hg.1;omega) (by have:=hg.2;omega)
  simp (disch:=first|omega|(simp only[aA]<;>omega)) only[go_sem,seval,t1,t2,t3,t4,a1,a2,a5,hM4,g4,r5.wf']
  exact⟨st.length - (i+1),by omega,_,m5,i+1,v5,by rfl,by exact gq t1,by exact gq t2,by exact gq t3,by exact gq rfl,by omega,by rw[hs];exact h5⟩
 ·obtain rfl:i=st.length:=by omega
  have hX:Ga st ps st.length=st.foldl (λX s=>TV ps s X) (e0 st):=by unfold Ga;rw[ae1]
  obtain⟨m5,r5,v5,h5,E5⟩:=dK hk ⟨22,0,0,0,0,0,0⟩ (by have:=hg.1;omega)
  have g5:=h5.g
  have hvo:=h5.i.sl.one
  rw[aa]
  simp (disch:=first|omega|(simp only[aA]<;>omega)) only[go_sem,seval,t1,t3,t4,r5.wf',g5]
  rw[hX] at h5
  refine hK _ _ ⟨⟨v5,vb,rfl,h5.i.back λi hi=>hC1.old hi,h5.b.back λi hi=>hC1.old hi⟩,hC1.trans h5.c (by simp)⟩
end
def RY (x:Cd):Prop:=x.st.length<=300000/\(∀s∈x.st,0<=s.n/\s.n<18446744073709551616)/\(rZ x).length<=80000
def Qq (out:List Pc):Prop:=out.length<=80000/\∀p∈out,0<=p.n/\p.n<=900000
def Si (e:Em):Prop:=e.l.length<=9000000/\e.lb.length<=1000000
instance (x:Cd):Decidable (RY x):=by unfold RY;infer_instance
instance (l:List Pc):Decidable (Qq l):=by unfold Qq;infer_instance
instance (e:Em):Decidable (Si e):=by unfold Si;infer_instance
def Yk (l:List Iw):Option (List Nat):=if l.length<=4000 then xf l else none
def Y6 (e:Em):Option (List Nat):=if Si e then (ID e.l e.lb).bind Yk else none
def ix (x:Cd) (R:Nat):Option (List Nat):=if RY x then (kM (rZ x) R).bind λout=>if Qq out then Y6 (X9 x.st out) else none else none
theorem Y7  (h:∀p∈out,0<=p.n/\p.n<=900000) (v:Int):0<=(lH out v).n/\(lH out v).n<=900000:=by
 unfold lH
 split
 ·cases h1:out[v.toNat]? with
  |none=>simp
  |some p=>exact h p (List.mem_of_getElem? h1)
 ·simp
set_option maxHeartbeats 2000000 in
theorem yJ  {vs:NV} {x:Cd} {ws:List Nat} (hs:Sl m vs 9 (mm x.st)) (hR:1<=R/\R<=16) (h:ix x R=some ws):∃w m',rT 135 [.agg [ii x.v,ii x.lo,vs],ii (R:Nat)] m w m'/\(∃u,w= .tup [u,ii 0]/\aQ m m' u 1 (Ek ws))/\Chg [] m m':=by
 refine WF.ex λK hK=> ?_
 refine WF.of_wpG (λ_=>rfl) zD (L:= [(.a .e,ii (R:Nat)),(.e,.agg [ii x.v,ii x.lo,vs])]) rfl ?_
 unfold Nk
 obtain⟨xv,xlo,st⟩:=x
 dsimp only at hs ⊢
 unfold ix at h
 by_cases hg:RY ⟨xv,xlo,st⟩
 ·rw[adF hg] at h
  obtain⟨g1,g2,g3⟩:=hg
  dsimp only at g1 g2 h
  cases hp':kM (rZ ⟨xv,xlo,st⟩) R with
  |none=>rw[hp'] at h;exact adD h (by simp)
  |some out=>
   rw[hp',Option.bind_some] at h
   by_cases hq:Qq out
   ·rw[adF hq] at h
    unfold Y6 at h
    by_cases he:Si (X9 st out)
    ·rw[adF he] at h
     obtain⟨he1,he2⟩:=he
     cases hL:ID (X9 st out).l (X9 st out).lb with
     |none=>rw[hL] at h;exact adD h (by simp)
     |some l=>
      rw[hL,Option.bind_some] at h
      unfold Yk at h
      by_cases h4:l.length<=4000
      ·rw[adF h4] at h
       generalize hM1:hp [(.n 0,.cells true [ii xv,ii xlo,vs])] 1 m=M1
       have hC1:Chg [] m M1:=az hM1 rfl
       have ga:M1.get (na m 0)=some (.cells true [ii xv,ii xlo,vs]):=aI hM1
       have oa:ap M1 (na m 0):=aL hM1 (by omega)
       obtain⟨w2,m2,r2,o2,C2⟩:=Rt (x:=⟨xv,xlo,st⟩) (hs.grew hC1) (by show st.length<=_;omega)
       obtain⟨w3,m3,r3,o3,C3⟩:=ON o2.sl g3 hR hp'
       have c13:=(hC1.tr C2).tr C3
       obtain⟨w4,m4,r4,⟨vi,vb,e4,oi,ob⟩,C4⟩:=WE (v:=xv) (lo:=xlo) (hs.grew c13) g1 g2 o3.sl (by have:=hq.1;omega) (Y7 hq.2)
       subst e4
       obtain⟨w5,m5,r5,e5,C5⟩:=Wa oi.sl ob.sl he1 he2
       rw[hL] at e5
       obtain⟨u5,e5,o5⟩:=e5
       subst e5
       obtain⟨w6,m6,r6,e6,C6⟩:=LB o5.sl (by omega)
       rw[h] at e6
       obtain⟨u6,e6,o6⟩:=e6
       subst e6
       have ga2:=(C2.get oa (by simp)).trans ga
       have hvs:=hs.one
       have h5l:nN u5= .val (ii l.length):=by rw[o5.sl.len,aa0]
       have c46:=(c13.tr C4).trans (C5.tr C6) (by simp)
       have ga3:=(C3.get (C2.old oa) (by simp)).trans ga2
       have hsm:aU 4 (.agg [ii xv,ii xlo,vs]) (.agg [ii xv,ii xlo,vs])=true:=vI λv hv=>by
        simp only[adJ,adI,or_false] at hv
        rcases hv with rfl|rfl|rfl
        ·trivial
        ·trivial
        ·exact hs.flat
       simp (disch:=first|omega|(simp only[aA]<;>omega)) only[go_sem,seval,hM1,ga,ga2,ga3,hsm,r2.wf',r3.wf',r4.wf',r5.wf',r6.wf',h5l]
       exact hK _ _ ⟨⟨u6,rfl,o6.back λi hi=>((c13.tr C4).tr C5).old hi⟩,c46⟩
      ·rw[adE h4] at h;exact adD h (by simp)
    ·rw[adE he] at h;exact adD h (by simp)
   ·rw[adE hq] at h;exact adD h (by simp)
 ·rw[adE hg] at h;exact adD h (by simp)
def ou (R:Nat):List Cd->Option (List (List Nat))
 | []=>some []
 |x::l=>(ix x R).bind λw=>(ou R l).map (w::·)
theorem wK (R:Nat) (x:Cd) (l:List Cd):ou R (x::l)=(ix x R).bind λw=>(ou R l).map (w::·):=rfl
theorem DJ :∀{L:List Cd} {ws:List (List Nat)},ou R L=some ws->ws.length=L.length/\∀(j:Nat) (x:Cd) (w:List Nat),L[j]? =some x->ws[j]? =some w->ix x R=some w
 | [],ws,h=>by
  have h:some []=some ws:=h
  cases h
  exact⟨rfl,λj x w a=>by simp at a⟩
 |x::l,ws,h=>by
  rw[wK] at h
  cases hx:ix x R with
  |none=>rw[hx] at h;exact adD h (by simp)
  |some w=>
   rw[hx,Option.bind_some] at h
   cases hl:ou R l with
   |none=>rw[hl] at h;exact adD h (by simp)
   |some r=>
    rw[hl,Option.map_some] at h
    cases h
    obtain⟨q1,q2⟩:=DJ hl
    refine⟨by simp[q1],λj y z a b=> ?_⟩
    cases j with
    |zero=>simp at a b;subst a;subst b;exact hx
    |succ j=>exact q2 j y z (by simpa using a) (by simpa using b)
structure Wrdn (m0 M:NH) (w:NV) (L:List (List Nat)) (C:List (List NV)):Prop where
 s:aQ m0 M w 1 C
 n:C.length=L.length
 c:∀(j:Nat) (x:List Nat) (c:List NV),L[j]? =some x->C[j]? =some c->∃v,c= [v]/\Sl M v 1 (Ek x)/\∀i∈ids v,¬ap m0 i/\i∉ids w
theorem Wrdn.grow  {m0:NH} {w:NV} (h:Wrdn m0 m w L C) (hC:Chg [] m m'):Wrdn m0 m' w L C:=
 ⟨h.s.chg hC (by simp),h.n,λj x c a b=>by obtain⟨vs,e,q,q2⟩:=h.c j x c a b;exact⟨vs,e,q.chg hC (by simp),q2⟩⟩
theorem Wrdn.wrds  {m0:NH} {w:NV} (h:Wrdn m0 m w L C):Wrds m w L C:=
 ⟨h.s.sl,h.n,λj x c a b=>by obtain⟨vs,e,q,-⟩:=h.c j x c a b;exact⟨vs,e,q⟩⟩
theorem Wrdn.nil  {m0:NH}:Wrdn m0 m .nils [] []:=⟨aQ.nil,rfl,λj x c a b=>by simp at a⟩
set_option maxHeartbeats 4000000 in
theorem Tp  {vs:NV} {x:Cd} {L:List Cd} {W:Int} {w0:List Nat} (hs:Sl m vs 9 (mm x.st)) (hL:Cods m vl L C) (hR:1<=R/\R<=16) (hW:0<=W) (hW':W<=64) (h0:ix x R=some w0) (hws:ou R L=some ws) (h1:1<=ws.length) (h4:ws.length<=4) (hst:w0.length<=4000) (hLl:∀w∈ws,w≠ []/\w.length<=4000) (hw:∀w∈(mQ [] w0 ws).2,w<4294967296) (hB:IZ 0 (mQ [] w0 ws).1 (mQ [] w0 ws).2=true):
 ∃u m',rT 78 [.agg [ii x.v,ii x.lo,vs],vl,ii (R:Nat),ii W] m u m'/\(∃ve vc,u= .tup [.agg [ii W,ii 0,ve,vc],ii 0]/\aQ m m' ve 1 (dM (mQ [] w0 ws).1)/\aQ m m' vc 1 (Ek (mQ [] w0 ws).2))/\Chg [] m m':=by
 refine WF.ex λK hK=> ?_
 refine WF.of_wpG (λ_=>rfl) He (L:= [(.c .e,ii W),(.b .e,ii (R:Nat)),(.a .e,vl),(.e,.agg [ii x.v,ii x.lo,vs])]) rfl ?_
 unfold VA
 obtain⟨hwl,hwa⟩:=DJ hws
 generalize hM1:hp [(.n 1,.cells true [ii 0,ii 0,.nils,.nils]),(.n 0,.cells true [ii x.v,ii x.lo,vs])] 2 m=M1
 have hC1:Chg [] m M1:=az hM1 rfl
 have ga:M1.get (na m 0)=some (.cells true [ii x.v,ii x.lo,vs]):=aI hM1
 have gb:M1.get (na m 1)=some (.cells true [ii 0,ii 0,.nils,.nils]):=aI hM1
 have ob:ap M1 (na m 1):=aL hM1 (by omega)
 obtain⟨z,m2,r2,⟨u0,e2,o2⟩,C2⟩:=yJ (hs.grew hC1) hR h0
 subst e2
 have gb2:=(C2.get ob (by simp)).trans gb
 have ob2:=C2.old ob
 have hvl:nN vl= .val (ii L.length):=by rw[hL.s.len,hL.n]
 have c12:=hC1.tr C2
 have hLm:=hL.grow c12
 simp (disch:=first|omega|(simp only[aA]<;>omega)) only[go_sem,seval,hM1,ga,r2.wf',hvl]
 refine Nm.W.loop (λk D=>∃t M i w C',D=⟨t, [],none,M⟩/\NT.get D4.e.b t=some (ii (R:Nat))/\NT.get D4.e.c t=some (ii W)/\NT.get D4.e.a.f t=some (.ptr (na m 1) 0)/\NT.get D4.e.b.b t=some u0/\NT.get D4.e.a.b.c t=some vl/\NT.get D4.e.a.b.f t=some (ii L.length)/\NT.get D4.e.a.c.a t=some (ii (i:Nat))/\NT.get D4.e.b.f t=some w/\i+k=L.length/\Wrdn m2 M w (ws.take i) C'/\Chg [] m2 M) ?_ L.length _
  ⟨_,m2,0,.nils, [],rfl,by simp only[go_sem,seval],by simp only[go_sem,seval],by simp only[go_sem,seval],by simp only[go_sem,seval],by simp only[go_sem,seval],by simp only[go_sem,seval],by simp only[go_sem,seval]<;>rfl,by simp only[go_sem,seval],by omega,Wrdn.nil,Chg.refl _⟩
 rintro k D ⟨t,M,i,w,C',rfl,t0,t1,t2,t3,t4,t5,t6,t7,hik,ho,hC⟩
 apply av
 unfold Hc
 change wp _ _ _ _ ⟨puts [] t, [],none,M⟩ _
 rw[←aa M]
 by_cases hi:i<L.length
 ·have hvM:=hLm.grow hC
  have hiC:i<C.length:=by rw[hL.n];exact hi
  have hiW:i<ws.length:=by rw[hwl];exact hi
  obtain⟨id,off,wr,cs,a1,a2,a3,a4,a5⟩:=hvM.s.at i hiC
  obtain⟨vs',e,hs'⟩:=hvM.c i _ _ (List.getElem?_eq_getElem hi) (List.getElem?_eq_getElem hiC)
  rw[e] at a5
  have hwi:=hwa i _ _ (List.getElem?_eq_getElem hi) (List.getElem?_eq_getElem hiW)
  have htk:ws.take (i+1)=ws.take i++ [ws[i]]:=by rw[ab7,List.getElem?_eq_getElem hiW];rfl
  have hln:(ws.take i).length=i:=by simp;omega
  generalize L[i]=y at *
  generalize ws[i]=wy at *
  generalize hM3:hp [(.n 0,.cells true [ii y.v,ii y.lo,vs']),(.n 0,.cells true [.int .i64 (.lit 0),.int .i64 (.lit 0),.nils])] 1 M=M3
  have hC3:Chg [] M M3:=az hM3 rfl
  have gl:M3.get (na M 0)=some (.cells true [ii y.v,ii y.lo,vs']):=aI hM3
  obtain⟨z,M4,r4,⟨u4,e4,o4⟩,C4⟩:=yJ (hs'.grew hC3) hR hwi
  subst e4
  have hu4:=o4.sl.one
  rw[←aa M4] at r4
  simp (disch:=first|omega|(simp only[aA]<;>omega)) only[go_sem,seval,t0,t4,t5,t6,t7,a1,a2,a5,hM3,gl,r4.wf',hu4]
  generalize hM5:hp _ 1 M4=M5
  have hC5:Chg [] M4 M5:=az hM5 rfl
  have gx:M5.get (na M4 0)=some (.cells true [u4]):=aI hM5
  have c35:=(hC3.tr C4).tr hC5
  have ho4:=ho.grow c35
  have hcl:=ho.n
  rw[hln] at hcl
  obtain⟨w',M6,q1,o6,hC6,hF⟩:=ho4.s.app2 (bytes:=24) (kc:=1) gx (aL hM5 (by omega)) rfl (λi hi=>c35.old (hC.old hi)) (by omega) (by omega)
  simp (disch:=omega) only[go_sem,seval,t6,q1]
  refine⟨L.length - (i+1),by omega,_,M6,i+1,w',C'++ [[u4]],by rfl,by simp only[go_sem,seval,t0],by simp only[go_sem,seval,t1],by simp only[go_sem,seval,t2],by simp only[go_sem,seval,t3],by simp only[go_sem,seval,t4],by simp only[go_sem,seval,t5],by simp only[go_sem,seval]<;>rfl,by simp only[go_sem,seval],by omega, ?_,(hC.tr c35).trans hC6 λi hi q=>adD q (ho.s.new i hi)⟩
  rw[htk]
  have nv:∀i∈ids u4,¬ap M3 i:=λi hi=>o4.new i hi
  refine⟨o6,by simp[hcl];omega,λj y c h1 h2=> ?_⟩
  rcases ac2 j i with h|h
  ·rw[List.getElem?_append_left (by omega)] at h1
   rw[List.getElem?_append_left (by omega)] at h2
   obtain⟨us,e,q,q2⟩:=ho4.c j y c h1 h2
   exact⟨us,e,q.chg hC6 λi hi=>(q2 i hi).2,λi hi=>⟨(q2 i hi).1,λh=>(hF i h).elim (q2 i hi).2 λp=>p (q.old i hi)⟩⟩
  ·rw[List.getElem?_append_right (by omega)] at h1
   rw[List.getElem?_append_right (by omega)] at h2
   rw[hln] at h1
   rw[hcl] at h2
   cases hj:j - i with
   |succ n=>rw[hj] at h1;simp at h1
   |zero=>
    rw[hj] at h1 h2
    simp at h1 h2
    subst h1;subst h2
    have nw:∀i∈ids u4,i∉ids w:=λi hi q=>nv i hi (hC3.old (ho.s.sl.old i q))
    exact⟨u4,rfl,(o4.sl.grew hC5).chg hC6 nw,λi hi=>⟨λq=>nv i hi (hC3.old (hC.old q)),λh=>(hF i h).elim (nw i hi) λp=>p (hC5.old (o4.sl.old i hi))⟩⟩
 ·have hii:i=ws.length:=by omega
  subst hii
  rw[ae1] at ho
  obtain⟨z,M3,r3,⟨ve,vc,e3,oe,oc⟩,C3⟩:=Tg (o2.sl.grew hC) ho.wrds hW hW' h1 h4 hst hLl hw hB
  subst e3
  have cm:Chg [] m2 M3:=hC.tr C3
  have gb3:=(cm.get ob2 (by simp)).trans gb2
  have ob3:=cm.old ob2
  have hve1:=oe.sl.one
  have hvc1:=oc.sl.one
  have hw1:=ho.s.sl.one
  rw[aa M]
  rw[←aa M3] at r3
  simp (disch:=first|omega|(simp only[aA]<;>omega)) only[go_sem,seval,t1,t2,t3,t5,t6,t7,r3.wf',gb3]
  generalize hM9:hp _ 0 M3=M9
  have hC9:Chg [na m 1] M3 M9:=az hM9 rfl
  have c9:Chg [] m M9:=(c12.tr cm).trans hC9 λi hi q=>adD ((ac0.mp hi)▸q) ak
  have cB:∀i,ap m i->ap M i:=λi hi=>hC.old (c12.old hi)
  have oM:ap M (na m 1):=hC.old ob2
  refine hK _ _ ⟨⟨ve,vc,rfl, ?_, ?_⟩,c9⟩
  ·exact (oe.chg hC9 λi hi q=>oe.new i hi ((ac0.mp q)▸oM)).back cB
  ·exact (oc.chg hC9 λi hi q=>oc.new i hi ((ac0.mp q)▸oM)).back cB
theorem kh.one  {l:List Stm} {c:List NV} (h:kh m cs l c N):aU 4 (.agg c) (.agg c)=true/\c.length=3:=by
 obtain⟨v,rfl,hv,-⟩:=h
 refine⟨qK λw hw=> ?_,rfl⟩
 simp only[adJ,adI,or_false] at hw
 rcases hw with rfl|rfl|rfl
 ·trivial
 ·trivial
 ·exact hv.flat
def okP (p:Prg):Prop:=(uS p).2=0/\iB p.cs p.r p.ts=false
def Z1 (m:NH) (p:Prg) (a b:Int) (v vl:NV) (N:D4->Prop):Prop:=(okP p/\kh m p.cs p.r [ii a,ii b,v] N/\∃C,CodesC m p.cs p.ts vl C N)∨(¬okP p/\a=0/\b=0/\v= .nils/\vl= .nils)
theorem CodesC.chg  {l:List (List Nat×List Stm)} (h:CodesC m cs l v C N) (hC:Chg [] m m'):CodesC m' cs l v C N:=
 ⟨h.s.chg hC λ_ _=>by simp,h.n,λj t c a b=>(h.c j t c a b).chg hC (by simp) λi hi _=>hi⟩
theorem Z1.chg  {b:Int} (h:Z1 m p a b v vl N) (hC:Chg [] m m'):Z1 m' p a b v vl N:=by
 rcases h with⟨h1,h2,C,h3⟩|h
 ·exact Or.inl ⟨h1,h2.chg hC (by simp) λi hi _=>hi,C,h3.chg hC⟩
 ·exact Or.inr h
theorem Z1.one  {b:Int} (h:Z1 m p a b v vl N):cellsOf v=some [v]/\cellsOf vl=some [vl]:=by
 rcases h with⟨-,⟨v',e,h2,-⟩,C,h3⟩|⟨-,-,-,rfl,rfl⟩
 ·injection e with _ e;injection e with _ e;injection e with e _
  subst e
  exact⟨h2.one,h3.s.one⟩
 ·exact⟨rfl,rfl⟩
def XU (cs:List (List Nat×Int)) (l:List Stm):Cd:=⟨(eh cs l).v,(locals l).length,(eh cs l).st⟩
def UL (p:Prg):List Cd:=p.ts.map λt=>XU p.cs t.2
def qZ (r:Int):Nat:=(max 3 (min r 16)).toNat
def uI (p:Prg) (sp:Bool):Cd×List Cd:=yO (XU p.cs p.r) (UL p) p.cs.length sp
structure ImgOk (b:List Nat) (r:Int) (sp:Bool) (p:Prg) (w0:List Nat) (ws:List (List Nat)):Prop where
 pr:(eg b).1=some p
 ok:okP p
 s1:p.cs.length<=100000
 s2:p.ts.length<=1000000
 s3:∀t∈p.ts,dC t.2<=400000
 s4:dC p.r<=400000
 d1:∀x∈UL p,x.st.length<=100000
 d2:(XU p.cs p.r).st.length<=100000
 qW:de p.cs<=64
 q0:ix (uI p sp).1 (qZ r)=some w0
 q1:ou (qZ r) (uI p sp).2=some ws
 j1:1<=ws.length
 j2:ws.length<=4
 j3:w0.length<=4000
 j4:∀w∈ws,w≠ []/\w.length<=4000
 j5:∀w∈(mQ [] w0 ws).2,w<4294967296
 j6:IZ 0 (mQ [] w0 ws).1 (mQ [] w0 ws).2=true
theorem CodesC.cods  (h:CodesC m p.cs p.ts vl C N):Cods m vl (UL p) C:=
 ⟨h.s,by rw[h.n,UL,aa0],λj x c a b=>by
  rw[UL,List.getElem?_map] at a
  cases ht:p.ts[j]? with
  |none=>rw[ht] at a;cases a
  |some t=>
   rw[ht] at a;cases a
   obtain⟨vs,e,q,-⟩:=h.c j t c ht b
   exact⟨vs,e,q⟩⟩
set_option maxHeartbeats 4000000 in
theorem tg  {b:List Nat} {r:Int} {sp:Bool} {w0:List Nat} (hv:Sl m v 1 (up b)) (hl:b.length<=1000000) (hb:∀c∈b,c<256) (h:ImgOk b r sp p w0 ws):
 ∃u m',rT 36 [v,ii r,.bool sp] m u m'/\(∃ve vc,u= .tup [.agg [ii (de p.cs),ii 0,ve,vc],ii 0,ii 0]/\aQ m m' ve 1 (dM (mQ [] w0 ws).1)/\aQ m m' vc 1 (Ek (mQ [] w0 ws).2))/\Chg [] m m':=by
 refine WF.ex λK hK=> ?_
 refine WF.of_wpG (λ_=>rfl) Hh (L:= [(.b .e,.bool sp),(.a .e,ii r),(.e,v)]) rfl ?_
 unfold Vv
 obtain⟨pr,ok,s1,s2,s3,s4,d1,d2,hW,hw0,hws,j1,j2,j3,j4,j5,j6⟩:=h
 generalize hM1:hp [(.n 0,.cells true [ii 0,ii 0,.nils,.nils])] 1 m=M1
 have hC1:Chg [] m M1:=az hM1 rfl
 have g1:M1.get (na m 0)=some (.cells true [ii 0,ii 0,.nils,.nils]):=aI hM1
 have o1:ap M1 (na m 0):=aL hM1 (by omega)
 obtain⟨z2,m2,r2,⟨vc,vt,vr,e2,hP⟩,C2⟩:=IL (hv.grew hC1) hl hb
 rw[pr] at hP
 obtain⟨hP,he⟩:=hP
 rw[he] at e2
 subst e2
 rw[←aa m2] at r2
 generalize hM3:hp [(.n 0,.cells true [vc,vt,vr]),(.n 0,.cells true [.nils,.nils,.nils])] 1 m2=M3
 have hC3:Chg [] m2 M3:=az hM3 rfl
 have gp:M3.get (na m2 0)=some (.cells true [vc,vt,vr]):=aI hM3
 have op:ap M3 (na m2 0):=aL hM3 (by omega)
 have hP3:=hP.stays (sw hC3 _)
 obtain⟨m4,r4,C4⟩:=TQ hP3 ⟨by omega,s2⟩ (λt ht=>by have:=s3 t ht;omega) (by omega)
 have hP4:=hP3.stays (sw C4 _)
 obtain⟨z5,m5,r5,hPC,C5⟩:=Sn hP4 ⟨by omega,s2⟩ (FP pr) s3 s4
 obtain⟨ok1,ok2⟩:=ok
 unfold Lp at hPC
 rw[adE (by rw[ok1];simp),adE (by rw[ok2];simp)] at hPC
 obtain⟨cc,vl,CC,e5,⟨vs,hcc,hvs,-⟩,hCs⟩:=hPC
 subst e5
 subst hcc
 rw[ok1] at r4
 have hcds:=hCs.cods
 have gp4:=(C4.get op (by simp)).trans gp
 have op4:=C4.old op
 have gp5:=(C5.get op4 (by simp)).trans gp4
 have op5:=C5.old op4
 generalize hM6:hp [(.n 0,.cells true [ii (eh p.cs p.r).v,ii (locals p.r).length,vs]),(.n 0,.cells true [ii 0,ii 0,.nils])] 1 m5=M6
 have hC6:Chg [] m5 M6:=az hM6 rfl
 have gs:M6.get (na m5 0)=some (.cells true [ii (eh p.cs p.r).v,ii (locals p.r).length,vs]):=aI hM6
 have os:ap M6 (na m5 0):=aL hM6 (by omega)
 have gp6:=(hC6.get op5 (by simp)).trans gp5
 have op6:=hC6.old op5
 have c36:Chg [] m2 M6:=((hC3.tr C4).tr C5).tr hC6
 have hP6:=hP.stays (sw c36 _)
 obtain⟨CT,hTh⟩:=hP6.t
 obtain⟨CR,hRh⟩:=hP6.r
 have hvc1:=hP6.c.one
 have hvt1:=hTh.sl.one
 have hvr1:=hRh.sl.one
 obtain⟨z7,m7,r7,⟨vs',wl,C',e7,hvs',hvn,hcn⟩,C7⟩:=Jf (x:=XU p.cs p.r) (sp:=sp) (hcds.grow hC6) d1 (by rw[UL,aa0];exact s2) (hvs.grew hC6) d2 hP6.c s1 hvt1 hvr1
 subst e7
 rw[←aa m5] at r5
 have hvs1':=hvs'.one
 have gs7:=(C7.get os (by simp)).trans gs
 have os7:=C7.old os
 have gp7:=(C7.get op6 (by simp)).trans gp6
 change pE _ _ _ [.agg [vc,vt,vr],.agg [ii (eh p.cs p.r).v,ii (locals p.r).length,vs],vl,.bool sp] _ (.tup [.agg [ii (uI p sp).1.v,ii (uI p sp).1.lo,vs'],wl]) _ at r7
 change Sl m7 vs' 9 (mm (uI p sp).1.st) at hvs'
 change Codn M6 m7 wl (uI p sp).2 C' at hcn
 generalize uI p sp=Dp at *
 generalize hM8:hp [(.n 0,.cells true [ii 0,ii 0,.nils,.nils]),(.o (na m5 0),.cells true [ii Dp.1.v,ii Dp.1.lo,vs'])] 1 m7=M8
 have hC8:Chg [na m5 0] m7 M8:=az hM8 rfl
 have gs8:M8.get (na m5 0)=some (.cells true [ii Dp.1.v,ii Dp.1.lo,vs']):=by rw[←hM8];exact (aO os7).trans (rL.trans aC)
 have gj8:M8.get (na m7 0)=some (.cells true [ii 0,ii 0,.nils,.nils]):=aI hM8
 have oj8:ap M8 (na m7 0):=aL hM8 (by omega)
 have nps:na m2 0≠na m5 0:=λq=>ak (q▸op5)
 have gp8:=(hC8.get (C7.old op6) (by simp[nps])).trans gp7
 have op8:=hC8.old (C7.old op6)
 have c78:Chg [] M6 m7:=C7
 have hvs8:=hvs'.chg hC8 λi hi q=>hvn i hi ((ac0.mp q)▸os)
 have hcn8:=hcn.chg hC8 λi hi=>(ac0.mp hi)▸os
 have hP7:=hP.stays (bz.of ((c36.tr C7).trans hC8 λi hi q=>adD ((ac0.mp hi)▸q) λz=>ak ((hC3.tr C4).tr C5 |>.old z)) (λi _=>by simp))
 obtain⟨m9,r9,C9⟩:=Hr hP7.c (by omega)
 rw[←aa m7] at r7
 have hR:∃R:Nat,max 3 (min r 16)=(R:Int)/\R=qZ r/\1<=R/\R<=16:=⟨qZ r,by unfold qZ;omega,rfl,by unfold qZ;omega,by unfold qZ;omega⟩
 obtain⟨R,hR1,hR2,hR3⟩:=hR
 rw[←hR2] at hw0 hws
 obtain⟨z10,m10,r10,⟨ve,vcd,e10,oe,ocd⟩,C10⟩:=Tp (x:=Dp.1) (R:=R) (hvs8.grew C9) (hcn8.cods.grow C9) ⟨by omega,by omega⟩ (vZ p.cs).1 hW hw0 hws j1 j2 j3 j4 j5 j6
 subst e10
 have c810:=C9.tr C10
 have gs9:=(C9.get (hC8.old os7) (by simp)).trans gs8
 have gp9:=(C9.get op8 (by simp)).trans gp8
 have gj10:=(c810.get oj8 (by simp)).trans gj8
 have oj10:=c810.old oj8
 have nj0:na m 0≠na m7 0:=λq=>ak (q▸(C7.old (c36.old (C2.old o1))))
 have c0:Chg [] M1 m10:=(((C2.tr c36).tr C7).trans hC8 λi hi q=>adD ((ac0.mp hi)▸q) λz=>ak ((hC3.tr C4).tr C5 |>.old (C2.old z))).tr c810
 have g10:=(c0.get o1 (by simp)).trans g1
 have o10:=c0.old o1
 have hve1:=oe.sl.one
 have hvcd1:=ocd.sl.one
 rw[←aa m10] at r10
 have hsm:aU 4 (.agg [ii Dp.1.v,ii Dp.1.lo,vs']) (.agg [ii Dp.1.v,ii Dp.1.lo,vs'])=true:=vI λv hv=>by
  simp only[adJ,adI,or_false] at hv
  rcases hv with rfl|rfl|rfl
  ·trivial
  ·trivial
  ·exact hvs'.flat
 have hsc:aU 4 vc vc=true:=hP6.c.same
 have op7:=C7.old op6
 simp (disch:=first|assumption|omega|(apply aq;omega)|(apply au;assumption)|(simp only[aA]<;>omega)) only[go_sem,seval,hM1,r2.wf',hM3,gp,r4.wf',gp4,r5.wf',hM6,gp6,gs,r7.wf',gs7,hM8,r9.wf',hR1,r10.wf',gs9,gp9,gj10,g10,hsm,hsc,bf nps,lT,gp7]
 generalize hM11:hp _ 0 m10=M11
 have hC11:Chg [na m 0,na m7 0] m10 M11:=az hM11 rfl
 have o8:ap M8 (na m 0):=hC8.old (C7.old (c36.old (C2.old o1)))
 have hno:∀{v:NV} {e:Nat} {D:List (List NV)},aQ m9 m10 v e D->∀i∈ids v,i∉ [na m 0,na m7 0]:=λh i hi q=>h.new i hi (by
  simp only[adJ,adI,or_false] at q
  rcases q with rfl|rfl
  ·exact C9.old o8
  ·exact C9.old oj8)
 have cB:∀i,ap m i->ap m9 i:=λi hi=>C9.old (hC8.old (C7.old (c36.old (C2.old (hC1.old hi)))))
 refine hK _ _ ⟨⟨ve,vcd,rfl, ?_, ?_⟩,(hC1.tr c0).trans hC11 λi hi q=> ?_⟩
 ·exact (oe.chg hC11 (hno oe)).back cB
 ·exact (ocd.chg hC11 (hno ocd)).back cB
 ·simp only[adJ,adI,or_false] at hi
  rcases hi with rfl|rfl
  ·exact adD q ak
  ·exact adD (C7.old (c36.old (C2.old (hC1.old q)))) ak
theorem GK  {u:NV} {l:List Int} (hu:Sl m u 1 (dM l)) (hv:Sl m v 1 (dM l)) (hl:l.length<=1000000):rT 80 [u,v] m (.bool true) m:=by
 have h:∃w m',rT 80 [u,v] m w m'/\w= .bool true/\m'=m:=by
  refine WF.ex λK' hK'=> ?_
  refine WF.of_wpG (λ_=>rfl) Ha (L:= [(.a .e,v),(.e,u)]) rfl ?_
  unfold V5
  have h1:=hu.len
  have h2:=hv.len
  rw[aa0] at h1 h2
  simp (disch:=first|assumption|omega|(apply aq;omega)|(apply au;assumption)|(simp only[aA]<;>omega)) only[go_sem,seval,aa,h1,h2]
  refine Nm.W.loop (λf d=>∃t i,d=⟨t, [],none,m⟩/\NT.get D4.e t=some u/\NT.get D4.e.a t=some v/\NT.get D4.e.a.a t=some (ii (i:Nat))/\i+f=l.length) ?_ l.length _ ⟨_,0,rfl,by exact gq rfl,by exact gq rfl,by exact gq rfl,by omega⟩
  rintro f d ⟨t,i,rfl,t1,t2,t3,hif⟩
  apply av
  unfold HD
  change wp _ _ _ _ ⟨puts [] t, [],none,m⟩ _
  by_cases hi:i<l.length
  ·obtain⟨id,off,w,c,a1,a2,a3,a4⟩:=pK hu hi
   obtain⟨id',off',w',c',b1,b2,b3,b4⟩:=pK hv hi
   simp (disch:=first|assumption|omega|(apply aq;omega)|(apply au;assumption)|(simp only[aA]<;>omega)) only[go_sem,seval,t1,t2,t3,h1,a1,a2,a4,b1,b2,b4]
   exact⟨f - 1,by omega,_,i+1,by rfl,by exact gq t1,by exact gq t2,by exact gq rfl,by omega⟩
  ·simp (disch:=first|assumption|omega|(apply aq;omega)|(apply au;assumption)|(simp only[aA]<;>omega)) only[go_sem,seval,t1,t3,h1]
   exact hK' _ _ ⟨rfl,rfl⟩
 obtain⟨w,m',h,rfl,rfl⟩:=h
 exact h
theorem yz  {ve vc ve' vc':NV} {W:Int} {en:List Int} {co:List Nat} (h1:Sl m ve 1 (dM en)) (h2:Sl m vc 1 (Ek co)) (h3:Sl m ve' 1 (dM en)) (h4:Sl m vc' 1 (Ek co)) (hl:en.length<=1000000) (hc:co.length<=1000000):∃m',rT 37 [.agg [ii W,ii 0,ve,vc],.agg [ii W,ii 0,ve',vc']] m (.bool true) m'/\Chg [] m m':=by
 refine WF.ex1 λK hK=> ?_
 refine WF.of_wpG (λ_=>rfl) HM (L:= [(.a .e,.agg [ii W,ii 0,ve',vc']),(.e,.agg [ii W,ii 0,ve,vc])]) rfl ?_
 unfold UT
 generalize hM:hp [(.n 1,.cells true [ii W,ii 0,ve',vc']),(.n 0,.cells true [ii W,ii 0,ve,vc])] 2 m=M
 have hC:Chg [] m M:=az hM rfl
 have ga:M.get (na m 0)=some (.cells true [ii W,ii 0,ve,vc]):=aI hM
 have gb:M.get (na m 1)=some (.cells true [ii W,ii 0,ve',vc']):=aI hM
 have l1:=h2.len
 have l2:=h4.len
 rw[aa0] at l1 l2
 have r1:=GK (h1.grew hC) (h3.grew hC) hl
 have hs:=(h2.grew hC)
 have hs':=(h4.grew hC)
 simp (disch:=first|assumption|omega|(apply aq;omega)|(apply au;assumption)|(simp only[aA]<;>omega)) only[go_sem,seval,hM,ga,gb,r1.wf',l1,l2]
 refine Nm.W.loop (λf d=>∃t i,d=⟨t, [],none,M⟩/\NT.get D4.e.b t=some (.ptr (na m 0) 0)/\NT.get D4.e.c t=some (.ptr (na m 1) 0)/\NT.get D4.e.a.a t=some (ii (i:Nat))/\i+f=co.length) ?_ co.length _ ⟨_,0,rfl,by exact gq rfl,by exact gq rfl,by exact gq rfl,by omega⟩
 rintro f d ⟨t,i,rfl,t1,t2,t3,hif⟩
 apply av
 unfold G9
 change wp _ _ _ _ ⟨puts [] t, [],none,M⟩ _
 by_cases hi:i<co.length
 ·obtain⟨id,off,w,c,a1,a2,a3,a4,a5⟩:=hs.at i (by simpa using hi)
  obtain⟨id',off',w',c',b1,b2,b3,b4,b5⟩:=hs'.at i (by simpa using hi)
  rw[aa4] at a5 b5
  have c0:c[off]? =some (u32 co[i]):=bm a5 0 (by omega)
  have d0:c'[off']? =some (u32 co[i]):=bm b5 0 (by omega)
  simp (disch:=first|assumption|omega|(apply aq;omega)|(apply au;assumption)|(simp only[aA]<;>omega)) only[go_sem,seval,t1,t2,t3,ga,gb,l1,a1,a2,c0,b1,b2,d0]
  exact⟨f - 1,by omega,_,i+1,by rfl,by exact gq t1,by exact gq t2,by exact gq rfl,by omega⟩
 ·simp (disch:=first|assumption|omega|(apply aq;omega)|(apply au;assumption)|(simp only[aA]<;>omega)) only[go_sem,seval,t1,t3,ga,l1]
  exact hK _ hC
theorem Vu :(tk++List.replicate d false).set i false=tk.set i false++List.replicate d false:=by
 rcases ac2 i tk.length with h|h
 ·rw[List.set_append_left _ _ h]
 ·rw[List.set_append_right _ _ h,List.set_replicate_self,List.set_eq_of_length_le h]
theorem Lc  {fr:Int} {x:Int}:eU l out fr (tk++List.replicate d false) x=eU l out fr tk x++List.replicate d false:=by
 unfold eU
 split
 ·exact Vu
 ·rfl
theorem Lb  {fr:Int}:∀(xs:List Int) (tk:List Bool),mf l out fr (tk++List.replicate d false) xs=mf l out fr tk xs++List.replicate d false
 | [],_=>rfl
 |x::xs,tk=>by
  show mf l out fr (eU l out fr (tk++List.replicate d false) x) xs=mf l out fr (eU l out fr tk x) xs++_
  rw[Lc]
  exact Lb xs _
theorem PF {dq:Nat}:∀(tk:List Bool) (i:Nat),0<=Hw tk i->Hw (tk++List.replicate dq false) i=Hw tk i/\(Hw tk i).toNat<i+tk.length
 | [],i,h=>adD h (by simp[Hw])
 |b::l,i,h=>by
  rw[ad8]
  unfold Hw at h ⊢
  split
  ·rename_i hb
   rw[adF hb] at h
   have:=PF (dq:=dq) l (i+1) h
   exact⟨this.1,by rw[ab4];omega⟩
  ·exact⟨rfl,by rw[ab4];omega⟩
theorem Vx  {o:List Pc} {h:List Int} {v:Int} {S':Pst} (e:XT l ⟨o,h,tk⟩ v=some S'):XT l ⟨o,h,tk++List.replicate d false⟩ v=some ⟨S'.out,S'.has,S'.tk++List.replicate d false⟩:=by
 unfold XT at e ⊢
 dsimp only at e ⊢
 rw[Lb]
 by_cases h0:Er (mf l o (jz l v) tk h)<0
 ·rw[adF h0] at e;cases e
 ·rw[adE h0] at e
  cases e
  obtain⟨q1,q2⟩:=PF (dq:=d) (mf l o (jz l v) tk h) 0 (by unfold Er at h0;omega)
  have q1:Er (mf l o (jz l v) tk h++List.replicate d false)=Er (mf l o (jz l v) tk h):=q1
  rw[q1,adE h0,List.set_append_left _ _ (by unfold Er;omega)]
theorem Ol :∀(r:List Int) (S S':Pst),Ua l r S=some S'->Ua l r ⟨S.out,S.has,S.tk++List.replicate d false⟩=some ⟨S'.out,S'.has,S'.tk++List.replicate d false⟩
 | [],S,S',h=>by cases h;rfl
 |v::r,⟨o,h,tk⟩,S',e=>by
  unfold Ua at e ⊢
  cases h1:XT l ⟨o,h,tk⟩ v with
  |none=>rw[h1] at e;cases e
  |some S1=>
   rw[h1] at e
   rw[Vx h1]
   exact Ol r S1 S' e
theorem JF  (h:kM l R=some out):kM l (R+d)=some out:=by
 unfold kM at h ⊢
 cases h1:Ua l (ni l) ⟨List.replicate l.length ⟨false,0⟩, [],List.replicate R false⟩ with
 |none=>rw[h1] at h;cases h
 |some S'=>
  rw[h1] at h
  have q:=Ol (d:=d) _ _ _ h1
  dsimp only at q
  rw[List.replicate_append_replicate] at q
  rw[q]
  exact h
theorem Td {x:Cd} {w:List Nat} (h:ix x R=some w):ix x (R+d)=some w:=by
 unfold ix at h ⊢
 split at h
 ·rename_i hg
  rw[adF hg]
  cases hp':kM (rZ x) R with
  |none=>rw[hp'] at h;cases h
  |some out=>rw[hp'] at h;rw[JF hp'];exact h
 ·cases h
end FR
