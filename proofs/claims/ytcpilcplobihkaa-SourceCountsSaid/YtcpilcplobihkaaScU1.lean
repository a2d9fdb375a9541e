/- Contracts of functions that the law SourceCounts reaches, part 1. -/
import Derived.Test.YtcpilcplobihkaaScU0
set_option linter.unusedSimpArgs false
set_option linter.unusedVariables false
open Go Nm Go.Proofs
namespace FR
theorem Nc {c P Q Q' R:List NV} {off j n e:Nat} (h:(c.drop off).take e=P++Q++R) (hP:P.length=j) (hQ:Q.length=n) (hQ':Q'.length=n) (he:j+n+R.length=e) (hc:off+e<=c.length):
 ∃d,c.take (off+j)++Q'++c.drop (off+j+n)=d/\d.length=c.length/\(d.drop off).take e=P++Q'++R/\d.take off=c.take off/\d.drop (off+e)=c.drop (off+e):=by
 have hsp:c=c.take off++(P++Q++R)++c.drop (off+e):=by
  rw[←h]
  conv=>lhs;rw[←List.take_append_drop off c,←List.take_append_drop e (c.drop off),List.drop_drop]
  rw[List.append_assoc]
 have hA:(c.take off).length=off:=by rw[List.length_take];omega
 generalize c.take off=A at hsp hA
 generalize c.drop (off+e)=Z at hsp
 subst hsp
 subst hA
 have e1:(A++(P++Q++R)++Z).take (A.length+j)=A++P:=by
  rw[show A++(P++Q++R)++Z=(A++P)++(Q++(R++Z)) by simp,show A.length+j=(A++P).length by simp[hP],List.take_left]
 have e2:(A++(P++Q++R)++Z).drop (A.length+j+n)=R++Z:=by
  rw[show A++(P++Q++R)++Z=(A++P++Q)++(R++Z) by simp,show A.length+j+n=(A++P++Q).length by simp[hP,hQ];omega,List.drop_left]
 have e3:A++P++Q'++(R++Z)=A++((P++Q'++R)++Z):=by simp
 refine ⟨_,rfl, ?_, ?_, ?_, ?_⟩
 ·rw[e1,e2];simp[hQ,hQ']
 ·rw[e1,e2,e3,List.drop_left,show e=(P++Q'++R).length by simp[hP,hQ'];omega,List.take_left]
 ·rw[e1,e2,e3,List.take_left]
 ·rw[e1,e2,show A++P++Q'++(R++Z)=(A++(P++Q'++R))++Z by simp,show A.length+e=(A++(P++Q'++R)).length by simp[hP,hQ'];omega,List.drop_left]
theorem ON {c L:List NV} {off e j:Nat} (x:NV) (h:(c.drop off).take e=L) (hj:j<e) (hc:off+e<=c.length):
 ∃d,c.set (off+j) x=d/\d.length=c.length/\(d.drop off).take e=L.set j x/\d.take off=c.take off/\d.drop (off+e)=c.drop (off+e):=by
 refine ⟨_,rfl,by simp, ?_, ?_, ?_⟩
 ·rw[←h,List.drop_set,O0 (by omega),List.take_set,show off+j - off=j by omega]
 ·rw[List.take_set,List.set_eq_of_length_le (by rw[List.length_take];omega)]
 ·rw[List.drop_set,O1 (by omega)]
theorem HM (c:List NV) (off e:Nat):c=c.take off++(c.drop off).take e++c.drop (off+e):=by
 conv=>lhs;rw[←List.take_append_drop off c,←List.take_append_drop e (c.drop off),List.drop_drop]
 rw[List.append_assoc]
def GG (l:List Stm):Prop:=∀{m0 m:NH} {T:D4->Prop} {v:NV} {C:List (List NV)},SS m0 T v l C->aS T m0 m->cZ l<=1000000->∃v' m',bp Try.prog S0 71 [v] m v' m'/\(∃C',SS m' (fun i=>¬am m i) v' l C')/\Chg [] m m'
structure SsC (m0 M:NH) (T T':D4->Prop) (l:List Stm) (i:Nat) (C:List (List NV)):Prop where
 n:C.length=l.length
 a:∀(j:Nat) (x:Stm) (c:List NV),j<i->l[j]? =some x->C[j]? =some c->RS M T' x c
 b:∀(j:Nat) (x:Stm) (c:List NV),i<=j->l[j]? =some x->C[j]? =some c->RS m0 T x c
theorem SS.weakT {m:NH} {T T':D4->Prop} (hT':∀i,T i->T' i) {v:NV} {l:List Stm} {C:List (List NV)} (h:SS m T v l C):SS m T' v l C:=⟨h.sl,fun i hi=>hT' i (h.hT i hi),h.len,fun i x c a b=>(h.R i x c a b).weak hT'⟩
theorem RS.ofSP {m:NH} {T:D4->Prop} {s:Stm} {w:SV} (h:SP m T s w):RS m T s (s.l w):=by
 obtain ⟨k,a,nm,ce,i,x,y,b,e⟩:=s
 obtain ⟨hi,hx,hy,⟨Bb,hb⟩,⟨Ee,he⟩⟩:=h
 exact RS.mk hi hx hy hb.sl hb.hT hb.len hb.R he.sl he.hT he.len he.R
theorem Cm (s:Stm):s.i.sz<s.sz/\s.x.sz<s.sz/\s.y.sz<s.sz/\cZ s.b<s.sz/\cZ s.e<s.sz:=by
 cases s;simp only[Stm.i,Stm.x,Stm.y,Stm.b,Stm.e,Stm.sz];omega
set_option maxHeartbeats 1000000 in
theorem uX {l:List Stm} (ih:∀s∈l,GG s.b/\GG s.e):GG l:=by
 intro m0 m T v C hS hst hsz
 have hll:=rz l
 refine WF.ex fun K' hK'=> ?_
 refine WF.of_wpG (fun _=>rfl) xr (L:= [(.e,v)]) rfl ?_
 unfold Hs
 obtain ⟨v1,M1,r1,ho1,hC1⟩:=Ke ((hS.stays hst).sl) (by rw[hS.len];omega)
 have hlen:=ho1.sl.len
 rw[hS.len] at hlen
 rw[aa]
 simp (disch:=first|assumption|omega) only[go_sem,seval,r1.wf',hlen]
 refine W.loop (fun f d=>∃t M i D,d=⟨t, [],none,M⟩/\NT.get D4.e t=some v1/\NT.get D4.e.a.f t=some (ii (l.length:Nat))/\NT.get D4.e.b.a t=some (ii (i:Nat))/\i+f=l.length/\bf m M v1 21 D/\Chg [] m M/\SsC m0 M T (fun i=>¬am m i/\i∉ids v1) l i D) ?_ l.length _ ⟨_,M1,0,C,rfl,by simp only[go_sem,seval],by simp only[go_sem,seval],by simp only[go_sem,seval]<;>rfl,by omega,ho1,hC1,⟨hS.len,fun j x c h=>by omega,fun j x c _=>hS.R j x c⟩⟩
 rintro f d ⟨t,M,i,D,rfl,t1,t2,t3,hif,ho,hC,hX⟩
 apply az
 unfold yb
 change wp _ _ _ _ ⟨aj [] t, [],none,M⟩ _
 by_cases hi:i<l.length
 ·have hiD:i<D.length:=by rw[hX.n];exact hi
  obtain ⟨id,off,cc,a1,a2,a3,a4,a5,a6,a7,a8⟩:=ho.at_all i hiD
  have hRi:=hX.b i _ _ (Nat.le_refl _) (List.getElem?_eq_getElem hi) (List.getElem?_eq_getElem hiD)
  have hsi:=CY (List.getElem_mem hi)
  obtain ⟨hb,he⟩:=ih _ (List.getElem_mem hi)
  have hls:=List.getElem?_eq_getElem hi
  generalize l[i]=s at *
  obtain ⟨w,ew,hSP⟩:=hRi.inv'
  rw[ew] at a7
  have hsp:=Cm s
  obtain ⟨_,M2,r2,⟨ui,rfl,hI⟩,hC2⟩:=mA s.i hSP.i (hst.grow hC) (by omega)
  have hCm2:=hC.trans hC2 (by simp)
  obtain ⟨_,M3,r3,⟨ux,rfl,hXx⟩,hC3⟩:=mA s.x hSP.x (hst.grow hCm2) (by omega)
  have hCm3:=hCm2.trans hC3 (by simp)
  obtain ⟨_,M4,r4,⟨uy,rfl,hY⟩,hC4⟩:=mA s.y hSP.y (hst.grow hCm3) (by omega)
  have hCm4:=hCm3.trans hC4 (by simp)
  have q4:(cc.drop (off+4)).take 5=s.i.l w.vi:=fb a7 4 5 (by omega)
  have q9:(cc.drop (off+9)).take 5=s.x.l w.vx:=fb a7 9 5 (by omega)
  have q14:(cc.drop (off+14)).take 5=s.y.l w.vy:=fb a7 14 5 (by omega)
  have b2:=(hC2.get a5 (by simp)).trans a4
  have b3:=((hC2.trans hC3 (by simp)).get a5 (by simp)).trans a4
  have b4:=(((hC2.trans hC3 (by simp)).trans hC4 (by simp)).get a5 (by simp)).trans a4
  have id4:am M4 id:=((hC2.trans hC3 (by simp)).trans hC4 (by simp)).old a5
  have hsI:=d6 hSP.i
  have hsX:=d6 hSP.x
  have hsY:=d6 hSP.y
  obtain ⟨c1,w1,n1,l1,f1,z1⟩:=Nc (Q':=s.i.l ui) (P:=(s.l w).take 4) (Q:=s.i.l w.vi) (R:=(s.l w).drop 9) (j:=4) (n:=5) (e:=21) (a7.trans (by rfl)) rfl rfl rfl rfl a6
  obtain ⟨c2,w2,n2,l2,f2,z2⟩:=Nc (c:=c1) (off:=off) (Q':=s.x.l ux) (P:=(s.l w).take 4++s.i.l ui) (Q:=s.x.l w.vx) (R:=(s.l w).drop 14) (j:=9) (n:=5) (e:=21) (l1.trans (by rfl)) rfl rfl rfl rfl (by omega)
  obtain ⟨c3,w3,n3,l3,f3,z3⟩:=Nc (c:=c2) (off:=off) (Q':=s.y.l uy) (P:=(s.l w).take 4++s.i.l ui++s.x.l ux) (Q:=s.y.l w.vy) (R:=(s.l w).drop 19) (j:=14) (n:=5) (e:=21) (l2.trans (by rfl)) rfl rfl rfl rfl (by omega)
  have q19:c3[off+19]? =some w.vb:=aX l3 19 (by omega)
  have q20:c3[off+20]? =some w.ve:=aX l3 20 (by omega)
  simp (disch:=first|assumption|omega|(simp only[aU]<;>omega)) only[go_sem,seval,t1,t2,t3,a1,a4,q4,q9,q14,r2.wf',r3.wf',r4.wf,b2,b3,b4,hsI,hsX,hsY,w1,n1,w2,n2,w3,n3,q19,q20]
  generalize hM5:hp [(.o id,.cells true c3),(.o id,.cells true c2),(.o id,.cells true c1)] 0 M4=M5
  have hC5:Chg [id] M4 M5:=pk hM5 (by simp[aE])
  have g5:M5.get id=some (.cells true c3):=jO id4 hM5
  have id5:=hC5.old id4
  have idm:¬am m id:=a3
  have hCm5:Chg [] m M5:=hCm4.trans hC5 fun i hi q=>by have hi:=one hi;subst hi;exact OZ q idm
  obtain ⟨Bb,hSb⟩:=hSP.b
  obtain ⟨Ee,hSe⟩:=hSP.e
  obtain ⟨vb,M6,r6,⟨Cb,hB⟩,hC6⟩:=hb hSb (hst.grow hCm5) (by omega)
  have hCm6:=hCm5.trans hC6 (by simp)
  obtain ⟨ve,M7,r7,⟨Ce,hE⟩,hC7⟩:=he hSe (hst.grow hCm6) (by omega)
  have hCm7:=hCm6.trans hC7 (by simp)
  have g6:=(hC6.get id5 (by simp)).trans g5
  have id6:=hC6.old id5
  have g7:=(hC7.get id6 (by simp)).trans g6
  have id7:=hC7.old id6
  obtain ⟨c4,w4,n4,l4,f4,z4⟩:=ON (j:=19) vb l3 (by omega) (by omega)
  obtain ⟨c5,w5,n5,l5,f5,z5⟩:=ON (j:=20) ve l4 (by omega) (by omega)
  have hb1:=hB.sl.one
  have he1:=hE.sl.one
  have hvb1:=hSb.sl.same (n:=3)
  have hve1:=hSe.sl.same (n:=3)
  simp (config:={maxSteps:=1000000}) (disch:=first|assumption|omega|(apply bW;omega)|(apply bJ;assumption)|(simp only[aU]<;>omega)) only[go_sem,seval,r6.wf',r7.wf,g6,g7,q19,q20,hvb1,hve1,hb1,he1,w4,n4,w5,n5,t3]
  generalize hM8:hp [(.o id,.cells true c5),(.o id,.cells true c4)] 0 M7=M8
  have hC8:Chg [id] M7 M8:=pk hM8 (by simp[aE])
  have g8:M8.get id=some (.cells true c5):=jO id7 hM8
  have id8:=hC8.old id7
  have n15:∀i,i∈ [id]->i=id:=fun i hi=>by simpa using hi
  have hCM8:Chg [id] M M8:=(((((hC2.trans hC3 (by simp)).trans hC4 (by simp)).weak (T:= [id]) (by simp)).trans hC5 fun i hi _=>hi).trans ((hC6.trans hC7 (by simp)).weak (T:= [id]) (by simp)) fun i hi _=>hi).trans hC8 fun i hi _=>hi
  have hC58:Chg [id] M5 M8:=((hC6.trans hC7 (by simp)).weak (T:= [id]) (by simp)).trans hC8 fun i hi _=>hi
  have e5:c5=cc.take off++s.l ⟨ui,ux,uy,vb,ve⟩++cc.drop (off+21):=by
   conv=>lhs;rw[HM c5 off 21]
   rw[f5,f4,f3,f2,f1,z5,z4,z3,z2,z1,l5]
   rfl
  have hids:∀j∈ids v1,j=id:=fun j hj=>by rw[a2] at hj;simpa using hj
  have hnew:SP M8 (fun j=>¬am m j/\j∉ids v1) s ⟨ui,ux,uy,vb,ve⟩:=by
   have k2:∀{N:NH},Chg [] M N->∀j,¬am N j->¬am m j/\j∉ids v1:=fun hN j q=>⟨fun w=>q (hN.old (hC.old w)),fun w=>q (hN.old (ho.sl.old j w))⟩
   have hT8:∀{N:NH},Chg [id] N M8->aS (fun j=>¬am m j/\j∉ids v1) N M8:=fun hN=>aS.of hN fun j q w=>q.2 (by rw[a2];simpa using w)
   have hC28:Chg [id] M2 M8:=((((hC3.trans hC4 (by simp)).weak (T:= [id]) (by simp)).trans hC5 fun i hi _=>hi).trans hC58 fun i hi _=>hi)
   have hC38:Chg [id] M3 M8:=((((hC4).weak (T:= [id]) (by simp)).trans hC5 fun i hi _=>hi).trans hC58 fun i hi _=>hi)
   have hC48:Chg [id] M4 M8:=hC5.trans hC58 fun i hi _=>hi
   have hC68:Chg [id] M6 M8:=(hC7.weak (T:= [id]) (by simp)).trans hC8 fun i hi _=>hi
   have k5:∀j,¬am M5 j->¬am m j/\j∉ids v1:=fun j q=>⟨fun w=>q (hCm5.old w),fun w=>q (hids j w▸id5)⟩
   have k6:∀j,¬am M6 j->¬am m j/\j∉ids v1:=fun j q=>⟨fun w=>q (hCm6.old w),fun w=>q (hids j w▸id6)⟩
   exact ⟨(hI.weak (k2 (Chg.refl M))).stays (hT8 hC28),(hXx.weak (k2 hC2)).stays (hT8 hC38),(hY.weak (k2 (hC2.trans hC3 (by simp)))).stays (hT8 hC48),⟨Cb,(SS.weakT k5 hB).stays (hT8 hC68)⟩,⟨Ce,(SS.weakT k6 hE).stays (hT8 hC8)⟩⟩
  refine ⟨f - 1,by omega,_,M8,i+1,D.set i (s.l ⟨ui,ux,uy,vb,ve⟩),by rfl,by simp only[go_sem,seval,t1],by simp only[go_sem,seval,t2],by simp only[go_sem,seval]<;>rfl,by omega,a8 _ _ rfl (by rw[g8,e5]) id8,hC.trans hCM8 fun i hi q=>by rw[n15 i hi] at q;exact OZ q idm,⟨by simp[hX.n],fun j x c hj h1 h2=> ?_,fun j x c hj h1 h2=> ?_⟩⟩
  ·by_cases e:j=i
   ·subst e
    rw[List.getElem?_set_self hiD] at h2
    rw[hls] at h1
    cases h1;cases h2
    exact RS.ofSP hnew
   ·rw[List.getElem?_set_ne (fun a=>e a.symm)] at h2
    exact (hX.a j x c (by omega) h1 h2).stays (aS.of hCM8 fun j q w=>q.2 (by rw[a2];simpa using w))
  ·rw[List.getElem?_set_ne (by omega)] at h2
   exact hX.b j x c (by omega) h1 h2
 ·simp (disch:=first|assumption|omega) only[go_sem,seval,t1,t2,t3]
  have e:i=l.length:=by omega
  subst e
  refine hK' _ _ ⟨⟨D,⟨ho.sl,fun i hi=>ho.new i hi,hX.n,fun j x c h1 h2=> ?_⟩⟩,hC⟩
  have hj:=(List.getElem?_eq_some_iff.1 h1).1
  exact (hX.a j x c hj h1 h2).weak fun j q=>q.1
theorem xj:∀l:List Stm,GG l:=by
 have h:∀s:Stm,GG s.b/\GG s.e:=by
  apply Stm.ind (P:=fun s=>GG s.b/\GG s.e)
  intro k a nm ce i x y b e hb he
  exact ⟨uX hb,uX he⟩
 exact fun l=>uX fun s _=>h s
structure Wk (ck:D4) (B m0:NH) (vc u:NV) (L:List (List Nat)) (e a:Int) (N:NH):Prop where
 g:N.get ck=some (.cells true [vc,u,ii e,ii a])
 o:am N ck
 w:bf B N u 1 (cM L)
 n:ck∉ids u
 c:Chg [] m0 N
 b:∀i,am B i->am N i
def e6 (Z:List (List Nat)) (e:Int) (mine:List (List Nat)):Int:=if e=0/\∃n∈mine,n∈Z then 6 else e
section
variable {ck:D4} {B m0:NH} {vc:NV} {cs:List (List Nat×Int)}
theorem Wk.grow {u:NV} {L:List (List Nat)} {e a:Int} {N N':NH} (h:Wk ck B m0 vc u L e a N) (hC:Chg [] N N'):Wk ck B m0 vc u L e a N':=
 ⟨(hC.get h.o (by simp)).trans h.g,hC.old h.o,h.w.chg hC fun _ _=>by simp,h.n,h.c.trans hC (by simp),fun i hi=>hC.old (h.b i hi)⟩
theorem Wk.set {u:NV} {L:List (List Nat)} {e a e' a':Int} {N N':NH} (h:Wk ck B m0 vc u L e a N) (hk:¬am m0 ck) (hN:hp [(.o ck,.cells true [vc,u,ii e',ii a'])] 0 N=N'):Wk ck B m0 vc u L e' a' N'/\Chg [ck] N N':=by
 have hC:Chg [ck] N N':=bh hN rfl
 refine ⟨⟨?_,hC.old h.o,h.w.chg hC fun i hi=>by simp;rintro rfl;exact h.n hi,h.n,h.c.trans hC fun i hi ho=> ?_,fun i hi=>hC.old (h.b i hi)⟩,hC⟩
 ·rw[←hN];exact (aJ h.o).trans au
 ·have hi:=one hi;subst hi;exact OZ ho hk
end
section
variable {ck:D4} {B m0:NH} {vc:NV} {cs:List (List Nat×Int)} {T:D4->Prop}
end
section
variable {ck:D4} {B m0:NH} {vc:NV} {cs:List (List Nat×Int)} {T:D4->Prop}
end
structure PrgOk (p:Prg):Prop where
 cs:CsOk p.cs
 zt:∀t∈p.ts,cZ t.2<=400000
 zr:cZ p.r<=400000
 gt:∀t∈p.ts,∀s∈t.2,Gs p.cs s
 gr:∀s∈p.r,Gs p.cs s
 nt:p.ts.length<=1000
theorem PrgOk.run {p:Prg} {B:NH} {vc vt vr:NV} (h:PrgOk p) (hr:RP B (fun _=>True) p vc vt vr):RunC p B vc vt vr:=⟨hr,h.cs,h.zt,h.zr,h.gt,h.gr,h.nt⟩
structure TsC (m0 M:NH) (T T':D4->Prop) (l:List (List Nat×List Stm)) (i:Nat) (C:List (List NV)):Prop where
 n:C.length=l.length
 a:∀(j:Nat) (x:List Nat×List Stm) (c:List NV),j<i->l[j]? =some x->C[j]? =some c->∃vb E,c= [.str x.1,vb]/\SS M T' vb x.2 E
 b:∀(j:Nat) (x:List Nat×List Stm) (c:List NV),i<=j->l[j]? =some x->C[j]? =some c->∃vb E,c= [.str x.1,vb]/\SS m0 T vb x.2 E
def Fh (p:Prg):Mc:=⟨List.replicate (br p.cs).toNat 0, [],false⟩
def H5 (p:Prg) (m m':NH) (w:NV):Prop:=
 if (dz p).2≠0 then w= .tup [.nilp,ii (dz p).2]/\Chg [] m m'
 else ∃r B vc vt vr vcl vo vth q bs,w= .tup [.ptr r 0,ii 0]/\RunC p B vc vt vr/\Chg [] m B/\gd p B vc vt vr m' r (pP p (Fh p)) 0 vcl vo vth q bs/\Chg [] m m'/\∀i∈RunG.foot r vcl vo vth q bs,¬am m i
set_option maxHeartbeats 1000000 in
theorem LZ {m:NH} {T:D4->Prop} {p:Prg} {vc vt vr:NV} (h:RP m T p vc vt vr) (hs:p.cs.length<=100000/\p.ts.length<=100000) (hz:∀t∈p.ts,cZ t.2<=400000) (hr:cZ p.r<=400000) (hok:(dz p).2=0->PrgOk p):
 ∃w m',bp Try.prog S0 35 [.agg [vc,vt,vr]] m w m'/\H5 p m m' w:=by
 refine WF.ex fun K' hK'=> ?_
 refine WF.of_wpG (fun _=>rfl) xh (L:= [(.e,.agg [vc,vt,vr])]) rfl ?_
 unfold I4
 obtain ⟨hcs,hts⟩:=hs
 generalize hM1:hp [(.n 0,.cells true [vc,vt,vr])] 1 m=M1
 have hC1:Chg [] m M1:=bh hM1 rfl
 have g1:M1.get (na m 0)=some (.cells true [vc,vt,vr]):=bM hM1
 have o1:am M1 (na m 0):=bL hM1 (by omega)
 have h1:=h.stays (wE hC1 T)
 obtain ⟨M2,r2,hC2⟩:=KA h1 ⟨by omega,by omega⟩ (fun t ht=>by have:=hz t ht;omega) (by omega)
 have g2:=(hC2.get o1 (by simp)).trans g1
 have o2:=hC2.old o1
 have hCm2:=hC1.trans hC2 (by simp)
 unfold H5 at hK'
 by_cases hE:(dz p).2≠0
 ·simp only[O1 hE] at hK'
  simp (disch:=first|assumption|omega|(simp only[aU]<;>omega)) only[go_sem,seval,hM1,g1,r2.wf']
  exact hK' _ _ ⟨rfl,hCm2⟩
 ·simp only[O0 hE] at hK'
  have hE0:(dz p).2=0:=by simpa using hE
  have hok:=hok hE0
  obtain ⟨CT,hT⟩:=h.t
  obtain ⟨CR,hR⟩:=h.r
  obtain ⟨vc1,M3,r3,ho3,hC3⟩:=Mj (h.c.grew hCm2) (by simp;omega)
  have hCm3:=hCm2.trans hC3 (by simp)
  obtain ⟨vt1,M4,r4,ho4,hC4⟩:=KF (hT.sl.grew hCm3) (by rw[hT.len];omega)
  have hCm4:=hCm3.trans hC4 (by simp)
  obtain ⟨vr1,M5,r5,⟨ER,hR5⟩,hC5⟩:=xj p.r hR (wE hCm4 T) (by omega)
  have hCm5:=hCm4.trans hC5 (by simp)
  have hC25:=(hC3.trans hC4 (by simp)).trans hC5 (by simp)
  have g3:=(hC3.get o2 (by simp)).trans g2
  have g4:=((hC3.trans hC4 (by simp)).get o2 (by simp)).trans g2
  have g5:=(hC25.get o2 (by simp)).trans g2
  have o5:=hC25.old o2
  have k1:=h.c.one
  have k2:=hT.sl.one
  have k3:=hR.sl.one
  have k4:=ho3.sl.one
  have k5:=ho4.sl.one
  have k6:=hR5.sl.one
  have s1:=h.c.same (n:=3)
  have s2:=hT.sl.same (n:=3)
  have s3:=hR.sl.same (n:=3)
  have hlt:=ho4.sl.len
  rw[hT.len] at hlt
  simp (disch:=first|assumption|omega|(simp only[aU]<;>omega)) only[go_sem,seval,hM1,g1,r2.wf',g2,hE0,r3.wf',r4.wf',r5.wf,g3,g4,g5,k1,k2,k3,k4,k5,k6,s1,s2,s3,hlt]
  generalize hM6:hp _ 0 M5=M6
  have hC6:Chg [na m 0] M5 M6:=pk hM6 (by simp[aE])
  have g6:M6.get (na m 0)=some (.cells true [vc1,vt1,vr1]):=jO o5 hM6
  have o6:=hC6.old o5
  have hCm6:Chg [] m M6:=hCm5.trans hC6 fun i hi q=>by have hi:=one hi;subst hi;exact OZ q aB
  have vt4:∀i∈ids vt1,¬am M3 i:=ho4.new
  have vt0:∀i∈ids vt1,i≠na m 0:=fun i hi e=>vt4 i hi (e▸hC3.old o2)
  have vto:∀i∈ids vt1,am M4 i:=ho4.sl.old
  have hv6:bf m M6 vt1 2 CT:=((ho4.chg hC5 fun _ _=>by simp).chg hC6 fun i hi q=>vt0 i hi (by simpa using q)).back fun i hi=>hCm3.old hi
  have hc6:Sl M6 vc1 2 (oK p.cs):=(ho3.sl.grew (hC4.trans hC5 (by simp))).chg hC6 fun i hi q=>ho3.new i hi (by have q:=one q;subst q;exact o2)
  have hcn:∀i∈ids vc1,am M3 i/\i≠na m 0:=fun i hi=>⟨ho3.sl.old i hi,fun e=>ho3.new i hi (e▸o2)⟩
  have hr6:SS M6 (fun i=>¬am M4 i) vr1 p.r ER:=hR5.stays (aS.of hC6 fun i q w=>by have w:=one w;subst w;exact q ((hC3.trans hC4 (by simp)).old o2))
  have o40:am M4 (na m 0):=(hC3.trans hC4 (by simp)).old o2
  refine W.loop (fun f d=>∃t M i D,d=⟨t, [],none,M⟩/\NT.get D4.e.a t=some (.ptr (na m 0) 0)/\NT.get D4.e.a.c.b t=some (ii (p.ts.length:Nat))/\NT.get D4.e.a.c.c t=some (ii (i:Nat))/\i+f=p.ts.length/\Chg (ids vt1) M6 M/\bf m M vt1 2 D/\Chg [] m M/\TsC m M T (fun i=>i∉ids vt1/\i≠na m 0) p.ts i D) ?_ p.ts.length _ ⟨_,M6,0,CT,rfl,by simp only[go_sem,seval],by simp only[go_sem,seval],by simp only[go_sem,seval]<;>rfl,by omega,(Chg.refl _).weak (by simp),hv6,hCm6,⟨hT.len,fun j x c q=>by omega,fun j x c _=>hT.R j x c⟩⟩
  clear hM6
  rintro f d ⟨t,M,i,D,rfl,t1,t2,t3,hif,hCM,ho,hC,hX⟩
  apply az
  unfold x9
  change wp _ _ _ _ ⟨aj [] t, [],none,M⟩ _
  have gM:=(hCM.get o6 (fun q=>vt0 _ q rfl)).trans g6
  have oM:=hCM.old o6
  by_cases hi:i<p.ts.length
  ·have hiD:i<D.length:=by rw[hX.n];exact hi
   obtain ⟨id,off,cc,a1,a2,a3,a4,a5,a6,a7,a8⟩:=ho.at i hiD
   obtain ⟨vb,E,eD,hSb⟩:=hX.b i _ _ (Nat.le_refl _) (List.getElem?_eq_getElem hi) (List.getElem?_eq_getElem hiD)
   rw[eD] at a7 a8
   have c1:cc[off+1]? =some vb:=aX a7 1 (by omega)
   have hzt:=hz _ (List.getElem_mem hi)
   obtain ⟨vb',M7,r7,⟨E',hB⟩,hC7⟩:=xj _ hSb (wE hC T) (by omega)
   have g7:=(hC7.get oM (by simp)).trans gM
   have a47:=(hC7.get a5 (by simp)).trans a4
   have id7:=hC7.old a5
   have hb1:=hB.sl.one
   have hbs:=hSb.sl.same (n:=3)
   have hvs:=ho.sl.same (n:=3)
   simp (disch:=first|assumption|omega) only[go_sem,seval,t1,t2,t3,gM,a1,a4,c1,r7.wf',g7,a47,hb1,hbs,hvs]
   generalize hM8:M7.put id _=M8
   have hM8:M8=hp [(.o id,.cells true (cc.set (off+1) vb'))] 0 M7:=by rw[←hM8,←fA id7,aa]
   have hC8:Chg [id] M7 M8:=by rw[hM8];exact (eA _ _ _).weak (by simp[aE])
   have hCM8:Chg [id] M M8:=(hC7.weak (by simp)).trans hC8 fun i hi _=>hi
   have idv:id∈ids vt1:=by rw[a2];simp
   have h8:=a8 [(1,vb')] M8 (by simp) (by rw[hM8];exact (aJ id7).trans au) (hC8.old id7)
   refine ⟨f - 1,by omega,_,M8,i+1,D.set i [.str p.ts[i].1,vb'],by rfl,by simp only[go_sem,seval,t1],by simp only[go_sem,seval,t2],by simp only[go_sem,seval]<;>rfl,by omega,hCM.trans hCM8 fun j hj _=>by have hj:=one hj;subst hj;exact idv,h8,hC.trans hCM8 fun j hj q=>by have hj:=one hj;subst hj;exact OZ q a3,⟨by simp[hX.n],fun j x c hj h1 h2=> ?_,fun j x c hj h1 h2=> ?_⟩⟩
   ·by_cases e:j=i
    ·subst e
     rw[List.getElem?_set_self hiD] at h2
     rw[List.getElem?_eq_getElem hi] at h1
     cases h1;cases h2
     refine ⟨vb',E',rfl,(SS.weakT (fun j q=>⟨fun w=>q (ho.sl.old j w),fun w=>q (w▸oM)⟩) hB).stays (aS.of hC8 fun j q w=> ?_)⟩
     simp only[O5,O4,or_false] at w
     exact q.1 (w▸idv)
    ·rw[List.getElem?_set_ne (fun a=>e a.symm)] at h2
     obtain ⟨v2,E2,e2,hS2⟩:=hX.a j x c (by omega) h1 h2
     exact ⟨v2,E2,e2,hS2.stays (aS.of hCM8 fun j q w=>by simp only[O5,O4,or_false] at w;exact q.1 (w▸idv))⟩
   ·rw[List.getElem?_set_ne (by omega)] at h2
    exact hX.b j x c (by omega) h1 h2
  ·have e:i=p.ts.length:=by omega
   subst e
   have hcM:Sl M vc1 2 (oK p.cs):=hc6.chg hCM fun i hi q=>vt4 i q (hcn i hi).1
   have hRP:RP M (fun _=>True) p vc1 vt1 vr1:=⟨hcM,fun _ _=>trivial,⟨D,ho.sl,fun _ _=>trivial,hX.n,fun j x c h1 h2=>by
    obtain ⟨v2,E2,e2,hS2⟩:=hX.a j x c (List.getElem?_eq_some_iff.1 h1).1 h1 h2
    exact ⟨v2,E2,e2,SS.weakT (fun _ _=>trivial) hS2⟩⟩,⟨ER,SS.weakT (fun _ _=>trivial) (hr6.stays (aS.of hCM fun i q w=>q (vto i w)))⟩⟩
   have hRC:=hok.run hRP
   obtain ⟨M7,r7,hC7⟩:=yg hcM (by omega)
   have hw:=gI p.cs
   obtain ⟨n,hn⟩:=O7 hw.1
   rw[hn] at r7
   have gM7:=(hC7.get oM (by simp)).trans gM
   have kc:=hcM.one
   have kt:=ho.sl.one
   have kr:=hr6.sl.one
   have ks:=hcM.same (n:=3)
   have kst:=ho.sl.same (n:=3)
   have ksr:=hr6.sl.same (n:=3)
   have kag:bz 4 (.agg [vc1,vt1,vr1]) (.agg [vc1,vt1,vr1])=true:=nh fun w hw=>by
    simp only[O5,O4,or_false] at hw
    rcases hw with rfl|rfl|rfl
    ·exact hcM.flat
    ·exact ho.sl.flat
    ·exact hr6.sl.flat
   generalize hM8:hp [(.n 1,.cells true [vc1,vt1,vr1,.slc (na M7 0) 0 n 1 n,.nils,.nilp,.nils,.bool false,.bool false]),(.n 0,.cells true (rep n [iu 0]))] 2 M7=M8
   have hC8:Chg [] M7 M8:=bh hM8 rfl
   have hCM8:=hC7.trans hC8 (by simp)
   have nw:∀j,¬am M (na M7 j):=fun j q=>aB (hC7.old q)
   have g81:M8.get (na M7 1)=some (.cells true [vc1,vt1,vr1,.slc (na M7 0) 0 n 1 n,.nils,.nilp,.nils,.bool false,.bool false]):=bM hM8
   have g80:M8.get (na M7 0)=some (.cells true (rep n [iu 0])):=bM hM8
   have o81:am M8 (na M7 1):=bL hM8 (by omega)
   have o80:am M8 (na M7 0):=bL hM8 (by omega)
   have e0:(Fh p).cl=List.replicate n 0:=by unfold Fh;rw[hn];rfl
   have hMac:Mac (fP vc1 vt1 vr1 .nilp .nils false) M M8 (na M7 1) (.slc (na M7 0) 0 n 1 n) .nils (Fh p):=by
    refine ⟨g81,o81,nw 1, ?_,bf.nil,⟨by simp[ids,rG],by simp[ids],by simp[ids]⟩,hCM8⟩
    rw[e0]
    exact bf.of (by simp) (nw 0) g80 o80 (by rw[AX];simp) (by simp) (by simp)
   have hMok:McOk p.cs (Fh p):=⟨fun y hy=>by rw[e0,List.mem_replicate] at hy;rw[hy.2];exact ⟨by simp,by simp⟩,by simp[Fh],by rw[e0,List.length_replicate,hn]⟩
   obtain ⟨M9,r9,vth,q,bs,hQ,hE⟩:=BE hRC hMac hMok (o:=0) (by simp[Fh])
   simp (disch:=first|assumption|omega|(simp only[aU]<;>omega)) only[go_sem,seval,t1,t2,t3,gM,r7.wf,gM7,kc,kt,kr,ks,kst,ksr,kag,hM8,r9.wf']
   exact hK' _ _ ⟨_,M,_,_,_,_,_,_,_,_,rfl,hRC,hC,hQ,hC.trans (hCM8.trans hE.c fun i hi w=>OZ w (hMac.old i hi).2) (by simp),fun i hi w=>(hQ.all i hi).2 (hC.old w)⟩
def lJ (x:Rn):Bool:=x.ph&&x.th.all fun y=>decide (y.s=1)
section
variable {p:Prg} {B m m':NH} {vc vt vr vcl vo vth:NV} {r:D4} {x:Rn} {o:Nat} {q:Bl} {bs:List Bl}
theorem Bu (h:gd p B vc vt vr m r x o vcl vo vth q bs) (hn:x.z.cl.length<=1000000):
 ∃v m',bp Try.prog S0 39 [.ptr r 0] m v m'/\bf m m' v 1 (wH x.z.cl)/\Chg [] m m':=by
 refine WF.ex fun K' hK'=> ?_
 refine WF.of_wpG (fun _=>rfl) w9 (L:= [(.e,.ptr r 0)]) rfl ?_
 unfold GQ
 have g:=h.mc.g
 obtain ⟨v,m1,r1,h1,hC⟩:=K7 h.mc.cl.sl (by simp;omega)
 rw[aa]
 simp (disch:=first|assumption|omega) only[go_sem,seval,g,r1.wf']
 exact hK' _ _ ⟨h1,hC⟩
theorem E3 {b:D4} {pl nm vv:NV} {ns:List (List Nat)} {y:Bd} (h:Bod nU B m b pl nm vv ns y):∃m',bp Try.prog S0 76 [.ptr b 0] m (.bool (decide (y.s≠1))) m'/\Chg [] m m':=by
 refine WF.ex1 fun K' hK'=> ?_
 refine WF.of_wpG (fun _=>rfl) yp (L:= [(.e,.ptr b 0)]) rfl ?_
 unfold Jj
 have g:=h.g
 by_cases hs:y.s=1
 ·rw[O2 (by simpa using hs)] at hK'
  simp (disch:=first|assumption|omega) only[go_sem,seval,g]
  exact hK' _ (aF rfl)
 ·rw[O3 hs] at hK'
  simp (disch:=first|assumption|omega) only[go_sem,seval,g]
  exact hK' _ (aF rfl)
theorem EY (h:gd p B vc vt vr m r x o vcl vo vth q bs) (hnt:p.ts.length<=1000):∃w m',bp Try.prog S0 126 [vth,.fn 76 []] m w m'/\(∃z,w=ii z/\(decide (0<=z)= !(x.th.all fun y=>decide (y.s=1))))/\Chg [] m m':=by
 refine WF.ex fun K' hK'=> ?_
 refine WF.of_wpG (fun _=>rfl) tK (L:= [(.a .e,.fn 76 []),(.e,vth)]) rfl ?_
 unfold Bz
 have hlen:=h.tv.sl.len
 rw[List.length_map,h.ln.1,←h.ln.2] at hlen
 have hln:=h.ln
 simp (disch:=first|assumption|omega) only[go_sem,seval,aa,hlen]
 refine W.loop (fun f d=>∃t M i,d=⟨t, [],none,M⟩/\NT.get D4.e t=some vth/\NT.get D4.e.a t=some (.fn 76 [])/\NT.get D4.e.a.c t=some (ii (x.th.length:Nat))/\NT.get D4.e.a.f t=some (ii (i:Nat))/\i+f=x.th.length/\Chg [] m M/\(x.th.take i).all (fun y=>decide (y.s=1))=true) ?_ x.th.length _ ⟨_,m,0,rfl,by simp only[go_sem,seval],by simp only[go_sem,seval],by simp only[go_sem,seval],by simp only[go_sem,seval]<;>rfl,by omega,Chg.refl m,by simp⟩
 rintro f d ⟨t,M,i,rfl,t1,t2,t3,t4,hif,hC,hA⟩
 apply az
 unfold sq
 change wp _ _ _ _ ⟨aj [] t, [],none,M⟩ _
 by_cases hi:i<x.th.length
 ·have hib:i<bs.length:=by omega
  obtain ⟨id,off,w,c,a1,a2,a3,a4,a5⟩:=h.tv.sl.at i (by simpa using hib)
  rw[List.getElem_map] at a5
  have c0:c[off]? =some (.ptr bs[i].b 0):=aX a5 0 (by omega)
  have a2M:=(hC.get a3 (by simp)).trans a2
  obtain ⟨hb,-⟩:=(h.grow hC).tb i bs[i] x.th[i] (List.getElem?_eq_getElem hib) (List.getElem?_eq_getElem hi)
  obtain ⟨M2,r2,hC2⟩:=E3 hb
  have htk:(x.th.take (i+1)).all (fun y=>decide (y.s=1))=decide (x.th[i].s=1):=by
   rw[List.take_add_one,List.getElem?_eq_getElem hi,List.all_append,hA];simp
  by_cases hs:x.th[i].s=1
  ·rw[O2 (by simpa using hs)] at r2
   simp (disch:=first|assumption|omega) only[go_sem,seval,t1,t2,t3,t4,a1,a2M,c0,r2.wf']
   exact ⟨f - 1,by omega,_,M2,i+1,by rfl,by simp only[go_sem,seval,t1],by simp only[go_sem,seval,t2],by simp only[go_sem,seval,t3],by simp only[go_sem,seval]<;>rfl,by omega,hC.trans hC2 (by simp),by rw[htk];simpa using hs⟩
  ·rw[O3 hs] at r2
   simp (disch:=first|assumption|omega) only[go_sem,seval,t1,t2,t3,t4,a1,a2M,c0,r2.wf']
   refine hK' _ _ ⟨⟨i,rfl, ?_⟩,hC.trans hC2 (by simp)⟩
   rw[O3 (by omega)]
   symm
   rw[Bool.not_eq_true',List.all_eq_false]
   exact ⟨x.th[i],List.getElem_mem hi,by simpa using hs⟩
 ·simp (disch:=first|assumption|omega) only[go_sem,seval,t1,t2,t3,t4]
  rw[List.take_of_length_le (by omega)] at hA
  exact hK' _ _ ⟨⟨-1,rfl,by rw[hA];rfl⟩,hC⟩
theorem vg (h:gd p B vc vt vr m r x o vcl vo vth q bs) (hnt:p.ts.length<=1000):∃m',bp Try.prog S0 38 [.ptr r 0] m (.bool (lJ x)) m'/\Chg [] m m':=by
 refine WF.ex1 fun K' hK'=> ?_
 refine WF.of_wpG (fun _=>rfl) xU (L:= [(.e,.ptr r 0)]) rfl ?_
 unfold Ir
 have g:=h.mc.g
 obtain ⟨_,m1,r1,⟨z,rfl,hz⟩,hC⟩:=EY h hnt
 have r2:∃m',bp Try.prog S0 75 [vth,.fn 76 []] m (.bool (!(x.th.all fun y=>decide (y.s=1)))) m'/\Chg [] m m':=by
  refine WF.ex1 fun K' hK'=> ?_
  refine WF.of_wpG (fun _=>rfl) xB (L:= [(.a .e,.fn 76 []),(.e,vth)]) rfl ?_
  unfold It
  rw[aa,←hz] at *
  by_cases h0:0<=z
  ·rw[O3 h0] at hK'
   simp (disch:=first|assumption|omega) only[go_sem,seval,r1.wf']
   exact hK' _ hC
  ·rw[O2 h0] at hK'
   simp (disch:=first|assumption|omega) only[go_sem,seval,r1.wf']
   exact hK' _ hC
 obtain ⟨m2,r2,hC2⟩:=r2
 unfold lJ at hK'
 rw[aa]
 cases hp:x.ph with
 |true=>
  rw[hp] at hK' g
  simp (disch:=first|assumption|omega) only[go_sem,seval,g,r2.wf',Bool.not_not]
  simp only[Bool.true_and] at hK'
  exact hK' _ hC2
 |false=>
  rw[hp] at hK' g
  simp (disch:=first|assumption|omega) only[go_sem,seval,g]
  simp only[Bool.false_and] at hK'
  exact hK' _ (Chg.refl m)
end
section
variable {B m:NH} {b:D4} {pl nm vv:NV} {ns:List (List Nat)} {x:Bd} {cs:List (List Nat×Int)}
end
section
variable {B m:NH} {r b:D4} {vcl vo pl nm vv vc vt vr rec vth:NV} {ns:List (List Nat)} {x:Bd} {z:Mc} {cs:List (List Nat×Int)}
end
section
variable {mk:NV->NV->NV->Int->List NV} {B m m1 M2:NH} {r b:D4} {vcl vo pl pl' nm vv vc vt vr rec vth:NV} {ns:List (List Nat)} {x:Bd} {z:Mc} {cs:List (List Nat×Int)}
def OM (x:Bd):Prop:=x.s=0∨(x.s=1/\x.K= [])∨x.s=2
end
section
variable {p:Prg} {B m m':NH} {vc vt vr vcl vo vth:NV} {r:D4} {x:Rn} {o:Nat} {q:Bl} {bs:List Bl} {z:Mc}
def Di (p:Prg) (B:NH) (vc vt vr:NV) (m:NH) (r:D4) (x:Rn) (o:Nat) (F:List D4):Prop:=
 (x.ph=false/\x.th=p.ts.map (fun t=>gZ t.2)/\OM x.rc/\∃vcl vo q,RunG (fR vc vt vr (.ptr q.b 0) .nils) OP ⟨p.cs, [],p.r⟩ B m r ⟨false,x.rc, [],x.z⟩ o vcl vo .nils q []/\F=RunG.foot r vcl vo .nils q [])∨
 (x.ph=true/\(∀y∈x.th,OM y)/\∃vcl vo vth q bs,RunG (fR vc vt vr .nilp vth) OP p B m r x o vcl vo vth q bs/\F=RunG.foot r vcl vo vth q bs)
theorem RunG.more {f:NV->NV->Bool->List NV} {mk:NV->NV->NV->Int->List NV} (h:RunG f mk p B m r x o vcl vo vth q bs) {o':Nat} (ho:o<=o'):RunG f mk p B m r x o' vcl vo vth q bs:=⟨h.mc,h.rb,h.rk,h.tv,h.ln,h.tb,h.d0,h.d1,h.d2,h.d3,h.zk,Nat.le_trans h.ol ho⟩
end
section
variable {p:Prg} {B m m':NH} {vc vt vr vcl vo vth rec:NV} {r:D4} {x:Rn} {o:Nat} {z:Mc} {F:List D4}
theorem Di.all (h:Di p B vc vt vr m r x o F):∀i∈F,am m i/\¬am B i:=by
 rcases h with ⟨hph,hth,hst,vcl,vo,q,h,rfl⟩|⟨hph,hst,vcl,vo,vth,q,bs,h,rfl⟩
 ·exact h.all
 ·exact h.all
end
def um (c:Nat):Bool:=decide (97<=c/\c<=122)
def eH (c:Nat):Bool:=decide (48<=c/\c<=57)
def ec (c:Nat):Bool:=um c||eH c||decide (c=95)
def xi (c:Nat):Bool:=decide (c=32∨c=9∨c=10∨c=13)
theorem nI (m:NH) (c:Nat):bp Try.prog S0 133 [u8 c] m (.bool (um c)) m:=by
 have h:∃v m',bp Try.prog S0 133 [u8 c] m v m'/\v= .bool (um c)/\m'=m:=by
  refine WF.ex fun K hK=> ?_
  refine WF.of_wpG (fun _=>rfl) tZ (L:= [(.e,u8 c)]) rfl ?_
  unfold Dv
  by_cases h1:97<=c
  ·by_cases h2:c<=122
   ·simp (disch:=first|assumption|omega) only[go_sem,seval]
    exact hK _ _ ⟨by simp[um,h1,h2],aa m⟩
   ·simp (disch:=first|assumption|omega) only[go_sem,seval]
    exact hK _ _ ⟨by simp[um,h2],aa m⟩
  ·simp (disch:=first|assumption|omega) only[go_sem,seval]
   exact hK _ _ ⟨by simp[um,h1],aa m⟩
 obtain ⟨v,m',h,rfl,rfl⟩:=h
 exact h
theorem qX (m:NH) (c:Nat):bp Try.prog S0 132 [u8 c] m (.bool (eH c)) m:=by
 have h:∃v m',bp Try.prog S0 132 [u8 c] m v m'/\v= .bool (eH c)/\m'=m:=by
  refine WF.ex fun K hK=> ?_
  refine WF.of_wpG (fun _=>rfl) tS (L:= [(.e,u8 c)]) rfl ?_
  unfold Cl
  by_cases h1:48<=c
  ·by_cases h2:c<=57
   ·simp (disch:=first|assumption|omega) only[go_sem,seval]
    exact hK _ _ ⟨by simp[eH,h1,h2],aa m⟩
   ·simp (disch:=first|assumption|omega) only[go_sem,seval]
    exact hK _ _ ⟨by simp[eH,h2],aa m⟩
  ·simp (disch:=first|assumption|omega) only[go_sem,seval]
   exact hK _ _ ⟨by simp[eH,h1],aa m⟩
 obtain ⟨v,m',h,rfl,rfl⟩:=h
 exact h
theorem B3 (m:NH) (c:Nat):bp Try.prog S0 131 [u8 c] m (.bool (ec c)) m:=by
 have h:∃v m',bp Try.prog S0 131 [u8 c] m v m'/\v= .bool (ec c)/\m'=m:=by
  refine WF.ex fun K hK=> ?_
  refine WF.of_wpG (fun _=>rfl) sn (L:= [(.e,u8 c)]) rfl ?_
  unfold AN
  have a1:=nI m c
  have a2:=qX m c
  cases h1:um c with
  |true=>
   rw[h1] at a1
   simp (disch:=first|assumption|omega) only[go_sem,seval,aa,a1.wf']
   exact hK _ _ ⟨by simp[ec,h1],rfl⟩
  |false=>
   rw[h1] at a1
   cases h2:eH c with
   |true=>
    rw[h2] at a2
    simp (disch:=first|assumption|omega) only[go_sem,seval,aa,a1.wf',a2.wf']
    exact hK _ _ ⟨by simp[ec,h2],rfl⟩
   |false=>
    rw[h2] at a2
    by_cases h3:c=95
    ·simp (disch:=first|assumption|omega) only[go_sem,seval,aa,a1.wf',a2.wf']
     exact hK _ _ ⟨by simp[ec,h3],rfl⟩
    ·simp (disch:=first|assumption|omega) only[go_sem,seval,aa,a1.wf',a2.wf']
     exact hK _ _ ⟨by simp[ec,h1,h2,h3],rfl⟩
 obtain ⟨v,m',h,rfl,rfl⟩:=h
 exact h
def aR (p:Nat->Bool) (s:List Nat) (a:Nat):Nat:=a+((s.drop a).takeWhile p).length
theorem gh {p:Nat->Bool} {s:List Nat} {a:Nat} (h:a<s.length) (hp:p s[a]=true):aR p s a=aR p s (a+1):=by
 unfold aR
 rw[List.drop_eq_getElem_cons h,List.takeWhile_cons,O1 hp,List.length_cons]
 omega
theorem qa {p:Nat->Bool} {s:List Nat} {a:Nat} (h:a<s.length) (hp:p s[a]=false):aR p s a=a:=by
 unfold aR
 rw[List.drop_eq_getElem_cons h,List.takeWhile_cons,O0 (by simp[hp])];rfl
theorem nE {p:Nat->Bool} {s:List Nat} {a:Nat} (h:s.length<=a):aR p s a=a:=by
 unfold aR
 rw[List.drop_eq_nil_of_le h];rfl
theorem iW {p:Nat->Bool} {s:List Nat} {a:Nat}:a<=aR p s a:=by unfold aR;omega
theorem fI {p:Nat->Bool} {s:List Nat} {a:Nat} (h:a<=s.length):aR p s a<=s.length:=by
 unfold aR
 have:=(List.takeWhile_sublist (l:=s.drop a) p).length_le
 rw[List.length_drop] at this;omega
def uz:Bool->List Nat->Nat
 |_, []=>0
 |false,c::l=>if xi c then 1+uz false l else if c=35 then 1+uz true l else 0
 |true,c::l=>if c=10 then 1+uz false l else 1+uz true l
def bu (s:List Nat) (a:Nat):Nat:=a+uz false (s.drop a)
theorem HQ:∀(l:List Nat) (q:Bool),uz q l<=l.length:=by
 intro l
 induction l with
 |nil=>intro q;cases q<;>exact Nat.le_refl 0
 |cons c l ih=>
  intro q
  have h1:=ih false
  have h2:=ih true
  cases q with
  |false=>
   show (if xi c then 1+uz false l else if c=35 then 1+uz true l else 0)<=l.length+1
   split
   ·omega
   ·split<;>omega
  |true=>
   show (if c=10 then 1+uz false l else 1+uz true l)<=l.length+1
   split<;>omega
def lS (s:List Nat) (a:Nat):Nat:=a+uz true (s.drop a)
theorem gQ {s:List Nat} {a:Nat} (h:a<s.length):bu s a=if xi s[a] then bu s (a+1) else if s[a]=35 then lS s (a+1) else a:=by
 unfold bu lS
 rw[List.drop_eq_getElem_cons h]
 show a+(if xi s[a] then 1+uz false (s.drop (a+1)) else if s[a]=35 then 1+uz true (s.drop (a+1)) else 0)=_
 split
 ·omega
 ·split<;>omega
theorem nG {s:List Nat} {a:Nat} (h:a<s.length):lS s a=if s[a]=10 then bu s (a+1) else lS s (a+1):=by
 unfold bu lS
 rw[List.drop_eq_getElem_cons h]
 show a+(if s[a]=10 then 1+uz false (s.drop (a+1)) else 1+uz true (s.drop (a+1)))=_
 split<;>omega
theorem pR {s:List Nat} {a:Nat} (h:s.length<=a):bu s a=a:=by
 unfold bu;rw[List.drop_eq_nil_of_le h];rfl
theorem z8 {s:List Nat} {a:Nat} (h:s.length<=a):lS s a=a:=by
 unfold lS;rw[List.drop_eq_nil_of_le h];rfl
theorem ki {s:List Nat} {a:Nat} (h:a<=s.length):bu s a<=s.length:=by
 have:=HQ (s.drop a) false
 rw[List.length_drop] at this
 unfold bu;omega
theorem tH {s:List Nat} {a:Nat}:a<=bu s a:=by unfold bu;omega
theorem D2 (s:List Nat):∀(k a:Nat),k=s.length - a->lS s a=bu s (aR (fun c=>decide (c≠10)) s a):=by
 intro k
 induction k with
 |zero=>intro a hk;rw[nE (by omega),z8 (by omega),pR (by omega)]
 |succ k ih=>
  intro a hk
  have ha:a<s.length:=by omega
  by_cases h:s[a]=10
  ·rw[qa ha (by simp[h]),nG ha,O1 h,gQ ha,O1 (by simp[xi,h])]
  ·rw[gh ha (by simp[h]),nG ha,O0 h];exact ih (a+1) (by omega)
theorem wu {s:List Nat} {a:Nat} (h:a<s.length) (hs:s[a]=35):bu s a=bu s (aR (fun c=>decide (c≠10)) s a):=by
 rw[gh h (by simp[hs]),gQ h,O0 (by simp[xi,hs]),O1 hs,D2 s _ _ rfl]
theorem zj {s:List Nat} {a:Nat} (h:a<s.length) (hb:xi s[a]=false) (hs:s[a]≠35):bu s a=a:=by
 rw[gQ h,O0 (by simp[hb]),O0 hs]
theorem F3 {m:NH} {vb:NV} {s:List Nat} (hs:s.length<=1000000) (hb:Sl m vb 1 (kR s)) {a:Nat} (ha:a<=s.length) {t:Tm} (g1:NT.get D4.e t=some vb) (g2:NT.get D4.e.a t=some (ii a))
 {Q:Out->Dyn->Prop} (hQ:∀t',NT.get D4.e t'=some vb->NT.get D4.e.a t'=some (ii (aR (fun c=>decide (c≠10)) s a))->Q (.exit 3) ⟨aj [] t', [],none,m⟩):W Try.prog S0 none qM.loop ⟨t, [],none,m⟩ Q:=by
 have hlen:=hb.len
 rw[List.length_map] at hlen
 refine W.loop (fun k d=>∃t i,d=⟨t, [],none,m⟩/\NT.get D4.e t=some vb/\NT.get D4.e.a t=some (ii (i:Nat))/\aR (fun c=>decide (c≠10)) s i=aR (fun c=>decide (c≠10)) s a/\i+k=s.length) ?_ (s.length - a) _ ⟨_,a,rfl,g1,g2,rfl,by omega⟩
 rintro k d ⟨t,i,rfl,g1,g2,hr,hik⟩
 have hQ':=fun L t'=>hQ (aj L t')
 simp only[AW] at hQ'
 apply az
 unfold qM
 change wp _ _ _ _ ⟨aj [] t, [],none,m⟩ _
 by_cases hi:i<s.length
 ·obtain ⟨id,off,w,c,a1,a2,a3,a4,a5⟩:=hb.at i (by simpa using hi)
  rw[List.getElem_map] at a5
  have c0:=aX a5 0 (by omega)
  rw[Nat.add_zero] at c0
  by_cases h10:s[i]=10
  ·simp (disch:=first|assumption|omega) only[go_sem,seval,g1,g2,hlen,a1,a2,c0]
   refine hQ' _ _ ?_ ?_
   ·simp (disch:=first|assumption|omega) only[go_sem,seval,g1]
   ·simp (disch:=first|assumption|omega) only[go_sem,seval,g2];rw[←hr,qa hi (by simp[h10])]
  ·simp (disch:=first|assumption|omega) only[go_sem,seval,g1,g2,hlen,a1,a2,c0]
   refine ⟨k - 1,by omega,_,i+1,rfl, ?_, ?_,by rw[←hr,gh hi (by simp[h10])],by omega⟩
   ·simp (disch:=first|assumption|omega) only[go_sem,seval,g1]
   ·simp (disch:=first|assumption|omega) only[go_sem,seval]<;>rfl
 ·simp (disch:=first|assumption|omega) only[go_sem,seval,g1,g2,hlen]
  refine hQ' _ _ ?_ ?_
  ·simp (disch:=first|assumption|omega) only[go_sem,seval,g1]
  ·simp (disch:=first|assumption|omega) only[go_sem,seval,g2];rw[←hr,nE (by omega)]
theorem B1 (m:NH) {vb:NV} {s:List Nat} (hs:s.length<=1000000) (hb:Sl m vb 1 (kR s)) {a:Nat} (ha:a<=s.length):bp Try.prog S0 82 [vb,ii a] m (ii (bu s a)) m:=by
 have h:∃v m',bp Try.prog S0 82 [vb,ii a] m v m'/\v=ii (bu s a)/\m'=m:=by
  refine WF.ex fun K hK=> ?_
  refine WF.of_wpG (fun _=>rfl) xD (L:= [(.a .e,ii a),(.e,vb)]) rfl ?_
  unfold Iy
  have hlen:=hb.len
  rw[List.length_map] at hlen
  simp (disch:=first|assumption|omega) only[go_sem,seval,aa]
  refine W.loop (fun k d=>∃t i,d=⟨t, [],none,m⟩/\NT.get D4.e t=some vb/\NT.get D4.e.a t=some (ii (i:Nat))/\bu s i=bu s a/\i+k=s.length) ?_ (s.length - a) _ ⟨_,a,rfl,by simp only[go_sem,seval],by simp only[go_sem,seval],rfl,by omega⟩
  rintro k d ⟨t,i,rfl,g1,g2,hr,hik⟩
  apply az
  unfold yS
  change wp _ _ _ _ ⟨aj [] t, [],none,m⟩ _
  by_cases hi:i<s.length
  ·obtain ⟨id,off,w,c,a1,a2,a3,a4,a5⟩:=hb.at i (by simpa using hi)
   rw[List.getElem_map] at a5
   have c0:=aX a5 0 (by omega)
   rw[Nat.add_zero] at c0
   have blk:∀h:xi s[i]=true,bu s (i+1)=bu s a:=fun h=>by rw[←hr,gQ hi,O1 h]
   by_cases h1:s[i]=32
   ·simp (disch:=first|assumption|omega) only[go_sem,seval,g1,g2,hlen,a1,a2,c0]
    refine ⟨k - 1,by omega,_,i+1,rfl, ?_, ?_,blk (by simp[xi,h1]),by omega⟩
    ·simp (disch:=first|assumption|omega) only[go_sem,seval,g1]
    ·simp (disch:=first|assumption|omega) only[go_sem,seval]<;>rfl
   ·by_cases h2:s[i]=9
    ·simp (disch:=first|assumption|omega) only[go_sem,seval,g1,g2,hlen,a1,a2,c0]
     refine ⟨k - 1,by omega,_,i+1,rfl, ?_, ?_,blk (by simp[xi,h2]),by omega⟩
     ·simp (disch:=first|assumption|omega) only[go_sem,seval,g1]
     ·simp (disch:=first|assumption|omega) only[go_sem,seval]<;>rfl
    ·by_cases h3:s[i]=10
     ·simp (disch:=first|assumption|omega) only[go_sem,seval,g1,g2,hlen,a1,a2,c0]
      refine ⟨k - 1,by omega,_,i+1,rfl, ?_, ?_,blk (by simp[xi,h3]),by omega⟩
      ·simp (disch:=first|assumption|omega) only[go_sem,seval,g1]
      ·simp (disch:=first|assumption|omega) only[go_sem,seval]<;>rfl
     ·by_cases h4:s[i]=13
      ·simp (disch:=first|assumption|omega) only[go_sem,seval,g1,g2,hlen,a1,a2,c0]
       refine ⟨k - 1,by omega,_,i+1,rfl, ?_, ?_,blk (by simp[xi,h4]),by omega⟩
       ·simp (disch:=first|assumption|omega) only[go_sem,seval,g1]
       ·simp (disch:=first|assumption|omega) only[go_sem,seval]<;>rfl
      ·have hnb:xi s[i]=false:=by simp[xi,h1,h2,h3,h4]
       by_cases h5:s[i]=35
       ·simp (disch:=first|assumption|omega) only[go_sem,seval,g1,g2,hlen,a1,a2,c0]
        refine F3 hs hb (a:=i) (by omega) ?_ ?_ ?_
        ·simp (disch:=first|assumption|omega) only[go_sem,seval,g1]
        ·simp (disch:=first|assumption|omega) only[go_sem,seval,g2]
        intro t' g1 g2
        simp (disch:=first|assumption|omega) only[go_sem,seval]
        have hle:=fI (p:=fun c=>decide (c≠10)) (s:=s) (a:=i) (by omega)
        have hlt:i+1<=aR (fun c=>decide (c≠10)) s i:=by rw[gh hi (by simp[h5])];exact iW
        exact ⟨s.length - aR (fun c=>decide (c≠10)) s i,by omega,t',_,rfl,g1,g2,by rw[←wu hi h5];exact hr,by omega⟩
       ·simp (disch:=first|assumption|omega) only[go_sem,seval,g1,g2,hlen,a1,a2,c0]
        exact hK _ _ ⟨by rw[←hr,zj hi hnb h5],rfl⟩
  ·simp (disch:=first|assumption|omega) only[go_sem,seval,g1,g2,hlen]
   exact hK _ _ ⟨by rw[←hr,pR (by omega)],rfl⟩
 obtain ⟨v,m',h,rfl,rfl⟩:=h
 exact h
def fS:List (List Nat):= [[99,101,108,108], [116,104,114,101,97,100], [114,101,99,111,118,101,114], [115,101,116], [108,111,97,100], [115,116,111,114,101], [99,97,115], [102,101,110,99,101], [111,117,116], [105,102], [101,108,115,101], [119,104,105,108,101]]
theorem Ib (m:NH) (t:List Nat):∃v m',bp Try.prog S0 134 [.str t] m v m'/\v= .bool (decide (t∈fS))/\Chg [] m m':=by
 refine WF.ex fun K hK=> ?_
 refine WF.of_wpG (fun _=>rfl) rN (L:= [(.e,.str t)]) rfl ?_
 unfold BX
 simp (disch:=first|assumption|omega|(simp only[aU]<;>omega)) only[go_sem,seval]
 generalize hM:hp _ 1 m=M
 have hC:Chg [] m M:=bh hM rfl
 have hv:Sl M (.slc (na m 0) 0 12 1 12) 1 (cM fS):=by
  rw[←hM]
  exact (bf.of (B:=m) (C:=cM fS) (by simp) aB bP (bW (by omega)) rfl rfl rfl).sl
 have hwl:fS.length=12:=rfl
 refine W.loop (fun k d=>∃t' i,d=⟨t', [],none,M⟩/\NT.get D4.e t'=some (.str t)/\NT.get D4.e.c t'=some (.slc (na m 0) 0 12 1 12)/\NT.get D4.e.f t'=some (ii (i:Nat))/\t∉fS.take i/\i+k=12) ?_ 12 _ ⟨_,0,rfl,by simp only[go_sem,seval],by simp only[go_sem,seval],by simp only[go_sem,seval]<;>rfl,by simp,by omega⟩
 rintro k d ⟨t',i,rfl,g1,g2,g3,hno,hik⟩
 apply az
 unfold rH
 change wp _ _ _ _ ⟨aj [] t', [],none,M⟩ _
 by_cases hi:i<12
 ·obtain ⟨id,off,w,c,a1,a2,a3,a4,a5⟩:=hv.at i (by simpa [hwl] using hi)
  rw[List.getElem_map] at a5
  have c0:=aX a5 0 (by omega)
  rw[Nat.add_zero] at c0
  by_cases he:fS[i]=t
  ·simp (disch:=first|assumption|omega) only[go_sem,seval,g1,g2,g3,a1,a2,c0,he]
   exact hK _ _ ⟨by rw[O3 (show t∈fS by rw[←he];exact List.getElem_mem _)],hC⟩
  ·simp (disch:=first|assumption|omega) only[go_sem,seval,g1,g2,g3,a1,a2,c0,he]
   refine ⟨k - 1,by omega,_,i+1,rfl, ?_, ?_, ?_, ?_,by omega⟩
   ·simp (disch:=first|assumption|omega) only[go_sem,seval,g1]
   ·simp (disch:=first|assumption|omega) only[go_sem,seval,g2]
   ·simp (disch:=first|assumption|omega) only[go_sem,seval]<;>rfl
   ·rw[List.take_add_one,List.getElem?_eq_getElem (by omega)]
    simp only[Option.toList_some,List.mem_append,List.mem_singleton,not_or]
    exact ⟨hno,fun q=>he q.symm⟩
 ·simp (disch:=first|assumption|omega) only[go_sem,seval,g1,g2,g3]
  have e:i=12:=by omega
  subst e
  rw[List.take_of_length_le (by rw[hwl];omega)] at hno
  exact hK _ _ ⟨by simp[hno],hC⟩
def lf:List Nat->Nat->Option Nat
 | [],n=>some n
 |c::l,n=>if 10*n+(c - 48)<18446744073709551616 then lf l (10*n+(c - 48)) else none
def zz (s:List Nat):Option Nat:=if 1<s.length/\s[0]? =some 48 then none else lf s 0
def dU:List Nat:= [123,125,40,41,91,93,59,43,45,42,38,61,60]
def cut (s:List Nat) (a e:Nat):List Nat:=(s.take e).drop a
def eQ (s:List Nat) (a:Nat):Option (Nat×List Nat×Nat×Nat):=
 match s[a]? with
 |none=>none
 |some c=>
  if um c then (if cut s a (aR ec s a)∈fS then some (4,cut s a (aR ec s a),0,aR ec s a) else if (cut s a (aR ec s a)).length<=16 then some (1,cut s a (aR ec s a),0,aR ec s a) else none)
  else if eH c then (match zz (cut s a (aR eH s a)) with|some n=>if aR ec s a=aR eH s a then some (2, [],n,aR eH s a) else none|none=>none)
  else if c∈dU then some (3, [c],0,a+1) else none
theorem Ca {a n d:Int} {t:List Nat}:bz 4 (.agg [.int .i64 (.lit a),.str t,.int .u64 (.lit n),.int .i64 (.lit d)]) (.agg [.int .i64 (.lit a),.str t,.int .u64 (.lit n),.int .i64 (.lit d)])=true:=by
 refine nh ?_
 intro v hv
 simp only[O5,O4,or_false] at hv
 rcases hv with rfl|rfl|rfl|rfl<;>trivial
theorem qO (p:Nat->Bool) (s:List Nat) (a:Nat):cut s a (aR p s a)=(s.drop a).takeWhile p:=by
 unfold cut aR
 rw[List.drop_take,Nat.add_sub_cancel_left]
 exact (List.prefix_iff_eq_take.mp (List.takeWhile_prefix p)).symm
theorem GM {p:Nat->Bool} {s:List Nat} {a c:Nat} (hb:s[a]? =some c) (hp:p c=true):∃l,cut s a (aR p s a)=c::l:=by
 rw[qO]
 obtain ⟨ha,hc⟩:=List.getElem?_eq_some_iff.mp hb
 rw[List.drop_eq_getElem_cons ha,hc,List.takeWhile_cons,hp]
 exact ⟨_,rfl⟩
theorem vB (p:Nat->Bool) (l:List Nat):∀c∈l.takeWhile p,p c=true:=by
 induction l with
 |nil=>intro c h;simp at h
 |cons x l ih=>
  intro c h
  rw[List.takeWhile_cons] at h
  split at h
  ·rcases List.mem_cons.mp h with rfl|h
   ·assumption
   ·exact ih c h
  ·simp at h
theorem Af (p:Nat->Bool) (s:List Nat) (a:Nat):∀c∈cut s a (aR p s a),p c=true:=by rw[qO];exact vB p _
theorem Ew (c:Nat) (h:eH c=true):ec c=true:=by unfold ec;rw[h];simp
structure Tok where
 k:Nat
 t:List Nat
 n:Nat
 p:Nat
def Tok.l (x:Tok):List NV:= [ii x.k,.str x.t,u64 x.n,ii x.p]
def cQ (s:List Nat):Nat->Nat->List Tok×Option Nat
 |0,_=>([],none)
 |k+1,a=>if a<s.length then (match eQ s a with
  |none=>([],some a)
  |some (kd,t,n,e)=>(⟨kd,t,n,a⟩::(cQ s k (bu s e)).1,(cQ s k (bu s e)).2)) else ([⟨5, [],0,s.length⟩],none)
def dg (s:List Nat):List Tok×Option Nat:=cQ s (s.length+1) (bu s 0)
theorem C3 {p:Nat->Bool} {s:List Nat} {a c:Nat} (hb:s[a]? =some c) (hp:p c=true):a<aR p s a:=by
 obtain ⟨ha,hc⟩:=List.getElem?_eq_some_iff.mp hb
 rw[gh ha (by rw[hc];exact hp)]
 exact iW
theorem De {s:List Nat} {a kd n e:Nat} {t:List Nat} (h:eQ s a=some (kd,t,n,e)):a<e/\e<=s.length:=by
 unfold eQ at h
 cases hb:s[a]? with
 |none=>rw[hb] at h;cases h
 |some c=>
  rw[hb] at h
  obtain ⟨ha,hc⟩:=List.getElem?_eq_some_iff.mp hb
  dsimp only at h
  have g1:um c=true->a<aR ec s a:=fun q=>C3 hb (by unfold ec;rw[q];rfl)
  have g2:eH c=true->a<aR eH s a:=fun q=>C3 hb q
  have l1:=fI (p:=ec) (s:=s) (a:=a) (by omega)
  have l2:=fI (p:=eH) (s:=s) (a:=a) (by omega)
  split at h
  ·rename_i hL
   split at h
   ·cases h;exact ⟨g1 hL,l1⟩
   ·split at h
    ·cases h;exact ⟨g1 hL,l1⟩
    ·cases h
  ·split at h
   ·rename_i hD
    split at h
    ·split at h
     ·cases h;exact ⟨g2 hD,l2⟩
     ·cases h
    ·cases h
   ·split at h
    ·cases h;exact ⟨by omega,by omega⟩
    ·cases h
theorem lh (s:List Nat):∀(k a:Nat),(cQ s k a).1.length<=k:=by
 intro k
 induction k with
 |zero=>intro a;simp[cQ]
 |succ k ih=>
  intro a
  unfold cQ
  split
  ·split
   ·simp
   ·rename_i kd t n e _
    have:=ih (bu s e)
    simp only[List.length_cons];omega
  ·simp
def MI (s:List Nat):Int->List Tok->Prop
 |_, []=>True
 |w,x::l=>w<x.p/\x.p<=s.length/\x.t.length<=s.length - x.p/\cut s x.p (x.p+x.t.length)=x.t/\(x.k=5↔l= [])/\MI s x.p l
theorem kv {s:List Nat} {a e:Nat} (h:e<=s.length):(cut s a e).length=e - a:=by unfold cut;rw[List.length_drop,List.length_take];omega
theorem p6 (s:List Nat) (a:Nat):cut s a a= []:=by unfold cut;exact List.drop_take_self
theorem Eg {s:List Nat} {a e:Nat} (h:e<=s.length) (h':a<=e):cut s a (a+(cut s a e).length)=cut s a e:=by rw[kv h,Nat.add_sub_cancel' h']
theorem DT {s:List Nat} {a c:Nat} (hb:s[a]? =some c):cut s a (a+1)= [c]:=by
 obtain ⟨ha,hc⟩:=List.getElem?_eq_some_iff.mp hb
 unfold cut
 rw[List.take_add_one,hb]
 simp only[Option.toList_some]
 rw[List.drop_append_of_le_length (by rw[List.length_take];omega),List.drop_take_self];rfl
theorem Hr {s:List Nat} {a kd n e:Nat} {t:List Nat} (h:eQ s a=some (kd,t,n,e)):kd≠5/\t.length<=s.length - a/\cut s a (a+t.length)=t:=by
 unfold eQ at h
 cases hb:s[a]? with
 |none=>rw[hb] at h;cases h
 |some c=>
  rw[hb] at h
  obtain ⟨ha,hc⟩:=List.getElem?_eq_some_iff.mp hb
  dsimp only at h
  have l1:=fI (p:=ec) (s:=s) (a:=a) (by omega)
  have l2:=iW (p:=ec) (s:=s) (a:=a)
  have c1:=Eg l1 l2
  have c2:=kv (a:=a) l1
  split at h
  ·split at h
   ·cases h;exact ⟨by omega,by omega,c1⟩
   ·split at h
    ·cases h;exact ⟨by omega,by omega,c1⟩
    ·cases h
  ·split at h
   ·split at h
    ·split at h
     ·cases h;exact ⟨by omega,by simp,p6 s a⟩
     ·cases h
    ·cases h
   ·split at h
    ·cases h;exact ⟨by omega,by simp;omega,DT hb⟩
    ·cases h
theorem CC (s:List Nat):∀(k a:Nat) (w:Int),s.length<=a+k->a<=s.length->w<a->(cQ s (k+1) a).2=none->MI s w (cQ s (k+1) a).1/\(cQ s (k+1) a).1≠ []:=by
 intro k
 induction k with
 |zero=>
  intro a w h1 h2 h3 h4
  rw[cQ,O0 (by omega)]
  exact ⟨⟨by simp;omega,Nat.le_refl _,by simp,p6 s _,by simp,trivial⟩,by simp⟩
 |succ k ih=>
  intro a w h1 h2 h3 h4
  by_cases ha:a<s.length
  ·rw[cQ,O1 ha] at h4 ⊢
   cases hk:eQ s a with
   |none=>rw[hk] at h4;cases h4
   |some x=>
    obtain ⟨kd,t,n,e⟩:=x
    rw[hk] at h4
    obtain ⟨e1,e2⟩:=De hk
    obtain ⟨t1,t2,t3⟩:=Hr hk
    have g1:e<=bu s e:=tH
    obtain ⟨i1,i2⟩:=ih (bu s e) a (by omega) (ki e2) (by omega) h4
    exact ⟨⟨h3,by simp;omega,t2,t3,⟨fun q=>OZ q t1,fun q=>OZ q i2⟩,i1⟩,by simp⟩
  ·rw[cQ,O0 ha]
   exact ⟨⟨by simp;omega,Nat.le_refl _,by simp,p6 s _,by simp,trivial⟩,by simp⟩
theorem Fi {s:List Nat} (h:(dg s).2=none):MI s (-1) (dg s).1/\(dg s).1≠ []:=by
 have:=ki (s:=s) (a:=0) (Nat.zero_le _)
 exact CC s s.length (bu s 0) (-1) (by omega) this (by omega) h
theorem MD {m:NH} {vb f:NV} {s:List Nat} (hs:s.length<=1000000) (hb:Sl m vb 1 (kR s)) {a:Nat} (ha:a<=s.length) {t:Tm} (g1:NT.get D4.e t=some vb) (g2:NT.get D4.e.a.c t=some (ii a)) (g3:NT.get D4.e.a t=some (ii a)) (g4:NT.get D4.e.f t=some f)
 {Q:Out->Dyn->Prop} (hQ:∀L t',NT.get D4.e (aj L t')=some vb->NT.get D4.e.a (aj L t')=some (ii a)->NT.get D4.e.f (aj L t')=some f->NT.get D4.e.a.c (aj L t')=some (ii ((aR ec s a:Nat):Int))->Q (.exit 0) ⟨aj L t', [],none,m⟩):W Try.prog S0 none rA.loop ⟨t, [],none,m⟩ Q:=by
 have hlen:=hb.len
 rw[List.length_map] at hlen
 refine W.loop (fun k d=>∃t i,d=⟨t, [],none,m⟩/\NT.get D4.e t=some vb/\NT.get D4.e.a t=some (ii a)/\NT.get D4.e.f t=some f/\NT.get D4.e.a.c t=some (ii (i:Nat))/\aR ec s i=aR ec s a/\i+k=s.length) ?_ (s.length - a) _ ⟨_,a,rfl,g1,g3,g4,g2,rfl,by omega⟩
 rintro k d ⟨t,i,rfl,g1,g3,g4,g2,hr,hik⟩
 apply az
 unfold rA
 change wp _ _ _ _ ⟨aj [] t, [],none,m⟩ _
 by_cases hi:i<s.length
 ·obtain ⟨id,off,w,c,a1,a2,a3,a4,a5⟩:=hb.at i (by simpa using hi)
  rw[List.getElem_map] at a5
  have c0:=aX a5 0 (by omega)
  rw[Nat.add_zero] at c0
  have hI:=B3 m s[i]
  cases h1:ec s[i] with
  |false=>
   rw[h1] at hI
   simp (disch:=first|assumption|omega) only[go_sem,seval,g1,g2,hlen,a1,a2,c0,hI.wf']
   refine hQ _ _ ?_ ?_ ?_ ?_
   ·simp (disch:=first|assumption|omega) only[go_sem,seval,g1]
   ·simp (disch:=first|assumption|omega) only[go_sem,seval,g3]
   ·simp (disch:=first|assumption|omega) only[go_sem,seval,g4]
   ·simp (disch:=first|assumption|omega) only[go_sem,seval,g2];rw[←hr,qa hi h1]
  |true=>
   rw[h1] at hI
   simp (disch:=first|assumption|omega) only[go_sem,seval,g1,g2,hlen,a1,a2,c0,hI.wf']
   refine ⟨k - 1,by omega,_,i+1,rfl, ?_, ?_, ?_, ?_,by rw[←hr,gh hi h1],by omega⟩
   ·simp (disch:=first|assumption|omega) only[go_sem,seval,g1]
   ·simp (disch:=first|assumption|omega) only[go_sem,seval,g3]
   ·simp (disch:=first|assumption|omega) only[go_sem,seval,g4]
   ·simp (disch:=first|assumption|omega) only[go_sem,seval]<;>rfl
 ·simp (disch:=first|assumption|omega) only[go_sem,seval,g1,g2,hlen]
  refine hQ _ _ ?_ ?_ ?_ ?_
  ·simp (disch:=first|assumption|omega) only[go_sem,seval,g1]
  ·simp (disch:=first|assumption|omega) only[go_sem,seval,g3]
  ·simp (disch:=first|assumption|omega) only[go_sem,seval,g4]
  ·simp (disch:=first|assumption|omega) only[go_sem,seval,g2];rw[←hr,nE (by omega)]
theorem B5 {s:List Nat} {a:Nat} (h:∀c∈cut s a (aR ec s a),eH c=true):aR eH s a=aR ec s a:=by
 rw[qO] at h
 unfold aR
 congr 1
 generalize s.drop a=l at h ⊢
 induction l with
 |nil=>rfl
 |cons x l ih=>
  rw[List.takeWhile_cons] at h
  rw[List.takeWhile_cons,List.takeWhile_cons]
  cases hx:ec x with
  |false=>
   have:eH x=false:=by cases hd:eH x with
    |false=>rfl
    |true=>rw[Ew x hd] at hx;cases hx
   simp[hx,this]
  |true=>
   rw[hx] at h
   have h0:=h x (by simp)
   rw[h0]
   simp only[if_true,List.length_cons]
   rw[ih fun c hc=>h c (by simp[hc])]
def uV (s:List Nat) (a:Nat):Prop:=aR ec s a≠aR eH s a∨lf (cut s a (aR eH s a)) 0=none
theorem FF {s:List Nat} {a e i:Nat} (h1:a<=i) (h2:i<e) (h3:e<=s.length):(cut s a e).drop (i - a)=s[i]::(cut s a e).drop (i+1 - a):=by
 have hlt:i - a<(cut s a e).length:=by rw[kv h3];omega
 have hg:(cut s a e)[i - a]? =s[i]? :=by
  unfold cut
  rw[List.getElem?_drop,show a+(i - a)=i by omega,List.getElem?_take_of_lt h2]
 rw[List.getElem?_eq_getElem hlt,List.getElem?_eq_getElem (by omega),Option.some.injEq] at hg
 rw[List.drop_eq_getElem_cons hlt,show i - a+1=i+1 - a by omega,hg]
theorem Lk {m:NH} {vb:NV} {s:List Nat} (hs:s.length<=1000000) (hb:Sl m vb 1 (kR s)) {a:Nat} (ha:a<=s.length) {t:Tm} {r tk:D4} {b0 b1 b2 b3 a0 a1 a2 a3 cc:NV}
 (hr:m.get r=some (.cells true [b0,b1,b2,b3])) (htk:m.get tk=some (.cells true [a0,a1,a2,a3])) (orr:am m r) (otk:am m tk)
 (g1:NT.get D4.e t=some vb) (g2:NT.get D4.e.a.c t=some (ii ((aR ec s a:Nat):Int))) (g3:NT.get D4.e.a t=some (ii a)) (g4:NT.get D4.e.f t=some (.ptr r 0)) (g5:NT.get D4.e.b.a t=some (.ptr tk 0)) (g6:NT.get D4.e.b.b t=some (u64 0)) (g7:NT.get D4.e.b.c t=some (ii a)) (g8:NT.get D4.e.a.f t=some cc)
 {Q:Out->Dyn->Prop}
 (hbad:uV s a->∀L t',NT.get D4.e.f (aj L t')=some (.ptr r 0)->NT.get D4.e.a.a (aj L t')=some (ii a)->NT.get D4.e.a.b (aj L t')=some (ii 2)->Q .ret ⟨aj L t', [],none,m.put r (.cells true [a0,a1,a2,a3])⟩)
 (hok:∀n,aR ec s a=aR eH s a->lf (cut s a (aR eH s a)) 0=some n->∀L t',NT.get D4.e.b.a (aj L t')=some (.ptr tk 0)->NT.get D4.e.a.c (aj L t')=some (ii ((aR ec s a:Nat):Int))->NT.get D4.e.a (aj L t')=some (ii a)->NT.get D4.e.f (aj L t')=some (.ptr r 0)->NT.get D4.e.b.b (aj L t')=some (u64 n)->NT.get D4.e.a.f (aj L t')=some cc->Q (.exit 3) ⟨aj L t', [],none,m⟩):
 W Try.prog S0 none rv.loop ⟨t, [],none,m⟩ Q:=by
 have hlen:=hb.len
 rw[List.length_map] at hlen
 have hle:aR ec s a<=s.length:=fI ha
 have hge:a<=aR ec s a:=iW
 generalize hto:aR ec s a=to at hle hge g2 hok
 refine W.loop (fun k d=>∃t i n,d=⟨t, [],none,m⟩/\NT.get D4.e t=some vb/\NT.get D4.e.a.c t=some (ii (to:Nat))/\NT.get D4.e.a t=some (ii a)/\NT.get D4.e.f t=some (.ptr r 0)/\NT.get D4.e.b.a t=some (.ptr tk 0)/\NT.get D4.e.b.b t=some (u64 n)/\NT.get D4.e.b.c t=some (ii (i:Nat))/\NT.get D4.e.a.f t=some cc/\n<18446744073709551616/\a<=i/\(∀c∈(cut s a to).take (i - a),eH c=true)/\lf ((cut s a to).drop (i - a)) n=lf (cut s a to) 0/\i+k=to) ?_ (to - a) _
  ⟨_,a,0,rfl,g1,g2,g3,g4,g5,g6,g7,g8,by omega,Nat.le_refl _,by simp,by simp,by omega⟩
 rintro k d ⟨t,i,n,rfl,g1,g2,g3,g4,g5,g6,g7,g8,hn,hai,hall,hv,hik⟩
 apply az
 unfold rv
 change wp _ _ _ _ ⟨aj [] t, [],none,m⟩ _
 by_cases hi:i<to
 ·obtain ⟨id,off,w,c',x1,x2,x3,x4,x5⟩:=hb.at i (by simp;omega)
  rw[List.getElem_map] at x5
  have c0:=aX x5 0 (by omega)
  rw[Nat.add_zero] at c0
  have hcg:=FF (s:=s) hai hi hle
  have hD:=qX m s[i]
  generalize hc:s[i]=c at c0 hcg hD
  rw[hcg] at hv
  have hmem:c∈cut s a to:=by
   have:c∈(cut s a to).drop (i - a):=by rw[hcg];simp
   exact List.mem_of_mem_drop this
  cases h1:eH c with
  |false=>
   rw[h1] at hD
   simp (disch:=first|assumption|omega|(simp only[aU]<;>omega)) only[go_sem,seval,aa,g1,g2,g3,g4,g5,g6,g7,hlen,x1,x2,c0,hD.wf',hr,htk]
   refine hbad (Or.inl fun h=> ?_) _ _ ?_ ?_ ?_
   ·rw[hto] at h
    have:=Af eH s a c (by rw[←h];exact hmem)
    rw[h1] at this;cases this
   ·simp (disch:=first|assumption|omega) only[go_sem,seval,g4]
   ·simp (disch:=first|assumption|omega) only[go_sem,seval]
   ·simp (disch:=first|assumption|omega) only[go_sem,seval]
  |true=>
   rw[h1] at hD
   have hdd:=h1
   unfold eH at hdd
   rw[decide_eq_true_eq] at hdd
   have e1:((c:Int) - 48) % 256=((c - 48:Nat):Int):=by omega
   have e2:((c - 48:Nat):Int) % 18446744073709551616=((c - 48:Nat):Int):=by omega
   have e3:(18446744073709551615 - ((c - 48:Nat):Int)) % 18446744073709551616=((18446744073709551615 - (c - 48):Nat):Int):=by omega
   have q10:∀x:Nat,x<18446744073709551616->cP .num .quo (.int .u64 (.lit (x:Int))) (.int .u64 (.lit 10))=some (.int .u64 (.lit ((x / 10:Nat):Int))):=by
    intro x hx
    have:=Dh (a:=x) (b:=10) (by omega)
    rw[show x / 10 % 18446744073709551616=x / 10 by omega] at this
    exact this
   have q10:=q10 (18446744073709551615 - (c - 48)) (by omega)
   have hvn:lf (c::(cut s a to).drop (i+1 - a)) n=if 10*n+(c - 48)<18446744073709551616 then lf ((cut s a to).drop (i+1 - a)) (10*n+(c - 48)) else none:=rfl
   by_cases hlt:10*n+(c - 48)<18446744073709551616
   ·rw[hvn,O1 hlt] at hv
    have hle10:n<=(18446744073709551615 - (c - 48)) / 10:=by omega
    have e4:(10*(n:Int) % 18446744073709551616+((c - 48:Nat):Int)) % 18446744073709551616=((10*n+(c - 48):Nat):Int):=by omega
    generalize hqq:(18446744073709551615 - (c - 48)) / 10=qq at q10 hle10
    simp (disch:=first|assumption|omega) only[go_sem,seval,aa,g1,g2,g3,g4,g5,g6,g7,hlen,x1,x2,c0,hD.wf',e1,e2,e3,q10,e4]
    refine ⟨k - 1,by omega,_,i+1,10*n+(c - 48),rfl, ?_, ?_, ?_, ?_, ?_, ?_, ?_, ?_,hlt,by omega, ?_,hv,by omega⟩
    ·simp (disch:=first|assumption|omega) only[go_sem,seval,g1]
    ·simp (disch:=first|assumption|omega) only[go_sem,seval,g2]
    ·simp (disch:=first|assumption|omega) only[go_sem,seval,g3]
    ·simp (disch:=first|assumption|omega) only[go_sem,seval,g4]
    ·simp (disch:=first|assumption|omega) only[go_sem,seval,g5]
    ·simp (disch:=first|assumption|omega) only[go_sem,seval]
    ·simp (disch:=first|assumption|omega) only[go_sem,seval]<;>rfl
    ·simp (disch:=first|assumption|omega) only[go_sem,seval,g8]
    ·intro x hx
     rw[show i+1 - a=i - a+1 by omega,List.take_add_one] at hx
     have hg:(cut s a to)[i - a]? =some c:=by
      have:=congrArg (fun l=>l[0]?) hcg
      simpa using this
     rw[hg] at hx
     simp only[Option.toList_some,List.mem_append,List.mem_singleton] at hx
     rcases hx with hx|rfl
     ·exact hall x hx
     ·exact h1
   ·rw[hvn,O0 hlt] at hv
    have hle10:(18446744073709551615 - (c - 48)) / 10<n:=by omega
    generalize hqq:(18446744073709551615 - (c - 48)) / 10=qq at q10 hle10
    simp (disch:=first|assumption|omega|(simp only[aU]<;>omega)) only[go_sem,seval,aa,g1,g2,g3,g4,g5,g6,g7,hlen,x1,x2,c0,hD.wf',e1,e2,e3,q10,hr,htk]
    refine hbad ?_ _ _ ?_ ?_ ?_
    ·unfold uV
     by_cases h:aR ec s a=aR eH s a
     ·right;rw[←h,hto];exact hv.symm
     ·exact Or.inl h
    ·simp (disch:=first|assumption|omega) only[go_sem,seval,g4]
    ·simp (disch:=first|assumption|omega) only[go_sem,seval]
    ·simp (disch:=first|assumption|omega) only[go_sem,seval]
 ·simp (disch:=first|assumption|omega) only[go_sem,seval,g1,g2,g7,hlen]
  have hia:i - a=(cut s a to).length:=by rw[kv hle];omega
  rw[hia,List.take_length] at hall
  have he:aR eH s a=aR ec s a:=B5 (by rw[hto];exact hall)
  rw[hia,List.drop_length] at hv
  rw[hto] at he
  refine hok n he.symm ?_ _ _ ?_ ?_ ?_ ?_ ?_ ?_
  ·rw[he,←hv];rfl
  ·simp (disch:=first|assumption|omega) only[go_sem,seval,g5]
  ·simp (disch:=first|assumption|omega) only[go_sem,seval,g2]
  ·simp (disch:=first|assumption|omega) only[go_sem,seval,g3]
  ·simp (disch:=first|assumption|omega) only[go_sem,seval,g4]
  ·simp (disch:=first|assumption|omega) only[go_sem,seval,g6]
  ·simp (disch:=first|assumption|omega) only[go_sem,seval,g8]
theorem Mn {m:NH} {t:Tm} {r tk:D4} {b0 b1 b2 b3 a0 a1 a2 a3:NV} {c a:Nat} (ha':a<=1000000)
 (hr:m.get r=some (.cells true [b0,b1,b2,b3])) (htk:m.get tk=some (.cells true [a0,a1,a2,a3])) (orr:am m r) (otk:am m tk) (hrt:r≠tk)
 (g1:NT.get D4.e.c.a t=some (.str dU)) (g2:NT.get D4.e.c.b t=some (ii 0)) (g3:NT.get D4.e.a t=some (ii a)) (g4:NT.get D4.e.f t=some (.ptr r 0)) (g5:NT.get D4.e.b.a t=some (.ptr tk 0)) (g6:NT.get D4.e.a.f t=some (u8 c))
 {Q:Out->Dyn->Prop}
 (hok:c∈dU->∀L t' m',m'.get r=some (.cells true [ii 3,.str [c],a2,a3])->Chg [r,tk] m m'->NT.get D4.e.f (aj L t')=some (.ptr r 0)->NT.get D4.e.a.a (aj L t')=some (ii ((a:Int)+1))->NT.get D4.e.a.b (aj L t')=some (ii 0)->Q .ret ⟨aj L t', [],none,m'⟩)
 (hbad:c∉dU->∀L t',NT.get D4.e.b.a (aj L t')=some (.ptr tk 0)->NT.get D4.e.a (aj L t')=some (ii a)->NT.get D4.e.f (aj L t')=some (.ptr r 0)->Q (.exit 5) ⟨aj L t', [],none,m⟩):
 W Try.prog S0 none qK.loop ⟨t, [],none,m⟩ Q:=by
 have hsl:dU.length=13:=rfl
 refine W.loop (fun k d=>∃t i,d=⟨t, [],none,m⟩/\NT.get D4.e.c.a t=some (.str dU)/\NT.get D4.e.c.b t=some (ii (i:Nat))/\NT.get D4.e.a t=some (ii a)/\NT.get D4.e.f t=some (.ptr r 0)/\NT.get D4.e.b.a t=some (.ptr tk 0)/\NT.get D4.e.a.f t=some (u8 c)/\c∉dU.take i/\i+k=13) ?_ 13 _ ⟨_,0,rfl,g1,g2,g3,g4,g5,g6,by simp,by omega⟩
 rintro k d ⟨t,i,rfl,g1,g2,g3,g4,g5,g6,hno,hik⟩
 apply az
 unfold qK
 change wp _ _ _ _ ⟨aj [] t, [],none,m⟩ _
 rw[←aa m]
 by_cases hi:i<13
 ·have hb:dU[i]? =some dU[i]:=List.getElem?_eq_getElem (by omega)
  by_cases he:dU[i]=c
  ·rw[he] at hb
   have e1:List.drop i (List.take ((i:Int)+1).toNat dU)= [c]:=by
    rw[show ((i:Int)+1).toNat=i+1 by omega,List.take_add_one,hb]
    simp only[Option.toList_some]
    rw[List.drop_append_of_le_length (by rw[List.length_take];omega),List.drop_take_self];rfl
   simp (disch:=first|assumption|omega|(simp only[aU]<;>omega)) only[go_sem,seval,g1,g2,g3,g4,g5,g6,hb,hsl,e1,hr,htk,Ca]
   refine hok (by rw[←he];exact List.getElem_mem _) _ _ _ ?_ ?_ ?_ ?_ ?_
   ·exact (aJ orr).trans au
   ·exact (aF rfl).weak (by simp[aE])
   ·simp (disch:=first|assumption|omega) only[go_sem,seval,g4]
   ·simp (disch:=first|assumption|omega) only[go_sem,seval]
   ·simp (disch:=first|assumption|omega) only[go_sem,seval]
  ·have hne:((dU[i]:Int)=(c:Int))=False:=by simp;omega
   simp (disch:=first|assumption|omega) only[go_sem,seval,g1,g2,g3,g4,g5,g6,hb,hsl]
   refine ⟨k - 1,by omega,_,i+1,by rw[aa], ?_, ?_, ?_, ?_, ?_, ?_, ?_,by omega⟩
   ·simp (disch:=first|assumption|omega) only[go_sem,seval,g1]
   ·simp (disch:=first|assumption|omega) only[go_sem,seval]<;>rfl
   ·simp (disch:=first|assumption|omega) only[go_sem,seval,g3]
   ·simp (disch:=first|assumption|omega) only[go_sem,seval,g4]
   ·simp (disch:=first|assumption|omega) only[go_sem,seval,g5]
   ·simp (disch:=first|assumption|omega) only[go_sem,seval,g6]
   ·rw[List.take_add_one,hb]
    simp only[Option.toList_some,List.mem_append,List.mem_singleton,not_or]
    exact ⟨hno,fun q=>he q.symm⟩
 ·simp (disch:=first|assumption|omega) only[go_sem,seval,g1,g2,hsl]
  rw[aa]
  refine hbad ?_ _ _ ?_ ?_ ?_
  ·have:i=13:=by omega
   subst this
   exact hno
  ·simp (disch:=first|assumption|omega) only[go_sem,seval,g5]
  ·simp (disch:=first|assumption|omega) only[go_sem,seval,g3]
  ·simp (disch:=first|assumption|omega) only[go_sem,seval,g4]
theorem Ch (s:List Nat) (a e:Nat):((kR s).drop a).take (e - a)=kR (cut s a e):=by
 unfold cut
 rw[List.drop_take]
 simp[List.map_take,List.map_drop]
theorem kM {s:List Nat} {a c:Nat} (hbs:s[a]? =some c) (hD:eH c=true):zz (cut s a (aR eH s a))=if 1<aR eH s a - a/\c=48 then none else lf (cut s a (aR eH s a)) 0:=by
 have ha:=(List.getElem?_eq_some_iff.mp hbs).1
 obtain ⟨l,hl⟩:=GM hbs hD
 have hn:=kv (s:=s) (a:=a) (fI (p:=eH) (s:=s) (a:=a) (by omega))
 unfold zz
 rw[hn]
 have e:((cut s a (aR eH s a))[0]? =some 48)↔(c=48):=by rw[hl];simp
 by_cases h:1<aR eH s a - a/\c=48
 ·rw[O1 h,O1 ⟨h.1,e.mpr h.2⟩]
 ·rw[O0 h,O0 fun q=>h ⟨q.1,e.mp q.2⟩]
theorem km {s:List Nat} {a c:Nat} (hbs:s[a]? =some c) (hD:eH c=true):eQ s a=(match zz (cut s a (aR eH s a)) with|some n=>if aR ec s a=aR eH s a then some (2, [],n,aR eH s a) else none|none=>none):=by
 have hL:um c=false:=by
  unfold eH at hD;rw[decide_eq_true_eq] at hD
  unfold um;rw[decide_eq_false_iff_not];omega
 unfold eQ;rw[hbs];simp only[hL,hD];rfl
theorem rL {s:List Nat} {a c:Nat} (hbs:s[a]? =some c) (hD:eH c=true) (h:uV s a):eQ s a=none:=by
 rw[km hbs hD,kM hbs hD]
 by_cases h1:1<aR eH s a - a/\c=48
 ·rw[O1 h1]
 ·rw[O0 h1]
  rcases h with h|h
  ·cases lf (cut s a (aR eH s a)) 0 with
   |none=>rfl
   |some n=>simp[h]
  ·rw[h]
theorem Ea (m:NH) {vb:NV} {s:List Nat} (hs:s.length<=1000000) (h256:∀c∈s,c<256) (hb:Sl m vb 1 (kR s)) {a:Nat} (ha:a<s.length):
 ∃v m',bp Try.prog S0 83 [vb,ii a] m v m'/\(∃(k0:Int) (t0:List Nat) (n0 p:Int),v= .tup [.agg [ii k0,.str t0,.int .u64 (.lit n0),ii a],ii p,ii (if (eQ s a).isSome then 0 else 2)]/\∀k t n e,eQ s a=some (k,t,n,e)->k0=k/\t0=t/\n0=n/\p=e)/\Chg [] m m':=by
 refine WF.ex fun K hK=> ?_
 refine WF.of_wpG (fun _=>rfl) yv (L:= [(.a .e,ii a),(.e,vb)]) rfl ?_
 unfold GW
 simp (disch:=first|assumption|omega) only[go_sem,seval]
 generalize hM0:hp _ 1 m=M0
 have hC0:Chg [] m M0:=bh hM0 rfl
 have r0:M0.get (na m 0)=some (.cells true [ii 0,.str [],u64 0,ii 0]):=bM hM0
 have or0:am M0 (na m 0):=bL hM0 (by omega)
 have hb0:=hb.chg hC0 fun _ _=>by simp
 refine MD hs hb0 (Nat.le_of_lt ha) (by simp only[go_sem,seval]) (by simp only[go_sem,seval]) (by simp only[go_sem,seval]) (f:= .ptr (na m 0) 0) (by simp only[go_sem,seval]) ?_
 intro L t g1 g2 g3 g4
 rw[←aa M0]
 obtain ⟨id,off,w,c',x1,x2,x3,x4,x5⟩:=hb0.at a (by simpa using ha)
 rw[List.getElem_map] at x5
 have c0:=aX x5 0 (by omega)
 rw[Nat.add_zero] at c0
 have hbs:s[a]? =some s[a]:=List.getElem?_eq_getElem ha
 have hc256:=h256 s[a] (List.getElem_mem ha)
 generalize hc:s[a]=c at c0 hbs hc256
 have hd:∀m,bp Try.prog S0 132 [u8 c] m (.bool (eH c)) m:=fun m=>qX m c
 have hl:∀m,bp Try.prog S0 133 [u8 c] m (.bool (um c)) m:=fun m=>nI m c
 generalize hT:aj L t=T at g1 g2 g3 g4
 change wp _ _ _ _ ⟨aj [] T, [],none,_⟩ _
 have na_ne:na m 0≠na M0 0:=or0.ne 0
 have na_ne':na M0 0≠na m 0:=fun e=>or0.ne 0 e.symm
 have chF:∀(M1:NH) {MF:NH} {T1 T2:List D4},Chg T1 M0 M1->Chg T2 M1 MF->(∀i∈T1++T2,i=na m 0∨i=na M0 0)->Chg [] m MF:=by
  intro M1 MF T1 T2 h1 h2 hi
  refine (hC0.weak (T:=T1++T2) (by simp)).trans ((h1.weak (T:=T1++T2) (by intro i hi _;simp[hi])).trans h2 (by intro i hi _;simp[hi])) (fun _ h _=>h) |>.weak ?_
  intro i hi' ho
  rcases hi i hi' with rfl|rfl
  ·exact OZ ho aB
  ·exact OZ (hC0.old ho) aB
 cases hD:eH c with
 |true=>
  rw[hD] at hd
  simp (disch:=first|assumption|omega|(simp only[aU]<;>omega)) only[go_sem,seval,g1,g2,g3,g4,x1,x2,c0,(hd _).wf']
  generalize hM1:hp _ 1 M0=M1
  have hC1:Chg [] M0 M1:=bh hM1 rfl
  have p0:=(hC1.get or0 (by simp)).trans r0
  have op0:=hC1.old or0
  have p1:M1.get (na M0 0)=some (.cells true [ii 0,.str [],u64 0,ii a]):=bM hM1
  have op1:am M1 (na M0 0):=bL hM1 (by omega)
  have hb1:=hb0.chg hC1 fun _ _=>by simp
  refine Lk hs hb1 (Nat.le_of_lt ha) p0 p1 op0 op1 (cc:=u8 c) ?_ ?_ ?_ ?_ ?_ ?_ ?_ ?_ ?_ ?_
  ·simp (disch:=first|assumption|omega) only[go_sem,seval,g1]
  ·simp (disch:=first|assumption|omega) only[go_sem,seval,g4]
  ·simp (disch:=first|assumption|omega) only[go_sem,seval,g2]
  ·simp (disch:=first|assumption|omega) only[go_sem,seval,g3]
  ·simp (disch:=first|assumption|omega) only[go_sem,seval]
  ·simp (disch:=first|assumption|omega) only[go_sem,seval]<;>rfl
  ·simp (disch:=first|assumption|omega) only[go_sem,seval,g2]
  ·simp (disch:=first|assumption|omega) only[go_sem,seval]
  ·intro hbn L' t' k1 k2 k3
   generalize aj L' t'=T' at k1 k2 k3
   rw[show M1.put (na m 0) (.cells true [ii 0,.str [],u64 0,ii a])=hp [(.o (na m 0),.cells true [ii 0,.str [],u64 0,ii a])] 0 M1 from by rw[←fA op0,aa]]
   change uq _ K .ret ⟨aj [] T', [],none,_⟩
   have T:eQ s a=none:=rL hbs hD hbn
   simp (disch:=first|assumption|omega) only[go_sem,seval,k1,k2,k3]
   refine hK _ _ ⟨⟨_,_,_,_,by rw[T];rfl, ?_⟩,chF M1 hC1 (aF rfl) (by simp[aE])⟩
   intro k t n e he;rw[T] at he;cases he
  ·intro n hrr hv L' t' k1 k2 k3 k4 k5 k6
   generalize aj L' t'=T' at k1 k2 k3 k4 k5 k6
   rw[←aa M1]
   change wp _ _ _ _ ⟨aj [] T', [],none,_⟩ _
   have hge:a<=aR ec s a:=iW
   have hle:aR ec s a<=s.length:=fI (Nat.le_of_lt ha)
   by_cases h48:c=48
   ·by_cases hgt:a+1<aR ec s a
    ·have T:eQ s a=none:=by rw[km hbs hD,kM hbs hD,O1 ⟨by omega,h48⟩]
     simp (disch:=first|assumption|omega|(simp only[aU]<;>omega)) only[go_sem,seval,k1,k2,k3,k4,k5,k6,p0,p1]
     refine hK _ _ ⟨⟨_,_,_,_,by rw[T];rfl, ?_⟩,chF M1 hC1 (aF rfl) (by simp[aE])⟩
     intro k t n e he;rw[T] at he;cases he
    ·have T:eQ s a=some (2, [],n,aR eH s a):=by rw[km hbs hD,kM hbs hD,O0 (by omega),hv];simp[hrr]
     simp (disch:=first|assumption|omega|(simp only[aU]<;>omega)) only[go_sem,seval,k1,k2,k3,k4,k5,k6,p0,p1,na_ne]
     refine hK _ _ ⟨⟨_,_,_,_,by rw[T];rfl, ?_⟩,chF M1 hC1 (aF rfl) (by simp[aE])⟩
     intro k t n e he;rw[T] at he;cases he
     exact ⟨rfl,rfl,rfl,by rw[hrr]⟩
   ·have T:eQ s a=some (2, [],n,aR eH s a):=by rw[km hbs hD,kM hbs hD,O0 (by omega),hv];simp[hrr]
    simp (disch:=first|assumption|omega|(simp only[aU]<;>omega)) only[go_sem,seval,k1,k2,k3,k4,k5,k6,p0,p1,na_ne]
    refine hK _ _ ⟨⟨_,_,_,_,by rw[T];rfl, ?_⟩,chF M1 hC1 (aF rfl) (by simp[aE])⟩
    intro k t n e he;rw[T] at he;cases he
    exact ⟨rfl,rfl,rfl,by rw[hrr]⟩
 |false=>
  rw[hD] at hd
  cases hL:um c with
  |true=>
   rw[hL] at hl
   simp (disch:=first|assumption|omega|(simp only[aU]<;>omega)) only[go_sem,seval,g1,g2,g3,g4,x1,x2,c0,(hd _).wf',(hl _).wf']
   generalize hM1:hp _ 1 M0=M1
   have hC1:Chg [] M0 M1:=bh hM1 rfl
   have op0:=hC1.old or0
   have p1:M1.get (na M0 0)=some (.cells true [ii 0,.str [],u64 0,ii a]):=bM hM1
   have op1:am M1 (na M0 0):=bL hM1 (by omega)
   have hb1:=hb0.chg hC1 fun _ _=>by simp
   have p0:=(hC1.get or0 (by simp)).trans r0
   have hge:a<=aR ec s a:=iW
   have hle:aR ec s a<=s.length:=fI (Nat.le_of_lt ha)
   refine xz (a:=a) (b:=aR ec s a) hb1 hge (by simpa using hle) ?_ ?_ ?_
   ·intro K;simp (disch:=first|assumption|omega) only[go_sem,seval]
   ·intro d K hd;simp (disch:=first|assumption|omega) only[go_sem,seval]
   intro v' hv' _
   rw[Ch] at hv'
   have hbt:=hv'.bts (fun c hc=>h256 c (List.mem_of_mem_take (List.mem_of_mem_drop hc)))
   rw[←aa M1]
   have hbt:Fp (hp [] 0 M1) v'= .val (.str (cut s a (aR ec s a))):=by rw[aa];exact hbt
   simp (disch:=first|assumption|omega|(simp only[aU]<;>omega)) only[go_sem,seval,g1,g2,g3,g4,hbt,p1]
   generalize hM2:hp _ 0 M1=M2
   have hC2:Chg [na M0 0] M1 M2:=by rw[←hM2];exact (aF rfl).weak (by simp[aE])
   have s0:=(hC2.get op0 (by simpa using na_ne)).trans p0
   have s1:M2.get (na M0 0)=some (.cells true [ii 1,.str (cut s a (aR ec s a)),u64 0,ii a]):=by rw[←hM2];simp (config:={maxSteps:=1000000}) (disch:=first|assumption|omega|(apply bW;omega)|(apply bJ;assumption)|(simp only[aU]<;>omega)) only[go_sem,seval]
   have os0:=hC2.old op0
   have os1:=hC2.old op1
   obtain ⟨wv,M3,hw,rfl,hC3⟩:=Ib M2 (cut s a (aR ec s a))
   have y0:=(hC3.get os0 (by simp)).trans s0
   have y1:=(hC3.get os1 (by simp)).trans s1
   have oy0:=hC3.old os0
   have oy1:=hC3.old os1
   have hC13:Chg [na M0 0] M0 M3:=(hC1.weak (T:= [na M0 0]) (by simp)).trans ((hC2.weak (T:= [na M0 0]) (by simp)).trans (hC3.weak (T:= [na M0 0]) (by simp)) (fun _ h _=>h)) (fun _ h _=>h)
   have TT:eQ s a=(if cut s a (aR ec s a)∈fS then some (4,cut s a (aR ec s a),0,aR ec s a) else if (cut s a (aR ec s a)).length<=16 then some (1,cut s a (aR ec s a),0,aR ec s a) else none):=by
    unfold eQ;rw[hbs];simp only[hL];rfl
   by_cases hwd:cut s a (aR ec s a)∈fS
   ·rw[O3 hwd] at hw
    rw[O1 hwd] at TT
    simp (config:={maxSteps:=1000000}) (disch:=first|assumption|omega|(apply bW;omega)|(apply bJ;assumption)|(simp only[aU]<;>omega)) only[go_sem,seval,hw.wf,g1,g2,g3,g4,y0,y1]
    refine hK _ _ ⟨⟨_,_,_,_,by rw[TT];rfl, ?_⟩,chF M3 hC13 (aF rfl) (by simp[aE])⟩
    intro k t n e he;rw[TT] at he;cases he
    exact ⟨rfl,rfl,rfl,rfl⟩
   ·rw[O2 hwd] at hw
    rw[O0 hwd] at TT
    by_cases h16:(cut s a (aR ec s a)).length<=16
    ·rw[O1 h16] at TT
     simp (config:={maxSteps:=1000000}) (disch:=first|assumption|omega|(apply bW;omega)|(apply bJ;assumption)|(simp only[aU]<;>omega)) only[go_sem,seval,hw.wf,g1,g2,g3,g4,y0,y1]
     refine hK _ _ ⟨⟨_,_,_,_,by rw[TT];rfl, ?_⟩,chF M3 hC13 (aF rfl) (by simp[aE])⟩
     intro k t n e he;rw[TT] at he;cases he
     exact ⟨rfl,rfl,rfl,rfl⟩
    ·rw[O0 h16] at TT
     simp (config:={maxSteps:=1000000}) (disch:=first|assumption|omega|(apply bW;omega)|(apply bJ;assumption)|(simp only[aU]<;>omega)) only[go_sem,seval,hw.wf,g1,g2,g3,g4,y0,y1]
     refine hK _ _ ⟨⟨_,_,_,_,by rw[TT];rfl, ?_⟩,chF M3 hC13 (aF rfl) (by simp[aE])⟩
     intro k t n e he;rw[TT] at he;cases he
  |false=>
   rw[hL] at hl
   simp (disch:=first|assumption|omega|(simp only[aU]<;>omega)) only[go_sem,seval,g1,g2,g3,g4,x1,x2,c0,(hd _).wf',(hl _).wf']
   generalize hM1:hp _ 1 M0=M1
   have hC1:Chg [] M0 M1:=bh hM1 rfl
   have p0:=(hC1.get or0 (by simp)).trans r0
   have op0:=hC1.old or0
   have p1:M1.get (na M0 0)=some (.cells true [ii 0,.str [],u64 0,ii a]):=bM hM1
   have op1:am M1 (na M0 0):=bL hM1 (by omega)
   have T:eQ s a=if c∈dU then some (3, [c],0,a+1) else none:=by unfold eQ;rw[hbs];simp[hL,hD]
   refine Mn (c:=c) (a:=a) (by omega) p0 p1 op0 op1 na_ne ?_ ?_ ?_ ?_ ?_ ?_ ?_ ?_
   ·simp (disch:=first|assumption|omega) only[go_sem,seval]<;>rfl
   ·simp (disch:=first|assumption|omega) only[go_sem,seval]
   ·simp (disch:=first|assumption|omega) only[go_sem,seval,g2]
   ·simp (disch:=first|assumption|omega) only[go_sem,seval,g3]
   ·simp (disch:=first|assumption|omega) only[go_sem,seval]
   ·simp (disch:=first|assumption|omega) only[go_sem,seval]
   ·intro hm L' t' m' q0 hCm k1 k2 k3
    rw[O1 hm] at T
    generalize aj L' t'=T' at k1 k2 k3
    change uq _ K .ret ⟨aj [] T', [],none,m'⟩
    simp (disch:=first|assumption|omega) only[go_sem,seval,k1,k2,k3,q0]
    refine hK _ _ ⟨⟨_,_,_,_,by rw[T];rfl, ?_⟩,chF M1 hC1 hCm (by simp)⟩
    intro k t n e he;rw[T] at he;cases he
    exact ⟨rfl,rfl,rfl,by omega⟩
   ·intro hm L' t' k1 k2 k3
    rw[O0 hm] at T
    generalize aj L' t'=T' at k1 k2 k3
    rw[←aa M1]
    change wp _ _ _ _ ⟨aj [] T', [],none,_⟩ _
    simp (disch:=first|assumption|omega|(simp only[aU]<;>omega)) only[go_sem,seval,k1,k2,k3,p0,p1]
    refine hK _ _ ⟨⟨_,_,_,_,by rw[T];rfl, ?_⟩,chF M1 hC1 (aF rfl) (by simp[aE])⟩
    intro k t n e he;rw[T] at he;cases he
theorem DS {m M0:NH} {vb:NV} {s:List Nat} (hs:s.length<=16384) (h256:∀c∈s,c<256) (hb:Sl m vb 1 (kR s)) (hCm:Chg [] m M0) {t:Tm}
 (g1:NT.get D4.e t=some vb) (g2:NT.get D4.e.a.a t=some .nils) (g3:NT.get D4.e.a.b t=some (ii ((bu s 0:Nat):Int))) {Q:Out->Dyn->Prop}
 (hbad:∀a,(dg s).2=some a->∀L t' M,Chg [] m M->NT.get D4.e.b (aj L t')=some .nils->NT.get D4.e.c (aj L t')=some (ii a)->NT.get D4.e.f (aj L t')=some (ii 2)->Q .ret ⟨aj L t', [],none,M⟩)
 (hok:∀T,dg s=(T++ [⟨5, [],0,s.length⟩],none)->∀L t' M u,Chg [] m M->bf m M u 4 (T.map Tok.l)->NT.get D4.e (aj L t')=some vb->NT.get D4.e.a.a (aj L t')=some u->Q (.exit 0) ⟨aj L t', [],none,M⟩):
 W Try.prog S0 none qw.loop ⟨t, [],none,M0⟩ Q:=by
 have hsk0:bu s 0<=s.length:=ki (Nat.zero_le _)
 refine W.loop (fun k d=>∃t M i L u,d=⟨t, [],none,M⟩/\NT.get D4.e t=some vb/\NT.get D4.e.a.a t=some u/\NT.get D4.e.a.b t=some (ii (i:Nat))/\i<=s.length/\s.length<=i+k/\Chg [] m M/\bf m M u 4 (L.map Tok.l)/\dg s=(L++(cQ s (k+1) i).1,(cQ s (k+1) i).2)) ?_ s.length _
  ⟨_,M0,bu s 0, [],.nils,rfl,g1,g2,g3,hsk0,by omega,hCm,bf.nil,rfl⟩
 rintro k d ⟨t,M,i,L,u,rfl,g1,g2,g3,hi,hik,hC,hu,hT⟩
 apply az
 unfold qw
 change wp _ _ _ _ ⟨aj [] t, [],none,M⟩ _
 rw[←aa M]
 have hLl:L.length<=s.length+1:=by
  have h:=lh s (s.length+1) (bu s 0)
  have h2:(dg s).1.length=_:=congrArg (fun x=>x.1.length) hT
  rw[List.length_append] at h2
  have h3:(dg s).1.length<=s.length+1:=h
  omega
 have hbM:=hb.chg hC fun _ _=>by simp
 have hlen:=hbM.len
 rw[show (kR s).length=s.length by simp] at hlen
 by_cases hlt:i<s.length
 ·obtain ⟨k,rfl⟩:∃k',k=k'+1:=⟨k - 1,by omega⟩
  have hTs:cQ s (k+1+1) i=(match eQ s i with
   |none=>([],some i)
   |some (kd,t,n,e)=>(⟨kd,t,n,i⟩::(cQ s (k+1) (bu s e)).1,(cQ s (k+1) (bu s e)).2)):=by
   rw[cQ,O1 hlt]
  obtain ⟨v,M2,hr,⟨k0,t0,n0,p,rfl,htk⟩,hC2⟩:=Ea (hp [] 0 M) (by omega) h256 (by rw[aa];exact hbM) hlt
  have hC2:Chg [] M M2:=by rw[aa] at hC2;exact hC2
  cases hk:eQ s i with
  |none=>
   rw[hk] at hr
   have hr:bp Try.prog S0 83 [vb,ii i] (hp [] 0 M) (.tup [.agg [ii k0,.str t0,.int .u64 (.lit n0),ii i],ii p,ii 2]) M2:=hr
   rw[hTs,hk] at hT
   simp (disch:=first|assumption|omega|(simp only[aU]<;>omega)) only[go_sem,seval,g1,g2,g3,hlen,hr.wf]
   refine hbad i (by rw[hT]) _ _ _ ((hC.trans hC2 (by simp)).trans (aF rfl) (by simp[aE])) ?_ ?_ ?_
   ·simp (disch:=first|assumption|omega) only[go_sem,seval]
   ·simp (disch:=first|assumption|omega) only[go_sem,seval]
   ·simp (disch:=first|assumption|omega) only[go_sem,seval]
  |some x=>
   obtain ⟨kd,tx,n,e⟩:=x
   rw[hk] at hr
   obtain ⟨e0,e1,e2,e3⟩:=htk kd tx n e hk
   rw[e0,e1,e2,e3] at hr
   have hr:bp Try.prog S0 83 [vb,ii i] (hp [] 0 M) (.tup [.agg [ii kd,.str tx,.int .u64 (.lit (n:Int)),ii i],ii e,ii 0]) M2:=hr
   obtain ⟨l1,l2⟩:=De hk
   simp (disch:=first|assumption|omega|(simp only[aU]<;>omega)) only[go_sem,seval,g1,g2,g3,hlen,hr.wf]
   generalize hM3:hp _ 2 M2=M3
   have hC3:Chg [] M2 M3:=bh hM3 rfl
   have n1:M3.get (na M2 1)=some (.cells true (Tok.l ⟨kd,tx,n,i⟩)):=bM hM3
   have on1:am M3 (na M2 1):=bL hM3 (by omega)
   have hCC:Chg [] m M3:=hC.trans (hC2.trans hC3 (by simp)) (by simp)
   refine tD (hu.chg (hC2.trans hC3 fun _ h _=>h) fun _ _=>by simp) n1 on1 rfl (fun i hi=>hCC.old hi) (by simp;omega) (by simp;omega) ?_
   intro u' M5 hu' hC5
   have hC6:Chg [] m M5:=(hCC.weak (T:=ids u) (by simp)).trans hC5 (fun _ h _=>h) |>.weak (by intro j hj ho;exact OZ ho (hu.new j hj))
   have hsk:bp Try.prog S0 82 [vb,ii e] (hp [] 0 M5) (ii ((bu s e:Nat):Int)) (hp [] 0 M5):=B1 _ (by omega) (by rw[aa];exact hb.chg hC6 fun _ _=>by simp) l2
   simp (disch:=first|assumption|omega) only[go_sem,seval,g1,g2,g3,hsk.wf']
   have hge:e<=bu s e:=tH
   refine ⟨k,by omega,_,M5,bu s e,L++ [⟨kd,tx,n,i⟩],u',by rw[aa], ?_, ?_, ?_,ki l2,by omega,hC6, ?_, ?_⟩
   ·simp (disch:=first|assumption|omega) only[go_sem,seval,g1]
   ·simp (disch:=first|assumption|omega) only[go_sem,seval]
   ·simp (disch:=first|assumption|omega) only[go_sem,seval]
   ·rw[List.map_append];exact hu'
   ·rw[hT,hTs,hk];simp
 ·have hTs:cQ s (k+1) i=([⟨5, [],0,s.length⟩],none):=by rw[cQ,O0 hlt]
  rw[hTs] at hT
  simp (disch:=first|assumption|omega) only[go_sem,seval,g1,g2,g3,hlen]
  rw[aa]
  refine hok L hT _ _ _ u hC hu ?_ ?_
  ·simp (disch:=first|assumption|omega) only[go_sem,seval,g1]
  ·simp (disch:=first|assumption|omega) only[go_sem,seval,g2]
theorem Ba (m:NH) {v:NV} {b:List Nat} (hv:Sl m v 1 (kR b)) (hb:∀c∈b,c<256):
 ∃r m',bp Try.prog S0 45 [v] m r m'/\(if 16384<b.length then r= .tup [.nils,ii 0,ii 3] else (match (dg b).2 with|some a=>r= .tup [.nils,ii a,ii 2]|none=>∃u,r= .tup [u,ii b.length,ii 0]/\bf m m' u 4 ((dg b).1.map Tok.l)))/\Chg [] m m':=by
 refine WF.ex fun K hK=> ?_
 refine WF.of_wpG (fun _=>rfl) xq (L:= [(.e,v)]) rfl ?_
 unfold I8
 have hlen:=hv.len
 rw[show (kR b).length=b.length by simp] at hlen
 by_cases h1:16384<b.length
 ·simp (disch:=first|assumption|omega) only[go_sem,seval,hlen,aa]
  refine hK _ _ ⟨by rw[O1 h1],Chg.refl m⟩
 ·have hs0:bp Try.prog S0 82 [v,ii 0] m (ii ((bu b 0:Nat):Int)) m:=B1 m (by omega) hv (a:=0) (Nat.zero_le _)
  simp (disch:=first|assumption|omega) only[go_sem,seval,hlen,aa,hs0.wf']
  refine DS (m:=m) (s:=b) (vb:=v) (by omega) hb hv (Chg.refl m) ?_ ?_ ?_ ?_ ?_
  ·simp (disch:=first|assumption|omega) only[go_sem,seval]
  ·simp (disch:=first|assumption|omega) only[go_sem,seval]
  ·simp (disch:=first|assumption|omega) only[go_sem,seval]
  ·intro a he L t M hC g1 g2 g3
   generalize aj L t=T at g1 g2 g3
   change uq _ K .ret ⟨aj [] T, [],none,M⟩
   simp (disch:=first|assumption|omega) only[go_sem,seval,g1,g2,g3]
   refine hK _ _ ⟨by rw[O0 h1,he],hC⟩
  ·intro Tl hT L t M u hC hu g1 g2
   generalize aj L t=T at g1 g2
   change wp _ _ _ _ ⟨aj [] T, [],none,M⟩ _
   rw[←aa M]
   have hlen:=(hv.chg hC fun _ _=>by simp).len
   rw[show (kR b).length=b.length by simp] at hlen
   have hTl:Tl.length<=b.length+1:=by
    have h:=lh b (b.length+1) (bu b 0)
    have h2:(dg b).1.length=_:=congrArg (fun x=>x.1.length) hT
    rw[List.length_append] at h2
    have h3:(dg b).1.length<=b.length+1:=h
    omega
   simp (disch:=first|assumption|omega|(simp only[aU]<;>omega)) only[go_sem,seval,g1,g2,hlen]
   generalize hM3:hp _ 1 M=M3
   have hC3:Chg [] M M3:=bh hM3 rfl
   have n1:M3.get (na M 0)=some (.cells true (Tok.l ⟨5, [],0,b.length⟩)):=bM hM3
   have on1:am M3 (na M 0):=bL hM3 (by omega)
   have hCC:Chg [] m M3:=hC.trans hC3 (by simp)
   refine tD (hu.chg hC3 fun _ _=>by simp) n1 on1 rfl (fun i hi=>hCC.old hi) (by simp;omega) (by simp;omega) ?_
   intro u' M5 hu' hC5
   have hC6:Chg [] m M5:=(hCC.weak (T:=ids u) (by simp)).trans hC5 (fun _ h _=>h) |>.weak (by intro j hj ho;exact OZ ho (hu.new j hj))
   have hlen5:=(hv.chg hC6 fun _ _=>by simp).len
   rw[show (kR b).length=b.length by simp] at hlen5
   simp (disch:=first|assumption|omega) only[go_sem,seval,g1,g2,hlen5]
   rw[aa]
   refine hK _ _ ⟨?_,hC6⟩
   rw[O0 h1,hT]
   exact ⟨u',rfl,by rw[List.map_append];exact hu'⟩
structure Rs where
 (a e b:Nat)
def aH (L:List Tok) (a:Nat):Tok:=(L[a]?).getD ⟨0, [],0,0⟩
def bj (e:Nat) (s:Rs):Rs:=if s.e=0 then ⟨s.a,e,s.a⟩ else s
def ai (s:Rs):Rs:=⟨s.a+1,s.e,s.b⟩
def pV:List Nat->Nat
 |c::_=>if um c then 4 else 3
 | []=>3
def aT (L:List Tok) (w:List Nat) (s:Rs):Bool:=decide (s.e=0/\(aH L s.a).k=pV w/\(aH L s.a).t=w)
def aW (L:List Tok) (w:List Nat) (s:Rs):Rs:=if aT L w s then ai s else bj 2 s
def aY (L:List Tok) (s:Rs):List Nat×Rs:=if s.e≠0∨(aH L s.a).k≠1 then ([],bj 2 s) else ((aH L s.a).t,ai s)
structure RD (m:NH) (r:D4) (vl:NV) (s:Rs) (rest:List NV):Prop where
 g:m.get r=some (.cells true (vl::ii s.a::ii s.e::ii s.b::rest))
 o:am m r
structure RC (m0:NH) (L:List Tok) (vl:NV) (r:D4):Prop where
 sl:Sl m0 vl 4 (L.map Tok.l)
 len:L.length<=20000
 no:¬am m0 r
theorem RD.chg {m m':NH} {r:D4} {vl:NV} {s:Rs} {rest:List NV} {S:List D4} (h:RD m r vl s rest) (hC:Chg S m m') (hr:r∉S):RD m' r vl s rest:=⟨(hC.get h.o hr).trans h.g,hC.old h.o⟩
theorem RC.chg {m0 m m':NH} {L:List Tok} {vl:NV} {r:D4} (h:RC m0 L vl r) (h0:Chg [] m0 m) (hC:Chg [r] m m'):Chg [] m0 m':=h0.trans hC fun i hi ho=>by
 have hi:=one hi;subst hi;exact OZ ho h.no
theorem bB {L:List Tok} {w:List Nat} {s:Rs} (h:aT L w s=true):s.e=0/\s.a<L.length:=by
 obtain ⟨h1,h2,h3⟩:=of_decide_eq_true h
 refine ⟨h1, ?_⟩
 rcases Nat.lt_or_ge s.a L.length with q|q
 ·exact q
 ·rw[aH,List.getElem?_eq_none q] at h2
  have:pV w≠0:=by unfold pV;split;split<;>omega;omega
  exact OZ h2.symm this
theorem oX {T:Tok}:T.l[0]? =some (ii T.k):=_root_.id rfl
theorem uk {T:Tok}:T.l[1]? =some (.str T.t):=_root_.id rfl
theorem MJ {T:Tok}:T.l[2]? =some (u64 T.n):=_root_.id rfl
section
variable {m0 m:NH} {L:List Tok} {vl:NV} {r:D4} {s:Rs} {rest:List NV}
theorem gp (hd:RD m r vl s rest) (e:Nat):∃m',bp Try.prog S0 86 [.ptr r 0,ii e] m (.tup []) m'/\RD m' r vl (bj e s) rest/\Chg [r] m m':=by
 refine WF.ex1 fun K hK=> ?_
 refine WF.of_wpG (fun _=>rfl) wZ (L:= [(.a .e,ii e),(.e,.ptr r 0)]) rfl ?_
 unfold IK
 obtain ⟨g,o⟩:=hd
 by_cases h:s.e=0
 ·rw[h] at g
  simp (disch:=first|assumption|omega|(simp only[aU]<;>omega)) only[go_sem,seval,g]
  refine hK _ ⟨⟨?_,bJ o⟩,(aF rfl).weak (by intro i hi _;simpa [aE] using hi)⟩
  rw[bj,O1 h]
  exact (aJ o).trans au
 ·have hd:decide ((s.e:Int)=0)=false:=O2 (by omega)
  simp (disch:=first|assumption|omega) only[go_sem,seval,g,hd,aa]
  refine hK _ ⟨⟨?_,o⟩,(Chg.refl m).weak (by simp)⟩
  rw[bj,O0 h];exact g
theorem iA (hc:RC m0 L vl r) (h0:Chg [] m0 m) (hd:RD m r vl s rest):∃m',bp Try.prog S0 46 [.ptr r 0] m (.agg (aH L s.a).l) m'/\Chg [] m m':=by
 refine WF.ex1 fun K hK=> ?_
 refine WF.of_wpG (fun _=>rfl) xn (L:= [(.e,.ptr r 0)]) rfl ?_
 unfold G1
 obtain ⟨g,o⟩:=hd
 have hs:=hc.sl.chg h0 fun _ _=>by simp
 have hlen:=hs.len
 have hll:=hc.len
 rw[List.length_map] at hlen
 have hvs:bz 4 vl vl=true:=hs.same
 by_cases h:s.a<L.length
 ·obtain ⟨id,off,w,c,a1,a2,a3,a4,a5⟩:=hs.at s.a (by simpa using h)
  rw[List.getElem_map] at a5
  have hl:(Tok.l L[s.a]).length=4:=rfl
  have hl':(Tok.l L[s.a]).take 4=Tok.l L[s.a]:=rfl
  simp (disch:=first|assumption|omega|(simp only[aU]<;>omega)) only[go_sem,seval,g,hlen,a1,a2,a5,hl,hl',hvs]
  have e:aH L s.a=L[s.a]:=by rw[aH,List.getElem?_eq_getElem h];rfl
  rw[e] at hK
  exact hK _ (aF rfl)
 ·have e:aH L s.a=⟨0, [],0,0⟩:=by rw[aH,List.getElem?_eq_none (by omega)];rfl
  rw[e] at hK
  simp (disch:=first|assumption|omega|(simp only[aU]<;>omega)) only[go_sem,seval,g,hlen,hvs]
  exact hK _ (aF rfl)
theorem de (hc:RC m0 L vl r) (h0:Chg [] m0 m) (hd:RD m r vl s rest) (w:List Nat) (hw:w≠ []) (ha:s.a<=100000):∃m',bp Try.prog S0 84 [.ptr r 0,.str w] m (.bool (aT L w s)) m'/\RD m' r vl (if aT L w s then ai s else s) rest/\Chg [r] m m':=by
 refine WF.ex1 fun K hK=> ?_
 refine WF.of_wpG (fun _=>rfl) wT (L:= [(.a .e,.str w),(.e,.ptr r 0)]) rfl ?_
 unfold JI
 simp (disch:=first|assumption|omega) only[go_sem,seval,aa]
 refine WF.use1H (iA hc h0 hd) ?_
 intro m1 hC1
 have hd1:=hd.chg hC1 (by simp)
 generalize hT:aH L s.a=T
 obtain ⟨c,w',rfl⟩:=List.exists_cons_of_ne_nil hw
 have hw0:(c::w')[0]? =some c:=rfl
 obtain ⟨g,o⟩:=hd1
 have hkw:pV (c::w')=if um c then 4 else 3:=rfl
 have hl:(Tok.l T).length=4:=rfl
 have hlr:=nI
 have yes:∀M,aT L (c::w') s=true->Chg [r] m M->M.get r=some (.cells true (vl::ii (s.a+1:Nat)::ii s.e::ii s.b::rest))->am M r->K (.bool true) M:=fun M h1 h2 h3 h4=>by
  rw[h1,O1 rfl] at hK
  exact hK M ⟨⟨h3,h4⟩,h2⟩
 have no:∀M,aT L (c::w') s=false->Chg [] m M->K (.bool false) M:=fun M h1 h2=>by
  rw[h1,O0 (by simp)] at hK
  exact hK M ⟨hd.chg h2 (by simp),h2.weak (by simp)⟩
 have tb:∀k,pV (c::w')=k->aT L (c::w') s=decide (s.e=0/\T.k=k/\T.t=c::w'):=fun k hk=>by rw[aT,hT,hk]
 have hC2:∀l,aE l= []->Chg [] m (hp l 1 m1):=fun l e=>hC1.trans (aF e) (by simp)
 cases hlt:um c with
 |true=>
  have tb:=tb 4 (by rw[hkw,hlt];rfl)
  by_cases he:s.e=0
  ·by_cases hk:T.k=4
   ·by_cases ht:T.t=c::w'
    ·simp (disch:=first|assumption|omega|(simp only[aU]<;>omega)) only[go_sem,seval,hw0,hl,oX,uk,(hlr _ _).wf',hlt,g]
     refine yes _ (by rw[tb];simp[he,hk,ht]) ?_ ((aJ o).trans au) (bJ o)
     exact (hC1.weak (by simp)).trans (aF rfl) (by simp[aE])
    ·simp (disch:=first|assumption|omega|(simp only[aU]<;>omega)) only[go_sem,seval,hw0,hl,oX,uk,(hlr _ _).wf',hlt,g]
     refine no _ (by rw[tb];simp[ht]) ?_;exact hC2 _ rfl
   ·simp (disch:=first|assumption|omega|(simp only[aU]<;>omega)) only[go_sem,seval,hw0,hl,oX,uk,(hlr _ _).wf',hlt,g]
    refine no _ (by rw[tb];simp[hk]) ?_;exact hC2 _ rfl
  ·simp (disch:=first|assumption|omega|(simp only[aU]<;>omega)) only[go_sem,seval,hw0,hl,oX,uk,(hlr _ _).wf',hlt,g]
   refine no _ (by rw[tb];simp[he]) ?_;exact hC2 _ rfl
 |false=>
  have tb:=tb 3 (by rw[hkw,hlt];rfl)
  by_cases he:s.e=0
  ·by_cases hk:T.k=3
   ·by_cases ht:T.t=c::w'
    ·simp (disch:=first|assumption|omega|(simp only[aU]<;>omega)) only[go_sem,seval,hw0,hl,oX,uk,(hlr _ _).wf',hlt,g]
     refine yes _ (by rw[tb];simp[he,hk,ht]) ?_ ((aJ o).trans au) (bJ o)
     exact (hC1.weak (by simp)).trans (aF rfl) (by simp[aE])
    ·simp (disch:=first|assumption|omega|(simp only[aU]<;>omega)) only[go_sem,seval,hw0,hl,oX,uk,(hlr _ _).wf',hlt,g]
     refine no _ (by rw[tb];simp[ht]) ?_;exact hC2 _ rfl
   ·simp (disch:=first|assumption|omega|(simp only[aU]<;>omega)) only[go_sem,seval,hw0,hl,oX,uk,(hlr _ _).wf',hlt,g]
    refine no _ (by rw[tb];simp[hk]) ?_;exact hC2 _ rfl
  ·simp (disch:=first|assumption|omega|(simp only[aU]<;>omega)) only[go_sem,seval,hw0,hl,oX,uk,(hlr _ _).wf',hlt,g]
   refine no _ (by rw[tb];simp[he]) ?_;exact hC2 _ rfl
theorem fV (hc:RC m0 L vl r) (h0:Chg [] m0 m) (hd:RD m r vl s rest) (w:List Nat) (hw:w≠ []) (ha:s.a<=100000):∃m',bp Try.prog S0 87 [.ptr r 0,.str w] m (.tup []) m'/\RD m' r vl (aW L w s) rest/\Chg [r] m m':=by
 refine WF.ex1 fun K hK=> ?_
 refine WF.of_wpG (fun _=>rfl) xu (L:= [(.a .e,.str w),(.e,.ptr r 0)]) rfl ?_
 unfold JN
 simp (disch:=first|assumption|omega) only[go_sem,seval,aa]
 refine WF.use1 (de hc h0 hd w hw ha) ?_
 rintro m1 ⟨hd1,hC1⟩
 unfold aW at hK
 cases hb:aT L w s with
 |true=>
  rw[hb] at hd1 hK
  simp (disch:=first|assumption|omega) only[go_sem,seval]
  exact hK _ ⟨hd1,hC1⟩
 |false=>
  rw[hb] at hd1 hK
  simp (disch:=first|assumption|omega) only[go_sem,seval]
  refine WF.use1 (gp (s:=s) hd1 2) ?_
  rintro m2 ⟨hd2,hC2⟩
  simp (disch:=first|assumption|omega) only[go_sem,seval]
  exact hK _ ⟨hd2,hC1.trans hC2 fun _ h _=>h⟩
theorem li (hc:RC m0 L vl r) (h0:Chg [] m0 m) (hd:RD m r vl s rest) (ha:s.a<=100000):∃m',bp Try.prog S0 85 [.ptr r 0] m (.str (aY L s).1) m'/\RD m' r vl (aY L s).2 rest/\Chg [r] m m':=by
 refine WF.ex1 fun K hK=> ?_
 refine WF.of_wpG (fun _=>rfl) xX (L:= [(.e,.ptr r 0)]) rfl ?_
 unfold Hl
 simp (disch:=first|assumption|omega) only[go_sem,seval,aa]
 refine WF.use1H (iA hc h0 hd) ?_
 intro m1 hC1
 have hd1:=hd.chg hC1 (by simp)
 have hl:(Tok.l (aH L s.a)).length=4:=rfl
 unfold aY at hK
 generalize aH L s.a=T at hK hl
 obtain ⟨g,o⟩:=hd1
 have bad:(s.e≠0∨T.k≠1)->∀M,Chg [] m M->∃m',bp Try.prog S0 86 [.ptr r 0,ii 2] M (.tup []) m'/\K (.str []) m':=fun h M hC=>by
  rw[O1 h] at hK
  obtain ⟨m2,h1,hd2,hC2⟩:=gp (hd.chg hC (by simp)) 2
  exact ⟨m2,h1,hK _ ⟨hd2,(hC.weak (by simp)).trans hC2 fun _ h _=>h⟩⟩
 by_cases he:s.e=0
 ·by_cases hk:T.k=1
  ·rw[O0 (by omega)] at hK
   simp (disch:=first|assumption|omega|(simp only[aU]<;>omega)) only[go_sem,seval,hl,oX,uk,g]
   refine hK _ ⟨⟨(aJ o).trans au,bJ o⟩,(hC1.weak (by simp)).trans (aF rfl) (by simp[aE])⟩
  ·simp (disch:=first|assumption|omega|(simp only[aU]<;>omega)) only[go_sem,seval,hl,oX,uk,g]
   refine WF.use1 (bad (Or.inr hk) _ (fy hC1 rfl)) ?_
   intro M h
   simp (disch:=first|assumption|omega) only[go_sem,seval]
   exact h
 ·simp (disch:=first|assumption|omega|(simp only[aU]<;>omega)) only[go_sem,seval,hl,oX,uk,g]
  refine WF.use1 (bad (Or.inl he) _ (fy hC1 rfl)) ?_
  intro M h
  simp (disch:=first|assumption|omega) only[go_sem,seval]
  exact h
end
abbrev kO (n:Nat):Ex:= .mk 0 n 0 [] []
abbrev c9 (s:List Nat):Ex:= .mk 1 0 0 s []
abbrev pf (o:Nat) (x y:Ex):Ex:= .mk 2 0 o [] [x,y]
mutual
def Ex.depth:Ex->Nat
 | .mk _ _ _ _ ks=>cU ks+1
def cU:List Ex->Nat
 | []=>0
 |x::xs=>max x.depth (cU xs)
end
theorem oT (a b:List Ex):cU (a++b)=max (cU a) (cU b):=by
 induction a with
 |nil=>simp[cU]
 |cons x a ih=>rw[List.cons_append,cU,cU,ih];omega
section
variable (L:List Tok)
def cG (E:Rs->Ex×Rs) (d:Nat) (s:Rs):Ex×Rs:=
 if s.e≠0 then (zE,s) else if 29<d then (zE,bj 11 s) else if (aH L s.a).k=2 then (kO (aH L s.a).n,ai s) else if (aH L s.a).k=1 then (c9 (aH L s.a).t,ai s)
 else if aT L [40] s=true then ((E (ai s)).1,aW L [41] (E (ai s)).2) else (zE,bj 2 s)
def gw (T:Tok):Nat:=if T.k=3/\T.t.length=1 then T.t.headD 0 else 0
def uK (o:Nat):Bool:=decide (o=43∨o=45∨o=42∨o=38∨o=61∨o=60)
def eG (P:Rs->Ex×Rs):Nat->Ex->Rs->Ex×Rs
 |0,x,s=>(x,s)
 |f+1,x,s=>if s.e≠0 then (x,s) else if uK (gw (aH L s.a))=false then (x,s) else
  if (P (ai s)).2.e≠0 then (x,(P (ai s)).2) else
   eG P f (pf (gw (aH L s.a)) x (P (ai s)).1) (if 30<(pf (gw (aH L s.a)) x (P (ai s)).1).depth then bj 11 (P (ai s)).2 else (P (ai s)).2)
def gW (E:Rs->Ex×Rs) (d:Nat) (s:Rs):Ex×Rs:=eG L (cG L E d) (L.length+1) (cG L E d s).1 (cG L E d s).2
def iQ:Nat->Rs->Ex×Rs
 |0,s=>gW L (fun s=>(zE,s)) 30 s
 |n+1,s=>gW L (iQ n) (29 - n) s
end
structure St (L:List Tok) (s s':Rs):Prop where
 le:s.a<=s'.a
 lim:s.a<=L.length->s'.a<=L.length
 err:s.e≠0->s'=s
 lim2:∀{N:Nat},(∀a,1<=(aH L a).k->(aH L a).k<=4->a<N)->s.a<=N->s.b<=N->s'.a<=N/\s'.b<=N
theorem St.refl (L:List Tok) (s:Rs):St L s s:=⟨Nat.le_refl _,fun h=>h,fun _=>rfl,fun _ h1 h2=>⟨h1,h2⟩⟩
theorem St.trans {L:List Tok} {a b c:Rs} (h:St L a b) (h':St L b c):St L a c:=⟨Nat.le_trans h.le h'.le,fun q=>h'.lim (h.lim q),fun q=>by have:=h.err q;subst this;exact h'.err q,fun hN h1 h2=>let ⟨q1,q2⟩:=h.lim2 hN h1 h2;h'.lim2 hN q1 q2⟩
theorem St.zero {L:List Tok} {s s':Rs} (h:St L s s') (e:s'.e=0):s.e=0:=by
 rcases Nat.eq_zero_or_pos s.e with q|q
 ·exact q
 ·have:=h.err (by omega);subst this;exact e
theorem bY (L:List Tok) (e:Nat) (s:Rs):St L s (bj e s):=by
 unfold bj
 split
 ·exact ⟨Nat.le_refl _,fun h=>h,fun h=>OZ ‹_› h,fun _ h1 _=>⟨h1,h1⟩⟩
 ·exact St.refl L s
theorem gP {L:List Tok} {s:Rs} (h:s.a<L.length) (he:s.e=0) (hk:1<=(aH L s.a).k/\(aH L s.a).k<=4):St L s (ai s):=⟨Nat.le_succ _,fun _=>h,fun q=>OZ he q,fun hN _ h2=>⟨hN _ hk.1 hk.2,h2⟩⟩
theorem d7 {L:List Tok} {w:List Nat} {s:Rs} (h:aT L w s=true):St L s (ai s):=by
 obtain ⟨h1,h2,h3⟩:=of_decide_eq_true h
 refine gP (bB h).2 h1 ?_
 rw[h2]
 unfold pV
 split
 ·split<;>omega
 ·omega
theorem kV {L:List Tok} {a:Nat} (h:(aH L a).k≠0):a<L.length:=by
 rcases Nat.lt_or_ge a L.length with q|q
 ·exact q
 ·rw[aH,List.getElem?_eq_none q] at h;exact OZ rfl h
theorem bN (L:List Tok) (w:List Nat) (s:Rs):St L s (aW L w s):=by
 unfold aW
 split
 ·rename_i h;exact d7 h
 ·exact bY _ _ _
theorem cq (L:List Tok) (s:Rs):St L s (aY L s).2:=by
 unfold aY
 split
 ·exact bY _ _ _
 ·rename_i h
  exact gP (kV (by omega)) (by omega) (by omega)
theorem gJ {L:List Tok} {E:Rs->Ex×Rs} {d:Nat} (hE:∀s,St L s (E s).2) (s:Rs):St L s (cG L E d s).2:=by
 unfold cG
 split
 ·exact St.refl _ _
 ·split
  ·exact bY _ _ _
  ·split
   ·exact gP (kV (by omega)) (by omega) (by omega)
   ·split
    ·exact gP (kV (by omega)) (by omega) (by omega)
    ·split
     ·rename_i h;exact ((d7 h).trans (hE _)).trans (bN _ _ _)
     ·exact bY _ _ _
theorem qU {L:List Tok} {a:Nat} (h:uK (gw (aH L a))=true):a<L.length:=by
 refine kV fun q=> ?_
 unfold gw at h
 rw[O0 (by omega)] at h
 exact OZ h (by decide)
theorem IX {L:List Tok} {a:Nat} (h:uK (gw (aH L a))=true):1<=(aH L a).k/\(aH L a).k<=4:=by
 unfold gw at h
 by_cases q:(aH L a).k=3/\(aH L a).t.length=1
 ·omega
 ·rw[O0 q] at h;exact OZ h (by decide)
theorem kj {L:List Tok} {P:Rs->Ex×Rs} (hP:∀s,St L s (P s).2):∀(f:Nat) (x:Ex) (s:Rs),St L s (eG L P f x s).2:=by
 intro f
 induction f with
 |zero=>intro x s;exact St.refl _ _
 |succ f ih=>
  intro x s
  rw[eG]
  split
  ·exact St.refl _ _
  ·split
   ·exact St.refl _ _
   ·rename_i h1 h2
    have h3:=(gP (qU (by simpa using h2)) (by omega:s.e=0) (IX (by simpa using h2))).trans (hP (ai s))
    split
    ·exact h3
    ·refine (h3.trans ?_).trans (ih _ _)
     split
     ·exact bY _ _ _
     ·exact St.refl _ _
theorem sY {L:List Tok} {E:Rs->Ex×Rs} {d:Nat} (hE:∀s,St L s (E s).2) (s:Rs):St L s (gW L E d s).2:=(gJ hE s).trans (kj (gJ hE) _ _ _)
theorem b7 (L:List Tok):∀(n:Nat) (s:Rs),St L s (iQ L n s).2:=by
 intro n
 induction n with
 |zero=>exact fun s=>sY (fun s=>St.refl _ s) s
 |succ n ih=>exact fun s=>sY ih s
def DE (E:Rs->Ex×Rs):Prop:=∀s,(E s).2.e=0->(E s).1.sz+s.a<=(E s).2.a
theorem qg {L:List Tok} {E:Rs->Ex×Rs} {d:Nat} (hS:∀s,St L s (E s).2) (hE:DE E):DE (cG L E d):=by
 intro s
 unfold cG
 have hf:∀e,e≠0->(bj e s).e≠0:=fun e he=>by unfold bj;split;exact he;assumption
 split
 ·intro h;exact OZ h ‹_›
 ·split
  ·intro h;exact OZ h (hf 11 (by omega))
  ·split
   ·intro _;simp[Ex.sz,jY,ai];omega
   ·split
    ·intro _;simp[Ex.sz,jY,ai];omega
    ·split
     ·intro h
      have h1:=bN L [41] (E (ai s)).2
      have h2:=hE (ai s) (h1.zero h)
      have h3:=h1.le
      have h4:(ai s).a=s.a+1:=rfl
      dsimp only at h ⊢
      omega
     ·intro h;exact OZ h (hf 2 (by omega))
theorem EX {L:List Tok} {P:Rs->Ex×Rs} (hS:∀s,St L s (P s).2) (hP:DE P):∀(f:Nat) (x:Ex) (s:Rs) (a0:Nat),(s.e=0->x.sz+a0<=s.a)->(eG L P f x s).2.e=0->(eG L P f x s).1.sz+a0<=(eG L P f x s).2.a:=by
 intro f
 induction f with
 |zero=>intro x s a0 h h2;exact h h2
 |succ f ih=>
  intro x s a0 h
  rw[eG]
  split
  ·intro h2;exact OZ h2 ‹_›
  ·split
   ·intro h2;exact h h2
   ·split
    ·intro h2;exact OZ h2 ‹_›
    ·rename_i h1 h2 h3
     refine ih _ _ a0 fun h4=> ?_
     have h5:=hP (ai s) (by omega)
     have h6:=h (by omega)
     have h7:(ai s).a=s.a+1:=rfl
     have h8:(pf (gw (aH L s.a)) x (P (ai s)).1).sz=1+(x.sz+((P (ai s)).1.sz+0)):=by simp[Ex.sz,jY]
     rw[h8]
     split
     ·unfold bj;split
      ·show _+a0<=(P (ai s)).2.a;omega
      ·omega
     ·omega
theorem sP {L:List Tok} {E:Rs->Ex×Rs} {d:Nat} (hS:∀s,St L s (E s).2) (hP:DE (cG L E d)):DE (gW L E d):=by
 intro s h
 exact EX (gJ hS) hP _ _ _ s.a (fun h=>hP s h) h
theorem nT (L:List Tok) (E:Rs->Ex×Rs):DE (cG L E 30):=by
 intro s
 unfold cG
 split
 ·intro h;exact OZ h ‹_›
 ·rw[O1 (by omega)]
  intro h;unfold bj at h;split at h
  ·exact OZ h (by show (11:Nat)≠0;omega)
  ·exact OZ h ‹_›
theorem qy (L:List Tok):∀n:Nat,DE (iQ L n):=by
 intro n
 induction n with
 |zero=>exact sP (fun s=>St.refl _ s) (nT L _)
 |succ n ih=>exact sP (b7 L n) (qg (b7 L n) ih)
abbrev n8 (m:NH):D4->Prop:=fun i=>¬am m i
theorem RE.chg {mc m m':NH} {x:Ex} {c:List NV} {S:List D4} (h:RE m (n8 mc) x c) (hC:Chg S m m') (hS:∀i∈S,am mc i):RE m' (n8 mc) x c:=h.stays (aS.of hC fun i hi hs=>hi (hS i hs))
theorem RS.chg {mc m m':NH} {x:Stm} {c:List NV} {S:List D4} (h:RS m (n8 mc) x c) (hC:Chg S m m') (hS:∀i∈S,am mc i):RS m' (n8 mc) x c:=h.stays (aS.of hC fun i hi hs=>hi (hS i hs))
theorem RE.new {mc mb m:NH} {x:Ex} {c:List NV} (h:RE m (n8 mc) x c) (hC:∀i,am mb i->am mc i):RE m (n8 mb) x c:=h.weak fun i hi ho=>hi (hC i ho)
theorem RS.new {mc mb m:NH} {x:Stm} {c:List NV} (h:RS m (n8 mc) x c) (hC:∀i,am mb i->am mc i):RS m (n8 mb) x c:=h.weak fun i hi ho=>hi (hC i ho)
theorem Hv (m:NH) (T:D4->Prop) (n:Nat):RE m T (kO n) ((kO n).l .nils):=z9 m T 0 n 0 []
theorem Fm (m:NH) (T:D4->Prop) (s:List Nat):RE m T (c9 s) ((c9 s).l .nils):=z9 m T 1 0 0 s
def NU (x:Ex):Prop:=∀{m0 m:NH} {T:D4->Prop} {c:List NV},RE m0 T x c->aS T m0 m->x.sz<=100000000->∃m',bp Try.prog S0 32 [.agg c] m (ii x.depth) m'/\Chg [] m m'
theorem IE:∀x:Ex,x.depth<=x.sz:=by
 apply Ex.ind
 intro k n o s ks ih
 rw[Ex.depth,Ex.sz]
 have:∀ks:List Ex,(∀x∈ks,x.depth<=x.sz)->cU ks<=jY ks:=by
  intro ks
  induction ks with
  |nil=>intro _;simp[cU]
  |cons x xs ih=>
   intro h
   have h1:=h x (List.mem_cons_self ..)
   have h2:=ih fun y hy=>h y (List.mem_cons_of_mem _ hy)
   rw[cU,jY];omega
 have:=this ks ih
 omega
theorem Fd {l:List Ex} {x:Ex} (hx:x∈l):x.sz<=jY l:=by
 induction l with
 |nil=>simp at hx
 |cons a l ih=>
  rw[jY]
  rcases List.mem_cons.mp hx with rfl|hx
  ·omega
  ·have:=ih hx;omega
theorem E4:∀x:Ex,NU x:=by
 apply Ex.ind
 intro k n o s ks ih m0 m T c hR hst hsz
 obtain ⟨vk,C,rfl,hS⟩:=hR.inv
 rw[Ex.sz] at hsz
 refine WF.ex1 fun K hK=> ?_
 refine WF.of_wpG (fun _=>rfl) xS (L:= [(.e,.agg [ii k,u64 n,u8 o,.str s,vk])]) rfl ?_
 unfold JE
 simp (disch:=first|assumption|omega) only[go_sem,seval]
 generalize hM1:hp _ 1 m=M1
 have hC1:Chg [] m M1:=bh hM1 rfl
 have hg1:M1.get (na m 0)=some (.cells true [ii k,u64 n,u8 o,.str s,vk]):=bM hM1
 have ho1:am M1 (na m 0):=bL hM1 (by omega)
 have hls:=rC ks
 refine W.loop (fun j d=>∃t M i,d=⟨t, [],none,M⟩/\NT.get D4.e.a t=some (.ptr (na m 0) 0)/\NT.get D4.e.c t=some (ii (cU (ks.take i)))/\NT.get D4.e.f t=some (ii (i:Nat))/\i+j=ks.length/\Chg [] M1 M) ?_ ks.length _ ⟨_,M1,0,rfl,by simp only[go_sem,seval],by simp only[go_sem,seval]<;>rfl,by simp only[go_sem,seval]<;>rfl,by omega,Chg.refl M1⟩
 rintro j d ⟨t,M,i,rfl,g1,g2,g3,hij,hC⟩
 apply az
 unfold yL
 change wp _ _ _ _ ⟨aj [] t, [],none,M⟩ _
 have hstM:aS T m0 M:=fun i hi ho=>by
  obtain ⟨q1,q2⟩:=hst i hi ho
  have hCM:Chg [] m M:=hC1.trans hC (by simp)
  exact ⟨(hCM.get q2 (by simp)).trans q1,hCM.old q2⟩
 have hSM:=hS.stays hstM
 have hgM:=(hC.get ho1 (by simp)).trans hg1
 have hlen:=hSM.sl.len
 rw[hS.len] at hlen
 by_cases hi:i<ks.length
 ·obtain ⟨cx,hcx,hRx⟩:=hS.at i hi
  have hc:i<C.length:=by rw[hS.len];exact hi
  obtain ⟨id,off,wr,c,a1,a2,a3,a4,a5⟩:=hSM.sl.at i hc
  have ecx:C[i]=cx:=by rw[List.getElem?_eq_getElem hc] at hcx;injection hcx
  rw[ecx] at a5
  have hsx:=Fd (List.getElem_mem hi)
  obtain ⟨m',hr,hC'⟩:=ih ks[i] (List.getElem_mem hi) hRx hstM (by omega)
  have htk:cU (ks.take (i+1))=max (cU (ks.take i)) ks[i].depth:=by
   rw[List.take_add_one,List.getElem?_eq_getElem hi,Option.toList_some,oT,cU,cU];omega
  simp (disch:=first|assumption|omega) only[go_sem,seval,g1,g2,g3,hgM,hlen,a1,a2,a5,hr.wf']
  by_cases hgt:cU (ks.take i)<ks[i].depth
  ·simp (disch:=first|assumption|omega) only[go_sem,seval,g1,g2,g3]
   refine ⟨j - 1,by omega,_,m',i+1,by rfl,by simp only[go_sem,seval,g1], ?_,by simp only[go_sem,seval]<;>rfl,by omega,hC.trans hC' (by simp)⟩
   simp (disch:=first|assumption|omega) only[go_sem,seval,htk]
   rw[Nat.max_eq_right (by omega)]
  ·simp (disch:=first|assumption|omega) only[go_sem,seval,g1,g2,g3]
   refine ⟨j - 1,by omega,_,m',i+1,by rfl,by simp only[go_sem,seval,g1], ?_,by simp only[go_sem,seval]<;>rfl,by omega,hC.trans hC' (by simp)⟩
   simp (disch:=first|assumption|omega) only[go_sem,seval,htk,g2]
   rw[Nat.max_eq_left (by omega)]
 ·have e:(ks.take i)=ks:=List.take_of_length_le (by omega)
  rw[e] at g2
  have hd:=IE (.mk k n o s ks)
  rw[Ex.depth,Ex.sz] at hd
  rw[Ex.depth] at hK
  simp (disch:=first|assumption|omega) only[go_sem,seval,g1,g2,g3,hgM,hlen]
  exact hK _ (hC1.trans hC (by simp))
def IH (f:Nat) (m0:NH) (L:List Tok) (vl:NV) (r:D4) (rest:List NV) (E:Rs->Ex×Rs) (d:Nat):Prop:=∀{m:NH} {s:Rs},Chg [] m0 m->RD m r vl s rest->s.a<=L.length->
 ∃v m',bp Try.prog S0 f [.ptr r 0,ii d] m v m'/\(∃u,v= .agg ((E s).1.l u)/\RE m' (n8 m) (E s).1 ((E s).1.l u))/\RD m' r vl (E s).2 rest/\Chg [r] m m'
theorem ml {S:List D4} {m M:NH} {l:List (AK×NO)} {k:Nat} (h:Chg S m M) (ho:∀i∈aE l,am m i->i∈S):Chg S m (hp l k M):=h.trans (aF rfl) ho
section
variable {m0:NH} {L:List Tok} {vl:NV} {r:D4} {rest:List NV} {E:Rs->Ex×Rs}
theorem Bq (hc:RC m0 L vl r) {d:Nat} (hst:∀s,St L s (E s).2) (hE:d<=29->IH 162 m0 L vl r rest E (d+1)) (hd30:d<=30):IH 173 m0 L vl r rest (cG L E d) d:=by
 intro m s h0 hd ha
 refine WF.ex fun K hK=> ?_
 refine WF.of_wpG (fun _=>rfl) sF (L:= [(.a .e,ii d),(.e,.ptr r 0)]) rfl ?_
 unfold AV
 have hll:=hc.len
 simp (disch:=first|assumption|omega) only[go_sem,seval]
 generalize hM1:hp _ 1 m=M1
 have hC1:Chg [] m M1:=bh hM1 rfl
 have hg1:M1.get (na m 0)=some (.cells true [ii 0,u64 0,u8 0,.str [],.nils]):=bM hM1
 have ho1:am M1 (na m 0):=bL hM1 (by omega)
 have hr0:r≠na m 0:=hd.o.ne 0
 have hr0':na m 0≠r:=fun e=>hr0 e.symm
 have hd1:=hd.chg hC1 (by simp)
 have hn1:∀i,am m i->am M1 i:=fun i hi=>hC1.old hi
 refine WF.use1H (iA hc (h0.trans hC1 (by simp)) hd1) ?_
 intro M2 hC2
 have hd2:=hd1.chg hC2 (by simp)
 have hg2:=(hC2.get ho1 (by simp)).trans hg1
 have ho2:=hC2.old ho1
 have hC02:=hC1.trans hC2 (by simp)
 have hl:(Tok.l (aH L s.a)).length=4:=rfl
 have hpf:cG L E d s=if s.e≠0 then (zE,s) else if 29<d then (zE,bj 11 s) else if (aH L s.a).k=2 then (kO (aH L s.a).n,ai s) else if (aH L s.a).k=1 then (c9 (aH L s.a).t,ai s)
  else if aT L [40] s=true then ((E (ai s)).1,aW L [41] (E (ai s)).2) else (zE,bj 2 s):=rfl
 rw[hpf] at hK
 clear hpf
 generalize hT:aH L s.a=T at hK hl
 have hdg:=hd2.g
 have hdo:=hd2.o
 have hCr2:Chg [r] m M2:=hC02.weak (by simp)
 have fin:∀{M:NH} {s':Rs} {u:NV} {x:Ex} {l:List (AK×NO)} {k:Nat},RD M r vl s' rest->Chg [r] m M->RE M (n8 m) x (x.l u)->(∀i∈aE l,i=na m 0)->(RE (hp l k M) (n8 m) x (x.l u)->RD (hp l k M) r vl s' rest/\Chg [r] m (hp l k M)):=fun h1 h2 h3 h4 _=>
  ⟨h1.chg (aF rfl) fun hi=>hr0 (h4 _ hi),ml h2 fun i hi ho=>OZ (h4 i hi▸ho) aB⟩
 by_cases he:s.e=0
 ·rw[O0 (by omega)] at hK
  by_cases h29:29<d
  ·rw[O1 h29] at hK
   simp (disch:=first|assumption|omega|(simp only[aU]<;>omega)) only[go_sem,seval,hl,hdg]
   generalize hM3:hp _ 1 M2=M3
   have hC3:Chg [] M2 M3:=bh hM3 rfl
   refine WF.use1H (gp (hd2.chg hC3 (by simp)) 11) ?_
   rintro M4 ⟨hd4,hC4⟩
   have hg4:=(hC4.get (hC3.old ho2) (by simpa using hr0.symm)).trans ((hC3.get ho2 (by simp)).trans hg2)
   have ho4:=hC4.old (hC3.old ho2)
   simp (disch:=first|assumption|omega|(simp only[aU]<;>omega)) only[go_sem,seval,hg4]
   exact hK _ _ ⟨⟨.nils,rfl,z9 _ _ _ _ _ _⟩,fin hd4 ((hCr2.trans hC3 (by simp)).trans hC4 fun _ h _=>h) (z9 _ _ 0 0 0 []) (by simp[aE]) (z9 _ _ _ _ _ _)⟩
  ·rw[O0 h29] at hK
   by_cases h2:T.k=2
   ·rw[O1 h2] at hK
    simp (disch:=first|assumption|omega|(simp only[aU]<;>omega)) only[go_sem,seval,hl,oX,MJ,hdg,hg2,hr0]
    refine hK _ _ ⟨⟨.nils,rfl,Hv _ _ _⟩,⟨?_,bJ (by assumption)⟩, ?_⟩
    ·refine (aJ hdo).trans ?_
     simp only[a9 hr0,au];rfl
    ·exact ml hCr2 (by simp[aE,aB])
   ·rw[O0 h2] at hK
    by_cases h1:T.k=1
    ·rw[O1 h1] at hK
     simp (disch:=first|assumption|omega|(simp only[aU]<;>omega)) only[go_sem,seval,hl,oX,uk,hdg,hg2,hr0]
     refine hK _ _ ⟨⟨.nils,rfl,Fm _ _ _⟩,⟨?_,bJ (by assumption)⟩, ?_⟩
     ·refine (aJ hdo).trans ?_
      simp only[a9 hr0,au];rfl
     ·exact ml hCr2 (by simp[aE,aB])
    ·rw[O0 h1] at hK
     simp (disch:=first|assumption|omega|(simp only[aU]<;>omega)) only[go_sem,seval,hl,oX,hdg]
     generalize hM3:hp _ 1 M2=M3
     have hC3:Chg [] M2 M3:=bh hM3 rfl
     have hd3:=hd2.chg hC3 (by simp)
     refine WF.use1H (de hc (h0.trans (hC02.trans hC3 (by simp)) (by simp)) hd3 [40] (by simp) (by omega)) ?_
     rintro M4 ⟨hd4,hC4⟩
     have hg4:=(hC4.get (hC3.old ho2) (by simpa using hr0.symm)).trans ((hC3.get ho2 (by simp)).trans hg2)
     have ho4:=hC4.old (hC3.old ho2)
     have hC04:Chg [r] m M4:=(hCr2.trans hC3 (by simp)).trans hC4 fun _ h _=>h
     cases hb:aT L [40] s with
     |true=>
      rw[hb,O1 rfl] at hK hd4
      dsimp only at hK
      generalize hEs:E (ai s)=Es at hK
      obtain ⟨-,hlt⟩:=bB hb
      simp (disch:=first|assumption|omega) only[go_sem,seval,aa]
      refine WF.useH (hE (by omega) (hc.chg h0 hC04) hd4 hlt) ?_
      rintro v5 M5 ⟨⟨u,rfl,hx5⟩,hd5,hC5⟩
      have hst5:=hst (ai s)
      rw[hEs] at hx5 hd5 hst5 ⊢
      have hg5:=(hC5.get ho4 (by simpa using hr0.symm)).trans hg4
      have ho5:=hC5.old ho4
      have hC05:Chg [r] m M5:=hC04.trans hC5 fun _ h _=>h
      have hx5l:(Es.1.l u).length=5:=rfl
      simp (disch:=first|assumption|omega|(simp only[aU]<;>omega)) only[go_sem,seval,hx5l]
      generalize hM6:hp _ 1 M5=M6
      have hC6:Chg [] M5 M6:=bh hM6 rfl
      have hg6:M6.get (na M5 0)=some (.cells true (Es.1.l u)):=bM hM6
      have ho6:am M6 (na M5 0):=bL hM6 (by omega)
      have hlim:=hst5.lim hlt
      refine WF.use1H (fV hc (hc.chg h0 (hC05.trans hC6 (by simp))) (hd5.chg hC6 (by simp)) [41] (by simp) (by omega)) ?_
      rintro M7 ⟨hd7,hC7⟩
      have hg7:=(hC7.get (hC6.old ho5) (by simpa using hr0.symm)).trans ((hC6.get ho5 (by simp)).trans hg5)
      have ho7:=hC7.old (hC6.old ho5)
      have hr5:na M5 0≠r:=fun e=>(hd5.o.ne 0 e.symm)
      have hb7:=(hC7.get ho6 (by simpa using hr5)).trans hg6
      have hC07:Chg [r] m M7:=(hC05.trans hC6 (by simp)).trans hC7 fun _ h _=>h
      have hl5':(Es.1.l u).take 5=Es.1.l u:=rfl
      simp (disch:=first|assumption|omega|(simp only[aU]<;>omega)) only[go_sem,seval,hg7,hb7,hx5l,hl5']
      have hx7:RE M7 (n8 M4) Es.1 (Es.1.l u):=(hx5.chg hC6 (by simp)).chg hC7 fun i hi=>by
       have hi:=one hi;subst hi;exact hd4.o
      generalize hM8:hp _ 0 M7=M8
      have hC8:Chg [na m 0] M7 M8:=bh hM8 rfl
      have hx8:RE M8 (n8 M4) Es.1 (Es.1.l u):=hx7.chg hC8 fun i hi=>by
       have hi:=one hi;subst hi;exact ho4
      have hx9:RE M8 (n8 m) Es.1 (Es.1.l u):=hx8.new fun i hi=>hC04.old hi
      have hd8:=hd7.chg hC8 (by simpa using hr0)
      have hC08:Chg [r] m M8:=hC07.trans hC8 fun i hi ho=>by
       have hi:=one hi;subst hi;exact OZ ho aB
      exact hK _ _ ⟨⟨u,rfl,hx9⟩,hd8,hC08⟩
     |false=>
      rw[hb,O0 Bool.false_ne_true] at hK hd4
      simp (disch:=first|assumption|omega) only[go_sem,seval,aa]
      refine WF.use1H (gp hd4 2) ?_
      rintro M5 ⟨hd5,hC5⟩
      have hg5:=(hC5.get ho4 (by simpa using hr0.symm)).trans hg4
      have ho5:=hC5.old ho4
      simp (disch:=first|assumption|omega|(simp only[aU]<;>omega)) only[go_sem,seval,hg5]
      exact hK _ _ ⟨⟨.nils,rfl,z9 _ _ _ _ _ _⟩,fin hd5 (hC04.trans hC5 fun _ h _=>h) (z9 _ _ 0 0 0 []) (by simp[aE]) (z9 _ _ _ _ _ _)⟩
 ·rw[O1 he] at hK
  simp (disch:=first|assumption|omega|(simp only[aU]<;>omega)) only[go_sem,seval,hl,hdg,hg2]
  exact hK _ _ ⟨⟨.nils,rfl,z9 _ _ _ _ _ _⟩,fin hd2 hCr2 (z9 _ _ 0 0 0 []) (by simp[aE]) (z9 _ _ _ _ _ _)⟩
end
theorem RE.old {m:NH} {T:D4->Prop} {x:Ex} {c:List NV} (h:RE m T x c):RE m (fun i=>T i/\am m i) x c:=by
 induction h with
 |mk hv hT hl h ih=>exact .mk hv (fun i hi=>⟨hT i hi,hv.old i hi⟩) hl ih
theorem RS.old {m:NH} {T:D4->Prop} {x:Stm} {c:List NV} (h:RS m T x c):RS m (fun i=>T i/\am m i) x c:=by
 induction h with
 |mk hi hx hy hb hbT hbl hbR he heT hel heR ih1 ih2=>exact .mk hi.old hx.old hy.old hb (fun i q=>⟨hbT i q,hb.old i q⟩) hbl ih1 he (fun i q=>⟨heT i q,he.old i q⟩) hel ih2
theorem Kr {m:NH} {T:D4->Prop} {o:Nat} {x y:Ex} {cx cy:List NV} (hx:RE m T x cx) (hy:RE m T y cy) {id:D4} (hT:T id) (hg:m.get id=some (.cells true (cx++cy))) (ho:am m id):RE m T (pf o x y) ((pf o x y).l (.slc id 0 2 5 2)):=by
 refine .mk (C:= [cx,cy]) ⟨?_,Or.inr ⟨id,0,2,true,_,rfl,hg,ho, ?_, ?_⟩⟩ (by intro i hi;simp[ids] at hi;subst hi;exact hT) rfl ?_
 ·intro c hc;simp at hc;rcases hc with rfl|rfl
  ·exact hx.len
  ·exact hy.len
 ·simp[hx.len,hy.len]
 ·simp[hx.len,hy.len]
  rw[List.take_of_length_le (by simp[hx.len,hy.len])]
 ·intro i z c h1 h2
  match i with
  |0=>cases h1;cases h2;exact hx
  |1=>cases h1;cases h2;exact hy
  |i+2=>simp at h1
section
variable {m0:NH} {L:List Tok} {vl:NV} {r:D4} {rest:List NV}
theorem Aa (hc:RC m0 L vl r) {P:Rs->Ex×Rs} {d:Nat} (hst:∀s,St L s (P s).2) (hsz:DE P) (hP:IH 173 m0 L vl r rest P d) {m:NH} (h0:Chg [] m0 m) {b1 b2:D4} (hb1:¬am m b1) (hb2:¬am m b2) (hb12:b1≠b2) (horm:am m r)
 {X:Ex} {S:Rs} {M:NH} {x:Ex} {s:Rs} {u:NV} (hd:RD M r vl s rest) (hx:RE M (fun i=>¬am m i/\i≠b1/\i≠b2) x (x.l u)) (hg:M.get b2=some (.cells true (x.l u))) (hob:am M b2) (hob1:am M b1) {z1:List NV} (hg1:M.get b1=some (.cells true z1)) (ha:s.a<=L.length) (hxs:s.e=0->x.sz<=s.a) (hxz:x.sz<=100000) (hC:Chg [r] m M) (hE:eG L P (L.length+1) x s=(X,S))
 {t:Tm} (g1:NT.get D4.e t=some (.ptr r 0)) (g2:NT.get D4.e.a t=some (ii d)) (g3:NT.get D4.e.f t=some (.ptr b1 0)) (g4:NT.get D4.e.a.a t=some (.ptr b2 0)) {Q:Out->Dyn->Prop}
 (hQ:∀t' M' u',NT.get D4.e.f t'=some (.ptr b1 0)->NT.get D4.e.a.a t'=some (.ptr b2 0)->RD M' r vl S rest->RE M' (fun i=>¬am m i/\i≠b1/\i≠b2) X (X.l u')->M'.get b2=some (.cells true (X.l u'))->am M' b2->am M' b1->M'.get b1=some (.cells true z1)->Chg [r] m M'->Q (.exit 0) ⟨aj [] t', [],none,M'⟩):
 W Try.prog S0 none nF.loop ⟨t, [],none,M⟩ Q:=by
 refine W.loop (fun k D=>∃t M x s u f,D=⟨t, [],none,M⟩/\NT.get D4.e t=some (.ptr r 0)/\NT.get D4.e.a t=some (ii d)/\NT.get D4.e.f t=some (.ptr b1 0)/\NT.get D4.e.a.a t=some (.ptr b2 0)/\RD M r vl s rest/\RE M (fun i=>¬am m i/\i≠b1/\i≠b2) x (x.l u)/\M.get b2=some (.cells true (x.l u))/\am M b2/\am M b1/\M.get b1=some (.cells true z1)/\s.a<=L.length/\(s.e=0->x.sz<=s.a)/\x.sz<=100000/\Chg [r] m M/\eG L P f x s=(X,S)/\L.length<f+s.a/\k=f) ?_ (L.length+1) _ ⟨t,M,x,s,u,L.length+1,rfl,g1,g2,g3,g4,hd,hx,hg,hob,hob1,hg1,ha,hxs,hxz,hC,hE,by omega,rfl⟩
 clear hd hx hg hob hob1 hg1 ha hxs hxz hC hE g1 g2 g3 g4
 rintro k D ⟨t,M,x,s,u,f,rfl,g1,g2,g3,g4,hd,hx,hg,hob,hob1,hg1,ha,hxs,hxz,hC,hE,hf,rfl⟩
 apply az
 unfold nF
 change wp _ _ _ _ ⟨aj [] t, [],none,M⟩ _
 have hll:=hc.len
 obtain ⟨f,rfl⟩:∃f',k=f'+1:=⟨k - 1,by omega⟩
 rw[eG] at hE
 have hdg:=hd.g
 refine sW (fun D=>s.e=0/\∃t',D=⟨t', [],none,M⟩/\NT.get D4.e t'=some (.ptr r 0)/\NT.get D4.e.a t'=some (ii d)/\NT.get D4.e.f t'=some (.ptr b1 0)/\NT.get D4.e.a.a t'=some (.ptr b2 0)) (fun R hR=> ?_) ?_
 ·by_cases he:s.e=0
  ·simp (disch:=first|assumption|omega) only[go_sem,seval,g1,g2,g3,g4,hdg]
   exact hR _ ⟨he,_,rfl,by simp only[go_sem,seval,g1],by simp only[go_sem,seval,g2],by simp only[go_sem,seval,g3],by simp only[go_sem,seval,g4]⟩
  ·rw[O1 he] at hE
   injection hE with e1 e2
   subst e1 e2
   have hde:decide ((s.e:Int)=0)=false:=O2 (by omega)
   simp (disch:=first|assumption|omega) only[go_sem,seval,g1,g2,g3,g4,hdg,hde]
   exact hQ _ M u (by simp only[go_sem,seval,g3]) (by simp only[go_sem,seval,g4]) hd hx hg hob hob1 hg1 hC
 clear g1 g2 g3 g4
 rintro D ⟨he,t,rfl,g1,g2,g3,g4⟩
 rw[O0 (by omega)] at hE
 change wp _ _ _ _ ⟨aj [] t, [],none,M⟩ _
 rw[qL]
 have hl:(Tok.l (aH L s.a)).length=4:=rfl
 refine Oq (fun D=>∃t' M2,D=⟨t', [],none,M2⟩/\Chg [] M M2/\uK (gw (aH L s.a))=true/\NT.get D4.e t'=some (.ptr r 0)/\NT.get D4.e.a t'=some (ii d)/\NT.get D4.e.f t'=some (.ptr b1 0)/\NT.get D4.e.a.a t'=some (.ptr b2 0)/\NT.get D4.e.a.c t'=some (u8 (gw (aH L s.a)))) (fun R hR=> ?_) ?_
 ·simp (disch:=first|assumption|omega) only[go_sem,seval,g1,g2,g3,g4,hdg]
  refine WF.use1H (iA hc (hc.chg h0 hC) hd) ?_
  intro M2 hC2
  generalize hT:aH L s.a=T at hE hl hR
  have out:∀(l:List (AK×NO)) (k:Nat) (t':Tm),uK (gw T)=false->NT.get D4.e.f t'=some (.ptr b1 0)->NT.get D4.e.a.a t'=some (.ptr b2 0)->aE l= []->Q (.exit 0) ⟨aj [] t', [],none,hp l k M2⟩:=by
   intro l k t' hop q1 q2 ho
   rw[O1 hop] at hE
   injection hE with e1 e2
   subst e1 e2
   have hC3:=fy (k:=k) hC2 ho
   exact hQ _ _ u q1 q2 (hd.chg hC3 (by simp)) (hx.stays (wE hC3 _)) ((hC3.get hob (by simp)).trans hg) (hC3.old hob) (hC3.old hob1) ((hC3.get hob1 (by simp)).trans hg1) (hC.trans hC3 (by simp))
  by_cases h3:T.k=3
  ·by_cases h1:T.t.length=1
   ·obtain ⟨c,hc1⟩:=List.length_eq_one_iff.mp h1
    have hopc:gw T=c:=by unfold gw;rw[O1 ⟨h3,h1⟩,hc1];rfl
    have h00:T.t[0]? =some c:=by rw[hc1];rfl
    rw[hopc] at hR out
    by_cases hop:uK c=true
    ·have hcs:=of_decide_eq_true hop
     rcases hcs with rfl|rfl|rfl|rfl|rfl|rfl<;>simp (disch:=first|assumption|omega|(simp only[aU]<;>omega)) only[go_sem,seval,g1,g2,g3,g4,hl,oX,uk,h3,h1,h00]<;>exact hR _ ⟨_,_,rfl,fy hC2 rfl,hop,by simp only[go_sem,seval,g1],by simp only[go_sem,seval,g2],by simp only[go_sem,seval,g3],by simp only[go_sem,seval,g4],by simp only[go_sem,seval]<;>rfl⟩
    ·have hop':uK c=false:=by simpa using hop
     have hcs:=of_decide_eq_false hop'
     simp (disch:=first|assumption|omega|(simp only[aU]<;>omega)) only[go_sem,seval,g1,g2,g3,g4,hl,oX,uk,h3,h1,h00]
     exact out _ _ _ hop' (by simp only[go_sem,seval,g3]) (by simp only[go_sem,seval,g4]) rfl
   ·have hopc:gw T=0:=by unfold gw;rw[O0 (fun h=>h1 h.2)]
    rw[hopc] at hR out
    simp (disch:=first|assumption|omega|(simp only[aU]<;>omega)) only[go_sem,seval,g1,g2,g3,g4,hl,oX,uk,h3]
    exact out _ _ _ rfl (by simp only[go_sem,seval,g3]) (by simp only[go_sem,seval,g4]) rfl
  ·have hopc:gw T=0:=by unfold gw;rw[O0 (fun h=>h3 h.1)]
   rw[hopc] at hR out
   simp (disch:=first|assumption|omega|(simp only[aU]<;>omega)) only[go_sem,seval,g1,g2,g3,g4,hl,oX,uk]
   exact out _ _ _ rfl (by simp only[go_sem,seval,g3]) (by simp only[go_sem,seval,g4]) rfl
 clear g1 g2 g3 g4
 rintro D ⟨t,M2,rfl,hC2,hop,g1,g2,g3,g4,g5⟩
 have hlt:=qU hop
 rw[O0 (by simp[hop])] at hE
 generalize gw (aH L s.a)=o at hE g5
 change wp _ _ _ _ ⟨aj [] t, [],none,M2⟩ _
 rw[←aa M2]
 have hd2:=hd.chg hC2 (by simp)
 have hdg2:=hd2.g
 have hdo2:=hd2.o
 simp (disch:=first|assumption|omega|(simp only[aU]<;>omega)) only[go_sem,seval,g1,g2,g3,g4,g5,hdg2]
 generalize hM3:hp _ 0 M2=M3
 have hC3:Chg [r] M2 M3:=bh hM3 rfl
 have hd3:RD M3 r vl (ai s) rest:=⟨by rw[←hM3];exact (aJ hdo2).trans au,hC3.old hdo2⟩
 have hC03:Chg [r] m M3:=(hC.trans hC2 (by simp)).trans hC3 fun _ h _=>h
 have nb1:b1∉ [r]:=by simp;rintro rfl;exact hb1 horm
 have nb2:b2∉ [r]:=by simp;rintro rfl;exact hb2 horm
 have hCb:∀{M M':NH} {z:List NV} {b:D4},Chg [r] M M'->b∉ [r]->am M b->M.get b=some (.cells true z)->M'.get b=some (.cells true z)/\am M' b:=fun h hn ho hg=>⟨(h.get ho hn).trans hg,h.old ho⟩
 have hC23:Chg [r] M M3:=(hC2.weak (by simp)).trans hC3 fun _ h _=>h
 refine WF.use (hP (hc.chg h0 hC03) hd3 hlt) ?_
 rintro v4 M4 ⟨⟨w,rfl,hy4⟩,hd4,hC4⟩
 have hst4:=hst (ai s)
 have hsz4:=hsz (ai s)
 have hna:(ai s).a=s.a+1:=rfl
 have hlim:=hst4.lim hlt
 generalize hP4:P (ai s)=p4 at hy4 hd4 hE hst4 hsz4 hlim
 obtain ⟨y,s4⟩:=p4
 dsimp only at hy4 hd4 hE hst4 hsz4 hlim
 have hC24:Chg [r] M M4:=hC23.trans hC4 fun _ h _=>h
 obtain ⟨hg4,ho4⟩:=hCb hC24 nb2 hob hg
 obtain ⟨hg14,ho14⟩:=hCb hC24 nb1 hob1 hg1
 have hx4:RE M4 (fun i=>¬am m i/\i≠b1/\i≠b2) x (x.l u):=hx.stays (aS.of hC24 fun i hi hs=>by
  have hs:=one hs;subst hs;exact hi.1 horm)
 have hC04:Chg [r] m M4:=hC03.trans hC4 fun _ h _=>h
 have hy4':RE M4 (fun i=>¬am m i/\i≠b1/\i≠b2) y (y.l w):=hy4.weak fun i hi=>⟨fun h=>hi (hC03.old h),fun h=>hi (h▸hC23.old hob1),fun h=>hi (h▸hC23.old hob)⟩
 have hyl:(y.l w).length=5:=rfl
 have hxl:(x.l u).length=5:=rfl
 rw[←aa M4]
 by_cases he4:s4.e=0
 ·rw[O0 (by omega)] at hE
  have hys:=hsz4 he4
  have hdg4:=hd4.g
  have hdo4:=hd4.o
  have hyl':(y.l w).take 5=y.l w:=rfl
  have hxl':(x.l u).take 5=x.l u:=rfl
  have hxd:(y.l w).drop 5= []:=rfl
  simp (disch:=first|assumption|omega|(simp only[aU]<;>omega)) only[go_sem,seval,g1,g2,g3,g4,g5,hyl,hdg4,hg4,hxl,hyl',hxl']
  generalize hM5:hp _ 2 M4=M5
  have hC5:Chg [b2] M4 M5:=bh hM5 rfl
  have hg5:M5.get b2=some (.cells true ((pf o x y).l (.slc (na M4 1) 0 2 5 2))):=jO ho4 hM5
  have hk5:M5.get (na M4 1)=some (.cells true (x.l u++y.l w)):=bM hM5
  have hko5:am M5 (na M4 1):=bL hM5 (by omega)
  have hTk:¬am m (na M4 1)/\na M4 1≠b1/\na M4 1≠b2:=⟨fun h=>aB (hC04.old h),fun h=>ho14.ne 1 h.symm,fun h=>ho4.ne 1 h.symm⟩
  have hs5:aS (fun i=>¬am m i/\i≠b1/\i≠b2) M4 M5:=aS.of hC5 fun i hi hs=>by
   simp only[O5,O4,or_false] at hs;exact hi.2.2 hs
  have hxy5:RE M5 (fun i=>¬am m i/\i≠b1/\i≠b2) (pf o x y) ((pf o x y).l (.slc (na M4 1) 0 2 5 2)):=Kr (hx4.stays hs5) (hy4'.stays hs5) hTk hk5 hko5
  have hosz:(pf o x y).sz=1+(x.sz+(y.sz+0)):=by simp[Ex.sz,jY]
  refine WF.use1H (E4 (pf o x y) hxy5 (fun i _ ho=>⟨rfl,ho⟩) (by omega)) ?_
  intro M6 hC6
  have hd5:RD M5 r vl s4 rest:=hd4.chg hC5 (by simp;rintro rfl;exact hb2 horm)
  have hd6:=hd5.chg hC6 (by simp)
  have hC56:Chg [b2] M4 M6:=hC5.trans hC6 (by simp)
  have hxy6:=hxy5.stays (wE hC6 _)
  have hg6:=(hC6.get (hC5.old ho4) (by simp)).trans hg5
  have ho6:=hC56.old ho4
  have ho16:=hC56.old ho14
  have hg16:=(hC56.get ho14 (by simpa using hb12)).trans hg14
  have hC06:Chg [r] m M6:=hC04.trans hC56 fun i hi ho=>by
   have hi:=one hi;subst hi;exact OZ ho hb2
  have he0:=hxs he
  by_cases hdp:30<(pf o x y).depth
  ·rw[O1 hdp] at hE
   simp (disch:=first|assumption|omega) only[go_sem,seval,g1]
   rw[aa]
   refine WF.use1 (gp hd6 11) ?_
   rintro M7 ⟨hd7,hC7⟩
   obtain ⟨hg7,ho7⟩:=hCb hC7 nb2 ho6 hg6
   obtain ⟨hg17,ho17⟩:=hCb hC7 nb1 ho16 hg16
   have hxy7:=hxy6.stays (m':=M7) (aS.of hC7 fun i hi hs=>by
    have hs:=one hs;subst hs;exact hi.1 horm)
   have hfe:(bj 11 s4).e≠0/\(bj 11 s4).a=s4.a:=by unfold bj;rw[O1 he4];exact ⟨by show (11:Nat)≠0;omega,rfl⟩
   simp (disch:=first|assumption|omega) only[go_sem,seval]
   refine ⟨f,by omega,_,M7,pf o x y,_,_,f,by rfl,by simp only[go_sem,seval,g1],by simp only[go_sem,seval,g2],by simp only[go_sem,seval,g3],by simp only[go_sem,seval,g4],hd7,hxy7,hg7,ho7,ho17,hg17,by rw[hfe.2];exact hlim,fun h=>OZ h hfe.1,by omega,hC06.trans hC7 fun _ h _=>h,hE, ?_,rfl⟩
   have:=hst4.le
   rw[hfe.2];omega
  ·rw[O0 hdp] at hE
   simp (disch:=first|assumption|omega) only[go_sem,seval,g1]
   refine ⟨f,by omega,_,M6,pf o x y,_,_,f,by rw[aa],by simp only[go_sem,seval,g1],by simp only[go_sem,seval,g2],by simp only[go_sem,seval,g3],by simp only[go_sem,seval,g4],hd6,hxy6,hg6,ho6,ho16,hg16,hlim,fun h=>by omega,by omega,hC06,hE, ?_,rfl⟩
   have:=hst4.le
   omega
 ·rw[O1 he4] at hE
  injection hE with e1 e2
  subst e1 e2
  have hdg4:=hd4.g
  have hdo4:=hd4.o
  simp (disch:=first|assumption|omega|(simp only[aU]<;>omega)) only[go_sem,seval,g1,g2,g3,g4,g5,hyl,hdg4]
  generalize hM5:hp _ 1 M4=M5
  have hC5:Chg [] M4 M5:=bh hM5 rfl
  exact hQ _ M5 u (by simp only[go_sem,seval,g3]) (by simp only[go_sem,seval,g4]) (hd4.chg hC5 (by simp)) (hx4.stays (wE hC5 _)) ((hC5.get ho4 (by simp)).trans hg4) (hC5.old ho4) (hC5.old ho14) ((hC5.get ho14 (by simp)).trans hg14) (hC04.trans hC5 (by simp))
end
section
variable {m0:NH} {L:List Tok} {vl:NV} {r:D4} {rest:List NV}
theorem xF (hc:RC m0 L vl r) {E:Rs->Ex×Rs} {d:Nat} (hst:∀s,St L s (E s).2) (hP:IH 173 m0 L vl r rest (cG L E d) d) (hsz:DE (cG L E d)) (hsz1:∀s,s.a<=L.length->(cG L E d s).1.sz<=100000):IH 162 m0 L vl r rest (gW L E d) d:=by
 intro m s h0 hd ha
 refine WF.ex fun K hK=> ?_
 refine WF.of_wpG (fun _=>rfl) sI (L:= [(.a .e,ii d),(.e,.ptr r 0)]) rfl ?_
 unfold Ds
 have hll:=hc.len
 simp (disch:=first|assumption|omega) only[go_sem,seval]
 generalize hM1:hp _ 1 m=M1
 have hC1:Chg [] m M1:=bh hM1 rfl
 have hg1:M1.get (na m 0)=some (.cells true [ii 0,u64 0,u8 0,.str [],.nils]):=bM hM1
 have ho1:am M1 (na m 0):=bL hM1 (by omega)
 have hr0:na m 0≠r:=fun e=>hd.o.ne 0 e.symm
 have hd1:=hd.chg hC1 (by simp)
 refine WF.useH (hP (h0.trans hC1 (by simp)) hd1 ha) ?_
 rintro v2 M2 ⟨⟨u,rfl,hx2⟩,hd2,hC2⟩
 have hst2:=gJ (L:=L) (d:=d) hst s
 have hlim:=hst2.lim ha
 have hsz2:=hsz s
 have hszz:=hsz1 s ha
 have hXS:eG L (cG L E d) (L.length+1) (cG L E d s).1 (cG L E d s).2=((gW L E d s).1,(gW L E d s).2):=rfl
 generalize (gW L E d s).1=X at hXS hK
 generalize (gW L E d s).2=S at hXS hK
 generalize cG L E d s=p at hx2 hd2 hlim hsz2 hszz hXS
 obtain ⟨x,s2⟩:=p
 dsimp only at hx2 hd2 hlim hsz2 hszz hXS
 have hg2:=(hC2.get ho1 (by simpa using hr0)).trans hg1
 have ho2:=hC2.old ho1
 have hxl:(x.l u).length=5:=rfl
 have hC02:Chg [r] m M2:=(hC1.weak (by simp)).trans hC2 fun _ h _=>h
 simp (disch:=first|assumption|omega|(simp only[aU]<;>omega)) only[go_sem,seval,hxl]
 generalize hM3:hp _ 1 M2=M3
 have hC3:Chg [] M2 M3:=bh hM3 rfl
 have hg3:M3.get (na M2 0)=some (.cells true (x.l u)):=bM hM3
 have ho3:am M3 (na M2 0):=bL hM3 (by omega)
 have hx3:RE M3 (fun i=>¬am m i/\i≠na m 0/\i≠na M2 0) x (x.l u):=(hx2.old.stays (wE hC3 _)).weak fun i hi=>⟨fun h=>hi.1 (hC1.old h),fun h=>hi.1 (h▸ho1),fun h=>aB (h▸hi.2)⟩
 refine Aa hc (gJ hst) hsz hP h0 (b1:=na m 0) (b2:=na M2 0) aB (fun h=>aB (hC02.old h)) (fun e=>ho2.ne 0 e) hd.o (hd2.chg hC3 (by simp)) hx3 hg3 ho3 (hC3.old ho2) ((hC3.get ho2 (by simp)).trans hg2) hlim (fun h=>by have:=hsz2 h;omega) hszz (hC02.trans hC3 (by simp)) hXS (by simp only[go_sem,seval]) (by simp only[go_sem,seval]) (by simp only[go_sem,seval]) (by simp only[go_sem,seval]) ?_
 intro t' M' u' q1 q2 q3 q4 q5 q6 q7 q8 q9
 have hXl:(X.l u').length=5:=rfl
 have hXl':(X.l u').take 5=X.l u':=rfl
 rw[←aa M']
 simp (disch:=first|assumption|omega|(simp only[aU]<;>omega)) only[go_sem,seval,q1,q2,q5,q8,hXl,hXl']
 generalize hM5:hp _ 0 M'=M5
 have hC5:Chg [na m 0] M' M5:=bh hM5 rfl
 have hx5:RE M5 (n8 m) X (X.l u'):=(q4.stays (m':=M5) (aS.of hC5 fun i hi hs=>by
  simp only[O5,O4,or_false] at hs;exact hi.2.1 hs)).weak fun i hi=>hi.1
 exact hK _ _ ⟨⟨u',rfl,hx5⟩,q3.chg hC5 (by simpa using hr0.symm),q9.trans hC5 fun i hi ho=>by
  have hi:=one hi;subst hi;exact OZ ho aB⟩
theorem DW {P:Rs->Ex×Rs} (hst:∀s,St L s (P s).2) (hsz:DE P):∀(f:Nat) (x:Ex) (s:Rs),s.a<=L.length->(s.e=0->x.sz<=s.a)->x.sz<=L.length+1->(eG L P f x s).1.sz<=L.length+1:=by
 intro f
 induction f with
 |zero=>intro x s _ _ h;exact h
 |succ f ih=>
  intro x s ha h1 h2
  rw[eG]
  split
  ·exact h2
  ·split
   ·exact h2
   ·rename_i q1 q2
    have hlt:=qU (L:=L) (a:=s.a) (by simpa using q2)
    have h3:=(hst (ai s)).lim hlt
    split
    ·exact h2
    ·rename_i q3
     have h5:=hsz (ai s) (by omega)
     have h6:=h1 (by omega)
     have h7:(ai s).a=s.a+1:=rfl
     have h8:(pf (gw (aH L s.a)) x (P (ai s)).1).sz=1+(x.sz+((P (ai s)).1.sz+0)):=by simp[Ex.sz,jY]
     have hfa:∀e,(bj e (P (ai s)).2).a=(P (ai s)).2.a:=fun e=>by unfold bj;split<;>rfl
     refine ih _ _ ?_ ?_ (by omega)
     ·split
      ·rw[hfa];exact h3
      ·exact h3
     ·split
      ·rw[hfa];omega
      ·omega
theorem sv {E:Rs->Ex×Rs} {d:Nat} (hst:∀s,St L s (E s).2) (hsz:DE (cG L E d)) (hp1:∀s,s.a<=L.length->(cG L E d s).1.sz<=L.length+1) (s:Rs) (ha:s.a<=L.length):(gW L E d s).1.sz<=L.length+1:=
 DW (gJ hst) hsz _ _ _ ((gJ (L:=L) (d:=d) hst s).lim ha) (fun h=>by have:=hsz s h;omega) (hp1 s ha)
theorem mg {E:Rs->Ex×Rs} {d:Nat} (hE:∀s,s.a<=L.length->(E s).1.sz<=L.length+1) (s:Rs) (ha:s.a<=L.length):(cG L E d s).1.sz<=L.length+1:=by
 unfold cG
 split
 ·simp[zE,Ex.sz,jY]
 ·split
  ·simp[zE,Ex.sz,jY]
  ·split
   ·simp[Ex.sz,jY]
   ·split
    ·simp[Ex.sz,jY]
    ·split
     ·rename_i h;exact hE _ (bB h).2
     ·simp[zE,Ex.sz,jY]
theorem Da:∀(n:Nat) (s:Rs),s.a<=L.length->(iQ L n s).1.sz<=L.length+1:=by
 intro n
 induction n with
 |zero=>exact fun s ha=>sv (fun s=>St.refl _ s) (nT L _) (mg fun s _=>by simp[zE,Ex.sz,jY]) s ha
 |succ n ih=>exact fun s ha=>sv (b7 L n) (qg (b7 L n) (qy L n)) (mg ih) s ha
theorem JT (hc:RC m0 L vl r):∀n,n<=30->IH 162 m0 L vl r rest (iQ L n) (30 - n):=by
 have hll:=hc.len
 intro n
 induction n with
 |zero=>
  intro _
  have e2:iQ L 0=gW L (fun s=>(zE,s)) 30:=by funext s;rfl
  rw[e2]
  intro m s
  exact xF (E:=fun s=>(zE,s)) hc (fun s=>St.refl _ s) (Bq hc (fun s=>St.refl _ s) (fun h=>by omega) (by omega)) (nT L _) fun s ha=>by have:=mg (L:=L) (E:=fun s=>(zE,s)) (d:=30) (fun s _=>by simp[zE,Ex.sz,jY]) s ha;omega
 |succ n ih=>
  intro hn
  have e:30 - (n+1)=29 - n:=by omega
  have h1:29 - n+1=30 - n:=by omega
  have e2:iQ L (n+1)=gW L (iQ L n) (29 - n):=by funext s;rfl
  rw[e,e2]
  intro m s
  exact xF hc (b7 L n) (Bq hc (b7 L n) (fun _=>by rw[h1];exact ih (by omega)) (by omega)) (qg (b7 L n) (qy L n)) fun s ha=>by have:=mg (d:=29 - n) (Da n) s ha;omega
end
section
variable (L:List Tok)
abbrev d8 (s:Rs):Ex×Rs:=iQ L 30 s
def bc (s:Rs):List Nat×Ex×Rs:=if aT L [91] (aY L s).2=true then ((aY L s).1,(d8 L (ai (aY L s).2)).1,aW L [93] (d8 L (ai (aY L s).2)).2) else ((aY L s).1,zE,(aY L s).2)
def sK (x:Stm) (s:Rs):Stm×Rs:=(x,aW L [59] s)
def Lw (p:Int) (s:Rs):Stm×Rs:=sK L (.mk 0 p (aY L s).1 [] zE (d8 L (aY L s).2).1 zE [] []) (d8 L (aY L s).2).2
def Gq (p:Int) (s:Rs):Stm×Rs:=sK L (.mk 1 p (aY L s).1 (bc L (aY L s).2).1 (bc L (aY L s).2).2.1 zE zE [] []) (bc L (aY L s).2).2.2
def Df (p:Int) (s:Rs):Stm×Rs:=sK L (.mk 2 p [] (bc L s).1 (bc L s).2.1 (d8 L (bc L s).2.2).1 zE [] []) (d8 L (bc L s).2.2).2
def Lh (p:Int) (s:Rs):Stm×Rs:=sK L (.mk 3 p (aY L s).1 (bc L (aY L s).2).1 (bc L (aY L s).2).2.1 (d8 L (bc L (aY L s).2).2.2).1 (d8 L (d8 L (bc L (aY L s).2).2.2).2).1 [] []) (d8 L (d8 L (bc L (aY L s).2).2.2).2).2
def KO (p:Int) (s:Rs):Stm×Rs:=sK L (.mk 5 p [] [] zE (d8 L s).1 zE [] []) (d8 L s).2
def Jf (B:Rs->List Stm×Rs) (p:Int) (s:Rs):Stm×Rs:=
 if aT L [101,108,115,101] (B (d8 L s).2).2=true then (.mk 6 p [] [] zE (d8 L s).1 zE (B (d8 L s).2).1 (B (ai (B (d8 L s).2).2)).1,(B (ai (B (d8 L s).2).2)).2)
 else (.mk 6 p [] [] zE (d8 L s).1 zE (B (d8 L s).2).1 [],(B (d8 L s).2).2)
def Bv (B:Rs->List Stm×Rs) (p:Int) (s:Rs):Stm×Rs:=(.mk 7 p [] [] zE (d8 L s).1 zE (B (d8 L s).2).1 [],(B (d8 L s).2).2)
def cB (B:Rs->List Stm×Rs) (s:Rs):Stm×Rs:=
 if aT L [115,101,116] s=true then Lw L (aH L s.a).p (ai s)
 else if aT L [108,111,97,100] s=true then Gq L (aH L s.a).p (ai s)
 else if aT L [115,116,111,114,101] s=true then Df L (aH L s.a).p (ai s)
 else if aT L [99,97,115] s=true then Lh L (aH L s.a).p (ai s)
 else if aT L [102,101,110,99,101] s=true then sK L (.mk 4 (aH L s.a).p [] [] zE zE zE [] []) (ai s)
 else if aT L [111,117,116] s=true then KO L (aH L s.a).p (ai s)
 else if aT L [105,102] s=true then Jf L B (aH L s.a).p (ai s)
 else if aT L [119,104,105,108,101] s=true then Bv L B (aH L s.a).p (ai s)
 else sK L (.mk 0 (aH L s.a).p [] [] zE zE zE [] []) (bj 2 s)
def e7 (S:Rs->Stm×Rs):Nat->List Stm->Rs->List Stm×Rs
 |0,l,s=>(l,s)
 |f+1,l,s=>if s.e≠0 then (l,s) else if aT L [125] s=true then (l,ai s) else e7 S f (l++ [(S s).1]) (S s).2
def dC (d:Nat) (s:Rs):Rs:=if s.e=0/\29<d/\(aH L s.a).k=3/\(aH L s.a).t= [123] then bj 11 s else s
def iI (S:Rs->Stm×Rs) (d:Nat) (s:Rs):List Stm×Rs:=e7 L S (L.length+1) [] (aW L [123] (dC L d s))
def dk:Nat->Rs->List Stm×Rs
 |0,s=>iI L (fun s=>(.mk 0 0 [] [] zE zE zE [] [],bj 2 s)) 30 s
 |n+1,s=>iI L (cB L (dk n)) (29 - n) s
end
section
variable {m0:NH} {L:List Tok} {vl:NV} {r:D4} {rest:List NV}
theorem ee (s:Rs):St L s (bc L s).2.2:=by
 unfold bc
 split
 ·rename_i h;exact (((cq L s).trans (d7 h)).trans (b7 L 30 _)).trans (bN _ _ _)
 ·exact cq L s
theorem Gk (hc:RC m0 L vl r):IH 162 m0 L vl r rest (d8 L) 0:=by
 intro m s
 exact JT hc 30 (Nat.le_refl _)
theorem qf (hc:RC m0 L vl r) {m:NH} {s:Rs} (h0:Chg [] m0 m) (hd:RD m r vl s rest) (ha:s.a<=L.length) {pb:D4} (hpr:pb≠r) (hop:am m pb) (hnp:¬am m0 pb) {c0 c1 c2 c3:NV} {c:List NV} (hl:c.length=12)
 (hg:m.get pb=some (.cells true (c0::c1::c2::c3::ii 0::u64 0::u8 0:: .str []:: .nils::c))):
 ∃m',bp Try.prog S0 163 [.ptr r 0,.ptr pb 0] m (.tup []) m'/\∃u,m'.get pb=some (.cells true (c0::c1::c2:: .str (bc L s).1::((bc L s).2.1.l u++c)))/\RE m' (n8 m) (bc L s).2.1 ((bc L s).2.1.l u)/\RD m' r vl (bc L s).2.2 rest/\Chg [r,pb] m m':=by
 refine WF.ex1 fun K hK=> ?_
 refine WF.of_wpG (fun _=>rfl) sj (L:= [(.a .e,.ptr pb 0),(.e,.ptr r 0)]) rfl ?_
 unfold BM
 have hll:=hc.len
 have hrp:r≠pb:=fun e=>hpr e.symm
 simp (disch:=first|assumption|omega) only[go_sem,seval,aa]
 refine WF.use1H (li hc h0 hd (by omega)) ?_
 rintro M1 ⟨hd1,hC1⟩
 have hst1:=cq L s
 unfold bc at hK
 generalize aY L s=q at hK hd1 hst1
 obtain ⟨n,s1⟩:=q
 dsimp only at hK hd1 hst1
 have hg1:=(hC1.get hop (by simpa using hpr)).trans hg
 have ho1:=hC1.old hop
 simp (disch:=first|assumption|omega|(simp only[aU]<;>omega)) only[go_sem,seval,hg1]
 generalize hM2:hp _ 0 M1=M2
 have hC2:Chg [pb] M1 M2:=bh hM2 rfl
 have hg2:M2.get pb=some (.cells true (c0::c1::c2:: .str n::ii 0::u64 0::u8 0:: .str []:: .nils::c)):=jO ho1 hM2
 have ho2:=hC2.old ho1
 have hd2:=hd1.chg hC2 (by simpa using hrp)
 have hC02:Chg [r,pb] m M2:=(hC1.weak (by simp)).trans hC2 (by simp)
 have hlim:=hst1.lim ha
 have hbase:∀{M},Chg [r,pb] m M->Chg [] m0 M:=fun h=>h0.trans h fun i hi ho=>by
  simp only[O5,O4,or_false] at hi
  rcases hi with rfl|rfl
  ·exact OZ ho hc.no
  ·exact OZ ho hnp
 refine WF.use1H (de hc (hbase hC02) hd2 [91] (by simp) (by omega)) ?_
 rintro M3 ⟨hd3,hC3⟩
 have hg3:=(hC3.get ho2 (by simpa using hpr)).trans hg2
 have ho3:=hC3.old ho2
 have hC03:Chg [r,pb] m M3:=hC02.trans hC3 (by intro i hi _;simp at hi ⊢;exact Or.inl hi)
 cases hb:aT L [91] s1 with
 |true=>
  rw[hb,O1 rfl] at hK hd3
  have hlt:=(bB hb).2
  simp (disch:=first|assumption|omega) only[go_sem,seval,aa]
  refine WF.useH (Gk hc (hbase hC03) hd3 hlt) ?_
  rintro v4 M4 ⟨⟨u,rfl,hx4⟩,hd4,hC4⟩
  have hst4:=b7 L 30 (ai s1)
  have hlim4:=hst4.lim hlt
  dsimp only at hK
  generalize hq:d8 L (ai s1)=q at hK hx4 hd4
  have hq':iQ L 30 (ai s1)=q:=hq
  rw[hq'] at hlim4
  obtain ⟨x,s4⟩:=q
  dsimp only at hK hx4 hd4 hlim4
  have hg4:=(hC4.get ho3 (by simpa using hpr)).trans hg3
  have ho4:=hC4.old ho3
  have hxl:(x.l u).length=5:=rfl
  simp (disch:=first|assumption|omega|(simp only[aU]<;>omega)) only[go_sem,seval,hg4,hxl,hl]
  generalize hM5:hp _ 0 M4=M5
  have hC5:Chg [pb] M4 M5:=bh hM5 rfl
  have hg5:M5.get pb=some (.cells true (c0::c1::c2:: .str n::(x.l u++c))):=jO ho4 hM5
  have ho5:=hC5.old ho4
  have hC04:Chg [r,pb] m M4:=hC03.trans hC4 (by intro i hi _;simp at hi ⊢;exact Or.inl hi)
  have hC05:Chg [r,pb] m M5:=hC04.trans hC5 (by simp)
  refine WF.use1H (fV hc (hbase hC05) (hd4.chg hC5 (by simpa using hrp)) [93] (by simp) (by omega)) ?_
  rintro M6 ⟨hd6,hC6⟩
  simp (disch:=first|assumption|omega) only[go_sem,seval,aa]
  refine hK _ ⟨u,(hC6.get ho5 (by simpa using hpr)).trans hg5, ?_,hd6,hC05.trans hC6 (by intro i hi _;simp at hi ⊢;exact Or.inl hi)⟩
  refine ((hx4.chg hC5 ?_).chg hC6 ?_).new fun i hi=>hC03.old hi
  ·intro i hi;have hi:=one hi;subst hi;exact ho3
  ·intro i hi;have hi:=one hi;subst hi;exact hd3.o
 |false=>
  rw[hb,O0 Bool.false_ne_true] at hK hd3
  simp (disch:=first|assumption|omega) only[go_sem,seval,aa]
  exact hK _ ⟨.nils,hg3,z9 _ _ 0 0 0 [],hd3,hC03⟩
end
def Og (m0:NH) (L:List Tok) (vl:NV) (r:D4) (rest:List NV) (S:Rs->Stm×Rs) (d:Nat):Prop:=∀{m:NH} {s:Rs},Chg [] m0 m->RD m r vl s rest->s.a<=L.length->
 ∃v m',bp Try.prog S0 135 [.ptr r 0,ii d] m v m'/\(∃w,v= .agg ((S s).1.l w)/\RS m' (n8 m) (S s).1 ((S s).1.l w))/\RD m' r vl (S s).2 rest/\Chg [r] m m'
def Nj (m0:NH) (L:List Tok) (vl:NV) (r:D4) (rest:List NV) (B:Rs->List Stm×Rs) (d:Nat):Prop:=∀{m:NH} {s:Rs},Chg [] m0 m->RD m r vl s rest->s.a<=L.length->
 ∃v m',bp Try.prog S0 88 [.ptr r 0,ii d] m v m'/\(∃C,SS m' (n8 m) v (B s).1 C)/\RD m' r vl (B s).2 rest/\Chg [r] m m'
section
variable {m0:NH} {L:List Tok} {vl:NV} {r:D4} {rest:List NV}
theorem j7 (d:Nat) (s:Rs):St L s (dC L d s):=by
 unfold dC
 split
 ·exact bY _ _ _
 ·exact St.refl _ _
theorem zI (hc:RC m0 L vl r) {S:Rs->Stm×Rs} {d:Nat} (hst:∀s,St L s (S s).2) (hpr:∀s,s.e=0->s.a<(S s).2.a∨(S s).2.e≠0) (hS:d<=29->Og m0 L vl r rest S d) (hd29:∀s:Rs,d=30->True) {m:NH} (h0:Chg [] m0 m) (horm:am m r)
 {X:List Stm} {Z:Rs} {M:NH} {s:Rs} (hde:s.e≠0∨d<=29) (hd:RD M r vl s rest) (ha:s.a<=L.length) (hC:Chg [r] m M) (hE:e7 L S (L.length+1) [] s=(X,Z))
 {t:Tm} (g1:NT.get D4.e t=some (.ptr r 0)) (g2:NT.get D4.e.a t=some (ii d)) (g3:NT.get D4.e.a.a t=some .nils) {Q:Out->Dyn->Prop}
 (hQ:∀t' M' v C,NT.get D4.e.a.a t'=some v->RD M' r vl Z rest->SS M' (n8 m) v X C->Chg [r] m M'->Q (.exit 0) ⟨aj [] t', [],none,M'⟩):
 W Try.prog S0 none p9.loop ⟨t, [],none,M⟩ Q:=by
 refine W.loop (fun k D=>∃t M l s v C,D=⟨t, [],none,M⟩/\NT.get D4.e t=some (.ptr r 0)/\NT.get D4.e.a t=some (ii d)/\NT.get D4.e.a.a t=some v/\(s.e≠0∨d<=29)/\RD M r vl s rest/\bf m M v 21 C/\C.length=l.length/\(∀(j:Nat) (x:Stm) (c:List NV),l[j]? =some x->C[j]? =some c->RS M (fun i=>¬am m i/\i∉ids v) x c)/\s.a<=L.length/\Chg [r] m M/\e7 L S k l s=(X,Z)/\(L.length<k+s.a∨s.e≠0)/\l.length+k<=L.length+1) ?_ (L.length+1) _ ⟨t,M, [],s,.nils, [],rfl,g1,g2,g3,hde,hd,bf.nil,rfl,by simp,ha,hC,hE,Or.inl (by omega),by simp⟩
 clear hde hd ha hC hE g1 g2 g3
 rintro k D ⟨t,M,l,s,v,C,rfl,g1,g2,g3,hde,hd,hv,hcl,hR,ha,hC,hE,hf,hlk⟩
 apply az
 unfold p9
 change wp _ _ _ _ ⟨aj [] t, [],none,M⟩ _
 have hll:=hc.len
 have hdg:=hd.g
 by_cases he:s.e=0
 ·obtain ⟨f,rfl⟩:∃f',k=f'+1:=⟨k - 1,by rcases hf with h|h<;>omega⟩
  rw[e7,O0 (by omega)] at hE
  simp (disch:=first|assumption|omega) only[go_sem,seval,g1,g2,g3,hdg]
  refine WF.use1H (de hc (hc.chg h0 hC) hd [125] (by simp) (by omega)) ?_
  rintro M2 ⟨hd2,hC2⟩
  have hrv:∀i∈ids v,i∉ [r]:=fun i hi h=>by
   have h:=one h;subst h;exact hv.new _ hi horm
  have hv2:=hv.chg hC2 hrv
  have hC02:Chg [r] m M2:=hC.trans hC2 fun _ h _=>h
  have hst2:aS (fun i=>¬am m i/\i∉ids v) M M2:=aS.of hC2 fun i hi hs=>by
   have hs:=one hs;subst hs;exact hi.1 horm
  cases hb:aT L [125] s with
  |true=>
   rw[hb,O1 rfl] at hE hd2
   injection hE with e1 e2
   subst e1 e2
   simp (disch:=first|assumption|omega) only[go_sem,seval,g1,g2,g3,aa]
   exact hQ _ M2 v C (by simp only[go_sem,seval,g3]) hd2 ⟨hv2.sl,fun i hi=>hv2.new i hi,hcl,fun j x c h1 h2=>((hR j x c h1 h2).stays hst2).weak fun i hi=>hi.1⟩ hC02
  |false=>
   rw[hb,O0 Bool.false_ne_true] at hE hd2
   simp (disch:=first|assumption|omega) only[go_sem,seval,g1,g2,g3,aa]
   refine WF.useH (hS (by omega) (hc.chg h0 hC02) hd2 ha) ?_
   rintro v3 M3 ⟨⟨w,rfl,hx3⟩,hd3,hC3⟩
   have hlim:=(hst s).lim ha
   have hpr':=hpr s he
   generalize S s=q at hE hx3 hd3 hlim hpr'
   obtain ⟨x,s3⟩:=q
   dsimp only at hE hx3 hd3 hlim hpr'
   have hxl:(x.l w).length=21:=rfl
   have hxl':(x.l w).take 21=x.l w:=rfl
   simp (disch:=first|assumption|omega|(simp only[aU]<;>omega)) only[go_sem,seval,g1,g2,g3,hxl]
   have hC4:Chg [] M3 (hp [(.n 0,.cells true (x.l w))] 1 M3):=aF rfl
   have hv3:=hv2.chg hC3 hrv
   have hC03:Chg [r] m M3:=hC02.trans hC3 fun _ h _=>h
   refine ir (cs:=x.l w) (hv3.chg hC4 fun _ _=>by simp) bP (bW (by omega)) hxl (fun i hi=>hC4.old (hC03.old hi)) (by omega) (by omega) ?_
   intro v5 M5 hv5 hC5 hF5
   generalize hM4:hp [(.n 0,.cells true (x.l w))] 1 M3=M4 at hC4 hC5 hF5
   have hC34:Chg [r] M2 M4:=hC3.trans hC4 (by simp)
   have hd5:RD M5 r vl s3 rest:=(hd3.chg hC4 (by simp)).chg hC5 fun h=>hv.new _ h horm
   have hC05:Chg [r] m M5:=(hC02.trans hC34 fun _ h _=>h).trans hC5 fun i hi ho=>OZ ho (hv.new i hi)
   have hlen5:(l++ [x]).length=l.length+1:=by simp
   simp (disch:=first|assumption|omega) only[go_sem,seval,g1,g2,g3]
   refine ⟨f,by omega,_,M5,l++ [x],s3,v5,C++ [x.l w],by rfl,by simp only[go_sem,seval,g1],by simp only[go_sem,seval,g2],by simp only[go_sem,seval], ?_,hd5,hv5,by simp[hcl], ?_,hlim,hC05,hE, ?_,by omega⟩
   ·rcases hde with h|h
    ·exact OZ he h
    ·exact Or.inr h
   ·have hold:∀(j:Nat) (y:Stm) (c:List NV),l[j]? =some y->C[j]? =some c->RS M5 (fun i=>¬am m i/\i∉ids v5) y c:=fun j y c h1 h2=>by
     have a1:=((hR j y c h1 h2).stays hst2).stays (m':=M4) (aS.of hC34 fun i hi hs=>by
      have hs:=one hs;subst hs;exact hi.1 horm)
     have a2:=a1.old.stays (m':=M5) (aS.of hC5 fun i hi hs=>hi.1.2 hs)
     exact a2.weak fun i hi=>⟨hi.1.1,fun h=>(hF5 i h).elim hi.1.2 fun q=>q hi.2⟩
    have hnew:RS M5 (fun i=>¬am m i/\i∉ids v5) x (x.l w):=by
     have a1:RS M4 (n8 M2) x (x.l w):=hx3.chg hC4 (by simp)
     have a2:=a1.old.stays (m':=M5) (aS.of hC5 fun i hi hs=>hi.1 (hv2.sl.old i hs))
     exact a2.weak fun i hi=>⟨fun h=>hi.1 (hC02.old h),fun h=>(hF5 i h).elim (fun q=>hi.1 (hv2.sl.old i q)) fun q=>q hi.2⟩
    intro j y c h1 h2
    rcases Nat.lt_or_ge j l.length with h|h
    ·rw[List.getElem?_append_left h] at h1
     rw[List.getElem?_append_left (by omega)] at h2
     exact hold j y c h1 h2
    ·rw[List.getElem?_append_right h] at h1
     rw[List.getElem?_append_right (by omega),hcl] at h2
     cases hj:j - l.length with
     |zero=>rw[hj] at h1 h2;cases h1;cases h2;exact hnew
     |succ n=>rw[hj] at h1;simp at h1
   ·rcases hpr' with h|h
    ·left;rcases hf with q|q<;>omega
    ·exact Or.inr h
 ·have hde':decide ((s.e:Int)=0)=false:=O2 (by omega)
  have hE':(l,s)=(X,Z):=by
   cases k with
   |zero=>exact hE
   |succ k=>rw[e7,O1 he] at hE;exact hE
  injection hE' with e1 e2
  subst e1 e2
  simp (disch:=first|assumption|omega) only[go_sem,seval,g1,g2,g3,hdg,hde']
  exact hQ _ M v C (by simp only[go_sem,seval,g3]) hd ⟨hv.sl,fun i hi=>hv.new i hi,hcl,fun j x c h1 h2=>(hR j x c h1 h2).weak fun i hi=>hi.1⟩ hC
theorem x7 (hc:RC m0 L vl r) {S:Rs->Stm×Rs} {d:Nat} (hst:∀s,St L s (S s).2) (hpr:∀s,s.e=0->s.a<(S s).2.a∨(S s).2.e≠0) (hS:d<=29->Og m0 L vl r rest S d):Nj m0 L vl r rest (iI L S d) d:=by
 intro m s h0 hd ha
 refine WF.ex fun K hK=> ?_
 refine WF.of_wpG (fun _=>rfl) yk (L:= [(.a .e,ii d),(.e,.ptr r 0)]) rfl ?_
 unfold JW
 have hll:=hc.len
 have hdg:=hd.g
 refine MT (fun D=>D=⟨aj [(D4.e.a.a,.nils),(D4.e.f,.nils),(D4.e.a,ii d),(D4.e,.ptr r 0)] .leaf, [],none,m⟩) (fun R hR=> ?_) ?_
 ·simp (disch:=first|assumption|omega) only[go_sem,seval,aa]
  exact hR _ rfl
 rintro D rfl
 refine sW (fun D=>∃t M,D=⟨t, [],none,M⟩/\NT.get D4.e t=some (.ptr r 0)/\NT.get D4.e.a t=some (ii d)/\NT.get D4.e.a.a t=some .nils/\RD M r vl (dC L d s) rest/\Chg [r] m M) (fun R hR=> ?_) ?_
 ·have no:∀(t:Tm) (M:NH),NT.get D4.e t=some (.ptr r 0)->NT.get D4.e.a t=some (ii d)->NT.get D4.e.a.a t=some .nils->dC L d s=s->Chg [] m M->R ⟨t, [],none,M⟩:=fun t M q1 q2 q3 q4 q5=>hR _ ⟨t,M,rfl,q1,q2,q3,by rw[q4];exact hd.chg q5 (by simp),q5.weak (by simp)⟩
  by_cases he:s.e=0
  ·by_cases h29:29<d
   ·obtain ⟨M1,hr1,hC1⟩:=iA hc h0 hd
    have hd1:=hd.chg hC1 (by simp)
    obtain ⟨M2,hr2,hC2⟩:=iA hc (h0.trans hC1 (by simp)) hd1
    have hd2:=hd1.chg hC2 (by simp)
    have hl0:(aH L s.a).l[0]? =some (ii (aH L s.a).k):=rfl
    have hl1:(aH L s.a).l[1]? =some (.str (aH L s.a).t):=rfl
    by_cases hk:(aH L s.a).k=3
    ·by_cases ht:(aH L s.a).t= [123]
     ·simp (disch:=first|assumption|omega) only[go_sem,seval,hdg,hr1.wf',hr2.wf',hl0,hl1]
      refine WF.use1 (gp hd2 11) ?_
      rintro M3 ⟨hd3,hC3⟩
      simp (disch:=first|assumption|omega) only[go_sem,seval]
      refine hR _ ⟨_,M3,rfl,by simp only[go_sem,seval],by simp only[go_sem,seval],by simp only[go_sem,seval], ?_,((hC1.trans hC2 (by simp)).weak (by simp)).trans hC3 fun _ h _=>h⟩
      rw[dC,O1 ⟨he,h29,hk,ht⟩];exact hd3
     ·simp (disch:=first|assumption|omega) only[go_sem,seval,hdg,hr1.wf',hr2.wf',hl0,hl1]
      exact no _ _ (by simp only[go_sem,seval]) (by simp only[go_sem,seval]) (by simp only[go_sem,seval]) (by rw[dC,O0 (fun h=>ht h.2.2.2)]) (hC1.trans hC2 (by simp))
    ·simp (disch:=first|assumption|omega) only[go_sem,seval,hdg,hr1.wf',hr2.wf',hl0,hl1]
     exact no _ _ (by simp only[go_sem,seval]) (by simp only[go_sem,seval]) (by simp only[go_sem,seval]) (by rw[dC,O0 (fun h=>hk h.2.2.1)]) hC1
   ·simp (disch:=first|assumption|omega) only[go_sem,seval,hdg]
    exact no _ _ (by simp only[go_sem,seval]) (by simp only[go_sem,seval]) (by simp only[go_sem,seval]) (by rw[dC,O0 (fun h=>h29 h.2.1)]) (Chg.refl m)
  ·have hde':decide ((s.e:Int)=0)=false:=O2 (by omega)
   simp (disch:=first|assumption|omega) only[go_sem,seval,hdg,hde']
   exact no _ _ (by simp only[go_sem,seval]) (by simp only[go_sem,seval]) (by simp only[go_sem,seval]) (by rw[dC,O0 (fun h=>he h.1)]) (Chg.refl m)
 rintro D ⟨t,M,rfl,g1,g2,g3,hdM,hCM⟩
 change wp _ _ _ _ ⟨aj [] t, [],none,M⟩ _
 have hst1:=(j7 (L:=L) d s).lim ha
 have hst2:=(bN L [123] (dC L d s)).lim hst1
 have hX:e7 L S (L.length+1) [] (aW L [123] (dC L d s))=((iI L S d s).1,(iI L S d s).2):=rfl
 have hdeep:(aW L [123] (dC L d s)).e≠0∨d<=29:=by
  rcases Nat.lt_or_ge 29 d with h|h
  ·left
   have hff:∀e (s:Rs),e≠0->(bj e s).e≠0:=fun e s h=>by unfold bj;split;exact h;assumption
   by_cases he:s.e=0
   ·by_cases hk:(aH L s.a).k=3/\(aH L s.a).t= [123]
    ·have e1:dC L d s=bj 11 s:=by rw[dC,O1 ⟨he,h,hk.1,hk.2⟩]
     rw[e1]
     intro q
     exact hff 11 s (by omega) ((bN L [123] _).zero q)
    ·have e1:dC L d s=s:=by rw[dC,O0 (fun h=>hk ⟨h.2.2.1,h.2.2.2⟩)]
     rw[e1]
     have e2:aT L [123] s=false:=O2 fun q=>hk ⟨q.2.1,q.2.2⟩
     rw[aW,e2,O0 Bool.false_ne_true]
     exact hff 2 s (by omega)
   ·intro q
    exact he ((j7 (L:=L) d s).zero ((bN L [123] _).zero q))
  ·exact Or.inr h
 generalize (iI L S d s).1=X at hX hK
 generalize (iI L S d s).2=Z at hX hK
 simp (disch:=first|assumption|omega) only[go_sem,seval,g1,g2,g3]
 refine WF.use1 (fV hc (hc.chg h0 hCM) hdM [123] (by simp) (by omega)) ?_
 rintro M2 ⟨hd2,hC2⟩
 have hC02:Chg [r] m M2:=hCM.trans hC2 fun _ h _=>h
 simp (disch:=first|assumption|omega) only[go_sem,seval,g1,g2,g3]
 refine zI hc hst hpr hS (fun _ _=>trivial) h0 hd.o hdeep hd2 hst2 hC02 hX (by simp only[go_sem,seval,g1]) (by simp only[go_sem,seval,g2]) (by simp only[go_sem,seval,g3]) ?_
 intro t' M' v C q1 q2 q3 q4
 simp (disch:=first|assumption|omega) only[go_sem,seval,q1]
 exact hK _ _ ⟨⟨C,q3⟩,q2,q4⟩
end
abbrev TB (m:NH) (b1 b2:D4):D4->Prop:=fun i=>¬am m i/\i≠b1/\i≠b2
structure SC (m:NH) (r b1 b2:D4) (vl:NV) (rest z:List NV) (M:NH) (s:Rs) (c:List NV):Prop where
 hd:RD M r vl s rest
 g2:M.get b2=some (.cells true c)
 o2:am M b2
 g1:M.get b1=some (.cells true z)
 o1:am M b1
 hC:Chg [r] m M
section
variable {m0:NH} {L:List Tok} {vl:NV} {r b1 b2:D4} {rest z:List NV} {m M M':NH} {s s':Rs} {c c':List NV} {l:List (AK×NO)} {k:Nat}
theorem SC.call (h:SC m r b1 b2 vl rest z M s c) (h1:b1≠r) (h2:b2≠r) (hC:Chg [r] M M') (hd:RD M' r vl s' rest):SC m r b1 b2 vl rest z M' s' c:=
 ⟨hd,(hC.get h.o2 (by simpa using h2)).trans h.g2,hC.old h.o2,(hC.get h.o1 (by simpa using h1)).trans h.g1,hC.old h.o1,h.hC.trans hC fun _ h _=>h⟩
theorem SC.grow (h:SC m r b1 b2 vl rest z M s c) (hC:Chg [] M M'):SC m r b1 b2 vl rest z M' s c:=
 ⟨h.hd.chg hC (by simp),(hC.get h.o2 (by simp)).trans h.g2,hC.old h.o2,(hC.get h.o1 (by simp)).trans h.g1,hC.old h.o1,h.hC.trans hC (by simp)⟩
theorem SC.put (h:SC m r b1 b2 vl rest z M s c) (h2:b2≠r) (h12:b1≠b2) (hn:¬am m b2) (hl:∀i∈aE l,i=b2):SC m r b1 b2 vl rest z (hp ((.o b2,.cells true c')::l) k M) s c':=by
 have hC:Chg [b2] M (hp ((.o b2,.cells true c')::l) k M):=(aF rfl).weak fun i hi _=>by
  simp only[aE,O5] at hi ⊢
  rcases hi with rfl|hi
  ·exact Or.inl rfl
  ·exact Or.inl (hl i hi)
 exact ⟨h.hd.chg hC (by simpa using h2.symm),(aJ h.o2).trans au,hC.old h.o2,(hC.get h.o1 (by simpa using h12)).trans h.g1,hC.old h.o1,h.hC.trans hC fun i hi ho=>by
  have hi:=one hi;subst hi;exact OZ ho hn⟩
theorem SC.place (h:SC m r b1 b2 vl rest z M s c) (h1:b1≠r) (h12:b1≠b2) (hn:¬am m b2) (hC:Chg [r,b2] M M') (hd:RD M' r vl s' rest) (hg:M'.get b2=some (.cells true c')):SC m r b1 b2 vl rest z M' s' c':=
 ⟨hd,hg,hC.old h.o2,(hC.get h.o1 (by simp;exact ⟨h1,h12⟩)).trans h.g1,hC.old h.o1,h.hC.trans hC fun i hi ho=>by
  simp only[O5,O4,or_false] at hi
  rcases hi with rfl|rfl
  ·simp
  ·exact OZ ho hn⟩
theorem dK (hr:am m r) (hC:Chg [r] M M'):aS (TB m b1 b2) M M':=aS.of hC fun i hi hs=>by
 have hs:=one hs;subst hs;exact hi.1 hr
theorem cL (hl:∀i∈aE l,i=b2):aS (TB m b1 b2) M (hp l k M):=aS.of (aF rfl) fun i hi hs=>hi.2.2 (hl i hs)
theorem SC.tb (h:SC m r b1 b2 vl rest z M s c):∀i,n8 M i->TB m b1 b2 i:=fun i hi=>⟨fun q=>hi (h.hC.old q),fun q=>hi (q▸h.o1),fun q=>hi (q▸h.o2)⟩
theorem SS.weak {m:NH} {T T':D4->Prop} (hT':∀i,T i->T' i) {v:NV} {l:List Stm} {C:List (List NV)} (h:SS m T v l C):SS m T' v l C:=⟨h.sl,fun i hi=>hT' i (h.hT i hi),h.len,fun i x c a b=>(h.R i x c a b).weak hT'⟩
theorem t7 (m:NH) (T:D4->Prop):SS m T .nils [] []:=⟨Sl.nil,by simp[ids],rfl,by simp⟩
theorem RS.of {m:NH} {T:D4->Prop} {k a:Int} {nm ce:List Nat} {i x y:Ex} {b e:List Stm} {ui ux uy vb ve:NV} (hi:RE m T i (i.l ui)) (hx:RE m T x (x.l ux)) (hy:RE m T y (y.l uy)) {B E:List (List NV)} (hb:SS m T vb b B) (he:SS m T ve e E):
 RS m T (.mk k a nm ce i x y b e) ((Stm.mk k a nm ce i x y b e).l ⟨ui,ux,uy,vb,ve⟩):= .mk hi hx hy hb.sl hb.hT hb.len hb.R he.sl he.hT he.len he.R
theorem gD (m:NH) (T:D4->Prop):RE m T zE (zE.l .nils):=z9 m T 0 0 0 []
abbrev dL (k p:Int):List NV:= [ii k,ii p,.str [],.str [],ii 0,u64 0,u8 0,.str [],.nils,ii 0,u64 0,u8 0,.str [],.nils,ii 0,u64 0,u8 0,.str [],.nils,.nils,.nils]
end
section
variable {m0:NH} {L:List Tok} {vl:NV} {r:D4} {rest:List NV}
set_option maxHeartbeats 4000000 in
theorem Ia (hc:RC m0 L vl r) {B:Rs->List Stm×Rs} {d:Nat} (hst:∀s,St L s (B s).2) (hB:Nj m0 L vl r rest B (d+1)) (hd29:d<=29):Og m0 L vl r rest (cB L B) d:=by
 intro m s h0 hd ha
 refine WF.ex fun K hK=> ?_
 refine WF.of_wpG (fun _=>rfl) tN (L:= [(.a .e,ii d),(.e,.ptr r 0)]) rfl ?_
 unfold CG
 have hll:=hc.len
 refine MZ (fun D=>∃t M b1 b2,D=⟨t, [],none,M⟩/\SC m r b1 b2 vl rest (dL 0 0) M s (dL 0 (aH L s.a).p)/\¬am m b1/\¬am m b2/\b1≠b2/\NT.get D4.e t=some (.ptr r 0)/\NT.get D4.e.a t=some (ii d)/\NT.get D4.e.f t=some (.ptr b1 0)/\NT.get D4.e.a.a t=some (.ptr b2 0)/\NT.get D4.e.a.b t=some (.bool true)) (fun R hR=> ?_) ?_
 ·simp (disch:=first|assumption|omega) only[go_sem,seval]
  generalize hM1:hp _ 1 m=M1
  have hC1:Chg [] m M1:=bh hM1 rfl
  have g1:M1.get (na m 0)=some (.cells true (dL 0 0)):=bM hM1
  have o1:am M1 (na m 0):=bL hM1 (by omega)
  refine WF.use1H (iA hc (h0.trans hC1 (by simp)) (hd.chg hC1 (by simp))) ?_
  intro M2 hC2
  have hl3:(aH L s.a).l[3]? =some (ii (aH L s.a).p):=rfl
  simp (disch:=first|assumption|omega|(simp only[aU]<;>omega)) only[go_sem,seval,hl3]
  generalize hM3:hp _ 1 M2=M3
  have hC3:Chg [] M2 M3:=bh hM3 rfl
  have hC02:=hC1.trans hC2 (by simp)
  have hC03:=hC02.trans hC3 (by simp)
  have o12:=hC2.old o1
  refine hR _ ⟨_,M3,na m 0,na M2 0,rfl,⟨hd.chg hC03 (by simp), ?_, ?_,(hC3.get o12 (by simp)).trans ((hC2.get o1 (by simp)).trans g1),hC3.old o12,hC03.weak (by simp)⟩,aB,fun h=>aB (hC02.old h),fun e=>o12.ne 0 e,by simp only[go_sem,seval],by simp only[go_sem,seval],by simp only[go_sem,seval],by simp only[go_sem,seval],by simp only[go_sem,seval]⟩
  ·rw[←hM3];exact bP
  ·rw[←hM3];exact bW (by omega)
 rintro D ⟨t,M,b1,b2,rfl,hs,hn1,hn2,h12,g1,g2,g3,g4,g5⟩
 change wp _ _ _ _ ⟨aj [] t, [],none,M⟩ _
 have hr1:b1≠r:=fun e=>hn1 (e▸hd.o)
 have hr2:b2≠r:=fun e=>hn2 (e▸hd.o)
 have hr2':r≠b2:=fun e=>hr2 e.symm
 have hnb2:¬am m0 b2:=fun h=>hn2 (h0.old h)
 have hro:=hd.o
 refine sW (fun D=>∃t M x w s' q,D=⟨t, [],none,M⟩/\SC m r b1 b2 vl rest (dL 0 0) M s' (x.l w)/\RS M (TB m b1 b2) x (x.l w)/\(x,if q then aW L [59] s' else s')=cB L B s/\s'.a<=L.length/\NT.get D4.e t=some (.ptr r 0)/\NT.get D4.e.f t=some (.ptr b1 0)/\NT.get D4.e.a.a t=some (.ptr b2 0)/\NT.get D4.e.a.b t=some (.bool q)) (fun R hR=> ?_) ?_
 ·have hbase:∀{M:NH} {s:Rs} {c:List NV},SC m r b1 b2 vl rest (dL 0 0) M s c->Chg [] m0 M:=fun h=>hc.chg h0 h.hC
  have hput:∀{M:NH} {s:Rs} {c c':List NV} {l:List (AK×NO)} {k:Nat},SC m r b1 b2 vl rest (dL 0 0) M s c->(∀i∈aE l,i=b2)->SC m r b1 b2 vl rest (dL 0 0) (hp ((.o b2,.cells true c')::l) k M) s c':=fun h hl=>h.put hr2 h12 hn2 hl
  generalize hpp:((aH L s.a).p:Int)=p at hs
  have fin:∀{t:Tm} {M:NH} {x:Stm} {w:SV} {s':Rs} {q:Bool},SC m r b1 b2 vl rest (dL 0 0) M s' (x.l w)->RS M (TB m b1 b2) x (x.l w)->(x,if q then aW L [59] s' else s')=cB L B s->s'.a<=L.length->NT.get D4.e t=some (.ptr r 0)->NT.get D4.e.f t=some (.ptr b1 0)->NT.get D4.e.a.a t=some (.ptr b2 0)->NT.get D4.e.a.b t=some (.bool q)->R ⟨t, [],none,M⟩:=fun h1 h2 h3 h4 h5 h6 h7 h8=>hR _ ⟨_,_,_,_,_,_,rfl,h1,h2,h3,h4,h5,h6,h7,h8⟩
  rw[qL]
  simp (disch:=first|assumption|omega) only[go_sem,seval,g1,g2,g3,g4,g5,aa]
  refine WF.use1H (de hc (hbase hs) hs.hd [115,101,116] (by simp) (by omega)) ?_
  rintro M0 ⟨hd0,hC0⟩
  cases hb0:aT L [115,101,116] s with
  |true=>
   obtain ⟨he,hlt⟩:=bB hb0
   have hlim:(ai s).a<=L.length:=hlt
   rw[hb0,O1 rfl] at hd0
   replace hs:=hs.call hr1 hr2 hC0 hd0
   have hg2:=hs.g2
   have ho2:=hs.o2
   simp (disch:=first|assumption|omega) only[go_sem,seval,g1,g2,g3,g4,g5,hg2,aa]
   refine WF.use1H (li hc (hbase hs) hs.hd (by omega)) ?_
   rintro N0_1 ⟨hd,hC⟩
   replace hs:=hs.call hr1 hr2 hC hd
   replace hlim:=(cq L _).lim hlim
   generalize hqs0_2:(aY L (ai s)).2=s0_2 at hs hlim
   generalize hqn0_3:(aY L (ai s)).1=n0_3
   have hg2:=hs.g2
   have ho2:=hs.o2
   simp (disch:=first|assumption|omega|(simp only[aU]<;>omega)) only[go_sem,seval,g1,g2,g3,g4,g5,hg2]
   generalize hMg:hp _ 0 _=M0_4
   have hs':SC m r b1 b2 vl rest (dL 0 0) M0_4 s0_2 [ii 0,ii p,.str n0_3,.str [],ii 0,u64 0,u8 0,.str [],.nils,ii 0,u64 0,u8 0,.str [],.nils,ii 0,u64 0,u8 0,.str [],.nils,.nils,.nils]:=by rw[←hMg];exact hput hs (by simp[aE])
   clear hMg
   replace hs:=hs'
   refine WF.useH (Gk hc (hbase hs) hs.hd hlim) ?_
   rintro v N0_5 ⟨⟨u0_6,rfl,hx⟩,hd,hC⟩
   have tX:=hx.weak hs.tb
   replace hs:=hs.call hr1 hr2 hC hd
   replace hlim:(d8 L s0_2).2.a<=L.length:=(b7 L 30 _).lim hlim
   generalize hqs0_8:(d8 L s0_2).2=s0_8 at hs hlim
   generalize hqx0_7:(d8 L s0_2).1=x0_7 at tX
   clear hx hd
   have hxl:(x0_7.l u0_6).length=5:=rfl
   have hg2:=hs.g2
   have ho2:=hs.o2
   simp (disch:=first|assumption|omega|(simp only[aU]<;>omega)) only[go_sem,seval,g1,g2,g3,g4,g5,hg2]
   generalize hMg:hp _ 0 _=M0_9
   have hs':SC m r b1 b2 vl rest (dL 0 0) M0_9 s0_8 [ii 0,ii p,.str n0_3,.str [],ii 0,u64 0,u8 0,.str [],.nils,ii x0_7.k,u64 x0_7.n,u8 x0_7.o,.str x0_7.s,u0_6,ii 0,u64 0,u8 0,.str [],.nils,.nils,.nils]:=by rw[←hMg];exact hput hs (by simp[aE])
   replace tX:=tX.stays (m':=M0_9) (by rw[←hMg];exact cL (by simp[aE]))
   clear hMg
   replace hs:=hs'
   refine fin (x:= .mk 0 p n0_3 [] zE x0_7 zE [] []) (w:=⟨.nils,u0_6,.nils,.nils,.nils⟩) (s':=s0_8) (q:=true) hs (RS.of (gD _ _) tX (gD _ _) (t7 _ _) (t7 _ _)) ?_ hlim (by simp only[go_sem,seval,g1]) (by simp only[go_sem,seval,g3]) (by simp only[go_sem,seval,g4]) (by simp only[go_sem,seval,g5])
   rw[cB,O1 hb0,hpp]
   subst hqx0_7 hqs0_8 hqn0_3 hqs0_2
   rfl
  |false=>
  have ne0:¬(aT L [115,101,116] s=true):=by rw[hb0];exact Bool.false_ne_true
  rw[hb0,O0 Bool.false_ne_true] at hd0
  replace hs:=hs.call hr1 hr2 hC0 hd0
  simp (disch:=first|assumption|omega) only[go_sem,seval,g1,g2,g3,g4,g5,aa]
  refine WF.use1H (de hc (hbase hs) hs.hd [108,111,97,100] (by simp) (by omega)) ?_
  rintro M1 ⟨hd1,hC1⟩
  cases hb1:aT L [108,111,97,100] s with
  |true=>
   obtain ⟨he,hlt⟩:=bB hb1
   have hlim:(ai s).a<=L.length:=hlt
   rw[hb1,O1 rfl] at hd1
   replace hs:=hs.call hr1 hr2 hC1 hd1
   have hg2:=hs.g2
   have ho2:=hs.o2
   simp (disch:=first|assumption|omega|(simp only[aU]<;>omega)) only[go_sem,seval,g1,g2,g3,g4,g5,hg2]
   generalize hMg:hp _ 0 _=M1_1
   have hs':SC m r b1 b2 vl rest (dL 0 0) M1_1 (ai s) [ii 1,ii p,.str [],.str [],ii 0,u64 0,u8 0,.str [],.nils,ii 0,u64 0,u8 0,.str [],.nils,ii 0,u64 0,u8 0,.str [],.nils,.nils,.nils]:=by rw[←hMg];exact hput hs (by simp[aE])
   clear hMg
   replace hs:=hs'
   refine WF.use1H (li hc (hbase hs) hs.hd (by omega)) ?_
   rintro N1_2 ⟨hd,hC⟩
   replace hs:=hs.call hr1 hr2 hC hd
   replace hlim:=(cq L _).lim hlim
   generalize hqs1_3:(aY L (ai s)).2=s1_3 at hs hlim
   generalize hqn1_4:(aY L (ai s)).1=n1_4
   have hg2:=hs.g2
   have ho2:=hs.o2
   simp (disch:=first|assumption|omega|(simp only[aU]<;>omega)) only[go_sem,seval,g1,g2,g3,g4,g5,hg2]
   generalize hMg:hp _ 0 _=M1_5
   have hs':SC m r b1 b2 vl rest (dL 0 0) M1_5 s1_3 [ii 1,ii p,.str n1_4,.str [],ii 0,u64 0,u8 0,.str [],.nils,ii 0,u64 0,u8 0,.str [],.nils,ii 0,u64 0,u8 0,.str [],.nils,.nils,.nils]:=by rw[←hMg];exact hput hs (by simp[aE])
   clear hMg
   replace hs:=hs'
   refine WF.use1 (qf hc (hbase hs) hs.hd hlim hr2 hs.o2 hnb2 (by rfl) hs.g2) ?_
   rintro N1_6 ⟨u1_7,hg,hx,hd,hC⟩
   have tI:=hx.weak hs.tb
   replace hs:=hs.place hr1 h12 hn2 hC hd hg
   replace hlim:=(ee (L:=L) s1_3).lim hlim
   generalize hqs1_9:(bc L s1_3).2.2=s1_9 at hs hlim
   generalize hqx1_8:(bc L s1_3).2.1=x1_8 at hs tI
   generalize hqn1_10:(bc L s1_3).1=n1_10 at hs
   clear hx hd hg
   have hg2:=hs.g2
   have ho2:=hs.o2
   simp (disch:=first|assumption|omega) only[go_sem,seval,g1,g2,g3,g4,g5,hg2,aa]
   refine fin (x:= .mk 1 p n1_4 n1_10 x1_8 zE zE [] []) (w:=⟨u1_7,.nils,.nils,.nils,.nils⟩) (s':=s1_9) (q:=true) hs (RS.of tI (gD _ _) (gD _ _) (t7 _ _) (t7 _ _)) ?_ hlim (by simp only[go_sem,seval,g1]) (by simp only[go_sem,seval,g3]) (by simp only[go_sem,seval,g4]) (by simp only[go_sem,seval,g5])
   rw[cB,O0 ne0,O1 hb1,hpp]
   subst hqn1_10 hqx1_8 hqs1_9 hqn1_4 hqs1_3
   rfl
  |false=>
  have ne1:¬(aT L [108,111,97,100] s=true):=by rw[hb1];exact Bool.false_ne_true
  rw[hb1,O0 Bool.false_ne_true] at hd1
  replace hs:=hs.call hr1 hr2 hC1 hd1
  simp (disch:=first|assumption|omega) only[go_sem,seval,g1,g2,g3,g4,g5,aa]
  refine WF.use1H (de hc (hbase hs) hs.hd [115,116,111,114,101] (by simp) (by omega)) ?_
  rintro M2 ⟨hd2,hC2⟩
  cases hb2:aT L [115,116,111,114,101] s with
  |true=>
   obtain ⟨he,hlt⟩:=bB hb2
   have hlim:(ai s).a<=L.length:=hlt
   rw[hb2,O1 rfl] at hd2
   replace hs:=hs.call hr1 hr2 hC2 hd2
   have hg2:=hs.g2
   have ho2:=hs.o2
   simp (disch:=first|assumption|omega|(simp only[aU]<;>omega)) only[go_sem,seval,g1,g2,g3,g4,g5,hg2]
   generalize hMg:hp _ 0 _=M2_1
   have hs':SC m r b1 b2 vl rest (dL 0 0) M2_1 (ai s) [ii 2,ii p,.str [],.str [],ii 0,u64 0,u8 0,.str [],.nils,ii 0,u64 0,u8 0,.str [],.nils,ii 0,u64 0,u8 0,.str [],.nils,.nils,.nils]:=by rw[←hMg];exact hput hs (by simp[aE])
   clear hMg
   replace hs:=hs'
   refine WF.use1 (qf hc (hbase hs) hs.hd hlim hr2 hs.o2 hnb2 (by rfl) hs.g2) ?_
   rintro N2_2 ⟨u2_3,hg,hx,hd,hC⟩
   have tI:=hx.weak hs.tb
   replace hs:=hs.place hr1 h12 hn2 hC hd hg
   replace hlim:=(ee (L:=L) (ai s)).lim hlim
   generalize hqs2_5:(bc L (ai s)).2.2=s2_5 at hs hlim
   generalize hqx2_4:(bc L (ai s)).2.1=x2_4 at hs tI
   generalize hqn2_6:(bc L (ai s)).1=n2_6 at hs
   clear hx hd hg
   have hg2:=hs.g2
   have ho2:=hs.o2
   simp (disch:=first|assumption|omega) only[go_sem,seval,g1,g2,g3,g4,g5,hg2,aa]
   refine WF.useH (Gk hc (hbase hs) hs.hd hlim) ?_
   rintro v N2_7 ⟨⟨u2_8,rfl,hx⟩,hd,hC⟩
   have tX:=hx.weak hs.tb
   replace hs:=hs.call hr1 hr2 hC hd
   replace tI:=tI.stays (dK hro hC)
   replace hlim:(d8 L s2_5).2.a<=L.length:=(b7 L 30 _).lim hlim
   generalize hqs2_10:(d8 L s2_5).2=s2_10 at hs hlim
   generalize hqx2_9:(d8 L s2_5).1=x2_9 at tX
   clear hx hd
   have hxl:(x2_9.l u2_8).length=5:=rfl
   have hg2:=hs.g2
   have ho2:=hs.o2
   simp (disch:=first|assumption|omega|(simp only[aU]<;>omega)) only[go_sem,seval,g1,g2,g3,g4,g5,hg2]
   generalize hMg:hp _ 0 _=M2_11
   have hs':SC m r b1 b2 vl rest (dL 0 0) M2_11 s2_10 [ii 2,ii p,.str [],.str n2_6,ii x2_4.k,u64 x2_4.n,u8 x2_4.o,.str x2_4.s,u2_3,ii x2_9.k,u64 x2_9.n,u8 x2_9.o,.str x2_9.s,u2_8,ii 0,u64 0,u8 0,.str [],.nils,.nils,.nils]:=by rw[←hMg];exact hput hs (by simp[aE])
   replace tI:=tI.stays (m':=M2_11) (by rw[←hMg];exact cL (by simp[aE]))
   replace tX:=tX.stays (m':=M2_11) (by rw[←hMg];exact cL (by simp[aE]))
   clear hMg
   replace hs:=hs'
   refine fin (x:= .mk 2 p [] n2_6 x2_4 x2_9 zE [] []) (w:=⟨u2_3,u2_8,.nils,.nils,.nils⟩) (s':=s2_10) (q:=true) hs (RS.of tI tX (gD _ _) (t7 _ _) (t7 _ _)) ?_ hlim (by simp only[go_sem,seval,g1]) (by simp only[go_sem,seval,g3]) (by simp only[go_sem,seval,g4]) (by simp only[go_sem,seval,g5])
   rw[cB,O0 ne0,O0 ne1,O1 hb2,hpp]
   subst hqx2_9 hqs2_10 hqn2_6 hqx2_4 hqs2_5
   rfl
  |false=>
  have ne2:¬(aT L [115,116,111,114,101] s=true):=by rw[hb2];exact Bool.false_ne_true
  rw[hb2,O0 Bool.false_ne_true] at hd2
  replace hs:=hs.call hr1 hr2 hC2 hd2
  simp (disch:=first|assumption|omega) only[go_sem,seval,g1,g2,g3,g4,g5,aa]
  refine WF.use1H (de hc (hbase hs) hs.hd [99,97,115] (by simp) (by omega)) ?_
  rintro M3 ⟨hd3,hC3⟩
  cases hb3:aT L [99,97,115] s with
  |true=>
   obtain ⟨he,hlt⟩:=bB hb3
   have hlim:(ai s).a<=L.length:=hlt
   rw[hb3,O1 rfl] at hd3
   replace hs:=hs.call hr1 hr2 hC3 hd3
   have hg2:=hs.g2
   have ho2:=hs.o2
   simp (disch:=first|assumption|omega|(simp only[aU]<;>omega)) only[go_sem,seval,g1,g2,g3,g4,g5,hg2]
   generalize hMg:hp _ 0 _=M3_1
   have hs':SC m r b1 b2 vl rest (dL 0 0) M3_1 (ai s) [ii 3,ii p,.str [],.str [],ii 0,u64 0,u8 0,.str [],.nils,ii 0,u64 0,u8 0,.str [],.nils,ii 0,u64 0,u8 0,.str [],.nils,.nils,.nils]:=by rw[←hMg];exact hput hs (by simp[aE])
   clear hMg
   replace hs:=hs'
   refine WF.use1H (li hc (hbase hs) hs.hd (by omega)) ?_
   rintro N3_2 ⟨hd,hC⟩
   replace hs:=hs.call hr1 hr2 hC hd
   replace hlim:=(cq L _).lim hlim
   generalize hqs3_3:(aY L (ai s)).2=s3_3 at hs hlim
   generalize hqn3_4:(aY L (ai s)).1=n3_4
   have hg2:=hs.g2
   have ho2:=hs.o2
   simp (disch:=first|assumption|omega|(simp only[aU]<;>omega)) only[go_sem,seval,g1,g2,g3,g4,g5,hg2]
   generalize hMg:hp _ 0 _=M3_5
   have hs':SC m r b1 b2 vl rest (dL 0 0) M3_5 s3_3 [ii 3,ii p,.str n3_4,.str [],ii 0,u64 0,u8 0,.str [],.nils,ii 0,u64 0,u8 0,.str [],.nils,ii 0,u64 0,u8 0,.str [],.nils,.nils,.nils]:=by rw[←hMg];exact hput hs (by simp[aE])
   clear hMg
   replace hs:=hs'
   refine WF.use1 (qf hc (hbase hs) hs.hd hlim hr2 hs.o2 hnb2 (by rfl) hs.g2) ?_
   rintro N3_6 ⟨u3_7,hg,hx,hd,hC⟩
   have tI:=hx.weak hs.tb
   replace hs:=hs.place hr1 h12 hn2 hC hd hg
   replace hlim:=(ee (L:=L) s3_3).lim hlim
   generalize hqs3_9:(bc L s3_3).2.2=s3_9 at hs hlim
   generalize hqx3_8:(bc L s3_3).2.1=x3_8 at hs tI
   generalize hqn3_10:(bc L s3_3).1=n3_10 at hs
   clear hx hd hg
   have hg2:=hs.g2
   have ho2:=hs.o2
   simp (disch:=first|assumption|omega) only[go_sem,seval,g1,g2,g3,g4,g5,hg2,aa]
   refine WF.useH (Gk hc (hbase hs) hs.hd hlim) ?_
   rintro v N3_11 ⟨⟨u3_12,rfl,hx⟩,hd,hC⟩
   have tX:=hx.weak hs.tb
   replace hs:=hs.call hr1 hr2 hC hd
   replace tI:=tI.stays (dK hro hC)
   replace hlim:(d8 L s3_9).2.a<=L.length:=(b7 L 30 _).lim hlim
   generalize hqs3_14:(d8 L s3_9).2=s3_14 at hs hlim
   generalize hqx3_13:(d8 L s3_9).1=x3_13 at tX
   clear hx hd
   have hxl:(x3_13.l u3_12).length=5:=rfl
   have hg2:=hs.g2
   have ho2:=hs.o2
   simp (disch:=first|assumption|omega|(simp only[aU]<;>omega)) only[go_sem,seval,g1,g2,g3,g4,g5,hg2]
   generalize hMg:hp _ 0 _=M3_15
   have hs':SC m r b1 b2 vl rest (dL 0 0) M3_15 s3_14 [ii 3,ii p,.str n3_4,.str n3_10,ii x3_8.k,u64 x3_8.n,u8 x3_8.o,.str x3_8.s,u3_7,ii x3_13.k,u64 x3_13.n,u8 x3_13.o,.str x3_13.s,u3_12,ii 0,u64 0,u8 0,.str [],.nils,.nils,.nils]:=by rw[←hMg];exact hput hs (by simp[aE])
   replace tI:=tI.stays (m':=M3_15) (by rw[←hMg];exact cL (by simp[aE]))
   replace tX:=tX.stays (m':=M3_15) (by rw[←hMg];exact cL (by simp[aE]))
   clear hMg
   replace hs:=hs'
   refine WF.useH (Gk hc (hbase hs) hs.hd hlim) ?_
   rintro v N3_16 ⟨⟨u3_17,rfl,hx⟩,hd,hC⟩
   have tY:=hx.weak hs.tb
   replace hs:=hs.call hr1 hr2 hC hd
   replace tI:=tI.stays (dK hro hC)
   replace tX:=tX.stays (dK hro hC)
   replace hlim:(d8 L s3_14).2.a<=L.length:=(b7 L 30 _).lim hlim
   generalize hqs3_19:(d8 L s3_14).2=s3_19 at hs hlim
   generalize hqx3_18:(d8 L s3_14).1=x3_18 at tY
   clear hx hd
   have hxl:(x3_18.l u3_17).length=5:=rfl
   have hg2:=hs.g2
   have ho2:=hs.o2
   simp (disch:=first|assumption|omega|(simp only[aU]<;>omega)) only[go_sem,seval,g1,g2,g3,g4,g5,hg2]
   generalize hMg:hp _ 0 _=M3_20
   have hs':SC m r b1 b2 vl rest (dL 0 0) M3_20 s3_19 [ii 3,ii p,.str n3_4,.str n3_10,ii x3_8.k,u64 x3_8.n,u8 x3_8.o,.str x3_8.s,u3_7,ii x3_13.k,u64 x3_13.n,u8 x3_13.o,.str x3_13.s,u3_12,ii x3_18.k,u64 x3_18.n,u8 x3_18.o,.str x3_18.s,u3_17,.nils,.nils]:=by rw[←hMg];exact hput hs (by simp[aE])
   replace tI:=tI.stays (m':=M3_20) (by rw[←hMg];exact cL (by simp[aE]))
   replace tX:=tX.stays (m':=M3_20) (by rw[←hMg];exact cL (by simp[aE]))
   replace tY:=tY.stays (m':=M3_20) (by rw[←hMg];exact cL (by simp[aE]))
   clear hMg
   replace hs:=hs'
   refine fin (x:= .mk 3 p n3_4 n3_10 x3_8 x3_13 x3_18 [] []) (w:=⟨u3_7,u3_12,u3_17,.nils,.nils⟩) (s':=s3_19) (q:=true) hs (RS.of tI tX tY (t7 _ _) (t7 _ _)) ?_ hlim (by simp only[go_sem,seval,g1]) (by simp only[go_sem,seval,g3]) (by simp only[go_sem,seval,g4]) (by simp only[go_sem,seval,g5])
   rw[cB,O0 ne0,O0 ne1,O0 ne2,O1 hb3,hpp]
   subst hqx3_18 hqs3_19 hqx3_13 hqs3_14 hqn3_10 hqx3_8 hqs3_9 hqn3_4 hqs3_3
   rfl
  |false=>
  have ne3:¬(aT L [99,97,115] s=true):=by rw[hb3];exact Bool.false_ne_true
  rw[hb3,O0 Bool.false_ne_true] at hd3
  replace hs:=hs.call hr1 hr2 hC3 hd3
  simp (disch:=first|assumption|omega) only[go_sem,seval,g1,g2,g3,g4,g5,aa]
  refine WF.use1H (de hc (hbase hs) hs.hd [102,101,110,99,101] (by simp) (by omega)) ?_
  rintro M4 ⟨hd4,hC4⟩
  cases hb4:aT L [102,101,110,99,101] s with
  |true=>
   obtain ⟨he,hlt⟩:=bB hb4
   have hlim:(ai s).a<=L.length:=hlt
   rw[hb4,O1 rfl] at hd4
   replace hs:=hs.call hr1 hr2 hC4 hd4
   have hg2:=hs.g2
   have ho2:=hs.o2
   simp (disch:=first|assumption|omega|(simp only[aU]<;>omega)) only[go_sem,seval,g1,g2,g3,g4,g5,hg2]
   generalize hMg:hp _ 0 _=M4_1
   have hs':SC m r b1 b2 vl rest (dL 0 0) M4_1 (ai s) [ii 4,ii p,.str [],.str [],ii 0,u64 0,u8 0,.str [],.nils,ii 0,u64 0,u8 0,.str [],.nils,ii 0,u64 0,u8 0,.str [],.nils,.nils,.nils]:=by rw[←hMg];exact hput hs (by simp[aE])
   clear hMg
   replace hs:=hs'
   refine fin (x:= .mk 4 p [] [] zE zE zE [] []) (w:=⟨.nils,.nils,.nils,.nils,.nils⟩) (s':=(ai s)) (q:=true) hs (RS.of (gD _ _) (gD _ _) (gD _ _) (t7 _ _) (t7 _ _)) ?_ hlim (by simp only[go_sem,seval,g1]) (by simp only[go_sem,seval,g3]) (by simp only[go_sem,seval,g4]) (by simp only[go_sem,seval,g5])
   rw[cB,O0 ne0,O0 ne1,O0 ne2,O0 ne3,O1 hb4,hpp]
   rfl
  |false=>
  have ne4:¬(aT L [102,101,110,99,101] s=true):=by rw[hb4];exact Bool.false_ne_true
  rw[hb4,O0 Bool.false_ne_true] at hd4
  replace hs:=hs.call hr1 hr2 hC4 hd4
  simp (disch:=first|assumption|omega) only[go_sem,seval,g1,g2,g3,g4,g5,aa]
  refine WF.use1H (de hc (hbase hs) hs.hd [111,117,116] (by simp) (by omega)) ?_
  rintro M5 ⟨hd5,hC5⟩
  cases hb5:aT L [111,117,116] s with
  |true=>
   obtain ⟨he,hlt⟩:=bB hb5
   have hlim:(ai s).a<=L.length:=hlt
   rw[hb5,O1 rfl] at hd5
   replace hs:=hs.call hr1 hr2 hC5 hd5
   have hg2:=hs.g2
   have ho2:=hs.o2
   simp (disch:=first|assumption|omega|(simp only[aU]<;>omega)) only[go_sem,seval,g1,g2,g3,g4,g5,hg2]
   generalize hMg:hp _ 0 _=M5_1
   have hs':SC m r b1 b2 vl rest (dL 0 0) M5_1 (ai s) [ii 5,ii p,.str [],.str [],ii 0,u64 0,u8 0,.str [],.nils,ii 0,u64 0,u8 0,.str [],.nils,ii 0,u64 0,u8 0,.str [],.nils,.nils,.nils]:=by rw[←hMg];exact hput hs (by simp[aE])
   clear hMg
   replace hs:=hs'
   refine WF.useH (Gk hc (hbase hs) hs.hd hlim) ?_
   rintro v N5_2 ⟨⟨u5_3,rfl,hx⟩,hd,hC⟩
   have tX:=hx.weak hs.tb
   replace hs:=hs.call hr1 hr2 hC hd
   replace hlim:(d8 L (ai s)).2.a<=L.length:=(b7 L 30 _).lim hlim
   generalize hqs5_5:(d8 L (ai s)).2=s5_5 at hs hlim
   generalize hqx5_4:(d8 L (ai s)).1=x5_4 at tX
   clear hx hd
   have hxl:(x5_4.l u5_3).length=5:=rfl
   have hg2:=hs.g2
   have ho2:=hs.o2
   simp (disch:=first|assumption|omega|(simp only[aU]<;>omega)) only[go_sem,seval,g1,g2,g3,g4,g5,hg2]
   generalize hMg:hp _ 0 _=M5_6
   have hs':SC m r b1 b2 vl rest (dL 0 0) M5_6 s5_5 [ii 5,ii p,.str [],.str [],ii 0,u64 0,u8 0,.str [],.nils,ii x5_4.k,u64 x5_4.n,u8 x5_4.o,.str x5_4.s,u5_3,ii 0,u64 0,u8 0,.str [],.nils,.nils,.nils]:=by rw[←hMg];exact hput hs (by simp[aE])
   replace tX:=tX.stays (m':=M5_6) (by rw[←hMg];exact cL (by simp[aE]))
   clear hMg
   replace hs:=hs'
   refine fin (x:= .mk 5 p [] [] zE x5_4 zE [] []) (w:=⟨.nils,u5_3,.nils,.nils,.nils⟩) (s':=s5_5) (q:=true) hs (RS.of (gD _ _) tX (gD _ _) (t7 _ _) (t7 _ _)) ?_ hlim (by simp only[go_sem,seval,g1]) (by simp only[go_sem,seval,g3]) (by simp only[go_sem,seval,g4]) (by simp only[go_sem,seval,g5])
   rw[cB,O0 ne0,O0 ne1,O0 ne2,O0 ne3,O0 ne4,O1 hb5,hpp]
   subst hqx5_4 hqs5_5
   rfl
  |false=>
  have ne5:¬(aT L [111,117,116] s=true):=by rw[hb5];exact Bool.false_ne_true
  rw[hb5,O0 Bool.false_ne_true] at hd5
  replace hs:=hs.call hr1 hr2 hC5 hd5
  simp (disch:=first|assumption|omega) only[go_sem,seval,g1,g2,g3,g4,g5,aa]
  refine WF.use1H (de hc (hbase hs) hs.hd [105,102] (by simp) (by omega)) ?_
  rintro M6 ⟨hd6,hC6⟩
  cases hb6:aT L [105,102] s with
  |true=>
   obtain ⟨he,hlt⟩:=bB hb6
   have hlim:(ai s).a<=L.length:=hlt
   rw[hb6,O1 rfl] at hd6
   replace hs:=hs.call hr1 hr2 hC6 hd6
   have hg2:=hs.g2
   have ho2:=hs.o2
   simp (disch:=first|assumption|omega|(simp only[aU]<;>omega)) only[go_sem,seval,g1,g2,g3,g4,g5,hg2]
   generalize hMg:hp _ 0 _=M6_1
   have hs':SC m r b1 b2 vl rest (dL 0 0) M6_1 (ai s) [ii 6,ii p,.str [],.str [],ii 0,u64 0,u8 0,.str [],.nils,ii 0,u64 0,u8 0,.str [],.nils,ii 0,u64 0,u8 0,.str [],.nils,.nils,.nils]:=by rw[←hMg];exact hput hs (by simp[aE])
   clear hMg
   replace hs:=hs'
   refine WF.useH (Gk hc (hbase hs) hs.hd hlim) ?_
   rintro v N6_2 ⟨⟨u6_3,rfl,hx⟩,hd,hC⟩
   have tX:=hx.weak hs.tb
   replace hs:=hs.call hr1 hr2 hC hd
   replace hlim:(d8 L (ai s)).2.a<=L.length:=(b7 L 30 _).lim hlim
   generalize hqs6_5:(d8 L (ai s)).2=s6_5 at hs hlim
   generalize hqx6_4:(d8 L (ai s)).1=x6_4 at tX
   clear hx hd
   have hxl:(x6_4.l u6_3).length=5:=rfl
   have hg2:=hs.g2
   have ho2:=hs.o2
   simp (disch:=first|assumption|omega|(simp only[aU]<;>omega)) only[go_sem,seval,g1,g2,g3,g4,g5,hg2]
   generalize hMg:hp _ 0 _=M6_6
   have hs':SC m r b1 b2 vl rest (dL 0 0) M6_6 s6_5 [ii 6,ii p,.str [],.str [],ii 0,u64 0,u8 0,.str [],.nils,ii x6_4.k,u64 x6_4.n,u8 x6_4.o,.str x6_4.s,u6_3,ii 0,u64 0,u8 0,.str [],.nils,.nils,.nils]:=by rw[←hMg];exact hput hs (by simp[aE])
   replace tX:=tX.stays (m':=M6_6) (by rw[←hMg];exact cL (by simp[aE]))
   clear hMg
   replace hs:=hs'
   refine WF.useH (hB (hbase hs) hs.hd hlim) ?_
   rintro v6_8 N6_7 ⟨⟨C6_9,hx⟩,hd,hC⟩
   have tB:=hx.weak hs.tb
   replace hs:=hs.call hr1 hr2 hC hd
   replace tX:=tX.stays (dK hro hC)
   replace hlim:=(hst s6_5).lim hlim
   generalize hqs6_11:(B s6_5).2=s6_11 at hs hlim
   generalize hql6_10:(B s6_5).1=l6_10 at tB
   clear hx hd
   have hg2:=hs.g2
   have ho2:=hs.o2
   simp (disch:=first|assumption|omega|(simp only[aU]<;>omega)) only[go_sem,seval,g1,g2,g3,g4,g5,hg2,tB.sl.one]
   generalize hMg:hp _ 0 _=M6_12
   have hs':SC m r b1 b2 vl rest (dL 0 0) M6_12 s6_11 [ii 6,ii p,.str [],.str [],ii 0,u64 0,u8 0,.str [],.nils,ii x6_4.k,u64 x6_4.n,u8 x6_4.o,.str x6_4.s,u6_3,ii 0,u64 0,u8 0,.str [],.nils,v6_8,.nils]:=by rw[←hMg];exact hput hs (by simp[aE])
   replace tX:=tX.stays (m':=M6_12) (by rw[←hMg];exact cL (by simp[aE]))
   replace tB:=tB.stays (m':=M6_12) (by rw[←hMg];exact cL (by simp[aE]))
   clear hMg
   replace hs:=hs'
   refine WF.use1H (de hc (hbase hs) hs.hd [101,108,115,101] (by simp) (by omega)) ?_
   rintro Me ⟨hde,hCe⟩
   replace hs':=hs.call hr1 hr2 hCe hde
   replace tX:=tX.stays (dK hro hCe)
   replace tB:=tB.stays (dK hro hCe)
   cases hbe:aT L [101,108,115,101] s6_11 with
   |true=>
    rw[hbe,O1 rfl] at hs'
    replace hs:=hs'
    have hlim:(ai s6_11).a<=L.length:=(bB hbe).2
    have hg2:=hs.g2
    have ho2:=hs.o2
    simp (disch:=first|assumption|omega) only[go_sem,seval,g1,g2,g3,g4,g5,hg2,tB.sl.one,aa]
    refine WF.useH (hB (hbase hs) hs.hd hlim) ?_
    rintro v6t_14 N6t_13 ⟨⟨C6t_15,hx⟩,hd,hC⟩
    have tE:=hx.weak hs.tb
    replace hs:=hs.call hr1 hr2 hC hd
    replace tX:=tX.stays (dK hro hC)
    replace tB:=tB.stays (dK hro hC)
    replace hlim:=(hst (ai s6_11)).lim hlim
    generalize hqs6t_17:(B (ai s6_11)).2=s6t_17 at hs hlim
    generalize hql6t_16:(B (ai s6_11)).1=l6t_16 at tE
    clear hx hd
    have hg2:=hs.g2
    have ho2:=hs.o2
    simp (disch:=first|assumption|omega|(simp only[aU]<;>omega)) only[go_sem,seval,g1,g2,g3,g4,g5,hg2,tB.sl.one,tE.sl.one]
    generalize hMg:hp _ 0 _=M6t_18
    have hs':SC m r b1 b2 vl rest (dL 0 0) M6t_18 s6t_17 [ii 6,ii p,.str [],.str [],ii 0,u64 0,u8 0,.str [],.nils,ii x6_4.k,u64 x6_4.n,u8 x6_4.o,.str x6_4.s,u6_3,ii 0,u64 0,u8 0,.str [],.nils,v6_8,v6t_14]:=by rw[←hMg];exact hput hs (by simp[aE])
    replace tX:=tX.stays (m':=M6t_18) (by rw[←hMg];exact cL (by simp[aE]))
    replace tB:=tB.stays (m':=M6t_18) (by rw[←hMg];exact cL (by simp[aE]))
    replace tE:=tE.stays (m':=M6t_18) (by rw[←hMg];exact cL (by simp[aE]))
    clear hMg
    replace hs:=hs'
    refine fin (x:= .mk 6 p [] [] zE x6_4 zE l6_10 l6t_16) (w:=⟨.nils,u6_3,.nils,v6_8,v6t_14⟩) (s':=s6t_17) (q:=false) hs (RS.of (gD _ _) tX (gD _ _) tB tE) ?_ hlim (by simp only[go_sem,seval,g1]) (by simp only[go_sem,seval,g3]) (by simp only[go_sem,seval,g4]) (by simp only[go_sem,seval,g5])
    rw[cB,O0 ne0,O0 ne1,O0 ne2,O0 ne3,O0 ne4,O0 ne5,O1 hb6,hpp]
    subst hql6t_16 hqs6t_17 hql6_10 hqs6_11 hqx6_4 hqs6_5
    rw[Jf,O1 hbe];rfl
   |false=>
    rw[hbe,O0 Bool.false_ne_true] at hs'
    replace hs:=hs'
    have nee:¬(aT L [101,108,115,101] s6_11=true):=by rw[hbe];exact Bool.false_ne_true
    have hg2:=hs.g2
    have ho2:=hs.o2
    simp (disch:=first|assumption|omega) only[go_sem,seval,g1,g2,g3,g4,g5,hg2,tB.sl.one,aa]
    refine fin (x:= .mk 6 p [] [] zE x6_4 zE l6_10 []) (w:=⟨.nils,u6_3,.nils,v6_8,.nils⟩) (s':=s6_11) (q:=false) hs (RS.of (gD _ _) tX (gD _ _) tB (t7 _ _)) ?_ hlim (by simp only[go_sem,seval,g1]) (by simp only[go_sem,seval,g3]) (by simp only[go_sem,seval,g4]) (by simp only[go_sem,seval,g5])
    rw[cB,O0 ne0,O0 ne1,O0 ne2,O0 ne3,O0 ne4,O0 ne5,O1 hb6,hpp]
    subst hql6_10 hqs6_11 hqx6_4 hqs6_5
    rw[Jf,O0 nee];rfl
  |false=>
  have ne6:¬(aT L [105,102] s=true):=by rw[hb6];exact Bool.false_ne_true
  rw[hb6,O0 Bool.false_ne_true] at hd6
  replace hs:=hs.call hr1 hr2 hC6 hd6
  simp (disch:=first|assumption|omega) only[go_sem,seval,g1,g2,g3,g4,g5,aa]
  refine WF.use1H (de hc (hbase hs) hs.hd [119,104,105,108,101] (by simp) (by omega)) ?_
  rintro M7 ⟨hd7,hC7⟩
  cases hb7:aT L [119,104,105,108,101] s with
  |true=>
   obtain ⟨he,hlt⟩:=bB hb7
   have hlim:(ai s).a<=L.length:=hlt
   rw[hb7,O1 rfl] at hd7
   replace hs:=hs.call hr1 hr2 hC7 hd7
   have hg2:=hs.g2
   have ho2:=hs.o2
   simp (disch:=first|assumption|omega|(simp only[aU]<;>omega)) only[go_sem,seval,g1,g2,g3,g4,g5,hg2]
   generalize hMg:hp _ 0 _=M7_1
   have hs':SC m r b1 b2 vl rest (dL 0 0) M7_1 (ai s) [ii 7,ii p,.str [],.str [],ii 0,u64 0,u8 0,.str [],.nils,ii 0,u64 0,u8 0,.str [],.nils,ii 0,u64 0,u8 0,.str [],.nils,.nils,.nils]:=by rw[←hMg];exact hput hs (by simp[aE])
   clear hMg
   replace hs:=hs'
   refine WF.useH (Gk hc (hbase hs) hs.hd hlim) ?_
   rintro v N7_2 ⟨⟨u7_3,rfl,hx⟩,hd,hC⟩
   have tX:=hx.weak hs.tb
   replace hs:=hs.call hr1 hr2 hC hd
   replace hlim:(d8 L (ai s)).2.a<=L.length:=(b7 L 30 _).lim hlim
   generalize hqs7_5:(d8 L (ai s)).2=s7_5 at hs hlim
   generalize hqx7_4:(d8 L (ai s)).1=x7_4 at tX
   clear hx hd
   have hxl:(x7_4.l u7_3).length=5:=rfl
   have hg2:=hs.g2
   have ho2:=hs.o2
   simp (disch:=first|assumption|omega|(simp only[aU]<;>omega)) only[go_sem,seval,g1,g2,g3,g4,g5,hg2]
   generalize hMg:hp _ 0 _=M7_6
   have hs':SC m r b1 b2 vl rest (dL 0 0) M7_6 s7_5 [ii 7,ii p,.str [],.str [],ii 0,u64 0,u8 0,.str [],.nils,ii x7_4.k,u64 x7_4.n,u8 x7_4.o,.str x7_4.s,u7_3,ii 0,u64 0,u8 0,.str [],.nils,.nils,.nils]:=by rw[←hMg];exact hput hs (by simp[aE])
   replace tX:=tX.stays (m':=M7_6) (by rw[←hMg];exact cL (by simp[aE]))
   clear hMg
   replace hs:=hs'
   refine WF.useH (hB (hbase hs) hs.hd hlim) ?_
   rintro v7_8 N7_7 ⟨⟨C7_9,hx⟩,hd,hC⟩
   have tB:=hx.weak hs.tb
   replace hs:=hs.call hr1 hr2 hC hd
   replace tX:=tX.stays (dK hro hC)
   replace hlim:=(hst s7_5).lim hlim
   generalize hqs7_11:(B s7_5).2=s7_11 at hs hlim
   generalize hql7_10:(B s7_5).1=l7_10 at tB
   clear hx hd
   have hg2:=hs.g2
   have ho2:=hs.o2
   simp (disch:=first|assumption|omega|(simp only[aU]<;>omega)) only[go_sem,seval,g1,g2,g3,g4,g5,hg2,tB.sl.one]
   generalize hMg:hp _ 0 _=M7_12
   have hs':SC m r b1 b2 vl rest (dL 0 0) M7_12 s7_11 [ii 7,ii p,.str [],.str [],ii 0,u64 0,u8 0,.str [],.nils,ii x7_4.k,u64 x7_4.n,u8 x7_4.o,.str x7_4.s,u7_3,ii 0,u64 0,u8 0,.str [],.nils,v7_8,.nils]:=by rw[←hMg];exact hput hs (by simp[aE])
   replace tX:=tX.stays (m':=M7_12) (by rw[←hMg];exact cL (by simp[aE]))
   replace tB:=tB.stays (m':=M7_12) (by rw[←hMg];exact cL (by simp[aE]))
   clear hMg
   replace hs:=hs'
   refine fin (x:= .mk 7 p [] [] zE x7_4 zE l7_10 []) (w:=⟨.nils,u7_3,.nils,v7_8,.nils⟩) (s':=s7_11) (q:=false) hs (RS.of (gD _ _) tX (gD _ _) tB (t7 _ _)) ?_ hlim (by simp only[go_sem,seval,g1]) (by simp only[go_sem,seval,g3]) (by simp only[go_sem,seval,g4]) (by simp only[go_sem,seval,g5])
   rw[cB,O0 ne0,O0 ne1,O0 ne2,O0 ne3,O0 ne4,O0 ne5,O0 ne6,O1 hb7,hpp]
   subst hql7_10 hqs7_11 hqx7_4 hqs7_5
   rfl
  |false=>
  have ne7:¬(aT L [119,104,105,108,101] s=true):=by rw[hb7];exact Bool.false_ne_true
  rw[hb7,O0 Bool.false_ne_true] at hd7
  replace hs:=hs.call hr1 hr2 hC7 hd7
  simp (disch:=first|assumption|omega) only[go_sem,seval,g1,g2,g3,g4,g5,aa]
  refine WF.use1 (gp hs.hd 2) ?_
  rintro M9 ⟨hd9,hC9⟩
  replace hs:=hs.call hr1 hr2 hC9 hd9
  have hlim:=(bY L 2 s).lim ha
  simp (disch:=first|assumption|omega) only[go_sem,seval,g1,g2,g3,g4,g5]
  refine fin (x:= .mk 0 p [] [] zE zE zE [] []) (w:=⟨.nils,.nils,.nils,.nils,.nils⟩) (s':=bj 2 s) (q:=true) hs (RS.of (gD _ _) (gD _ _) (gD _ _) (t7 _ _) (t7 _ _)) ?_ hlim (by simp only[go_sem,seval,g1]) (by simp only[go_sem,seval,g3]) (by simp only[go_sem,seval,g4]) (by simp only[go_sem,seval,g5])
  rw[cB,O0 ne0,O0 ne1,O0 ne2,O0 ne3,O0 ne4,O0 ne5,O0 ne6,O0 ne7,hpp]
  rfl
 clear g1 g2 g3 g4 g5 hs
 rintro D ⟨t,M,x,w,s',q,rfl,hs,hx,hE,ha',g1,g3,g4,g5⟩
 change wp _ _ _ _ ⟨aj [] t, [],none,M⟩ _
 rw[←hE] at hK
 have hxl:(x.l w).length=21:=rfl
 have hxl':(x.l w).take 21=x.l w:=rfl
 have fin:∀{M s''},SC m r b1 b2 vl rest (dL 0 0) M s'' (x.l w)->RS M (TB m b1 b2) x (x.l w)->(if q then aW L [59] s' else s')=s''->K (.agg (x.l w)) (hp [(.o b1,.cells true (x.l w))] 0 M):=fun {M s''} h1 h2 h3=>by
  have hC:Chg [b1] M (hp [(.o b1,.cells true (x.l w))] 0 M):=aF rfl
  refine hK _ _ ⟨⟨w,rfl,(h2.stays (aS.of hC fun i hi hs=> ?_)).weak fun i hi=>hi.1⟩, ?_,h1.hC.trans hC fun i hi ho=> ?_⟩
  ·simp only[O5,O4,or_false] at hs;exact hi.2.1 hs
  ·show RD _ r vl (if q then aW L [59] s' else s') rest
   rw[h3];exact h1.hd.chg hC (by simpa using fun e=>hr1 e.symm)
  ·have hi:=one hi;subst hi;exact OZ ho hn1
 cases q with
 |true=>
  simp (disch:=first|assumption|omega) only[go_sem,seval,g1,g3,g4,g5,aa]
  refine WF.use1H (fV hc (hc.chg h0 hs.hC) hs.hd [59] (by simp) (by omega)) ?_
  rintro M2 ⟨hd2,hC2⟩
  have hs2:=hs.call hr1 hr2 hC2 hd2
  have hg2:=hs2.g2
  have hg1:=hs2.g1
  have ho1:=hs2.o1
  have ho2:=hs2.o2
  simp (disch:=first|assumption|omega|(simp only[aU]<;>omega)) only[go_sem,seval,g1,g3,g4,g5,hg2,hg1,hxl,hxl']
  exact fin hs2 (hx.stays (dK hro hC2)) rfl
 |false=>
  have hg2:=hs.g2
  have hg1:=hs.g1
  have ho1:=hs.o1
  have ho2:=hs.o2
  rw[←aa M]
  simp (disch:=first|assumption|omega|(simp only[aU]<;>omega)) only[go_sem,seval,g1,g3,g4,g5,hg2,hg1,hxl,hxl']
  exact fin hs hx rfl
end
section
variable {L:List Tok}
theorem iN (s:Rs):St L s (d8 L s).2:=b7 L 30 s
theorem jU {x:Stm} {s s':Rs} (h:St L s s'):St L s (sK L x s').2:=h.trans (bN _ _ _)
theorem Jw (p:Int) (s:Rs):St L s (Lw L p s).2:=jU ((cq L s).trans (iN _))
theorem Gg (p:Int) (s:Rs):St L s (Gq L p s).2:=jU ((cq L s).trans (ee _))
theorem BA (p:Int) (s:Rs):St L s (Df L p s).2:=jU ((ee s).trans (iN _))
theorem Jz (p:Int) (s:Rs):St L s (Lh L p s).2:=jU ((((cq L s).trans (ee _)).trans (iN _)).trans (iN _))
theorem Js (p:Int) (s:Rs):St L s (KO L p s).2:=jU (iN _)
theorem Mu {B:Rs->List Stm×Rs} (hB:∀s,St L s (B s).2) (p:Int) (s:Rs):St L s (Jf L B p s).2:=by
 unfold Jf
 have h:=(iN (L:=L) s).trans (hB _)
 split
 ·rename_i q;exact (h.trans (d7 q)).trans (hB _)
 ·exact h
theorem CX {B:Rs->List Stm×Rs} (hB:∀s,St L s (B s).2) (p:Int) (s:Rs):St L s (Bv L B p s).2:=(iN s).trans (hB _)
theorem t8 {B:Rs->List Stm×Rs} (hB:∀s,St L s (B s).2) (s:Rs):(∃t,St L s t/\St L t (cB L B s).2/\(s.e=0->s.a<t.a∨t.e≠0)):=by
 have y:∀{w:List Nat},aT L w s=true->St L s (ai s):=fun h=>d7 h
 have n:s.a<(ai s).a:=Nat.lt_succ_self _
 unfold cB
 split
 ·exact ⟨ai s,y ‹_›,Jw _ _,fun _=>Or.inl n⟩
 ·split
  ·exact ⟨ai s,y ‹_›,Gg _ _,fun _=>Or.inl n⟩
  ·split
   ·exact ⟨ai s,y ‹_›,BA _ _,fun _=>Or.inl n⟩
   ·split
    ·exact ⟨ai s,y ‹_›,Jz _ _,fun _=>Or.inl n⟩
    ·split
     ·exact ⟨ai s,y ‹_›,jU (St.refl _ _),fun _=>Or.inl n⟩
     ·split
      ·exact ⟨ai s,y ‹_›,Js _ _,fun _=>Or.inl n⟩
      ·split
       ·exact ⟨ai s,y ‹_›,Mu hB _ _,fun _=>Or.inl n⟩
       ·split
        ·exact ⟨ai s,y ‹_›,CX hB _ _,fun _=>Or.inl n⟩
        ·refine ⟨bj 2 s,bY _ _ _,jU (St.refl _ _),fun h=>Or.inr ?_⟩
         rw[bj,O1 h];show (2:Nat)≠0;omega
theorem qk {B:Rs->List Stm×Rs} (hB:∀s,St L s (B s).2) (s:Rs):St L s (cB L B s).2:=by
 obtain ⟨t,h1,h2,-⟩:=t8 hB s
 exact h1.trans h2
theorem Eu {B:Rs->List Stm×Rs} (hB:∀s,St L s (B s).2) (s:Rs) (he:s.e=0):s.a<(cB L B s).2.a∨(cB L B s).2.e≠0:=by
 obtain ⟨t,h1,h2,h3⟩:=t8 hB s
 rcases h3 he with q|q
 ·left;have:=h2.le;omega
 ·right;rw[h2.err q];exact q
theorem rO {S:Rs->Stm×Rs} (hS:∀s,St L s (S s).2):∀(f:Nat) (l:List Stm) (s:Rs),St L s (e7 L S f l s).2:=by
 intro f
 induction f with
 |zero=>exact fun l s=>St.refl _ _
 |succ f ih=>
  intro l s
  rw[e7]
  split
  ·exact St.refl _ _
  ·split
   ·exact d7 ‹_›
   ·exact (hS s).trans (ih _ _)
theorem tc {S:Rs->Stm×Rs} (hS:∀s,St L s (S s).2) (d:Nat) (s:Rs):St L s (iI L S d s).2:=((j7 d s).trans (bN _ _ _)).trans (rO hS _ _ _)
theorem eN:∀(n:Nat) (s:Rs),St L s (dk L n s).2:=by
 intro n
 induction n with
 |zero=>exact fun s=>tc (fun s=>bY _ _ _) _ s
 |succ n ih=>exact fun s=>tc (qk ih) _ s
def NX (B:Rs->List Stm×Rs):Prop:=∀s,(B s).2.e=0->cZ (B s).1+4*s.a<=4*(B s).2.a
theorem kH (s:Rs) (h:(d8 L s).2.e=0):(d8 L s).1.sz+s.a<=(d8 L s).2.a:=qy L 30 s h
theorem mt {s:Rs} (h:(aY L s).2.e=0):s.a+1<=(aY L s).2.a:=by
 unfold aY at h ⊢
 split
 ·rename_i q
  rw[O1 q] at h
  have h0:=(bY L 2 s).zero h
  rw[bj,O1 h0] at h
  exact OZ h (by show (2:Nat)≠0;omega)
 ·exact Nat.le_refl _
theorem dH {w:List Nat} {s:Rs} (h:(aW L w s).e=0):s.e=0/\(aW L w s).a=s.a+1:=by
 have h0:=(bN L w s).zero h
 refine ⟨h0, ?_⟩
 unfold aW at h ⊢
 split
 ·rfl
 ·rename_i q
  rw[O0 q,bj,O1 h0] at h
  exact OZ h (by show (2:Nat)≠0;omega)
theorem nA {s:Rs} (h:(bc L s).2.2.e=0):(bc L s).2.1.sz+s.a<=(bc L s).2.2.a:=by
 unfold bc at h ⊢
 split
 ·rename_i q
  rw[O1 q] at h
  obtain ⟨h1,h2⟩:=dH h
  have h3:=kH _ h1
  have h4:=(d7 q).le
  have h5:=(cq L s).le
  have h6:(ai (aY L s).2).a=(aY L s).2.a+1:=rfl
  dsimp only at h1 h2 h3 h4 h5 ⊢
  omega
 ·rename_i q
  rw[O0 q] at h
  have:=mt h
  simp[zE,Ex.sz,jY];omega
theorem lR:zE.sz=1:=by simp[zE,Ex.sz,jY]
theorem gL (k p:Int) (nm ce:List Nat) (i x y:Ex) (b e:List Stm):(Stm.mk k p nm ce i x y b e).sz=1+i.sz+x.sz+y.sz+cZ b+cZ e:=by rw[Stm.sz]
theorem pg:cZ []=0:=rfl
set_option maxHeartbeats 4000000 in
theorem FS {B:Rs->List Stm×Rs} (hSt:∀s,St L s (B s).2) (hB:NX B) (s:Rs) (h:(cB L B s).2.e=0):(cB L B s).1.sz+4*s.a<=4*(cB L B s).2.a:=by
 have n:(ai s).a=s.a+1:=rfl
 unfold cB at h ⊢
 split
 ·rename_i q
  rw[O1 q] at h
  obtain ⟨h1,h2⟩:=dH h
  have h3:=kH _ h1
  have h4:=mt ((iN (L:=L) _).zero h1)
  show (Stm.mk ..).sz+_<=4*(aW L [59] _).a
  rw[h2,gL,lR,pg];omega
 ·rename_i q0;rw[O0 q0] at h
  split
  ·rename_i q
   rw[O1 q] at h
   obtain ⟨h1,h2⟩:=dH h
   have h3:=nA h1
   have h4:=mt ((ee (L:=L) _).zero h1)
   show (Stm.mk ..).sz+_<=4*(aW L [59] _).a
   rw[h2,gL,lR,pg];omega
  ·rename_i q0;rw[O0 q0] at h
   split
   ·rename_i q
    rw[O1 q] at h
    obtain ⟨h1,h2⟩:=dH h
    have h3:=kH _ h1
    have h4:=nA ((iN (L:=L) _).zero h1)
    show (Stm.mk ..).sz+_<=4*(aW L [59] _).a
    rw[h2,gL,lR,pg];omega
   ·rename_i q0;rw[O0 q0] at h
    split
    ·rename_i q
     rw[O1 q] at h
     obtain ⟨h1,h2⟩:=dH h
     have h3:=kH _ h1
     have h1':=(iN (L:=L) _).zero h1
     have h4:=kH _ h1'
     have h1'':=(iN (L:=L) _).zero h1'
     have h5:=nA h1''
     have h6:=mt ((ee (L:=L) _).zero h1'')
     show (Stm.mk ..).sz+_<=4*(aW L [59] _).a
     rw[h2,gL,pg];omega
    ·rename_i q0;rw[O0 q0] at h
     split
     ·rename_i q
      rw[O1 q] at h
      obtain ⟨h1,h2⟩:=dH h
      show (Stm.mk ..).sz+_<=4*(aW L [59] _).a
      rw[h2,gL,lR,pg];omega
     ·rename_i q0;rw[O0 q0] at h
      split
      ·rename_i q
       rw[O1 q] at h
       obtain ⟨h1,h2⟩:=dH h
       have h3:=kH _ h1
       show (Stm.mk ..).sz+_<=4*(aW L [59] _).a
       rw[h2,gL,lR,pg];omega
      ·rename_i q0;rw[O0 q0] at h
       split
       ·rename_i q
        rw[O1 q] at h
        unfold Jf at h ⊢
        split
        ·rename_i q2
         rw[O1 q2] at h
         have h1:=hB _ h
         have h2:=(hSt _).zero h
         have h3:=hB _ h2
         have h4:=kH _ ((hSt _).zero h2)
         have h5:(ai (B (d8 L (ai s)).2).2).a=(B (d8 L (ai s)).2).2.a+1:=rfl
         rw[gL,lR];dsimp only at *;omega
        ·rename_i q2
         rw[O0 q2] at h
         have h3:=hB _ h
         have h4:=kH _ ((hSt _).zero h)
         rw[gL,lR,pg];dsimp only at *;omega
       ·rename_i q0;rw[O0 q0] at h
        split
        ·rename_i q
         rw[O1 q] at h
         have h3:=hB _ h
         have h4:=kH _ ((hSt _).zero h)
         show (Stm.mk ..).sz+_<=4*(B _).2.a
         rw[gL,lR,pg];omega
        ·rename_i q0;rw[O0 q0] at h
         obtain ⟨h1,h2⟩:=dH h
         have h3:=(bY L 2 s).zero h1
         rw[bj,O1 h3] at h1
         exact OZ h1 (by show (2:Nat)≠0;omega)
theorem vO (a b:List Stm):cZ (a++b)=cZ a+cZ b:=by
 induction a with
 |nil=>simp[cZ]
 |cons x a ih=>rw[List.cons_append,cZ,cZ,ih];omega
theorem AJ {S:Rs->Stm×Rs} (hSt:∀s,St L s (S s).2) (hS:∀s,(S s).2.e=0->(S s).1.sz+4*s.a<=4*(S s).2.a):∀(f:Nat) (l:List Stm) (s:Rs) (a0:Nat),(s.e=0->cZ l+4*a0<=4*s.a)->(e7 L S f l s).2.e=0->cZ (e7 L S f l s).1+4*a0<=4*(e7 L S f l s).2.a:=by
 intro f
 induction f with
 |zero=>intro l s a0 h h2;exact h h2
 |succ f ih=>
  intro l s a0 h
  rw[e7]
  split
  ·intro h2;exact OZ h2 ‹_›
  ·split
   ·rename_i q1 q2
    intro h2
    have h1:=h (by omega)
    have:(ai s).a=s.a+1:=rfl
    dsimp only;omega
   ·rename_i q1 q2
    refine ih _ _ a0 fun h2=> ?_
    have h1:=h (by omega)
    have h3:=hS s h2
    rw[vO,cZ,pg];omega
theorem DB {S:Rs->Stm×Rs} (hSt:∀s,St L s (S s).2) (hS:∀s,(S s).2.e=0->(S s).1.sz+4*s.a<=4*(S s).2.a) (d:Nat):NX (iI L S d):=by
 intro s h
 refine AJ hSt hS _ _ _ s.a (fun h2=> ?_) h
 have:=((j7 (L:=L) d s).trans (bN L [123] _)).le
 rw[pg];omega
theorem yA:∀n:Nat,NX (dk L n):=by
 intro n
 induction n with
 |zero=>
  intro s h
  have h1:=(rO (L:=L) (S:=fun s=>(Stm.mk 0 0 [] [] zE zE zE [] [],bj 2 s)) (fun s=>bY _ _ _) _ _ _).zero h
  have h2:=(bN L [123] _).zero h1
  have h3:=(j7 (L:=L) 30 s).zero h2
  exfalso
  obtain ⟨h4,h5⟩:=dH h1
  have hff:∀e (s:Rs),e≠0->(bj e s).e≠0:=fun e s h=>by unfold bj;split;exact h;assumption
  by_cases hk:(aH L s.a).k=3/\(aH L s.a).t= [123]
  ·rw[dC,O1 ⟨h3,by omega,hk.1,hk.2⟩] at h4
   exact hff 11 s (by omega) h4
  ·have e1:dC L 30 s=s:=by rw[dC,O0 (fun h=>hk ⟨h.2.2.1,h.2.2.2⟩)]
   rw[e1] at h1
   have e2:aT L [123] s=false:=O2 fun q=>hk ⟨q.2.1,q.2.2⟩
   rw[aW,e2,O0 Bool.false_ne_true] at h1
   exact hff 2 s (by omega) h1
 |succ n ih=>exact DB (qk (eN n)) (FS (eN n) ih) _
end
section
variable {m0:NH} {L:List Tok} {vl:NV} {r:D4} {rest:List NV}
theorem CF (hc:RC m0 L vl r):∀n,n<=30->Nj m0 L vl r rest (dk L n) (30 - n):=by
 intro n
 induction n with
 |zero=>
  intro _
  have e2:dk L 0=iI L (fun s=>(.mk 0 0 [] [] zE zE zE [] [],bj 2 s)) 30:=by funext s;rfl
  rw[e2]
  intro m s
  exact x7 (S:=fun s=>(.mk 0 0 [] [] zE zE zE [] [],bj 2 s)) hc (fun s=>bY _ _ _) (fun s he=>Or.inr (by rw[bj,O1 he];show (2:Nat)≠0;omega)) (fun h=>by omega)
 |succ n ih=>
  intro hn
  have e:30 - (n+1)=29 - n:=by omega
  have h1:29 - n+1=30 - n:=by omega
  have e2:dk L (n+1)=iI L (cB L (dk L n)) (29 - n):=by funext s;rfl
  rw[e,e2]
  intro m s
  exact x7 hc (qk (eN n)) (Eu (eN n)) (fun _=>by rw[←h1] at ih;intro m s;exact Ia hc (eN n) (ih (by omega)) (by omega))
end
structure Ps where
 cs:List (List Nat×Int)
 ts:List (List Nat×List Stm)
 rc:List Stm
 rd:Bool
section
variable (L:List Tok)
def bE (T:Tok):Int:=if T.n<1048576 then T.n else 1048576
def tU (s:Rs):(List Nat×Int)×Rs:=
 if aT L [91] (aY L s).2=true then
  if (aH L (ai (aY L s).2).a).k=2 then (((aY L s).1,bE (aH L (ai (aY L s).2).a)),aW L [59] (aW L [93] (ai (ai (aY L s).2))))
  else (((aY L s).1,1),aW L [59] (aW L [93] (bj 2 (ai (aY L s).2))))
 else (((aY L s).1,1),aW L [59] (aY L s).2)
def j0 (s:Rs):(List Nat×List Stm)×Rs:=(((aY L s).1,(dk L 30 (aY L s).2).1),(dk L 30 (aY L s).2).2)
abbrev ej:List Nat:= [114,101,99,111,118,101,114]
def ba (rec:Bool) (s:Rs):Rs:=if rec=true/\(aH L s.a).k=4/\(aH L s.a).t=ej then bj 5 s else s
def A4 (rec:Bool) (s:Rs):List Stm×Rs:=dk L 30 (aW L ej (ba L rec s))
def e9 (P:Ps) (s:Rs):Ps×Rs:=
 if aT L [99,101,108,108] s=true then (⟨P.cs++ [(tU L (ai s)).1],P.ts,P.rc,P.rd⟩,(tU L (ai s)).2)
 else if aT L [116,104,114,101,97,100] s=true then (⟨P.cs,P.ts++ [(j0 L (ai s)).1],P.rc,P.rd⟩,(j0 L (ai s)).2)
 else (⟨P.cs,P.ts,(A4 L P.rd s).1,true⟩,(A4 L P.rd s).2)
end
abbrev TP (mR:NH) (vc vt:NV):D4->Prop:=fun i=>¬am mR i/\i∉ids vc/\i∉ids vt
structure PD (mR M:NH) (r:D4) (vl:NV) (s:Rs) (P:Ps) (vc vt vr:NV):Prop where
 hd:RD M r vl s [.bool P.rd,vc,vt,vr]
 cc:bf mR M vc 2 (oK P.cs)
 tt:∃C,bf mR M vt 2 C/\C.length=P.ts.length/\∀(j:Nat) (x:List Nat×List Stm) (c:List NV),P.ts[j]? =some x->C[j]? =some c->∃vb B,c= [.str x.1,vb]/\SS M (TP mR vc vt) vb x.2 B
 rr:∃C,SS M (TP mR vc vt) vr P.rc C
 dd:∀i∈ids vc,i∉ids vt
 oo:∀i,am mR i->am M i
 oR:am mR r
section
variable {m0 mR:NH} {L:List Tok} {vl vc vt vr:NV} {r:D4} {M M':NH} {s s':Rs} {P:Ps}
theorem PD.call (h:PD mR M r vl s P vc vt vr) (hC:Chg [r] M M') (hd:RD M' r vl s' [.bool P.rd,vc,vt,vr]):PD mR M' r vl s' P vc vt vr:=by
 have hn:∀{v e C},bf mR M v e C->∀i∈ids v,i∉ [r]:=fun hv i hi hs=>by
  have hs:=one hs;subst hs;exact hv.new _ hi h.oR
 have hst:aS (TP mR vc vt) M M':=aS.of hC fun i hi hs=>by
  have hs:=one hs;subst hs;exact hi.1 h.oR
 obtain ⟨C,t1,t2,t3⟩:=h.tt
 obtain ⟨D,r1⟩:=h.rr
 exact ⟨hd,h.cc.chg hC (hn h.cc),⟨C,t1.chg hC (hn t1),t2,fun j x c a b=>by obtain ⟨vb,B,e,q⟩:=t3 j x c a b;exact ⟨vb,B,e,q.stays hst⟩⟩,⟨D,r1.stays hst⟩,h.dd,fun i hi=>hC.old (h.oo i hi),h.oR⟩
theorem PD.grow (h:PD mR M r vl s P vc vt vr) (hC:Chg [] M M'):PD mR M' r vl s P vc vt vr:=h.call (hC.weak (by simp)) (h.hd.chg hC (by simp))
end
section
variable {mR:NH} {vl vc vt vr:NV} {r:D4} {M:NH} {s:Rs} {P:Ps}
theorem mn (h:PD mR M r vl s P vc vt vr) {v:NV} {M5 M6:NH} {c:List Nat×Int} (h5:Chg [] M M5) (hv:bf mR M6 v 2 (oK P.cs++ [[.str c.1,ii c.2]])) (h6:Chg (ids vc) M5 M6) (hF:gk M5 vc v):
 PD mR (hp [(.o r,.cells true [vl,ii s.a,ii s.e,ii s.b,.bool P.rd,v,vt,vr])] 0 M6) r vl s ⟨P.cs++ [c],P.ts,P.rc,P.rd⟩ v vt vr:=by
 have h:=h.grow h5
 have o5:=h.oo
 have hr6:am M6 r:=h6.old h.hd.o
 have hC:Chg [r] M6 (hp [(.o r,.cells true [vl,ii s.a,ii s.e,ii s.b,.bool P.rd,v,vt,vr])] 0 M6):=aF rfl
 obtain ⟨C,t1,t2,t3⟩:=h.tt
 obtain ⟨D,r1⟩:=h.rr
 have hvt:∀i∈ids vt,i∉ids vc:=fun i hi hc=>h.dd i hc hi
 have nr:∀{v e C M},bf mR M v e C->∀i∈ids v,i∉ [r]:=fun hv i hi hs=>by
  have hs:=one hs;subst hs;exact hv.new _ hi h.oR
 have hS:∀{w:NV} {l:List Stm} {C:List (List NV)},SS M5 (TP mR vc vt) w l C->SS (hp [(.o r,.cells true [vl,ii s.a,ii s.e,ii s.b,.bool P.rd,v,vt,vr])] 0 M6) (TP mR v vt) w l C:=fun q=>by
  have q1:SS M5 (fun i=>TP mR vc vt i/\am M5 i) _ _ _:=⟨q.sl,fun i hi=>⟨q.hT i hi,q.sl.old i hi⟩,q.len,fun i x c a b=>(q.R i x c a b).old⟩
  have q2:=q1.stays (m':=M6) (aS.of h6 fun i hi hs=>hi.1.2.1 hs)
  have q3:=q2.stays (aS.of hC fun i hi hs=>by
   have hs:=one hs;subst hs;exact hi.1.1 h.oR)
  exact q3.weak fun i hi=>⟨hi.1.1,fun a=>(hF i a).elim hi.1.2.1 fun z=>z hi.2,hi.1.2.2⟩
 refine ⟨⟨(aJ hr6).trans au,bJ hr6⟩, ?_,⟨C,(t1.chg h6 hvt).chg hC (nr t1),t2,fun j x c a b=>by obtain ⟨vb,B,e,q⟩:=t3 j x c a b;exact ⟨vb,B,e,hS q⟩⟩,⟨D,hS r1⟩,fun i hi ht=>(hF i hi).elim (fun a=>h.dd i a ht) fun z=>z (t1.sl.old i ht),fun i hi=>hC.old (h6.old (o5 i hi)),h.oR⟩
 have e:oK (P.cs++ [c])=oK P.cs++ [[.str c.1,ii c.2]]:=by simp
 show bf mR _ v 2 (oK (P.cs++ [c]))
 rw[e]
 exact hv.chg hC (nr hv)
theorem y7 (h:PD mR M r vl s P vc vt vr) {v vb:NV} {B C:List (List NV)} {M6:NH} {n:List Nat} {b:List Stm} (hb:SS M (TP mR vc vt) vb b B) (t1:bf mR M vt 2 C) (t2:C.length=P.ts.length) (t3:∀(j:Nat) (x:List Nat×List Stm) (c:List NV),P.ts[j]? =some x->C[j]? =some c->∃vb B,c= [.str x.1,vb]/\SS M (TP mR vc vt) vb x.2 B)
 (hv':bf mR M6 v 2 (C++ [[.str n,vb]])) (h6:Chg (ids vt) M M6) (hF:gk M vt v):
 PD mR (hp [(.o r,.cells true [vl,ii s.a,ii s.e,ii s.b,.bool P.rd,vc,v,vr])] 0 M6) r vl s ⟨P.cs,P.ts++ [(n,b)],P.rc,P.rd⟩ vc v vr:=by
 have o5:=h.oo
 have hr6:am M6 r:=h6.old h.hd.o
 have hC:Chg [r] M6 (hp [(.o r,.cells true [vl,ii s.a,ii s.e,ii s.b,.bool P.rd,vc,v,vr])] 0 M6):=aF rfl
 obtain ⟨D,r1⟩:=h.rr
 have nr:∀{v e C M},bf mR M v e C->∀i∈ids v,i∉ [r]:=fun hv i hi hs=>by
  have hs:=one hs;subst hs;exact hv.new _ hi h.oR
 have hS:∀{w:NV} {l:List Stm} {C:List (List NV)},SS M (TP mR vc vt) w l C->SS (hp [(.o r,.cells true [vl,ii s.a,ii s.e,ii s.b,.bool P.rd,vc,v,vr])] 0 M6) (TP mR vc v) w l C:=fun q=>by
  have q1:SS M (fun i=>TP mR vc vt i/\am M i) _ _ _:=⟨q.sl,fun i hi=>⟨q.hT i hi,q.sl.old i hi⟩,q.len,fun i x c a b=>(q.R i x c a b).old⟩
  have q2:=q1.stays (m':=M6) (aS.of h6 fun i hi hs=>hi.1.2.2 hs)
  have q3:=q2.stays (aS.of hC fun i hi hs=>by
   have hs:=one hs;subst hs;exact hi.1.1 h.oR)
  exact q3.weak fun i hi=>⟨hi.1.1,hi.1.2.1,fun a=>(hF i a).elim hi.1.2.2 fun z=>z hi.2⟩
 refine ⟨⟨(aJ hr6).trans au,bJ hr6⟩,(h.cc.chg h6 h.dd).chg hC (nr h.cc),⟨C++ [[.str n,vb]],hv'.chg hC (nr hv'),by simp[t2],fun j x c a b'=> ?_⟩,⟨D,hS r1⟩,fun i hi ht=>(hF i ht).elim (fun a=>h.dd i hi a) fun z=>z (h.cc.sl.old i hi),fun i hi=>hC.old (h6.old (o5 i hi)),h.oR⟩
 rcases Nat.lt_or_ge j P.ts.length with q|q
 ·rw[List.getElem?_append_left q] at a
  rw[List.getElem?_append_left (by omega)] at b'
  obtain ⟨w,B2,e,q2⟩:=t3 j x c a b'
  exact ⟨w,B2,e,hS q2⟩
 ·rw[List.getElem?_append_right q] at a
  rw[List.getElem?_append_right (by omega),t2] at b'
  cases hj:j - P.ts.length with
  |zero=>rw[hj] at a b';cases a;cases b';exact ⟨vb,B,rfl,hS hb⟩
  |succ k=>rw[hj] at a;simp at a
theorem BG (h:PD mR M r vl s P vc vt vr) {v:NV} {C:List (List NV)} {b:List Stm} (hb:SS M (TP mR vc vt) v b C) {l:List (AK×NO)} (hl:∀i∈aE l,i=r):
 PD mR (hp ((.o r,.cells true [vl,ii s.a,ii s.e,ii s.b,.bool true,vc,vt,v])::l) 0 M) r vl s ⟨P.cs,P.ts,b,true⟩ vc vt v:=by
 have hC:Chg [r] M (hp ((.o r,.cells true [vl,ii s.a,ii s.e,ii s.b,.bool true,vc,vt,v])::l) 0 M):=(aF rfl).weak fun i hi _=>by
  simp only[aE,O5] at hi ⊢
  rcases hi with rfl|hi
  ·exact Or.inl rfl
  ·exact Or.inl (hl i hi)
 have nr:∀{v e C M},bf mR M v e C->∀i∈ids v,i∉ [r]:=fun hv i hi hs=>by
  have hs:=one hs;subst hs;exact hv.new _ hi h.oR
 obtain ⟨D,t1,t2,t3⟩:=h.tt
 have hst:aS (TP mR vc vt) M (hp ((.o r,.cells true [vl,ii s.a,ii s.e,ii s.b,.bool true,vc,vt,v])::l) 0 M):=aS.of hC fun i hi hs=>by
  have hs:=one hs;subst hs;exact hi.1 h.oR
 exact ⟨⟨(aJ h.hd.o).trans au,bJ h.hd.o⟩,h.cc.chg hC (nr h.cc),⟨D,t1.chg hC (nr t1),t2,fun j x c a b=>by obtain ⟨w,B,e,q⟩:=t3 j x c a b;exact ⟨w,B,e,q.stays hst⟩⟩,⟨C,hb.stays hst⟩,h.dd,fun i hi=>hC.old (h.oo i hi),h.oR⟩
end
section
variable {m0 mR:NH} {L:List Tok} {vl vc vt vr:NV} {r:D4}
theorem KQ (hc:RC m0 L vl r) (h0R:∀i,am m0 i->am mR i) {m:NH} {s:Rs} {P:Ps} (h0:Chg [] m0 m) (hp0:PD mR m r vl s P vc vt vr) (ha:s.a<=L.length) (hcs:P.cs.length<=100000) (hts:P.ts.length<=100000):
 ∃m',bp Try.prog S0 47 [.ptr r 0] m (.tup []) m'/\Chg [] m0 m'/\∃vc' vt' vr',PD mR m' r vl (e9 L P s).2 (e9 L P s).1 vc' vt' vr':=by
 refine WF.ex1 fun K hK=> ?_
 refine WF.of_wpG (fun _=>rfl) wP (L:= [(.e,.ptr r 0)]) rfl ?_
 unfold I0
 have hll:=hc.len
 have hbase:∀{M M':NH},Chg [] m0 M->Chg [r] M M'->Chg [] m0 M':=fun h h'=>hc.chg h h'
 simp (disch:=first|assumption|omega) only[go_sem,seval,aa]
 refine WF.use1H (de hc h0 hp0.hd [99,101,108,108] (by simp) (by omega)) ?_
 rintro M1 ⟨hd1,hC1⟩
 unfold e9 at hK
 cases hb:aT L [99,101,108,108] s with
 |true=>
  rw[hb,O1 rfl] at hd1 hK
  have hlt:=(bB hb).2
  have hp1:=hp0.call hC1 hd1
  have h01:=hbase h0 hC1
  simp (disch:=first|assumption|omega) only[go_sem,seval,aa]
  refine WF.use1H (li hc h01 hp1.hd (by have:(ai s).a=s.a+1:=rfl;omega)) ?_
  rintro M2 ⟨hd2,hC2⟩
  have hp2:=hp1.call hC2 hd2
  have h02:=hbase h01 hC2
  have hlim2:=(cq L (ai s)).lim hlt
  unfold tU at hK
  generalize aY L (ai s)=q at hd2 hp2 hlim2 hK
  obtain ⟨n,s2⟩:=q
  dsimp only at hd2 hp2 hlim2 hK
  simp (disch:=first|assumption|omega|(simp only[aU]<;>omega)) only[go_sem,seval]
  generalize hM3:hp _ 1 M2=M3
  have hC3:Chg [] M2 M3:=bh hM3 rfl
  have hg3:M3.get (na M2 0)=some (.cells true [.str n,ii 1]):=bM hM3
  have ho3:am M3 (na M2 0):=bL hM3 (by omega)
  have hp3:=hp2.grow hC3
  have h03:=h02.trans hC3 (by simp)
  refine WF.use1H (de hc h03 hp3.hd [91] (by simp) (by omega)) ?_
  rintro M4 ⟨hd4,hC4⟩
  have hr2:na M2 0≠r:=fun e=>hp2.hd.o.ne 0 e.symm
  have hp4:=hp3.call hC4 hd4
  have h04:=hbase h03 hC4
  have hg4:=(hC4.get ho3 (by simpa using hr2)).trans hg3
  have ho4:=hC4.old ho3
  cases hb4:aT L [91] s2 with
  |true=>
   rw[hb4,O1 rfl] at hK hd4
   have hlt4:=(bB hb4).2
   have he4:=(bB hb4).1
   have hC24:Chg [r] M2 M4:=(hC3.weak (by simp)).trans hC4 fun _ h _=>h
   have hp4:=hp2.call hC24 hd4
   simp (disch:=first|assumption|omega) only[go_sem,seval,aa]
   refine WF.use1H (iA hc h04 hp4.hd) ?_
   intro M5 hC5
   have hC25:Chg [r] M2 M5:=hC24.trans hC5 (by simp)
   have hp5:=hp4.grow hC5
   have h05:=h04.trans hC5 (by simp)
   have hg5:=(hC5.get ho4 (by simp)).trans hg4
   have ho5:=hC5.old ho4
   have hl:(Tok.l (aH L (ai s2).a)).length=4:=rfl
   have hdg:=hp5.hd.g
   have hdo:=hp5.hd.o
   have he5:(ai s2).e=0:=he4
   have hlim5:(ai s2).a<=L.length:=hlt4
   have hst:1<=(aH L (ai s2).a).k/\(aH L (ai s2).a).k<=4->St L (ai s2) (ai (ai s2)):=fun h=>gP (kV (by omega)) he5 h
   generalize hT:aH L (ai s2).a=T at hK hl hst
   generalize hs3:ai s2=s3 at hK hp5 hdg he5 hlim5 hst
   have rest:∀{M6:NH} {s6:Rs} {z:Int},Chg [r] M2 M6->RD M6 r vl s6 [.bool P.rd,vc,vt,vr]->s6.a<=L.length->M6.get (na M2 0)=some (.cells true [.str n,ii z])->am M6 (na M2 0)->
    ∃m',bp Try.prog S0 87 [.ptr r 0,.str [93]] M6 (.tup []) m'/\PD mR m' r vl (aW L [93] s6) P vc vt vr/\Chg [] m0 m'/\(aW L [93] s6).a<=L.length/\m'.get (na M2 0)=some (.cells true [.str n,ii z])/\am m' (na M2 0):=by
    intro M6 s6 z q1 q2 q3 q4 q5
    obtain ⟨m',w1,w2,w3⟩:=fV hc (hbase h02 q1) q2 [93] (by simp) (by omega)
    have w4:Chg [r] M2 m':=q1.trans w3 fun _ h _=>h
    exact ⟨m',w1,hp2.call w4 w2,hbase h02 w4,(bN L [93] s6).lim q3,(w3.get q5 (by simpa using hr2)).trans q4,w3.old q5⟩
   have hr2':r≠na M2 0:=fun e=>hr2 e.symm
   have hbn:∀{l:List (AK×NO)} {k:Nat},(∀i∈aE l,i=r∨i=na M2 0)->Chg [r] M2 (hp l k M5):=fun hl=>hC25.trans (aF rfl) fun i hi ho=>(hl i hi).elim (fun h=>by simp[h]) fun h=>OZ (h▸ho) aB
   by_cases hk:T.k=2
   ·rw[O1 hk] at hK
    have hst6:=(hst (by omega)).lim hlim5
    by_cases hn:T.n<1048576
    ·have hz:bE T=(T.n:Int):=by unfold bE;rw[O1 hn]
     rw[hz] at hK
     simp (disch:=first|assumption|omega|(simp only[aU]<;>omega)) only[go_sem,seval,hl,oX,MJ,hdg,hg5]
     generalize hM6:hp _ 1 M5=M6
     have hC26:Chg [r] M2 M6:=by rw[←hM6];exact hbn (by simp[aE])
     have hd6:RD M6 r vl (ai s3) [.bool P.rd,vc,vt,vr]:=⟨by rw[←hM6];exact (aJ hdo).trans au,by rw[←hM6];exact bJ hdo⟩
     have hg6:M6.get (na M2 0)=some (.cells true [.str n,ii T.n]):=by rw[←hM6];exact (aJ ho5).trans ((a9 hr2).trans au)
     have ho6:am M6 (na M2 0):=by rw[←hM6];exact bJ ho5
     refine WF.use1 (rest hC26 hd6 hst6 hg6 ho6) ?_
     rintro M7 ⟨hp7,h07,hlim7,hg7,ho7⟩
     simp (disch:=first|assumption|omega) only[go_sem,seval]
     refine WF.use1H (fV hc h07 hp7.hd [59] (by simp) (by omega)) ?_
     rintro M5 ⟨hd5,hC5⟩
     have hp5:=hp7.call hC5 hd5
     have h05:=hbase h07 hC5
     have hg5:=(hC5.get ho7 (by simpa using hr2)).trans hg7
     have ho5:=hC5.old ho7
     have hdg:=hp5.hd.g
     have hdo:=hp5.hd.o
     have hcl:=hp5.cc.sl.one
     have hcs':=hp5.cc.sl.same (n:=3)
     simp (disch:=first|assumption|omega|(simp only[aU]<;>omega)) only[go_sem,seval,hg5,hdg,hcl,hcs']
     have hC6:Chg [] M5 (hp [(.n 0,.cells true [.str n,ii T.n])] 1 M5):=aF rfl
     refine fq (cs:= [.str n,ii T.n]) (B:=mR) (hp5.cc.chg hC6 fun _ _=>by simp) bP (bW (by omega)) rfl (fun i hi=>hC6.old (hp5.oo i hi)) (by simp;omega) (by simp;omega) ?_
     intro v6 M6 hv6 hC7 hF6
     have hg6:=(hC7.get (hC6.old hdo) (fun h=>hp5.cc.new _ h hp5.oR)).trans ((hC6.get hdo (by simp)).trans hdg)
     have ho6:=hC7.old (hC6.old hdo)
     have hPD:=mn (c:=(n,(T.n:Int))) hp5 hC6 hv6 hC7 hF6
     simp (disch:=first|assumption|omega|(simp only[aU]<;>omega)) only[go_sem,seval,hg6,hv6.sl.one]
     refine hK _ ⟨?_,v6,vt,vr,hPD⟩
     refine ((h05.trans hC6 (by simp)).trans hC7 fun i hi ho=>OZ (h0R i ho) (hp5.cc.new i hi)).trans (aF rfl) fun i hi ho=> ?_
     simp only[aE,O5,O4,or_false] at hi
     subst hi;exact OZ ho hc.no
    ·have hz:bE T=1048576:=by unfold bE;rw[O0 hn]
     rw[hz] at hK
     simp (disch:=first|assumption|omega|(simp only[aU]<;>omega)) only[go_sem,seval,hl,oX,MJ,hdg,hg5]
     generalize hM6:hp _ 1 M5=M6
     have hC26:Chg [r] M2 M6:=by rw[←hM6];exact hbn (by simp[aE])
     have hd6:RD M6 r vl (ai s3) [.bool P.rd,vc,vt,vr]:=⟨by rw[←hM6];exact (aJ hdo).trans au,by rw[←hM6];exact bJ hdo⟩
     have hg6:M6.get (na M2 0)=some (.cells true [.str n,ii 1048576]):=by rw[←hM6];exact (aJ ho5).trans ((a9 hr2).trans au)
     have ho6:am M6 (na M2 0):=by rw[←hM6];exact bJ ho5
     refine WF.use1 (rest hC26 hd6 hst6 hg6 ho6) ?_
     rintro M7 ⟨hp7,h07,hlim7,hg7,ho7⟩
     simp (disch:=first|assumption|omega) only[go_sem,seval]
     refine WF.use1H (fV hc h07 hp7.hd [59] (by simp) (by omega)) ?_
     rintro M5 ⟨hd5,hC5⟩
     have hp5:=hp7.call hC5 hd5
     have h05:=hbase h07 hC5
     have hg5:=(hC5.get ho7 (by simpa using hr2)).trans hg7
     have ho5:=hC5.old ho7
     have hdg:=hp5.hd.g
     have hdo:=hp5.hd.o
     have hcl:=hp5.cc.sl.one
     have hcs':=hp5.cc.sl.same (n:=3)
     simp (disch:=first|assumption|omega|(simp only[aU]<;>omega)) only[go_sem,seval,hg5,hdg,hcl,hcs']
     have hC6:Chg [] M5 (hp [(.n 0,.cells true [.str n,ii 1048576])] 1 M5):=aF rfl
     refine fq (cs:= [.str n,ii 1048576]) (B:=mR) (hp5.cc.chg hC6 fun _ _=>by simp) bP (bW (by omega)) rfl (fun i hi=>hC6.old (hp5.oo i hi)) (by simp;omega) (by simp;omega) ?_
     intro v6 M6 hv6 hC7 hF6
     have hg6:=(hC7.get (hC6.old hdo) (fun h=>hp5.cc.new _ h hp5.oR)).trans ((hC6.get hdo (by simp)).trans hdg)
     have ho6:=hC7.old (hC6.old hdo)
     have hPD:=mn (c:=(n,1048576)) hp5 hC6 hv6 hC7 hF6
     simp (disch:=first|assumption|omega|(simp only[aU]<;>omega)) only[go_sem,seval,hg6,hv6.sl.one]
     refine hK _ ⟨?_,v6,vt,vr,hPD⟩
     refine ((h05.trans hC6 (by simp)).trans hC7 fun i hi ho=>OZ (h0R i ho) (hp5.cc.new i hi)).trans (aF rfl) fun i hi ho=> ?_
     simp only[aE,O5,O4,or_false] at hi
     subst hi;exact OZ ho hc.no
   ·rw[O0 hk] at hK
    simp (disch:=first|assumption|omega|(simp only[aU]<;>omega)) only[go_sem,seval,hl,oX,MJ,hdg,hg5]
    generalize hM6:hp _ 1 M5=M6
    have hC6:Chg [] M5 M6:=bh hM6 rfl
    refine WF.use1 (gp (hp5.grow hC6).hd 2) ?_
    rintro M6' ⟨hd6,hC6'⟩
    have hC26:Chg [r] M2 M6':=(hC25.trans hC6 (by simp)).trans hC6' fun _ h _=>h
    have hg6:=(hC6'.get (hC6.old ho5) (by simpa using hr2)).trans ((hC6.get ho5 (by simp)).trans hg5)
    have ho6:=hC6'.old (hC6.old ho5)
    simp (disch:=first|assumption|omega) only[go_sem,seval]
    refine WF.use1 (rest hC26 hd6 ((bY L 2 s3).lim hlim5) hg6 ho6) ?_
    rintro M7 ⟨hp7,h07,hlim7,hg7,ho7⟩
    simp (disch:=first|assumption|omega) only[go_sem,seval]
    refine WF.use1H (fV hc h07 hp7.hd [59] (by simp) (by omega)) ?_
    rintro M5 ⟨hd5,hC5⟩
    have hp5:=hp7.call hC5 hd5
    have h05:=hbase h07 hC5
    have hg5:=(hC5.get ho7 (by simpa using hr2)).trans hg7
    have ho5:=hC5.old ho7
    have hdg:=hp5.hd.g
    have hdo:=hp5.hd.o
    have hcl:=hp5.cc.sl.one
    have hcs':=hp5.cc.sl.same (n:=3)
    simp (disch:=first|assumption|omega|(simp only[aU]<;>omega)) only[go_sem,seval,hg5,hdg,hcl,hcs']
    have hC6:Chg [] M5 (hp [(.n 0,.cells true [.str n,ii 1])] 1 M5):=aF rfl
    refine fq (cs:= [.str n,ii 1]) (B:=mR) (hp5.cc.chg hC6 fun _ _=>by simp) bP (bW (by omega)) rfl (fun i hi=>hC6.old (hp5.oo i hi)) (by simp;omega) (by simp;omega) ?_
    intro v6 M6 hv6 hC7 hF6
    have hg6:=(hC7.get (hC6.old hdo) (fun h=>hp5.cc.new _ h hp5.oR)).trans ((hC6.get hdo (by simp)).trans hdg)
    have ho6:=hC7.old (hC6.old hdo)
    have hPD:=mn (c:=(n,1)) hp5 hC6 hv6 hC7 hF6
    simp (disch:=first|assumption|omega|(simp only[aU]<;>omega)) only[go_sem,seval,hg6,hv6.sl.one]
    refine hK _ ⟨?_,v6,vt,vr,hPD⟩
    refine ((h05.trans hC6 (by simp)).trans hC7 fun i hi ho=>OZ (h0R i ho) (hp5.cc.new i hi)).trans (aF rfl) fun i hi ho=> ?_
    simp only[aE,O5,O4,or_false] at hi
    subst hi;exact OZ ho hc.no
  |false=>
   rw[hb4,O0 Bool.false_ne_true] at hK hd4
   have hp4:=hp3.call hC4 hd4
   simp (disch:=first|assumption|omega) only[go_sem,seval,aa]
   refine WF.use1H (fV hc h04 hp4.hd [59] (by simp) (by omega)) ?_
   rintro M5 ⟨hd5,hC5⟩
   have hp5:=hp4.call hC5 hd5
   have h05:=hbase h04 hC5
   have hg5:=(hC5.get ho4 (by simpa using hr2)).trans hg4
   have ho5:=hC5.old ho4
   have hdg:=hp5.hd.g
   have hdo:=hp5.hd.o
   have hcl:=hp5.cc.sl.one
   have hcs':=hp5.cc.sl.same (n:=3)
   simp (disch:=first|assumption|omega|(simp only[aU]<;>omega)) only[go_sem,seval,hg5,hdg,hcl,hcs']
   have hC6:Chg [] M5 (hp [(.n 0,.cells true [.str n,ii 1])] 1 M5):=aF rfl
   refine fq (cs:= [.str n,ii 1]) (B:=mR) (hp5.cc.chg hC6 fun _ _=>by simp) bP (bW (by omega)) rfl (fun i hi=>hC6.old (hp5.oo i hi)) (by simp;omega) (by simp;omega) ?_
   intro v6 M6 hv6 hC7 hF6
   have hg6:=(hC7.get (hC6.old hdo) (fun h=>hp5.cc.new _ h hp5.oR)).trans ((hC6.get hdo (by simp)).trans hdg)
   have ho6:=hC7.old (hC6.old hdo)
   have hPD:=mn (c:=(n,1)) hp5 hC6 hv6 hC7 hF6
   simp (disch:=first|assumption|omega|(simp only[aU]<;>omega)) only[go_sem,seval,hg6,hv6.sl.one]
   refine hK _ ⟨?_,v6,vt,vr,hPD⟩
   refine ((h05.trans hC6 (by simp)).trans hC7 fun i hi ho=>OZ (h0R i ho) (hp5.cc.new i hi)).trans (aF rfl) fun i hi ho=> ?_
   simp only[aE,O5,O4,or_false] at hi
   subst hi;exact OZ ho hc.no
 |false=>
  have ne1:¬(aT L [99,101,108,108] s=true):=by rw[hb];exact Bool.false_ne_true
  rw[hb,O0 Bool.false_ne_true] at hd1
  rw[O0 ne1] at hK
  have hp1:=hp0.call hC1 hd1
  have h01:=hbase h0 hC1
  simp (disch:=first|assumption|omega) only[go_sem,seval,aa]
  refine WF.use1H (de hc h01 hp1.hd [116,104,114,101,97,100] (by simp) (by omega)) ?_
  rintro M2 ⟨hd2,hC2⟩
  have h02:=hbase h01 hC2
  have tpw:∀{M:NH},PD mR M r vl s P vc vt vr->True:=fun _=>trivial
  cases hb2:aT L [116,104,114,101,97,100] s with
  |true=>
   rw[hb2,O1 rfl] at hd2 hK
   have hlt:=(bB hb2).2
   have hp2:=hp1.call hC2 hd2
   simp (disch:=first|assumption|omega) only[go_sem,seval,aa]
   refine WF.use1H (li hc h02 hp2.hd (by have:(ai s).a=s.a+1:=rfl;omega)) ?_
   rintro M3 ⟨hd3,hC3⟩
   have hp3:=hp2.call hC3 hd3
   have h03:=hbase h02 hC3
   have hlim3:=(cq L (ai s)).lim hlt
   unfold j0 at hK
   generalize aY L (ai s)=q at hd3 hp3 hlim3 hK
   obtain ⟨n,s3⟩:=q
   dsimp only at hd3 hp3 hlim3 hK
   simp (disch:=first|assumption|omega|(simp only[aU]<;>omega)) only[go_sem,seval]
   generalize hM4:hp _ 1 M3=M4
   have hC4:Chg [] M3 M4:=bh hM4 rfl
   have hg4:M4.get (na M3 0)=some (.cells true [.str n,.nils]):=bM hM4
   have ho4:am M4 (na M3 0):=bL hM4 (by omega)
   have hr3:na M3 0≠r:=fun e=>hp3.hd.o.ne 0 e.symm
   have hp4:=hp3.grow hC4
   have h04:=h03.trans hC4 (by simp)
   refine WF.useH (CF hc 30 (Nat.le_refl _) h04 hp4.hd hlim3) ?_
   rintro v5 M5 ⟨⟨C5,hb5⟩,hd5,hC5⟩
   generalize dk L 30 s3=q at hb5 hd5 hK
   obtain ⟨b,s5⟩:=q
   dsimp only at hb5 hd5 hK
   have hg5:=(hC5.get ho4 (by simpa using hr3)).trans hg4
   have ho5:=hC5.old ho4
   have hC35:Chg [r] M3 M5:=(hC4.weak (by simp)).trans hC5 fun _ h _=>h
   have hp5:=hp3.call hC35 hd5
   have hdg:=hp5.hd.g
   have hdo:=hp5.hd.o
   obtain ⟨CT,t1,t2,-⟩:=hp5.tt
   have hcl:=t1.sl.one
   have hcs':=t1.sl.same (n:=3)
   have hr3':r≠na M3 0:=fun e=>hr3 e.symm
   obtain ⟨CT4,t41,-,-⟩:=hp4.tt
   have hbT:SS M5 (fun i=>TP mR vc vt i/\i≠na M3 0) v5 b C5:=hb5.weak fun i hi=>⟨⟨fun h=>hi (hp4.oo i h),fun h=>hi (hp4.cc.sl.old i h),fun h=>hi (t41.sl.old i h)⟩,fun h=>hi (h▸ho4)⟩
   simp (disch:=first|assumption|omega|(simp only[aU]<;>omega)) only[go_sem,seval,hg5,hdg,hb5.sl.one,hcl,hcs']
   have hCb:Chg [na M3 0] M5 (hp [(.n 0,.cells true [.str n,v5]),(.o (na M3 0),.cells true [.str n,v5])] 1 M5):=aF rfl
   have hxb:(hp [(.n 0,.cells true [.str n,v5]),(.o (na M3 0),.cells true [.str n,v5])] 1 M5).get (na M5 0)=some (.cells true [.str n,v5]):=bP
   have hob:am (hp [(.n 0,.cells true [.str n,v5]),(.o (na M3 0),.cells true [.str n,v5])] 1 M5) (na M5 0):=bW (by omega)
   generalize hp [(.n 0,.cells true [.str n,v5]),(.o (na M3 0),.cells true [.str n,v5])] 1 M5=Mb at hCb hxb hob ⊢
   have hCb3:Chg [r] M3 Mb:=hC35.trans hCb fun i hi ho=>by
    have hi:=one hi;subst hi;exact OZ ho aB
   have hpb:=hp3.call hCb3 (hd5.chg hCb (by simpa using hr3'))
   have h0b:=hbase h03 hCb3
   have hbb:SS Mb (TP mR vc vt) v5 b C5:=(hbT.stays (aS.of hCb fun i hi hs=>by
    simp only[O5,O4,or_false] at hs;exact hi.2 hs)).weak fun i hi=>hi.1
   obtain ⟨CTb,tb1,tb2,tb3⟩:=hpb.tt
   have hdgb:=hpb.hd.g
   have hdob:=hpb.hd.o
   refine fq (cs:= [.str n,v5]) (B:=mR) tb1 hxb hob rfl (fun i hi=>hpb.oo i hi) (by omega) (by omega) ?_
   intro v6 M6 hv6 hC7 hF6
   have hg6:=(hC7.get hdob (fun h=>tb1.new _ h hpb.oR)).trans hdgb
   have ho6:=hC7.old hdob
   have hPD:=y7 (n:=n) hpb hbb tb1 tb2 tb3 hv6 hC7 hF6
   simp (disch:=first|assumption|omega|(simp only[aU]<;>omega)) only[go_sem,seval,hg6,hv6.sl.one]
   refine hK _ ⟨?_,vc,v6,vr,hPD⟩
   refine (h0b.trans hC7 fun i hi ho=>OZ (h0R i ho) (tb1.new i hi)).trans (aF rfl) fun i hi ho=> ?_
   simp only[aE,O5,O4,or_false] at hi
   subst hi;exact OZ ho hc.no
  |false=>
   have ne2:¬(aT L [116,104,114,101,97,100] s=true):=by rw[hb2];exact Bool.false_ne_true
   rw[hb2,O0 Bool.false_ne_true] at hd2
   rw[O0 ne2] at hK
   have hp2:=hp1.call hC2 hd2
   have hdg:=hp2.hd.g
   have hl0:(aH L s.a).l[0]? =some (ii (aH L s.a).k):=rfl
   have hl1:(aH L s.a).l[1]? =some (.str (aH L s.a).t):=rfl
   unfold A4 at hK
   have fin:∀{M:NH},PD mR M r vl (ba L P.rd s) P vc vt vr->Chg [] m0 M->∃m',bp Try.prog S0 87 [.ptr r 0,.str ej] M (.tup []) m'/\PD mR m' r vl (aW L ej (ba L P.rd s)) P vc vt vr/\Chg [] m0 m':=by
    intro M q1 q2
    have ha2:(ba L P.rd s).a<=100000:=by
     have h1:St L s (ba L P.rd s):=by unfold ba;split;exact bY _ _ _;exact St.refl _ _
     have:=h1.lim ha
     omega
    obtain ⟨m',w1,w2,w3⟩:=fV hc q2 q1.hd ej (by simp) ha2
    exact ⟨m',w1,q1.call w3 w2,hbase q2 w3⟩
   have hst3:(aW L ej (ba L P.rd s)).a<=L.length:=by
    have h1:St L s (ba L P.rd s):=by unfold ba;split;exact bY _ _ _;exact St.refl _ _
    exact (h1.trans (bN _ _ _)).lim ha
   have fin2:∀{M:NH},PD mR M r vl (aW L ej (ba L P.rd s)) P vc vt vr->Chg [] m0 M->PD mR (hp [(.o r,.cells true [vl,ii (aW L ej (ba L P.rd s)).a,ii (aW L ej (ba L P.rd s)).e,ii (aW L ej (ba L P.rd s)).b,.bool true,vc,vt,vr])] 0 M) r vl (aW L ej (ba L P.rd s)) ⟨P.cs,P.ts,P.rc,true⟩ vc vt vr/\Chg [] m0 (hp [(.o r,.cells true [vl,ii (aW L ej (ba L P.rd s)).a,ii (aW L ej (ba L P.rd s)).e,ii (aW L ej (ba L P.rd s)).b,.bool true,vc,vt,vr])] 0 M):=by
    intro M q1 q2
    obtain ⟨C,q3⟩:=q1.rr
    exact ⟨BG q1 q3 (by simp[aE]),hbase q2 (aF rfl)⟩
   have fin3:∀{M:NH},PD mR M r vl (aW L ej (ba L P.rd s)) ⟨P.cs,P.ts,P.rc,true⟩ vc vt vr->Chg [] m0 M->∃v m',bp Try.prog S0 88 [.ptr r 0,ii 0] M v m'/\cellsOf v=some [v]/\m'.get r=some (.cells true [vl,ii (dk L 30 (aW L ej (ba L P.rd s))).2.a,ii (dk L 30 (aW L ej (ba L P.rd s))).2.e,ii (dk L 30 (aW L ej (ba L P.rd s))).2.b,.bool true,vc,vt,vr])/\am m' r/\
    K (.tup []) (hp [(.o r,.cells true [vl,ii (dk L 30 (aW L ej (ba L P.rd s))).2.a,ii (dk L 30 (aW L ej (ba L P.rd s))).2.e,ii (dk L 30 (aW L ej (ba L P.rd s))).2.b,.bool true,vc,vt,v])] 0 m'):=by
    intro M q1 q2
    obtain ⟨v,m',w1,⟨C,w2⟩,w3,w4⟩:=CF hc 30 (Nat.le_refl _) q2 q1.hd hst3
    have q3:=q1.call w4 w3
    obtain ⟨CT,t1,-,-⟩:=q1.tt
    have w5:SS m' (TP mR vc vt) v (dk L 30 (aW L ej (ba L P.rd s))).1 C:=w2.weak fun i hi=>⟨fun h=>hi (q1.oo i h),fun h=>hi (q1.cc.sl.old i h),fun h=>hi (t1.sl.old i h)⟩
    refine ⟨v,m',w1,w2.sl.one,w3.g,w3.o,hK _ ⟨(hbase q2 w4).trans (aF rfl) fun i hi ho=> ?_,vc,vt,v,BG q3 w5 (by simp[aE])⟩⟩
    simp only[aE,O5,O4,or_false] at hi
    subst hi;exact OZ ho hc.no
   have no:∀{M},PD mR M r vl s P vc vt vr->¬(P.rd=true/\(aH L s.a).k=4/\(aH L s.a).t=ej)->PD mR M r vl (ba L P.rd s) P vc vt vr:=fun h q=>by rw[ba,O0 q];exact h
   cases hrd:P.rd with
   |false=>
    rw[hrd] at hdg
    simp (disch:=first|assumption|omega) only[go_sem,seval,hdg,aa]
    refine WF.use1H (fin (no hp2 (by rw[hrd];simp)) h02) ?_
    rintro M7 ⟨hp7,h07⟩
    have hdg7:=hp7.hd.g
    have hdo7:=hp7.hd.o
    obtain ⟨hp8,h08⟩:=fin2 hp7 h07
    obtain ⟨v9,M9,hr9,hv9,hg9,ho9,hK9⟩:=fin3 hp8 h08
    simp (disch:=first|assumption|omega|(simp only[aU]<;>omega)) only[go_sem,seval,hdg7,hr9.wf,hv9,hg9]
    exact hK9
   |true=>
    rw[hrd] at hdg
    obtain ⟨M3,hr3,hC3⟩:=iA hc h02 hp2.hd
    have hp3:=hp2.grow hC3
    have h03:=h02.trans hC3 (by simp)
    obtain ⟨M4,hr4,hC4⟩:=iA hc h03 hp3.hd
    have hp4:=hp3.grow hC4
    have h04:=h03.trans hC4 (by simp)
    by_cases hk:(aH L s.a).k=4
    ·by_cases ht:(aH L s.a).t=ej
     ·simp (disch:=first|assumption|omega) only[go_sem,seval,hdg,hr3.wf',hr4.wf',hl0,hl1,aa]
      refine WF.use1 (gp hp4.hd 5) ?_
      rintro M5 ⟨hd5,hC5⟩
      have hp5:=hp4.call hC5 hd5
      have e5:ba L P.rd s=bj 5 s:=by rw[ba,O1 ⟨hrd,hk,ht⟩]
      simp (disch:=first|assumption|omega) only[go_sem,seval]
      refine WF.use1H (fin (by rw[e5];exact hp5) (hbase h04 hC5)) ?_
      rintro M7 ⟨hp7,h07⟩
      have hdg7:=hp7.hd.g
      have hdo7:=hp7.hd.o
      obtain ⟨hp8,h08⟩:=fin2 hp7 h07
      obtain ⟨v9,M9,hr9,hv9,hg9,ho9,hK9⟩:=fin3 hp8 h08
      simp (disch:=first|assumption|omega|(simp only[aU]<;>omega)) only[go_sem,seval,hdg7,hr9.wf,hv9,hg9]
      exact hK9
     ·simp (disch:=first|assumption|omega) only[go_sem,seval,hdg,hr3.wf',hr4.wf',hl0,hl1,aa]
      refine WF.use1H (fin (no hp4 fun h=>ht h.2.2) h04) ?_
      rintro M7 ⟨hp7,h07⟩
      have hdg7:=hp7.hd.g
      have hdo7:=hp7.hd.o
      obtain ⟨hp8,h08⟩:=fin2 hp7 h07
      obtain ⟨v9,M9,hr9,hv9,hg9,ho9,hK9⟩:=fin3 hp8 h08
      simp (disch:=first|assumption|omega|(simp only[aU]<;>omega)) only[go_sem,seval,hdg7,hr9.wf,hv9,hg9]
      exact hK9
    ·simp (disch:=first|assumption|omega) only[go_sem,seval,hdg,hr3.wf',hr4.wf',hl0,hl1,aa]
     refine WF.use1H (fin (no hp3 fun h=>hk h.2.1) h03) ?_
     rintro M7 ⟨hp7,h07⟩
     have hdg7:=hp7.hd.g
     have hdo7:=hp7.hd.o
     obtain ⟨hp8,h08⟩:=fin2 hp7 h07
     obtain ⟨v9,M9,hr9,hv9,hg9,ho9,hK9⟩:=fin3 hp8 h08
     simp (disch:=first|assumption|omega|(simp only[aU]<;>omega)) only[go_sem,seval,hdg7,hr9.wf,hv9,hg9]
     exact hK9
end
def cF (L:List Tok):Nat->Ps->Rs->Ps×Rs
 |0,P,s=>(P,s)
 |f+1,P,s=>if s.e≠0 then (P,s) else if (aH L s.a).k=5 then (P,s) else cF L f (e9 L P s).1 (e9 L P s).2
def bT (b:List Nat):Option Prg×Nat×Nat:=if 16384<b.length then (none,0,3) else match (dg b).2 with
 |some a=>(none,a,2)
 |none=>if (cF (dg b).1 ((dg b).1.length+1) ⟨[], [], [],false⟩ ⟨0,0,0⟩).2.e≠0 then (none,(aH (dg b).1 (cF (dg b).1 ((dg b).1.length+1) ⟨[], [], [],false⟩ ⟨0,0,0⟩).2.b).p,(cF (dg b).1 ((dg b).1.length+1) ⟨[], [], [],false⟩ ⟨0,0,0⟩).2.e)
  else (some ⟨(cF (dg b).1 ((dg b).1.length+1) ⟨[], [], [],false⟩ ⟨0,0,0⟩).1.cs,(cF (dg b).1 ((dg b).1.length+1) ⟨[], [], [],false⟩ ⟨0,0,0⟩).1.ts,(cF (dg b).1 ((dg b).1.length+1) ⟨[], [], [],false⟩ ⟨0,0,0⟩).1.rc⟩,b.length,0)
section
variable {L:List Tok}
theorem qG (s:Rs):St L s (tU L s).2:=by
 unfold tU
 split
 ·rename_i h
  have h1:=(cq L s).trans (d7 h)
  split
  ·rename_i h2
   exact ((h1.trans (gP (kV (by omega)) (bB h).1 (by omega))).trans (bN _ _ _)).trans (bN _ _ _)
  ·exact ((h1.trans (bY _ _ _)).trans (bN _ _ _)).trans (bN _ _ _)
 ·exact (cq L s).trans (bN _ _ _)
theorem pZ (s:Rs):St L s (j0 L s).2:=(cq L s).trans (eN 30 _)
theorem mO (q:Bool) (s:Rs):St L s (ba L q s):=by unfold ba;split;exact bY _ _ _;exact St.refl _ _
theorem G4 (q:Bool) (s:Rs):St L s (A4 L q s).2:=((mO q s).trans (bN _ _ _)).trans (eN 30 _)
theorem BO (P:Ps) (s:Rs):St L s (e9 L P s).2:=by
 unfold e9
 split
 ·exact (d7 ‹_›).trans (qG _)
 ·split
  ·exact (d7 ‹_›).trans (pZ _)
  ·exact G4 _ _
theorem HK (P:Ps) (s:Rs) (he:s.e=0):s.a<(e9 L P s).2.a∨(e9 L P s).2.e≠0:=by
 unfold e9
 split
 ·left;have:=(qG (L:=L) (ai s)).le;exact this
 ·split
  ·left;have:=(pZ (L:=L) (ai s)).le;exact this
  ·have hb:=eN (L:=L) 30 (aW L ej (ba L P.rd s))
   by_cases h:(aW L ej (ba L P.rd s)).e=0
   ·left
    obtain ⟨h1,h2⟩:=dH h
    have h3:=(mO (L:=L) P.rd s).le
    have h4:=hb.le
    show s.a<(dk L 30 _).2.a
    omega
   ·right;show (dk L 30 _).2.e≠0
    rw[hb.err h];exact h
theorem yr (P:Ps) (s:Rs):(e9 L P s).1.cs.length+(e9 L P s).1.ts.length<=P.cs.length+P.ts.length+1:=by
 unfold e9
 split
 ·simp;omega
 ·split
  ·simp;omega
  ·dsimp only;omega
theorem xt:∀(f:Nat) (P:Ps) (s:Rs),St L s (cF L f P s).2:=by
 intro f
 induction f with
 |zero=>exact fun P s=>St.refl _ _
 |succ f ih=>
  intro P s
  rw[cF]
  split
  ·exact St.refl _ _
  ·split
   ·exact St.refl _ _
   ·exact (BO P s).trans (ih _ _)
def Ps.sz (P:Ps):Nat:=(P.ts.map fun t=>cZ t.2).sum+cZ P.rc
theorem Hz (P:Ps) (s:Rs) (h:(e9 L P s).2.e=0) (hrd:P.rd=false->P.rc= []):(e9 L P s).1.sz+4*s.a<=P.sz+4*(e9 L P s).2.a/\((e9 L P s).1.rd=false->(e9 L P s).1.rc= []):=by
 unfold e9 at h ⊢
 split
 ·have:=(qG (L:=L) (ai s)).le
  have n:(ai s).a=s.a+1:=rfl
  refine ⟨?_,hrd⟩
  simp only[Ps.sz];omega
 ·rename_i q;rw[O0 q] at h
  split
  ·rename_i q2;rw[O1 q2] at h
   have h1:=yA (L:=L) 30 (aY L (ai s)).2 h
   have h2:=(cq L (ai s)).le
   have n:(ai s).a=s.a+1:=rfl
   refine ⟨?_,hrd⟩
   simp only[Ps.sz,List.map_append,List.map_cons,List.map_nil,List.sum_append,List.sum_cons,List.sum_nil,j0];omega
  ·rename_i q2;rw[O0 q2] at h
   have h1:=yA (L:=L) 30 _ h
   have h0:=(eN (L:=L) 30 _).zero h
   obtain ⟨h2,h3⟩:=dH h0
   have h4:=(mO (L:=L) P.rd s).zero h2
   have h5:(ba L P.rd s).a=s.a:=by unfold ba;split;unfold bj;split<;>rfl;rfl
   refine ⟨?_,fun h=>by simp at h⟩
   simp only[Ps.sz,A4];omega
theorem EM:∀(f:Nat) (P:Ps) (s:Rs) (a0:Nat),(P.rd=false->P.rc= [])->(s.e=0->P.sz+4*a0<=4*s.a)->(cF L f P s).2.e=0->(cF L f P s).1.sz+4*a0<=4*(cF L f P s).2.a:=by
 intro f
 induction f with
 |zero=>intro P s a0 _ h h2;exact h h2
 |succ f ih=>
  intro P s a0 hrd h
  rw[cF]
  split
  ·intro h2;exact OZ h2 ‹_›
  ·split
   ·intro h2;exact h h2
   ·intro h2
    have h3:=(xt (L:=L) f _ _).zero h2
    have h4:=Hz P s h3 hrd
    refine ih _ _ a0 h4.2 (fun _=> ?_) h2
    have:=h (by omega)
    omega
end
section
variable {m0 mR:NH} {L:List Tok} {vl:NV} {r:D4}
theorem yX (hc:RC m0 L vl r) (h0R:∀i,am m0 i->am mR i) {vb:NV} {X:Ps} {Z:Rs} {M:NH} {P:Ps} {s:Rs} {vc vt vr:NV} (h0:Chg [] m0 M) (hp:PD mR M r vl s P vc vt vr) (ha:s.a<=L.length) (hl:P.cs.length+P.ts.length=0) (hE:cF L (L.length+1) P s=(X,Z))
 {o:D4} {t:Tm} (g1:NT.get D4.e t=some vb) (g2:NT.get D4.e.a.f t=some (.ptr r 0)) (g3:NT.get D4.e.b t=some (.ptr o 0)) (g4:NT.get D4.e.a.a t=some vl) {Q:Out->Dyn->Prop}
 (hQ:∀t' M' vc vt vr,NT.get D4.e t'=some vb->NT.get D4.e.a.f t'=some (.ptr r 0)->NT.get D4.e.b t'=some (.ptr o 0)->NT.get D4.e.a.a t'=some vl->PD mR M' r vl Z X vc vt vr->Chg [] m0 M'->Q (.exit 0) ⟨aj [] t', [],none,M'⟩):
 W Try.prog S0 none qp.loop ⟨t, [],none,M⟩ Q:=by
 refine W.loop (fun k D=>∃t M P s vc vt vr,D=⟨t, [],none,M⟩/\NT.get D4.e t=some vb/\NT.get D4.e.a.f t=some (.ptr r 0)/\NT.get D4.e.b t=some (.ptr o 0)/\NT.get D4.e.a.a t=some vl/\PD mR M r vl s P vc vt vr/\Chg [] m0 M/\s.a<=L.length/\cF L k P s=(X,Z)/\(L.length<k+s.a∨s.e≠0)/\P.cs.length+P.ts.length+k<=L.length+1) ?_ (L.length+1) _ ⟨t,M,P,s,vc,vt,vr,rfl,g1,g2,g3,g4,hp,h0,ha,hE,Or.inl (by omega),by omega⟩
 clear h0 hp ha hl hE g1 g2 g3 g4
 rintro k D ⟨t,M,P,s,vc,vt,vr,rfl,g1,g2,g3,g4,hp,h0,ha,hE,hf,hlk⟩
 apply az
 unfold qp
 change wp _ _ _ _ ⟨aj [] t, [],none,M⟩ _
 have hll:=hc.len
 have hdg:=hp.hd.g
 by_cases he:s.e=0
 ·obtain ⟨f,rfl⟩:∃f',k=f'+1:=⟨k - 1,by rcases hf with h|h<;>omega⟩
  rw[cF,O0 (by omega)] at hE
  obtain ⟨M2,hr2,hC2⟩:=iA hc h0 hp.hd
  have hp2:=hp.grow hC2
  have h02:=h0.trans hC2 (by simp)
  have hl0:(aH L s.a).l[0]? =some (ii (aH L s.a).k):=rfl
  by_cases hk:(aH L s.a).k=5
  ·rw[O1 hk] at hE
   injection hE with e1 e2
   subst e1 e2
   simp (disch:=first|assumption|omega) only[go_sem,seval,g1,g2,g3,g4,hdg,hr2.wf',hl0]
   exact hQ _ M2 vc vt vr (by simp only[go_sem,seval,g1]) (by simp only[go_sem,seval,g2]) (by simp only[go_sem,seval,g3]) (by simp only[go_sem,seval,g4]) hp2 h02
  ·rw[O0 hk] at hE
   simp (disch:=first|assumption|omega) only[go_sem,seval,g1,g2,g3,g4,hdg,hr2.wf',hl0]
   refine WF.use1 (KQ hc h0R h02 hp2 ha (by omega) (by omega)) ?_
   rintro M3 ⟨h03,vc',vt',vr',hp3⟩
   have hpr:=HK (L:=L) P s he
   have hlim:=(BO (L:=L) P s).lim ha
   have hlen:=yr (L:=L) P s
   simp (disch:=first|assumption|omega) only[go_sem,seval]
   refine ⟨f,by omega,_,M3,_,_,vc',vt',vr',by rfl,by simp only[go_sem,seval,g1],by simp only[go_sem,seval,g2],by simp only[go_sem,seval,g3],by simp only[go_sem,seval,g4],hp3,h03,hlim,hE, ?_,by omega⟩
   rcases hpr with h|h
   ·left;rcases hf with q|q<;>omega
   ·exact Or.inr h
 ·have hde':decide ((s.e:Int)=0)=false:=O2 (by omega)
  have hE':(P,s)=(X,Z):=by
   cases k with
   |zero=>exact hE
   |succ k=>rw[cF,O1 he] at hE;exact hE
  injection hE' with e1 e2
  subst e1 e2
  simp (disch:=first|assumption|omega) only[go_sem,seval,g1,g2,g3,g4,hdg,hde']
  exact hQ _ M vc vt vr (by simp only[go_sem,seval,g1]) (by simp only[go_sem,seval,g2]) (by simp only[go_sem,seval,g3]) (by simp only[go_sem,seval,g4]) hp h0
theorem CL:∀(l:List Tok) (b:List Nat) (w:Int),MI b w l->∀a,1<=(aH l a).k->(aH l a).k<=4->a<l.length - 1:=by
 intro l
 induction l with
 |nil=>intro b w _ a h1;simp[aH] at h1
 |cons x l ih=>
  intro b w h a h1 h2
  obtain ⟨-,-,-,-,h5,h6⟩:=h
  cases a with
  |zero=>
   have e:aH (x::l) 0=x:=rfl
   rw[e] at h1 h2
   have:l≠ []:=fun q=>by have:=h5.mpr q;omega
   have:=List.length_pos_iff.mpr this
   simp;omega
  |succ a=>
   have e:aH (x::l) (a+1)=aH l a:=by simp[aH]
   rw[e] at h1 h2
   have:=ih b x.p h6 a h1 h2
   simp;omega
theorem Ab {m:NH} {v:NV} {b:List Nat} (hv:Sl m v 1 (kR b)) (hb:∀c∈b,c<256):
 ∃w m',bp Try.prog S0 12 [v] m w m'/\(∃vc vt vr,w= .tup [.agg [vc,vt,vr],ii (bT b).2.1,ii (bT b).2.2]/\(match (bT b).1 with|none=>vc= .nils/\vt= .nils/\vr= .nils/\(bT b).2.2≠0|some p=>RP m' (n8 m) p vc vt vr/\(bT b).2.2=0/\p.cs.length+p.ts.length<=b.length+2/\(p.ts.map fun t=>cZ t.2).sum+cZ p.r<=4*(b.length+1)))/\Chg [] m m':=by
 refine WF.ex fun K hK=> ?_
 refine WF.of_wpG (fun _=>rfl) w8 (L:= [(.e,v)]) rfl ?_
 unfold JU
 have hlen:=hv.len
 rw[show (kR b).length=b.length by simp] at hlen
 simp (disch:=first|assumption|omega) only[go_sem,seval]
 generalize hM1:hp _ 1 m=M1
 have hC1:Chg [] m M1:=bh hM1 rfl
 have hg1:M1.get (na m 0)=some (.cells true [.nils,.nils,.nils]):=bM hM1
 have ho1:am M1 (na m 0):=bL hM1 (by omega)
 obtain ⟨w2,M2,hr2,hw2,hC2⟩:=Ba M1 (hv.chg hC1 fun _ _=>by simp) hb
 have hg2:=(hC2.get ho1 (by simp)).trans hg1
 have ho2:=hC2.old ho1
 have hC02:=hC1.trans hC2 (by simp)
 unfold bT at hK
 by_cases h16:16384<b.length
 ·rw[O1 h16] at hw2 hK
  subst hw2
  simp (disch:=first|assumption|omega|(simp only[aU]<;>omega)) only[go_sem,seval,hr2.wf,hg2]
  exact hK _ _ ⟨⟨.nils,.nils,.nils,rfl,rfl,rfl,rfl,by show (3:Nat)≠0;omega⟩,hC02.trans (aF rfl) (by simp[aE,aB])⟩
 ·rw[O0 h16] at hw2 hK
  cases ht:(dg b).2 with
  |some a=>
   rw[ht] at hw2 hK
   dsimp only at hw2 hK
   subst hw2
   simp (disch:=first|assumption|omega|(simp only[aU]<;>omega)) only[go_sem,seval,hr2.wf,hg2]
   exact hK _ _ ⟨⟨.nils,.nils,.nils,rfl,rfl,rfl,rfl,by show (2:Nat)≠0;omega⟩,hC02.trans (aF rfl) (by simp[aE,aB])⟩
  |none=>
   rw[ht] at hw2 hK
   dsimp only at hw2 hK
   obtain ⟨u,rfl,hu⟩:=hw2
   obtain ⟨hok,hne⟩:=Fi ht
   have hll:(dg b).1.length<=b.length+1:=lh b (b.length+1) (bu b 0)
   have hlast:=CL _ _ _ hok
   generalize (dg b).1=L at hu hok hne hll hlast hK
   have hlp:=List.length_pos_iff.mpr hne
   simp (disch:=first|assumption|omega|(simp only[aU]<;>omega)) only[go_sem,seval,hr2.wf,hg2,hu.sl.one]
   generalize hM3:hp _ 1 M2=M3
   have hC3:Chg [] M2 M3:=bh hM3 rfl
   have hg3:M3.get (na M2 0)=some (.cells true [u,ii 0,ii 0,ii 0,.bool false,.nils,.nils,.nils]):=bM hM3
   have ho3:am M3 (na M2 0):=bL hM3 (by omega)
   have hc:RC M2 L u (na M2 0):=⟨hu.sl,by omega,aB⟩
   have hp0:PD M3 M3 (na M2 0) u ⟨0,0,0⟩ ⟨[], [], [],false⟩ .nils .nils .nils:=⟨⟨hg3,ho3⟩,bf.nil,⟨[],bf.nil,rfl,by simp⟩,⟨[],t7 _ _⟩,by simp[ids],fun i hi=>hi,ho3⟩
   have hst:=xt (L:=L) (L.length+1) ⟨[], [], [],false⟩ ⟨0,0,0⟩
   have hlim:=hst.lim2 hlast (Nat.zero_le _) (Nat.zero_le _)
   have hszp:=EM (L:=L) (L.length+1) ⟨[], [], [],false⟩ ⟨0,0,0⟩ 0 (fun _=>rfl) (fun _=>by simp[Ps.sz,cZ])
   have hlenp:(cF L (L.length+1) ⟨[], [], [],false⟩ ⟨0,0,0⟩).1.cs.length+(cF L (L.length+1) ⟨[], [], [],false⟩ ⟨0,0,0⟩).1.ts.length<=L.length+1:=by
    have key:∀(f:Nat) (P:Ps) (s:Rs),(cF L f P s).1.cs.length+(cF L f P s).1.ts.length<=P.cs.length+P.ts.length+f:=by
     intro f
     induction f with
     |zero=>intro P s;exact Nat.le_refl _
     |succ f ih=>
      intro P s
      rw[cF]
      split
      ·dsimp only;omega
      ·split
       ·dsimp only;omega
       ·have h1:=ih (e9 L P s).1 (e9 L P s).2
        have h2:=yr (L:=L) P s
        omega
    have:=key (L.length+1) ⟨[], [], [],false⟩ ⟨0,0,0⟩
    simpa using this
   generalize hE:cF L (L.length+1) ⟨[], [], [],false⟩ ⟨0,0,0⟩=q at hK hst hlim hszp hlenp
   obtain ⟨X,Z⟩:=q
   dsimp only at hK hst hlim hszp hlenp
   refine yX hc (fun i hi=>hC3.old hi) (vb:=v) (o:=na m 0) hC3 hp0 (Nat.zero_le _) rfl hE (by simp only[go_sem,seval]) (by simp only[go_sem,seval]) (by simp only[go_sem,seval]) (by simp only[go_sem,seval]) ?_
   intro t' M4 vc vt vr g1 g2 g3 g4 hp4 h04
   have hdg:=hp4.hd.g
   have hdo:=hp4.hd.o
   have hg4:=(h04.get ho2 (by simp)).trans hg2
   have ho4:=h04.old ho2
   have hC04:Chg [] m M4:=hC02.trans h04 (by simp)
   have hlen4:=(hv.chg hC04 fun _ _=>by simp).len
   rw[show (kR b).length=b.length by simp] at hlen4
   rw[←aa M4]
   by_cases hz:Z.e=0
   ·rw[O0 (by omega)] at hK
    obtain ⟨CT,t1,t2,t3⟩:=hp4.tt
    obtain ⟨CR,r1⟩:=hp4.rr
    simp (disch:=first|assumption|omega|(simp only[aU]<;>omega)) only[go_sem,seval,g1,g2,g3,g4,hdg,hg4,hlen4,hp4.cc.sl.one,t1.sl.one,r1.sl.one]
    generalize hM5:hp _ 0 M4=M5
    have hC5:Chg [na m 0] M4 M5:=bh hM5 rfl
    have hCm3:Chg [] m M3:=hC02.trans hC3 (by simp)
    have hT:∀i,TP M3 vc vt i->i∉ [na m 0]:=fun i hi h=>by
     have h:=one h;subst h;exact hi.1 (hC3.old ho2)
    have hT2:∀i,TP M3 vc vt i->n8 m i:=fun i hi h=>hi.1 (hCm3.old h)
    have nw:∀{w e C},bf M3 M4 w e C->∀i∈ids w,i∉ [na m 0]:=fun hw i hi h=>by
     have h:=one h;subst h;exact hw.new _ hi (hC3.old ho2)
    have hs0:=hszp hz
    refine hK _ _ ⟨⟨vc,vt,vr,rfl, ?_,rfl, ?_, ?_⟩,hC04.trans hC5 fun i hi ho=>by
     have hi:=one hi;subst hi;exact OZ ho aB⟩
    ·refine ⟨hp4.cc.sl.chg hC5 (nw hp4.cc),fun i hi h=>hp4.cc.new i hi (hCm3.old h),⟨CT,t1.sl.chg hC5 (nw t1),fun i hi h=>t1.new i hi (hCm3.old h),t2,fun j x c a b'=> ?_⟩,⟨CR,(r1.stays (aS.of hC5 hT)).weak hT2⟩⟩
     obtain ⟨w,B,e,q⟩:=t3 j x c a b'
     exact ⟨w,B,e,(q.stays (aS.of hC5 hT)).weak hT2⟩
    ·dsimp only;omega
    ·have:X.sz<=4*(b.length+1):=by omega
     exact this
   ·rw[O1 hz] at hK
    have hb':Z.b<L.length:=by omega
    have hu4:=hu.sl.chg h04 fun _ _=>by simp
    have huo:=hu.chg h04 fun _ _=>by simp
    obtain ⟨id,off,c,a1,-,aN,a2,a3,a4,a5,-⟩:=huo.at Z.b (by simpa using hb')
    have hid:id≠na m 0:=fun e=>aN (e▸ho1)
    have hid':na m 0≠id:=fun e=>hid e.symm
    rw[List.getElem_map] at a5
    have c3:c[off+3]? =some (ii (L[Z.b]).p):=aX a5 3 (by omega)
    have en:aH L Z.b=L[Z.b]:=by rw[aH,List.getElem?_eq_getElem hb'];rfl
    rw[en] at hK
    have hde:decide ((Z.e:Int)≠0)=true:=O3 (by omega)
    have hus:=hu4.same (n:=3)
    have hr0:na M2 0≠na m 0:=fun e=>ho2.ne 0 e.symm
    have hr0':na m 0≠na M2 0:=fun e=>hr0 e.symm
    simp (disch:=first|assumption|omega|(simp only[aU]<;>omega)) only[go_sem,seval,g1,g2,g3,g4,hdg,hg4,hlen4,hde,a1,a2,c3,hus]
    refine hK _ _ ⟨⟨.nils,.nils,.nils,rfl,rfl,rfl,rfl,hz⟩, ?_⟩
    exact ml hC04 (by simp[aE,aB])
end
end FR
