/- Contracts of functions that the law LowerMeans reaches, part 1. -/
import Derived.Test.YtcpilcplobihkaaGreatLmU0
set_option linter.unusedSimpArgs false
set_option linter.unusedVariables false
open Go Nm Go.Proofs
namespace FR
variable {a d c e n i:Nat} {s w:List Nat} {m m' mc:NH} {t:Tm} {Q:Out->Dyn->Prop} {T:D4->Prop} {vb v:NV} {Z Z':List (List Nat)} {p:Nat->Bool} {x:Ex} {C:List (List NV)} {r:D4} {b:List Stm}
section
variable {ck:D4} {B m0:NH} {vc:NV} {cs:List (List Nat×Int)} {T:D4->Prop}
def oQ (ck:D4) (B m0:NH) (vc:NV) (cs:List (List Nat×Int)) (T:D4->Prop) (l:List Stm):Prop:=
 ∀{v:NV} {C:List (List NV)} {N:NH} {u:NV} {st:xF},SS m0 T v l C->Wk ck B m0 vc u st.1.1 (lT st.2) (z9 st.2) N->(st.2≠none->lT st.2≠0)->st.1.1.length<=st.1.2->st.1.2+((aQ l).flatMap Stm.own).length<=100000000->bQ l<=100000000->
  ∃N',rT 76 [.ptr ck 0,v] N (.tup []) N'/\∃u',Wk ck B m0 vc u' (jI (cs.map (·.1)) l st).1.1 (lT (jI (cs.map (·.1)) l st).2) (z9 (jI (cs.map (·.1)) l st).2) N'/\Chg (ck::ids u) N N'/\bP N u u'
theorem JC (M:List (List Nat)):∀(acc L:List (List Nat)),(M.foldl aJ acc).foldl aJ L=M.foldl aJ (acc.foldl aJ L):=by
 induction M with
 |nil=>intro acc L;rfl
 |cons s M ih=>
  intro acc L
  rw[List.foldl_cons,ih,List.foldl_cons]
  congr 1
  by_cases h:s∈acc
  ·rw[show aJ acc s=acc from Xb h,show aJ (acc.foldl aJ L) s=acc.foldl aJ L from Xb ((ei acc L).2 (Or.inr h))]
  ·rw[show aJ acc s=acc++ [s] from Xa h,List.foldl_append];rfl
theorem Rp  {e:Int} (M:List (List Nat)):e6 Z e (M.foldl aJ [])=e6 Z e M:=by
 have:(∃n∈M.foldl aJ [],n∈Z)↔∃n∈M,n∈Z:=by simp[ei]
 unfold e6
 simp only[this]
theorem Nz (x:Stm):x.own.length<=(x.all.flatMap Stm.own).length:=by
 rw[ri,List.flatMap_cons,List.length_append];omega
theorem HE (hcs:Sl m0 vc 2 (lU cs)) (hcl:cs.length<=1000000) (h0:∀i,am m0 i->am B i) (hk:¬am m0 ck) (hkB:¬am B ck)
 {x:Stm} {w:SV} (hR:RS m0 T x (x.l w)) (hP:SP m0 T x w) (hb:oQ ck B m0 vc cs T x.b) (he:oQ ck B m0 vc cs T x.e) {L:List (List Nat)} (hln:L.length<=n) (hbud:n+(x.all.flatMap Stm.own).length<=100000000) (hsz:x.sz<=100000000) {u:NV} {N:NH} (hW:Wk ck B m0 vc u L 0 0 N) {ln:Nat} {id:D4} {off:Nat} {wr:Bool} {C:List NV} (hi:i<ln) (hlv:FT v= .val (ii ln)) (hlm:ln<=1000000000) (a1:ix 21 v (ii i)= .val (.ptr id off)) (a2:N.get id=some (.cells wr C)) (a3:am N id) (a4:off+21<=C.length) (a5:(C.drop off).take 21=x.l w)
 (g1:NT.get D4.e t=some (.ptr ck 0)) (g2:NT.get D4.e.a t=some v) (g3:NT.get D4.e.f t=some (ii i))
 (hN:∀t' N' u',Wk ck B m0 vc u' (eO (cs.map (·.1)) x.all ((L,n),none)).1.1 (lT (eO (cs.map (·.1)) x.all ((L,n),none)).2) (z9 (eO (cs.map (·.1)) x.all ((L,n),none)).2) N'->Chg (ck::ids u) N N'->bP N u u'->NT.get D4.e t'=some (.ptr ck 0)->NT.get D4.e.a t'=some v->NT.get D4.e.f t'=some (ii (i+1:Nat))->Q .norm ⟨t', [],none,N'⟩)
 (hF:(eO (cs.map (·.1)) x.all ((L,n),none)).2≠none->∀t' N' u',Wk ck B m0 vc u' (eO (cs.map (·.1)) x.all ((L,n),none)).1.1 (lT (eO (cs.map (·.1)) x.all ((L,n),none)).2) (z9 (eO (cs.map (·.1)) x.all ((L,n),none)).2) N'->Chg (ck::ids u) N N'->bP N u u'->Q .ret ⟨ah [] t', [],none,N'⟩):
 wp Tryz.prog S0 none nh ⟨ah [] t, [],none,N⟩ Q:=by
 unfold nh
 have hl21:(x.l w).length=21:=rfl
 have hl21':(x.l w).take 21=x.l w:=rfl
 have hg:=hW.g
 have ho:=hW.o
 have hvs:bg 4 vc vc=true:=hcs.same
 refine VQ (fun d=>∃t',d=⟨t', [],none,N⟩/\NT.get D4.e t'=some (.ptr ck 0)/\NT.get D4.e.a t'=some v/\NT.get D4.e.f t'=some (ii i)) (fun R hR'=> ?_) ?_
 ·simp (disch:=first|assumption|omega) only[go_sem,seval,g1,g2,g3,hlv,hg]
  exact hR' _ ⟨_,rfl,by exact gq g1,by exact gq g2,by exact gq g3⟩
 clear g1 g2 g3
 rintro d ⟨t,rfl,g1,g2,g3⟩
 change wp _ _ _ _ ⟨ah [] t, [],none,N⟩ _
 let Ky:D4->Tm->Prop:=fun b1 t=>NT.get D4.e t=some (.ptr ck 0)/\NT.get D4.e.a t=some v/\NT.get D4.e.f t=some (ii i)/\NT.get D4.e.a.a t=some (.ptr b1 0)
 refine iC (fun d=>∃t N1 b1,d=⟨t, [],none,N1⟩/\Ky b1 t/\Chg [] N N1/\¬am N b1/\am N1 b1/\N1.get b1=some (.cells true (x.l w))) (fun R hR'=> ?_) ?_
 ·rw[←aa N]
  simp (disch:=first|assumption|omega|(simp only[aG]<;>omega)) only[go_sem,seval,g1,g2,g3,a1,a2,a5,hl21,hl21']
  generalize hM1:hp _ 1 N=N1
  have hC1:Chg [] N N1:=aR hM1 rfl
  exact hR' _ ⟨_,N1,na N 0,rfl,⟨by exact gq g1,by exact gq g2,by exact gq g3,by exact gq rfl⟩,hC1,aA,by rw[←hM1];exact bN (by omega),by rw[←hM1];exact bI⟩
 clear g1 g2 g3
 rintro d ⟨t,N1,b1,rfl,⟨g1,g2,g3,g4⟩,hC1,hb1,ob1,gb1⟩
 change wp _ _ _ _ ⟨ah [] t, [],none,N1⟩ _
 have hW1:=hW.grow hC1
 have hbck:b1≠ck:=fun e=>hb1 (e▸ho)
 have hbck':=hbck.symm
 have hbu:b1∉ids u:=fun h=>hb1 (hW.w.sl.old _ h)
 have t0:(x.l w)[0]? =some (ii x.k):=rfl
 have t1:(x.l w)[1]? =some (ii x.a):=rfl
 have t3:(x.l w)[3]? =some (.str x.ce):=rfl
 have hg1:=hW1.g
 have ho1:=hW1.o
 generalize he1:(if (x.k=1∨x.k=2∨x.k=3)/\x.ce∉cs.map (·.1) then (4:Int) else 0)=e1
 refine iC (fun d=>∃t N2,d=⟨t, [],none,N2⟩/\Ky b1 t/\Wk ck B m0 vc u L e1 0 N2/\Chg [ck] N1 N2) (fun R hR'=> ?_) ?_
 ·have hce:=wu N1 x.k
  have hf:=vf (hcs.chg hW1.c fun _ _=>by simp) hcl x.ce
  by_cases hk1:x.k=1∨x.k=2∨x.k=3
  ·rw[Xd hk1] at hce
   by_cases hz:x.ce∈cs.map (·.1)
   ·rw[Xa fun q=>q.2 hz] at he1
    subst he1
    have hfp:0<=bC (cs.map (·.1)) x.ce:=fw.2 hz
    generalize bC (cs.map (·.1)) x.ce=z at hf hfp
    simp (disch:=first|assumption|omega) only[go_sem,seval,g1,g2,g3,g4,gb1,t0,t1,t3,hg1,hvs,hce.wf',hf.wf']
    exact hR' _ ⟨_,N1,rfl,⟨by exact gq g1,by exact gq g2,by exact gq g3,by exact gq g4⟩,hW1,(Chg.refl N1).weak (by simp)⟩
   ·rw[Xb ⟨hk1,hz⟩] at he1
    subst he1
    have hfp:bC (cs.map (·.1)) x.ce<0:=Kx.2 hz
    generalize bC (cs.map (·.1)) x.ce=z at hf hfp
    simp (disch:=first|assumption|omega|(simp only[aG]<;>omega)) only[go_sem,seval,g1,g2,g3,g4,gb1,t0,t1,t3,hg1,hvs,hce.wf',hf.wf]
    generalize hM2:hp _ 0 N1=N2
    obtain ⟨hW2,hC2⟩:=hW1.set hk hM2
    exact hR' _ ⟨_,N2,rfl,⟨by exact gq g1,by exact gq g2,by exact gq g3,by exact gq g4⟩,hW2,hC2⟩
  ·rw[Xc hk1] at hce
   rw[Xa fun q=>hk1 q.1] at he1
   subst he1
   simp only[go_sem,seval,g1,g2,g3,g4,gb1,t0,t1,t3,hg1,hvs,hce.wf']
   exact hR' _ ⟨_,N1,rfl,⟨by exact gq g1,by exact gq g2,by exact gq g3,by exact gq g4⟩,hW1,(Chg.refl N1).weak (by simp)⟩
 clear g1 g2 g3 g4 hg1 ho1
 rintro d ⟨t,N2,rfl,⟨g1,g2,g3,g4⟩,hW2,hC2⟩
 change wp _ _ _ _ ⟨ah [] t, [],none,N2⟩ _
 have gb2:=(hC2.get ob1 (by simpa using hbck)).trans gb1
 have ob2:=hC2.old ob1
 have hg2:=hW2.g
 refine iC (fun d=>∃t N3 vm,d=⟨t, [],none,N3⟩/\Ky b1 t/\NT.get D4.e.a.b t=some vm/\aY N2 N3 vm 1 (bK (x.own.foldl aJ []))/\Chg [] N2 N3) (fun R hR'=> ?_) ?_
 ·simp only[go_sem,seval,g1,g2,g3,g4,gb2,hl21,hl21']
  refine WF.use (OK hR (B:=N2) (m:=N2) (v:= .nils) (l:= []) hW2.c aY.nil (fun i hi=>hW2.c.old hi) (fun _ h=>h) (by simp;omega)) ?_
  rintro vm N3 ⟨hvm,hC3,-⟩
  have hC3':Chg [] N2 N3:=hC3.weak (by simp[ids])
  simp only[go_sem,seval,g1,g2,g3,g4]
  exact hR' _ ⟨_,N3,vm,rfl,⟨by exact gq g1,by exact gq g2,by exact gq g3,by exact gq g4⟩,by exact gq rfl,hvm,hC3'⟩
 clear g1 g2 g3 g4
 rintro d ⟨t,N3,vm,rfl,⟨g1,g2,g3,g4⟩,g5,hvm,hC3⟩
 change wp _ _ _ _ ⟨ah [] t, [],none,N3⟩ _
 have gb3:=(hC3.get ob2 (by simp)).trans gb2
 have ob3:=hC3.old ob2
 have hW3:=hW2.grow hC3
 have hdck:ck∉ids vm:=fun h=>hvm.new _ h hW2.o
 have hol:=Nz x
 have hdl:=cH x.own []
 rw[List.length_nil] at hdl
 generalize he2:e6 (cs.map (·.1)) e1 x.own=e2
 refine iC (fun d=>∃t N4,d=⟨t, [],none,N4⟩/\Ky b1 t/\NT.get D4.e.a.b t=some vm/\Wk ck B m0 vc u L e2 0 N4/\Chg [ck] N3 N4) (fun R hR'=> ?_) ?_
 ·simp only[go_sem,seval,g1,g2,g3,g4,g5]
  refine TG hcs hcl hk hW3 hvm.sl hdck (by omega) (v:=v) (s2:= .ptr b1 0) (i0:=i) (by exact gq g1) (by exact gq g5) (by exact gq rfl) (by exact gq g2) (by exact gq g3) (by exact gq g4) ?_
  intro t' N4 hW4 hC4 k1 k2 k3 k4 k5
  rw[Rp,he2] at hW4
  simp only[go_sem,seval]
  exact hR' _ ⟨_,N4,rfl,⟨k1,k3,k4,k5⟩,k2,hW4,hC4⟩
 clear g1 g2 g3 g4 g5
 rintro d ⟨t,N4,rfl,⟨g1,g2,g3,g4⟩,g5,hW4,hC4⟩
 change wp _ _ _ _ ⟨ah [] t, [],none,N4⟩ _
 have gb4:=(hC4.get ob3 (by simpa using hbck)).trans gb3
 have ob4:=hC4.old ob3
 have hvm4:=hvm.chg hC4 fun i hi=>by simp;rintro rfl;exact hdck hi
 have hdu:∀i∈ids vm,i∉ids u:=fun i hi hu=>hvm.new i hi (hW2.w.sl.old i hu)
 refine iC (fun d=>∃t N5 u5,d=⟨t, [],none,N5⟩/\Ky b1 t/\Wk ck B m0 vc u5 (x.own.foldl aJ L) e2 0 N5/\Chg (ck::ids u) N4 N5/\bP N4 u u5) (fun R hR'=> ?_) ?_
 ·simp only[go_sem,seval,g1,g2,g3,g4,g5]
  refine U9 h0 hk hkB hvs hW4 hvm4 hdck hdu (by omega) (v:=v) (s2:= .ptr b1 0) (i0:=i) (by exact gq g1) (by exact gq g5) (by exact gq rfl) (by exact gq g2) (by exact gq g3) (by exact gq g4) ?_
  intro t' N5 u5 hW5 hC5 hF5 k1 k2 k3 k4
  rw[JC,List.foldl_nil] at hW5
  simp only[go_sem,seval]
  exact hR' _ ⟨_,N5,u5,rfl,⟨k1,k2,k3,k4⟩,hW5,hC5,hF5⟩
 clear g1 g2 g3 g4 g5
 rintro d ⟨t,N5,u5,rfl,⟨g1,g2,g3,g4⟩,hW5,hC5,hF5⟩
 change wp _ _ _ _ ⟨ah [] t, [],none,N5⟩ _
 have hbn:b1∉ck::ids u:=by rw[Xf,not_or];exact ⟨hbck,hbu⟩
 have gb5:=(hC5.get ob4 hbn).trans gb4
 have ob5:=hC5.old ob4
 have hbu5:b1∉ids u5:=fun h=>(hF5 _ h).elim hbu fun q=>q ob4
 have hN4:Chg [ck] N N4:=((((hC1.weak (T:= [ck]) (by simp)).trans hC2 fun _ h _=>h).tr hC3).trans hC4 fun _ h _=>h)
 have hN5:Chg (ck::ids u) N N5:=(hN4.weak (by simp)).trans hC5 fun _ h _=>h
 have hFN5:bP N u u5:=fun i hi=>(hF5 i hi).imp _root_.id fun q o=>q (hN4.old o)
 have hg5:=hW5.g
 have ho5:=hW5.o
 have hlen5:=hW5.w.sl.len
 rw[List.length_map] at hlen5
 have hfl:=cH x.own L
 have hL5:(x.own.foldl aJ L).length<=n+x.own.length:=by omega
 generalize hLL:x.own.foldl aJ L=L' at hW5 hlen5 hL5
 generalize he3:(if e2=0/\12<L'.length then (3:Int) else e2)=e3
 have herr:mQ (cs.map (·.1)) L' x=e3:=by unfold mQ;rw[he1,he2,he3]
 have hrd:(qL (cs.map (·.1)) ((L,n),none) x).1=((L',n+x.own.length),MJ x.a e3):=by
  unfold qL;dsimp only;rw[hLL,herr]
 refine iC (fun d=>∃t N6,d=⟨t, [],none,N6⟩/\Ky b1 t/\Wk ck B m0 vc u5 L' e3 0 N6/\Chg [ck] N5 N6) (fun R hR'=> ?_) ?_
 ·by_cases h2:e2=0
  ·rw[h2] at hg5
   by_cases h12:12<L'.length
   ·rw[Xb ⟨h2,h12⟩] at he3
    subst he3
    rw[←aa N5]
    simp (disch:=first|assumption|omega|(simp only[aG]<;>omega)) only[go_sem,seval,g1,g2,g3,g4,hg5,hlen5]
    generalize hM6:hp _ 0 N5=N6
    rw[h2] at hW5
    obtain ⟨hW6,hC6⟩:=hW5.set hk hM6
    exact hR' _ ⟨_,N6,rfl,⟨by exact gq g1,by exact gq g2,by exact gq g3,by exact gq g4⟩,hW6,hC6⟩
   ·rw[Xa fun q=>h12 q.2] at he3
    subst he3
    simp (disch:=first|assumption|omega) only[go_sem,seval,g1,g2,g3,g4,hg5,hlen5]
    exact hR' _ ⟨_,N5,rfl,⟨by exact gq g1,by exact gq g2,by exact gq g3,by exact gq g4⟩,hW5,(Chg.refl N5).weak (by simp)⟩
  ·rw[Xa fun q=>h2 q.1] at he3
   subst he3
   simp (disch:=first|assumption|omega) only[go_sem,seval,g1,g2,g3,g4,hg5,hlen5]
   exact hR' _ ⟨_,N5,rfl,⟨by exact gq g1,by exact gq g2,by exact gq g3,by exact gq g4⟩,hW5,(Chg.refl N5).weak (by simp)⟩
 clear g1 g2 g3 g4 hg5 ho5 hlen5
 rintro d ⟨t,N6,rfl,⟨g1,g2,g3,g4⟩,hW6,hC6⟩
 change wp _ _ _ _ ⟨ah [] t, [],none,N6⟩ _
 have gb6:=(hC6.get ob5 (by simpa using hbck)).trans gb5
 have ob6:=hC6.old ob5
 have hN6:Chg (ck::ids u) N N6:=hN5.trans (hC6.weak (T:=ck::ids u) (by simp)) fun _ h _=>h
 have hg6:=hW6.g
 have ho6:=hW6.o
 have hall:=IU (Z:=cs.map (·.1)) (x:=x) (st:=((L,n),none)) rfl
 rw[hrd] at hall
 refine iC (fun d=>e3=0/\∃t,d=⟨t, [],none,N6⟩/\Ky b1 t) (fun R hR'=> ?_) ?_
 ·by_cases h3:e3=0
  ·rw[h3] at hg6
   simp only[go_sem,seval,g1,g2,g3,g4,hg6]
   exact hR' _ ⟨h3,_,rfl,by exact gq g1,by exact gq g2,by exact gq g3,by exact gq g4⟩
  ·rw[show MJ x.a e3=some (x.a,e3) from Xa h3] at hall
   have hid:∀l,jI (cs.map (·.1)) l ((L',n+x.own.length),some (x.a,e3))=((L',n+x.own.length),some (x.a,e3)):=fun l=>Xa (by simp)
   rw[hid,hid] at hall
   rw[hall] at hF
   rw[←aa N6]
   simp (disch:=first|assumption|omega|(simp only[aG]<;>omega)) only[go_sem,seval,g1,g2,g3,g4,hg6,h3,gb6,t1]
   generalize hM7:hp _ 0 N6=N7
   obtain ⟨hW7,hC7⟩:=hW6.set hk hM7
   exact hF (by simp) _ N7 u5 hW7 (hN6.trans (hC7.weak (T:=ck::ids u) (by simp)) fun _ h _=>h) hFN5
 clear g1 g2 g3 g4
 rintro d ⟨h3,t,rfl,⟨g1,g2,g3,g4⟩⟩
 change wp _ _ _ _ ⟨ah [] t, [],none,N6⟩ _
 subst h3
 rw[show MJ x.a 0=none from Xb rfl] at hall
 have hrs:lT (none:Option (Int×Int))=0:=rfl
 have hra:z9 (none:Option (Int×Int))=0:=rfl
 have hsze:=yh x
 rw[ri,List.flatMap_cons,List.length_append,List.flatMap_append,List.length_append] at hbud
 generalize hst8:jI (cs.map (·.1)) (if x.k=6∨x.k=7 then x.b else []) ((L',n+x.own.length),none)=st8 at hall
 have hw8:=HT (Z:=cs.map (·.1)) (aQ (if x.k=6∨x.k=7 then x.b else [])) ((L',n+x.own.length),none)
 rw[←md,hst8] at hw8
 obtain ⟨q1,q2,q3⟩:=hw8
 dsimp only at q1 q3
 have t19:(x.l w)[19]? =some w.vb:=rfl
 have t20:(x.l w)[20]? =some w.ve:=rfl
 obtain ⟨Bb,hSb⟩:=hP.b
 obtain ⟨Be,hSe⟩:=hP.e
 refine iC (fun d=>∃t N8 u8,d=⟨t, [],none,N8⟩/\Ky b1 t/\Wk ck B m0 vc u8 st8.1.1 (lT st8.2) (z9 st8.2) N8/\Chg (ck::ids u5) N6 N8/\bP N6 u5 u8) (fun R hR'=> ?_) ?_
 ·by_cases h67:x.k=6∨x.k=7
  ·rw[Xb h67] at hst8 hbud q1
   obtain ⟨N8,hr8,u8,hW8,hC8,hF8⟩:=hb hSb (st:=((L',n+x.own.length),none)) hW6 (fun h=>W9 rfl h) (by dsimp only;omega) (by dsimp only;omega) (by omega)
   rw[hst8] at hW8
   rcases h67 with h6|h7
   ·simp only[go_sem,seval,g1,g2,g3,g4,gb6,t0,t19,h6,hr8.wf']
    exact hR' _ ⟨_,N8,u8,rfl,⟨by exact gq g1,by exact gq g2,by exact gq g3,by exact gq g4⟩,hW8,hC8,hF8⟩
   ·simp only[go_sem,seval,g1,g2,g3,g4,gb6,t0,t19,h7,hr8.wf']
    exact hR' _ ⟨_,N8,u8,rfl,⟨by exact gq g1,by exact gq g2,by exact gq g3,by exact gq g4⟩,hW8,hC8,hF8⟩
  ·rw[Xa h67] at hst8
   have e8:st8=((L',n+x.own.length),none):=by rw[←hst8];rfl
   have d6:x.k≠6:=fun h=>h67 (Or.inl h)
   have d7:x.k≠7:=fun h=>h67 (Or.inr h)
   simp only[go_sem,seval,g1,g2,g3,g4,gb6,t0,t19,d6,d7]
   exact hR' _ ⟨_,N6,u5,rfl,⟨by exact gq g1,by exact gq g2,by exact gq g3,by exact gq g4⟩,by rw[e8];exact hW6,(Chg.refl N6).weak (by simp),bP.refl N6 u5⟩
 clear g1 g2 g3 g4 hg6 ho6
 rintro d ⟨t,N8,u8,rfl,⟨g1,g2,g3,g4⟩,hW8,hC8,hF8⟩
 change wp _ _ _ _ ⟨ah [] t, [],none,N8⟩ _
 have hb5:b1∉ck::ids u5:=by rw[Xf,not_or];exact ⟨hbck,hbu5⟩
 have gb8:=(hC8.get ob6 hb5).trans gb6
 have ob8:=hC8.old ob6
 have hFC:∀{u9:NV} {N9:NH} {v9:NV} {M9:NH},Chg (ck::ids u) N M9->bP N u v9->Chg (ck::ids v9) M9 N9->bP M9 v9 u9->Chg (ck::ids u) N N9/\bP N u u9:=by
  intro u9 N9 v9 M9 c1 c2 c3 c4
  refine ⟨c1.trans c3 fun i hi ho=> ?_,fun i hi=> ?_⟩
  ·rcases List.mem_cons.1 hi with e|hi
   ·simp[e]
   ·exact (c2 i hi).elim (fun q=>by simp[q]) fun q=>W9 ho q
  ·exact (c4 i hi).elim (fun q=>c2 i q) fun q=>Or.inr fun o=>q (c1.old o)
 obtain ⟨hN8,hFN8⟩:=hFC hN6 hFN5 hC8 hF8
 by_cases h6:x.k=6
 ·rw[Xb h6] at hall hbud
  have hq:(aQ (if x.k=6∨x.k=7 then x.b else [])).flatMap Stm.own=((if x.k=6∨x.k=7 then aQ x.b else [])).flatMap Stm.own:=by rw[Xb (Or.inl h6),Xb (Or.inl h6)]
  rw[hq] at q1
  obtain ⟨N9,hr9,u9,hW9,hC9,hF9⟩:=he hSe (st:=st8) hW8 (fun h=>q2 h rfl) (q3 (by omega)) (by omega) (by omega)
  obtain ⟨hN9,hFN9⟩:=hFC hN8 hFN8 hC9 hF9
  rw[←hall] at hW9
  simp (disch:=first|assumption|omega) only[go_sem,seval,g1,g2,g3,g4,gb8,t0,t20,h6,hr9.wf']
  exact hN _ N9 u9 hW9 hN9 hFN9 (by exact gq g1) (by exact gq g2) (by exact gq rfl)
 ·rw[Xa h6] at hall
  have e9:eO (cs.map (·.1)) x.all ((L,n),none)=st8:=by rw[hall];unfold jI;split<;>rfl
  rw[←e9] at hW8
  simp (disch:=first|assumption|omega) only[go_sem,seval,g1,g2,g3,g4,gb8,t0,t20,h6]
  exact hN _ N8 u8 hW8 hN8 hFN8 (by exact gq g1) (by exact gq g2) (by exact gq rfl)
end
section
variable {ck:D4} {B m0:NH} {vc:NV} {cs:List (List Nat×Int)} {T:D4->Prop}
theorem Eq  {l:List Stm} {st:xF} (h:st.2≠none):jI Z l st=st:=Xa h
theorem ot (hcs:Sl m0 vc 2 (lU cs)) (hcl:cs.length<=1000000) (h0:∀i,am m0 i->am B i) (hk:¬am m0 ck) (hkB:¬am B ck) {l:List Stm} (ih:∀x∈l,oQ ck B m0 vc cs T x.b/\oQ ck B m0 vc cs T x.e):oQ ck B m0 vc cs T l:=by
 intro v C N u st hS hW hne hle hbud hsz
 refine WF.ex1 fun K hK=> ?_
 refine WF.of_wpG (fun _=>rfl) Fj (L:= [(.a .e,v),(.e,.ptr ck 0)]) rfl ?_
 unfold Qq
 have hll:=ng l
 simp only[go_sem,seval,aa]
 refine W.loop (fun k d=>∃t M i u' st',d=⟨t, [],none,M⟩/\NT.get D4.e t=some (.ptr ck 0)/\NT.get D4.e.a t=some v/\NT.get D4.e.f t=some (ii (i:Nat))/\i+k=l.length/\jI (cs.map (·.1)) (l.drop i) st'=jI (cs.map (·.1)) l st/\Wk ck B m0 vc u' st'.1.1 (lT st'.2) (z9 st'.2) M/\Chg (ck::ids u) N M/\bP N u u'/\(st'.2≠none->lT st'.2≠0)/\st'.1.1.length<=st'.1.2/\st'.1.2+((aQ (l.drop i)).flatMap Stm.own).length<=100000000) ?_ l.length _ ⟨_,N,0,u,st,rfl,by exact gq rfl,by exact gq rfl,by exact gq rfl,by omega,rfl,hW,(Chg.refl N).weak (by simp),bP.refl N u,hne,hle,hbud⟩
 rintro k d ⟨t,M,i,u',st',rfl,g1,g2,g3,hik,hE,hWM,hC,hF,hne',hle',hbud'⟩
 apply ax
 change wp _ _ _ _ ⟨ah [] t, [],none,M⟩ _
 have hSM:=hS.stays (kQ hWM.c T)
 have hlen:=hSM.sl.len
 rw[hS.len] at hlen
 have hg:=hWM.g
 by_cases hi:i<l.length
 ·by_cases hs:st'.2=none
  ·obtain ⟨⟨L,n⟩,r⟩:=st'
   cases hs
   obtain ⟨w,hcx,hRx,hPx⟩:=CC hS i hi
   obtain ⟨id,off,wr,c,a1,a2,a3,a4,a5⟩:=zS hSM i hi hcx
   have hsx:=Eu (List.getElem_mem hi)
   obtain ⟨h1,h2⟩:=ih _ (List.getElem_mem hi)
   rw[List.drop_eq_getElem_cons hi] at hE hbud'
   rw[FJ] at hE
   rw[aQ,List.flatMap_append,List.length_append] at hbud'
   dsimp only at hbud' hle'
   obtain ⟨q1,q2,q3⟩:=HT (Z:=cs.map (·.1)) l[i].all ((L,n),none)
   have hstep:∀{u9:NV} {N9:NH},Chg (ck::ids u') M N9->bP M u' u9->Chg (ck::ids u) N N9/\bP N u u9:=by
    intro u9 N9 c3 c4
    refine ⟨hC.trans c3 fun i hi ho=> ?_,fun i hi=> ?_⟩
    ·rcases List.mem_cons.1 hi with e|hi
     ·simp[e]
     ·exact (hF i hi).elim (fun q=>by simp[q]) fun q=>W9 ho q
    ·exact (c4 i hi).elim (fun q=>hF i q) fun q=>Or.inr fun o=>q (hC.old o)
   refine HE hcs hcl h0 hk hkB hRx hPx h1 h2 (L:=L) (n:=n) hle' (by omega) (by omega) hWM (ln:=l.length) hi hlen (by omega) a1 a2 a3 a4 a5 g1 g2 g3 ?_ ?_
   ·intro t' N' u9 hW9 hC9 hF9 k1 k2 k3
    obtain ⟨r1,r2⟩:=hstep hC9 hF9
    exact ⟨k - 1,by omega,t',N',i+1,u9,_,rfl,k1,k2,k3,by omega,hE,hW9,r1,r2,fun h=>q2 h rfl,q3 hle',by dsimp only at q1;omega⟩
   ·intro hn t' N' u9 hW9 hC9 hF9
    obtain ⟨r1,r2⟩:=hstep hC9 hF9
    rw[Eq hn] at hE
    rw[←hE] at hK
    simp only[go_sem,seval]
    exact hK _ ⟨u9,hW9,r1,r2⟩
  ·have hr:=hne' hs
   rw[Eq hs] at hE
   rw[←hE] at hK
   generalize lT st'.2=z at hg hr hWM hK
   unfold nh
   simp (disch:=first|assumption|omega) only[go_sem,seval,g1,g2,g3,hlen,hg]
   exact hK _ ⟨u',hWM,hC,hF⟩
 ·rw[List.drop_of_length_le (by omega)] at hE
  have e0:jI (cs.map (·.1)) [] st'=st':=by unfold jI;split<;>rfl
  rw[e0] at hE
  rw[←hE] at hK
  unfold nh
  simp (disch:=first|assumption|omega) only[go_sem,seval,g1,g2,g3,hlen]
  exact hK _ ⟨u',hWM,hC,hF⟩
theorem Sc (hcs:Sl m0 vc 2 (lU cs)) (hcl:cs.length<=1000000) (h0:∀i,am m0 i->am B i) (hk:¬am m0 ck) (hkB:¬am B ck):∀l:List Stm,oQ ck B m0 vc cs T l:=by
 have key:∀x:Stm,oQ ck B m0 vc cs T x.b/\oQ ck B m0 vc cs T x.e:=by
  apply Stm.ind
  intro k a nm ce i x y b e hb he
  exact ⟨ot hcs hcl h0 hk hkB hb,ot hcs hcl h0 hk hkB he⟩
 exact fun l=>ot hcs hcl h0 hk hkB fun x _=>key x
end
theorem Ub  (l:List Stm):∀st:SH,st.2=none->(∀x∈l,x.sz<=100000000)->st.1.2+(l.flatMap Stm.own).length<=100000000->Al WT (lE Z) l st:=by
 induction l with
 |nil=>intro st _ _ _;trivial
 |cons x l ih=>
  intro st h0 h1 h2
  rw[List.flatMap_cons,List.length_append] at h2
  refine ⟨⟨h0,h1 x (List.mem_cons_self ..),by omega⟩,fun h=> ?_⟩
  have e:(lE Z st x).1=((x.own.foldl aJ st.1.1,st.1.2+x.own.length),none):=by
   unfold lE at h ⊢
   split at h
   ·cases h
   ·split at h
    ·cases h
    ·split at h
     ·cases h
     ·rename_i a b c;rw[Xa a,Xa b,Xa c]
  rw[e]
  exact ih _ rfl (fun y hy=>h1 y (List.mem_cons_of_mem _ hy)) (by show st.1.2+_+_<=_;omega)
def fG (Z:List (List Nat)) (l:List Stm):Option (Int×Int):=(aX (lE Z) (aQ l) (([],0),none)).1.2
theorem Oh  {m0:NH} {l:List Stm} {mo:D4} (hS:SS m0 T v l C) (hC0:Chg [] m0 m) (hm:m.get mo=some (.map (ir Z))) (hmo:am m mo) (hsz:bQ l<=10000000):
 ∃m',rT 73 [v,.map mo] m (.tup [ii (z9 (fG Z l)),ii (lT (fG Z l))]) m'/\Chg [] m m':=by
 refine WF.ex1 fun K hK=> ?_
 refine WF.of_wpM (fun _=>rfl) CA (L:= [(.a .e,.map mo),(.e,v)]) rfl ?_
 unfold PQ
 simp only[go_sem,seval,(Oe _ hS.sl.one).wf']
 generalize hM0:hp _ 4 m=M0
 have hC1:Chg [] m M0:=aR hM0 rfl
 have gc0:M0.get (na m 0)=some (.cells true [.map mo]):=bu hM0
 have gb0:M0.get (na m 1)=some (.cells true [ii 0]):=bu hM0
 have ge0:M0.get (na m 2)=some (.cells true [ii 0]):=bu hM0
 have go0:M0.get (na m 3)=some (.cells true [.nils]):=bu hM0
 have oc0:am M0 (na m 0):=bt hM0 (by omega)
 have ob0:am M0 (na m 1):=bt hM0 (by omega)
 have oe0:am M0 (na m 2):=bt hM0 (by omega)
 have oo0:am M0 (na m 3):=bt hM0 (by omega)
 have gm0:=(hC1.get hmo (by simp)).trans hm
 have om0:=hC1.old hmo
 generalize hM:hp [(.n 0,.cells true [v])] 1 M0=M
 have hC2:Chg [] M0 M:=aR hM rfl
 have gz:M.get (na M0 0)=some (.cells true [v]):=bu hM
 have oz:am M (na M0 0):=bt hM (by omega)
 have hCm:Chg [] m M:=hC1.tr hC2
 generalize ht:ah [(D4.e.b.b,NV.fn 133 [NV.ptr (na M0 0) 0]),(D4.e.b.a,v),(D4.e.a.b,NV.ptr (na m 3) 0),(D4.e.a.a,NV.ptr (na m 2) 0),(D4.e.f,NV.ptr (na m 1) 0),(D4.e.c,NV.ptr (na m 0) 0),(D4.e.a,NV.map mo),(D4.e,v)] NT.leaf=t
 have g1:NT.get D4.e.c t=some (.ptr (na m 0) 0):=by rw[←ht];simp only[go_sem,seval]
 have g2:NT.get D4.e.b.b t=some (.fn 133 [.ptr (na M0 0) 0]):=by rw[←ht];simp only[go_sem,seval]
 have g3:NT.get D4.e.f t=some (.ptr (na m 1) 0):=by rw[←ht];simp only[go_sem,seval]
 have g4:NT.get D4.e.a.a t=some (.ptr (na m 2) 0):=by rw[←ht];simp only[go_sem,seval]
 have g5:NT.get D4.e.a.b t=some (.ptr (na m 3) 0):=by rw[←ht];simp only[go_sem,seval]
 clear ht
 generalize hM1:hp [(.n 1,.loop 0 .none t [D4.e.b.c] fL fP),(.n 0,.defd true)] 2 M=M1
 have hG:Chg [] M M1:=aR hM1 rfl
 have oq:am M1 (na M 1):=bt hM1 (by omega)
 have om:am M1 (na M 0):=bt hM1 (by omega)
 have gq:M1.get (na M 1)=some (.loop 0 .none t [D4.e.b.c] fL fP):=bu hM1
 have gm:M1.get (na M 0)=some (.defd true):=bu hM1
 have hG2:Chg [] M0 M1:=hC2.tr hG
 have hCm1:Chg [] m M1:=hCm.tr hG
 have n01:∀{i:D4} {k:Nat},am M0 i->i≠na M k:=fun h=>(hC2.old h).ne _
 have nm:∀{j k:Nat},j≠k->na m j≠na m k:=fun h e=>h (jM e)
 have hO:BdO (na M 1) (na m 3) (na m 1) (na m 2) (na m 0) mo M1:=by
  refine ⟨(n01 oo0).symm,(n01 ob0).symm,(n01 oe0).symm,nm (by omega),nm (by omega),nm (by omega),oq,hG2.old oo0,hG2.old ob0,hG2.old oe0,hG2.old oc0,hG2.old om0, ?_, ?_⟩
  ·simp only[Xf,Xe,or_false,not_or]
   exact ⟨n01 oc0,nm (by omega),nm (by omega),nm (by omega)⟩
  ·simp only[Xf,Xe,or_false,not_or]
   exact ⟨n01 om0,hmo.ne 3,hmo.ne 1,hmo.ne 2⟩
 have h0:∀S,Chg [na M 1,na m 3,na m 1,na m 2] M1 S->Chg [] m0 S:=fun S h=>(hC0.tr hCm1).trans h fun i hi ho=>by
  simp only[Xf,Xe,or_false] at hi
  rcases hi with rfl|rfl|rfl|rfl
  ·exact W9 (hCm.old (hC0.old ho)) aA
  ·exact W9 (hC0.old ho) aA
  ·exact W9 (hC0.old ho) aA
  ·exact W9 (hC0.old ho) aA
 have hY:=NK (T:=T) hO g1 g3 g4 g5 ((hG2.get oc0 (by simp)).trans gc0) ((hG2.get om0 (by simp)).trans gm0) h0
 obtain ⟨hA1,hA2⟩:=kM l
 obtain ⟨m',hr,F',⟨u,rfl,hC3,hq3,ho3,hb3,he3,hu3,-⟩,hC4,-⟩:=Ka hY (s:=(([],0),none)) (F:= [na M 1,na m 3,na m 1,na m 2]) (id:=na M0 0) ((hG.get oz (by simp)).trans gz) hS ⟨.nils,rfl,(Chg.refl M1).weak (by simp),gq,(hG2.get oo0 (by simp)).trans go0,(hG2.get ob0 (by simp)).trans gb0,(hG2.get oe0 (by simp)).trans ge0,aY.nil,by simp⟩ (Ub _ _ rfl (fun x hx=>by have:=hA1 x hx;omega) (by show 0+_<=_;omega)) (by omega)
 change m'.get _=some (.loop (Tx (fG Z l)) (Wm (fG Z l)) _ _ _ _) at hq3
 change m'.get _=some (.cells true [ii (z9 (fG Z l))]) at hb3
 change m'.get _=some (.cells true [ii (lT (fG Z l))]) at he3
 have hst:Tx (fG Z l)≠1:=by cases fG Z l<;>simp[Tx]
 refine W.rangeJ g2 (hM1▸hr) hq3 hst ?_ (hC3.old oq)
 have gm3:m'.get (na M 0)=some (.defd true):=(hC3.get om (by
  simp only[Xf,Xe,or_false,not_or]
  exact ⟨fun e=>by have:=jM e;omega,fun e=>n01 oo0 e.symm,fun e=>n01 ob0 e.symm,fun e=>n01 oe0 e.symm⟩)).trans gm
 have om3:=hC3.old om
 have ob3:=hC3.old (hG2.old ob0)
 have oe3:=hC3.old (hG2.old oe0)
 have hne:na M 0≠na M 1:=fun e=>by have:=jM e;omega
 have n1:na m 1≠na M 1:=n01 ob0
 have n1':na m 1≠na M 0:=n01 ob0
 have n2:na m 2≠na M 1:=n01 oe0
 have n2':na m 2≠na M 0:=n01 oe0
 have n3:na m 1≠na m 2:=nm (by omega)
 have n3':na m 2≠na m 1:=nm (by omega)
 have fin:∀{S:List D4} {Me:NH},Chg S m' Me->(∀i∈S,i∈ [na M 1,na M 0,na m 1,na m 2])->Chg [] m Me:=by
  intro S Me hCe hS
  refine ((hCm1.weak (T:= [na M 1,na m 3,na m 1,na m 2,na M 0]) (by simp)).trans hC3 fun i h _=>by simp at h ⊢;rcases h with h|h|h|h<;>simp[h]).trans hCe (fun i h _=>by have:=hS i h;simp at this ⊢;rcases this with h|h|h|h<;>simp[h]) |>.weak fun i hi ho=> ?_
  simp only[Xf,Xe,or_false] at hi
  rcases hi with rfl|rfl|rfl|rfl|rfl
  ·exact W9 (hCm.old ho) aA
  ·exact W9 ho aA
  ·exact W9 ho aA
  ·exact W9 ho aA
  ·exact W9 (hCm.old ho) aA
 have n1s:=n1'.symm
 have n2s:=n2'.symm
 have n1t:=n1.symm
 have n2t:=n2.symm
 have hne':=hne.symm
 cases hb:fG Z l with
 |none=>
  rw[hb] at hb3 he3 hK
  change jn _ _ (IL .none) ⟨ah [] t,_,_,_⟩
  simp (disch:=first|assumption|omega|(simp only[aG]<;>omega)) only[go_sem,seval,IL,g1,g3,g4,gm3,om3,hb3,he3]
  refine zP ?_
  rw[yW]
  simp (disch:=first|assumption|omega) only[go_sem,seval,g1,g3,g4,gm3,om3,hb3,he3,ob3,oe3]
  refine hK _ ?_
  generalize hMe:hp _ 0 m'=Me
  have hCe:Chg [na M 0,na m 2,na m 1,na M 1] m' Me:=aR hMe rfl
  exact fin hCe (by simp)
 |some z=>
  obtain ⟨za,ze⟩:=z
  rw[hb] at hb3 he3 hK
  change jn _ _ (IL .ret) ⟨ah [] t,_,_,_⟩
  simp (disch:=first|assumption|omega) only[go_sem,seval,IL,g1,g3,g4,gm3,om3,hb3,he3]
  refine zP ?_
  rw[yW]
  simp (disch:=first|assumption|omega) only[go_sem,seval,g1,g3,g4,gm3,om3,hb3,he3,ob3,oe3]
  refine hK _ ?_
  generalize hMe:hp _ 0 m'=Me
  have hCe:Chg [na M 0,na M 1] m' Me:=aR hMe rfl
  exact fin hCe (by simp)
def jy (Z:List (List Nat)) (r:List Stm):List (List Stm)->Int×Int
 | []=>(z9 (fG Z r),lT (fG Z r))
 |b::l=>if lT (fG Z b)≠0 then (z9 (fG Z b),lT (fG Z b)) else jy Z r l
def BG (p:Prg):List (List Nat):=(p.cs.map (·.1)).foldl aJ []
def eI (p:Prg):Int×Int:=if kT p≠0 then (0,kT p) else jy (BG p) p.r (p.ts.map (·.2))
theorem Tn  {p:Prg} {vc vt vr:NV} (h:RP m T p vc vt vr) (hs:p.cs.length<=1000000/\p.ts.length<=1000000) (hz:∀t∈p.ts,bQ t.2<=10000000) (hr:bQ p.r<=10000000):
 ∃m',rT 43 [.agg [vc,vt,vr]] m (.tup [ii (eI p).1,ii (eI p).2]) m'/\Chg [] m m':=by
 refine WF.ex1 fun K hK=> ?_
 refine WF.of_wpG (fun _=>rfl) Fv (L:= [(.e,.agg [vc,vt,vr])]) rfl ?_
 unfold Qx
 obtain ⟨hcs,hts⟩:=hs
 obtain ⟨Ct,hT⟩:=h.t
 obtain ⟨Cr,hR⟩:=h.r
 have hlc:=h.c.len
 rw[List.length_map] at hlc
 have hlt:=hT.sl.len
 rw[hT.len] at hlt
 generalize hM0:hp [(.n 0,.cells true [vc,vt,vr])] 1 m=M0
 have hC0:Chg [] m M0:=aR hM0 rfl
 have g0:M0.get (na m 0)=some (.cells true [vc,vt,vr]):=bu hM0
 have o0:am M0 (na m 0):=bt hM0 (by omega)
 obtain ⟨M1,hr1,hC1⟩:=RU (h.stays (kQ hC0 T)) ⟨hcs,hts⟩
 have g1:=(hC1.get o0 (by simp)).trans g0
 have o1:=hC1.old o0
 have hC01:Chg [] m M1:=hC0.tr hC1
 unfold eI at hK
 by_cases h0:kT p=0
 ·rw[h0] at hr1
  rw[Xa (by simp[h0])] at hK
  simp (disch:=first|assumption|omega|(simp only[aG]<;>omega)) only[go_sem,seval,hM0,g0,hr1.wf,g1,hlc]
  generalize hM2:hp _ 1 M1=M2
  have hC2:Chg [] M1 M2:=aR hM2 rfl
  have gm2:M2.get (na M1 0)=some (.map (ir [])):=bu hM2
  have om2:am M2 (na M1 0):=bt hM2 (by omega)
  have hC02:=hC01.tr hC2
  have g2:=(hC2.get o1 (by simp)).trans g1
  have o2:=hC2.old o1
  have hnm:na m 0≠na M1 0:=o1.ne 0
  refine W.loop (fun k d=>∃t M i,d=⟨t, [],none,M⟩/\NT.get D4.e.a t=some (.ptr (na m 0) 0)/\NT.get D4.e.a.a t=some (.map (na M1 0))/\NT.get D4.e.f.c t=some vc/\NT.get D4.e.f.f t=some (ii p.cs.length)/\NT.get D4.e.a.a.a t=some (ii (i:Nat))/\i+k=p.cs.length/\M.get (na M1 0)=some (.map (ir (((p.cs.map (·.1)).take i).foldl aJ [])))/\Chg [na M1 0] M2 M) ?_ p.cs.length _ ⟨_,M2,0,rfl,by exact gq rfl,by exact gq rfl,by exact gq rfl,by exact gq rfl,by exact gq rfl,by omega,gm2,(Chg.refl M2).weak (by simp)⟩
  rintro k d ⟨t,M,i,rfl,a1,a2,a3,a4,a5,hik,gm,hC⟩
  apply ax
  unfold Ea
  change wp _ _ _ _ ⟨ah [] t, [],none,M⟩ _
  have omM:=hC.old om2
  have gM:=(hC.get o2 (by simpa using hnm)).trans g2
  have oM:=hC.old o2
  have hC0M:Chg [] m M:=hC02.trans hC fun i hi ho=>by
   have hi:=one hi;subst hi;exact W9 (hC01.old ho) aA
  rw[←aa M]
  by_cases hi:i<p.cs.length
  ·obtain ⟨id,off,wr,c,b1,b2,b3,b4,b5⟩:=h.c.at i (by simpa using hi)
   rw[List.getElem_map] at b5
   have b2':=(hC0M.get b3 (by simp)).trans b2
   have b3':=hC0M.old b3
   have htk:(p.cs.map (·.1)).take (i+1)=(p.cs.map (·.1)).take i++ [p.cs[i].1]:=by
    rw[List.take_add_one,List.getElem?_map,List.getElem?_eq_getElem hi];rfl
   simp (disch:=first|assumption|omega|(simp only[aG]<;>omega)) only[go_sem,seval,a1,a2,a3,a4,a5,b1,b2',b5,gm]
   generalize hM3:hp _ 1 M=M3
   have hC3:Chg [na M1 0] M M3:=aR hM3 rfl
   refine ⟨k - 1,by omega,_,M3,i+1,by rfl,by exact gq a1,by exact gq a2,by exact gq a3,by exact gq a4,by exact gq rfl,by omega, ?_,hC.trans hC3 fun _ h _=>h⟩
   rw[htk,List.foldl_append,←hM3]
   exact (aE omM).trans aq
  ·rw[List.take_of_length_le (by simp;omega)] at gm
   simp (disch:=first|assumption|omega) only[go_sem,seval,a1,a2,a3,a4,a5,gM,hlt,aa]
   generalize hZ:BG p=Z at hK
   rw[show (p.cs.map (·.1)).foldl aJ []=Z from hZ] at gm
   refine W.loop (fun k d=>∃t N i,d=⟨t, [],none,N⟩/\NT.get D4.e.a t=some (.ptr (na m 0) 0)/\NT.get D4.e.a.a t=some (.map (na M1 0))/\NT.get D4.e.a.c.b t=some vt/\NT.get D4.e.a.c.c t=some (ii p.ts.length)/\NT.get D4.e.a.c.f t=some (ii (i:Nat))/\i+k=p.ts.length/\jy Z p.r ((p.ts.map (·.2)).drop i)=jy Z p.r (p.ts.map (·.2))/\Chg [] M N) ?_ p.ts.length _ ⟨_,M,0,rfl,by exact gq a1,by exact gq a2,by exact gq rfl,by exact gq rfl,by exact gq rfl,by omega,rfl,Chg.refl M⟩
   clear a1 a2 a3 a4 a5 hik
   rintro k d ⟨t,N,i,rfl,a1,a2,a3,a4,a5,hik,hE,hC⟩
   apply ax
   unfold CQ
   change wp _ _ _ _ ⟨ah [] t, [],none,N⟩ _
   have gN:=(hC.get oM (by simp)).trans gM
   have hC0N:=hC0M.tr hC
   have gmN:=(hC.get omM (by simp)).trans gm
   have omN:=hC.old omM
   rw[←aa N]
   by_cases hi:i<p.ts.length
   ·obtain ⟨vb,B,id,off,wr,c,hSb,b1,b2,b3,b4,b5⟩:=hT.at i hi
    have b2':=(hC0N.get b3 (by simp)).trans b2
    have b3':=hC0N.old b3
    have hzi:=hz _ (List.getElem_mem hi)
    rw[List.drop_eq_getElem_cons (by simpa using hi),List.getElem_map,jy] at hE
    simp (disch:=first|assumption|omega|(simp only[aG]<;>omega)) only[go_sem,seval,a1,a2,a3,a4,a5,b1,b2',b5]
    generalize hN1:hp _ 1 N=N1
    have hC1':Chg [] N N1:=aR hN1 rfl
    obtain ⟨N2,hr2,hC2'⟩:=Oh hSb (hC0N.tr hC1') ((hC1'.get omN (by simp)).trans gmN) (hC1'.old omN) hzi
    have hCN2:=hC1'.tr hC2'
    by_cases he:lT (fG Z p.ts[i].2)=0
    ·rw[Xa (by simp[he])] at hE
     rw[he] at hr2
     simp (config:={maxSteps:=1000000}) (disch:=first|assumption|omega|(apply bN;omega)|(apply cG;assumption)|(simp only[aG]<;>omega)) only[go_sem,seval,hr2.wf',a1,a2,a3,a4,a5]
     exact ⟨k - 1,by omega,_,N2,i+1,by rfl,by exact gq a1,by exact gq a2,by exact gq a3,by exact gq a4,by exact gq rfl,by omega,hE,hC.tr hCN2⟩
    ·rw[Xb he] at hE
     rw[←hE] at hK
     simp (config:={maxSteps:=1000000}) (disch:=first|assumption|omega|(apply bN;omega)|(apply cG;assumption)|(simp only[aG]<;>omega)) only[go_sem,seval,hr2.wf',a1,a2,a3,a4,a5,he]
     exact hK _ (hC0N.tr hCN2)
   ·rw[List.drop_of_length_le (by simp;omega),jy] at hE
    rw[←hE] at hK
    obtain ⟨N2,hr2,hC2'⟩:=Oh hR hC0N gmN omN hr
    simp (disch:=first|assumption|omega) only[go_sem,seval,a1,a2,a3,a4,a5,gN,aa,hr2.wf']
    exact hK _ (hC0N.tr hC2')
 ·rw[Xb h0] at hK
  simp (disch:=first|assumption|omega|(simp only[aG]<;>omega)) only[go_sem,seval,hM0,g0,hr1.wf',h0]
  exact hK _ hC01
theorem FK  (hZ:∀n,n∈Z↔n∈Z') (l:List Stm):∀st:xF,st.2=none->(aX (qL Z') l st).1.2=(aX (lE Z) l st).1.2:=by
 induction l with
 |nil=>intro st h;rfl
 |cons x l ih=>
  intro st h
  have hex:(∃n∈x.own,n∈Z')↔∃n∈x.own,n∈Z:=by simp only[hZ]
  have hR:qL Z' st x=(((x.own.foldl aJ st.1.1,st.1.2+x.own.length),MJ x.a (mQ Z' (x.own.foldl aJ st.1.1) x)),decide (mQ Z' (x.own.foldl aJ st.1.1) x=0)):=rfl
  have stop:∀e:Int,e≠0->mQ Z' (x.own.foldl aJ st.1.1) x=e->(lE Z st x).2=false->(lE Z st x).1.2=some (x.a,e)->(aX (qL Z') (x::l) st).1.2=(aX (lE Z) (x::l) st).1.2:=by
   intro e he h1 h2 h3
   have hr2:(qL Z' st x).2=false:=by rw[hR,h1];exact Xc he
   rw[aX,aX,hr2,h2,Xa (by simp),Xa (by simp),h3,hR,h1]
   exact Xa he
  by_cases h1:(x.k=1∨x.k=2∨x.k=3)/\x.ce∉Z
  ·have h1':(x.k=1∨x.k=2∨x.k=3)/\x.ce∉Z':=⟨h1.1,fun q=>h1.2 ((hZ _).2 q)⟩
   have hB:lE Z st x=((st.1,some (x.a,4)),false):=Xb h1
   refine stop 4 (by decide) ?_ (by rw[hB]) (by rw[hB])
   unfold mQ e6;rw[Xb h1'];simp
  ·have h1':¬((x.k=1∨x.k=2∨x.k=3)/\x.ce∉Z'):=fun q=>h1 ⟨q.1,fun z=>q.2 ((hZ _).1 z)⟩
   by_cases h2:∃n∈x.own,n∈Z
   ·have hB:lE Z st x=((st.1,some (x.a,6)),false):=by unfold lE;rw[Xa h1,Xb h2]
    refine stop 6 (by decide) ?_ (by rw[hB]) (by rw[hB])
    have e1:e6 Z' (if (x.k=1∨x.k=2∨x.k=3)/\x.ce∉Z' then 4 else 0) x.own=6:=by unfold e6;rw[Xa h1',Xb ⟨rfl,hex.2 h2⟩]
    unfold mQ;rw[e1,Xa (by simp)]
   ·have h2':¬(True/\∃n∈x.own,n∈Z'):=fun q=>h2 (hex.1 q.2)
    have e0:e6 Z' (if (x.k=1∨x.k=2∨x.k=3)/\x.ce∉Z' then 4 else 0) x.own=0:=by
     unfold e6;rw[Xa h1',Xa fun q=>h2 (hex.1 q.2)]
    by_cases h3:12<(x.own.foldl aJ st.1.1).length
    ·have hB:lE Z st x=(((x.own.foldl aJ st.1.1,st.1.2+x.own.length),some (x.a,3)),false):=by unfold lE;rw[Xa h1,Xa h2,Xb h3]
     refine stop 3 (by decide) ?_ (by rw[hB]) (by rw[hB])
     unfold mQ;rw[e0,Xb ⟨rfl,h3⟩]
    ·have hB:lE Z st x=(((x.own.foldl aJ st.1.1,st.1.2+x.own.length),none),true):=by unfold lE;rw[Xa h1,Xa h2,Xa h3]
     have hE:mQ Z' (x.own.foldl aJ st.1.1) x=0:=by unfold mQ;rw[e0,Xa fun q=>h3 q.2]
     have hR':qL Z' st x=(((x.own.foldl aJ st.1.1,st.1.2+x.own.length),none),true):=by rw[hR,hE];rfl
     rw[aX,aX,hB,hR',Xb rfl,Xb rfl]
     exact ih _ rfl
theorem CZ  (hZ:∀n,n∈Z↔n∈Z') (l:List Stm):(jI Z' l (([],0),none)).2=fG Z l:=by
 unfold jI fG
 rw[Xb rfl]
 exact FK hZ _ _ rfl
theorem QW  {l:List Stm} (h:lT (fG Z l)=0):fG Z l=none:=by
 have h1:=(HT (Z:=Z) (aQ l) (([],0),none)).2.1
 rw[←md,CZ (Z:=Z) (Z':=Z) (fun _=>Iff.rfl)] at h1
 exact Decidable.byContradiction fun q=>h1 q rfl h
theorem Hl (p:Prg) (n:List Nat):n∈BG p↔n∈p.cs.map (·.1):=by unfold BG;rw[ei];simp
theorem Hp {l:List (List Nat)} (hi:i<l.length) (hs:l[i]=s):bC l s<i↔s∈l.take i:=by
 have hm:0<=bC l s:=fw.2 (hs▸List.getElem_mem hi)
 have key:∃j:Nat,bC l s=j/\∃h:j<l.length,l[j]=s/\∀k (hk:k<j),l[k]'(by omega)≠s:=by
  unfold bC at hm ⊢
  cases hf:l.findIdx? (fun a=>decide (s=a)) with
  |none=>rw[hf] at hm;dsimp only at hm;omega
  |some j=>
   obtain ⟨h,h1,h2⟩:=List.findIdx?_eq_some_iff_getElem.mp hf
   exact ⟨j,rfl,h,by simpa using (of_decide_eq_true h1).symm,fun k hk q=>by have:=h2 k hk;simp[q] at this⟩
 obtain ⟨j,hj,hl,h1,h2⟩:=key
 rw[hj]
 constructor
 ·intro h
  rw[←h1]
  exact List.mem_take_iff_getElem.2 ⟨j,by omega,rfl⟩
 ·intro h
  obtain ⟨k,hk,e⟩:=List.mem_take_iff_getElem.1 h
  by_cases q:k<j
  ·exact W9 e (h2 k q)
  ·omega
theorem S9  {p:Prg} {vc vt vr:NV} (h:RP m T p vc vt vr) (hs:p.cs.length<=1000000/\p.ts.length<=1000000) (hz:∀t∈p.ts,bQ t.2<=10000000) (hr:bQ p.r<=10000000):
 ∃m',rT 44 [.agg [vc,vt,vr]] m (.tup [ii (eI p).1,ii (eI p).2]) m'/\Chg [] m m':=by
 refine WF.ex1 fun K hK=> ?_
 refine WF.of_wpG (fun _=>rfl) Fo (L:= [(.e,.agg [vc,vt,vr])]) rfl ?_
 unfold Rk
 obtain ⟨hcs,hts⟩:=hs
 generalize hM0:hp [(.n 0,.cells true [vc,vt,vr])] 1 m=M
 have hC0:Chg [] m M:=aR hM0 rfl
 have g0:M.get (na m 0)=some (.cells true [vc,vt,vr]):=bu hM0
 have o0:am M (na m 0):=bt hM0 (by omega)
 have h:=h.stays (kQ hC0 T)
 obtain ⟨Ct,hT⟩:=h.t
 obtain ⟨Cr,hR⟩:=h.r
 have hlc:=h.c.len
 rw[List.length_map] at hlc
 have hlt:=hT.sl.len
 rw[hT.len] at hlt
 have hvs:bg 4 vc vc=true:=h.c.same
 have hv1:=h.c.one
 unfold eI kT at hK
 by_cases hb:16<p.cs.length∨p.ts.length=0∨4<p.ts.length
 ·rw[Xb hb,Xb (by decide)] at hK
  rcases hb with hb|hb|hb
  ·simp (disch:=first|assumption|omega) only[go_sem,seval,hM0,g0,hlc,hlt,hb]
   exact hK _ hC0
  ·by_cases hb2:16<p.cs.length
   ·simp (disch:=first|assumption|omega) only[go_sem,seval,hM0,g0,hlc,hlt,hb2]
    exact hK _ hC0
   ·simp (disch:=first|assumption|omega) only[go_sem,seval,hM0,g0,hlc,hlt,hb,hb2]
    exact hK _ hC0
  ·by_cases hb2:16<p.cs.length
   ·simp (disch:=first|assumption|omega) only[go_sem,seval,hM0,g0,hlc,hlt,hb2]
    exact hK _ hC0
   ·simp (disch:=first|assumption|omega) only[go_sem,seval,hM0,g0,hlc,hlt,hb,hb2]
    exact hK _ hC0
 rw[Xa hb] at hK
 have hb1:¬16<p.cs.length:=fun q=>hb (Or.inl q)
 have hb2:p.ts.length≠0:=fun q=>hb (Or.inr (Or.inl q))
 have hb3:¬4<p.ts.length:=fun q=>hb (Or.inr (Or.inr q))
 have hE0:cM ((((p.cs.map (·.1)).take 0).foldl aJ [])) 0 (p.cs.drop 0)=cM [] 0 p.cs:=rfl
 simp (disch:=first|assumption|omega) only[go_sem,seval,hM0,g0,hlc,hlt]
 refine W.loop (fun k d=>∃t i w,d=⟨t, [],none,M⟩/\NT.get D4.e.a t=some (.ptr (na m 0) 0)/\NT.get D4.e.f t=some (ii w)/\NT.get D4.e.a.a t=some (ii (i:Nat))/\i+k=p.cs.length/\0<=w/\w<=64/\cM (((p.cs.map (·.1)).take i).foldl aJ []) w (p.cs.drop i)=cM [] 0 p.cs) ?_ p.cs.length _ ⟨_,0,0,rfl,by exact gq rfl,by exact gq rfl,by exact gq rfl,by omega,by omega,by omega,rfl⟩
 rintro k d ⟨t,i,w,rfl,g1,g2,g3,hik,hw0,hw,hE⟩
 apply ax
 unfold EZ
 change wp _ _ _ _ ⟨ah [] t, [],none,M⟩ _
 by_cases hi:i<p.cs.length
 ·obtain ⟨id,off,wr,c,a1,a2,a3,a4,a5⟩:=h.c.at i (by simpa using hi)
  rw[List.getElem_map] at a5
  have htk:((p.cs.map (·.1)).take (i+1)).foldl aJ []=aJ (((p.cs.map (·.1)).take i).foldl aJ []) p.cs[i].1:=by
   rw[List.take_add_one,List.getElem?_map,List.getElem?_eq_getElem hi,List.foldl_append];rfl
  have hfs:=vf h.c hcs p.cs[i].1
  have hft:=Hp (l:=p.cs.map (·.1)) (s:=p.cs[i].1) (i:=i) (by simpa using hi) (by simp)
  have hmem:p.cs[i].1∈((p.cs.map (·.1)).take i).foldl aJ []↔p.cs[i].1∈(p.cs.map (·.1)).take i:=by rw[ei];simp
  have hpw:=ME M p.cs[i].2
  rw[List.drop_eq_getElem_cons hi,cM,←htk] at hE
  generalize hcc:p.cs[i]=cc at hE a5 hfs hft hmem hpw
  obtain ⟨nm,s⟩:=cc
  dsimp only at hE a5 hfs hft hmem hpw
  have c0:c[off+0]? =some (.str nm):=aF a5 0 (by omega)
  have c1:c[off+1]? =some (ii s):=aF a5 1 (by omega)
  have hfb:=pg (l:=p.cs.map (·.1)) (x:=nm)
  by_cases hin:nm∈(p.cs.map (·.1)).take i
  ·rw[Xb (hmem.2 hin)] at hE
   have hlt':=hft.2 hin
   generalize bC (p.cs.map (·.1)) nm=z at hfs hlt' hfb
   rw[←hE,Xb (show (5:Int)≠0 by decide),Xb (show (5:Int)≠0 by decide)] at hK
   simp (disch:=first|assumption|omega) only[go_sem,seval,g1,g2,g3,g0,hlc,a1,a2,c0,c1,hvs,hfs.wf']
   exact hK _ hC0
  ·rw[Xa fun q=>hin (hmem.1 q)] at hE
   have hge:¬bC (p.cs.map (·.1)) nm<i:=fun q=>hin (hft.1 q)
   generalize bC (p.cs.map (·.1)) nm=z at hfs hge hfb
   by_cases hp:nH s=false
   ·rw[Xb hp] at hE
    rw[hp] at hpw
    rw[←hE,Xb (show (7:Int)≠0 by decide),Xb (show (7:Int)≠0 by decide)] at hK
    simp (disch:=first|assumption|omega) only[go_sem,seval,g1,g2,g3,g0,hlc,a1,a2,c0,c1,hvs,hfs.wf',hpw.wf']
    exact hK _ hC0
   ·rw[Xa hp] at hE
    have hpt:nH s=true:=by simpa using hp
    rw[hpt] at hpw
    obtain ⟨p1,p2,-⟩:=of_decide_eq_true hpt
    by_cases h64:64 - w<s
    ·rw[Xb h64] at hE
     rw[←hE,Xb (show (3:Int)≠0 by decide),Xb (show (3:Int)≠0 by decide)] at hK
     simp (disch:=first|assumption|omega) only[go_sem,seval,g1,g2,g3,g0,hlc,a1,a2,c0,c1,hvs,hfs.wf',hpw.wf']
     exact hK _ hC0
    ·rw[Xa h64] at hE
     simp (disch:=first|assumption|omega) only[go_sem,seval,g1,g2,g3,g0,hlc,a1,a2,c0,c1,hvs,hfs.wf',hpw.wf']
     exact ⟨k - 1,by omega,_,i+1,w+s,by rfl,by exact gq g1,by exact gq rfl,by exact gq rfl,by omega,by omega,by omega,hE⟩
 ·rw[List.drop_of_length_le (by omega),cM] at hE
  rw[←hE,Xa (show ¬(0:Int)≠0 by decide)] at hK
  simp (disch:=first|assumption|omega) only[go_sem,seval,g1,g2,g3,g0,hlc]
  clear hik hw0 hw hE hE0
  refine W.loop (fun k d=>∃t i,d=⟨t, [],none,M⟩/\NT.get D4.e.a t=some (.ptr (na m 0) 0)/\NT.get D4.e.a.b t=some (ii (i:Nat))/\i+k=p.ts.length/\gu (((p.ts.map (·.1)).take i).foldl aJ []) ((p.ts.map (·.1)).drop i)=gu [] (p.ts.map (·.1))) ?_ p.ts.length _ ⟨_,0,rfl,by exact gq g1,by exact gq rfl,by omega,rfl⟩
  clear g1 g2 g3 hi
  rintro k d ⟨t,i,rfl,g1,g2,hik,hE⟩
  apply ax
  unfold Ec
  change wp _ _ _ _ ⟨ah [] t, [],none,M⟩ _
  by_cases hi:i<p.ts.length
  ·obtain ⟨vbi,Bi,idi,offi,wri,ci,-,a1,a2,a3,a4,a5⟩:=hT.at i hi
   have ci0:ci[offi+0]? =some (.str p.ts[i].1):=aF a5 0 (by omega)
   have htk:((p.ts.map (·.1)).take (i+1)).foldl aJ []=aJ (((p.ts.map (·.1)).take i).foldl aJ []) p.ts[i].1:=by
    rw[List.take_add_one,List.getElem?_map,List.getElem?_eq_getElem hi,List.foldl_append];rfl
   have hmem:p.ts[i].1∈((p.ts.map (·.1)).take i).foldl aJ []↔p.ts[i].1∈(p.ts.map (·.1)).take i:=by rw[ei];simp
   rw[List.drop_eq_getElem_cons (by simpa using hi),List.getElem_map,gu,←htk] at hE
   simp (disch:=first|assumption|omega) only[go_sem,seval,g1,g2,g0,hlt]
   refine W.loop (fun kk d=>∃t j,d=⟨t, [],none,M⟩/\NT.get D4.e.a t=some (.ptr (na m 0) 0)/\NT.get D4.e.a.b t=some (ii (i:Nat))/\NT.get D4.e.a.c t=some (ii (j:Nat))/\j+kk=i/\∀q (h1:q<j) (h2:q<p.ts.length),p.ts[q].1≠p.ts[i].1) ?_ i _ ⟨_,0,rfl,by exact gq g1,by exact gq g2,by exact gq rfl,by omega,by simp⟩
   clear g1 g2
   rintro kk d ⟨t,j,rfl,g1,g2,g3,hjk,hno⟩
   apply ax
   unfold DM
   change wp _ _ _ _ ⟨ah [] t, [],none,M⟩ _
   by_cases hj:j<i
   ·obtain ⟨vbj,Bj,idj,offj,wrj,cj,-,b1,b2,b3,b4,b5⟩:=hT.at j (by omega)
    have cj0:cj[offj+0]? =some (.str p.ts[j].1):=aF b5 0 (by omega)
    have hts':bg 4 vt vt=true:=hT.sl.same
    by_cases he:p.ts[j].1=p.ts[i].1
    ·have hin:p.ts[i].1∈(p.ts.map (·.1)).take i:=List.mem_take_iff_getElem.2 ⟨j,by simp;omega,by simpa using he⟩
     rw[Xb (hmem.2 hin)] at hE
     rw[←hE,Xb (show (5:Int)≠0 by decide)] at hK
     simp (disch:=first|assumption|omega) only[go_sem,seval,g1,g2,g3,g0,hlt,a1,a2,ci0,b1,b2,cj0,he,hts']
     exact hK _ hC0
    ·simp (disch:=first|assumption|omega) only[go_sem,seval,g1,g2,g3,g0,hlt,a1,a2,ci0,b1,b2,cj0,he,hts']
     refine ⟨kk - 1,by omega,_,j+1,by rfl,by exact gq g1,by exact gq g2,by exact gq rfl,by omega,fun q h1 h2=> ?_⟩
     rcases Nat.lt_or_ge q j with h3|h3
     ·exact hno q h3 h2
     ·obtain rfl:q=j:=by omega
      exact he
   ·have hnin:p.ts[i].1∉(p.ts.map (·.1)).take i:=fun q=>by
     obtain ⟨y,hy,e⟩:=List.mem_take_iff_getElem.1 q
     exact hno y (by omega) (by simp at hy;omega) (by simpa using e)
    rw[Xa fun q=>hnin (hmem.1 q)] at hE
    simp (disch:=first|assumption|omega) only[go_sem,seval,g1,g2,g3,g0,hlt]
    exact ⟨k - 1,by omega,_,i+1,by rfl,by exact gq g1,by exact gq rfl,by omega,hE⟩
  ·rw[List.drop_of_length_le (by simp;omega),gu] at hE
   rw[←hE,Xa (show ¬(0:Int)≠0 by decide)] at hK
   simp (disch:=first|assumption|omega) only[go_sem,seval,g1,g2,g0,hlt]
   clear hik hE
   generalize hZ:BG p=Z at hK
   have hZm:∀n,n∈Z↔n∈p.cs.map (·.1):=fun n=>hZ▸Hl p n
   generalize htot:jy Z p.r (p.ts.map (·.2))=tot at hK
   refine W.loop (fun k d=>∃t N i,d=⟨t, [],none,N⟩/\NT.get D4.e.a t=some (.ptr (na m 0) 0)/\NT.get D4.e.a.f t=some (ii (i:Nat))/\i+k=p.ts.length+1/\Chg [] M N/\((i<=p.ts.length/\jy Z p.r ((p.ts.map (·.2)).drop i)=tot)∨(i=p.ts.length+1/\tot=(0,0)))) ?_ (p.ts.length+1) _ ⟨_,M,0,rfl,by exact gq g1,by exact gq rfl,by omega,Chg.refl M,Or.inl ⟨by omega,htot⟩⟩
   clear g1 g2 hi htot
   rintro k d ⟨t,N,i,rfl,g1,g2,hik,hC,hE⟩
   apply ax
   unfold BR
   change wp _ _ _ _ ⟨ah [] t, [],none,N⟩ _
   have gN:=(hC.get o0 (by simp)).trans g0
   have oN:=hC.old o0
   have hN0:=hC0.tr hC
   rcases hE with ⟨hi,hE⟩|⟨hi,hE⟩
   ·have hcN:=h.c.chg hC fun _ _=>by simp
    generalize hN1:hp [(.n 0,.cells true [vc,.nils,ii 0,ii 0])] 1 N=N1
    have hC1:Chg [] N N1:=aR hN1 rfl
    have hW1:Wk (na N 0) N N vc .nils [] 0 0 N1:=⟨by rw[←hN1];exact bI,by rw[←hN1];exact bN (by omega),aY.nil,by simp[ids],hC1,fun _ ho=>hC1.old ho⟩
    have gN1:=(hC1.get oN (by simp)).trans gN
    have oN1:=hC1.old oN
    have hwalk:∀{vb:NV} {b:List Stm} {Bb:List (List NV)},SS M T vb b Bb->bQ b<=10000000->∃N2,rT 76 [.ptr (na N 0) 0,vb] N1 (.tup []) N2/\(∃u,N2.get (na N 0)=some (.cells true [vc,u,ii (lT (fG Z b)),ii (z9 (fG Z b))]))/\am N2 (na N 0)/\Chg [] N N2/\N2.get (na m 0)=some (.cells true [vc,vt,vr]):=by
     intro vb b Bb hb hsb
     have hle:=(kM b).2
     obtain ⟨N2,hr2,u2,hW2,hC2,-⟩:=Sc (T:=T) hcN hcs (fun _ ho=>ho) aA aA b (st:=(([],0),none)) (hb.stays (kQ hC T)) hW1 (fun q=>W9 rfl q) (by simp) (by dsimp only;omega) (by omega)
     rw[CZ hZm] at hW2
     have hC2':Chg [na N 0] N1 N2:=hC2.weak (by simp[ids])
     exact ⟨N2,hr2,⟨u2,hW2.g⟩,hW2.o,hW2.c,(hC2'.get oN1 (by simpa using oN.ne 0)).trans gN1⟩
    by_cases hl:i<p.ts.length
    ·obtain ⟨vb,Bb,id,off,wr,c,hSb,a1,a2,a3,a4,a5⟩:=hT.at i hl
     have c1:c[off+1]? =some vb:=aF a5 1 (by omega)
     have a2':=((hC.tr hC1).get a3 (by simp)).trans a2
     obtain ⟨N2,hr2,⟨u2,gk⟩,ok,hC2,g02⟩:=hwalk hSb (hz _ (List.getElem_mem hl))
     rw[List.drop_eq_getElem_cons (by simpa using hl),List.getElem_map,jy] at hE
     rw[←aa N]
     by_cases he:lT (fG Z p.ts[i].2)=0
     ·rw[Xa (by simp[he])] at hE
      rw[he] at gk
      simp (disch:=first|assumption|omega|(simp only[aG]<;>omega)) only[go_sem,seval,g1,g2,gN,hlt,hv1,hN1,gN1,a1,a2',c1,hr2.wf',gk]
      exact ⟨k - 1,by omega,_,N2,i+1,by rfl,by exact gq g1,by exact gq rfl,by omega,hC.tr hC2,Or.inl ⟨by omega,hE⟩⟩
     ·rw[Xb he] at hE
      rw[←hE] at hK
      simp (disch:=first|assumption|omega|(simp only[aG]<;>omega)) only[go_sem,seval,g1,g2,gN,hlt,hv1,hN1,gN1,a1,a2',c1,hr2.wf',gk,he]
      exact hK _ (hN0.tr hC2)
    ·obtain ⟨N2,hr2,⟨u2,gk⟩,ok,hC2,g02⟩:=hwalk hR hr
     rw[List.drop_of_length_le (by simp;omega),jy] at hE
     rw[←aa N]
     by_cases he:lT (fG Z p.r)=0
     ·rw[QW he] at hE gk
      simp (disch:=first|assumption|omega|(simp only[aG]<;>omega)) only[go_sem,seval,g1,g2,gN,hlt,hv1,hN1,gN1,hr2.wf',gk,lT,z9]
      exact ⟨k - 1,by omega,_,N2,i+1,by rfl,by exact gq g1,by exact gq rfl,by omega,hC.tr hC2,Or.inr ⟨by omega,hE.symm⟩⟩
     ·rw[←hE] at hK
      simp (disch:=first|assumption|omega|(simp only[aG]<;>omega)) only[go_sem,seval,g1,g2,gN,hlt,hv1,hN1,gN1,hr2.wf',gk,he]
      exact hK _ (hN0.tr hC2)
   ·rw[hE] at hK
    simp (disch:=first|assumption|omega) only[go_sem,seval,g1,g2,gN,hlt]
    exact hK _ hN0
def yK (c:Nat):Bool:=decide (97<=c/\c<=122)
def fM (c:Nat):Bool:=decide (48<=c/\c<=57)
def fh (c:Nat):Bool:=yK c||fM c||decide (c=95)
def Fu (c:Nat):Bool:=decide (c=32∨c=9∨c=10∨c=13)
theorem rv (m:NH) (c:Nat):rT 110 [u8 c] m (.bool (yK c)) m:=by
 have h:∃v m',rT 110 [u8 c] m v m'/\v= .bool (yK c)/\m'=m:=by
  refine WF.ex fun K hK=> ?_
  refine WF.of_wpG (fun _=>rfl) wj (L:= [(.e,u8 c)]) rfl ?_
  unfold KV
  by_cases h1:97<=c
  ·by_cases h2:c<=122
   ·simp (disch:=first|assumption|omega) only[go_sem,seval]
    exact hK _ _ ⟨by simp[yK,h1,h2],aa m⟩
   ·simp (disch:=first|assumption|omega) only[go_sem,seval]
    exact hK _ _ ⟨by simp[yK,h2],aa m⟩
  ·simp (disch:=first|assumption|omega) only[go_sem,seval]
   exact hK _ _ ⟨by simp[yK,h1],aa m⟩
 obtain ⟨v,m',h,rfl,rfl⟩:=h
 exact h
theorem vu (m:NH) (c:Nat):rT 109 [u8 c] m (.bool (fM c)) m:=by
 have h:∃v m',rT 109 [u8 c] m v m'/\v= .bool (fM c)/\m'=m:=by
  refine WF.ex fun K hK=> ?_
  refine WF.of_wpG (fun _=>rfl) yz (L:= [(.e,u8 c)]) rfl ?_
  unfold Kb
  by_cases h1:48<=c
  ·by_cases h2:c<=57
   ·simp (disch:=first|assumption|omega) only[go_sem,seval]
    exact hK _ _ ⟨by simp[fM,h1,h2],aa m⟩
   ·simp (disch:=first|assumption|omega) only[go_sem,seval]
    exact hK _ _ ⟨by simp[fM,h2],aa m⟩
  ·simp (disch:=first|assumption|omega) only[go_sem,seval]
   exact hK _ _ ⟨by simp[fM,h1],aa m⟩
 obtain ⟨v,m',h,rfl,rfl⟩:=h
 exact h
theorem Kv (m:NH) (c:Nat):rT 108 [u8 c] m (.bool (fh c)) m:=by
 have h:∃v m',rT 108 [u8 c] m v m'/\v= .bool (fh c)/\m'=m:=by
  refine WF.ex fun K hK=> ?_
  refine WF.of_wpG (fun _=>rfl) x8 (L:= [(.e,u8 c)]) rfl ?_
  unfold IQ
  have a1:=rv m c
  have a2:=vu m c
  cases h1:yK c with
  |true=>
   rw[h1] at a1
   simp only[go_sem,seval,aa,a1.wf']
   exact hK _ _ ⟨by simp[fh,h1],rfl⟩
  |false=>
   rw[h1] at a1
   cases h2:fM c with
   |true=>
    rw[h2] at a2
    simp only[go_sem,seval,aa,a1.wf',a2.wf']
    exact hK _ _ ⟨by simp[fh,h2],rfl⟩
   |false=>
    rw[h2] at a2
    by_cases h3:c=95
    ·simp only[go_sem,seval,aa,a1.wf',a2.wf']
     exact hK _ _ ⟨by simp[fh,h3],rfl⟩
    ·simp (disch:=first|assumption|omega) only[go_sem,seval,aa,a1.wf',a2.wf']
     exact hK _ _ ⟨by simp[fh,h1,h2,h3],rfl⟩
 obtain ⟨v,m',h,rfl,rfl⟩:=h
 exact h
def aW (p:Nat->Bool) (s:List Nat) (a:Nat):Nat:=a+((s.drop a).takeWhile p).length
theorem iF  (h:a<s.length) (hp:p s[a]=true):aW p s a=aW p s (a+1):=by
 unfold aW
 rw[List.drop_eq_getElem_cons h,List.takeWhile_cons,Xb hp,List.length_cons]
 omega
theorem tS  (h:a<s.length) (hp:p s[a]=false):aW p s a=a:=by
 unfold aW
 rw[List.drop_eq_getElem_cons h,List.takeWhile_cons,Xa (by simp[hp])];rfl
theorem qP  (h:s.length<=a):aW p s a=a:=by
 unfold aW
 rw[List.drop_eq_nil_of_le h];rfl
theorem kC :a<=aW p s a:=by unfold aW;omega
theorem gU  (h:a<=s.length):aW p s a<=s.length:=by
 unfold aW
 have:=(List.takeWhile_sublist (l:=s.drop a) p).length_le
 rw[List.length_drop] at this;omega
def yV:Bool->List Nat->Nat
 |_, []=>0
 |false,c::l=>if Fu c then 1+yV false l else if c=35 then 1+yV true l else 0
 |true,c::l=>if c=10 then 1+yV false l else 1+yV true l
def bM (s:List Nat) (a:Nat):Nat:=a+yV false (s.drop a)
theorem PH:∀(l:List Nat) (q:Bool),yV q l<=l.length:=by
 intro l
 induction l with
 |nil=>intro q;cases q<;>exact Nat.le_refl 0
 |cons c l ih=>
  intro q
  have h1:=ih false
  have h2:=ih true
  cases q with
  |false=>
   show (if Fu c then 1+yV false l else if c=35 then 1+yV true l else 0)<=l.length+1
   split
   ·omega
   ·split<;>omega
  |true=>
   show (if c=10 then 1+yV false l else 1+yV true l)<=l.length+1
   split<;>omega
def oY (s:List Nat) (a:Nat):Nat:=a+yV true (s.drop a)
theorem jf  (h:a<s.length):bM s a=if Fu s[a] then bM s (a+1) else if s[a]=35 then oY s (a+1) else a:=by
 unfold bM oY
 rw[List.drop_eq_getElem_cons h]
 show a+(if Fu s[a] then 1+yV false (s.drop (a+1)) else if s[a]=35 then 1+yV true (s.drop (a+1)) else 0)=_
 split
 ·omega
 ·split<;>omega
theorem rh  (h:a<s.length):oY s a=if s[a]=10 then bM s (a+1) else oY s (a+1):=by
 unfold bM oY
 rw[List.drop_eq_getElem_cons h]
 show a+(if s[a]=10 then 1+yV false (s.drop (a+1)) else 1+yV true (s.drop (a+1)))=_
 split<;>omega
theorem tA  (h:s.length<=a):bM s a=a:=by
 unfold bM;rw[List.drop_eq_nil_of_le h];rfl
theorem GH  (h:s.length<=a):oY s a=a:=by
 unfold oY;rw[List.drop_eq_nil_of_le h];rfl
theorem lW  (h:a<=s.length):bM s a<=s.length:=by
 have:=PH (s.drop a) false
 rw[List.length_drop] at this
 unfold bM;omega
theorem wY :a<=bM s a:=by unfold bM;omega
theorem MO (s:List Nat):∀(k a:Nat),k=s.length - a->oY s a=bM s (aW (fun c=>decide (c≠10)) s a):=by
 intro k
 induction k with
 |zero=>intro a hk;rw[qP (by omega),GH (by omega),tA (by omega)]
 |succ k ih=>
  intro a hk
  have ha:a<s.length:=by omega
  by_cases h:s[a]=10
  ·rw[tS ha (by simp[h]),rh ha,Xb h,jf ha,Xb (by simp[Fu,h])]
  ·rw[iF ha (by simp[h]),rh ha,Xa h];exact ih (a+1) (by omega)
theorem zI  (h:a<s.length) (hs:s[a]=35):bM s a=bM s (aW (fun c=>decide (c≠10)) s a):=by
 rw[iF h (by simp[hs]),jf h,Xa (by simp[Fu,hs]),Xb hs,MO s _ _ rfl]
theorem GC  (h:a<s.length) (hb:Fu s[a]=false) (hs:s[a]≠35):bM s a=a:=by
 rw[jf h,Xa (by simp[hb]),Xa hs]
theorem Mw  (hs:s.length<=1000000) (hb:Sl m vb 1 (qF s)) (ha:a<=s.length) (g1:NT.get D4.e t=some vb) (g2:NT.get D4.e.a t=some (ii a)) (hQ:∀t',NT.get D4.e t'=some vb->NT.get D4.e.a t'=some (ii (aW (fun c=>decide (c≠10)) s a))->Q (.exit 3) ⟨ah [] t', [],none,m⟩):W Tryz.prog S0 none uE.loop ⟨t, [],none,m⟩ Q:=by
 have hlen:=hb.len
 rw[List.length_map] at hlen
 refine W.loop (fun k d=>∃t i,d=⟨t, [],none,m⟩/\NT.get D4.e t=some vb/\NT.get D4.e.a t=some (ii (i:Nat))/\aW (fun c=>decide (c≠10)) s i=aW (fun c=>decide (c≠10)) s a/\i+k=s.length) ?_ (s.length - a) _ ⟨_,a,rfl,g1,g2,rfl,by omega⟩
 rintro k d ⟨t,i,rfl,g1,g2,hr,hik⟩
 have hQ':=fun L t'=>hQ (ah L t')
 simp only[I9] at hQ'
 apply ax
 unfold uE
 change wp _ _ _ _ ⟨ah [] t, [],none,m⟩ _
 by_cases hi:i<s.length
 ·obtain ⟨id,off,w,c,a1,a2,a3,a4,a5⟩:=hb.at i (by simpa using hi)
  rw[List.getElem_map] at a5
  have c0:=aF a5 0 (by omega)
  rw[Nat.add_zero] at c0
  by_cases h10:s[i]=10
  ·simp (disch:=first|assumption|omega) only[go_sem,seval,g1,g2,hlen,a1,a2,c0]
   refine hQ' _ _ ?_ ?_
   ·simp only[go_sem,seval,g1]
   ·simp only[go_sem,seval,g2];rw[←hr,tS hi (by simp[h10])]
  ·simp (disch:=first|assumption|omega) only[go_sem,seval,g1,g2,hlen,a1,a2,c0]
   refine ⟨k - 1,by omega,_,i+1,rfl, ?_, ?_,by rw[←hr,iF hi (by simp[h10])],by omega⟩
   ·simp only[go_sem,seval,g1]
   ·simp only[go_sem,seval]<;>rfl
 ·simp (disch:=first|assumption|omega) only[go_sem,seval,g1,g2,hlen]
  refine hQ' _ _ ?_ ?_
  ·simp only[go_sem,seval,g1]
  ·simp only[go_sem,seval,g2];rw[←hr,qP (by omega)]
theorem HQ (m:NH) (hs:s.length<=1000000) (hb:Sl m vb 1 (qF s)) (ha:a<=s.length):rT 65 [vb,ii a] m (ii (bM s a)) m:=by
 have h:∃v m',rT 65 [vb,ii a] m v m'/\v=ii (bM s a)/\m'=m:=by
  refine WF.ex fun K hK=> ?_
  refine WF.of_wpG (fun _=>rfl) E8 (L:= [(.a .e,ii a),(.e,vb)]) rfl ?_
  unfold R8
  have hlen:=hb.len
  rw[List.length_map] at hlen
  simp only[go_sem,seval,aa]
  refine W.loop (fun k d=>∃t i,d=⟨t, [],none,m⟩/\NT.get D4.e t=some vb/\NT.get D4.e.a t=some (ii (i:Nat))/\bM s i=bM s a/\i+k=s.length) ?_ (s.length - a) _ ⟨_,a,rfl,by exact gq rfl,by exact gq rfl,rfl,by omega⟩
  rintro k d ⟨t,i,rfl,g1,g2,hr,hik⟩
  apply ax
  unfold DI
  change wp _ _ _ _ ⟨ah [] t, [],none,m⟩ _
  by_cases hi:i<s.length
  ·obtain ⟨id,off,w,c,a1,a2,a3,a4,a5⟩:=hb.at i (by simpa using hi)
   rw[List.getElem_map] at a5
   have c0:=aF a5 0 (by omega)
   rw[Nat.add_zero] at c0
   have blk:∀h:Fu s[i]=true,bM s (i+1)=bM s a:=fun h=>by rw[←hr,jf hi,Xb h]
   by_cases h1:s[i]=32
   ·simp (disch:=first|assumption|omega) only[go_sem,seval,g1,g2,hlen,a1,a2,c0]
    refine ⟨k - 1,by omega,_,i+1,rfl, ?_, ?_,blk (by simp[Fu,h1]),by omega⟩
    ·simp only[go_sem,seval,g1]
    ·simp only[go_sem,seval]<;>rfl
   ·by_cases h2:s[i]=9
    ·simp (disch:=first|assumption|omega) only[go_sem,seval,g1,g2,hlen,a1,a2,c0]
     refine ⟨k - 1,by omega,_,i+1,rfl, ?_, ?_,blk (by simp[Fu,h2]),by omega⟩
     ·simp only[go_sem,seval,g1]
     ·simp only[go_sem,seval]<;>rfl
    ·by_cases h3:s[i]=10
     ·simp (disch:=first|assumption|omega) only[go_sem,seval,g1,g2,hlen,a1,a2,c0]
      refine ⟨k - 1,by omega,_,i+1,rfl, ?_, ?_,blk (by simp[Fu,h3]),by omega⟩
      ·simp only[go_sem,seval,g1]
      ·simp only[go_sem,seval]<;>rfl
     ·by_cases h4:s[i]=13
      ·simp (disch:=first|assumption|omega) only[go_sem,seval,g1,g2,hlen,a1,a2,c0]
       refine ⟨k - 1,by omega,_,i+1,rfl, ?_, ?_,blk (by simp[Fu,h4]),by omega⟩
       ·simp only[go_sem,seval,g1]
       ·simp only[go_sem,seval]<;>rfl
      ·have hnb:Fu s[i]=false:=by simp[Fu,h1,h2,h3,h4]
       by_cases h5:s[i]=35
       ·simp (disch:=first|assumption|omega) only[go_sem,seval,g1,g2,hlen,a1,a2,c0]
        refine Mw hs hb (a:=i) (by omega) ?_ ?_ ?_
        ·simp only[go_sem,seval,g1]
        ·simp only[go_sem,seval,g2]
        intro t' g1 g2
        simp only[go_sem,seval]
        have hle:=gU (p:=fun c=>decide (c≠10)) (s:=s) (a:=i) (by omega)
        have hlt:i+1<=aW (fun c=>decide (c≠10)) s i:=by rw[iF hi (by simp[h5])];exact kC
        exact ⟨s.length - aW (fun c=>decide (c≠10)) s i,by omega,t',_,rfl,g1,g2,by rw[←zI hi h5];exact hr,by omega⟩
       ·simp (disch:=first|assumption|omega) only[go_sem,seval,g1,g2,hlen,a1,a2,c0]
        exact hK _ _ ⟨by rw[←hr,GC hi hnb h5],rfl⟩
  ·simp (disch:=first|assumption|omega) only[go_sem,seval,g1,g2,hlen]
   exact hK _ _ ⟨by rw[←hr,tA (by omega)],rfl⟩
 obtain ⟨v,m',h,rfl,rfl⟩:=h
 exact h
def iq:List (List Nat):= [[99,101,108,108], [116,104,114,101,97,100], [114,101,99,111,118,101,114], [115,101,116], [108,111,97,100], [115,116,111,114,101], [99,97,115], [102,101,110,99,101], [111,117,116], [105,102], [101,108,115,101], [119,104,105,108,101]]
theorem P9 (m:NH) (t:List Nat):∃v m',rT 111 [.str t] m v m'/\v= .bool (decide (t∈iq))/\Chg [] m m':=by
 refine WF.ex fun K hK=> ?_
 refine WF.of_wpG (fun _=>rfl) xw (L:= [(.e,.str t)]) rfl ?_
 unfold Io
 simp (disch:=first|assumption|omega|(simp only[aG]<;>omega)) only[go_sem,seval]
 generalize hM:hp _ 1 m=M
 have hC:Chg [] m M:=aR hM rfl
 have hv:Sl M (.slc (na m 0) 0 12 1 12) 1 (bK iq):=by
  rw[←hM]
  exact (aY.of (B:=m) (C:=bK iq) (by simp) aA bI (bN (by omega)) rfl rfl rfl).sl
 have hwl:iq.length=12:=rfl
 refine W.loop (fun k d=>∃t' i,d=⟨t', [],none,M⟩/\NT.get D4.e t'=some (.str t)/\NT.get D4.e.c t'=some (.slc (na m 0) 0 12 1 12)/\NT.get D4.e.f t'=some (ii (i:Nat))/\t∉iq.take i/\i+k=12) ?_ 12 _ ⟨_,0,rfl,by exact gq rfl,by exact gq rfl,by exact gq rfl,by simp,by omega⟩
 rintro k d ⟨t',i,rfl,g1,g2,g3,hno,hik⟩
 apply ax
 unfold xp
 change wp _ _ _ _ ⟨ah [] t', [],none,M⟩ _
 by_cases hi:i<12
 ·obtain ⟨id,off,w,c,a1,a2,a3,a4,a5⟩:=hv.at i (by simpa [hwl] using hi)
  rw[List.getElem_map] at a5
  have c0:=aF a5 0 (by omega)
  rw[Nat.add_zero] at c0
  by_cases he:iq[i]=t
  ·simp (disch:=first|assumption|omega) only[go_sem,seval,g1,g2,g3,a1,a2,c0,he]
   exact hK _ _ ⟨by rw[Xd (show t∈iq by rw[←he];exact List.getElem_mem _)],hC⟩
  ·simp (disch:=first|assumption|omega) only[go_sem,seval,g1,g2,g3,a1,a2,c0,he]
   refine ⟨k - 1,by omega,_,i+1,rfl, ?_, ?_, ?_, ?_,by omega⟩
   ·simp only[go_sem,seval,g1]
   ·simp only[go_sem,seval,g2]
   ·simp only[go_sem,seval]<;>rfl
   ·rw[List.take_add_one,List.getElem?_eq_getElem (by omega)]
    simp only[Option.toList_some,List.mem_append,List.mem_singleton,not_or]
    exact ⟨hno,fun q=>he q.symm⟩
 ·simp (disch:=first|assumption|omega) only[go_sem,seval,g1,g2,g3]
  have e:i=12:=by omega
  subst e
  rw[List.take_of_length_le (by rw[hwl];omega)] at hno
  exact hK _ _ ⟨by simp[hno],hC⟩
def n8:List Nat->Nat->Option Nat
 | [],n=>some n
 |c::l,n=>if 10*n+(c - 48)<18446744073709551616 then n8 l (10*n+(c - 48)) else none
def FB (s:List Nat):Option Nat:=if 1<s.length/\s[0]? =some 48 then none else n8 s 0
def eV:List Nat:= [123,125,40,41,91,93,59,43,45,42,38,61,60]
def cut (s:List Nat) (a e:Nat):List Nat:=(s.take e).drop a
def fS (s:List Nat) (a:Nat):Option (Nat×List Nat×Nat×Nat):=
 match s[a]? with
 |none=>none
 |some c=>
  if yK c then (if cut s a (aW fh s a)∈iq then some (4,cut s a (aW fh s a),0,aW fh s a) else if (cut s a (aW fh s a)).length<=16 then some (1,cut s a (aW fh s a),0,aW fh s a) else none)
  else if fM c then (match FB (cut s a (aW fM s a)) with|some n=>if aW fh s a=aW fM s a then some (2, [],n,aW fM s a) else none|none=>none)
  else if c∈eV then some (3, [c],0,a+1) else none
theorem Kw {a n d:Int} {t:List Nat}:bg 4 (.agg [.int .i64 (.lit a),.str t,.int .u64 (.lit n),.int .i64 (.lit d)]) (.agg [.int .i64 (.lit a),.str t,.int .u64 (.lit n),.int .i64 (.lit d)])=true:=by
 refine dH ?_
 intro v hv
 simp only[Xf,Xe,or_false] at hv
 rcases hv with rfl|rfl|rfl|rfl<;>trivial
theorem uV (p:Nat->Bool) (s:List Nat) (a:Nat):cut s a (aW p s a)=(s.drop a).takeWhile p:=by
 unfold cut aW
 rw[List.drop_take,Nat.add_sub_cancel_left]
 exact (List.prefix_iff_eq_take.mp (List.takeWhile_prefix p)).symm
theorem PS  (hb:s[a]? =some c) (hp:p c=true):∃l,cut s a (aW p s a)=c::l:=by
 rw[uV]
 obtain ⟨ha,hc⟩:=List.getElem?_eq_some_iff.mp hb
 rw[List.drop_eq_getElem_cons ha,hc,List.takeWhile_cons,hp]
 exact ⟨_,rfl⟩
theorem y6 (p:Nat->Bool) (l:List Nat):∀c∈l.takeWhile p,p c=true:=by
 induction l with
 |nil=>intro c h;simp at h
 |cons x l ih=>
  intro c h
  rw[List.takeWhile_cons] at h
  split at h
  ·rcases List.mem_cons.mp h with rfl|h
   ·assumption
   ·exact ih c h
  ·simp at h
theorem G0 (p:Nat->Bool) (s:List Nat) (a:Nat):∀c∈cut s a (aW p s a),p c=true:=by rw[uV];exact y6 p _
theorem Lr (c:Nat) (h:fM c=true):fh c=true:=by unfold fh;rw[h];simp
structure Tok where
 k:Nat
 t:List Nat
 n:Nat
 p:Nat
variable {L:List Tok}
def Tok.l (x:Tok):List NV:= [ii x.k,.str x.t,u64 x.n,ii x.p]
def dy (s:List Nat):Nat->Nat->List Tok×Option Nat
 |0,_=>([],none)
 |k+1,a=>if a<s.length then (match fS s a with
  |none=>([],some a)
  |some (kd,t,n,e)=>(⟨kd,t,n,a⟩::(dy s k (bM s e)).1,(dy s k (bM s e)).2)) else ([⟨5, [],0,s.length⟩],none)
def dM (s:List Nat):List Tok×Option Nat:=dy s (s.length+1) (bM s 0)
theorem Hm  (hb:s[a]? =some c) (hp:p c=true):a<aW p s a:=by
 obtain ⟨ha,hc⟩:=List.getElem?_eq_some_iff.mp hb
 rw[iF ha (by rw[hc];exact hp)]
 exact kC
theorem H5  {kd:Nat} {t:List Nat} (h:fS s a=some (kd,t,n,e)):a<e/\e<=s.length:=by
 unfold fS at h
 cases hb:s[a]? with
 |none=>rw[hb] at h;cases h
 |some c=>
  rw[hb] at h
  obtain ⟨ha,hc⟩:=List.getElem?_eq_some_iff.mp hb
  dsimp only at h
  have g1:yK c=true->a<aW fh s a:=fun q=>Hm hb (by unfold fh;rw[q];rfl)
  have g2:fM c=true->a<aW fM s a:=fun q=>Hm hb q
  have l1:=gU (p:=fh) (s:=s) (a:=a) (by omega)
  have l2:=gU (p:=fM) (s:=s) (a:=a) (by omega)
  split at h
  ·rename_i hL
   split at h
   ·cases h;exact ⟨g1 hL,l1⟩
   ·split at h
    ·cases h;exact ⟨g1 hL,l1⟩
    ·cases h
  ·split at h
   ·rename_i hD
    split at h
    ·split at h
     ·cases h;exact ⟨g2 hD,l2⟩
     ·cases h
    ·cases h
   ·split at h
    ·cases h;exact ⟨by omega,by omega⟩
    ·cases h
theorem nX (s:List Nat):∀(k a:Nat),(dy s k a).1.length<=k:=by
 intro k
 induction k with
 |zero=>intro a;simp[dy]
 |succ k ih=>
  intro a
  unfold dy
  split
  ·split
   ·simp
   ·rename_i kd t n e _
    have:=ih (bM s e)
    simp only[List.length_cons];omega
  ·simp
def Vc (s:List Nat):Int->List Tok->Prop
 |_, []=>True
 |w,x::l=>w<x.p/\x.p<=s.length/\x.t.length<=s.length - x.p/\cut s x.p (x.p+x.t.length)=x.t/\(x.k=5↔l= [])/\Vc s x.p l
theorem mU  (h:e<=s.length):(cut s a e).length=e - a:=by unfold cut;rw[List.length_drop,List.length_take];omega
theorem uC (s:List Nat) (a:Nat):cut s a a= []:=by unfold cut;exact List.drop_take_self
theorem Lt  (h:e<=s.length) (h':a<=e):cut s a (a+(cut s a e).length)=cut s a e:=by rw[mU h,Nat.add_sub_cancel' h']
theorem MZ  (hb:s[a]? =some c):cut s a (a+1)= [c]:=by
 obtain ⟨ha,hc⟩:=List.getElem?_eq_some_iff.mp hb
 unfold cut
 rw[List.take_add_one,hb]
 simp only[Option.toList_some]
 rw[List.drop_append_of_le_length (by rw[List.length_take];omega),List.drop_take_self];rfl
theorem Qm  {kd:Nat} {t:List Nat} (h:fS s a=some (kd,t,n,e)):kd≠5/\t.length<=s.length - a/\cut s a (a+t.length)=t:=by
 unfold fS at h
 cases hb:s[a]? with
 |none=>rw[hb] at h;cases h
 |some c=>
  rw[hb] at h
  obtain ⟨ha,hc⟩:=List.getElem?_eq_some_iff.mp hb
  dsimp only at h
  have l1:=gU (p:=fh) (s:=s) (a:=a) (by omega)
  have l2:=kC (p:=fh) (s:=s) (a:=a)
  have c1:=Lt l1 l2
  have c2:=mU (a:=a) l1
  split at h
  ·split at h
   ·cases h;exact ⟨by omega,by omega,c1⟩
   ·split at h
    ·cases h;exact ⟨by omega,by omega,c1⟩
    ·cases h
  ·split at h
   ·split at h
    ·split at h
     ·cases h;exact ⟨by omega,by simp,uC s a⟩
     ·cases h
    ·cases h
   ·split at h
    ·cases h;exact ⟨by omega,by simp;omega,MZ hb⟩
    ·cases h
theorem Ix (s:List Nat):∀(k a:Nat) (w:Int),s.length<=a+k->a<=s.length->w<a->(dy s (k+1) a).2=none->Vc s w (dy s (k+1) a).1/\(dy s (k+1) a).1≠ []:=by
 intro k
 induction k with
 |zero=>
  intro a w h1 h2 h3 h4
  rw[dy,Xa (by omega)]
  exact ⟨⟨by simp;omega,Nat.le_refl _,by simp,uC s _,by simp,trivial⟩,by simp⟩
 |succ k ih=>
  intro a w h1 h2 h3 h4
  by_cases ha:a<s.length
  ·rw[dy,Xb ha] at h4 ⊢
   cases hk:fS s a with
   |none=>rw[hk] at h4;cases h4
   |some x=>
    obtain ⟨kd,t,n,e⟩:=x
    rw[hk] at h4
    obtain ⟨e1,e2⟩:=H5 hk
    obtain ⟨t1,t2,t3⟩:=Qm hk
    have g1:e<=bM s e:=wY
    obtain ⟨i1,i2⟩:=ih (bM s e) a (by omega) (lW e2) (by omega) h4
    exact ⟨⟨h3,by simp;omega,t2,t3,⟨fun q=>W9 q t1,fun q=>W9 q i2⟩,i1⟩,by simp⟩
  ·rw[dy,Xa ha]
   exact ⟨⟨by simp;omega,Nat.le_refl _,by simp,uC s _,by simp,trivial⟩,by simp⟩
theorem LU  (h:(dM s).2=none):Vc s (-1) (dM s).1/\(dM s).1≠ []:=by
 have:=lW (s:=s) (a:=0) (Nat.zero_le _)
 exact Ix s s.length (bM s 0) (-1) (by omega) this (by omega) h
theorem UR  {f:NV} (hs:s.length<=1000000) (hb:Sl m vb 1 (qF s)) (ha:a<=s.length) (g1:NT.get D4.e t=some vb) (g2:NT.get D4.e.a.c t=some (ii a)) (g3:NT.get D4.e.a t=some (ii a)) (g4:NT.get D4.e.f t=some f) (hQ:∀L t',NT.get D4.e (ah L t')=some vb->NT.get D4.e.a (ah L t')=some (ii a)->NT.get D4.e.f (ah L t')=some f->NT.get D4.e.a.c (ah L t')=some (ii ((aW fh s a:Nat):Int))->Q (.exit 0) ⟨ah L t', [],none,m⟩):W Tryz.prog S0 none tR.loop ⟨t, [],none,m⟩ Q:=by
 have hlen:=hb.len
 rw[List.length_map] at hlen
 refine W.loop (fun k d=>∃t i,d=⟨t, [],none,m⟩/\NT.get D4.e t=some vb/\NT.get D4.e.a t=some (ii a)/\NT.get D4.e.f t=some f/\NT.get D4.e.a.c t=some (ii (i:Nat))/\aW fh s i=aW fh s a/\i+k=s.length) ?_ (s.length - a) _ ⟨_,a,rfl,g1,g3,g4,g2,rfl,by omega⟩
 rintro k d ⟨t,i,rfl,g1,g3,g4,g2,hr,hik⟩
 apply ax
 unfold tR
 change wp _ _ _ _ ⟨ah [] t, [],none,m⟩ _
 by_cases hi:i<s.length
 ·obtain ⟨id,off,w,c,a1,a2,a3,a4,a5⟩:=hb.at i (by simpa using hi)
  rw[List.getElem_map] at a5
  have c0:=aF a5 0 (by omega)
  rw[Nat.add_zero] at c0
  have hI:=Kv m s[i]
  cases h1:fh s[i] with
  |false=>
   rw[h1] at hI
   simp (disch:=first|assumption|omega) only[go_sem,seval,g1,g2,hlen,a1,a2,c0,hI.wf']
   refine hQ _ _ ?_ ?_ ?_ ?_
   ·simp only[go_sem,seval,g1]
   ·simp only[go_sem,seval,g3]
   ·simp only[go_sem,seval,g4]
   ·simp only[go_sem,seval,g2];rw[←hr,tS hi h1]
  |true=>
   rw[h1] at hI
   simp (disch:=first|assumption|omega) only[go_sem,seval,g1,g2,hlen,a1,a2,c0,hI.wf']
   refine ⟨k - 1,by omega,_,i+1,rfl, ?_, ?_, ?_, ?_,by rw[←hr,iF hi h1],by omega⟩
   ·simp only[go_sem,seval,g1]
   ·simp only[go_sem,seval,g3]
   ·simp only[go_sem,seval,g4]
   ·simp only[go_sem,seval]<;>rfl
 ·simp (disch:=first|assumption|omega) only[go_sem,seval,g1,g2,hlen]
  refine hQ _ _ ?_ ?_ ?_ ?_
  ·simp only[go_sem,seval,g1]
  ·simp only[go_sem,seval,g3]
  ·simp only[go_sem,seval,g4]
  ·simp only[go_sem,seval,g2];rw[←hr,qP (by omega)]
theorem HW  (h:∀c∈cut s a (aW fh s a),fM c=true):aW fM s a=aW fh s a:=by
 rw[uV] at h
 unfold aW
 congr 1
 generalize s.drop a=l at h ⊢
 induction l with
 |nil=>rfl
 |cons x l ih=>
  rw[List.takeWhile_cons] at h
  rw[List.takeWhile_cons,List.takeWhile_cons]
  cases hx:fh x with
  |false=>
   have:fM x=false:=by cases hd:fM x with
    |false=>rfl
    |true=>rw[Lr x hd] at hx;cases hx
   simp[hx,this]
  |true=>
   rw[hx] at h
   have h0:=h x (by simp)
   rw[h0]
   simp only[if_true,List.length_cons]
   rw[ih fun c hc=>h c (by simp[hc])]
def BB (s:List Nat) (a:Nat):Prop:=aW fh s a≠aW fM s a∨n8 (cut s a (aW fM s a)) 0=none
theorem Oc  (h1:a<=i) (h2:i<e) (h3:e<=s.length):(cut s a e).drop (i - a)=s[i]::(cut s a e).drop (i+1 - a):=by
 have hlt:i - a<(cut s a e).length:=by rw[mU h3];omega
 have hg:(cut s a e)[i - a]? =s[i]? :=by
  unfold cut
  rw[List.getElem?_drop,show a+(i - a)=i by omega,List.getElem?_take_of_lt h2]
 rw[List.getElem?_eq_getElem hlt,List.getElem?_eq_getElem (by omega),Option.some.injEq] at hg
 rw[List.drop_eq_getElem_cons hlt,show i - a+1=i+1 - a by omega,hg]
theorem SZ  (hs:s.length<=1000000) (hb:Sl m vb 1 (qF s)) (ha:a<=s.length) {tk:D4} {b0 b1 b2 b3 a0 a1 a2 a3 cc:NV}
 (hr:m.get r=some (.cells true [b0,b1,b2,b3])) (htk:m.get tk=some (.cells true [a0,a1,a2,a3])) (orr:am m r) (otk:am m tk)
 (g1:NT.get D4.e t=some vb) (g2:NT.get D4.e.a.c t=some (ii ((aW fh s a:Nat):Int))) (g3:NT.get D4.e.a t=some (ii a)) (g4:NT.get D4.e.f t=some (.ptr r 0)) (g5:NT.get D4.e.b.a t=some (.ptr tk 0)) (g6:NT.get D4.e.b.b t=some (u64 0)) (g7:NT.get D4.e.b.c t=some (ii a)) (g8:NT.get D4.e.a.f t=some cc)
 (hbad:BB s a->∀L t',NT.get D4.e.f (ah L t')=some (.ptr r 0)->NT.get D4.e.a.a (ah L t')=some (ii a)->NT.get D4.e.a.b (ah L t')=some (ii 2)->Q .ret ⟨ah L t', [],none,m.put r (.cells true [a0,a1,a2,a3])⟩)
 (hok:∀n,aW fh s a=aW fM s a->n8 (cut s a (aW fM s a)) 0=some n->∀L t',NT.get D4.e.b.a (ah L t')=some (.ptr tk 0)->NT.get D4.e.a.c (ah L t')=some (ii ((aW fh s a:Nat):Int))->NT.get D4.e.a (ah L t')=some (ii a)->NT.get D4.e.f (ah L t')=some (.ptr r 0)->NT.get D4.e.b.b (ah L t')=some (u64 n)->NT.get D4.e.a.f (ah L t')=some cc->Q (.exit 3) ⟨ah L t', [],none,m⟩):
 W Tryz.prog S0 none tK.loop ⟨t, [],none,m⟩ Q:=by
 have hlen:=hb.len
 rw[List.length_map] at hlen
 have hle:aW fh s a<=s.length:=gU ha
 have hge:a<=aW fh s a:=kC
 generalize hto:aW fh s a=to at hle hge g2 hok
 refine W.loop (fun k d=>∃t i n,d=⟨t, [],none,m⟩/\NT.get D4.e t=some vb/\NT.get D4.e.a.c t=some (ii (to:Nat))/\NT.get D4.e.a t=some (ii a)/\NT.get D4.e.f t=some (.ptr r 0)/\NT.get D4.e.b.a t=some (.ptr tk 0)/\NT.get D4.e.b.b t=some (u64 n)/\NT.get D4.e.b.c t=some (ii (i:Nat))/\NT.get D4.e.a.f t=some cc/\n<18446744073709551616/\a<=i/\(∀c∈(cut s a to).take (i - a),fM c=true)/\n8 ((cut s a to).drop (i - a)) n=n8 (cut s a to) 0/\i+k=to) ?_ (to - a) _
  ⟨_,a,0,rfl,g1,g2,g3,g4,g5,g6,g7,g8,by omega,Nat.le_refl _,by simp,by simp,by omega⟩
 rintro k d ⟨t,i,n,rfl,g1,g2,g3,g4,g5,g6,g7,g8,hn,hai,hall,hv,hik⟩
 apply ax
 unfold tK
 change wp _ _ _ _ ⟨ah [] t, [],none,m⟩ _
 by_cases hi:i<to
 ·obtain ⟨id,off,w,c',x1,x2,x3,x4,x5⟩:=hb.at i (by simp;omega)
  rw[List.getElem_map] at x5
  have c0:=aF x5 0 (by omega)
  rw[Nat.add_zero] at c0
  have hcg:=Oc (s:=s) hai hi hle
  have hD:=vu m s[i]
  generalize hc:s[i]=c at c0 hcg hD
  rw[hcg] at hv
  have hmem:c∈cut s a to:=by
   have:c∈(cut s a to).drop (i - a):=by rw[hcg];simp
   exact List.mem_of_mem_drop this
  cases h1:fM c with
  |false=>
   rw[h1] at hD
   simp (disch:=first|assumption|omega|(simp only[aG]<;>omega)) only[go_sem,seval,aa,g1,g2,g3,g4,g5,g6,g7,hlen,x1,x2,c0,hD.wf',hr,htk]
   refine hbad (Or.inl fun h=> ?_) _ _ ?_ ?_ ?_
   ·rw[hto] at h
    have:=G0 fM s a c (by rw[←h];exact hmem)
    rw[h1] at this;cases this
   ·simp only[go_sem,seval,g4]
   ·simp only[go_sem,seval]
   ·simp only[go_sem,seval]
  |true=>
   rw[h1] at hD
   have hdd:=h1
   unfold fM at hdd
   rw[decide_eq_true_eq] at hdd
   have e1:((c:Int) - 48) % 256=((c - 48:Nat):Int):=by omega
   have e2:((c - 48:Nat):Int) % 18446744073709551616=((c - 48:Nat):Int):=by omega
   have e3:(18446744073709551615 - ((c - 48:Nat):Int)) % 18446744073709551616=((18446744073709551615 - (c - 48):Nat):Int):=by omega
   have q10:∀x:Nat,x<18446744073709551616->dN .num .quo (.int .u64 (.lit (x:Int))) (.int .u64 (.lit 10))=some (.int .u64 (.lit ((x / 10:Nat):Int))):=by
    intro x hx
    have:=Ik (a:=x) (b:=10) (by omega)
    rw[show x / 10 % 18446744073709551616=x / 10 by omega] at this
    exact this
   have q10:=q10 (18446744073709551615 - (c - 48)) (by omega)
   have hvn:n8 (c::(cut s a to).drop (i+1 - a)) n=if 10*n+(c - 48)<18446744073709551616 then n8 ((cut s a to).drop (i+1 - a)) (10*n+(c - 48)) else none:=rfl
   by_cases hlt:10*n+(c - 48)<18446744073709551616
   ·rw[hvn,Xb hlt] at hv
    have hle10:n<=(18446744073709551615 - (c - 48)) / 10:=by omega
    have e4:(10*(n:Int) % 18446744073709551616+((c - 48:Nat):Int)) % 18446744073709551616=((10*n+(c - 48):Nat):Int):=by omega
    generalize hqq:(18446744073709551615 - (c - 48)) / 10=qq at q10 hle10
    simp (disch:=first|assumption|omega) only[go_sem,seval,aa,g1,g2,g3,g4,g5,g6,g7,hlen,x1,x2,c0,hD.wf',e1,e2,e3,q10,e4]
    refine ⟨k - 1,by omega,_,i+1,10*n+(c - 48),rfl, ?_, ?_, ?_, ?_, ?_, ?_, ?_, ?_,hlt,by omega, ?_,hv,by omega⟩
    ·simp only[go_sem,seval,g1]
    ·simp only[go_sem,seval,g2]
    ·simp only[go_sem,seval,g3]
    ·simp only[go_sem,seval,g4]
    ·simp only[go_sem,seval,g5]
    ·simp only[go_sem,seval]
    ·simp only[go_sem,seval]<;>rfl
    ·simp only[go_sem,seval,g8]
    ·intro x hx
     rw[show i+1 - a=i - a+1 by omega,List.take_add_one] at hx
     have hg:(cut s a to)[i - a]? =some c:=by
      have:=congrArg (fun l=>l[0]?) hcg
      simpa using this
     rw[hg] at hx
     simp only[Option.toList_some,List.mem_append,List.mem_singleton] at hx
     rcases hx with hx|rfl
     ·exact hall x hx
     ·exact h1
   ·rw[hvn,Xa hlt] at hv
    have hle10:(18446744073709551615 - (c - 48)) / 10<n:=by omega
    generalize hqq:(18446744073709551615 - (c - 48)) / 10=qq at q10 hle10
    simp (disch:=first|assumption|omega|(simp only[aG]<;>omega)) only[go_sem,seval,aa,g1,g2,g3,g4,g5,g6,g7,hlen,x1,x2,c0,hD.wf',e1,e2,e3,q10,hr,htk]
    refine hbad ?_ _ _ ?_ ?_ ?_
    ·unfold BB
     by_cases h:aW fh s a=aW fM s a
     ·right;rw[←h,hto];exact hv.symm
     ·exact Or.inl h
    ·simp only[go_sem,seval,g4]
    ·simp only[go_sem,seval]
    ·simp only[go_sem,seval]
 ·simp (disch:=first|assumption|omega) only[go_sem,seval,g1,g2,g7,hlen]
  have hia:i - a=(cut s a to).length:=by rw[mU hle];omega
  rw[hia,List.take_length] at hall
  have he:aW fM s a=aW fh s a:=HW (by rw[hto];exact hall)
  rw[hia,List.drop_length] at hv
  rw[hto] at he
  refine hok n he.symm ?_ _ _ ?_ ?_ ?_ ?_ ?_ ?_
  ·rw[he,←hv];rfl
  ·simp only[go_sem,seval,g5]
  ·simp only[go_sem,seval,g2]
  ·simp only[go_sem,seval,g3]
  ·simp only[go_sem,seval,g4]
  ·simp only[go_sem,seval,g6]
  ·simp only[go_sem,seval,g8]
theorem Tv  {tk:D4} {b0 b1 b2 b3 a0 a1 a2 a3:NV} (ha':a<=1000000)
 (hr:m.get r=some (.cells true [b0,b1,b2,b3])) (htk:m.get tk=some (.cells true [a0,a1,a2,a3])) (orr:am m r) (otk:am m tk) (hrt:r≠tk)
 (g1:NT.get D4.e.c.a t=some (.str eV)) (g2:NT.get D4.e.c.b t=some (ii 0)) (g3:NT.get D4.e.a t=some (ii a)) (g4:NT.get D4.e.f t=some (.ptr r 0)) (g5:NT.get D4.e.b.a t=some (.ptr tk 0)) (g6:NT.get D4.e.a.f t=some (u8 c))
 (hok:c∈eV->∀L t' m',m'.get r=some (.cells true [ii 3,.str [c],a2,a3])->Chg [r,tk] m m'->NT.get D4.e.f (ah L t')=some (.ptr r 0)->NT.get D4.e.a.a (ah L t')=some (ii ((a:Int)+1))->NT.get D4.e.a.b (ah L t')=some (ii 0)->Q .ret ⟨ah L t', [],none,m'⟩)
 (hbad:c∉eV->∀L t',NT.get D4.e.b.a (ah L t')=some (.ptr tk 0)->NT.get D4.e.a (ah L t')=some (ii a)->NT.get D4.e.f (ah L t')=some (.ptr r 0)->Q (.exit 5) ⟨ah L t', [],none,m⟩):
 W Tryz.prog S0 none uU.loop ⟨t, [],none,m⟩ Q:=by
 have hsl:eV.length=13:=rfl
 refine W.loop (fun k d=>∃t i,d=⟨t, [],none,m⟩/\NT.get D4.e.c.a t=some (.str eV)/\NT.get D4.e.c.b t=some (ii (i:Nat))/\NT.get D4.e.a t=some (ii a)/\NT.get D4.e.f t=some (.ptr r 0)/\NT.get D4.e.b.a t=some (.ptr tk 0)/\NT.get D4.e.a.f t=some (u8 c)/\c∉eV.take i/\i+k=13) ?_ 13 _ ⟨_,0,rfl,g1,g2,g3,g4,g5,g6,by simp,by omega⟩
 rintro k d ⟨t,i,rfl,g1,g2,g3,g4,g5,g6,hno,hik⟩
 apply ax
 unfold uU
 change wp _ _ _ _ ⟨ah [] t, [],none,m⟩ _
 rw[←aa m]
 by_cases hi:i<13
 ·have hb:eV[i]? =some eV[i]:=List.getElem?_eq_getElem (by omega)
  by_cases he:eV[i]=c
  ·rw[he] at hb
   have e1:List.drop i (List.take ((i:Int)+1).toNat eV)= [c]:=by
    rw[show ((i:Int)+1).toNat=i+1 by omega,List.take_add_one,hb]
    simp only[Option.toList_some]
    rw[List.drop_append_of_le_length (by rw[List.length_take];omega),List.drop_take_self];rfl
   simp (disch:=first|assumption|omega|(simp only[aG]<;>omega)) only[go_sem,seval,g1,g2,g3,g4,g5,g6,hb,hsl,e1,hr,htk,Kw]
   refine hok (by rw[←he];exact List.getElem_mem _) _ _ _ ?_ ?_ ?_ ?_ ?_
   ·exact (aE orr).trans aq
   ·exact (aI rfl).weak (by simp[aC])
   ·simp only[go_sem,seval,g4]
   ·simp only[go_sem,seval]
   ·simp only[go_sem,seval]
  ·have hne:((eV[i]:Int)=(c:Int))=False:=by simp;omega
   simp (disch:=first|assumption|omega) only[go_sem,seval,g1,g2,g3,g4,g5,g6,hb,hsl]
   refine ⟨k - 1,by omega,_,i+1,by rw[aa], ?_, ?_, ?_, ?_, ?_, ?_, ?_,by omega⟩
   ·simp only[go_sem,seval,g1]
   ·simp only[go_sem,seval]<;>rfl
   ·simp only[go_sem,seval,g3]
   ·simp only[go_sem,seval,g4]
   ·simp only[go_sem,seval,g5]
   ·simp only[go_sem,seval,g6]
   ·rw[List.take_add_one,hb]
    simp only[Option.toList_some,List.mem_append,List.mem_singleton,not_or]
    exact ⟨hno,fun q=>he q.symm⟩
 ·simp (disch:=first|assumption|omega) only[go_sem,seval,g1,g2,hsl]
  rw[aa]
  refine hbad ?_ _ _ ?_ ?_ ?_
  ·have:i=13:=by omega
   subst this
   exact hno
  ·simp only[go_sem,seval,g5]
  ·simp only[go_sem,seval,g3]
  ·simp only[go_sem,seval,g4]
theorem HJ (s:List Nat) (a e:Nat):((qF s).drop a).take (e - a)=qF (cut s a e):=by
 unfold cut
 rw[List.drop_take]
 simp[List.map_take,List.map_drop]
theorem mJ  (hbs:s[a]? =some c) (hD:fM c=true):FB (cut s a (aW fM s a))=if 1<aW fM s a - a/\c=48 then none else n8 (cut s a (aW fM s a)) 0:=by
 have ha:=(List.getElem?_eq_some_iff.mp hbs).1
 obtain ⟨l,hl⟩:=PS hbs hD
 have hn:=mU (s:=s) (a:=a) (gU (p:=fM) (s:=s) (a:=a) (by omega))
 unfold FB
 rw[hn]
 have e:((cut s a (aW fM s a))[0]? =some 48)↔(c=48):=by rw[hl];simp
 by_cases h:1<aW fM s a - a/\c=48
 ·rw[Xb h,Xb ⟨h.1,e.mpr h.2⟩]
 ·rw[Xa h,Xa fun q=>h ⟨q.1,e.mp q.2⟩]
theorem my  (hbs:s[a]? =some c) (hD:fM c=true):fS s a=(match FB (cut s a (aW fM s a)) with|some n=>if aW fh s a=aW fM s a then some (2, [],n,aW fM s a) else none|none=>none):=by
 have hL:yK c=false:=by
  unfold fM at hD;rw[decide_eq_true_eq] at hD
  unfold yK;rw[decide_eq_false_iff_not];omega
 unfold fS;rw[hbs];simp only[hL,hD];rfl
theorem xQ  (hbs:s[a]? =some c) (hD:fM c=true) (h:BB s a):fS s a=none:=by
 rw[my hbs hD,mJ hbs hD]
 by_cases h1:1<aW fM s a - a/\c=48
 ·rw[Xb h1]
 ·rw[Xa h1]
  rcases h with h|h
  ·cases n8 (cut s a (aW fM s a)) 0 with
   |none=>rfl
   |some n=>simp[h]
  ·rw[h]
theorem MD (m:NH) (hs:s.length<=1000000) (h256:∀c∈s,c<256) (hb:Sl m vb 1 (qF s)) (ha:a<s.length):
 ∃v m',rT 66 [vb,ii a] m v m'/\(∃(k0:Int) (t0:List Nat) (n0 p:Int),v= .tup [.agg [ii k0,.str t0,.int .u64 (.lit n0),ii a],ii p,ii (if (fS s a).isSome then 0 else 2)]/\∀k t n e,fS s a=some (k,t,n,e)->k0=k/\t0=t/\n0=n/\p=e)/\Chg [] m m':=by
 refine WF.ex fun K hK=> ?_
 refine WF.of_wpG (fun _=>rfl) Fw (L:= [(.a .e,ii a),(.e,vb)]) rfl ?_
 unfold Pr
 simp only[go_sem,seval]
 generalize hM0:hp _ 1 m=M0
 have hC0:Chg [] m M0:=aR hM0 rfl
 have r0:M0.get (na m 0)=some (.cells true [ii 0,.str [],u64 0,ii 0]):=bu hM0
 have or0:am M0 (na m 0):=bt hM0 (by omega)
 have hb0:=hb.chg hC0 fun _ _=>by simp
 refine UR hs hb0 (Nat.le_of_lt ha) (by exact gq rfl) (by exact gq rfl) (by exact gq rfl) (f:= .ptr (na m 0) 0) (by exact gq rfl) ?_
 intro L t g1 g2 g3 g4
 rw[←aa M0]
 obtain ⟨id,off,w,c',x1,x2,x3,x4,x5⟩:=hb0.at a (by simpa using ha)
 rw[List.getElem_map] at x5
 have c0:=aF x5 0 (by omega)
 rw[Nat.add_zero] at c0
 have hbs:s[a]? =some s[a]:=List.getElem?_eq_getElem ha
 have hc256:=h256 s[a] (List.getElem_mem ha)
 generalize hc:s[a]=c at c0 hbs hc256
 have hd:∀m,rT 109 [u8 c] m (.bool (fM c)) m:=fun m=>vu m c
 have hl:∀m,rT 110 [u8 c] m (.bool (yK c)) m:=fun m=>rv m c
 generalize hT:ah L t=T at g1 g2 g3 g4
 change wp _ _ _ _ ⟨ah [] T, [],none,_⟩ _
 have na_ne:na m 0≠na M0 0:=or0.ne 0
 have na_ne':na M0 0≠na m 0:=fun e=>or0.ne 0 e.symm
 have chF:∀(M1:NH) {MF:NH} {T1 T2:List D4},Chg T1 M0 M1->Chg T2 M1 MF->(∀i∈T1++T2,i=na m 0∨i=na M0 0)->Chg [] m MF:=by
  intro M1 MF T1 T2 h1 h2 hi
  refine (hC0.weak (T:=T1++T2) (by simp)).trans ((h1.weak (T:=T1++T2) (by intro i hi _;simp[hi])).trans h2 (by intro i hi _;simp[hi])) (fun _ h _=>h) |>.weak ?_
  intro i hi' ho
  rcases hi i hi' with rfl|rfl
  ·exact W9 ho aA
  ·exact W9 (hC0.old ho) aA
 cases hD:fM c with
 |true=>
  rw[hD] at hd
  simp (disch:=first|assumption|omega|(simp only[aG]<;>omega)) only[go_sem,seval,g1,g2,g3,g4,x1,x2,c0,(hd _).wf']
  generalize hM1:hp _ 1 M0=M1
  have hC1:Chg [] M0 M1:=aR hM1 rfl
  have p0:=(hC1.get or0 (by simp)).trans r0
  have op0:=hC1.old or0
  have p1:M1.get (na M0 0)=some (.cells true [ii 0,.str [],u64 0,ii a]):=bu hM1
  have op1:am M1 (na M0 0):=bt hM1 (by omega)
  have hb1:=hb0.chg hC1 fun _ _=>by simp
  refine SZ hs hb1 (Nat.le_of_lt ha) p0 p1 op0 op1 (cc:=u8 c) ?_ ?_ ?_ ?_ ?_ ?_ ?_ ?_ ?_ ?_
  ·simp only[go_sem,seval,g1]
  ·simp only[go_sem,seval,g4]
  ·simp only[go_sem,seval,g2]
  ·simp only[go_sem,seval,g3]
  ·simp only[go_sem,seval]
  ·simp only[go_sem,seval]<;>rfl
  ·simp only[go_sem,seval,g2]
  ·simp only[go_sem,seval]
  ·intro hbn L' t' k1 k2 k3
   generalize ah L' t'=T' at k1 k2 k3
   rw[show M1.put (na m 0) (.cells true [ii 0,.str [],u64 0,ii a])=hp [(.o (na m 0),.cells true [ii 0,.str [],u64 0,ii a])] 0 M1 from by rw[←bX op0,aa]]
   change zT _ K .ret ⟨ah [] T', [],none,_⟩
   have T:fS s a=none:=xQ hbs hD hbn
   simp (disch:=first|assumption|omega) only[go_sem,seval,k1,k2,k3]
   refine hK _ _ ⟨⟨_,_,_,_,by rw[T];rfl, ?_⟩,chF M1 hC1 (aI rfl) (by simp[aC])⟩
   intro k t n e he;rw[T] at he;cases he
  ·intro n hrr hv L' t' k1 k2 k3 k4 k5 k6
   generalize ah L' t'=T' at k1 k2 k3 k4 k5 k6
   rw[←aa M1]
   change wp _ _ _ _ ⟨ah [] T', [],none,_⟩ _
   have hge:a<=aW fh s a:=kC
   have hle:aW fh s a<=s.length:=gU (Nat.le_of_lt ha)
   by_cases h48:c=48
   ·by_cases hgt:a+1<aW fh s a
    ·have T:fS s a=none:=by rw[my hbs hD,mJ hbs hD,Xb ⟨by omega,h48⟩]
     simp (disch:=first|assumption|omega|(simp only[aG]<;>omega)) only[go_sem,seval,k1,k2,k3,k4,k5,k6,p0,p1]
     refine hK _ _ ⟨⟨_,_,_,_,by rw[T];rfl, ?_⟩,chF M1 hC1 (aI rfl) (by simp[aC])⟩
     intro k t n e he;rw[T] at he;cases he
    ·have T:fS s a=some (2, [],n,aW fM s a):=by rw[my hbs hD,mJ hbs hD,Xa (by omega),hv];simp[hrr]
     simp (disch:=first|assumption|omega|(simp only[aG]<;>omega)) only[go_sem,seval,k1,k2,k3,k4,k5,k6,p0,p1,na_ne]
     refine hK _ _ ⟨⟨_,_,_,_,by rw[T];rfl, ?_⟩,chF M1 hC1 (aI rfl) (by simp[aC])⟩
     intro k t n e he;rw[T] at he;cases he
     exact ⟨rfl,rfl,rfl,by rw[hrr]⟩
   ·have T:fS s a=some (2, [],n,aW fM s a):=by rw[my hbs hD,mJ hbs hD,Xa (by omega),hv];simp[hrr]
    simp (disch:=first|assumption|omega|(simp only[aG]<;>omega)) only[go_sem,seval,k1,k2,k3,k4,k5,k6,p0,p1,na_ne]
    refine hK _ _ ⟨⟨_,_,_,_,by rw[T];rfl, ?_⟩,chF M1 hC1 (aI rfl) (by simp[aC])⟩
    intro k t n e he;rw[T] at he;cases he
    exact ⟨rfl,rfl,rfl,by rw[hrr]⟩
 |false=>
  rw[hD] at hd
  cases hL:yK c with
  |true=>
   rw[hL] at hl
   simp (disch:=first|assumption|omega|(simp only[aG]<;>omega)) only[go_sem,seval,g1,g2,g3,g4,x1,x2,c0,(hd _).wf',(hl _).wf']
   generalize hM1:hp _ 1 M0=M1
   have hC1:Chg [] M0 M1:=aR hM1 rfl
   have op0:=hC1.old or0
   have p1:M1.get (na M0 0)=some (.cells true [ii 0,.str [],u64 0,ii a]):=bu hM1
   have op1:am M1 (na M0 0):=bt hM1 (by omega)
   have hb1:=hb0.chg hC1 fun _ _=>by simp
   have p0:=(hC1.get or0 (by simp)).trans r0
   have hge:a<=aW fh s a:=kC
   have hle:aW fh s a<=s.length:=gU (Nat.le_of_lt ha)
   refine EW (a:=a) (b:=aW fh s a) hb1 hge (by simpa using hle) ?_ ?_ ?_
   ·intro K;simp (disch:=first|assumption|omega) only[go_sem,seval]
   ·intro d K hd;simp (disch:=first|assumption|omega) only[go_sem,seval]
   intro v' hv' _
   rw[HJ] at hv'
   have hbt:=hv'.bts (fun c hc=>h256 c (List.mem_of_mem_take (List.mem_of_mem_drop hc)))
   rw[←aa M1]
   have hbt:LV (hp [] 0 M1) v'= .val (.str (cut s a (aW fh s a))):=by rw[aa];exact hbt
   simp (disch:=first|assumption|omega|(simp only[aG]<;>omega)) only[go_sem,seval,g1,g2,g3,g4,hbt,p1]
   generalize hM2:hp _ 0 M1=M2
   have hC2:Chg [na M0 0] M1 M2:=by rw[←hM2];exact (aI rfl).weak (by simp[aC])
   have s0:=(hC2.get op0 (by simpa using na_ne)).trans p0
   have s1:M2.get (na M0 0)=some (.cells true [ii 1,.str (cut s a (aW fh s a)),u64 0,ii a]):=by rw[←hM2];simp (config:={maxSteps:=1000000}) (disch:=first|assumption|omega|(apply bN;omega)|(apply cG;assumption)|(simp only[aG]<;>omega)) only[go_sem,seval]
   have os0:=hC2.old op0
   have os1:=hC2.old op1
   obtain ⟨wv,M3,hw,rfl,hC3⟩:=P9 M2 (cut s a (aW fh s a))
   have y0:=(hC3.get os0 (by simp)).trans s0
   have y1:=(hC3.get os1 (by simp)).trans s1
   have oy0:=hC3.old os0
   have oy1:=hC3.old os1
   have hC13:Chg [na M0 0] M0 M3:=(hC1.weak (T:= [na M0 0]) (by simp)).trans ((hC2.weak (T:= [na M0 0]) (by simp)).trans (hC3.weak (T:= [na M0 0]) (by simp)) (fun _ h _=>h)) (fun _ h _=>h)
   have TT:fS s a=(if cut s a (aW fh s a)∈iq then some (4,cut s a (aW fh s a),0,aW fh s a) else if (cut s a (aW fh s a)).length<=16 then some (1,cut s a (aW fh s a),0,aW fh s a) else none):=by
    unfold fS;rw[hbs];simp only[hL];rfl
   by_cases hwd:cut s a (aW fh s a)∈iq
   ·rw[Xd hwd] at hw
    rw[Xb hwd] at TT
    simp (config:={maxSteps:=1000000}) (disch:=first|assumption|omega|(apply bN;omega)|(apply cG;assumption)|(simp only[aG]<;>omega)) only[go_sem,seval,hw.wf,g1,g2,g3,g4,y0,y1]
    refine hK _ _ ⟨⟨_,_,_,_,by rw[TT];rfl, ?_⟩,chF M3 hC13 (aI rfl) (by simp[aC])⟩
    intro k t n e he;rw[TT] at he;cases he
    exact ⟨rfl,rfl,rfl,rfl⟩
   ·rw[Xc hwd] at hw
    rw[Xa hwd] at TT
    by_cases h16:(cut s a (aW fh s a)).length<=16
    ·rw[Xb h16] at TT
     simp (config:={maxSteps:=1000000}) (disch:=first|assumption|omega|(apply bN;omega)|(apply cG;assumption)|(simp only[aG]<;>omega)) only[go_sem,seval,hw.wf,g1,g2,g3,g4,y0,y1]
     refine hK _ _ ⟨⟨_,_,_,_,by rw[TT];rfl, ?_⟩,chF M3 hC13 (aI rfl) (by simp[aC])⟩
     intro k t n e he;rw[TT] at he;cases he
     exact ⟨rfl,rfl,rfl,rfl⟩
    ·rw[Xa h16] at TT
     simp (config:={maxSteps:=1000000}) (disch:=first|assumption|omega|(apply bN;omega)|(apply cG;assumption)|(simp only[aG]<;>omega)) only[go_sem,seval,hw.wf,g1,g2,g3,g4,y0,y1]
     refine hK _ _ ⟨⟨_,_,_,_,by rw[TT];rfl, ?_⟩,chF M3 hC13 (aI rfl) (by simp[aC])⟩
     intro k t n e he;rw[TT] at he;cases he
  |false=>
   rw[hL] at hl
   simp (disch:=first|assumption|omega|(simp only[aG]<;>omega)) only[go_sem,seval,g1,g2,g3,g4,x1,x2,c0,(hd _).wf',(hl _).wf']
   generalize hM1:hp _ 1 M0=M1
   have hC1:Chg [] M0 M1:=aR hM1 rfl
   have p0:=(hC1.get or0 (by simp)).trans r0
   have op0:=hC1.old or0
   have p1:M1.get (na M0 0)=some (.cells true [ii 0,.str [],u64 0,ii a]):=bu hM1
   have op1:am M1 (na M0 0):=bt hM1 (by omega)
   have T:fS s a=if c∈eV then some (3, [c],0,a+1) else none:=by unfold fS;rw[hbs];simp[hL,hD]
   refine Tv (c:=c) (a:=a) (by omega) p0 p1 op0 op1 na_ne ?_ ?_ ?_ ?_ ?_ ?_ ?_ ?_
   ·simp only[go_sem,seval]<;>rfl
   ·simp only[go_sem,seval]
   ·simp only[go_sem,seval,g2]
   ·simp only[go_sem,seval,g3]
   ·simp only[go_sem,seval]
   ·simp only[go_sem,seval]
   ·intro hm L' t' m' q0 hCm k1 k2 k3
    rw[Xb hm] at T
    generalize ah L' t'=T' at k1 k2 k3
    change zT _ K .ret ⟨ah [] T', [],none,m'⟩
    simp only[go_sem,seval,k1,k2,k3,q0]
    refine hK _ _ ⟨⟨_,_,_,_,by rw[T];rfl, ?_⟩,chF M1 hC1 hCm (by simp)⟩
    intro k t n e he;rw[T] at he;cases he
    exact ⟨rfl,rfl,rfl,by omega⟩
   ·intro hm L' t' k1 k2 k3
    rw[Xa hm] at T
    generalize ah L' t'=T' at k1 k2 k3
    rw[←aa M1]
    change wp _ _ _ _ ⟨ah [] T', [],none,_⟩ _
    simp (disch:=first|assumption|omega|(simp only[aG]<;>omega)) only[go_sem,seval,k1,k2,k3,p0,p1]
    refine hK _ _ ⟨⟨_,_,_,_,by rw[T];rfl, ?_⟩,chF M1 hC1 (aI rfl) (by simp[aC])⟩
    intro k t n e he;rw[T] at he;cases he
theorem MC  {M0:NH} (hs:s.length<=16384) (h256:∀c∈s,c<256) (hb:Sl m vb 1 (qF s)) (hCm:Chg [] m M0)
 (g1:NT.get D4.e t=some vb) (g2:NT.get D4.e.a.a t=some .nils) (g3:NT.get D4.e.a.b t=some (ii ((bM s 0:Nat):Int)))
 (hbad:∀a,(dM s).2=some a->∀L t' M,Chg [] m M->NT.get D4.e.b (ah L t')=some .nils->NT.get D4.e.c (ah L t')=some (ii a)->NT.get D4.e.f (ah L t')=some (ii 2)->Q .ret ⟨ah L t', [],none,M⟩)
 (hok:∀T,dM s=(T++ [⟨5, [],0,s.length⟩],none)->∀L t' M u,Chg [] m M->aY m M u 4 (T.map Tok.l)->NT.get D4.e (ah L t')=some vb->NT.get D4.e.a.a (ah L t')=some u->Q (.exit 0) ⟨ah L t', [],none,M⟩):
 W Tryz.prog S0 none tN.loop ⟨t, [],none,M0⟩ Q:=by
 have hsk0:bM s 0<=s.length:=lW (Nat.zero_le _)
 refine W.loop (fun k d=>∃t M i L u,d=⟨t, [],none,M⟩/\NT.get D4.e t=some vb/\NT.get D4.e.a.a t=some u/\NT.get D4.e.a.b t=some (ii (i:Nat))/\i<=s.length/\s.length<=i+k/\Chg [] m M/\aY m M u 4 (L.map Tok.l)/\dM s=(L++(dy s (k+1) i).1,(dy s (k+1) i).2)) ?_ s.length _
  ⟨_,M0,bM s 0, [],.nils,rfl,g1,g2,g3,hsk0,by omega,hCm,aY.nil,rfl⟩
 rintro k d ⟨t,M,i,L,u,rfl,g1,g2,g3,hi,hik,hC,hu,hT⟩
 apply ax
 unfold tN
 change wp _ _ _ _ ⟨ah [] t, [],none,M⟩ _
 rw[←aa M]
 have hLl:L.length<=s.length+1:=by
  have h:=nX s (s.length+1) (bM s 0)
  have h2:(dM s).1.length=_:=congrArg (fun x=>x.1.length) hT
  rw[List.length_append] at h2
  have h3:(dM s).1.length<=s.length+1:=h
  omega
 have hbM:=hb.chg hC fun _ _=>by simp
 have hlen:=hbM.len
 rw[show (qF s).length=s.length by simp] at hlen
 by_cases hlt:i<s.length
 ·obtain ⟨k,rfl⟩:∃k',k=k'+1:=⟨k - 1,by omega⟩
  have hTs:dy s (k+1+1) i=(match fS s i with
   |none=>([],some i)
   |some (kd,t,n,e)=>(⟨kd,t,n,i⟩::(dy s (k+1) (bM s e)).1,(dy s (k+1) (bM s e)).2)):=by
   rw[dy,Xb hlt]
  obtain ⟨v,M2,hr,⟨k0,t0,n0,p,rfl,htk⟩,hC2⟩:=MD (hp [] 0 M) (by omega) h256 (by rw[aa];exact hbM) hlt
  have hC2:Chg [] M M2:=by rw[aa] at hC2;exact hC2
  cases hk:fS s i with
  |none=>
   rw[hk] at hr
   have hr:rT 66 [vb,ii i] (hp [] 0 M) (.tup [.agg [ii k0,.str t0,.int .u64 (.lit n0),ii i],ii p,ii 2]) M2:=hr
   rw[hTs,hk] at hT
   simp (disch:=first|assumption|omega|(simp only[aG]<;>omega)) only[go_sem,seval,g1,g2,g3,hlen,hr.wf]
   refine hbad i (by rw[hT]) _ _ _ ((hC.tr hC2).trans (aI rfl) (by simp[aC])) ?_ ?_ ?_
   ·simp only[go_sem,seval]
   ·simp only[go_sem,seval]
   ·simp only[go_sem,seval]
  |some x=>
   obtain ⟨kd,tx,n,e⟩:=x
   rw[hk] at hr
   obtain ⟨e0,e1,e2,e3⟩:=htk kd tx n e hk
   rw[e0,e1,e2,e3] at hr
   have hr:rT 66 [vb,ii i] (hp [] 0 M) (.tup [.agg [ii kd,.str tx,.int .u64 (.lit (n:Int)),ii i],ii e,ii 0]) M2:=hr
   obtain ⟨l1,l2⟩:=H5 hk
   simp (disch:=first|assumption|omega|(simp only[aG]<;>omega)) only[go_sem,seval,g1,g2,g3,hlen,hr.wf]
   generalize hM3:hp _ 2 M2=M3
   have hC3:Chg [] M2 M3:=aR hM3 rfl
   have n1:M3.get (na M2 1)=some (.cells true (Tok.l ⟨kd,tx,n,i⟩)):=bu hM3
   have on1:am M3 (na M2 1):=bt hM3 (by omega)
   have hCC:Chg [] m M3:=hC.trans (hC2.tr hC3) (by simp)
   refine xh (hu.chg (hC2.trans hC3 fun _ h _=>h) fun _ _=>by simp) n1 on1 rfl (fun i hi=>hCC.old hi) (by simp;omega) (by simp;omega) ?_
   intro u' M5 hu' hC5
   have hC6:Chg [] m M5:=(hCC.weak (T:=ids u) (by simp)).trans hC5 (fun _ h _=>h) |>.weak (by intro j hj ho;exact W9 ho (hu.new j hj))
   have hsk:rT 65 [vb,ii e] (hp [] 0 M5) (ii ((bM s e:Nat):Int)) (hp [] 0 M5):=HQ _ (by omega) (by rw[aa];exact hb.chg hC6 fun _ _=>by simp) l2
   simp only[go_sem,seval,g1,g2,g3,hsk.wf']
   have hge:e<=bM s e:=wY
   refine ⟨k,by omega,_,M5,bM s e,L++ [⟨kd,tx,n,i⟩],u',by rw[aa], ?_, ?_, ?_,lW l2,by omega,hC6, ?_, ?_⟩
   ·simp only[go_sem,seval,g1]
   ·simp only[go_sem,seval]
   ·simp only[go_sem,seval]
   ·rw[List.map_append];exact hu'
   ·rw[hT,hTs,hk];simp
 ·have hTs:dy s (k+1) i=([⟨5, [],0,s.length⟩],none):=by rw[dy,Xa hlt]
  rw[hTs] at hT
  simp (disch:=first|assumption|omega) only[go_sem,seval,g1,g2,g3,hlen]
  rw[aa]
  refine hok L hT _ _ _ u hC hu ?_ ?_
  ·simp only[go_sem,seval,g1]
  ·simp only[go_sem,seval,g2]
theorem KW (m:NH) {b:List Nat} (hv:Sl m v 1 (qF b)) (hb:∀c∈b,c<256):
 ∃r m',rT 40 [v] m r m'/\(if 16384<b.length then r= .tup [.nils,ii 0,ii 3] else (match (dM b).2 with|some a=>r= .tup [.nils,ii a,ii 2]|none=>∃u,r= .tup [u,ii b.length,ii 0]/\aY m m' u 4 ((dM b).1.map Tok.l)))/\Chg [] m m':=by
 refine WF.ex fun K hK=> ?_
 refine WF.of_wpG (fun _=>rfl) BX (L:= [(.e,v)]) rfl ?_
 unfold Rt
 have hlen:=hv.len
 rw[show (qF b).length=b.length by simp] at hlen
 by_cases h1:16384<b.length
 ·simp (disch:=first|assumption|omega) only[go_sem,seval,hlen,aa]
  refine hK _ _ ⟨by rw[Xb h1],Chg.refl m⟩
 ·have hs0:rT 65 [v,ii 0] m (ii ((bM b 0:Nat):Int)) m:=HQ m (by omega) hv (a:=0) (Nat.zero_le _)
  simp (disch:=first|assumption|omega) only[go_sem,seval,hlen,aa,hs0.wf']
  refine MC (m:=m) (s:=b) (vb:=v) (by omega) hb hv (Chg.refl m) ?_ ?_ ?_ ?_ ?_
  ·simp only[go_sem,seval]
  ·simp only[go_sem,seval]
  ·simp only[go_sem,seval]
  ·intro a he L t M hC g1 g2 g3
   generalize ah L t=T at g1 g2 g3
   change zT _ K .ret ⟨ah [] T, [],none,M⟩
   simp only[go_sem,seval,g1,g2,g3]
   refine hK _ _ ⟨by rw[Xa h1,he],hC⟩
  ·intro Tl hT L t M u hC hu g1 g2
   generalize ah L t=T at g1 g2
   change wp _ _ _ _ ⟨ah [] T, [],none,M⟩ _
   rw[←aa M]
   have hlen:=(hv.chg hC fun _ _=>by simp).len
   rw[show (qF b).length=b.length by simp] at hlen
   have hTl:Tl.length<=b.length+1:=by
    have h:=nX b (b.length+1) (bM b 0)
    have h2:(dM b).1.length=_:=congrArg (fun x=>x.1.length) hT
    rw[List.length_append] at h2
    have h3:(dM b).1.length<=b.length+1:=h
    omega
   simp (disch:=first|assumption|omega|(simp only[aG]<;>omega)) only[go_sem,seval,g1,g2,hlen]
   generalize hM3:hp _ 1 M=M3
   have hC3:Chg [] M M3:=aR hM3 rfl
   have n1:M3.get (na M 0)=some (.cells true (Tok.l ⟨5, [],0,b.length⟩)):=bu hM3
   have on1:am M3 (na M 0):=bt hM3 (by omega)
   have hCC:Chg [] m M3:=hC.tr hC3
   refine xh (hu.chg hC3 fun _ _=>by simp) n1 on1 rfl (fun i hi=>hCC.old hi) (by simp;omega) (by simp;omega) ?_
   intro u' M5 hu' hC5
   have hC6:Chg [] m M5:=(hCC.weak (T:=ids u) (by simp)).trans hC5 (fun _ h _=>h) |>.weak (by intro j hj ho;exact W9 ho (hu.new j hj))
   have hlen5:=(hv.chg hC6 fun _ _=>by simp).len
   rw[show (qF b).length=b.length by simp] at hlen5
   simp only[go_sem,seval,g1,g2,hlen5]
   rw[aa]
   refine hK _ _ ⟨?_,hC6⟩
   rw[Xa h1,hT]
   exact ⟨u',rfl,by rw[List.map_append];exact hu'⟩
structure Rs where
 (a e b:Nat)
variable {E P:Rs->Ex×Rs} {B:Rs->List Stm×Rs} {S:Rs->Stm×Rs}
def aK (L:List Tok) (a:Nat):Tok:=(L[a]?).getD ⟨0, [],0,0⟩
def bD (e:Nat) (s:Rs):Rs:=if s.e=0 then ⟨s.a,e,s.a⟩ else s
def ak (s:Rs):Rs:=⟨s.a+1,s.e,s.b⟩
def sN:List Nat->Nat
 |c::_=>if yK c then 4 else 3
 | []=>3
def aZ (L:List Tok) (w:List Nat) (s:Rs):Bool:=decide (s.e=0/\(aK L s.a).k=sN w/\(aK L s.a).t=w)
def a9 (L:List Tok) (w:List Nat) (s:Rs):Rs:=if aZ L w s then ak s else bD 2 s
def bh (L:List Tok) (s:Rs):List Nat×Rs:=if s.e≠0∨(aK L s.a).k≠1 then ([],bD 2 s) else ((aK L s.a).t,ak s)
structure RD (m:NH) (r:D4) (vl:NV) (s:Rs) (rest:List NV):Prop where
 g:m.get r=some (.cells true (vl::ii s.a::ii s.e::ii s.b::rest))
 o:am m r
structure RC (m0:NH) (L:List Tok) (vl:NV) (r:D4):Prop where
 sl:Sl m0 vl 4 (L.map Tok.l)
 len:L.length<=20000
 no:¬am m0 r
theorem RD.chg  {vl:NV} {s:Rs} {rest:List NV} {S:List D4} (h:RD m r vl s rest) (hC:Chg S m m') (hr:r∉S):RD m' r vl s rest:=⟨(hC.get h.o hr).trans h.g,hC.old h.o⟩
theorem RC.chg  {m0:NH} {vl:NV} (h:RC m0 L vl r) (h0:Chg [] m0 m) (hC:Chg [r] m m'):Chg [] m0 m':=h0.trans hC fun i hi ho=>by
 have hi:=one hi;subst hi;exact W9 ho h.no
theorem bR  {s:Rs} (h:aZ L w s=true):s.e=0/\s.a<L.length:=by
 obtain ⟨h1,h2,h3⟩:=of_decide_eq_true h
 refine ⟨h1, ?_⟩
 rcases Nat.lt_or_ge s.a L.length with q|q
 ·exact q
 ·rw[aK,List.getElem?_eq_none q] at h2
  have:sN w≠0:=by unfold sN;split;split<;>omega;omega
  exact W9 h2.symm this
theorem rZ {T:Tok}:T.l[0]? =some (ii T.k):=_root_.id rfl
theorem yJ {T:Tok}:T.l[1]? =some (.str T.t):=_root_.id rfl
theorem Vh {T:Tok}:T.l[2]? =some (u64 T.n):=_root_.id rfl
section
variable {m0 m:NH} {L:List Tok} {vl:NV} {r:D4} {s:Rs} {rest:List NV}
theorem i7 (hd:RD m r vl s rest) (e:Nat):∃m',rT 69 [.ptr r 0,ii e] m (.tup []) m'/\RD m' r vl (bD e s) rest/\Chg [r] m m':=by
 refine WF.ex1 fun K hK=> ?_
 refine WF.of_wpG (fun _=>rfl) EG (L:= [(.a .e,ii e),(.e,.ptr r 0)]) rfl ?_
 unfold Qh
 obtain ⟨g,o⟩:=hd
 by_cases h:s.e=0
 ·rw[h] at g
  simp (disch:=first|assumption|omega|(simp only[aG]<;>omega)) only[go_sem,seval,g]
  refine hK _ ⟨⟨?_,cG o⟩,(aI rfl).weak (by intro i hi _;simpa [aC] using hi)⟩
  rw[bD,Xb h]
  exact (aE o).trans aq
 ·have hd:decide ((s.e:Int)=0)=false:=Xc (by omega)
  simp only[go_sem,seval,g,hd,aa]
  refine hK _ ⟨⟨?_,o⟩,(Chg.refl m).weak (by simp)⟩
  rw[bD,Xa h];exact g
theorem jQ (hc:RC m0 L vl r) (h0:Chg [] m0 m) (hd:RD m r vl s rest):∃m',rT 41 [.ptr r 0] m (.agg (aK L s.a).l) m'/\Chg [] m m':=by
 refine WF.ex1 fun K hK=> ?_
 refine WF.of_wpG (fun _=>rfl) Et (L:= [(.e,.ptr r 0)]) rfl ?_
 unfold Px
 obtain ⟨g,o⟩:=hd
 have hs:=hc.sl.chg h0 fun _ _=>by simp
 have hlen:=hs.len
 have hll:=hc.len
 rw[List.length_map] at hlen
 have hvs:bg 4 vl vl=true:=hs.same
 by_cases h:s.a<L.length
 ·obtain ⟨id,off,w,c,a1,a2,a3,a4,a5⟩:=hs.at s.a (by simpa using h)
  rw[List.getElem_map] at a5
  have hl:(Tok.l L[s.a]).length=4:=rfl
  have hl':(Tok.l L[s.a]).take 4=Tok.l L[s.a]:=rfl
  simp (disch:=first|assumption|omega|(simp only[aG]<;>omega)) only[go_sem,seval,g,hlen,a1,a2,a5,hl,hl',hvs]
  have e:aK L s.a=L[s.a]:=by rw[aK,List.getElem?_eq_getElem h];rfl
  rw[e] at hK
  exact hK _ (aI rfl)
 ·have e:aK L s.a=⟨0, [],0,0⟩:=by rw[aK,List.getElem?_eq_none (by omega)];rfl
  rw[e] at hK
  simp (disch:=first|assumption|omega|(simp only[aG]<;>omega)) only[go_sem,seval,g,hlen,hvs]
  exact hK _ (aI rfl)
theorem dS (hc:RC m0 L vl r) (h0:Chg [] m0 m) (hd:RD m r vl s rest) (w:List Nat) (hw:w≠ []) (ha:s.a<=100000):∃m',rT 67 [.ptr r 0,.str w] m (.bool (aZ L w s)) m'/\RD m' r vl (if aZ L w s then ak s else s) rest/\Chg [r] m m':=by
 refine WF.ex1 fun K hK=> ?_
 refine WF.of_wpG (fun _=>rfl) E7 (L:= [(.a .e,.str w),(.e,.ptr r 0)]) rfl ?_
 unfold Q1
 simp only[go_sem,seval,aa]
 refine WF.use1H (jQ hc h0 hd) ?_
 intro m1 hC1
 have hd1:=hd.chg hC1 (by simp)
 generalize hT:aK L s.a=T
 obtain ⟨c,w',rfl⟩:=List.exists_cons_of_ne_nil hw
 have hw0:(c::w')[0]? =some c:=rfl
 obtain ⟨g,o⟩:=hd1
 have hkw:sN (c::w')=if yK c then 4 else 3:=rfl
 have hl:(Tok.l T).length=4:=rfl
 have hlr:=rv
 have yes:∀M,aZ L (c::w') s=true->Chg [r] m M->M.get r=some (.cells true (vl::ii (s.a+1:Nat)::ii s.e::ii s.b::rest))->am M r->K (.bool true) M:=fun M h1 h2 h3 h4=>by
  rw[h1,Xb rfl] at hK
  exact hK M ⟨⟨h3,h4⟩,h2⟩
 have no:∀M,aZ L (c::w') s=false->Chg [] m M->K (.bool false) M:=fun M h1 h2=>by
  rw[h1,Xa (by simp)] at hK
  exact hK M ⟨hd.chg h2 (by simp),h2.weak (by simp)⟩
 have tb:∀k,sN (c::w')=k->aZ L (c::w') s=decide (s.e=0/\T.k=k/\T.t=c::w'):=fun k hk=>by rw[aZ,hT,hk]
 have hC2:∀l,aC l= []->Chg [] m (hp l 1 m1):=fun l e=>hC1.trans (aI e) (by simp)
 cases hlt:yK c with
 |true=>
  have tb:=tb 4 (by rw[hkw,hlt];rfl)
  by_cases he:s.e=0
  ·by_cases hk:T.k=4
   ·by_cases ht:T.t=c::w'
    ·simp (disch:=first|assumption|omega|(simp only[aG]<;>omega)) only[go_sem,seval,hw0,hl,rZ,yJ,(hlr _ _).wf',hlt,g]
     refine yes _ (by rw[tb];simp[he,hk,ht]) ?_ ((aE o).trans aq) (cG o)
     exact (hC1.weak (by simp)).trans (aI rfl) (by simp[aC])
    ·simp (disch:=first|assumption|omega|(simp only[aG]<;>omega)) only[go_sem,seval,hw0,hl,rZ,yJ,(hlr _ _).wf',hlt,g]
     refine no _ (by rw[tb];simp[ht]) ?_;exact hC2 _ rfl
   ·simp (disch:=first|assumption|omega|(simp only[aG]<;>omega)) only[go_sem,seval,hw0,hl,rZ,yJ,(hlr _ _).wf',hlt,g]
    refine no _ (by rw[tb];simp[hk]) ?_;exact hC2 _ rfl
  ·simp (disch:=first|assumption|omega|(simp only[aG]<;>omega)) only[go_sem,seval,hw0,hl,rZ,yJ,(hlr _ _).wf',hlt,g]
   refine no _ (by rw[tb];simp[he]) ?_;exact hC2 _ rfl
 |false=>
  have tb:=tb 3 (by rw[hkw,hlt];rfl)
  by_cases he:s.e=0
  ·by_cases hk:T.k=3
   ·by_cases ht:T.t=c::w'
    ·simp (disch:=first|assumption|omega|(simp only[aG]<;>omega)) only[go_sem,seval,hw0,hl,rZ,yJ,(hlr _ _).wf',hlt,g]
     refine yes _ (by rw[tb];simp[he,hk,ht]) ?_ ((aE o).trans aq) (cG o)
     exact (hC1.weak (by simp)).trans (aI rfl) (by simp[aC])
    ·simp (disch:=first|assumption|omega|(simp only[aG]<;>omega)) only[go_sem,seval,hw0,hl,rZ,yJ,(hlr _ _).wf',hlt,g]
     refine no _ (by rw[tb];simp[ht]) ?_;exact hC2 _ rfl
   ·simp (disch:=first|assumption|omega|(simp only[aG]<;>omega)) only[go_sem,seval,hw0,hl,rZ,yJ,(hlr _ _).wf',hlt,g]
    refine no _ (by rw[tb];simp[hk]) ?_;exact hC2 _ rfl
  ·simp (disch:=first|assumption|omega|(simp only[aG]<;>omega)) only[go_sem,seval,hw0,hl,rZ,yJ,(hlr _ _).wf',hlt,g]
   refine no _ (by rw[tb];simp[he]) ?_;exact hC2 _ rfl
theorem iw (hc:RC m0 L vl r) (h0:Chg [] m0 m) (hd:RD m r vl s rest) (w:List Nat) (hw:w≠ []) (ha:s.a<=100000):∃m',rT 70 [.ptr r 0,.str w] m (.tup []) m'/\RD m' r vl (a9 L w s) rest/\Chg [r] m m':=by
 refine WF.ex1 fun K hK=> ?_
 refine WF.of_wpG (fun _=>rfl) DW (L:= [(.a .e,.str w),(.e,.ptr r 0)]) rfl ?_
 unfold PX
 simp only[go_sem,seval,aa]
 refine WF.use1 (dS hc h0 hd w hw ha) ?_
 rintro m1 ⟨hd1,hC1⟩
 unfold a9 at hK
 cases hb:aZ L w s with
 |true=>
  rw[hb] at hd1 hK
  simp only[go_sem,seval]
  exact hK _ ⟨hd1,hC1⟩
 |false=>
  rw[hb] at hd1 hK
  simp only[go_sem,seval]
  refine WF.use1 (i7 (s:=s) hd1 2) ?_
  rintro m2 ⟨hd2,hC2⟩
  simp only[go_sem,seval]
  exact hK _ ⟨hd2,hC1.trans hC2 fun _ h _=>h⟩
theorem nT (hc:RC m0 L vl r) (h0:Chg [] m0 m) (hd:RD m r vl s rest) (ha:s.a<=100000):∃m',rT 68 [.ptr r 0] m (.str (bh L s).1) m'/\RD m' r vl (bh L s).2 rest/\Chg [r] m m':=by
 refine WF.ex1 fun K hK=> ?_
 refine WF.of_wpG (fun _=>rfl) E3 (L:= [(.e,.ptr r 0)]) rfl ?_
 unfold RF
 simp only[go_sem,seval,aa]
 refine WF.use1H (jQ hc h0 hd) ?_
 intro m1 hC1
 have hd1:=hd.chg hC1 (by simp)
 have hl:(Tok.l (aK L s.a)).length=4:=rfl
 unfold bh at hK
 generalize aK L s.a=T at hK hl
 obtain ⟨g,o⟩:=hd1
 have bad:(s.e≠0∨T.k≠1)->∀M,Chg [] m M->∃m',rT 69 [.ptr r 0,ii 2] M (.tup []) m'/\K (.str []) m':=fun h M hC=>by
  rw[Xb h] at hK
  obtain ⟨m2,h1,hd2,hC2⟩:=i7 (hd.chg hC (by simp)) 2
  exact ⟨m2,h1,hK _ ⟨hd2,(hC.weak (by simp)).trans hC2 fun _ h _=>h⟩⟩
 by_cases he:s.e=0
 ·by_cases hk:T.k=1
  ·rw[Xa (by omega)] at hK
   simp (disch:=first|assumption|omega|(simp only[aG]<;>omega)) only[go_sem,seval,hl,rZ,yJ,g]
   refine hK _ ⟨⟨(aE o).trans aq,cG o⟩,(hC1.weak (by simp)).trans (aI rfl) (by simp[aC])⟩
  ·simp (disch:=first|assumption|omega|(simp only[aG]<;>omega)) only[go_sem,seval,hl,rZ,yJ,g]
   refine WF.use1 (bad (Or.inr hk) _ (ge hC1 rfl)) ?_
   intro M h
   simp only[go_sem,seval]
   exact h
 ·simp (disch:=first|assumption|omega|(simp only[aG]<;>omega)) only[go_sem,seval,hl,rZ,yJ,g]
  refine WF.use1 (bad (Or.inl he) _ (ge hC1 rfl)) ?_
  intro M h
  simp only[go_sem,seval]
  exact h
end
abbrev FP (n:Nat):Ex:= .mk 0 n 0 [] []
abbrev s7 (s:List Nat):Ex:= .mk 1 0 0 s []
abbrev BK (o:Nat) (x y:Ex):Ex:= .mk 2 0 o [] [x,y]
mutual
def Ex.depth:Ex->Nat
 | .mk _ _ _ _ ks=>dJ ks+1
def dJ:List Ex->Nat
 | []=>0
 |x::xs=>max x.depth (dJ xs)
end
theorem si (a b:List Ex):dJ (a++b)=max (dJ a) (dJ b):=by
 induction a with
 |nil=>simp[dJ]
 |cons x a ih=>rw[List.cons_append,dJ,dJ,ih];omega
section
variable (L:List Tok)
def db (E:Rs->Ex×Rs) (d:Nat) (s:Rs):Ex×Rs:=
 if s.e≠0 then (zE,s) else if 29<d then (zE,bD 11 s) else if (aK L s.a).k=2 then (FP (aK L s.a).n,ak s) else if (aK L s.a).k=1 then (s7 (aK L s.a).t,ak s)
 else if aZ L [40] s=true then ((E (ak s)).1,a9 L [41] (E (ak s)).2) else (zE,bD 2 s)
def i9 (T:Tok):Nat:=if T.k=3/\T.t.length=1 then T.t.headD 0 else 0
def zO (o:Nat):Bool:=decide (o=43∨o=45∨o=42∨o=38∨o=61∨o=60)
def eQ (P:Rs->Ex×Rs):Nat->Ex->Rs->Ex×Rs
 |0,x,s=>(x,s)
 |f+1,x,s=>if s.e≠0 then (x,s) else if zO (i9 (aK L s.a))=false then (x,s) else
  if (P (ak s)).2.e≠0 then (x,(P (ak s)).2) else
   eQ P f (BK (i9 (aK L s.a)) x (P (ak s)).1) (if 30<(BK (i9 (aK L s.a)) x (P (ak s)).1).depth then bD 11 (P (ak s)).2 else (P (ak s)).2)
def jA (E:Rs->Ex×Rs) (d:Nat) (s:Rs):Ex×Rs:=eQ L (db L E d) (L.length+1) (db L E d s).1 (db L E d s).2
def jD:Nat->Rs->Ex×Rs
 |0,s=>jA L (fun s=>(zE,s)) 30 s
 |n+1,s=>jA L (jD n) (29 - n) s
end
structure St (L:List Tok) (s s':Rs):Prop where
 le:s.a<=s'.a
 lim:s.a<=L.length->s'.a<=L.length
 err:s.e≠0->s'=s
 lim2:∀{N:Nat},(∀a,1<=(aK L a).k->(aK L a).k<=4->a<N)->s.a<=N->s.b<=N->s'.a<=N/\s'.b<=N
theorem St.refl (L:List Tok) (s:Rs):St L s s:=⟨Nat.le_refl _,fun h=>h,fun _=>rfl,fun _ h1 h2=>⟨h1,h2⟩⟩
theorem St.trans  {a b c:Rs} (h:St L a b) (h':St L b c):St L a c:=⟨Nat.le_trans h.le h'.le,fun q=>h'.lim (h.lim q),fun q=>by have:=h.err q;subst this;exact h'.err q,fun hN h1 h2=>let ⟨q1,q2⟩:=h.lim2 hN h1 h2;h'.lim2 hN q1 q2⟩
theorem St.zero  {s s':Rs} (h:St L s s') (e:s'.e=0):s.e=0:=by
 rcases Nat.eq_zero_or_pos s.e with q|q
 ·exact q
 ·have:=h.err (by omega);subst this;exact e
theorem cL (L:List Tok) (e:Nat) (s:Rs):St L s (bD e s):=by
 unfold bD
 split
 ·exact ⟨Nat.le_refl _,fun h=>h,fun h=>W9 ‹_› h,fun _ h1 _=>⟨h1,h1⟩⟩
 ·exact St.refl L s
theorem jj  {s:Rs} (h:s.a<L.length) (he:s.e=0) (hk:1<=(aK L s.a).k/\(aK L s.a).k<=4):St L s (ak s):=⟨Nat.le_succ _,fun _=>h,fun q=>W9 he q,fun hN _ h2=>⟨hN _ hk.1 hk.2,h2⟩⟩
theorem fi  {s:Rs} (h:aZ L w s=true):St L s (ak s):=by
 obtain ⟨h1,h2,h3⟩:=of_decide_eq_true h
 refine jj (bR h).2 h1 ?_
 rw[h2]
 unfold sN
 split
 ·split<;>omega
 ·omega
theorem nP  (h:(aK L a).k≠0):a<L.length:=by
 rcases Nat.lt_or_ge a L.length with q|q
 ·exact q
 ·rw[aK,List.getElem?_eq_none q] at h;exact W9 rfl h
theorem cr (L:List Tok) (w:List Nat) (s:Rs):St L s (a9 L w s):=by
 unfold a9
 split
 ·rename_i h;exact fi h
 ·exact cL _ _ _
theorem cX (L:List Tok) (s:Rs):St L s (bh L s).2:=by
 unfold bh
 split
 ·exact cL _ _ _
 ·rename_i h
  exact jj (nP (by omega)) (by omega) (by omega)
theorem iX  (hE:∀s,St L s (E s).2) (s:Rs):St L s (db L E d s).2:=by
 unfold db
 split
 ·exact St.refl _ _
 ·split
  ·exact cL _ _ _
  ·split
   ·exact jj (nP (by omega)) (by omega) (by omega)
   ·split
    ·exact jj (nP (by omega)) (by omega) (by omega)
    ·split
     ·rename_i h;exact ((fi h).trans (hE _)).trans (cr _ _ _)
     ·exact cL _ _ _
theorem ug  (h:zO (i9 (aK L a))=true):a<L.length:=by
 refine nP fun q=> ?_
 unfold i9 at h
 rw[Xa (by omega)] at h
 exact W9 h (by decide)
theorem QZ  (h:zO (i9 (aK L a))=true):1<=(aK L a).k/\(aK L a).k<=4:=by
 unfold i9 at h
 by_cases q:(aK L a).k=3/\(aK L a).t.length=1
 ·omega
 ·rw[Xa q] at h;exact W9 h (by decide)
theorem mh  (hP:∀s,St L s (P s).2):∀(f:Nat) (x:Ex) (s:Rs),St L s (eQ L P f x s).2:=by
 intro f
 induction f with
 |zero=>intro x s;exact St.refl _ _
 |succ f ih=>
  intro x s
  rw[eQ]
  split
  ·exact St.refl _ _
  ·split
   ·exact St.refl _ _
   ·rename_i h1 h2
    have h3:=(jj (ug (by simpa using h2)) (by omega:s.e=0) (QZ (by simpa using h2))).trans (hP (ak s))
    split
    ·exact h3
    ·refine (h3.trans ?_).trans (ih _ _)
     split
     ·exact cL _ _ _
     ·exact St.refl _ _
theorem x9  (hE:∀s,St L s (E s).2) (s:Rs):St L s (jA L E d s).2:=(iX hE s).trans (mh (iX hE) _ _ _)
theorem cQ (L:List Tok):∀(n:Nat) (s:Rs),St L s (jD L n s).2:=by
 intro n
 induction n with
 |zero=>exact fun s=>x9 (fun s=>St.refl _ s) s
 |succ n ih=>exact fun s=>x9 ih s
def Hu (E:Rs->Ex×Rs):Prop:=∀s,(E s).2.e=0->(E s).1.sz+s.a<=(E s).2.a
theorem tJ  (hS:∀s,St L s (E s).2) (hE:Hu E):Hu (db L E d):=by
 intro s
 unfold db
 have hf:∀e,e≠0->(bD e s).e≠0:=fun e he=>by unfold bD;split;exact he;assumption
 split
 ·intro h;exact W9 h ‹_›
 ·split
  ·intro h;exact W9 h (hf 11 (by omega))
  ·split
   ·intro _;simp[Ex.sz,kS,ak];omega
   ·split
    ·intro _;simp[Ex.sz,kS,ak];omega
    ·split
     ·intro h
      have h1:=cr L [41] (E (ak s)).2
      have h2:=hE (ak s) (h1.zero h)
      have h3:=h1.le
      have h4:(ak s).a=s.a+1:=rfl
      dsimp only at h ⊢
      omega
     ·intro h;exact W9 h (hf 2 (by omega))
theorem NN  (hS:∀s,St L s (P s).2) (hP:Hu P):∀(f:Nat) (x:Ex) (s:Rs) (a0:Nat),(s.e=0->x.sz+a0<=s.a)->(eQ L P f x s).2.e=0->(eQ L P f x s).1.sz+a0<=(eQ L P f x s).2.a:=by
 intro f
 induction f with
 |zero=>intro x s a0 h h2;exact h h2
 |succ f ih=>
  intro x s a0 h
  rw[eQ]
  split
  ·intro h2;exact W9 h2 ‹_›
  ·split
   ·intro h2;exact h h2
   ·split
    ·intro h2;exact W9 h2 ‹_›
    ·rename_i h1 h2 h3
     refine ih _ _ a0 fun h4=> ?_
     have h5:=hP (ak s) (by omega)
     have h6:=h (by omega)
     have h7:(ak s).a=s.a+1:=rfl
     have h8:(BK (i9 (aK L s.a)) x (P (ak s)).1).sz=1+(x.sz+((P (ak s)).1.sz+0)):=by simp[Ex.sz,kS]
     rw[h8]
     split
     ·unfold bD;split
      ·show _+a0<=(P (ak s)).2.a;omega
      ·omega
     ·omega
theorem xe  (hS:∀s,St L s (E s).2) (hP:Hu (db L E d)):Hu (jA L E d):=by
 intro s h
 exact NN (iX hS) hP _ _ _ s.a (fun h=>hP s h) h
theorem qg (L:List Tok) (E:Rs->Ex×Rs):Hu (db L E 30):=by
 intro s
 unfold db
 split
 ·intro h;exact W9 h ‹_›
 ·rw[Xb (by omega)]
  intro h;unfold bD at h;split at h
  ·exact W9 h (by show (11:Nat)≠0;omega)
  ·exact W9 h ‹_›
theorem tU (L:List Tok):∀n:Nat,Hu (jD L n):=by
 intro n
 induction n with
 |zero=>exact xe (fun s=>St.refl _ s) (qg L _)
 |succ n ih=>exact xe (cQ L n) (tJ (cQ L n) ih)
abbrev pX (m:NH):D4->Prop:=fun i=>¬am m i
theorem RE.chg  {c:List NV} {S:List D4} (h:RE m (pX mc) x c) (hC:Chg S m m') (hS:∀i∈S,am mc i):RE m' (pX mc) x c:=h.stays (bz.of hC fun i hi hs=>hi (hS i hs))
theorem RS.chg  {x:Stm} {c:List NV} {S:List D4} (h:RS m (pX mc) x c) (hC:Chg S m m') (hS:∀i∈S,am mc i):RS m' (pX mc) x c:=h.stays (bz.of hC fun i hi hs=>hi (hS i hs))
theorem RE.new  {mb:NH} {c:List NV} (h:RE m (pX mc) x c) (hC:∀i,am mb i->am mc i):RE m (pX mb) x c:=h.weak fun i hi ho=>hi (hC i ho)
theorem RS.new  {mb:NH} {x:Stm} {c:List NV} (h:RS m (pX mc) x c) (hC:∀i,am mb i->am mc i):RS m (pX mb) x c:=h.weak fun i hi ho=>hi (hC i ho)
theorem Sf (m:NH) (T:D4->Prop) (n:Nat):RE m T (FP n) ((FP n).l .nils):=G1 m T 0 n 0 []
theorem NI (m:NH) (T:D4->Prop) (s:List Nat):RE m T (s7 s) ((s7 s).l .nils):=G1 m T 1 0 0 s
def VG (x:Ex):Prop:=∀{m0 m:NH} {T:D4->Prop} {c:List NV},RE m0 T x c->bz T m0 m->x.sz<=100000000->∃m',rT 153 [.agg c] m (ii x.depth) m'/\Chg [] m m'
theorem O2:∀x:Ex,x.depth<=x.sz:=by
 apply Ex.ind
 intro k n o s ks ih
 rw[Ex.depth,Ex.sz]
 have:∀ks:List Ex,(∀x∈ks,x.depth<=x.sz)->dJ ks<=kS ks:=by
  intro ks
  induction ks with
  |nil=>intro _;simp[dJ]
  |cons x xs ih=>
   intro h
   have h1:=h x (List.mem_cons_self ..)
   have h2:=ih fun y hy=>h y (List.mem_cons_of_mem _ hy)
   rw[dJ,kS];omega
 have:=this ks ih
 omega
theorem Lz {l:List Ex} (hx:x∈l):x.sz<=kS l:=by
 induction l with
 |nil=>simp at hx
 |cons a l ih=>
  rw[kS]
  rcases List.mem_cons.mp hx with rfl|hx
  ·omega
  ·have:=ih hx;omega
theorem Mt:∀x:Ex,VG x:=by
 apply Ex.ind
 intro k n o s ks ih m0 m T c hR hst hsz
 obtain ⟨vk,C,rfl,hS⟩:=hR.inv
 rw[Ex.sz] at hsz
 refine WF.ex1 fun K hK=> ?_
 refine WF.of_wpG (fun _=>rfl) wA (L:= [(.e,.agg [ii k,u64 n,u8 o,.str s,vk])]) rfl ?_
 unfold Ht
 simp only[go_sem,seval]
 generalize hM1:hp _ 1 m=M1
 have hC1:Chg [] m M1:=aR hM1 rfl
 have hg1:M1.get (na m 0)=some (.cells true [ii k,u64 n,u8 o,.str s,vk]):=bu hM1
 have ho1:am M1 (na m 0):=bt hM1 (by omega)
 have hls:=uv ks
 refine W.loop (fun j d=>∃t M i,d=⟨t, [],none,M⟩/\NT.get D4.e.a t=some (.ptr (na m 0) 0)/\NT.get D4.e.c t=some (ii (dJ (ks.take i)))/\NT.get D4.e.f t=some (ii (i:Nat))/\i+j=ks.length/\Chg [] M1 M) ?_ ks.length _ ⟨_,M1,0,rfl,by exact gq rfl,by exact gq rfl,by exact gq rfl,by omega,Chg.refl M1⟩
 rintro j d ⟨t,M,i,rfl,g1,g2,g3,hij,hC⟩
 apply ax
 unfold xY
 change wp _ _ _ _ ⟨ah [] t, [],none,M⟩ _
 have hstM:bz T m0 M:=fun i hi ho=>by
  obtain ⟨q1,q2⟩:=hst i hi ho
  have hCM:Chg [] m M:=hC1.tr hC
  exact ⟨(hCM.get q2 (by simp)).trans q1,hCM.old q2⟩
 have hSM:=hS.stays hstM
 have hgM:=(hC.get ho1 (by simp)).trans hg1
 have hlen:=hSM.sl.len
 rw[hS.len] at hlen
 by_cases hi:i<ks.length
 ·obtain ⟨cx,hcx,hRx⟩:=hS.at i hi
  have hc:i<C.length:=by rw[hS.len];exact hi
  obtain ⟨id,off,wr,c,a1,a2,a3,a4,a5⟩:=hSM.sl.at i hc
  have ecx:C[i]=cx:=by rw[List.getElem?_eq_getElem hc] at hcx;injection hcx
  rw[ecx] at a5
  have hsx:=Lz (List.getElem_mem hi)
  obtain ⟨m',hr,hC'⟩:=ih ks[i] (List.getElem_mem hi) hRx hstM (by omega)
  have htk:dJ (ks.take (i+1))=max (dJ (ks.take i)) ks[i].depth:=by
   rw[List.take_add_one,List.getElem?_eq_getElem hi,Option.toList_some,si,dJ,dJ];omega
  simp (disch:=first|assumption|omega) only[go_sem,seval,g1,g2,g3,hgM,hlen,a1,a2,a5,hr.wf']
  by_cases hgt:dJ (ks.take i)<ks[i].depth
  ·simp (disch:=first|assumption|omega) only[go_sem,seval,g1,g2,g3]
   refine ⟨j - 1,by omega,_,m',i+1,by rfl,by exact gq g1, ?_,by exact gq rfl,by omega,hC.tr hC'⟩
   simp only[go_sem,seval,htk]
   rw[Nat.max_eq_right (by omega)]
  ·simp (disch:=first|assumption|omega) only[go_sem,seval,g1,g2,g3]
   refine ⟨j - 1,by omega,_,m',i+1,by rfl,by exact gq g1, ?_,by exact gq rfl,by omega,hC.tr hC'⟩
   simp only[go_sem,seval,htk,g2]
   rw[Nat.max_eq_left (by omega)]
 ·have e:(ks.take i)=ks:=List.take_of_length_le (by omega)
  rw[e] at g2
  have hd:=O2 (.mk k n o s ks)
  rw[Ex.depth,Ex.sz] at hd
  rw[Ex.depth] at hK
  simp (disch:=first|assumption|omega) only[go_sem,seval,g1,g2,g3,hgM,hlen]
  exact hK _ (hC1.tr hC)
def O5 (f:Nat) (m0:NH) (L:List Tok) (vl:NV) (r:D4) (rest:List NV) (E:Rs->Ex×Rs) (d:Nat):Prop:=∀{m:NH} {s:Rs},Chg [] m0 m->RD m r vl s rest->s.a<=L.length->
 ∃v m',rT f [.ptr r 0,ii d] m v m'/\(∃u,v= .agg ((E s).1.l u)/\RE m' (pX m) (E s).1 ((E s).1.l u))/\RD m' r vl (E s).2 rest/\Chg [r] m m'
theorem pm {S:List D4} {M:NH} {l:List (AK×NO)} {k:Nat} (h:Chg S m M) (ho:∀i∈aC l,am m i->i∈S):Chg S m (hp l k M):=h.trans (aI rfl) ho
section
variable {m0:NH} {L:List Tok} {vl:NV} {r:D4} {rest:List NV} {E:Rs->Ex×Rs}
theorem HV (hc:RC m0 L vl r) (hst:∀s,St L s (E s).2) (hE:d<=29->O5 141 m0 L vl r rest E (d+1)) (hd30:d<=30):O5 152 m0 L vl r rest (db L E d) d:=by
 intro m s h0 hd ha
 refine WF.ex fun K hK=> ?_
 refine WF.of_wpG (fun _=>rfl) vC (L:= [(.a .e,ii d),(.e,.ptr r 0)]) rfl ?_
 unfold JA
 have hll:=hc.len
 simp only[go_sem,seval]
 generalize hM1:hp _ 1 m=M1
 have hC1:Chg [] m M1:=aR hM1 rfl
 have hg1:M1.get (na m 0)=some (.cells true [ii 0,u64 0,u8 0,.str [],.nils]):=bu hM1
 have ho1:am M1 (na m 0):=bt hM1 (by omega)
 have hr0:r≠na m 0:=hd.o.ne 0
 have hr0':na m 0≠r:=fun e=>hr0 e.symm
 have hd1:=hd.chg hC1 (by simp)
 have hn1:∀i,am m i->am M1 i:=fun i hi=>hC1.old hi
 refine WF.use1H (jQ hc (h0.tr hC1) hd1) ?_
 intro M2 hC2
 have hd2:=hd1.chg hC2 (by simp)
 have hg2:=(hC2.get ho1 (by simp)).trans hg1
 have ho2:=hC2.old ho1
 have hC02:=hC1.tr hC2
 have hl:(Tok.l (aK L s.a)).length=4:=rfl
 have hpf:db L E d s=if s.e≠0 then (zE,s) else if 29<d then (zE,bD 11 s) else if (aK L s.a).k=2 then (FP (aK L s.a).n,ak s) else if (aK L s.a).k=1 then (s7 (aK L s.a).t,ak s)
  else if aZ L [40] s=true then ((E (ak s)).1,a9 L [41] (E (ak s)).2) else (zE,bD 2 s):=rfl
 rw[hpf] at hK
 clear hpf
 generalize hT:aK L s.a=T at hK hl
 have hdg:=hd2.g
 have hdo:=hd2.o
 have hCr2:Chg [r] m M2:=hC02.weak (by simp)
 have fin:∀{M:NH} {s':Rs} {u:NV} {x:Ex} {l:List (AK×NO)} {k:Nat},RD M r vl s' rest->Chg [r] m M->RE M (pX m) x (x.l u)->(∀i∈aC l,i=na m 0)->(RE (hp l k M) (pX m) x (x.l u)->RD (hp l k M) r vl s' rest/\Chg [r] m (hp l k M)):=fun h1 h2 h3 h4 _=>
  ⟨h1.chg (aI rfl) fun hi=>hr0 (h4 _ hi),pm h2 fun i hi ho=>W9 (h4 i hi▸ho) aA⟩
 by_cases he:s.e=0
 ·rw[Xa (by omega)] at hK
  by_cases h29:29<d
  ·rw[Xb h29] at hK
   simp (disch:=first|assumption|omega|(simp only[aG]<;>omega)) only[go_sem,seval,hl,hdg]
   generalize hM3:hp _ 1 M2=M3
   have hC3:Chg [] M2 M3:=aR hM3 rfl
   refine WF.use1H (i7 (hd2.chg hC3 (by simp)) 11) ?_
   rintro M4 ⟨hd4,hC4⟩
   have hg4:=(hC4.get (hC3.old ho2) (by simpa using hr0.symm)).trans ((hC3.get ho2 (by simp)).trans hg2)
   have ho4:=hC4.old (hC3.old ho2)
   simp (disch:=first|assumption|omega|(simp only[aG]<;>omega)) only[go_sem,seval,hg4]
   exact hK _ _ ⟨⟨.nils,rfl,G1 _ _ _ _ _ _⟩,fin hd4 ((hCr2.tr hC3).trans hC4 fun _ h _=>h) (G1 _ _ 0 0 0 []) (by simp[aC]) (G1 _ _ _ _ _ _)⟩
  ·rw[Xa h29] at hK
   by_cases h2:T.k=2
   ·rw[Xb h2] at hK
    simp (disch:=first|assumption|omega|(simp only[aG]<;>omega)) only[go_sem,seval,hl,rZ,Vh,hdg,hg2,hr0]
    refine hK _ _ ⟨⟨.nils,rfl,Sf _ _ _⟩,⟨?_,cG (by assumption)⟩, ?_⟩
    ·refine (aE hdo).trans ?_
     simp only[bm hr0,aq];rfl
    ·exact pm hCr2 (by simp[aC,aA])
   ·rw[Xa h2] at hK
    by_cases h1:T.k=1
    ·rw[Xb h1] at hK
     simp (disch:=first|assumption|omega|(simp only[aG]<;>omega)) only[go_sem,seval,hl,rZ,yJ,hdg,hg2,hr0]
     refine hK _ _ ⟨⟨.nils,rfl,NI _ _ _⟩,⟨?_,cG (by assumption)⟩, ?_⟩
     ·refine (aE hdo).trans ?_
      simp only[bm hr0,aq];rfl
     ·exact pm hCr2 (by simp[aC,aA])
    ·rw[Xa h1] at hK
     simp (disch:=first|assumption|omega|(simp only[aG]<;>omega)) only[go_sem,seval,hl,rZ,hdg]
     generalize hM3:hp _ 1 M2=M3
     have hC3:Chg [] M2 M3:=aR hM3 rfl
     have hd3:=hd2.chg hC3 (by simp)
     refine WF.use1H (dS hc (h0.trans (hC02.tr hC3) (by simp)) hd3 [40] (by simp) (by omega)) ?_
     rintro M4 ⟨hd4,hC4⟩
     have hg4:=(hC4.get (hC3.old ho2) (by simpa using hr0.symm)).trans ((hC3.get ho2 (by simp)).trans hg2)
     have ho4:=hC4.old (hC3.old ho2)
     have hC04:Chg [r] m M4:=(hCr2.tr hC3).trans hC4 fun _ h _=>h
     cases hb:aZ L [40] s with
     |true=>
      rw[hb,Xb rfl] at hK hd4
      dsimp only at hK
      generalize hEs:E (ak s)=Es at hK
      obtain ⟨-,hlt⟩:=bR hb
      simp (disch:=first|assumption|omega) only[go_sem,seval,aa]
      refine WF.useH (hE (by omega) (hc.chg h0 hC04) hd4 hlt) ?_
      rintro v5 M5 ⟨⟨u,rfl,hx5⟩,hd5,hC5⟩
      have hst5:=hst (ak s)
      rw[hEs] at hx5 hd5 hst5 ⊢
      have hg5:=(hC5.get ho4 (by simpa using hr0.symm)).trans hg4
      have ho5:=hC5.old ho4
      have hC05:Chg [r] m M5:=hC04.trans hC5 fun _ h _=>h
      have hx5l:(Es.1.l u).length=5:=rfl
      simp (disch:=first|assumption|omega|(simp only[aG]<;>omega)) only[go_sem,seval,hx5l]
      generalize hM6:hp _ 1 M5=M6
      have hC6:Chg [] M5 M6:=aR hM6 rfl
      have hg6:M6.get (na M5 0)=some (.cells true (Es.1.l u)):=bu hM6
      have ho6:am M6 (na M5 0):=bt hM6 (by omega)
      have hlim:=hst5.lim hlt
      refine WF.use1H (iw hc (hc.chg h0 (hC05.tr hC6)) (hd5.chg hC6 (by simp)) [41] (by simp) (by omega)) ?_
      rintro M7 ⟨hd7,hC7⟩
      have hg7:=(hC7.get (hC6.old ho5) (by simpa using hr0.symm)).trans ((hC6.get ho5 (by simp)).trans hg5)
      have ho7:=hC7.old (hC6.old ho5)
      have hr5:na M5 0≠r:=fun e=>(hd5.o.ne 0 e.symm)
      have hb7:=(hC7.get ho6 (by simpa using hr5)).trans hg6
      have hC07:Chg [r] m M7:=(hC05.tr hC6).trans hC7 fun _ h _=>h
      have hl5':(Es.1.l u).take 5=Es.1.l u:=rfl
      simp (disch:=first|assumption|omega|(simp only[aG]<;>omega)) only[go_sem,seval,hg7,hb7,hx5l,hl5']
      have hx7:RE M7 (pX M4) Es.1 (Es.1.l u):=(hx5.chg hC6 (by simp)).chg hC7 fun i hi=>by
       have hi:=one hi;subst hi;exact hd4.o
      generalize hM8:hp _ 0 M7=M8
      have hC8:Chg [na m 0] M7 M8:=aR hM8 rfl
      have hx8:RE M8 (pX M4) Es.1 (Es.1.l u):=hx7.chg hC8 fun i hi=>by
       have hi:=one hi;subst hi;exact ho4
      have hx9:RE M8 (pX m) Es.1 (Es.1.l u):=hx8.new fun i hi=>hC04.old hi
      have hd8:=hd7.chg hC8 (by simpa using hr0)
      have hC08:Chg [r] m M8:=hC07.trans hC8 fun i hi ho=>by
       have hi:=one hi;subst hi;exact W9 ho aA
      exact hK _ _ ⟨⟨u,rfl,hx9⟩,hd8,hC08⟩
     |false=>
      rw[hb,Xa Bool.false_ne_true] at hK hd4
      simp only[go_sem,seval,aa]
      refine WF.use1H (i7 hd4 2) ?_
      rintro M5 ⟨hd5,hC5⟩
      have hg5:=(hC5.get ho4 (by simpa using hr0.symm)).trans hg4
      have ho5:=hC5.old ho4
      simp (disch:=first|assumption|omega|(simp only[aG]<;>omega)) only[go_sem,seval,hg5]
      exact hK _ _ ⟨⟨.nils,rfl,G1 _ _ _ _ _ _⟩,fin hd5 (hC04.trans hC5 fun _ h _=>h) (G1 _ _ 0 0 0 []) (by simp[aC]) (G1 _ _ _ _ _ _)⟩
 ·rw[Xb he] at hK
  simp (disch:=first|assumption|omega|(simp only[aG]<;>omega)) only[go_sem,seval,hl,hdg,hg2]
  exact hK _ _ ⟨⟨.nils,rfl,G1 _ _ _ _ _ _⟩,fin hd2 hCr2 (G1 _ _ 0 0 0 []) (by simp[aC]) (G1 _ _ _ _ _ _)⟩
end
theorem RE.old  {c:List NV} (h:RE m T x c):RE m (fun i=>T i/\am m i) x c:=by
 induction h with
 |mk hv hT hl h ih=>exact .mk hv (fun i hi=>⟨hT i hi,hv.old i hi⟩) hl ih
theorem RS.old  {x:Stm} {c:List NV} (h:RS m T x c):RS m (fun i=>T i/\am m i) x c:=by
 induction h with
 |mk hi hx hy hb hbT hbl hbR he heT hel heR ih1 ih2=>exact .mk hi.old hx.old hy.old hb (fun i q=>⟨hbT i q,hb.old i q⟩) hbl ih1 he (fun i q=>⟨heT i q,he.old i q⟩) hel ih2
theorem Va  {o:Nat} {y:Ex} {cx cy:List NV} (hx:RE m T x cx) (hy:RE m T y cy) {id:D4} (hT:T id) (hg:m.get id=some (.cells true (cx++cy))) (ho:am m id):RE m T (BK o x y) ((BK o x y).l (.slc id 0 2 5 2)):=by
 refine .mk (C:= [cx,cy]) ⟨?_,Or.inr ⟨id,0,2,true,_,rfl,hg,ho, ?_, ?_⟩⟩ (by intro i hi;simp[ids] at hi;subst hi;exact hT) rfl ?_
 ·intro c hc;simp at hc;rcases hc with rfl|rfl
  ·exact hx.len
  ·exact hy.len
 ·simp[hx.len,hy.len]
 ·simp[hx.len,hy.len]
  rw[List.take_of_length_le (by simp[hx.len,hy.len])]
 ·intro i z c h1 h2
  match i with
  |0=>cases h1;cases h2;exact hx
  |1=>cases h1;cases h2;exact hy
  |i+2=>simp at h1
section
variable {m0:NH} {L:List Tok} {vl:NV} {r:D4} {rest:List NV}
theorem Gi (hc:RC m0 L vl r) (hst:∀s,St L s (P s).2) (hsz:Hu P) (hP:O5 152 m0 L vl r rest P d) (h0:Chg [] m0 m) {b1 b2:D4} (hb1:¬am m b1) (hb2:¬am m b2) (hb12:b1≠b2) (horm:am m r)
 {X:Ex} {S:Rs} {M:NH} {s:Rs} {u:NV} (hd:RD M r vl s rest) (hx:RE M (fun i=>¬am m i/\i≠b1/\i≠b2) x (x.l u)) (hg:M.get b2=some (.cells true (x.l u))) (hob:am M b2) (hob1:am M b1) {z1:List NV} (hg1:M.get b1=some (.cells true z1)) (ha:s.a<=L.length) (hxs:s.e=0->x.sz<=s.a) (hxz:x.sz<=100000) (hC:Chg [r] m M) (hE:eQ L P (L.length+1) x s=(X,S)) (g1:NT.get D4.e t=some (.ptr r 0)) (g2:NT.get D4.e.a t=some (ii d)) (g3:NT.get D4.e.f t=some (.ptr b1 0)) (g4:NT.get D4.e.a.a t=some (.ptr b2 0))
 (hQ:∀t' M' u',NT.get D4.e.f t'=some (.ptr b1 0)->NT.get D4.e.a.a t'=some (.ptr b2 0)->RD M' r vl S rest->RE M' (fun i=>¬am m i/\i≠b1/\i≠b2) X (X.l u')->M'.get b2=some (.cells true (X.l u'))->am M' b2->am M' b1->M'.get b1=some (.cells true z1)->Chg [r] m M'->Q (.exit 0) ⟨ah [] t', [],none,M'⟩):
 W Tryz.prog S0 none rE.loop ⟨t, [],none,M⟩ Q:=by
 refine W.loop (fun k D=>∃t M x s u f,D=⟨t, [],none,M⟩/\NT.get D4.e t=some (.ptr r 0)/\NT.get D4.e.a t=some (ii d)/\NT.get D4.e.f t=some (.ptr b1 0)/\NT.get D4.e.a.a t=some (.ptr b2 0)/\RD M r vl s rest/\RE M (fun i=>¬am m i/\i≠b1/\i≠b2) x (x.l u)/\M.get b2=some (.cells true (x.l u))/\am M b2/\am M b1/\M.get b1=some (.cells true z1)/\s.a<=L.length/\(s.e=0->x.sz<=s.a)/\x.sz<=100000/\Chg [r] m M/\eQ L P f x s=(X,S)/\L.length<f+s.a/\k=f) ?_ (L.length+1) _ ⟨t,M,x,s,u,L.length+1,rfl,g1,g2,g3,g4,hd,hx,hg,hob,hob1,hg1,ha,hxs,hxz,hC,hE,by omega,rfl⟩
 clear hd hx hg hob hob1 hg1 ha hxs hxz hC hE g1 g2 g3 g4
 rintro k D ⟨t,M,x,s,u,f,rfl,g1,g2,g3,g4,hd,hx,hg,hob,hob1,hg1,ha,hxs,hxz,hC,hE,hf,rfl⟩
 apply ax
 unfold rE
 change wp _ _ _ _ ⟨ah [] t, [],none,M⟩ _
 have hll:=hc.len
 obtain ⟨f,rfl⟩:∃f',k=f'+1:=⟨k - 1,by omega⟩
 rw[eQ] at hE
 have hdg:=hd.g
 refine iC (fun D=>s.e=0/\∃t',D=⟨t', [],none,M⟩/\NT.get D4.e t'=some (.ptr r 0)/\NT.get D4.e.a t'=some (ii d)/\NT.get D4.e.f t'=some (.ptr b1 0)/\NT.get D4.e.a.a t'=some (.ptr b2 0)) (fun R hR=> ?_) ?_
 ·by_cases he:s.e=0
  ·simp (disch:=first|assumption|omega) only[go_sem,seval,g1,g2,g3,g4,hdg]
   exact hR _ ⟨he,_,rfl,by simp only[go_sem,seval,g1],by simp only[go_sem,seval,g2],by simp only[go_sem,seval,g3],by simp only[go_sem,seval,g4]⟩
  ·rw[Xb he] at hE
   injection hE with e1 e2
   subst e1 e2
   have hde:decide ((s.e:Int)=0)=false:=Xc (by omega)
   simp only[go_sem,seval,g1,g2,g3,g4,hdg,hde]
   exact hQ _ M u (by simp only[go_sem,seval,g3]) (by simp only[go_sem,seval,g4]) hd hx hg hob hob1 hg1 hC
 clear g1 g2 g3 g4
 rintro D ⟨he,t,rfl,g1,g2,g3,g4⟩
 rw[Xa (by omega)] at hE
 change wp _ _ _ _ ⟨ah [] t, [],none,M⟩ _
 rw[tW]
 have hl:(Tok.l (aK L s.a)).length=4:=rfl
 refine Vx (fun D=>∃t' M2,D=⟨t', [],none,M2⟩/\Chg [] M M2/\zO (i9 (aK L s.a))=true/\NT.get D4.e t'=some (.ptr r 0)/\NT.get D4.e.a t'=some (ii d)/\NT.get D4.e.f t'=some (.ptr b1 0)/\NT.get D4.e.a.a t'=some (.ptr b2 0)/\NT.get D4.e.a.c t'=some (u8 (i9 (aK L s.a)))) (fun R hR=> ?_) ?_
 ·simp only[go_sem,seval,g1,g2,g3,g4,hdg]
  refine WF.use1H (jQ hc (hc.chg h0 hC) hd) ?_
  intro M2 hC2
  generalize hT:aK L s.a=T at hE hl hR
  have out:∀(l:List (AK×NO)) (k:Nat) (t':Tm),zO (i9 T)=false->NT.get D4.e.f t'=some (.ptr b1 0)->NT.get D4.e.a.a t'=some (.ptr b2 0)->aC l= []->Q (.exit 0) ⟨ah [] t', [],none,hp l k M2⟩:=by
   intro l k t' hop q1 q2 ho
   rw[Xb hop] at hE
   injection hE with e1 e2
   subst e1 e2
   have hC3:=ge (k:=k) hC2 ho
   exact hQ _ _ u q1 q2 (hd.chg hC3 (by simp)) (hx.stays (kQ hC3 _)) ((hC3.get hob (by simp)).trans hg) (hC3.old hob) (hC3.old hob1) ((hC3.get hob1 (by simp)).trans hg1) (hC.tr hC3)
  by_cases h3:T.k=3
  ·by_cases h1:T.t.length=1
   ·obtain ⟨c,hc1⟩:=List.length_eq_one_iff.mp h1
    have hopc:i9 T=c:=by unfold i9;rw[Xb ⟨h3,h1⟩,hc1];rfl
    have h00:T.t[0]? =some c:=by rw[hc1];rfl
    rw[hopc] at hR out
    by_cases hop:zO c=true
    ·have hcs:=of_decide_eq_true hop
     rcases hcs with rfl|rfl|rfl|rfl|rfl|rfl<;>simp (disch:=first|assumption|omega|(simp only[aG]<;>omega)) only[go_sem,seval,g1,g2,g3,g4,hl,rZ,yJ,h3,h1,h00]<;>exact hR _ ⟨_,_,rfl,ge hC2 rfl,hop,by simp only[go_sem,seval,g1],by simp only[go_sem,seval,g2],by simp only[go_sem,seval,g3],by simp only[go_sem,seval,g4],by simp only[go_sem,seval]<;>rfl⟩
    ·have hop':zO c=false:=by simpa using hop
     have hcs:=of_decide_eq_false hop'
     simp (disch:=first|assumption|omega|(simp only[aG]<;>omega)) only[go_sem,seval,g1,g2,g3,g4,hl,rZ,yJ,h3,h1,h00]
     exact out _ _ _ hop' (by simp only[go_sem,seval,g3]) (by simp only[go_sem,seval,g4]) rfl
   ·have hopc:i9 T=0:=by unfold i9;rw[Xa (fun h=>h1 h.2)]
    rw[hopc] at hR out
    simp (disch:=first|assumption|omega|(simp only[aG]<;>omega)) only[go_sem,seval,g1,g2,g3,g4,hl,rZ,yJ,h3]
    exact out _ _ _ rfl (by simp only[go_sem,seval,g3]) (by simp only[go_sem,seval,g4]) rfl
  ·have hopc:i9 T=0:=by unfold i9;rw[Xa (fun h=>h3 h.1)]
   rw[hopc] at hR out
   simp (disch:=first|assumption|omega|(simp only[aG]<;>omega)) only[go_sem,seval,g1,g2,g3,g4,hl,rZ,yJ]
   exact out _ _ _ rfl (by simp only[go_sem,seval,g3]) (by simp only[go_sem,seval,g4]) rfl
 clear g1 g2 g3 g4
 rintro D ⟨t,M2,rfl,hC2,hop,g1,g2,g3,g4,g5⟩
 have hlt:=ug hop
 rw[Xa (by simp[hop])] at hE
 generalize i9 (aK L s.a)=o at hE g5
 change wp _ _ _ _ ⟨ah [] t, [],none,M2⟩ _
 rw[←aa M2]
 have hd2:=hd.chg hC2 (by simp)
 have hdg2:=hd2.g
 have hdo2:=hd2.o
 simp (disch:=first|assumption|omega|(simp only[aG]<;>omega)) only[go_sem,seval,g1,g2,g3,g4,g5,hdg2]
 generalize hM3:hp _ 0 M2=M3
 have hC3:Chg [r] M2 M3:=aR hM3 rfl
 have hd3:RD M3 r vl (ak s) rest:=⟨by rw[←hM3];exact (aE hdo2).trans aq,hC3.old hdo2⟩
 have hC03:Chg [r] m M3:=(hC.tr hC2).trans hC3 fun _ h _=>h
 have nb1:b1∉ [r]:=by simp;rintro rfl;exact hb1 horm
 have nb2:b2∉ [r]:=by simp;rintro rfl;exact hb2 horm
 have hCb:∀{M M':NH} {z:List NV} {b:D4},Chg [r] M M'->b∉ [r]->am M b->M.get b=some (.cells true z)->M'.get b=some (.cells true z)/\am M' b:=fun h hn ho hg=>⟨(h.get ho hn).trans hg,h.old ho⟩
 have hC23:Chg [r] M M3:=(hC2.weak (by simp)).trans hC3 fun _ h _=>h
 refine WF.use (hP (hc.chg h0 hC03) hd3 hlt) ?_
 rintro v4 M4 ⟨⟨w,rfl,hy4⟩,hd4,hC4⟩
 have hst4:=hst (ak s)
 have hsz4:=hsz (ak s)
 have hna:(ak s).a=s.a+1:=rfl
 have hlim:=hst4.lim hlt
 generalize hP4:P (ak s)=p4 at hy4 hd4 hE hst4 hsz4 hlim
 obtain ⟨y,s4⟩:=p4
 dsimp only at hy4 hd4 hE hst4 hsz4 hlim
 have hC24:Chg [r] M M4:=hC23.trans hC4 fun _ h _=>h
 obtain ⟨hg4,ho4⟩:=hCb hC24 nb2 hob hg
 obtain ⟨hg14,ho14⟩:=hCb hC24 nb1 hob1 hg1
 have hx4:RE M4 (fun i=>¬am m i/\i≠b1/\i≠b2) x (x.l u):=hx.stays (bz.of hC24 fun i hi hs=>by
  have hs:=one hs;subst hs;exact hi.1 horm)
 have hC04:Chg [r] m M4:=hC03.trans hC4 fun _ h _=>h
 have hy4':RE M4 (fun i=>¬am m i/\i≠b1/\i≠b2) y (y.l w):=hy4.weak fun i hi=>⟨fun h=>hi (hC03.old h),fun h=>hi (h▸hC23.old hob1),fun h=>hi (h▸hC23.old hob)⟩
 have hyl:(y.l w).length=5:=rfl
 have hxl:(x.l u).length=5:=rfl
 rw[←aa M4]
 by_cases he4:s4.e=0
 ·rw[Xa (by omega)] at hE
  have hys:=hsz4 he4
  have hdg4:=hd4.g
  have hdo4:=hd4.o
  have hyl':(y.l w).take 5=y.l w:=rfl
  have hxl':(x.l u).take 5=x.l u:=rfl
  have hxd:(y.l w).drop 5= []:=rfl
  simp (disch:=first|assumption|omega|(simp only[aG]<;>omega)) only[go_sem,seval,g1,g2,g3,g4,g5,hyl,hdg4,hg4,hxl,hyl',hxl']
  generalize hM5:hp _ 2 M4=M5
  have hC5:Chg [b2] M4 M5:=aR hM5 rfl
  have hg5:M5.get b2=some (.cells true ((BK o x y).l (.slc (na M4 1) 0 2 5 2))):=kR ho4 hM5
  have hk5:M5.get (na M4 1)=some (.cells true (x.l u++y.l w)):=bu hM5
  have hko5:am M5 (na M4 1):=bt hM5 (by omega)
  have hTk:¬am m (na M4 1)/\na M4 1≠b1/\na M4 1≠b2:=⟨fun h=>aA (hC04.old h),fun h=>ho14.ne 1 h.symm,fun h=>ho4.ne 1 h.symm⟩
  have hs5:bz (fun i=>¬am m i/\i≠b1/\i≠b2) M4 M5:=bz.of hC5 fun i hi hs=>by
   simp only[Xf,Xe,or_false] at hs;exact hi.2.2 hs
  have hxy5:RE M5 (fun i=>¬am m i/\i≠b1/\i≠b2) (BK o x y) ((BK o x y).l (.slc (na M4 1) 0 2 5 2)):=Va (hx4.stays hs5) (hy4'.stays hs5) hTk hk5 hko5
  have hosz:(BK o x y).sz=1+(x.sz+(y.sz+0)):=by simp[Ex.sz,kS]
  refine WF.use1H (Mt (BK o x y) hxy5 (fun i _ ho=>⟨rfl,ho⟩) (by omega)) ?_
  intro M6 hC6
  have hd5:RD M5 r vl s4 rest:=hd4.chg hC5 (by simp;rintro rfl;exact hb2 horm)
  have hd6:=hd5.chg hC6 (by simp)
  have hC56:Chg [b2] M4 M6:=hC5.tr hC6
  have hxy6:=hxy5.stays (kQ hC6 _)
  have hg6:=(hC6.get (hC5.old ho4) (by simp)).trans hg5
  have ho6:=hC56.old ho4
  have ho16:=hC56.old ho14
  have hg16:=(hC56.get ho14 (by simpa using hb12)).trans hg14
  have hC06:Chg [r] m M6:=hC04.trans hC56 fun i hi ho=>by
   have hi:=one hi;subst hi;exact W9 ho hb2
  have he0:=hxs he
  by_cases hdp:30<(BK o x y).depth
  ·rw[Xb hdp] at hE
   simp (disch:=first|assumption|omega) only[go_sem,seval,g1]
   rw[aa]
   refine WF.use1 (i7 hd6 11) ?_
   rintro M7 ⟨hd7,hC7⟩
   obtain ⟨hg7,ho7⟩:=hCb hC7 nb2 ho6 hg6
   obtain ⟨hg17,ho17⟩:=hCb hC7 nb1 ho16 hg16
   have hxy7:=hxy6.stays (m':=M7) (bz.of hC7 fun i hi hs=>by
    have hs:=one hs;subst hs;exact hi.1 horm)
   have hfe:(bD 11 s4).e≠0/\(bD 11 s4).a=s4.a:=by unfold bD;rw[Xb he4];exact ⟨by show (11:Nat)≠0;omega,rfl⟩
   simp only[go_sem,seval]
   refine ⟨f,by omega,_,M7,BK o x y,_,_,f,by rfl,by simp only[go_sem,seval,g1],by simp only[go_sem,seval,g2],by simp only[go_sem,seval,g3],by simp only[go_sem,seval,g4],hd7,hxy7,hg7,ho7,ho17,hg17,by rw[hfe.2];exact hlim,fun h=>W9 h hfe.1,by omega,hC06.trans hC7 fun _ h _=>h,hE, ?_,rfl⟩
   have:=hst4.le
   rw[hfe.2];omega
  ·rw[Xa hdp] at hE
   simp (disch:=first|assumption|omega) only[go_sem,seval,g1]
   refine ⟨f,by omega,_,M6,BK o x y,_,_,f,by rw[aa],by simp only[go_sem,seval,g1],by simp only[go_sem,seval,g2],by simp only[go_sem,seval,g3],by simp only[go_sem,seval,g4],hd6,hxy6,hg6,ho6,ho16,hg16,hlim,fun h=>by omega,by omega,hC06,hE, ?_,rfl⟩
   have:=hst4.le
   omega
 ·rw[Xb he4] at hE
  injection hE with e1 e2
  subst e1 e2
  have hdg4:=hd4.g
  have hdo4:=hd4.o
  simp (disch:=first|assumption|omega|(simp only[aG]<;>omega)) only[go_sem,seval,g1,g2,g3,g4,g5,hyl,hdg4]
  generalize hM5:hp _ 1 M4=M5
  have hC5:Chg [] M4 M5:=aR hM5 rfl
  exact hQ _ M5 u (by simp only[go_sem,seval,g3]) (by simp only[go_sem,seval,g4]) (hd4.chg hC5 (by simp)) (hx4.stays (kQ hC5 _)) ((hC5.get ho4 (by simp)).trans hg4) (hC5.old ho4) (hC5.old ho14) ((hC5.get ho14 (by simp)).trans hg14) (hC04.tr hC5)
end
section
variable {m0:NH} {L:List Tok} {vl:NV} {r:D4} {rest:List NV}
theorem BQ (hc:RC m0 L vl r) (hst:∀s,St L s (E s).2) (hP:O5 152 m0 L vl r rest (db L E d) d) (hsz:Hu (db L E d)) (hsz1:∀s,s.a<=L.length->(db L E d s).1.sz<=100000):O5 141 m0 L vl r rest (jA L E d) d:=by
 intro m s h0 hd ha
 refine WF.ex fun K hK=> ?_
 refine WF.of_wpG (fun _=>rfl) wI (L:= [(.a .e,ii d),(.e,.ptr r 0)]) rfl ?_
 unfold It
 have hll:=hc.len
 simp only[go_sem,seval]
 generalize hM1:hp _ 1 m=M1
 have hC1:Chg [] m M1:=aR hM1 rfl
 have hg1:M1.get (na m 0)=some (.cells true [ii 0,u64 0,u8 0,.str [],.nils]):=bu hM1
 have ho1:am M1 (na m 0):=bt hM1 (by omega)
 have hr0:na m 0≠r:=fun e=>hd.o.ne 0 e.symm
 have hd1:=hd.chg hC1 (by simp)
 refine WF.useH (hP (h0.tr hC1) hd1 ha) ?_
 rintro v2 M2 ⟨⟨u,rfl,hx2⟩,hd2,hC2⟩
 have hst2:=iX (L:=L) (d:=d) hst s
 have hlim:=hst2.lim ha
 have hsz2:=hsz s
 have hszz:=hsz1 s ha
 have hXS:eQ L (db L E d) (L.length+1) (db L E d s).1 (db L E d s).2=((jA L E d s).1,(jA L E d s).2):=rfl
 generalize (jA L E d s).1=X at hXS hK
 generalize (jA L E d s).2=S at hXS hK
 generalize db L E d s=p at hx2 hd2 hlim hsz2 hszz hXS
 obtain ⟨x,s2⟩:=p
 dsimp only at hx2 hd2 hlim hsz2 hszz hXS
 have hg2:=(hC2.get ho1 (by simpa using hr0)).trans hg1
 have ho2:=hC2.old ho1
 have hxl:(x.l u).length=5:=rfl
 have hC02:Chg [r] m M2:=(hC1.weak (by simp)).trans hC2 fun _ h _=>h
 simp (disch:=first|assumption|omega|(simp only[aG]<;>omega)) only[go_sem,seval,hxl]
 generalize hM3:hp _ 1 M2=M3
 have hC3:Chg [] M2 M3:=aR hM3 rfl
 have hg3:M3.get (na M2 0)=some (.cells true (x.l u)):=bu hM3
 have ho3:am M3 (na M2 0):=bt hM3 (by omega)
 have hx3:RE M3 (fun i=>¬am m i/\i≠na m 0/\i≠na M2 0) x (x.l u):=(hx2.old.stays (kQ hC3 _)).weak fun i hi=>⟨fun h=>hi.1 (hC1.old h),fun h=>hi.1 (h▸ho1),fun h=>aA (h▸hi.2)⟩
 refine Gi hc (iX hst) hsz hP h0 (b1:=na m 0) (b2:=na M2 0) aA (fun h=>aA (hC02.old h)) (fun e=>ho2.ne 0 e) hd.o (hd2.chg hC3 (by simp)) hx3 hg3 ho3 (hC3.old ho2) ((hC3.get ho2 (by simp)).trans hg2) hlim (fun h=>by have:=hsz2 h;omega) hszz (hC02.tr hC3) hXS (by exact gq rfl) (by exact gq rfl) (by exact gq rfl) (by exact gq rfl) ?_
 intro t' M' u' q1 q2 q3 q4 q5 q6 q7 q8 q9
 have hXl:(X.l u').length=5:=rfl
 have hXl':(X.l u').take 5=X.l u':=rfl
 rw[←aa M']
 simp (disch:=first|assumption|omega|(simp only[aG]<;>omega)) only[go_sem,seval,q1,q2,q5,q8,hXl,hXl']
 generalize hM5:hp _ 0 M'=M5
 have hC5:Chg [na m 0] M' M5:=aR hM5 rfl
 have hx5:RE M5 (pX m) X (X.l u'):=(q4.stays (m':=M5) (bz.of hC5 fun i hi hs=>by
  simp only[Xf,Xe,or_false] at hs;exact hi.2.1 hs)).weak fun i hi=>hi.1
 exact hK _ _ ⟨⟨u',rfl,hx5⟩,q3.chg hC5 (by simpa using hr0.symm),q9.trans hC5 fun i hi ho=>by
  have hi:=one hi;subst hi;exact W9 ho aA⟩
theorem Mm  (hst:∀s,St L s (P s).2) (hsz:Hu P):∀(f:Nat) (x:Ex) (s:Rs),s.a<=L.length->(s.e=0->x.sz<=s.a)->x.sz<=L.length+1->(eQ L P f x s).1.sz<=L.length+1:=by
 intro f
 induction f with
 |zero=>intro x s _ _ h;exact h
 |succ f ih=>
  intro x s ha h1 h2
  rw[eQ]
  split
  ·exact h2
  ·split
   ·exact h2
   ·rename_i q1 q2
    have hlt:=ug (L:=L) (a:=s.a) (by simpa using q2)
    have h3:=(hst (ak s)).lim hlt
    split
    ·exact h2
    ·rename_i q3
     have h5:=hsz (ak s) (by omega)
     have h6:=h1 (by omega)
     have h7:(ak s).a=s.a+1:=rfl
     have h8:(BK (i9 (aK L s.a)) x (P (ak s)).1).sz=1+(x.sz+((P (ak s)).1.sz+0)):=by simp[Ex.sz,kS]
     have hfa:∀e,(bD e (P (ak s)).2).a=(P (ak s)).2.a:=fun e=>by unfold bD;split<;>rfl
     refine ih _ _ ?_ ?_ (by omega)
     ·split
      ·rw[hfa];exact h3
      ·exact h3
     ·split
      ·rw[hfa];omega
      ·omega
theorem x7  (hst:∀s,St L s (E s).2) (hsz:Hu (db L E d)) (hp1:∀s,s.a<=L.length->(db L E d s).1.sz<=L.length+1) (s:Rs) (ha:s.a<=L.length):(jA L E d s).1.sz<=L.length+1:=
 Mm (iX hst) hsz _ _ _ ((iX (L:=L) (d:=d) hst s).lim ha) (fun h=>by have:=hsz s h;omega) (hp1 s ha)
theorem pz  (hE:∀s,s.a<=L.length->(E s).1.sz<=L.length+1) (s:Rs) (ha:s.a<=L.length):(db L E d s).1.sz<=L.length+1:=by
 unfold db
 split
 ·simp[zE,Ex.sz,kS]
 ·split
  ·simp[zE,Ex.sz,kS]
  ·split
   ·simp[Ex.sz,kS]
   ·split
    ·simp[Ex.sz,kS]
    ·split
     ·rename_i h;exact hE _ (bR h).2
     ·simp[zE,Ex.sz,kS]
theorem Jv:∀(n:Nat) (s:Rs),s.a<=L.length->(jD L n s).1.sz<=L.length+1:=by
 intro n
 induction n with
 |zero=>exact fun s ha=>x7 (fun s=>St.refl _ s) (qg L _) (pz fun s _=>by simp[zE,Ex.sz,kS]) s ha
 |succ n ih=>exact fun s ha=>x7 (cQ L n) (tJ (cQ L n) (tU L n)) (pz ih) s ha
theorem QO (hc:RC m0 L vl r):∀n,n<=30->O5 141 m0 L vl r rest (jD L n) (30 - n):=by
 have hll:=hc.len
 intro n
 induction n with
 |zero=>
  intro _
  have e2:jD L 0=jA L (fun s=>(zE,s)) 30:=by funext s;rfl
  rw[e2]
  intro m s
  exact BQ (E:=fun s=>(zE,s)) hc (fun s=>St.refl _ s) (HV hc (fun s=>St.refl _ s) (fun h=>by omega) (by omega)) (qg L _) fun s ha=>by have:=pz (L:=L) (E:=fun s=>(zE,s)) (d:=30) (fun s _=>by simp[zE,Ex.sz,kS]) s ha;omega
 |succ n ih=>
  intro hn
  have e:30 - (n+1)=29 - n:=by omega
  have h1:29 - n+1=30 - n:=by omega
  have e2:jD L (n+1)=jA L (jD L n) (29 - n):=by funext s;rfl
  rw[e,e2]
  intro m s
  exact BQ hc (cQ L n) (HV hc (cQ L n) (fun _=>by rw[h1];exact ih (by omega)) (by omega)) (tJ (cQ L n) (tU L n)) fun s ha=>by have:=pz (d:=29 - n) (Jv n) s ha;omega
end
section
variable (L:List Tok)
abbrev fa (s:Rs):Ex×Rs:=jD L 30 s
def bj (s:Rs):List Nat×Ex×Rs:=if aZ L [91] (bh L s).2=true then ((bh L s).1,(fa L (ak (bh L s).2)).1,a9 L [93] (fa L (ak (bh L s).2)).2) else ((bh L s).1,zE,(bh L s).2)
def vN (x:Stm) (s:Rs):Stm×Rs:=(x,a9 L [59] s)
def Tb (p:Int) (s:Rs):Stm×Rs:=vN L (.mk 0 p (bh L s).1 [] zE (fa L (bh L s).2).1 zE [] []) (fa L (bh L s).2).2
def Ol (p:Int) (s:Rs):Stm×Rs:=vN L (.mk 1 p (bh L s).1 (bj L (bh L s).2).1 (bj L (bh L s).2).2.1 zE zE [] []) (bj L (bh L s).2).2.2
def HA (p:Int) (s:Rs):Stm×Rs:=vN L (.mk 2 p [] (bj L s).1 (bj L s).2.1 (fa L (bj L s).2.2).1 zE [] []) (fa L (bj L s).2.2).2
def S3 (p:Int) (s:Rs):Stm×Rs:=vN L (.mk 3 p (bh L s).1 (bj L (bh L s).2).1 (bj L (bh L s).2).2.1 (fa L (bj L (bh L s).2).2.2).1 (fa L (fa L (bj L (bh L s).2).2.2).2).1 [] []) (fa L (fa L (bj L (bh L s).2).2.2).2).2
def TM (p:Int) (s:Rs):Stm×Rs:=vN L (.mk 5 p [] [] zE (fa L s).1 zE [] []) (fa L s).2
def Ox (B:Rs->List Stm×Rs) (p:Int) (s:Rs):Stm×Rs:=
 if aZ L [101,108,115,101] (B (fa L s).2).2=true then (.mk 6 p [] [] zE (fa L s).1 zE (B (fa L s).2).1 (B (ak (B (fa L s).2).2)).1,(B (ak (B (fa L s).2).2)).2)
 else (.mk 6 p [] [] zE (fa L s).1 zE (B (fa L s).2).1 [],(B (fa L s).2).2)
def KK (B:Rs->List Stm×Rs) (p:Int) (s:Rs):Stm×Rs:=(.mk 7 p [] [] zE (fa L s).1 zE (B (fa L s).2).1 [],(B (fa L s).2).2)
def cU (B:Rs->List Stm×Rs) (s:Rs):Stm×Rs:=
 if aZ L [115,101,116] s=true then Tb L (aK L s.a).p (ak s)
 else if aZ L [108,111,97,100] s=true then Ol L (aK L s.a).p (ak s)
 else if aZ L [115,116,111,114,101] s=true then HA L (aK L s.a).p (ak s)
 else if aZ L [99,97,115] s=true then S3 L (aK L s.a).p (ak s)
 else if aZ L [102,101,110,99,101] s=true then vN L (.mk 4 (aK L s.a).p [] [] zE zE zE [] []) (ak s)
 else if aZ L [111,117,116] s=true then TM L (aK L s.a).p (ak s)
 else if aZ L [105,102] s=true then Ox L B (aK L s.a).p (ak s)
 else if aZ L [119,104,105,108,101] s=true then KK L B (aK L s.a).p (ak s)
 else vN L (.mk 0 (aK L s.a).p [] [] zE zE zE [] []) (bD 2 s)
def fq (S:Rs->Stm×Rs):Nat->List Stm->Rs->List Stm×Rs
 |0,l,s=>(l,s)
 |f+1,l,s=>if s.e≠0 then (l,s) else if aZ L [125] s=true then (l,ak s) else fq S f (l++ [(S s).1]) (S s).2
def eh (d:Nat) (s:Rs):Rs:=if s.e=0/\29<d/\(aK L s.a).k=3/\(aK L s.a).t= [123] then bD 11 s else s
def jV (S:Rs->Stm×Rs) (d:Nat) (s:Rs):List Stm×Rs:=fq L S (L.length+1) [] (a9 L [123] (eh L d s))
def dQ:Nat->Rs->List Stm×Rs
 |0,s=>jV L (fun s=>(.mk 0 0 [] [] zE zE zE [] [],bD 2 s)) 30 s
 |n+1,s=>jV L (cU L (dQ n)) (29 - n) s
end
section
variable {m0:NH} {L:List Tok} {vl:NV} {r:D4} {rest:List NV}
theorem fA (s:Rs):St L s (bj L s).2.2:=by
 unfold bj
 split
 ·rename_i h;exact (((cX L s).trans (fi h)).trans (cQ L 30 _)).trans (cr _ _ _)
 ·exact cX L s
theorem Oq (hc:RC m0 L vl r):O5 141 m0 L vl r rest (fa L) 0:=by
 intro m s
 exact QO hc 30 (Nat.le_refl _)
theorem uz (hc:RC m0 L vl r) {s:Rs} (h0:Chg [] m0 m) (hd:RD m r vl s rest) (ha:s.a<=L.length) {pb:D4} (hpr:pb≠r) (hop:am m pb) (hnp:¬am m0 pb) {c0 c1 c2 c3:NV} {c:List NV} (hl:c.length=12)
 (hg:m.get pb=some (.cells true (c0::c1::c2::c3::ii 0::u64 0::u8 0:: .str []:: .nils::c))):
 ∃m',rT 142 [.ptr r 0,.ptr pb 0] m (.tup []) m'/\∃u,m'.get pb=some (.cells true (c0::c1::c2:: .str (bj L s).1::((bj L s).2.1.l u++c)))/\RE m' (pX m) (bj L s).2.1 ((bj L s).2.1.l u)/\RD m' r vl (bj L s).2.2 rest/\Chg [r,pb] m m':=by
 refine WF.ex1 fun K hK=> ?_
 refine WF.of_wpG (fun _=>rfl) wJ (L:= [(.a .e,.ptr pb 0),(.e,.ptr r 0)]) rfl ?_
 unfold IE
 have hll:=hc.len
 have hrp:r≠pb:=fun e=>hpr e.symm
 simp only[go_sem,seval,aa]
 refine WF.use1H (nT hc h0 hd (by omega)) ?_
 rintro M1 ⟨hd1,hC1⟩
 have hst1:=cX L s
 unfold bj at hK
 generalize bh L s=q at hK hd1 hst1
 obtain ⟨n,s1⟩:=q
 dsimp only at hK hd1 hst1
 have hg1:=(hC1.get hop (by simpa using hpr)).trans hg
 have ho1:=hC1.old hop
 simp (disch:=first|assumption|omega|(simp only[aG]<;>omega)) only[go_sem,seval,hg1]
 generalize hM2:hp _ 0 M1=M2
 have hC2:Chg [pb] M1 M2:=aR hM2 rfl
 have hg2:M2.get pb=some (.cells true (c0::c1::c2:: .str n::ii 0::u64 0::u8 0:: .str []:: .nils::c)):=kR ho1 hM2
 have ho2:=hC2.old ho1
 have hd2:=hd1.chg hC2 (by simpa using hrp)
 have hC02:Chg [r,pb] m M2:=(hC1.weak (by simp)).trans hC2 (by simp)
 have hlim:=hst1.lim ha
 have hbase:∀{M},Chg [r,pb] m M->Chg [] m0 M:=fun h=>h0.trans h fun i hi ho=>by
  simp only[Xf,Xe,or_false] at hi
  rcases hi with rfl|rfl
  ·exact W9 ho hc.no
  ·exact W9 ho hnp
 refine WF.use1H (dS hc (hbase hC02) hd2 [91] (by simp) (by omega)) ?_
 rintro M3 ⟨hd3,hC3⟩
 have hg3:=(hC3.get ho2 (by simpa using hpr)).trans hg2
 have ho3:=hC3.old ho2
 have hC03:Chg [r,pb] m M3:=hC02.trans hC3 (by intro i hi _;simp at hi ⊢;exact Or.inl hi)
 cases hb:aZ L [91] s1 with
 |true=>
  rw[hb,Xb rfl] at hK hd3
  have hlt:=(bR hb).2
  simp only[go_sem,seval,aa]
  refine WF.useH (Oq hc (hbase hC03) hd3 hlt) ?_
  rintro v4 M4 ⟨⟨u,rfl,hx4⟩,hd4,hC4⟩
  have hst4:=cQ L 30 (ak s1)
  have hlim4:=hst4.lim hlt
  dsimp only at hK
  generalize hq:fa L (ak s1)=q at hK hx4 hd4
  have hq':jD L 30 (ak s1)=q:=hq
  rw[hq'] at hlim4
  obtain ⟨x,s4⟩:=q
  dsimp only at hK hx4 hd4 hlim4
  have hg4:=(hC4.get ho3 (by simpa using hpr)).trans hg3
  have ho4:=hC4.old ho3
  have hxl:(x.l u).length=5:=rfl
  simp (disch:=first|assumption|omega|(simp only[aG]<;>omega)) only[go_sem,seval,hg4,hxl,hl]
  generalize hM5:hp _ 0 M4=M5
  have hC5:Chg [pb] M4 M5:=aR hM5 rfl
  have hg5:M5.get pb=some (.cells true (c0::c1::c2:: .str n::(x.l u++c))):=kR ho4 hM5
  have ho5:=hC5.old ho4
  have hC04:Chg [r,pb] m M4:=hC03.trans hC4 (by intro i hi _;simp at hi ⊢;exact Or.inl hi)
  have hC05:Chg [r,pb] m M5:=hC04.trans hC5 (by simp)
  refine WF.use1H (iw hc (hbase hC05) (hd4.chg hC5 (by simpa using hrp)) [93] (by simp) (by omega)) ?_
  rintro M6 ⟨hd6,hC6⟩
  simp only[go_sem,seval,aa]
  refine hK _ ⟨u,(hC6.get ho5 (by simpa using hpr)).trans hg5, ?_,hd6,hC05.trans hC6 (by intro i hi _;simp at hi ⊢;exact Or.inl hi)⟩
  refine ((hx4.chg hC5 ?_).chg hC6 ?_).new fun i hi=>hC03.old hi
  ·intro i hi;have hi:=one hi;subst hi;exact ho3
  ·intro i hi;have hi:=one hi;subst hi;exact hd3.o
 |false=>
  rw[hb,Xa Bool.false_ne_true] at hK hd3
  simp only[go_sem,seval,aa]
  exact hK _ ⟨.nils,hg3,G1 _ _ 0 0 0 [],hd3,hC03⟩
end
def Wy (m0:NH) (L:List Tok) (vl:NV) (r:D4) (rest:List NV) (S:Rs->Stm×Rs) (d:Nat):Prop:=∀{m:NH} {s:Rs},Chg [] m0 m->RD m r vl s rest->s.a<=L.length->
 ∃v m',rT 112 [.ptr r 0,ii d] m v m'/\(∃w,v= .agg ((S s).1.l w)/\RS m' (pX m) (S s).1 ((S s).1.l w))/\RD m' r vl (S s).2 rest/\Chg [r] m m'
def V6 (m0:NH) (L:List Tok) (vl:NV) (r:D4) (rest:List NV) (B:Rs->List Stm×Rs) (d:Nat):Prop:=∀{m:NH} {s:Rs},Chg [] m0 m->RD m r vl s rest->s.a<=L.length->
 ∃v m',rT 71 [.ptr r 0,ii d] m v m'/\(∃C,SS m' (pX m) v (B s).1 C)/\RD m' r vl (B s).2 rest/\Chg [r] m m'
section
variable {m0:NH} {L:List Tok} {vl:NV} {r:D4} {rest:List NV}
theorem mg (d:Nat) (s:Rs):St L s (eh L d s):=by
 unfold eh
 split
 ·exact cL _ _ _
 ·exact St.refl _ _
theorem GS (hc:RC m0 L vl r) (hst:∀s,St L s (S s).2) (hpr:∀s,s.e=0->s.a<(S s).2.a∨(S s).2.e≠0) (hS:d<=29->Wy m0 L vl r rest S d) (hd29:∀s:Rs,d=30->True) (h0:Chg [] m0 m) (horm:am m r)
 {X:List Stm} {Z:Rs} {M:NH} {s:Rs} (hde:s.e≠0∨d<=29) (hd:RD M r vl s rest) (ha:s.a<=L.length) (hC:Chg [r] m M) (hE:fq L S (L.length+1) [] s=(X,Z)) (g1:NT.get D4.e t=some (.ptr r 0)) (g2:NT.get D4.e.a t=some (ii d)) (g3:NT.get D4.e.a.a t=some .nils)
 (hQ:∀t' M' v C,NT.get D4.e.a.a t'=some v->RD M' r vl Z rest->SS M' (pX m) v X C->Chg [r] m M'->Q (.exit 0) ⟨ah [] t', [],none,M'⟩):
 W Tryz.prog S0 none uO.loop ⟨t, [],none,M⟩ Q:=by
 refine W.loop (fun k D=>∃t M l s v C,D=⟨t, [],none,M⟩/\NT.get D4.e t=some (.ptr r 0)/\NT.get D4.e.a t=some (ii d)/\NT.get D4.e.a.a t=some v/\(s.e≠0∨d<=29)/\RD M r vl s rest/\aY m M v 21 C/\C.length=l.length/\(∀(j:Nat) (x:Stm) (c:List NV),l[j]? =some x->C[j]? =some c->RS M (fun i=>¬am m i/\i∉ids v) x c)/\s.a<=L.length/\Chg [r] m M/\fq L S k l s=(X,Z)/\(L.length<k+s.a∨s.e≠0)/\l.length+k<=L.length+1) ?_ (L.length+1) _ ⟨t,M, [],s,.nils, [],rfl,g1,g2,g3,hde,hd,aY.nil,rfl,by simp,ha,hC,hE,Or.inl (by omega),by simp⟩
 clear hde hd ha hC hE g1 g2 g3
 rintro k D ⟨t,M,l,s,v,C,rfl,g1,g2,g3,hde,hd,hv,hcl,hR,ha,hC,hE,hf,hlk⟩
 apply ax
 unfold uO
 change wp _ _ _ _ ⟨ah [] t, [],none,M⟩ _
 have hll:=hc.len
 have hdg:=hd.g
 by_cases he:s.e=0
 ·obtain ⟨f,rfl⟩:∃f',k=f'+1:=⟨k - 1,by rcases hf with h|h<;>omega⟩
  rw[fq,Xa (by omega)] at hE
  simp (disch:=first|assumption|omega) only[go_sem,seval,g1,g2,g3,hdg]
  refine WF.use1H (dS hc (hc.chg h0 hC) hd [125] (by simp) (by omega)) ?_
  rintro M2 ⟨hd2,hC2⟩
  have hrv:∀i∈ids v,i∉ [r]:=fun i hi h=>by
   have h:=one h;subst h;exact hv.new _ hi horm
  have hv2:=hv.chg hC2 hrv
  have hC02:Chg [r] m M2:=hC.trans hC2 fun _ h _=>h
  have hst2:bz (fun i=>¬am m i/\i∉ids v) M M2:=bz.of hC2 fun i hi hs=>by
   have hs:=one hs;subst hs;exact hi.1 horm
  cases hb:aZ L [125] s with
  |true=>
   rw[hb,Xb rfl] at hE hd2
   injection hE with e1 e2
   subst e1 e2
   simp only[go_sem,seval,g1,g2,g3,aa]
   exact hQ _ M2 v C (by simp only[go_sem,seval,g3]) hd2 ⟨hv2.sl,fun i hi=>hv2.new i hi,hcl,fun j x c h1 h2=>((hR j x c h1 h2).stays hst2).weak fun i hi=>hi.1⟩ hC02
  |false=>
   rw[hb,Xa Bool.false_ne_true] at hE hd2
   simp only[go_sem,seval,g1,g2,g3,aa]
   refine WF.useH (hS (by omega) (hc.chg h0 hC02) hd2 ha) ?_
   rintro v3 M3 ⟨⟨w,rfl,hx3⟩,hd3,hC3⟩
   have hlim:=(hst s).lim ha
   have hpr':=hpr s he
   generalize S s=q at hE hx3 hd3 hlim hpr'
   obtain ⟨x,s3⟩:=q
   dsimp only at hE hx3 hd3 hlim hpr'
   have hxl:(x.l w).length=21:=rfl
   have hxl':(x.l w).take 21=x.l w:=rfl
   simp (disch:=first|assumption|omega|(simp only[aG]<;>omega)) only[go_sem,seval,g1,g2,g3,hxl]
   have hC4:Chg [] M3 (hp [(.n 0,.cells true (x.l w))] 1 M3):=aI rfl
   have hv3:=hv2.chg hC3 hrv
   have hC03:Chg [r] m M3:=hC02.trans hC3 fun _ h _=>h
   refine fm (cs:=x.l w) (hv3.chg hC4 fun _ _=>by simp) bI (bN (by omega)) hxl (fun i hi=>hC4.old (hC03.old hi)) (by omega) (by omega) ?_
   intro v5 M5 hv5 hC5 hF5
   generalize hM4:hp [(.n 0,.cells true (x.l w))] 1 M3=M4 at hC4 hC5 hF5
   have hC34:Chg [r] M2 M4:=hC3.tr hC4
   have hd5:RD M5 r vl s3 rest:=(hd3.chg hC4 (by simp)).chg hC5 fun h=>hv.new _ h horm
   have hC05:Chg [r] m M5:=(hC02.trans hC34 fun _ h _=>h).trans hC5 fun i hi ho=>W9 ho (hv.new i hi)
   have hlen5:(l++ [x]).length=l.length+1:=by simp
   simp only[go_sem,seval,g1,g2,g3]
   refine ⟨f,by omega,_,M5,l++ [x],s3,v5,C++ [x.l w],by rfl,by simp only[go_sem,seval,g1],by simp only[go_sem,seval,g2],by simp only[go_sem,seval], ?_,hd5,hv5,by simp[hcl], ?_,hlim,hC05,hE, ?_,by omega⟩
   ·rcases hde with h|h
    ·exact W9 he h
    ·exact Or.inr h
   ·have hold:∀(j:Nat) (y:Stm) (c:List NV),l[j]? =some y->C[j]? =some c->RS M5 (fun i=>¬am m i/\i∉ids v5) y c:=fun j y c h1 h2=>by
     have a1:=((hR j y c h1 h2).stays hst2).stays (m':=M4) (bz.of hC34 fun i hi hs=>by
      have hs:=one hs;subst hs;exact hi.1 horm)
     have a2:=a1.old.stays (m':=M5) (bz.of hC5 fun i hi hs=>hi.1.2 hs)
     exact a2.weak fun i hi=>⟨hi.1.1,fun h=>(hF5 i h).elim hi.1.2 fun q=>q hi.2⟩
    have hnew:RS M5 (fun i=>¬am m i/\i∉ids v5) x (x.l w):=by
     have a1:RS M4 (pX M2) x (x.l w):=hx3.chg hC4 (by simp)
     have a2:=a1.old.stays (m':=M5) (bz.of hC5 fun i hi hs=>hi.1 (hv2.sl.old i hs))
     exact a2.weak fun i hi=>⟨fun h=>hi.1 (hC02.old h),fun h=>(hF5 i h).elim (fun q=>hi.1 (hv2.sl.old i q)) fun q=>q hi.2⟩
    intro j y c h1 h2
    rcases Nat.lt_or_ge j l.length with h|h
    ·rw[List.getElem?_append_left h] at h1
     rw[List.getElem?_append_left (by omega)] at h2
     exact hold j y c h1 h2
    ·rw[List.getElem?_append_right h] at h1
     rw[List.getElem?_append_right (by omega),hcl] at h2
     cases hj:j - l.length with
     |zero=>rw[hj] at h1 h2;cases h1;cases h2;exact hnew
     |succ n=>rw[hj] at h1;simp at h1
   ·rcases hpr' with h|h
    ·left;rcases hf with q|q<;>omega
    ·exact Or.inr h
 ·have hde':decide ((s.e:Int)=0)=false:=Xc (by omega)
  have hE':(l,s)=(X,Z):=by
   cases k with
   |zero=>exact hE
   |succ k=>rw[fq,Xb he] at hE;exact hE
  injection hE' with e1 e2
  subst e1 e2
  simp only[go_sem,seval,g1,g2,g3,hdg,hde']
  exact hQ _ M v C (by simp only[go_sem,seval,g3]) hd ⟨hv.sl,fun i hi=>hv.new i hi,hcl,fun j x c h1 h2=>(hR j x c h1 h2).weak fun i hi=>hi.1⟩ hC
theorem CK (hc:RC m0 L vl r) (hst:∀s,St L s (S s).2) (hpr:∀s,s.e=0->s.a<(S s).2.a∨(S s).2.e≠0) (hS:d<=29->Wy m0 L vl r rest S d):V6 m0 L vl r rest (jV L S d) d:=by
 intro m s h0 hd ha
 refine WF.ex fun K hK=> ?_
 refine WF.of_wpG (fun _=>rfl) Fd (L:= [(.a .e,ii d),(.e,.ptr r 0)]) rfl ?_
 unfold OZ
 have hll:=hc.len
 have hdg:=hd.g
 refine Wj (fun D=>D=⟨ah [(D4.e.a.a,.nils),(D4.e.f,.nils),(D4.e.a,ii d),(D4.e,.ptr r 0)] .leaf, [],none,m⟩) (fun R hR=> ?_) ?_
 ·simp only[go_sem,seval,aa]
  exact hR _ rfl
 rintro D rfl
 refine iC (fun D=>∃t M,D=⟨t, [],none,M⟩/\NT.get D4.e t=some (.ptr r 0)/\NT.get D4.e.a t=some (ii d)/\NT.get D4.e.a.a t=some .nils/\RD M r vl (eh L d s) rest/\Chg [r] m M) (fun R hR=> ?_) ?_
 ·have no:∀(t:Tm) (M:NH),NT.get D4.e t=some (.ptr r 0)->NT.get D4.e.a t=some (ii d)->NT.get D4.e.a.a t=some .nils->eh L d s=s->Chg [] m M->R ⟨t, [],none,M⟩:=fun t M q1 q2 q3 q4 q5=>hR _ ⟨t,M,rfl,q1,q2,q3,by rw[q4];exact hd.chg q5 (by simp),q5.weak (by simp)⟩
  by_cases he:s.e=0
  ·by_cases h29:29<d
   ·obtain ⟨M1,hr1,hC1⟩:=jQ hc h0 hd
    have hd1:=hd.chg hC1 (by simp)
    obtain ⟨M2,hr2,hC2⟩:=jQ hc (h0.tr hC1) hd1
    have hd2:=hd1.chg hC2 (by simp)
    have hl0:(aK L s.a).l[0]? =some (ii (aK L s.a).k):=rfl
    have hl1:(aK L s.a).l[1]? =some (.str (aK L s.a).t):=rfl
    by_cases hk:(aK L s.a).k=3
    ·by_cases ht:(aK L s.a).t= [123]
     ·simp (disch:=first|assumption|omega) only[go_sem,seval,hdg,hr1.wf',hr2.wf',hl0,hl1]
      refine WF.use1 (i7 hd2 11) ?_
      rintro M3 ⟨hd3,hC3⟩
      simp only[go_sem,seval]
      refine hR _ ⟨_,M3,rfl,by exact gq rfl,by exact gq rfl,by exact gq rfl, ?_,((hC1.tr hC2).weak (by simp)).trans hC3 fun _ h _=>h⟩
      rw[eh,Xb ⟨he,h29,hk,ht⟩];exact hd3
     ·simp (disch:=first|assumption|omega) only[go_sem,seval,hdg,hr1.wf',hr2.wf',hl0,hl1]
      exact no _ _ (by exact gq rfl) (by exact gq rfl) (by exact gq rfl) (by rw[eh,Xa (fun h=>ht h.2.2.2)]) (hC1.tr hC2)
    ·simp (disch:=first|assumption|omega) only[go_sem,seval,hdg,hr1.wf',hr2.wf',hl0,hl1]
     exact no _ _ (by exact gq rfl) (by exact gq rfl) (by exact gq rfl) (by rw[eh,Xa (fun h=>hk h.2.2.1)]) hC1
   ·simp (disch:=first|assumption|omega) only[go_sem,seval,hdg]
    exact no _ _ (by exact gq rfl) (by exact gq rfl) (by exact gq rfl) (by rw[eh,Xa (fun h=>h29 h.2.1)]) (Chg.refl m)
  ·have hde':decide ((s.e:Int)=0)=false:=Xc (by omega)
   simp only[go_sem,seval,hdg,hde']
   exact no _ _ (by exact gq rfl) (by exact gq rfl) (by exact gq rfl) (by rw[eh,Xa (fun h=>he h.1)]) (Chg.refl m)
 rintro D ⟨t,M,rfl,g1,g2,g3,hdM,hCM⟩
 change wp _ _ _ _ ⟨ah [] t, [],none,M⟩ _
 have hst1:=(mg (L:=L) d s).lim ha
 have hst2:=(cr L [123] (eh L d s)).lim hst1
 have hX:fq L S (L.length+1) [] (a9 L [123] (eh L d s))=((jV L S d s).1,(jV L S d s).2):=rfl
 have hdeep:(a9 L [123] (eh L d s)).e≠0∨d<=29:=by
  rcases Nat.lt_or_ge 29 d with h|h
  ·left
   have hff:∀e (s:Rs),e≠0->(bD e s).e≠0:=fun e s h=>by unfold bD;split;exact h;assumption
   by_cases he:s.e=0
   ·by_cases hk:(aK L s.a).k=3/\(aK L s.a).t= [123]
    ·have e1:eh L d s=bD 11 s:=by rw[eh,Xb ⟨he,h,hk.1,hk.2⟩]
     rw[e1]
     intro q
     exact hff 11 s (by omega) ((cr L [123] _).zero q)
    ·have e1:eh L d s=s:=by rw[eh,Xa (fun h=>hk ⟨h.2.2.1,h.2.2.2⟩)]
     rw[e1]
     have e2:aZ L [123] s=false:=Xc fun q=>hk ⟨q.2.1,q.2.2⟩
     rw[a9,e2,Xa Bool.false_ne_true]
     exact hff 2 s (by omega)
   ·intro q
    exact he ((mg (L:=L) d s).zero ((cr L [123] _).zero q))
  ·exact Or.inr h
 generalize (jV L S d s).1=X at hX hK
 generalize (jV L S d s).2=Z at hX hK
 simp only[go_sem,seval,g1,g2,g3]
 refine WF.use1 (iw hc (hc.chg h0 hCM) hdM [123] (by simp) (by omega)) ?_
 rintro M2 ⟨hd2,hC2⟩
 have hC02:Chg [r] m M2:=hCM.trans hC2 fun _ h _=>h
 simp only[go_sem,seval,g1,g2,g3]
 refine GS hc hst hpr hS (fun _ _=>trivial) h0 hd.o hdeep hd2 hst2 hC02 hX (by exact gq g1) (by exact gq g2) (by exact gq g3) ?_
 intro t' M' v C q1 q2 q3 q4
 simp only[go_sem,seval,q1]
 exact hK _ _ ⟨⟨C,q3⟩,q2,q4⟩
end
abbrev TB (m:NH) (b1 b2:D4):D4->Prop:=fun i=>¬am m i/\i≠b1/\i≠b2
structure SC (m:NH) (r b1 b2:D4) (vl:NV) (rest z:List NV) (M:NH) (s:Rs) (c:List NV):Prop where
 hd:RD M r vl s rest
 g2:M.get b2=some (.cells true c)
 o2:am M b2
 g1:M.get b1=some (.cells true z)
 o1:am M b1
 hC:Chg [r] m M
section
variable {m0:NH} {L:List Tok} {vl:NV} {r b1 b2:D4} {rest z:List NV} {m M M':NH} {s s':Rs} {c c':List NV} {l:List (AK×NO)} {k:Nat}
theorem SC.call (h:SC m r b1 b2 vl rest z M s c) (h1:b1≠r) (h2:b2≠r) (hC:Chg [r] M M') (hd:RD M' r vl s' rest):SC m r b1 b2 vl rest z M' s' c:=
 ⟨hd,(hC.get h.o2 (by simpa using h2)).trans h.g2,hC.old h.o2,(hC.get h.o1 (by simpa using h1)).trans h.g1,hC.old h.o1,h.hC.trans hC fun _ h _=>h⟩
theorem SC.grow (h:SC m r b1 b2 vl rest z M s c) (hC:Chg [] M M'):SC m r b1 b2 vl rest z M' s c:=
 ⟨h.hd.chg hC (by simp),(hC.get h.o2 (by simp)).trans h.g2,hC.old h.o2,(hC.get h.o1 (by simp)).trans h.g1,hC.old h.o1,h.hC.tr hC⟩
theorem SC.put (h:SC m r b1 b2 vl rest z M s c) (h2:b2≠r) (h12:b1≠b2) (hn:¬am m b2) (hl:∀i∈aC l,i=b2):SC m r b1 b2 vl rest z (hp ((.o b2,.cells true c')::l) k M) s c':=by
 have hC:Chg [b2] M (hp ((.o b2,.cells true c')::l) k M):=(aI rfl).weak fun i hi _=>by
  simp only[aC,Xf] at hi ⊢
  rcases hi with rfl|hi
  ·exact Or.inl rfl
  ·exact Or.inl (hl i hi)
 exact ⟨h.hd.chg hC (by simpa using h2.symm),(aE h.o2).trans aq,hC.old h.o2,(hC.get h.o1 (by simpa using h12)).trans h.g1,hC.old h.o1,h.hC.trans hC fun i hi ho=>by
  have hi:=one hi;subst hi;exact W9 ho hn⟩
theorem SC.place (h:SC m r b1 b2 vl rest z M s c) (h1:b1≠r) (h12:b1≠b2) (hn:¬am m b2) (hC:Chg [r,b2] M M') (hd:RD M' r vl s' rest) (hg:M'.get b2=some (.cells true c')):SC m r b1 b2 vl rest z M' s' c':=
 ⟨hd,hg,hC.old h.o2,(hC.get h.o1 (by simp;exact ⟨h1,h12⟩)).trans h.g1,hC.old h.o1,h.hC.trans hC fun i hi ho=>by
  simp only[Xf,Xe,or_false] at hi
  rcases hi with rfl|rfl
  ·simp
  ·exact W9 ho hn⟩
theorem eM (hr:am m r) (hC:Chg [r] M M'):bz (TB m b1 b2) M M':=bz.of hC fun i hi hs=>by
 have hs:=one hs;subst hs;exact hi.1 hr
theorem dt (hl:∀i∈aC l,i=b2):bz (TB m b1 b2) M (hp l k M):=bz.of (aI rfl) fun i hi hs=>hi.2.2 (hl i hs)
theorem SC.tb (h:SC m r b1 b2 vl rest z M s c):∀i,pX M i->TB m b1 b2 i:=fun i hi=>⟨fun q=>hi (h.hC.old q),fun q=>hi (q▸h.o1),fun q=>hi (q▸h.o2)⟩
theorem SS.weak  {T':D4->Prop} (hT':∀i,T i->T' i) {l:List Stm} (h:SS m T v l C):SS m T' v l C:=⟨h.sl,fun i hi=>hT' i (h.hT i hi),h.len,fun i x c a b=>(h.R i x c a b).weak hT'⟩
theorem vE (m:NH) (T:D4->Prop):SS m T .nils [] []:=⟨Sl.nil,by simp[ids],rfl,by simp⟩
theorem RS.of  {k a:Int} {nm ce:List Nat} {i y:Ex} {e:List Stm} {ui ux uy ve:NV} (hi:RE m T i (i.l ui)) (hx:RE m T x (x.l ux)) (hy:RE m T y (y.l uy)) {B E:List (List NV)} (hb:SS m T vb b B) (he:SS m T ve e E):
 RS m T (.mk k a nm ce i x y b e) ((Stm.mk k a nm ce i x y b e).l ⟨ui,ux,uy,vb,ve⟩):= .mk hi hx hy hb.sl hb.hT hb.len hb.R he.sl he.hT he.len he.R
theorem js (m:NH) (T:D4->Prop):RE m T zE (zE.l .nils):=G1 m T 0 0 0 []
abbrev eG (k p:Int):List NV:= [ii k,ii p,.str [],.str [],ii 0,u64 0,u8 0,.str [],.nils,ii 0,u64 0,u8 0,.str [],.nils,ii 0,u64 0,u8 0,.str [],.nils,.nils,.nils]
end
section
variable {m0:NH} {L:List Tok} {vl:NV} {r:D4} {rest:List NV}
set_option maxHeartbeats 4000000 in
theorem Q0 (hc:RC m0 L vl r) (hst:∀s,St L s (B s).2) (hB:V6 m0 L vl r rest B (d+1)) (hd29:d<=29):Wy m0 L vl r rest (cU L B) d:=by
 intro m s h0 hd ha
 refine WF.ex fun K hK=> ?_
 refine WF.of_wpG (fun _=>rfl) yI (L:= [(.a .e,ii d),(.e,.ptr r 0)]) rfl ?_
 unfold KO
 have hll:=hc.len
 refine V9 (fun D=>∃t M b1 b2,D=⟨t, [],none,M⟩/\SC m r b1 b2 vl rest (eG 0 0) M s (eG 0 (aK L s.a).p)/\¬am m b1/\¬am m b2/\b1≠b2/\NT.get D4.e t=some (.ptr r 0)/\NT.get D4.e.a t=some (ii d)/\NT.get D4.e.f t=some (.ptr b1 0)/\NT.get D4.e.a.a t=some (.ptr b2 0)/\NT.get D4.e.a.b t=some (.bool true)) (fun R hR=> ?_) ?_
 ·simp only[go_sem,seval]
  generalize hM1:hp _ 1 m=M1
  have hC1:Chg [] m M1:=aR hM1 rfl
  have g1:M1.get (na m 0)=some (.cells true (eG 0 0)):=bu hM1
  have o1:am M1 (na m 0):=bt hM1 (by omega)
  refine WF.use1H (jQ hc (h0.tr hC1) (hd.chg hC1 (by simp))) ?_
  intro M2 hC2
  have hl3:(aK L s.a).l[3]? =some (ii (aK L s.a).p):=rfl
  simp (disch:=first|assumption|omega|(simp only[aG]<;>omega)) only[go_sem,seval,hl3]
  generalize hM3:hp _ 1 M2=M3
  have hC3:Chg [] M2 M3:=aR hM3 rfl
  have hC02:=hC1.tr hC2
  have hC03:=hC02.tr hC3
  have o12:=hC2.old o1
  refine hR _ ⟨_,M3,na m 0,na M2 0,rfl,⟨hd.chg hC03 (by simp), ?_, ?_,(hC3.get o12 (by simp)).trans ((hC2.get o1 (by simp)).trans g1),hC3.old o12,hC03.weak (by simp)⟩,aA,fun h=>aA (hC02.old h),fun e=>o12.ne 0 e,by simp only[go_sem,seval],by simp only[go_sem,seval],by simp only[go_sem,seval],by simp only[go_sem,seval],by simp only[go_sem,seval]⟩
  ·rw[←hM3];exact bI
  ·rw[←hM3];exact bN (by omega)
 rintro D ⟨t,M,b1,b2,rfl,hs,hn1,hn2,h12,g1,g2,g3,g4,g5⟩
 change wp _ _ _ _ ⟨ah [] t, [],none,M⟩ _
 have hr1:b1≠r:=fun e=>hn1 (e▸hd.o)
 have hr2:b2≠r:=fun e=>hn2 (e▸hd.o)
 have hr2':r≠b2:=fun e=>hr2 e.symm
 have hnb2:¬am m0 b2:=fun h=>hn2 (h0.old h)
 have hro:=hd.o
 refine iC (fun D=>∃t M x w s' q,D=⟨t, [],none,M⟩/\SC m r b1 b2 vl rest (eG 0 0) M s' (x.l w)/\RS M (TB m b1 b2) x (x.l w)/\(x,if q then a9 L [59] s' else s')=cU L B s/\s'.a<=L.length/\NT.get D4.e t=some (.ptr r 0)/\NT.get D4.e.f t=some (.ptr b1 0)/\NT.get D4.e.a.a t=some (.ptr b2 0)/\NT.get D4.e.a.b t=some (.bool q)) (fun R hR=> ?_) ?_
 ·have hbase:∀{M:NH} {s:Rs} {c:List NV},SC m r b1 b2 vl rest (eG 0 0) M s c->Chg [] m0 M:=fun h=>hc.chg h0 h.hC
  have hput:∀{M:NH} {s:Rs} {c c':List NV} {l:List (AK×NO)} {k:Nat},SC m r b1 b2 vl rest (eG 0 0) M s c->(∀i∈aC l,i=b2)->SC m r b1 b2 vl rest (eG 0 0) (hp ((.o b2,.cells true c')::l) k M) s c':=fun h hl=>h.put hr2 h12 hn2 hl
  generalize hpp:((aK L s.a).p:Int)=p at hs
  have fin:∀{t:Tm} {M:NH} {x:Stm} {w:SV} {s':Rs} {q:Bool},SC m r b1 b2 vl rest (eG 0 0) M s' (x.l w)->RS M (TB m b1 b2) x (x.l w)->(x,if q then a9 L [59] s' else s')=cU L B s->s'.a<=L.length->NT.get D4.e t=some (.ptr r 0)->NT.get D4.e.f t=some (.ptr b1 0)->NT.get D4.e.a.a t=some (.ptr b2 0)->NT.get D4.e.a.b t=some (.bool q)->R ⟨t, [],none,M⟩:=fun h1 h2 h3 h4 h5 h6 h7 h8=>hR _ ⟨_,_,_,_,_,_,rfl,h1,h2,h3,h4,h5,h6,h7,h8⟩
  rw[tW]
  simp only[go_sem,seval,g1,g2,g3,g4,g5,aa]
  refine WF.use1H (dS hc (hbase hs) hs.hd [115,101,116] (by simp) (by omega)) ?_
  rintro M0 ⟨hd0,hC0⟩
  cases hb0:aZ L [115,101,116] s with
  |true=>
   obtain ⟨he,hlt⟩:=bR hb0
   have hlim:(ak s).a<=L.length:=hlt
   rw[hb0,Xb rfl] at hd0
   replace hs:=hs.call hr1 hr2 hC0 hd0
   have hg2:=hs.g2
   have ho2:=hs.o2
   simp only[go_sem,seval,g1,g2,g3,g4,g5,hg2,aa]
   refine WF.use1H (nT hc (hbase hs) hs.hd (by omega)) ?_
   rintro N0_1 ⟨hd,hC⟩
   replace hs:=hs.call hr1 hr2 hC hd
   replace hlim:=(cX L _).lim hlim
   generalize hqs0_2:(bh L (ak s)).2=s0_2 at hs hlim
   generalize hqn0_3:(bh L (ak s)).1=n0_3
   have hg2:=hs.g2
   have ho2:=hs.o2
   simp (disch:=first|assumption|omega|(simp only[aG]<;>omega)) only[go_sem,seval,g1,g2,g3,g4,g5,hg2]
   generalize hMg:hp _ 0 _=M0_4
   have hs':SC m r b1 b2 vl rest (eG 0 0) M0_4 s0_2 [ii 0,ii p,.str n0_3,.str [],ii 0,u64 0,u8 0,.str [],.nils,ii 0,u64 0,u8 0,.str [],.nils,ii 0,u64 0,u8 0,.str [],.nils,.nils,.nils]:=by rw[←hMg];exact hput hs (by simp[aC])
   clear hMg
   replace hs:=hs'
   refine WF.useH (Oq hc (hbase hs) hs.hd hlim) ?_
   rintro v N0_5 ⟨⟨u0_6,rfl,hx⟩,hd,hC⟩
   have tX:=hx.weak hs.tb
   replace hs:=hs.call hr1 hr2 hC hd
   replace hlim:(fa L s0_2).2.a<=L.length:=(cQ L 30 _).lim hlim
   generalize hqs0_8:(fa L s0_2).2=s0_8 at hs hlim
   generalize hqx0_7:(fa L s0_2).1=x0_7 at tX
   clear hx hd
   have hxl:(x0_7.l u0_6).length=5:=rfl
   have hg2:=hs.g2
   have ho2:=hs.o2
   simp (disch:=first|assumption|omega|(simp only[aG]<;>omega)) only[go_sem,seval,g1,g2,g3,g4,g5,hg2]
   generalize hMg:hp _ 0 _=M0_9
   have hs':SC m r b1 b2 vl rest (eG 0 0) M0_9 s0_8 [ii 0,ii p,.str n0_3,.str [],ii 0,u64 0,u8 0,.str [],.nils,ii x0_7.k,u64 x0_7.n,u8 x0_7.o,.str x0_7.s,u0_6,ii 0,u64 0,u8 0,.str [],.nils,.nils,.nils]:=by rw[←hMg];exact hput hs (by simp[aC])
   replace tX:=tX.stays (m':=M0_9) (by rw[←hMg];exact dt (by simp[aC]))
   clear hMg
   replace hs:=hs'
   refine fin (x:= .mk 0 p n0_3 [] zE x0_7 zE [] []) (w:=⟨.nils,u0_6,.nils,.nils,.nils⟩) (s':=s0_8) (q:=true) hs (RS.of (js _ _) tX (js _ _) (vE _ _) (vE _ _)) ?_ hlim (by simp only[go_sem,seval,g1]) (by simp only[go_sem,seval,g3]) (by simp only[go_sem,seval,g4]) (by simp only[go_sem,seval,g5])
   rw[cU,Xb hb0,hpp]
   subst hqx0_7 hqs0_8 hqn0_3 hqs0_2
   rfl
  |false=>
  have ne0:¬(aZ L [115,101,116] s=true):=by rw[hb0];exact Bool.false_ne_true
  rw[hb0,Xa Bool.false_ne_true] at hd0
  replace hs:=hs.call hr1 hr2 hC0 hd0
  simp only[go_sem,seval,g1,g2,g3,g4,g5,aa]
  refine WF.use1H (dS hc (hbase hs) hs.hd [108,111,97,100] (by simp) (by omega)) ?_
  rintro M1 ⟨hd1,hC1⟩
  cases hb1:aZ L [108,111,97,100] s with
  |true=>
   obtain ⟨he,hlt⟩:=bR hb1
   have hlim:(ak s).a<=L.length:=hlt
   rw[hb1,Xb rfl] at hd1
   replace hs:=hs.call hr1 hr2 hC1 hd1
   have hg2:=hs.g2
   have ho2:=hs.o2
   simp (disch:=first|assumption|omega|(simp only[aG]<;>omega)) only[go_sem,seval,g1,g2,g3,g4,g5,hg2]
   generalize hMg:hp _ 0 _=M1_1
   have hs':SC m r b1 b2 vl rest (eG 0 0) M1_1 (ak s) [ii 1,ii p,.str [],.str [],ii 0,u64 0,u8 0,.str [],.nils,ii 0,u64 0,u8 0,.str [],.nils,ii 0,u64 0,u8 0,.str [],.nils,.nils,.nils]:=by rw[←hMg];exact hput hs (by simp[aC])
   clear hMg
   replace hs:=hs'
   refine WF.use1H (nT hc (hbase hs) hs.hd (by omega)) ?_
   rintro N1_2 ⟨hd,hC⟩
   replace hs:=hs.call hr1 hr2 hC hd
   replace hlim:=(cX L _).lim hlim
   generalize hqs1_3:(bh L (ak s)).2=s1_3 at hs hlim
   generalize hqn1_4:(bh L (ak s)).1=n1_4
   have hg2:=hs.g2
   have ho2:=hs.o2
   simp (disch:=first|assumption|omega|(simp only[aG]<;>omega)) only[go_sem,seval,g1,g2,g3,g4,g5,hg2]
   generalize hMg:hp _ 0 _=M1_5
   have hs':SC m r b1 b2 vl rest (eG 0 0) M1_5 s1_3 [ii 1,ii p,.str n1_4,.str [],ii 0,u64 0,u8 0,.str [],.nils,ii 0,u64 0,u8 0,.str [],.nils,ii 0,u64 0,u8 0,.str [],.nils,.nils,.nils]:=by rw[←hMg];exact hput hs (by simp[aC])
   clear hMg
   replace hs:=hs'
   refine WF.use1 (uz hc (hbase hs) hs.hd hlim hr2 hs.o2 hnb2 (by rfl) hs.g2) ?_
   rintro N1_6 ⟨u1_7,hg,hx,hd,hC⟩
   have tI:=hx.weak hs.tb
   replace hs:=hs.place hr1 h12 hn2 hC hd hg
   replace hlim:=(fA (L:=L) s1_3).lim hlim
   generalize hqs1_9:(bj L s1_3).2.2=s1_9 at hs hlim
   generalize hqx1_8:(bj L s1_3).2.1=x1_8 at hs tI
   generalize hqn1_10:(bj L s1_3).1=n1_10 at hs
   clear hx hd hg
   have hg2:=hs.g2
   have ho2:=hs.o2
   simp only[go_sem,seval,g1,g2,g3,g4,g5,hg2,aa]
   refine fin (x:= .mk 1 p n1_4 n1_10 x1_8 zE zE [] []) (w:=⟨u1_7,.nils,.nils,.nils,.nils⟩) (s':=s1_9) (q:=true) hs (RS.of tI (js _ _) (js _ _) (vE _ _) (vE _ _)) ?_ hlim (by simp only[go_sem,seval,g1]) (by simp only[go_sem,seval,g3]) (by simp only[go_sem,seval,g4]) (by simp only[go_sem,seval,g5])
   rw[cU,Xa ne0,Xb hb1,hpp]
   subst hqn1_10 hqx1_8 hqs1_9 hqn1_4 hqs1_3
   rfl
  |false=>
  have ne1:¬(aZ L [108,111,97,100] s=true):=by rw[hb1];exact Bool.false_ne_true
  rw[hb1,Xa Bool.false_ne_true] at hd1
  replace hs:=hs.call hr1 hr2 hC1 hd1
  simp only[go_sem,seval,g1,g2,g3,g4,g5,aa]
  refine WF.use1H (dS hc (hbase hs) hs.hd [115,116,111,114,101] (by simp) (by omega)) ?_
  rintro M2 ⟨hd2,hC2⟩
  cases hb2:aZ L [115,116,111,114,101] s with
  |true=>
   obtain ⟨he,hlt⟩:=bR hb2
   have hlim:(ak s).a<=L.length:=hlt
   rw[hb2,Xb rfl] at hd2
   replace hs:=hs.call hr1 hr2 hC2 hd2
   have hg2:=hs.g2
   have ho2:=hs.o2
   simp (disch:=first|assumption|omega|(simp only[aG]<;>omega)) only[go_sem,seval,g1,g2,g3,g4,g5,hg2]
   generalize hMg:hp _ 0 _=M2_1
   have hs':SC m r b1 b2 vl rest (eG 0 0) M2_1 (ak s) [ii 2,ii p,.str [],.str [],ii 0,u64 0,u8 0,.str [],.nils,ii 0,u64 0,u8 0,.str [],.nils,ii 0,u64 0,u8 0,.str [],.nils,.nils,.nils]:=by rw[←hMg];exact hput hs (by simp[aC])
   clear hMg
   replace hs:=hs'
   refine WF.use1 (uz hc (hbase hs) hs.hd hlim hr2 hs.o2 hnb2 (by rfl) hs.g2) ?_
   rintro N2_2 ⟨u2_3,hg,hx,hd,hC⟩
   have tI:=hx.weak hs.tb
   replace hs:=hs.place hr1 h12 hn2 hC hd hg
   replace hlim:=(fA (L:=L) (ak s)).lim hlim
   generalize hqs2_5:(bj L (ak s)).2.2=s2_5 at hs hlim
   generalize hqx2_4:(bj L (ak s)).2.1=x2_4 at hs tI
   generalize hqn2_6:(bj L (ak s)).1=n2_6 at hs
   clear hx hd hg
   have hg2:=hs.g2
   have ho2:=hs.o2
   simp only[go_sem,seval,g1,g2,g3,g4,g5,hg2,aa]
   refine WF.useH (Oq hc (hbase hs) hs.hd hlim) ?_
   rintro v N2_7 ⟨⟨u2_8,rfl,hx⟩,hd,hC⟩
   have tX:=hx.weak hs.tb
   replace hs:=hs.call hr1 hr2 hC hd
   replace tI:=tI.stays (eM hro hC)
   replace hlim:(fa L s2_5).2.a<=L.length:=(cQ L 30 _).lim hlim
   generalize hqs2_10:(fa L s2_5).2=s2_10 at hs hlim
   generalize hqx2_9:(fa L s2_5).1=x2_9 at tX
   clear hx hd
   have hxl:(x2_9.l u2_8).length=5:=rfl
   have hg2:=hs.g2
   have ho2:=hs.o2
   simp (disch:=first|assumption|omega|(simp only[aG]<;>omega)) only[go_sem,seval,g1,g2,g3,g4,g5,hg2]
   generalize hMg:hp _ 0 _=M2_11
   have hs':SC m r b1 b2 vl rest (eG 0 0) M2_11 s2_10 [ii 2,ii p,.str [],.str n2_6,ii x2_4.k,u64 x2_4.n,u8 x2_4.o,.str x2_4.s,u2_3,ii x2_9.k,u64 x2_9.n,u8 x2_9.o,.str x2_9.s,u2_8,ii 0,u64 0,u8 0,.str [],.nils,.nils,.nils]:=by rw[←hMg];exact hput hs (by simp[aC])
   replace tI:=tI.stays (m':=M2_11) (by rw[←hMg];exact dt (by simp[aC]))
   replace tX:=tX.stays (m':=M2_11) (by rw[←hMg];exact dt (by simp[aC]))
   clear hMg
   replace hs:=hs'
   refine fin (x:= .mk 2 p [] n2_6 x2_4 x2_9 zE [] []) (w:=⟨u2_3,u2_8,.nils,.nils,.nils⟩) (s':=s2_10) (q:=true) hs (RS.of tI tX (js _ _) (vE _ _) (vE _ _)) ?_ hlim (by simp only[go_sem,seval,g1]) (by simp only[go_sem,seval,g3]) (by simp only[go_sem,seval,g4]) (by simp only[go_sem,seval,g5])
   rw[cU,Xa ne0,Xa ne1,Xb hb2,hpp]
   subst hqx2_9 hqs2_10 hqn2_6 hqx2_4 hqs2_5
   rfl
  |false=>
  have ne2:¬(aZ L [115,116,111,114,101] s=true):=by rw[hb2];exact Bool.false_ne_true
  rw[hb2,Xa Bool.false_ne_true] at hd2
  replace hs:=hs.call hr1 hr2 hC2 hd2
  simp only[go_sem,seval,g1,g2,g3,g4,g5,aa]
  refine WF.use1H (dS hc (hbase hs) hs.hd [99,97,115] (by simp) (by omega)) ?_
  rintro M3 ⟨hd3,hC3⟩
  cases hb3:aZ L [99,97,115] s with
  |true=>
   obtain ⟨he,hlt⟩:=bR hb3
   have hlim:(ak s).a<=L.length:=hlt
   rw[hb3,Xb rfl] at hd3
   replace hs:=hs.call hr1 hr2 hC3 hd3
   have hg2:=hs.g2
   have ho2:=hs.o2
   simp (disch:=first|assumption|omega|(simp only[aG]<;>omega)) only[go_sem,seval,g1,g2,g3,g4,g5,hg2]
   generalize hMg:hp _ 0 _=M3_1
   have hs':SC m r b1 b2 vl rest (eG 0 0) M3_1 (ak s) [ii 3,ii p,.str [],.str [],ii 0,u64 0,u8 0,.str [],.nils,ii 0,u64 0,u8 0,.str [],.nils,ii 0,u64 0,u8 0,.str [],.nils,.nils,.nils]:=by rw[←hMg];exact hput hs (by simp[aC])
   clear hMg
   replace hs:=hs'
   refine WF.use1H (nT hc (hbase hs) hs.hd (by omega)) ?_
   rintro N3_2 ⟨hd,hC⟩
   replace hs:=hs.call hr1 hr2 hC hd
   replace hlim:=(cX L _).lim hlim
   generalize hqs3_3:(bh L (ak s)).2=s3_3 at hs hlim
   generalize hqn3_4:(bh L (ak s)).1=n3_4
   have hg2:=hs.g2
   have ho2:=hs.o2
   simp (disch:=first|assumption|omega|(simp only[aG]<;>omega)) only[go_sem,seval,g1,g2,g3,g4,g5,hg2]
   generalize hMg:hp _ 0 _=M3_5
   have hs':SC m r b1 b2 vl rest (eG 0 0) M3_5 s3_3 [ii 3,ii p,.str n3_4,.str [],ii 0,u64 0,u8 0,.str [],.nils,ii 0,u64 0,u8 0,.str [],.nils,ii 0,u64 0,u8 0,.str [],.nils,.nils,.nils]:=by rw[←hMg];exact hput hs (by simp[aC])
   clear hMg
   replace hs:=hs'
   refine WF.use1 (uz hc (hbase hs) hs.hd hlim hr2 hs.o2 hnb2 (by rfl) hs.g2) ?_
   rintro N3_6 ⟨u3_7,hg,hx,hd,hC⟩
   have tI:=hx.weak hs.tb
   replace hs:=hs.place hr1 h12 hn2 hC hd hg
   replace hlim:=(fA (L:=L) s3_3).lim hlim
   generalize hqs3_9:(bj L s3_3).2.2=s3_9 at hs hlim
   generalize hqx3_8:(bj L s3_3).2.1=x3_8 at hs tI
   generalize hqn3_10:(bj L s3_3).1=n3_10 at hs
   clear hx hd hg
   have hg2:=hs.g2
   have ho2:=hs.o2
   simp only[go_sem,seval,g1,g2,g3,g4,g5,hg2,aa]
   refine WF.useH (Oq hc (hbase hs) hs.hd hlim) ?_
   rintro v N3_11 ⟨⟨u3_12,rfl,hx⟩,hd,hC⟩
   have tX:=hx.weak hs.tb
   replace hs:=hs.call hr1 hr2 hC hd
   replace tI:=tI.stays (eM hro hC)
   replace hlim:(fa L s3_9).2.a<=L.length:=(cQ L 30 _).lim hlim
   generalize hqs3_14:(fa L s3_9).2=s3_14 at hs hlim
   generalize hqx3_13:(fa L s3_9).1=x3_13 at tX
   clear hx hd
   have hxl:(x3_13.l u3_12).length=5:=rfl
   have hg2:=hs.g2
   have ho2:=hs.o2
   simp (disch:=first|assumption|omega|(simp only[aG]<;>omega)) only[go_sem,seval,g1,g2,g3,g4,g5,hg2]
   generalize hMg:hp _ 0 _=M3_15
   have hs':SC m r b1 b2 vl rest (eG 0 0) M3_15 s3_14 [ii 3,ii p,.str n3_4,.str n3_10,ii x3_8.k,u64 x3_8.n,u8 x3_8.o,.str x3_8.s,u3_7,ii x3_13.k,u64 x3_13.n,u8 x3_13.o,.str x3_13.s,u3_12,ii 0,u64 0,u8 0,.str [],.nils,.nils,.nils]:=by rw[←hMg];exact hput hs (by simp[aC])
   replace tI:=tI.stays (m':=M3_15) (by rw[←hMg];exact dt (by simp[aC]))
   replace tX:=tX.stays (m':=M3_15) (by rw[←hMg];exact dt (by simp[aC]))
   clear hMg
   replace hs:=hs'
   refine WF.useH (Oq hc (hbase hs) hs.hd hlim) ?_
   rintro v N3_16 ⟨⟨u3_17,rfl,hx⟩,hd,hC⟩
   have tY:=hx.weak hs.tb
   replace hs:=hs.call hr1 hr2 hC hd
   replace tI:=tI.stays (eM hro hC)
   replace tX:=tX.stays (eM hro hC)
   replace hlim:(fa L s3_14).2.a<=L.length:=(cQ L 30 _).lim hlim
   generalize hqs3_19:(fa L s3_14).2=s3_19 at hs hlim
   generalize hqx3_18:(fa L s3_14).1=x3_18 at tY
   clear hx hd
   have hxl:(x3_18.l u3_17).length=5:=rfl
   have hg2:=hs.g2
   have ho2:=hs.o2
   simp (disch:=first|assumption|omega|(simp only[aG]<;>omega)) only[go_sem,seval,g1,g2,g3,g4,g5,hg2]
   generalize hMg:hp _ 0 _=M3_20
   have hs':SC m r b1 b2 vl rest (eG 0 0) M3_20 s3_19 [ii 3,ii p,.str n3_4,.str n3_10,ii x3_8.k,u64 x3_8.n,u8 x3_8.o,.str x3_8.s,u3_7,ii x3_13.k,u64 x3_13.n,u8 x3_13.o,.str x3_13.s,u3_12,ii x3_18.k,u64 x3_18.n,u8 x3_18.o,.str x3_18.s,u3_17,.nils,.nils]:=by rw[←hMg];exact hput hs (by simp[aC])
   replace tI:=tI.stays (m':=M3_20) (by rw[←hMg];exact dt (by simp[aC]))
   replace tX:=tX.stays (m':=M3_20) (by rw[←hMg];exact dt (by simp[aC]))
   replace tY:=tY.stays (m':=M3_20) (by rw[←hMg];exact dt (by simp[aC]))
   clear hMg
   replace hs:=hs'
   refine fin (x:= .mk 3 p n3_4 n3_10 x3_8 x3_13 x3_18 [] []) (w:=⟨u3_7,u3_12,u3_17,.nils,.nils⟩) (s':=s3_19) (q:=true) hs (RS.of tI tX tY (vE _ _) (vE _ _)) ?_ hlim (by simp only[go_sem,seval,g1]) (by simp only[go_sem,seval,g3]) (by simp only[go_sem,seval,g4]) (by simp only[go_sem,seval,g5])
   rw[cU,Xa ne0,Xa ne1,Xa ne2,Xb hb3,hpp]
   subst hqx3_18 hqs3_19 hqx3_13 hqs3_14 hqn3_10 hqx3_8 hqs3_9 hqn3_4 hqs3_3
   rfl
  |false=>
  have ne3:¬(aZ L [99,97,115] s=true):=by rw[hb3];exact Bool.false_ne_true
  rw[hb3,Xa Bool.false_ne_true] at hd3
  replace hs:=hs.call hr1 hr2 hC3 hd3
  simp only[go_sem,seval,g1,g2,g3,g4,g5,aa]
  refine WF.use1H (dS hc (hbase hs) hs.hd [102,101,110,99,101] (by simp) (by omega)) ?_
  rintro M4 ⟨hd4,hC4⟩
  cases hb4:aZ L [102,101,110,99,101] s with
  |true=>
   obtain ⟨he,hlt⟩:=bR hb4
   have hlim:(ak s).a<=L.length:=hlt
   rw[hb4,Xb rfl] at hd4
   replace hs:=hs.call hr1 hr2 hC4 hd4
   have hg2:=hs.g2
   have ho2:=hs.o2
   simp (disch:=first|assumption|omega|(simp only[aG]<;>omega)) only[go_sem,seval,g1,g2,g3,g4,g5,hg2]
   generalize hMg:hp _ 0 _=M4_1
   have hs':SC m r b1 b2 vl rest (eG 0 0) M4_1 (ak s) [ii 4,ii p,.str [],.str [],ii 0,u64 0,u8 0,.str [],.nils,ii 0,u64 0,u8 0,.str [],.nils,ii 0,u64 0,u8 0,.str [],.nils,.nils,.nils]:=by rw[←hMg];exact hput hs (by simp[aC])
   clear hMg
   replace hs:=hs'
   refine fin (x:= .mk 4 p [] [] zE zE zE [] []) (w:=⟨.nils,.nils,.nils,.nils,.nils⟩) (s':=(ak s)) (q:=true) hs (RS.of (js _ _) (js _ _) (js _ _) (vE _ _) (vE _ _)) ?_ hlim (by simp only[go_sem,seval,g1]) (by simp only[go_sem,seval,g3]) (by simp only[go_sem,seval,g4]) (by simp only[go_sem,seval,g5])
   rw[cU,Xa ne0,Xa ne1,Xa ne2,Xa ne3,Xb hb4,hpp]
   rfl
  |false=>
  have ne4:¬(aZ L [102,101,110,99,101] s=true):=by rw[hb4];exact Bool.false_ne_true
  rw[hb4,Xa Bool.false_ne_true] at hd4
  replace hs:=hs.call hr1 hr2 hC4 hd4
  simp only[go_sem,seval,g1,g2,g3,g4,g5,aa]
  refine WF.use1H (dS hc (hbase hs) hs.hd [111,117,116] (by simp) (by omega)) ?_
  rintro M5 ⟨hd5,hC5⟩
  cases hb5:aZ L [111,117,116] s with
  |true=>
   obtain ⟨he,hlt⟩:=bR hb5
   have hlim:(ak s).a<=L.length:=hlt
   rw[hb5,Xb rfl] at hd5
   replace hs:=hs.call hr1 hr2 hC5 hd5
   have hg2:=hs.g2
   have ho2:=hs.o2
   simp (disch:=first|assumption|omega|(simp only[aG]<;>omega)) only[go_sem,seval,g1,g2,g3,g4,g5,hg2]
   generalize hMg:hp _ 0 _=M5_1
   have hs':SC m r b1 b2 vl rest (eG 0 0) M5_1 (ak s) [ii 5,ii p,.str [],.str [],ii 0,u64 0,u8 0,.str [],.nils,ii 0,u64 0,u8 0,.str [],.nils,ii 0,u64 0,u8 0,.str [],.nils,.nils,.nils]:=by rw[←hMg];exact hput hs (by simp[aC])
   clear hMg
   replace hs:=hs'
   refine WF.useH (Oq hc (hbase hs) hs.hd hlim) ?_
   rintro v N5_2 ⟨⟨u5_3,rfl,hx⟩,hd,hC⟩
   have tX:=hx.weak hs.tb
   replace hs:=hs.call hr1 hr2 hC hd
   replace hlim:(fa L (ak s)).2.a<=L.length:=(cQ L 30 _).lim hlim
   generalize hqs5_5:(fa L (ak s)).2=s5_5 at hs hlim
   generalize hqx5_4:(fa L (ak s)).1=x5_4 at tX
   clear hx hd
   have hxl:(x5_4.l u5_3).length=5:=rfl
   have hg2:=hs.g2
   have ho2:=hs.o2
   simp (disch:=first|assumption|omega|(simp only[aG]<;>omega)) only[go_sem,seval,g1,g2,g3,g4,g5,hg2]
   generalize hMg:hp _ 0 _=M5_6
   have hs':SC m r b1 b2 vl rest (eG 0 0) M5_6 s5_5 [ii 5,ii p,.str [],.str [],ii 0,u64 0,u8 0,.str [],.nils,ii x5_4.k,u64 x5_4.n,u8 x5_4.o,.str x5_4.s,u5_3,ii 0,u64 0,u8 0,.str [],.nils,.nils,.nils]:=by rw[←hMg];exact hput hs (by simp[aC])
   replace tX:=tX.stays (m':=M5_6) (by rw[←hMg];exact dt (by simp[aC]))
   clear hMg
   replace hs:=hs'
   refine fin (x:= .mk 5 p [] [] zE x5_4 zE [] []) (w:=⟨.nils,u5_3,.nils,.nils,.nils⟩) (s':=s5_5) (q:=true) hs (RS.of (js _ _) tX (js _ _) (vE _ _) (vE _ _)) ?_ hlim (by simp only[go_sem,seval,g1]) (by simp only[go_sem,seval,g3]) (by simp only[go_sem,seval,g4]) (by simp only[go_sem,seval,g5])
   rw[cU,Xa ne0,Xa ne1,Xa ne2,Xa ne3,Xa ne4,Xb hb5,hpp]
   subst hqx5_4 hqs5_5
   rfl
  |false=>
  have ne5:¬(aZ L [111,117,116] s=true):=by rw[hb5];exact Bool.false_ne_true
  rw[hb5,Xa Bool.false_ne_true] at hd5
  replace hs:=hs.call hr1 hr2 hC5 hd5
  simp only[go_sem,seval,g1,g2,g3,g4,g5,aa]
  refine WF.use1H (dS hc (hbase hs) hs.hd [105,102] (by simp) (by omega)) ?_
  rintro M6 ⟨hd6,hC6⟩
  cases hb6:aZ L [105,102] s with
  |true=>
   obtain ⟨he,hlt⟩:=bR hb6
   have hlim:(ak s).a<=L.length:=hlt
   rw[hb6,Xb rfl] at hd6
   replace hs:=hs.call hr1 hr2 hC6 hd6
   have hg2:=hs.g2
   have ho2:=hs.o2
   simp (disch:=first|assumption|omega|(simp only[aG]<;>omega)) only[go_sem,seval,g1,g2,g3,g4,g5,hg2]
   generalize hMg:hp _ 0 _=M6_1
   have hs':SC m r b1 b2 vl rest (eG 0 0) M6_1 (ak s) [ii 6,ii p,.str [],.str [],ii 0,u64 0,u8 0,.str [],.nils,ii 0,u64 0,u8 0,.str [],.nils,ii 0,u64 0,u8 0,.str [],.nils,.nils,.nils]:=by rw[←hMg];exact hput hs (by simp[aC])
   clear hMg
   replace hs:=hs'
   refine WF.useH (Oq hc (hbase hs) hs.hd hlim) ?_
   rintro v N6_2 ⟨⟨u6_3,rfl,hx⟩,hd,hC⟩
   have tX:=hx.weak hs.tb
   replace hs:=hs.call hr1 hr2 hC hd
   replace hlim:(fa L (ak s)).2.a<=L.length:=(cQ L 30 _).lim hlim
   generalize hqs6_5:(fa L (ak s)).2=s6_5 at hs hlim
   generalize hqx6_4:(fa L (ak s)).1=x6_4 at tX
   clear hx hd
   have hxl:(x6_4.l u6_3).length=5:=rfl
   have hg2:=hs.g2
   have ho2:=hs.o2
   simp (disch:=first|assumption|omega|(simp only[aG]<;>omega)) only[go_sem,seval,g1,g2,g3,g4,g5,hg2]
   generalize hMg:hp _ 0 _=M6_6
   have hs':SC m r b1 b2 vl rest (eG 0 0) M6_6 s6_5 [ii 6,ii p,.str [],.str [],ii 0,u64 0,u8 0,.str [],.nils,ii x6_4.k,u64 x6_4.n,u8 x6_4.o,.str x6_4.s,u6_3,ii 0,u64 0,u8 0,.str [],.nils,.nils,.nils]:=by rw[←hMg];exact hput hs (by simp[aC])
   replace tX:=tX.stays (m':=M6_6) (by rw[←hMg];exact dt (by simp[aC]))
   clear hMg
   replace hs:=hs'
   refine WF.useH (hB (hbase hs) hs.hd hlim) ?_
   rintro v6_8 N6_7 ⟨⟨C6_9,hx⟩,hd,hC⟩
   have tB:=hx.weak hs.tb
   replace hs:=hs.call hr1 hr2 hC hd
   replace tX:=tX.stays (eM hro hC)
   replace hlim:=(hst s6_5).lim hlim
   generalize hqs6_11:(B s6_5).2=s6_11 at hs hlim
   generalize hql6_10:(B s6_5).1=l6_10 at tB
   clear hx hd
   have hg2:=hs.g2
   have ho2:=hs.o2
   simp (disch:=first|assumption|omega|(simp only[aG]<;>omega)) only[go_sem,seval,g1,g2,g3,g4,g5,hg2,tB.sl.one]
   generalize hMg:hp _ 0 _=M6_12
   have hs':SC m r b1 b2 vl rest (eG 0 0) M6_12 s6_11 [ii 6,ii p,.str [],.str [],ii 0,u64 0,u8 0,.str [],.nils,ii x6_4.k,u64 x6_4.n,u8 x6_4.o,.str x6_4.s,u6_3,ii 0,u64 0,u8 0,.str [],.nils,v6_8,.nils]:=by rw[←hMg];exact hput hs (by simp[aC])
   replace tX:=tX.stays (m':=M6_12) (by rw[←hMg];exact dt (by simp[aC]))
   replace tB:=tB.stays (m':=M6_12) (by rw[←hMg];exact dt (by simp[aC]))
   clear hMg
   replace hs:=hs'
   refine WF.use1H (dS hc (hbase hs) hs.hd [101,108,115,101] (by simp) (by omega)) ?_
   rintro Me ⟨hde,hCe⟩
   replace hs':=hs.call hr1 hr2 hCe hde
   replace tX:=tX.stays (eM hro hCe)
   replace tB:=tB.stays (eM hro hCe)
   cases hbe:aZ L [101,108,115,101] s6_11 with
   |true=>
    rw[hbe,Xb rfl] at hs'
    replace hs:=hs'
    have hlim:(ak s6_11).a<=L.length:=(bR hbe).2
    have hg2:=hs.g2
    have ho2:=hs.o2
    simp (disch:=first|assumption|omega) only[go_sem,seval,g1,g2,g3,g4,g5,hg2,tB.sl.one,aa]
    refine WF.useH (hB (hbase hs) hs.hd hlim) ?_
    rintro v6t_14 N6t_13 ⟨⟨C6t_15,hx⟩,hd,hC⟩
    have tE:=hx.weak hs.tb
    replace hs:=hs.call hr1 hr2 hC hd
    replace tX:=tX.stays (eM hro hC)
    replace tB:=tB.stays (eM hro hC)
    replace hlim:=(hst (ak s6_11)).lim hlim
    generalize hqs6t_17:(B (ak s6_11)).2=s6t_17 at hs hlim
    generalize hql6t_16:(B (ak s6_11)).1=l6t_16 at tE
    clear hx hd
    have hg2:=hs.g2
    have ho2:=hs.o2
    simp (disch:=first|assumption|omega|(simp only[aG]<;>omega)) only[go_sem,seval,g1,g2,g3,g4,g5,hg2,tB.sl.one,tE.sl.one]
    generalize hMg:hp _ 0 _=M6t_18
    have hs':SC m r b1 b2 vl rest (eG 0 0) M6t_18 s6t_17 [ii 6,ii p,.str [],.str [],ii 0,u64 0,u8 0,.str [],.nils,ii x6_4.k,u64 x6_4.n,u8 x6_4.o,.str x6_4.s,u6_3,ii 0,u64 0,u8 0,.str [],.nils,v6_8,v6t_14]:=by rw[←hMg];exact hput hs (by simp[aC])
    replace tX:=tX.stays (m':=M6t_18) (by rw[←hMg];exact dt (by simp[aC]))
    replace tB:=tB.stays (m':=M6t_18) (by rw[←hMg];exact dt (by simp[aC]))
    replace tE:=tE.stays (m':=M6t_18) (by rw[←hMg];exact dt (by simp[aC]))
    clear hMg
    replace hs:=hs'
    refine fin (x:= .mk 6 p [] [] zE x6_4 zE l6_10 l6t_16) (w:=⟨.nils,u6_3,.nils,v6_8,v6t_14⟩) (s':=s6t_17) (q:=false) hs (RS.of (js _ _) tX (js _ _) tB tE) ?_ hlim (by simp only[go_sem,seval,g1]) (by simp only[go_sem,seval,g3]) (by simp only[go_sem,seval,g4]) (by simp only[go_sem,seval,g5])
    rw[cU,Xa ne0,Xa ne1,Xa ne2,Xa ne3,Xa ne4,Xa ne5,Xb hb6,hpp]
    subst hql6t_16 hqs6t_17 hql6_10 hqs6_11 hqx6_4 hqs6_5
    rw[Ox,Xb hbe];rfl
   |false=>
    rw[hbe,Xa Bool.false_ne_true] at hs'
    replace hs:=hs'
    have nee:¬(aZ L [101,108,115,101] s6_11=true):=by rw[hbe];exact Bool.false_ne_true
    have hg2:=hs.g2
    have ho2:=hs.o2
    simp only[go_sem,seval,g1,g2,g3,g4,g5,hg2,tB.sl.one,aa]
    refine fin (x:= .mk 6 p [] [] zE x6_4 zE l6_10 []) (w:=⟨.nils,u6_3,.nils,v6_8,.nils⟩) (s':=s6_11) (q:=false) hs (RS.of (js _ _) tX (js _ _) tB (vE _ _)) ?_ hlim (by simp only[go_sem,seval,g1]) (by simp only[go_sem,seval,g3]) (by simp only[go_sem,seval,g4]) (by simp only[go_sem,seval,g5])
    rw[cU,Xa ne0,Xa ne1,Xa ne2,Xa ne3,Xa ne4,Xa ne5,Xb hb6,hpp]
    subst hql6_10 hqs6_11 hqx6_4 hqs6_5
    rw[Ox,Xa nee];rfl
  |false=>
  have ne6:¬(aZ L [105,102] s=true):=by rw[hb6];exact Bool.false_ne_true
  rw[hb6,Xa Bool.false_ne_true] at hd6
  replace hs:=hs.call hr1 hr2 hC6 hd6
  simp only[go_sem,seval,g1,g2,g3,g4,g5,aa]
  refine WF.use1H (dS hc (hbase hs) hs.hd [119,104,105,108,101] (by simp) (by omega)) ?_
  rintro M7 ⟨hd7,hC7⟩
  cases hb7:aZ L [119,104,105,108,101] s with
  |true=>
   obtain ⟨he,hlt⟩:=bR hb7
   have hlim:(ak s).a<=L.length:=hlt
   rw[hb7,Xb rfl] at hd7
   replace hs:=hs.call hr1 hr2 hC7 hd7
   have hg2:=hs.g2
   have ho2:=hs.o2
   simp (disch:=first|assumption|omega|(simp only[aG]<;>omega)) only[go_sem,seval,g1,g2,g3,g4,g5,hg2]
   generalize hMg:hp _ 0 _=M7_1
   have hs':SC m r b1 b2 vl rest (eG 0 0) M7_1 (ak s) [ii 7,ii p,.str [],.str [],ii 0,u64 0,u8 0,.str [],.nils,ii 0,u64 0,u8 0,.str [],.nils,ii 0,u64 0,u8 0,.str [],.nils,.nils,.nils]:=by rw[←hMg];exact hput hs (by simp[aC])
   clear hMg
   replace hs:=hs'
   refine WF.useH (Oq hc (hbase hs) hs.hd hlim) ?_
   rintro v N7_2 ⟨⟨u7_3,rfl,hx⟩,hd,hC⟩
   have tX:=hx.weak hs.tb
   replace hs:=hs.call hr1 hr2 hC hd
   replace hlim:(fa L (ak s)).2.a<=L.length:=(cQ L 30 _).lim hlim
   generalize hqs7_5:(fa L (ak s)).2=s7_5 at hs hlim
   generalize hqx7_4:(fa L (ak s)).1=x7_4 at tX
   clear hx hd
   have hxl:(x7_4.l u7_3).length=5:=rfl
   have hg2:=hs.g2
   have ho2:=hs.o2
   simp (disch:=first|assumption|omega|(simp only[aG]<;>omega)) only[go_sem,seval,g1,g2,g3,g4,g5,hg2]
   generalize hMg:hp _ 0 _=M7_6
   have hs':SC m r b1 b2 vl rest (eG 0 0) M7_6 s7_5 [ii 7,ii p,.str [],.str [],ii 0,u64 0,u8 0,.str [],.nils,ii x7_4.k,u64 x7_4.n,u8 x7_4.o,.str x7_4.s,u7_3,ii 0,u64 0,u8 0,.str [],.nils,.nils,.nils]:=by rw[←hMg];exact hput hs (by simp[aC])
   replace tX:=tX.stays (m':=M7_6) (by rw[←hMg];exact dt (by simp[aC]))
   clear hMg
   replace hs:=hs'
   refine WF.useH (hB (hbase hs) hs.hd hlim) ?_
   rintro v7_8 N7_7 ⟨⟨C7_9,hx⟩,hd,hC⟩
   have tB:=hx.weak hs.tb
   replace hs:=hs.call hr1 hr2 hC hd
   replace tX:=tX.stays (eM hro hC)
   replace hlim:=(hst s7_5).lim hlim
   generalize hqs7_11:(B s7_5).2=s7_11 at hs hlim
   generalize hql7_10:(B s7_5).1=l7_10 at tB
   clear hx hd
   have hg2:=hs.g2
   have ho2:=hs.o2
   simp (disch:=first|assumption|omega|(simp only[aG]<;>omega)) only[go_sem,seval,g1,g2,g3,g4,g5,hg2,tB.sl.one]
   generalize hMg:hp _ 0 _=M7_12
   have hs':SC m r b1 b2 vl rest (eG 0 0) M7_12 s7_11 [ii 7,ii p,.str [],.str [],ii 0,u64 0,u8 0,.str [],.nils,ii x7_4.k,u64 x7_4.n,u8 x7_4.o,.str x7_4.s,u7_3,ii 0,u64 0,u8 0,.str [],.nils,v7_8,.nils]:=by rw[←hMg];exact hput hs (by simp[aC])
   replace tX:=tX.stays (m':=M7_12) (by rw[←hMg];exact dt (by simp[aC]))
   replace tB:=tB.stays (m':=M7_12) (by rw[←hMg];exact dt (by simp[aC]))
   clear hMg
   replace hs:=hs'
   refine fin (x:= .mk 7 p [] [] zE x7_4 zE l7_10 []) (w:=⟨.nils,u7_3,.nils,v7_8,.nils⟩) (s':=s7_11) (q:=false) hs (RS.of (js _ _) tX (js _ _) tB (vE _ _)) ?_ hlim (by simp only[go_sem,seval,g1]) (by simp only[go_sem,seval,g3]) (by simp only[go_sem,seval,g4]) (by simp only[go_sem,seval,g5])
   rw[cU,Xa ne0,Xa ne1,Xa ne2,Xa ne3,Xa ne4,Xa ne5,Xa ne6,Xb hb7,hpp]
   subst hql7_10 hqs7_11 hqx7_4 hqs7_5
   rfl
  |false=>
  have ne7:¬(aZ L [119,104,105,108,101] s=true):=by rw[hb7];exact Bool.false_ne_true
  rw[hb7,Xa Bool.false_ne_true] at hd7
  replace hs:=hs.call hr1 hr2 hC7 hd7
  simp only[go_sem,seval,g1,g2,g3,g4,g5,aa]
  refine WF.use1 (i7 hs.hd 2) ?_
  rintro M9 ⟨hd9,hC9⟩
  replace hs:=hs.call hr1 hr2 hC9 hd9
  have hlim:=(cL L 2 s).lim ha
  simp only[go_sem,seval,g1,g2,g3,g4,g5]
  refine fin (x:= .mk 0 p [] [] zE zE zE [] []) (w:=⟨.nils,.nils,.nils,.nils,.nils⟩) (s':=bD 2 s) (q:=true) hs (RS.of (js _ _) (js _ _) (js _ _) (vE _ _) (vE _ _)) ?_ hlim (by simp only[go_sem,seval,g1]) (by simp only[go_sem,seval,g3]) (by simp only[go_sem,seval,g4]) (by simp only[go_sem,seval,g5])
  rw[cU,Xa ne0,Xa ne1,Xa ne2,Xa ne3,Xa ne4,Xa ne5,Xa ne6,Xa ne7,hpp]
  rfl
 clear g1 g2 g3 g4 g5 hs
 rintro D ⟨t,M,x,w,s',q,rfl,hs,hx,hE,ha',g1,g3,g4,g5⟩
 change wp _ _ _ _ ⟨ah [] t, [],none,M⟩ _
 rw[←hE] at hK
 have hxl:(x.l w).length=21:=rfl
 have hxl':(x.l w).take 21=x.l w:=rfl
 have fin:∀{M s''},SC m r b1 b2 vl rest (eG 0 0) M s'' (x.l w)->RS M (TB m b1 b2) x (x.l w)->(if q then a9 L [59] s' else s')=s''->K (.agg (x.l w)) (hp [(.o b1,.cells true (x.l w))] 0 M):=fun {M s''} h1 h2 h3=>by
  have hC:Chg [b1] M (hp [(.o b1,.cells true (x.l w))] 0 M):=aI rfl
  refine hK _ _ ⟨⟨w,rfl,(h2.stays (bz.of hC fun i hi hs=> ?_)).weak fun i hi=>hi.1⟩, ?_,h1.hC.trans hC fun i hi ho=> ?_⟩
  ·simp only[Xf,Xe,or_false] at hs;exact hi.2.1 hs
  ·show RD _ r vl (if q then a9 L [59] s' else s') rest
   rw[h3];exact h1.hd.chg hC (by simpa using fun e=>hr1 e.symm)
  ·have hi:=one hi;subst hi;exact W9 ho hn1
 cases q with
 |true=>
  simp only[go_sem,seval,g1,g3,g4,g5,aa]
  refine WF.use1H (iw hc (hc.chg h0 hs.hC) hs.hd [59] (by simp) (by omega)) ?_
  rintro M2 ⟨hd2,hC2⟩
  have hs2:=hs.call hr1 hr2 hC2 hd2
  have hg2:=hs2.g2
  have hg1:=hs2.g1
  have ho1:=hs2.o1
  have ho2:=hs2.o2
  simp (disch:=first|assumption|omega|(simp only[aG]<;>omega)) only[go_sem,seval,g1,g3,g4,g5,hg2,hg1,hxl,hxl']
  exact fin hs2 (hx.stays (eM hro hC2)) rfl
 |false=>
  have hg2:=hs.g2
  have hg1:=hs.g1
  have ho1:=hs.o1
  have ho2:=hs.o2
  rw[←aa M]
  simp (disch:=first|assumption|omega|(simp only[aG]<;>omega)) only[go_sem,seval,g1,g3,g4,g5,hg2,hg1,hxl,hxl']
  exact fin hs hx rfl
end
section
variable {L:List Tok}
theorem jT (s:Rs):St L s (fa L s).2:=cQ L 30 s
theorem lk {x:Stm} {s s':Rs} (h:St L s s'):St L s (vN L x s').2:=h.trans (cr _ _ _)
theorem Qv (p:Int) (s:Rs):St L s (Tb L p s).2:=lk ((cX L s).trans (jT _))
theorem MP (p:Int) (s:Rs):St L s (Ol L p s).2:=lk ((cX L s).trans (fA _))
theorem J7 (p:Int) (s:Rs):St L s (HA L p s).2:=lk ((fA s).trans (jT _))
theorem Pt (p:Int) (s:Rs):St L s (S3 L p s).2:=lk ((((cX L s).trans (fA _)).trans (jT _)).trans (jT _))
theorem R6 (p:Int) (s:Rs):St L s (TM L p s).2:=lk (jT _)
theorem UZ  (hB:∀s,St L s (B s).2) (p:Int) (s:Rs):St L s (Ox L B p s).2:=by
 unfold Ox
 have h:=(jT (L:=L) s).trans (hB _)
 split
 ·rename_i q;exact (h.trans (fi q)).trans (hB _)
 ·exact h
theorem IB  (hB:∀s,St L s (B s).2) (p:Int) (s:Rs):St L s (KK L B p s).2:=(jT s).trans (hB _)
theorem xD  (hB:∀s,St L s (B s).2) (s:Rs):(∃t,St L s t/\St L t (cU L B s).2/\(s.e=0->s.a<t.a∨t.e≠0)):=by
 have y:∀{w:List Nat},aZ L w s=true->St L s (ak s):=fun h=>fi h
 have n:s.a<(ak s).a:=Nat.lt_succ_self _
 unfold cU
 split
 ·exact ⟨ak s,y ‹_›,Qv _ _,fun _=>Or.inl n⟩
 ·split
  ·exact ⟨ak s,y ‹_›,MP _ _,fun _=>Or.inl n⟩
  ·split
   ·exact ⟨ak s,y ‹_›,J7 _ _,fun _=>Or.inl n⟩
   ·split
    ·exact ⟨ak s,y ‹_›,Pt _ _,fun _=>Or.inl n⟩
    ·split
     ·exact ⟨ak s,y ‹_›,lk (St.refl _ _),fun _=>Or.inl n⟩
     ·split
      ·exact ⟨ak s,y ‹_›,R6 _ _,fun _=>Or.inl n⟩
      ·split
       ·exact ⟨ak s,y ‹_›,UZ hB _ _,fun _=>Or.inl n⟩
       ·split
        ·exact ⟨ak s,y ‹_›,IB hB _ _,fun _=>Or.inl n⟩
        ·refine ⟨bD 2 s,cL _ _ _,lk (St.refl _ _),fun h=>Or.inr ?_⟩
         rw[bD,Xb h];show (2:Nat)≠0;omega
theorem uk  (hB:∀s,St L s (B s).2) (s:Rs):St L s (cU L B s).2:=by
 obtain ⟨t,h1,h2,-⟩:=xD hB s
 exact h1.trans h2
theorem L7  (hB:∀s,St L s (B s).2) (s:Rs) (he:s.e=0):s.a<(cU L B s).2.a∨(cU L B s).2.e≠0:=by
 obtain ⟨t,h1,h2,h3⟩:=xD hB s
 rcases h3 he with q|q
 ·left;have:=h2.le;omega
 ·right;rw[h2.err q];exact q
theorem wi  (hS:∀s,St L s (S s).2):∀(f:Nat) (l:List Stm) (s:Rs),St L s (fq L S f l s).2:=by
 intro f
 induction f with
 |zero=>exact fun l s=>St.refl _ _
 |succ f ih=>
  intro l s
  rw[fq]
  split
  ·exact St.refl _ _
  ·split
   ·exact fi ‹_›
   ·exact (hS s).trans (ih _ _)
theorem yn  (hS:∀s,St L s (S s).2) (d:Nat) (s:Rs):St L s (jV L S d s).2:=((mg d s).trans (cr _ _ _)).trans (wi hS _ _ _)
theorem fN:∀(n:Nat) (s:Rs),St L s (dQ L n s).2:=by
 intro n
 induction n with
 |zero=>exact fun s=>yn (fun s=>cL _ _ _) _ s
 |succ n ih=>exact fun s=>yn (uk ih) _ s
def WD (B:Rs->List Stm×Rs):Prop:=∀s,(B s).2.e=0->bQ (B s).1+4*s.a<=4*(B s).2.a
theorem mB (s:Rs) (h:(fa L s).2.e=0):(fa L s).1.sz+s.a<=(fa L s).2.a:=tU L 30 s h
theorem pp {s:Rs} (h:(bh L s).2.e=0):s.a+1<=(bh L s).2.a:=by
 unfold bh at h ⊢
 split
 ·rename_i q
  rw[Xb q] at h
  have h0:=(cL L 2 s).zero h
  rw[bD,Xb h0] at h
  exact W9 h (by show (2:Nat)≠0;omega)
 ·exact Nat.le_refl _
theorem eH  {s:Rs} (h:(a9 L w s).e=0):s.e=0/\(a9 L w s).a=s.a+1:=by
 have h0:=(cr L w s).zero h
 refine ⟨h0, ?_⟩
 unfold a9 at h ⊢
 split
 ·rfl
 ·rename_i q
  rw[Xa q,bD,Xb h0] at h
  exact W9 h (by show (2:Nat)≠0;omega)
theorem qX {s:Rs} (h:(bj L s).2.2.e=0):(bj L s).2.1.sz+s.a<=(bj L s).2.2.a:=by
 unfold bj at h ⊢
 split
 ·rename_i q
  rw[Xb q] at h
  obtain ⟨h1,h2⟩:=eH h
  have h3:=mB _ h1
  have h4:=(fi q).le
  have h5:=(cX L s).le
  have h6:(ak (bh L s).2).a=(bh L s).2.a+1:=rfl
  dsimp only at h1 h2 h3 h4 h5 ⊢
  omega
 ·rename_i q
  rw[Xa q] at h
  have:=pp h
  simp[zE,Ex.sz,kS];omega
theorem oK:zE.sz=1:=by simp[zE,Ex.sz,kS]
theorem iV (k p:Int) (nm ce:List Nat) (i x y:Ex) (b e:List Stm):(Stm.mk k p nm ce i x y b e).sz=1+i.sz+x.sz+y.sz+bQ b+bQ e:=by rw[Stm.sz]
theorem sr:bQ []=0:=rfl
set_option maxHeartbeats 4000000 in
theorem Nn  (hSt:∀s,St L s (B s).2) (hB:WD B) (s:Rs) (h:(cU L B s).2.e=0):(cU L B s).1.sz+4*s.a<=4*(cU L B s).2.a:=by
 have n:(ak s).a=s.a+1:=rfl
 unfold cU at h ⊢
 split
 ·rename_i q
  rw[Xb q] at h
  obtain ⟨h1,h2⟩:=eH h
  have h3:=mB _ h1
  have h4:=pp ((jT (L:=L) _).zero h1)
  show (Stm.mk ..).sz+_<=4*(a9 L [59] _).a
  rw[h2,iV,oK,sr];omega
 ·rename_i q0;rw[Xa q0] at h
  split
  ·rename_i q
   rw[Xb q] at h
   obtain ⟨h1,h2⟩:=eH h
   have h3:=qX h1
   have h4:=pp ((fA (L:=L) _).zero h1)
   show (Stm.mk ..).sz+_<=4*(a9 L [59] _).a
   rw[h2,iV,oK,sr];omega
  ·rename_i q0;rw[Xa q0] at h
   split
   ·rename_i q
    rw[Xb q] at h
    obtain ⟨h1,h2⟩:=eH h
    have h3:=mB _ h1
    have h4:=qX ((jT (L:=L) _).zero h1)
    show (Stm.mk ..).sz+_<=4*(a9 L [59] _).a
    rw[h2,iV,oK,sr];omega
   ·rename_i q0;rw[Xa q0] at h
    split
    ·rename_i q
     rw[Xb q] at h
     obtain ⟨h1,h2⟩:=eH h
     have h3:=mB _ h1
     have h1':=(jT (L:=L) _).zero h1
     have h4:=mB _ h1'
     have h1'':=(jT (L:=L) _).zero h1'
     have h5:=qX h1''
     have h6:=pp ((fA (L:=L) _).zero h1'')
     show (Stm.mk ..).sz+_<=4*(a9 L [59] _).a
     rw[h2,iV,sr];omega
    ·rename_i q0;rw[Xa q0] at h
     split
     ·rename_i q
      rw[Xb q] at h
      obtain ⟨h1,h2⟩:=eH h
      show (Stm.mk ..).sz+_<=4*(a9 L [59] _).a
      rw[h2,iV,oK,sr];omega
     ·rename_i q0;rw[Xa q0] at h
      split
      ·rename_i q
       rw[Xb q] at h
       obtain ⟨h1,h2⟩:=eH h
       have h3:=mB _ h1
       show (Stm.mk ..).sz+_<=4*(a9 L [59] _).a
       rw[h2,iV,oK,sr];omega
      ·rename_i q0;rw[Xa q0] at h
       split
       ·rename_i q
        rw[Xb q] at h
        unfold Ox at h ⊢
        split
        ·rename_i q2
         rw[Xb q2] at h
         have h1:=hB _ h
         have h2:=(hSt _).zero h
         have h3:=hB _ h2
         have h4:=mB _ ((hSt _).zero h2)
         have h5:(ak (B (fa L (ak s)).2).2).a=(B (fa L (ak s)).2).2.a+1:=rfl
         rw[iV,oK];dsimp only at *;omega
        ·rename_i q2
         rw[Xa q2] at h
         have h3:=hB _ h
         have h4:=mB _ ((hSt _).zero h)
         rw[iV,oK,sr];dsimp only at *;omega
       ·rename_i q0;rw[Xa q0] at h
        split
        ·rename_i q
         rw[Xb q] at h
         have h3:=hB _ h
         have h4:=mB _ ((hSt _).zero h)
         show (Stm.mk ..).sz+_<=4*(B _).2.a
         rw[iV,oK,sr];omega
        ·rename_i q0;rw[Xa q0] at h
         obtain ⟨h1,h2⟩:=eH h
         have h3:=(cL L 2 s).zero h1
         rw[bD,Xb h3] at h1
         exact W9 h1 (by show (2:Nat)≠0;omega)
theorem y9 (a b:List Stm):bQ (a++b)=bQ a+bQ b:=by
 induction a with
 |nil=>simp[bQ]
 |cons x a ih=>rw[List.cons_append,bQ,bQ,ih];omega
theorem KX  (hSt:∀s,St L s (S s).2) (hS:∀s,(S s).2.e=0->(S s).1.sz+4*s.a<=4*(S s).2.a):∀(f:Nat) (l:List Stm) (s:Rs) (a0:Nat),(s.e=0->bQ l+4*a0<=4*s.a)->(fq L S f l s).2.e=0->bQ (fq L S f l s).1+4*a0<=4*(fq L S f l s).2.a:=by
 intro f
 induction f with
 |zero=>intro l s a0 h h2;exact h h2
 |succ f ih=>
  intro l s a0 h
  rw[fq]
  split
  ·intro h2;exact W9 h2 ‹_›
  ·split
   ·rename_i q1 q2
    intro h2
    have h1:=h (by omega)
    have:(ak s).a=s.a+1:=rfl
    dsimp only;omega
   ·rename_i q1 q2
    refine ih _ _ a0 fun h2=> ?_
    have h1:=h (by omega)
    have h3:=hS s h2
    rw[y9,bQ,sr];omega
theorem KT  (hSt:∀s,St L s (S s).2) (hS:∀s,(S s).2.e=0->(S s).1.sz+4*s.a<=4*(S s).2.a) (d:Nat):WD (jV L S d):=by
 intro s h
 refine KX hSt hS _ _ _ s.a (fun h2=> ?_) h
 have:=((mg (L:=L) d s).trans (cr L [123] _)).le
 rw[sr];omega
theorem CL:∀n:Nat,WD (dQ L n):=by
 intro n
 induction n with
 |zero=>
  intro s h
  have h1:=(wi (L:=L) (S:=fun s=>(Stm.mk 0 0 [] [] zE zE zE [] [],bD 2 s)) (fun s=>cL _ _ _) _ _ _).zero h
  have h2:=(cr L [123] _).zero h1
  have h3:=(mg (L:=L) 30 s).zero h2
  exfalso
  obtain ⟨h4,h5⟩:=eH h1
  have hff:∀e (s:Rs),e≠0->(bD e s).e≠0:=fun e s h=>by unfold bD;split;exact h;assumption
  by_cases hk:(aK L s.a).k=3/\(aK L s.a).t= [123]
  ·rw[eh,Xb ⟨h3,by omega,hk.1,hk.2⟩] at h4
   exact hff 11 s (by omega) h4
  ·have e1:eh L 30 s=s:=by rw[eh,Xa (fun h=>hk ⟨h.2.2.1,h.2.2.2⟩)]
   rw[e1] at h1
   have e2:aZ L [123] s=false:=Xc fun q=>hk ⟨q.2.1,q.2.2⟩
   rw[a9,e2,Xa Bool.false_ne_true] at h1
   exact hff 2 s (by omega) h1
 |succ n ih=>exact KT (uk (fN n)) (Nn (fN n) ih) _
end
section
variable {m0:NH} {L:List Tok} {vl:NV} {r:D4} {rest:List NV}
theorem Ii (hc:RC m0 L vl r):∀n,n<=30->V6 m0 L vl r rest (dQ L n) (30 - n):=by
 intro n
 induction n with
 |zero=>
  intro _
  have e2:dQ L 0=jV L (fun s=>(.mk 0 0 [] [] zE zE zE [] [],bD 2 s)) 30:=by funext s;rfl
  rw[e2]
  intro m s
  exact CK (S:=fun s=>(.mk 0 0 [] [] zE zE zE [] [],bD 2 s)) hc (fun s=>cL _ _ _) (fun s he=>Or.inr (by rw[bD,Xb he];show (2:Nat)≠0;omega)) (fun h=>by omega)
 |succ n ih=>
  intro hn
  have e:30 - (n+1)=29 - n:=by omega
  have h1:29 - n+1=30 - n:=by omega
  have e2:dQ L (n+1)=jV L (cU L (dQ L n)) (29 - n):=by funext s;rfl
  rw[e,e2]
  intro m s
  exact CK hc (uk (fN n)) (L7 (fN n)) (fun _=>by rw[←h1] at ih;intro m s;exact Q0 hc (fN n) (ih (by omega)) (by omega))
end
structure Ps where
 cs:List (List Nat×Int)
 ts:List (List Nat×List Stm)
 rc:List Stm
 rd:Bool
section
variable (L:List Tok)
def cm (T:Tok):Int:=if T.n<1048576 then T.n else 1048576
def sL (s:Rs):(List Nat×Int)×Rs:=
 if aZ L [91] (bh L s).2=true then
  if (aK L (ak (bh L s).2).a).k=2 then (((bh L s).1,cm (aK L (ak (bh L s).2).a)),a9 L [59] (a9 L [93] (ak (ak (bh L s).2))))
  else (((bh L s).1,1),a9 L [59] (a9 L [93] (bD 2 (ak (bh L s).2))))
 else (((bh L s).1,1),a9 L [59] (bh L s).2)
def mO (s:Rs):(List Nat×List Stm)×Rs:=(((bh L s).1,(dQ L 30 (bh L s).2).1),(dQ L 30 (bh L s).2).2)
abbrev fC:List Nat:= [114,101,99,111,118,101,114]
def br (rec:Bool) (s:Rs):Rs:=if rec=true/\(aK L s.a).k=4/\(aK L s.a).t=fC then bD 5 s else s
def I2 (rec:Bool) (s:Rs):List Stm×Rs:=dQ L 30 (a9 L fC (br L rec s))
def eX (P:Ps) (s:Rs):Ps×Rs:=
 if aZ L [99,101,108,108] s=true then (⟨P.cs++ [(sL L (ak s)).1],P.ts,P.rc,P.rd⟩,(sL L (ak s)).2)
 else if aZ L [116,104,114,101,97,100] s=true then (⟨P.cs,P.ts++ [(mO L (ak s)).1],P.rc,P.rd⟩,(mO L (ak s)).2)
 else (⟨P.cs,P.ts,(I2 L P.rd s).1,true⟩,(I2 L P.rd s).2)
end
abbrev TP (mR:NH) (vc vt:NV):D4->Prop:=fun i=>¬am mR i/\i∉ids vc/\i∉ids vt
structure PD (mR M:NH) (r:D4) (vl:NV) (s:Rs) (P:Ps) (vc vt vr:NV):Prop where
 hd:RD M r vl s [.bool P.rd,vc,vt,vr]
 cc:aY mR M vc 2 (lU P.cs)
 tt:∃C,aY mR M vt 2 C/\C.length=P.ts.length/\∀(j:Nat) (x:List Nat×List Stm) (c:List NV),P.ts[j]? =some x->C[j]? =some c->∃vb B,c= [.str x.1,vb]/\SS M (TP mR vc vt) vb x.2 B
 rr:∃C,SS M (TP mR vc vt) vr P.rc C
 dd:∀i∈ids vc,i∉ids vt
 oo:∀i,am mR i->am M i
 oR:am mR r
section
variable {m0 mR:NH} {L:List Tok} {vl vc vt vr:NV} {r:D4} {M M':NH} {s s':Rs} {P:Ps}
theorem PD.call (h:PD mR M r vl s P vc vt vr) (hC:Chg [r] M M') (hd:RD M' r vl s' [.bool P.rd,vc,vt,vr]):PD mR M' r vl s' P vc vt vr:=by
 have hn:∀{v e C},aY mR M v e C->∀i∈ids v,i∉ [r]:=fun hv i hi hs=>by
  have hs:=one hs;subst hs;exact hv.new _ hi h.oR
 have hst:bz (TP mR vc vt) M M':=bz.of hC fun i hi hs=>by
  have hs:=one hs;subst hs;exact hi.1 h.oR
 obtain ⟨C,t1,t2,t3⟩:=h.tt
 obtain ⟨D,r1⟩:=h.rr
 exact ⟨hd,h.cc.chg hC (hn h.cc),⟨C,t1.chg hC (hn t1),t2,fun j x c a b=>by obtain ⟨vb,B,e,q⟩:=t3 j x c a b;exact ⟨vb,B,e,q.stays hst⟩⟩,⟨D,r1.stays hst⟩,h.dd,fun i hi=>hC.old (h.oo i hi),h.oR⟩
theorem PD.grow (h:PD mR M r vl s P vc vt vr) (hC:Chg [] M M'):PD mR M' r vl s P vc vt vr:=h.call (hC.weak (by simp)) (h.hd.chg hC (by simp))
end
section
variable {mR:NH} {vl vc vt vr:NV} {r:D4} {M:NH} {s:Rs} {P:Ps}
theorem pn (h:PD mR M r vl s P vc vt vr) {M5 M6:NH} {c:List Nat×Int} (h5:Chg [] M M5) (hv:aY mR M6 v 2 (lU P.cs++ [[.str c.1,ii c.2]])) (h6:Chg (ids vc) M5 M6) (hF:bP M5 vc v):
 PD mR (hp [(.o r,.cells true [vl,ii s.a,ii s.e,ii s.b,.bool P.rd,v,vt,vr])] 0 M6) r vl s ⟨P.cs++ [c],P.ts,P.rc,P.rd⟩ v vt vr:=by
 have h:=h.grow h5
 have o5:=h.oo
 have hr6:am M6 r:=h6.old h.hd.o
 have hC:Chg [r] M6 (hp [(.o r,.cells true [vl,ii s.a,ii s.e,ii s.b,.bool P.rd,v,vt,vr])] 0 M6):=aI rfl
 obtain ⟨C,t1,t2,t3⟩:=h.tt
 obtain ⟨D,r1⟩:=h.rr
 have hvt:∀i∈ids vt,i∉ids vc:=fun i hi hc=>h.dd i hc hi
 have nr:∀{v e C M},aY mR M v e C->∀i∈ids v,i∉ [r]:=fun hv i hi hs=>by
  have hs:=one hs;subst hs;exact hv.new _ hi h.oR
 have hS:∀{w:NV} {l:List Stm} {C:List (List NV)},SS M5 (TP mR vc vt) w l C->SS (hp [(.o r,.cells true [vl,ii s.a,ii s.e,ii s.b,.bool P.rd,v,vt,vr])] 0 M6) (TP mR v vt) w l C:=fun q=>by
  have q1:SS M5 (fun i=>TP mR vc vt i/\am M5 i) _ _ _:=⟨q.sl,fun i hi=>⟨q.hT i hi,q.sl.old i hi⟩,q.len,fun i x c a b=>(q.R i x c a b).old⟩
  have q2:=q1.stays (m':=M6) (bz.of h6 fun i hi hs=>hi.1.2.1 hs)
  have q3:=q2.stays (bz.of hC fun i hi hs=>by
   have hs:=one hs;subst hs;exact hi.1.1 h.oR)
  exact q3.weak fun i hi=>⟨hi.1.1,fun a=>(hF i a).elim hi.1.2.1 fun z=>z hi.2,hi.1.2.2⟩
 refine ⟨⟨(aE hr6).trans aq,cG hr6⟩, ?_,⟨C,(t1.chg h6 hvt).chg hC (nr t1),t2,fun j x c a b=>by obtain ⟨vb,B,e,q⟩:=t3 j x c a b;exact ⟨vb,B,e,hS q⟩⟩,⟨D,hS r1⟩,fun i hi ht=>(hF i hi).elim (fun a=>h.dd i a ht) fun z=>z (t1.sl.old i ht),fun i hi=>hC.old (h6.old (o5 i hi)),h.oR⟩
 have e:lU (P.cs++ [c])=lU P.cs++ [[.str c.1,ii c.2]]:=by simp
 show aY mR _ v 2 (lU (P.cs++ [c]))
 rw[e]
 exact hv.chg hC (nr hv)
theorem G8 (h:PD mR M r vl s P vc vt vr) {B:List (List NV)} {M6:NH} {n:List Nat} (hb:SS M (TP mR vc vt) vb b B) (t1:aY mR M vt 2 C) (t2:C.length=P.ts.length) (t3:∀(j:Nat) (x:List Nat×List Stm) (c:List NV),P.ts[j]? =some x->C[j]? =some c->∃vb B,c= [.str x.1,vb]/\SS M (TP mR vc vt) vb x.2 B)
 (hv':aY mR M6 v 2 (C++ [[.str n,vb]])) (h6:Chg (ids vt) M M6) (hF:bP M vt v):
 PD mR (hp [(.o r,.cells true [vl,ii s.a,ii s.e,ii s.b,.bool P.rd,vc,v,vr])] 0 M6) r vl s ⟨P.cs,P.ts++ [(n,b)],P.rc,P.rd⟩ vc v vr:=by
 have o5:=h.oo
 have hr6:am M6 r:=h6.old h.hd.o
 have hC:Chg [r] M6 (hp [(.o r,.cells true [vl,ii s.a,ii s.e,ii s.b,.bool P.rd,vc,v,vr])] 0 M6):=aI rfl
 obtain ⟨D,r1⟩:=h.rr
 have nr:∀{v e C M},aY mR M v e C->∀i∈ids v,i∉ [r]:=fun hv i hi hs=>by
  have hs:=one hs;subst hs;exact hv.new _ hi h.oR
 have hS:∀{w:NV} {l:List Stm} {C:List (List NV)},SS M (TP mR vc vt) w l C->SS (hp [(.o r,.cells true [vl,ii s.a,ii s.e,ii s.b,.bool P.rd,vc,v,vr])] 0 M6) (TP mR vc v) w l C:=fun q=>by
  have q1:SS M (fun i=>TP mR vc vt i/\am M i) _ _ _:=⟨q.sl,fun i hi=>⟨q.hT i hi,q.sl.old i hi⟩,q.len,fun i x c a b=>(q.R i x c a b).old⟩
  have q2:=q1.stays (m':=M6) (bz.of h6 fun i hi hs=>hi.1.2.2 hs)
  have q3:=q2.stays (bz.of hC fun i hi hs=>by
   have hs:=one hs;subst hs;exact hi.1.1 h.oR)
  exact q3.weak fun i hi=>⟨hi.1.1,hi.1.2.1,fun a=>(hF i a).elim hi.1.2.2 fun z=>z hi.2⟩
 refine ⟨⟨(aE hr6).trans aq,cG hr6⟩,(h.cc.chg h6 h.dd).chg hC (nr h.cc),⟨C++ [[.str n,vb]],hv'.chg hC (nr hv'),by simp[t2],fun j x c a b'=> ?_⟩,⟨D,hS r1⟩,fun i hi ht=>(hF i ht).elim (fun a=>h.dd i hi a) fun z=>z (h.cc.sl.old i hi),fun i hi=>hC.old (h6.old (o5 i hi)),h.oR⟩
 rcases Nat.lt_or_ge j P.ts.length with q|q
 ·rw[List.getElem?_append_left q] at a
  rw[List.getElem?_append_left (by omega)] at b'
  obtain ⟨w,B2,e,q2⟩:=t3 j x c a b'
  exact ⟨w,B2,e,hS q2⟩
 ·rw[List.getElem?_append_right q] at a
  rw[List.getElem?_append_right (by omega),t2] at b'
  cases hj:j - P.ts.length with
  |zero=>rw[hj] at a b';cases a;cases b';exact ⟨vb,B,rfl,hS hb⟩
  |succ k=>rw[hj] at a;simp at a
theorem IK (h:PD mR M r vl s P vc vt vr) (hb:SS M (TP mR vc vt) v b C) {l:List (AK×NO)} (hl:∀i∈aC l,i=r):
 PD mR (hp ((.o r,.cells true [vl,ii s.a,ii s.e,ii s.b,.bool true,vc,vt,v])::l) 0 M) r vl s ⟨P.cs,P.ts,b,true⟩ vc vt v:=by
 have hC:Chg [r] M (hp ((.o r,.cells true [vl,ii s.a,ii s.e,ii s.b,.bool true,vc,vt,v])::l) 0 M):=(aI rfl).weak fun i hi _=>by
  simp only[aC,Xf] at hi ⊢
  rcases hi with rfl|hi
  ·exact Or.inl rfl
  ·exact Or.inl (hl i hi)
 have nr:∀{v e C M},aY mR M v e C->∀i∈ids v,i∉ [r]:=fun hv i hi hs=>by
  have hs:=one hs;subst hs;exact hv.new _ hi h.oR
 obtain ⟨D,t1,t2,t3⟩:=h.tt
 have hst:bz (TP mR vc vt) M (hp ((.o r,.cells true [vl,ii s.a,ii s.e,ii s.b,.bool true,vc,vt,v])::l) 0 M):=bz.of hC fun i hi hs=>by
  have hs:=one hs;subst hs;exact hi.1 h.oR
 exact ⟨⟨(aE h.hd.o).trans aq,cG h.hd.o⟩,h.cc.chg hC (nr h.cc),⟨D,t1.chg hC (nr t1),t2,fun j x c a b=>by obtain ⟨w,B,e,q⟩:=t3 j x c a b;exact ⟨w,B,e,q.stays hst⟩⟩,⟨C,hb.stays hst⟩,h.dd,fun i hi=>hC.old (h.oo i hi),h.oR⟩
end
section
variable {m0 mR:NH} {L:List Tok} {vl vc vt vr:NV} {r:D4}
theorem Ue (hc:RC m0 L vl r) (h0R:∀i,am m0 i->am mR i) {s:Rs} {P:Ps} (h0:Chg [] m0 m) (hp0:PD mR m r vl s P vc vt vr) (ha:s.a<=L.length) (hcs:P.cs.length<=100000) (hts:P.ts.length<=100000):
 ∃m',rT 42 [.ptr r 0] m (.tup []) m'/\Chg [] m0 m'/\∃vc' vt' vr',PD mR m' r vl (eX L P s).2 (eX L P s).1 vc' vt' vr':=by
 refine WF.ex1 fun K hK=> ?_
 refine WF.of_wpG (fun _=>rfl) DT (L:= [(.e,.ptr r 0)]) rfl ?_
 unfold QY
 have hll:=hc.len
 have hbase:∀{M M':NH},Chg [] m0 M->Chg [r] M M'->Chg [] m0 M':=fun h h'=>hc.chg h h'
 simp only[go_sem,seval,aa]
 refine WF.use1H (dS hc h0 hp0.hd [99,101,108,108] (by simp) (by omega)) ?_
 rintro M1 ⟨hd1,hC1⟩
 unfold eX at hK
 cases hb:aZ L [99,101,108,108] s with
 |true=>
  rw[hb,Xb rfl] at hd1 hK
  have hlt:=(bR hb).2
  have hp1:=hp0.call hC1 hd1
  have h01:=hbase h0 hC1
  simp only[go_sem,seval,aa]
  refine WF.use1H (nT hc h01 hp1.hd (by have:(ak s).a=s.a+1:=rfl;omega)) ?_
  rintro M2 ⟨hd2,hC2⟩
  have hp2:=hp1.call hC2 hd2
  have h02:=hbase h01 hC2
  have hlim2:=(cX L (ak s)).lim hlt
  unfold sL at hK
  generalize bh L (ak s)=q at hd2 hp2 hlim2 hK
  obtain ⟨n,s2⟩:=q
  dsimp only at hd2 hp2 hlim2 hK
  simp (disch:=first|assumption|omega|(simp only[aG]<;>omega)) only[go_sem,seval]
  generalize hM3:hp _ 1 M2=M3
  have hC3:Chg [] M2 M3:=aR hM3 rfl
  have hg3:M3.get (na M2 0)=some (.cells true [.str n,ii 1]):=bu hM3
  have ho3:am M3 (na M2 0):=bt hM3 (by omega)
  have hp3:=hp2.grow hC3
  have h03:=h02.tr hC3
  refine WF.use1H (dS hc h03 hp3.hd [91] (by simp) (by omega)) ?_
  rintro M4 ⟨hd4,hC4⟩
  have hr2:na M2 0≠r:=fun e=>hp2.hd.o.ne 0 e.symm
  have hp4:=hp3.call hC4 hd4
  have h04:=hbase h03 hC4
  have hg4:=(hC4.get ho3 (by simpa using hr2)).trans hg3
  have ho4:=hC4.old ho3
  cases hb4:aZ L [91] s2 with
  |true=>
   rw[hb4,Xb rfl] at hK hd4
   have hlt4:=(bR hb4).2
   have he4:=(bR hb4).1
   have hC24:Chg [r] M2 M4:=(hC3.weak (by simp)).trans hC4 fun _ h _=>h
   have hp4:=hp2.call hC24 hd4
   simp only[go_sem,seval,aa]
   refine WF.use1H (jQ hc h04 hp4.hd) ?_
   intro M5 hC5
   have hC25:Chg [r] M2 M5:=hC24.tr hC5
   have hp5:=hp4.grow hC5
   have h05:=h04.tr hC5
   have hg5:=(hC5.get ho4 (by simp)).trans hg4
   have ho5:=hC5.old ho4
   have hl:(Tok.l (aK L (ak s2).a)).length=4:=rfl
   have hdg:=hp5.hd.g
   have hdo:=hp5.hd.o
   have he5:(ak s2).e=0:=he4
   have hlim5:(ak s2).a<=L.length:=hlt4
   have hst:1<=(aK L (ak s2).a).k/\(aK L (ak s2).a).k<=4->St L (ak s2) (ak (ak s2)):=fun h=>jj (nP (by omega)) he5 h
   generalize hT:aK L (ak s2).a=T at hK hl hst
   generalize hs3:ak s2=s3 at hK hp5 hdg he5 hlim5 hst
   have rest:∀{M6:NH} {s6:Rs} {z:Int},Chg [r] M2 M6->RD M6 r vl s6 [.bool P.rd,vc,vt,vr]->s6.a<=L.length->M6.get (na M2 0)=some (.cells true [.str n,ii z])->am M6 (na M2 0)->
    ∃m',rT 70 [.ptr r 0,.str [93]] M6 (.tup []) m'/\PD mR m' r vl (a9 L [93] s6) P vc vt vr/\Chg [] m0 m'/\(a9 L [93] s6).a<=L.length/\m'.get (na M2 0)=some (.cells true [.str n,ii z])/\am m' (na M2 0):=by
    intro M6 s6 z q1 q2 q3 q4 q5
    obtain ⟨m',w1,w2,w3⟩:=iw hc (hbase h02 q1) q2 [93] (by simp) (by omega)
    have w4:Chg [r] M2 m':=q1.trans w3 fun _ h _=>h
    exact ⟨m',w1,hp2.call w4 w2,hbase h02 w4,(cr L [93] s6).lim q3,(w3.get q5 (by simpa using hr2)).trans q4,w3.old q5⟩
   have hr2':r≠na M2 0:=fun e=>hr2 e.symm
   have hbn:∀{l:List (AK×NO)} {k:Nat},(∀i∈aC l,i=r∨i=na M2 0)->Chg [r] M2 (hp l k M5):=fun hl=>hC25.trans (aI rfl) fun i hi ho=>(hl i hi).elim (fun h=>by simp[h]) fun h=>W9 (h▸ho) aA
   by_cases hk:T.k=2
   ·rw[Xb hk] at hK
    have hst6:=(hst (by omega)).lim hlim5
    by_cases hn:T.n<1048576
    ·have hz:cm T=(T.n:Int):=by unfold cm;rw[Xb hn]
     rw[hz] at hK
     simp (disch:=first|assumption|omega|(simp only[aG]<;>omega)) only[go_sem,seval,hl,rZ,Vh,hdg,hg5]
     generalize hM6:hp _ 1 M5=M6
     have hC26:Chg [r] M2 M6:=by rw[←hM6];exact hbn (by simp[aC])
     have hd6:RD M6 r vl (ak s3) [.bool P.rd,vc,vt,vr]:=⟨by rw[←hM6];exact (aE hdo).trans aq,by rw[←hM6];exact cG hdo⟩
     have hg6:M6.get (na M2 0)=some (.cells true [.str n,ii T.n]):=by rw[←hM6];exact (aE ho5).trans ((bm hr2).trans aq)
     have ho6:am M6 (na M2 0):=by rw[←hM6];exact cG ho5
     refine WF.use1 (rest hC26 hd6 hst6 hg6 ho6) ?_
     rintro M7 ⟨hp7,h07,hlim7,hg7,ho7⟩
     simp only[go_sem,seval]
     refine WF.use1H (iw hc h07 hp7.hd [59] (by simp) (by omega)) ?_
     rintro M5 ⟨hd5,hC5⟩
     have hp5:=hp7.call hC5 hd5
     have h05:=hbase h07 hC5
     have hg5:=(hC5.get ho7 (by simpa using hr2)).trans hg7
     have ho5:=hC5.old ho7
     have hdg:=hp5.hd.g
     have hdo:=hp5.hd.o
     have hcl:=hp5.cc.sl.one
     have hcs':=hp5.cc.sl.same (n:=3)
     simp (disch:=first|assumption|omega|(simp only[aG]<;>omega)) only[go_sem,seval,hg5,hdg,hcl,hcs']
     have hC6:Chg [] M5 (hp [(.n 0,.cells true [.str n,ii T.n])] 1 M5):=aI rfl
     refine dp (cs:= [.str n,ii T.n]) (B:=mR) (hp5.cc.chg hC6 fun _ _=>by simp) bI (bN (by omega)) rfl (fun i hi=>hC6.old (hp5.oo i hi)) (by simp;omega) (by simp;omega) ?_
     intro v6 M6 hv6 hC7 hF6
     have hg6:=(hC7.get (hC6.old hdo) (fun h=>hp5.cc.new _ h hp5.oR)).trans ((hC6.get hdo (by simp)).trans hdg)
     have ho6:=hC7.old (hC6.old hdo)
     have hPD:=pn (c:=(n,(T.n:Int))) hp5 hC6 hv6 hC7 hF6
     simp (disch:=first|assumption|omega|(simp only[aG]<;>omega)) only[go_sem,seval,hg6,hv6.sl.one]
     refine hK _ ⟨?_,v6,vt,vr,hPD⟩
     refine ((h05.tr hC6).trans hC7 fun i hi ho=>W9 (h0R i ho) (hp5.cc.new i hi)).trans (aI rfl) fun i hi ho=> ?_
     simp only[aC,Xf,Xe,or_false] at hi
     subst hi;exact W9 ho hc.no
    ·have hz:cm T=1048576:=by unfold cm;rw[Xa hn]
     rw[hz] at hK
     simp (disch:=first|assumption|omega|(simp only[aG]<;>omega)) only[go_sem,seval,hl,rZ,Vh,hdg,hg5]
     generalize hM6:hp _ 1 M5=M6
     have hC26:Chg [r] M2 M6:=by rw[←hM6];exact hbn (by simp[aC])
     have hd6:RD M6 r vl (ak s3) [.bool P.rd,vc,vt,vr]:=⟨by rw[←hM6];exact (aE hdo).trans aq,by rw[←hM6];exact cG hdo⟩
     have hg6:M6.get (na M2 0)=some (.cells true [.str n,ii 1048576]):=by rw[←hM6];exact (aE ho5).trans ((bm hr2).trans aq)
     have ho6:am M6 (na M2 0):=by rw[←hM6];exact cG ho5
     refine WF.use1 (rest hC26 hd6 hst6 hg6 ho6) ?_
     rintro M7 ⟨hp7,h07,hlim7,hg7,ho7⟩
     simp only[go_sem,seval]
     refine WF.use1H (iw hc h07 hp7.hd [59] (by simp) (by omega)) ?_
     rintro M5 ⟨hd5,hC5⟩
     have hp5:=hp7.call hC5 hd5
     have h05:=hbase h07 hC5
     have hg5:=(hC5.get ho7 (by simpa using hr2)).trans hg7
     have ho5:=hC5.old ho7
     have hdg:=hp5.hd.g
     have hdo:=hp5.hd.o
     have hcl:=hp5.cc.sl.one
     have hcs':=hp5.cc.sl.same (n:=3)
     simp (disch:=first|assumption|omega|(simp only[aG]<;>omega)) only[go_sem,seval,hg5,hdg,hcl,hcs']
     have hC6:Chg [] M5 (hp [(.n 0,.cells true [.str n,ii 1048576])] 1 M5):=aI rfl
     refine dp (cs:= [.str n,ii 1048576]) (B:=mR) (hp5.cc.chg hC6 fun _ _=>by simp) bI (bN (by omega)) rfl (fun i hi=>hC6.old (hp5.oo i hi)) (by simp;omega) (by simp;omega) ?_
     intro v6 M6 hv6 hC7 hF6
     have hg6:=(hC7.get (hC6.old hdo) (fun h=>hp5.cc.new _ h hp5.oR)).trans ((hC6.get hdo (by simp)).trans hdg)
     have ho6:=hC7.old (hC6.old hdo)
     have hPD:=pn (c:=(n,1048576)) hp5 hC6 hv6 hC7 hF6
     simp (disch:=first|assumption|omega|(simp only[aG]<;>omega)) only[go_sem,seval,hg6,hv6.sl.one]
     refine hK _ ⟨?_,v6,vt,vr,hPD⟩
     refine ((h05.tr hC6).trans hC7 fun i hi ho=>W9 (h0R i ho) (hp5.cc.new i hi)).trans (aI rfl) fun i hi ho=> ?_
     simp only[aC,Xf,Xe,or_false] at hi
     subst hi;exact W9 ho hc.no
   ·rw[Xa hk] at hK
    simp (disch:=first|assumption|omega|(simp only[aG]<;>omega)) only[go_sem,seval,hl,rZ,Vh,hdg,hg5]
    generalize hM6:hp _ 1 M5=M6
    have hC6:Chg [] M5 M6:=aR hM6 rfl
    refine WF.use1 (i7 (hp5.grow hC6).hd 2) ?_
    rintro M6' ⟨hd6,hC6'⟩
    have hC26:Chg [r] M2 M6':=(hC25.tr hC6).trans hC6' fun _ h _=>h
    have hg6:=(hC6'.get (hC6.old ho5) (by simpa using hr2)).trans ((hC6.get ho5 (by simp)).trans hg5)
    have ho6:=hC6'.old (hC6.old ho5)
    simp only[go_sem,seval]
    refine WF.use1 (rest hC26 hd6 ((cL L 2 s3).lim hlim5) hg6 ho6) ?_
    rintro M7 ⟨hp7,h07,hlim7,hg7,ho7⟩
    simp only[go_sem,seval]
    refine WF.use1H (iw hc h07 hp7.hd [59] (by simp) (by omega)) ?_
    rintro M5 ⟨hd5,hC5⟩
    have hp5:=hp7.call hC5 hd5
    have h05:=hbase h07 hC5
    have hg5:=(hC5.get ho7 (by simpa using hr2)).trans hg7
    have ho5:=hC5.old ho7
    have hdg:=hp5.hd.g
    have hdo:=hp5.hd.o
    have hcl:=hp5.cc.sl.one
    have hcs':=hp5.cc.sl.same (n:=3)
    simp (disch:=first|assumption|omega|(simp only[aG]<;>omega)) only[go_sem,seval,hg5,hdg,hcl,hcs']
    have hC6:Chg [] M5 (hp [(.n 0,.cells true [.str n,ii 1])] 1 M5):=aI rfl
    refine dp (cs:= [.str n,ii 1]) (B:=mR) (hp5.cc.chg hC6 fun _ _=>by simp) bI (bN (by omega)) rfl (fun i hi=>hC6.old (hp5.oo i hi)) (by simp;omega) (by simp;omega) ?_
    intro v6 M6 hv6 hC7 hF6
    have hg6:=(hC7.get (hC6.old hdo) (fun h=>hp5.cc.new _ h hp5.oR)).trans ((hC6.get hdo (by simp)).trans hdg)
    have ho6:=hC7.old (hC6.old hdo)
    have hPD:=pn (c:=(n,1)) hp5 hC6 hv6 hC7 hF6
    simp (disch:=first|assumption|omega|(simp only[aG]<;>omega)) only[go_sem,seval,hg6,hv6.sl.one]
    refine hK _ ⟨?_,v6,vt,vr,hPD⟩
    refine ((h05.tr hC6).trans hC7 fun i hi ho=>W9 (h0R i ho) (hp5.cc.new i hi)).trans (aI rfl) fun i hi ho=> ?_
    simp only[aC,Xf,Xe,or_false] at hi
    subst hi;exact W9 ho hc.no
  |false=>
   rw[hb4,Xa Bool.false_ne_true] at hK hd4
   have hp4:=hp3.call hC4 hd4
   simp only[go_sem,seval,aa]
   refine WF.use1H (iw hc h04 hp4.hd [59] (by simp) (by omega)) ?_
   rintro M5 ⟨hd5,hC5⟩
   have hp5:=hp4.call hC5 hd5
   have h05:=hbase h04 hC5
   have hg5:=(hC5.get ho4 (by simpa using hr2)).trans hg4
   have ho5:=hC5.old ho4
   have hdg:=hp5.hd.g
   have hdo:=hp5.hd.o
   have hcl:=hp5.cc.sl.one
   have hcs':=hp5.cc.sl.same (n:=3)
   simp (disch:=first|assumption|omega|(simp only[aG]<;>omega)) only[go_sem,seval,hg5,hdg,hcl,hcs']
   have hC6:Chg [] M5 (hp [(.n 0,.cells true [.str n,ii 1])] 1 M5):=aI rfl
   refine dp (cs:= [.str n,ii 1]) (B:=mR) (hp5.cc.chg hC6 fun _ _=>by simp) bI (bN (by omega)) rfl (fun i hi=>hC6.old (hp5.oo i hi)) (by simp;omega) (by simp;omega) ?_
   intro v6 M6 hv6 hC7 hF6
   have hg6:=(hC7.get (hC6.old hdo) (fun h=>hp5.cc.new _ h hp5.oR)).trans ((hC6.get hdo (by simp)).trans hdg)
   have ho6:=hC7.old (hC6.old hdo)
   have hPD:=pn (c:=(n,1)) hp5 hC6 hv6 hC7 hF6
   simp (disch:=first|assumption|omega|(simp only[aG]<;>omega)) only[go_sem,seval,hg6,hv6.sl.one]
   refine hK _ ⟨?_,v6,vt,vr,hPD⟩
   refine ((h05.tr hC6).trans hC7 fun i hi ho=>W9 (h0R i ho) (hp5.cc.new i hi)).trans (aI rfl) fun i hi ho=> ?_
   simp only[aC,Xf,Xe,or_false] at hi
   subst hi;exact W9 ho hc.no
 |false=>
  have ne1:¬(aZ L [99,101,108,108] s=true):=by rw[hb];exact Bool.false_ne_true
  rw[hb,Xa Bool.false_ne_true] at hd1
  rw[Xa ne1] at hK
  have hp1:=hp0.call hC1 hd1
  have h01:=hbase h0 hC1
  simp only[go_sem,seval,aa]
  refine WF.use1H (dS hc h01 hp1.hd [116,104,114,101,97,100] (by simp) (by omega)) ?_
  rintro M2 ⟨hd2,hC2⟩
  have h02:=hbase h01 hC2
  have tpw:∀{M:NH},PD mR M r vl s P vc vt vr->True:=fun _=>trivial
  cases hb2:aZ L [116,104,114,101,97,100] s with
  |true=>
   rw[hb2,Xb rfl] at hd2 hK
   have hlt:=(bR hb2).2
   have hp2:=hp1.call hC2 hd2
   simp only[go_sem,seval,aa]
   refine WF.use1H (nT hc h02 hp2.hd (by have:(ak s).a=s.a+1:=rfl;omega)) ?_
   rintro M3 ⟨hd3,hC3⟩
   have hp3:=hp2.call hC3 hd3
   have h03:=hbase h02 hC3
   have hlim3:=(cX L (ak s)).lim hlt
   unfold mO at hK
   generalize bh L (ak s)=q at hd3 hp3 hlim3 hK
   obtain ⟨n,s3⟩:=q
   dsimp only at hd3 hp3 hlim3 hK
   simp (disch:=first|assumption|omega|(simp only[aG]<;>omega)) only[go_sem,seval]
   generalize hM4:hp _ 1 M3=M4
   have hC4:Chg [] M3 M4:=aR hM4 rfl
   have hg4:M4.get (na M3 0)=some (.cells true [.str n,.nils]):=bu hM4
   have ho4:am M4 (na M3 0):=bt hM4 (by omega)
   have hr3:na M3 0≠r:=fun e=>hp3.hd.o.ne 0 e.symm
   have hp4:=hp3.grow hC4
   have h04:=h03.tr hC4
   refine WF.useH (Ii hc 30 (Nat.le_refl _) h04 hp4.hd hlim3) ?_
   rintro v5 M5 ⟨⟨C5,hb5⟩,hd5,hC5⟩
   generalize dQ L 30 s3=q at hb5 hd5 hK
   obtain ⟨b,s5⟩:=q
   dsimp only at hb5 hd5 hK
   have hg5:=(hC5.get ho4 (by simpa using hr3)).trans hg4
   have ho5:=hC5.old ho4
   have hC35:Chg [r] M3 M5:=(hC4.weak (by simp)).trans hC5 fun _ h _=>h
   have hp5:=hp3.call hC35 hd5
   have hdg:=hp5.hd.g
   have hdo:=hp5.hd.o
   obtain ⟨CT,t1,t2,-⟩:=hp5.tt
   have hcl:=t1.sl.one
   have hcs':=t1.sl.same (n:=3)
   have hr3':r≠na M3 0:=fun e=>hr3 e.symm
   obtain ⟨CT4,t41,-,-⟩:=hp4.tt
   have hbT:SS M5 (fun i=>TP mR vc vt i/\i≠na M3 0) v5 b C5:=hb5.weak fun i hi=>⟨⟨fun h=>hi (hp4.oo i h),fun h=>hi (hp4.cc.sl.old i h),fun h=>hi (t41.sl.old i h)⟩,fun h=>hi (h▸ho4)⟩
   simp (disch:=first|assumption|omega|(simp only[aG]<;>omega)) only[go_sem,seval,hg5,hdg,hb5.sl.one,hcl,hcs']
   have hCb:Chg [na M3 0] M5 (hp [(.n 0,.cells true [.str n,v5]),(.o (na M3 0),.cells true [.str n,v5])] 1 M5):=aI rfl
   have hxb:(hp [(.n 0,.cells true [.str n,v5]),(.o (na M3 0),.cells true [.str n,v5])] 1 M5).get (na M5 0)=some (.cells true [.str n,v5]):=bI
   have hob:am (hp [(.n 0,.cells true [.str n,v5]),(.o (na M3 0),.cells true [.str n,v5])] 1 M5) (na M5 0):=bN (by omega)
   generalize hp [(.n 0,.cells true [.str n,v5]),(.o (na M3 0),.cells true [.str n,v5])] 1 M5=Mb at hCb hxb hob ⊢
   have hCb3:Chg [r] M3 Mb:=hC35.trans hCb fun i hi ho=>by
    have hi:=one hi;subst hi;exact W9 ho aA
   have hpb:=hp3.call hCb3 (hd5.chg hCb (by simpa using hr3'))
   have h0b:=hbase h03 hCb3
   have hbb:SS Mb (TP mR vc vt) v5 b C5:=(hbT.stays (bz.of hCb fun i hi hs=>by
    simp only[Xf,Xe,or_false] at hs;exact hi.2 hs)).weak fun i hi=>hi.1
   obtain ⟨CTb,tb1,tb2,tb3⟩:=hpb.tt
   have hdgb:=hpb.hd.g
   have hdob:=hpb.hd.o
   refine dp (cs:= [.str n,v5]) (B:=mR) tb1 hxb hob rfl (fun i hi=>hpb.oo i hi) (by omega) (by omega) ?_
   intro v6 M6 hv6 hC7 hF6
   have hg6:=(hC7.get hdob (fun h=>tb1.new _ h hpb.oR)).trans hdgb
   have ho6:=hC7.old hdob
   have hPD:=G8 (n:=n) hpb hbb tb1 tb2 tb3 hv6 hC7 hF6
   simp (disch:=first|assumption|omega|(simp only[aG]<;>omega)) only[go_sem,seval,hg6,hv6.sl.one]
   refine hK _ ⟨?_,vc,v6,vr,hPD⟩
   refine (h0b.trans hC7 fun i hi ho=>W9 (h0R i ho) (tb1.new i hi)).trans (aI rfl) fun i hi ho=> ?_
   simp only[aC,Xf,Xe,or_false] at hi
   subst hi;exact W9 ho hc.no
  |false=>
   have ne2:¬(aZ L [116,104,114,101,97,100] s=true):=by rw[hb2];exact Bool.false_ne_true
   rw[hb2,Xa Bool.false_ne_true] at hd2
   rw[Xa ne2] at hK
   have hp2:=hp1.call hC2 hd2
   have hdg:=hp2.hd.g
   have hl0:(aK L s.a).l[0]? =some (ii (aK L s.a).k):=rfl
   have hl1:(aK L s.a).l[1]? =some (.str (aK L s.a).t):=rfl
   unfold I2 at hK
   have fin:∀{M:NH},PD mR M r vl (br L P.rd s) P vc vt vr->Chg [] m0 M->∃m',rT 70 [.ptr r 0,.str fC] M (.tup []) m'/\PD mR m' r vl (a9 L fC (br L P.rd s)) P vc vt vr/\Chg [] m0 m':=by
    intro M q1 q2
    have ha2:(br L P.rd s).a<=100000:=by
     have h1:St L s (br L P.rd s):=by unfold br;split;exact cL _ _ _;exact St.refl _ _
     have:=h1.lim ha
     omega
    obtain ⟨m',w1,w2,w3⟩:=iw hc q2 q1.hd fC (by simp) ha2
    exact ⟨m',w1,q1.call w3 w2,hbase q2 w3⟩
   have hst3:(a9 L fC (br L P.rd s)).a<=L.length:=by
    have h1:St L s (br L P.rd s):=by unfold br;split;exact cL _ _ _;exact St.refl _ _
    exact (h1.trans (cr _ _ _)).lim ha
   have fin2:∀{M:NH},PD mR M r vl (a9 L fC (br L P.rd s)) P vc vt vr->Chg [] m0 M->PD mR (hp [(.o r,.cells true [vl,ii (a9 L fC (br L P.rd s)).a,ii (a9 L fC (br L P.rd s)).e,ii (a9 L fC (br L P.rd s)).b,.bool true,vc,vt,vr])] 0 M) r vl (a9 L fC (br L P.rd s)) ⟨P.cs,P.ts,P.rc,true⟩ vc vt vr/\Chg [] m0 (hp [(.o r,.cells true [vl,ii (a9 L fC (br L P.rd s)).a,ii (a9 L fC (br L P.rd s)).e,ii (a9 L fC (br L P.rd s)).b,.bool true,vc,vt,vr])] 0 M):=by
    intro M q1 q2
    obtain ⟨C,q3⟩:=q1.rr
    exact ⟨IK q1 q3 (by simp[aC]),hbase q2 (aI rfl)⟩
   have fin3:∀{M:NH},PD mR M r vl (a9 L fC (br L P.rd s)) ⟨P.cs,P.ts,P.rc,true⟩ vc vt vr->Chg [] m0 M->∃v m',rT 71 [.ptr r 0,ii 0] M v m'/\cellsOf v=some [v]/\m'.get r=some (.cells true [vl,ii (dQ L 30 (a9 L fC (br L P.rd s))).2.a,ii (dQ L 30 (a9 L fC (br L P.rd s))).2.e,ii (dQ L 30 (a9 L fC (br L P.rd s))).2.b,.bool true,vc,vt,vr])/\am m' r/\
    K (.tup []) (hp [(.o r,.cells true [vl,ii (dQ L 30 (a9 L fC (br L P.rd s))).2.a,ii (dQ L 30 (a9 L fC (br L P.rd s))).2.e,ii (dQ L 30 (a9 L fC (br L P.rd s))).2.b,.bool true,vc,vt,v])] 0 m'):=by
    intro M q1 q2
    obtain ⟨v,m',w1,⟨C,w2⟩,w3,w4⟩:=Ii hc 30 (Nat.le_refl _) q2 q1.hd hst3
    have q3:=q1.call w4 w3
    obtain ⟨CT,t1,-,-⟩:=q1.tt
    have w5:SS m' (TP mR vc vt) v (dQ L 30 (a9 L fC (br L P.rd s))).1 C:=w2.weak fun i hi=>⟨fun h=>hi (q1.oo i h),fun h=>hi (q1.cc.sl.old i h),fun h=>hi (t1.sl.old i h)⟩
    refine ⟨v,m',w1,w2.sl.one,w3.g,w3.o,hK _ ⟨(hbase q2 w4).trans (aI rfl) fun i hi ho=> ?_,vc,vt,v,IK q3 w5 (by simp[aC])⟩⟩
    simp only[aC,Xf,Xe,or_false] at hi
    subst hi;exact W9 ho hc.no
   have no:∀{M},PD mR M r vl s P vc vt vr->¬(P.rd=true/\(aK L s.a).k=4/\(aK L s.a).t=fC)->PD mR M r vl (br L P.rd s) P vc vt vr:=fun h q=>by rw[br,Xa q];exact h
   cases hrd:P.rd with
   |false=>
    rw[hrd] at hdg
    simp only[go_sem,seval,hdg,aa]
    refine WF.use1H (fin (no hp2 (by rw[hrd];simp)) h02) ?_
    rintro M7 ⟨hp7,h07⟩
    have hdg7:=hp7.hd.g
    have hdo7:=hp7.hd.o
    obtain ⟨hp8,h08⟩:=fin2 hp7 h07
    obtain ⟨v9,M9,hr9,hv9,hg9,ho9,hK9⟩:=fin3 hp8 h08
    simp (disch:=first|assumption|omega|(simp only[aG]<;>omega)) only[go_sem,seval,hdg7,hr9.wf,hv9,hg9]
    exact hK9
   |true=>
    rw[hrd] at hdg
    obtain ⟨M3,hr3,hC3⟩:=jQ hc h02 hp2.hd
    have hp3:=hp2.grow hC3
    have h03:=h02.tr hC3
    obtain ⟨M4,hr4,hC4⟩:=jQ hc h03 hp3.hd
    have hp4:=hp3.grow hC4
    have h04:=h03.tr hC4
    by_cases hk:(aK L s.a).k=4
    ·by_cases ht:(aK L s.a).t=fC
     ·simp (disch:=first|assumption|omega) only[go_sem,seval,hdg,hr3.wf',hr4.wf',hl0,hl1,aa]
      refine WF.use1 (i7 hp4.hd 5) ?_
      rintro M5 ⟨hd5,hC5⟩
      have hp5:=hp4.call hC5 hd5
      have e5:br L P.rd s=bD 5 s:=by rw[br,Xb ⟨hrd,hk,ht⟩]
      simp only[go_sem,seval]
      refine WF.use1H (fin (by rw[e5];exact hp5) (hbase h04 hC5)) ?_
      rintro M7 ⟨hp7,h07⟩
      have hdg7:=hp7.hd.g
      have hdo7:=hp7.hd.o
      obtain ⟨hp8,h08⟩:=fin2 hp7 h07
      obtain ⟨v9,M9,hr9,hv9,hg9,ho9,hK9⟩:=fin3 hp8 h08
      simp (disch:=first|assumption|omega|(simp only[aG]<;>omega)) only[go_sem,seval,hdg7,hr9.wf,hv9,hg9]
      exact hK9
     ·simp (disch:=first|assumption|omega) only[go_sem,seval,hdg,hr3.wf',hr4.wf',hl0,hl1,aa]
      refine WF.use1H (fin (no hp4 fun h=>ht h.2.2) h04) ?_
      rintro M7 ⟨hp7,h07⟩
      have hdg7:=hp7.hd.g
      have hdo7:=hp7.hd.o
      obtain ⟨hp8,h08⟩:=fin2 hp7 h07
      obtain ⟨v9,M9,hr9,hv9,hg9,ho9,hK9⟩:=fin3 hp8 h08
      simp (disch:=first|assumption|omega|(simp only[aG]<;>omega)) only[go_sem,seval,hdg7,hr9.wf,hv9,hg9]
      exact hK9
    ·simp (disch:=first|assumption|omega) only[go_sem,seval,hdg,hr3.wf',hr4.wf',hl0,hl1,aa]
     refine WF.use1H (fin (no hp3 fun h=>hk h.2.1) h03) ?_
     rintro M7 ⟨hp7,h07⟩
     have hdg7:=hp7.hd.g
     have hdo7:=hp7.hd.o
     obtain ⟨hp8,h08⟩:=fin2 hp7 h07
     obtain ⟨v9,M9,hr9,hv9,hg9,ho9,hK9⟩:=fin3 hp8 h08
     simp (disch:=first|assumption|omega|(simp only[aG]<;>omega)) only[go_sem,seval,hdg7,hr9.wf,hv9,hg9]
     exact hK9
end
end FR
