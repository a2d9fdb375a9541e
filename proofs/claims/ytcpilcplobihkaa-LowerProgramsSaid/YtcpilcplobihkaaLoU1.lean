/- Contracts of functions that the law LowerPrograms reaches, part 1. -/
import Derived.Test.YtcpilcplobihkaaLoU0
open Go Nm Go.Proofs
namespace FR
set_option linter.unusedSimpArgs false
set_option linter.unusedVariables false
section
variable {ck:D4} {B m0:NH} {vc:NV} {cs:List (List Nat×Int)} {T:D4->Prop}
def mG (ck:D4) (B m0:NH) (vc:NV) (cs:List (List Nat×Int)) (T:D4->Prop) (l:List Stm):Prop:=
 ∀{v:NV} {C:List (List NV)} {N:NH} {u:NV} {st:qI},SS m0 T v l C->Wk ck B m0 vc u st.1.1 (mW st.2) (vS st.2) N->(st.2≠none->mW st.2≠0)->st.1.1.length<=st.1.2->st.1.2+((bk l).flatMap Stm.own).length<=100000000->bA l<=100000000->
  ∃N',bm Try.prog S0 52 [.ptr ck 0,v] N (.tup []) N'/\∃u',Wk ck B m0 vc u' (iq (cs.map (·.1)) l st).1.1 (mW (iq (cs.map (·.1)) l st).2) (vS (iq (cs.map (·.1)) l st).2) N'/\Chg (ck::ids u) N N'/\bD N u u'
theorem B6 (M:List (List Nat)):∀(acc L:List (List Nat)),(M.foldl aP acc).foldl aP L=M.foldl aP (acc.foldl aP L):=by
 induction M with
 |nil=>intro acc L;rfl
 |cons s M ih=>
  intro acc L
  rw[List.foldl_cons,ih,List.foldl_cons]
  congr 1
  by_cases h:s∈acc
  ·rw[show aP acc s=acc from if_pos h,show aP (acc.foldl aP L) s=acc.foldl aP L from if_pos ((ga acc L).2 (Or.inr h))]
  ·rw[show aP acc s=acc++ [s] from if_neg h,List.foldl_append];rfl
theorem Ip {Z:List (List Nat)} {e:Int} (M:List (List Nat)):e6 Z e (M.foldl aP [])=e6 Z e M:=by
 have:(∃n∈M.foldl aP [],n∈Z)↔∃n∈M,n∈Z:=by simp[ga]
 unfold e6
 simp only[this]
theorem Hr (x:Stm):x.own.length<=(x.all.flatMap Stm.own).length:=by
 rw[nK,List.flatMap_cons,List.length_append];omega
theorem Eh (hcs:Sl m0 vc 2 (lm cs)) (hcl:cs.length<=1000000) (h0:∀i,ay m0 i->ay B i) (hk:¬ay m0 ck) (hkB:¬ay B ck)
 {x:Stm} {w:SV} (hR:RS m0 T x (x.l w)) (hP:SP m0 T x w) (hb:mG ck B m0 vc cs T x.b) (he:mG ck B m0 vc cs T x.e) {L:List (List Nat)} {n:Nat} (hln:L.length<=n) (hbud:n+(x.all.flatMap Stm.own).length<=100000000) (hsz:x.sz<=100000000)
 {v u:NV} {N:NH} (hW:Wk ck B m0 vc u L 0 0 N) {i ln:Nat} {id:D4} {off:Nat} {wr:Bool} {C:List NV} (hi:i<ln) (hlv:CO v= .val (ii ln)) (hlm:ln<=1000000000) (a1:jw 21 v (ii i)= .val (.ptr id off)) (a2:N.get id=some (.cells wr C)) (a3:ay N id) (a4:off+21<=C.length) (a5:(C.drop off).take 21=x.l w) {t:Tm}
 (g1:NT.get D4.e t=some (.ptr ck 0)) (g2:NT.get D4.e.a t=some v) (g3:NT.get D4.e.f t=some (ii i)) {Q:Out->Dyn->Prop}
 (hN:∀t' N' u',Wk ck B m0 vc u' (dU (cs.map (·.1)) x.all ((L,n),none)).1.1 (mW (dU (cs.map (·.1)) x.all ((L,n),none)).2) (vS (dU (cs.map (·.1)) x.all ((L,n),none)).2) N'->Chg (ck::ids u) N N'->bD N u u'->NT.get D4.e t'=some (.ptr ck 0)->NT.get D4.e.a t'=some v->NT.get D4.e.f t'=some (ii (i+1:Nat))->Q .norm ⟨t', [],none,N'⟩)
 (hF:(dU (cs.map (·.1)) x.all ((L,n),none)).2≠none->∀t' N' u',Wk ck B m0 vc u' (dU (cs.map (·.1)) x.all ((L,n),none)).1.1 (mW (dU (cs.map (·.1)) x.all ((L,n),none)).2) (vS (dU (cs.map (·.1)) x.all ((L,n),none)).2) N'->Chg (ck::ids u) N N'->bD N u u'->Q .ret ⟨an [] t', [],none,N'⟩):
 wp Try.prog S0 none kB ⟨an [] t, [],none,N⟩ Q:=by
 unfold kB
 have hl21:(x.l w).length=21:=rfl
 have hl21':(x.l w).take 21=x.l w:=rfl
 have hg:=hW.g
 have ho:=hW.o
 have hvs:br 4 vc vc=true:=hcs.same
 refine Nz (fun d=>∃t',d=⟨t', [],none,N⟩/\NT.get D4.e t'=some (.ptr ck 0)/\NT.get D4.e.a t'=some v/\NT.get D4.e.f t'=some (ii i)) (fun R hR'=> ?_) ?_
 ·simp (config:={maxSteps:=1000000}) (disch:=first|assumption|omega|exact ab (by omega)|exact aa (by assumption)|(simp only[ap]<;>omega)) only[go_sem,seval,g1,g2,g3,hlv,hg]
  exact hR' _ ⟨_,rfl,by simp only[go_sem,seval,g1],by simp only[go_sem,seval,g2],by simp only[go_sem,seval,g3]⟩
 clear g1 g2 g3
 rintro d ⟨t,rfl,g1,g2,g3⟩
 change wp _ _ _ _ ⟨an [] t, [],none,N⟩ _
 let Ky:D4->Tm->Prop:=fun b1 t=>NT.get D4.e t=some (.ptr ck 0)/\NT.get D4.e.a t=some v/\NT.get D4.e.f t=some (ii i)/\NT.get D4.e.a.a t=some (.ptr b1 0)
 refine gD (fun d=>∃t N1 b1,d=⟨t, [],none,N1⟩/\Ky b1 t/\Chg [] N N1/\¬ay N b1/\ay N1 b1/\N1.get b1=some (.cells true (x.l w))) (fun R hR'=> ?_) ?_
 ·rw[←ag N]
  simp (config:={maxSteps:=1000000}) (disch:=first|assumption|omega|exact ab (by omega)|exact aa (by assumption)|(simp only[ap]<;>omega)) only[go_sem,seval,g1,g2,g3,a1,a2,a5,hl21,hl21']
  generalize hM1:hp _ 1 N=N1
  have hC1:Chg [] N N1:=by rw[←hM1];exact ao rfl
  exact hR' _ ⟨_,N1,na N 0,rfl,⟨by simp only[go_sem,seval,g1],by simp only[go_sem,seval,g2],by simp only[go_sem,seval,g3],by simp only[go_sem,seval]⟩,hC1,aF,by rw[←hM1];exact ab (by omega),by rw[←hM1];exact av⟩
 clear g1 g2 g3
 rintro d ⟨t,N1,b1,rfl,⟨g1,g2,g3,g4⟩,hC1,hb1,ob1,gb1⟩
 change wp _ _ _ _ ⟨an [] t, [],none,N1⟩ _
 have hW1:=hW.grow hC1
 have hbck:b1≠ck:=fun e=>hb1 (e▸ho)
 have hbck':=hbck.symm
 have hbu:b1∉ids u:=fun h=>hb1 (hW.w.sl.old _ h)
 have t0:(x.l w)[0]? =some (ii x.k):=rfl
 have t1:(x.l w)[1]? =some (ii x.a):=rfl
 have t3:(x.l w)[3]? =some (.str x.ce):=rfl
 have hg1:=hW1.g
 have ho1:=hW1.o
 generalize he1:(if (x.k=1∨x.k=2∨x.k=3)/\x.ce∉cs.map (·.1) then (4:Int) else 0)=e1
 refine gD (fun d=>∃t N2,d=⟨t, [],none,N2⟩/\Ky b1 t/\Wk ck B m0 vc u L e1 0 N2/\Chg [ck] N1 N2) (fun R hR'=> ?_) ?_
 ·have hce:=sX N1 x.k
  have hf:=rL (hcs.chg hW1.c fun _ _=>by simp) hcl x.ce
  by_cases hk1:x.k=1∨x.k=2∨x.k=3
  ·rw[decide_eq_true hk1] at hce
   by_cases hz:x.ce∈cs.map (·.1)
   ·rw[if_neg fun q=>q.2 hz] at he1
    subst he1
    have hfp:0<=bW (cs.map (·.1)) x.ce:=gu.2 hz
    generalize bW (cs.map (·.1)) x.ce=z at hf hfp
    simp (config:={maxSteps:=1000000}) (disch:=first|assumption|omega|exact ab (by omega)|exact aa (by assumption)|(simp only[ap]<;>omega)) only[go_sem,seval,g1,g2,g3,g4,gb1,t0,t1,t3,hg1,hvs,hce.wf',hf.wf']
    exact hR' _ ⟨_,N1,rfl,⟨by simp only[go_sem,seval,g1],by simp only[go_sem,seval,g2],by simp only[go_sem,seval,g3],by simp only[go_sem,seval,g4]⟩,hW1,(Chg.refl N1).weak (by simp)⟩
   ·rw[if_pos ⟨hk1,hz⟩] at he1
    subst he1
    have hfp:bW (cs.map (·.1)) x.ce<0:=B5.2 hz
    generalize bW (cs.map (·.1)) x.ce=z at hf hfp
    simp (config:={maxSteps:=1000000}) (disch:=first|assumption|omega|exact ab (by omega)|exact aa (by assumption)|(simp only[ap]<;>omega)) only[go_sem,seval,g1,g2,g3,g4,gb1,t0,t1,t3,hg1,hvs,hce.wf',hf.wf]
    generalize hM2:hp _ 0 N1=N2
    obtain ⟨hW2,hC2⟩:=hW1.set hk hM2
    exact hR' _ ⟨_,N2,rfl,⟨by simp only[go_sem,seval,g1],by simp only[go_sem,seval,g2],by simp only[go_sem,seval,g3],by simp only[go_sem,seval,g4]⟩,hW2,hC2⟩
  ·rw[decide_eq_false hk1] at hce
   rw[if_neg fun q=>hk1 q.1] at he1
   subst he1
   simp (config:={maxSteps:=1000000}) (disch:=first|assumption|omega|exact ab (by omega)|exact aa (by assumption)|(simp only[ap]<;>omega)) only[go_sem,seval,g1,g2,g3,g4,gb1,t0,t1,t3,hg1,hvs,hce.wf']
   exact hR' _ ⟨_,N1,rfl,⟨by simp only[go_sem,seval,g1],by simp only[go_sem,seval,g2],by simp only[go_sem,seval,g3],by simp only[go_sem,seval,g4]⟩,hW1,(Chg.refl N1).weak (by simp)⟩
 clear g1 g2 g3 g4 hg1 ho1
 rintro d ⟨t,N2,rfl,⟨g1,g2,g3,g4⟩,hW2,hC2⟩
 change wp _ _ _ _ ⟨an [] t, [],none,N2⟩ _
 have gb2:=(hC2.get ob1 (by simpa using hbck)).trans gb1
 have ob2:=hC2.old ob1
 have hg2:=hW2.g
 refine gD (fun d=>∃t N3 vm,d=⟨t, [],none,N3⟩/\Ky b1 t/\NT.get D4.e.a.b t=some vm/\bz N2 N3 vm 1 (bw (x.own.foldl aP []))/\Chg [] N2 N3) (fun R hR'=> ?_) ?_
 ·simp (config:={maxSteps:=1000000}) (disch:=first|assumption|omega|exact ab (by omega)|exact aa (by assumption)|(simp only[ap]<;>omega)) only[go_sem,seval,g1,g2,g3,g4,gb2,hl21,hl21']
  refine WF.use (HD hR (B:=N2) (m:=N2) (v:= .nils) (l:= []) hW2.c bz.nil (fun i hi=>hW2.c.old hi) (fun _ h=>h) (by simp;omega)) ?_
  rintro vm N3 ⟨hvm,hC3,-⟩
  have hC3':Chg [] N2 N3:=hC3.weak (by simp[ids])
  simp (config:={maxSteps:=1000000}) (disch:=first|assumption|omega|exact ab (by omega)|exact aa (by assumption)|(simp only[ap]<;>omega)) only[go_sem,seval,g1,g2,g3,g4]
  exact hR' _ ⟨_,N3,vm,rfl,⟨by simp only[go_sem,seval,g1],by simp only[go_sem,seval,g2],by simp only[go_sem,seval,g3],by simp only[go_sem,seval,g4]⟩,by simp only[go_sem,seval],hvm,hC3'⟩
 clear g1 g2 g3 g4
 rintro d ⟨t,N3,vm,rfl,⟨g1,g2,g3,g4⟩,g5,hvm,hC3⟩
 change wp _ _ _ _ ⟨an [] t, [],none,N3⟩ _
 have gb3:=(hC3.get ob2 (by simp)).trans gb2
 have ob3:=hC3.old ob2
 have hW3:=hW2.grow hC3
 have hdck:ck∉ids vm:=fun h=>hvm.new _ h hW2.o
 have hol:=Hr x
 have hdl:=b9 x.own []
 rw[List.length_nil] at hdl
 generalize he2:e6 (cs.map (·.1)) e1 x.own=e2
 refine gD (fun d=>∃t N4,d=⟨t, [],none,N4⟩/\Ky b1 t/\NT.get D4.e.a.b t=some vm/\Wk ck B m0 vc u L e2 0 N4/\Chg [ck] N3 N4) (fun R hR'=> ?_) ?_
 ·simp (config:={maxSteps:=1000000}) (disch:=first|assumption|omega|exact ab (by omega)|exact aa (by assumption)|(simp only[ap]<;>omega)) only[go_sem,seval,g1,g2,g3,g4,g5]
  refine MO hcs hcl hk hW3 hvm.sl hdck (by omega) (v:=v) (s2:= .ptr b1 0) (i0:=i) (by simp only[go_sem,seval,g1]) (by simp only[go_sem,seval,g5]) (by simp only[go_sem,seval]) (by simp only[go_sem,seval,g2]) (by simp only[go_sem,seval,g3]) (by simp only[go_sem,seval,g4]) ?_
  intro t' N4 hW4 hC4 k1 k2 k3 k4 k5
  rw[Ip,he2] at hW4
  simp (config:={maxSteps:=1000000}) (disch:=first|assumption|omega|exact ab (by omega)|exact aa (by assumption)|(simp only[ap]<;>omega)) only[go_sem,seval]
  exact hR' _ ⟨_,N4,rfl,⟨k1,k3,k4,k5⟩,k2,hW4,hC4⟩
 clear g1 g2 g3 g4 g5
 rintro d ⟨t,N4,rfl,⟨g1,g2,g3,g4⟩,g5,hW4,hC4⟩
 change wp _ _ _ _ ⟨an [] t, [],none,N4⟩ _
 have gb4:=(hC4.get ob3 (by simpa using hbck)).trans gb3
 have ob4:=hC4.old ob3
 have hvm4:=hvm.chg hC4 fun i hi=>by simp;rintro rfl;exact hdck hi
 have hdu:∀i∈ids vm,i∉ids u:=fun i hi hu=>hvm.new i hi (hW2.w.sl.old i hu)
 refine gD (fun d=>∃t N5 u5,d=⟨t, [],none,N5⟩/\Ky b1 t/\Wk ck B m0 vc u5 (x.own.foldl aP L) e2 0 N5/\Chg (ck::ids u) N4 N5/\bD N4 u u5) (fun R hR'=> ?_) ?_
 ·simp (config:={maxSteps:=1000000}) (disch:=first|assumption|omega|exact ab (by omega)|exact aa (by assumption)|(simp only[ap]<;>omega)) only[go_sem,seval,g1,g2,g3,g4,g5]
  refine Ly h0 hk hkB hvs hW4 hvm4 hdck hdu (by omega) (v:=v) (s2:= .ptr b1 0) (i0:=i) (by simp only[go_sem,seval,g1]) (by simp only[go_sem,seval,g5]) (by simp only[go_sem,seval]) (by simp only[go_sem,seval,g2]) (by simp only[go_sem,seval,g3]) (by simp only[go_sem,seval,g4]) ?_
  intro t' N5 u5 hW5 hC5 hF5 k1 k2 k3 k4
  rw[B6,List.foldl_nil] at hW5
  simp (config:={maxSteps:=1000000}) (disch:=first|assumption|omega|exact ab (by omega)|exact aa (by assumption)|(simp only[ap]<;>omega)) only[go_sem,seval]
  exact hR' _ ⟨_,N5,u5,rfl,⟨k1,k2,k3,k4⟩,hW5,hC5,hF5⟩
 clear g1 g2 g3 g4 g5
 rintro d ⟨t,N5,u5,rfl,⟨g1,g2,g3,g4⟩,hW5,hC5,hF5⟩
 change wp _ _ _ _ ⟨an [] t, [],none,N5⟩ _
 have hbn:b1∉ck::ids u:=by rw[List.mem_cons,not_or];exact ⟨hbck,hbu⟩
 have gb5:=(hC5.get ob4 hbn).trans gb4
 have ob5:=hC5.old ob4
 have hbu5:b1∉ids u5:=fun h=>(hF5 _ h).elim hbu fun q=>q ob4
 have hN4:Chg [ck] N N4:=((((hC1.weak (T:= [ck]) (by simp)).trans hC2 fun _ h _=>h).trans hC3 (by simp)).trans hC4 fun _ h _=>h)
 have hN5:Chg (ck::ids u) N N5:=(hN4.weak (by simp)).trans hC5 fun _ h _=>h
 have hFN5:bD N u u5:=fun i hi=>(hF5 i hi).imp _root_.id fun q o=>q (hN4.old o)
 have hg5:=hW5.g
 have ho5:=hW5.o
 have hlen5:=hW5.w.sl.len
 rw[List.length_map] at hlen5
 have hfl:=b9 x.own L
 have hL5:(x.own.foldl aP L).length<=n+x.own.length:=by omega
 generalize hLL:x.own.foldl aP L=L' at hW5 hlen5 hL5
 generalize he3:(if e2=0/\12<L'.length then (3:Int) else e2)=e3
 have herr:kQ (cs.map (·.1)) L' x=e3:=by unfold kQ;rw[he1,he2,he3]
 have hrd:(nX (cs.map (·.1)) ((L,n),none) x).1=((L',n+x.own.length),Hi x.a e3):=by
  unfold nX;dsimp only;rw[hLL,herr]
 refine gD (fun d=>∃t N6,d=⟨t, [],none,N6⟩/\Ky b1 t/\Wk ck B m0 vc u5 L' e3 0 N6/\Chg [ck] N5 N6) (fun R hR'=> ?_) ?_
 ·by_cases h2:e2=0
  ·rw[h2] at hg5
   by_cases h12:12<L'.length
   ·rw[if_pos ⟨h2,h12⟩] at he3
    subst he3
    rw[←ag N5]
    simp (config:={maxSteps:=1000000}) (disch:=first|assumption|omega|exact ab (by omega)|exact aa (by assumption)|(simp only[ap]<;>omega)) only[go_sem,seval,g1,g2,g3,g4,hg5,hlen5]
    generalize hM6:hp _ 0 N5=N6
    rw[h2] at hW5
    obtain ⟨hW6,hC6⟩:=hW5.set hk hM6
    exact hR' _ ⟨_,N6,rfl,⟨by simp only[go_sem,seval,g1],by simp only[go_sem,seval,g2],by simp only[go_sem,seval,g3],by simp only[go_sem,seval,g4]⟩,hW6,hC6⟩
   ·rw[if_neg fun q=>h12 q.2] at he3
    subst he3
    simp (config:={maxSteps:=1000000}) (disch:=first|assumption|omega|exact ab (by omega)|exact aa (by assumption)|(simp only[ap]<;>omega)) only[go_sem,seval,g1,g2,g3,g4,hg5,hlen5]
    exact hR' _ ⟨_,N5,rfl,⟨by simp only[go_sem,seval,g1],by simp only[go_sem,seval,g2],by simp only[go_sem,seval,g3],by simp only[go_sem,seval,g4]⟩,hW5,(Chg.refl N5).weak (by simp)⟩
  ·rw[if_neg fun q=>h2 q.1] at he3
   subst he3
   simp (config:={maxSteps:=1000000}) (disch:=first|assumption|omega|exact ab (by omega)|exact aa (by assumption)|(simp only[ap]<;>omega)) only[go_sem,seval,g1,g2,g3,g4,hg5,hlen5]
   exact hR' _ ⟨_,N5,rfl,⟨by simp only[go_sem,seval,g1],by simp only[go_sem,seval,g2],by simp only[go_sem,seval,g3],by simp only[go_sem,seval,g4]⟩,hW5,(Chg.refl N5).weak (by simp)⟩
 clear g1 g2 g3 g4 hg5 ho5 hlen5
 rintro d ⟨t,N6,rfl,⟨g1,g2,g3,g4⟩,hW6,hC6⟩
 change wp _ _ _ _ ⟨an [] t, [],none,N6⟩ _
 have gb6:=(hC6.get ob5 (by simpa using hbck)).trans gb5
 have ob6:=hC6.old ob5
 have hN6:Chg (ck::ids u) N N6:=hN5.trans (hC6.weak (T:=ck::ids u) (by simp)) fun _ h _=>h
 have hg6:=hW6.g
 have ho6:=hW6.o
 have hall:=Dc (Z:=cs.map (·.1)) (x:=x) (st:=((L,n),none)) rfl
 rw[hrd] at hall
 refine gD (fun d=>e3=0/\∃t,d=⟨t, [],none,N6⟩/\Ky b1 t) (fun R hR'=> ?_) ?_
 ·by_cases h3:e3=0
  ·rw[h3] at hg6
   simp (config:={maxSteps:=1000000}) (disch:=first|assumption|omega|exact ab (by omega)|exact aa (by assumption)|(simp only[ap]<;>omega)) only[go_sem,seval,g1,g2,g3,g4,hg6]
   exact hR' _ ⟨h3,_,rfl,by simp only[go_sem,seval,g1],by simp only[go_sem,seval,g2],by simp only[go_sem,seval,g3],by simp only[go_sem,seval,g4]⟩
  ·rw[show Hi x.a e3=some (x.a,e3) from if_neg h3] at hall
   have hid:∀l,iq (cs.map (·.1)) l ((L',n+x.own.length),some (x.a,e3))=((L',n+x.own.length),some (x.a,e3)):=fun l=>if_neg (by simp)
   rw[hid,hid] at hall
   rw[hall] at hF
   rw[←ag N6]
   simp (config:={maxSteps:=1000000}) (disch:=first|assumption|omega|exact ab (by omega)|exact aa (by assumption)|(simp only[ap]<;>omega)) only[go_sem,seval,g1,g2,g3,g4,hg6,h3,gb6,t1]
   generalize hM7:hp _ 0 N6=N7
   obtain ⟨hW7,hC7⟩:=hW6.set hk hM7
   exact hF (by simp) _ N7 u5 hW7 (hN6.trans (hC7.weak (T:=ck::ids u) (by simp)) fun _ h _=>h) hFN5
 clear g1 g2 g3 g4
 rintro d ⟨h3,t,rfl,⟨g1,g2,g3,g4⟩⟩
 change wp _ _ _ _ ⟨an [] t, [],none,N6⟩ _
 subst h3
 rw[show Hi x.a 0=none from if_pos rfl] at hall
 have hrs:mW (none:Option (Int×Int))=0:=rfl
 have hra:vS (none:Option (Int×Int))=0:=rfl
 have hsze:=sZ x
 rw[nK,List.flatMap_cons,List.length_append,List.flatMap_append,List.length_append] at hbud
 generalize hst8:iq (cs.map (·.1)) (if x.k=6∨x.k=7 then x.b else []) ((L',n+x.own.length),none)=st8 at hall
 have hw8:=D7 (Z:=cs.map (·.1)) (bk (if x.k=6∨x.k=7 then x.b else [])) ((L',n+x.own.length),none)
 rw[←kT,hst8] at hw8
 obtain ⟨q1,q2,q3⟩:=hw8
 dsimp only at q1 q3
 have t19:(x.l w)[19]? =some w.vb:=rfl
 have t20:(x.l w)[20]? =some w.ve:=rfl
 obtain ⟨Bb,hSb⟩:=hP.b
 obtain ⟨Be,hSe⟩:=hP.e
 refine gD (fun d=>∃t N8 u8,d=⟨t, [],none,N8⟩/\Ky b1 t/\Wk ck B m0 vc u8 st8.1.1 (mW st8.2) (vS st8.2) N8/\Chg (ck::ids u5) N6 N8/\bD N6 u5 u8) (fun R hR'=> ?_) ?_
 ·by_cases h67:x.k=6∨x.k=7
  ·rw[if_pos h67] at hst8 hbud q1
   obtain ⟨N8,hr8,u8,hW8,hC8,hF8⟩:=hb hSb (st:=((L',n+x.own.length),none)) hW6 (fun h=>absurd rfl h) (by dsimp only;omega) (by dsimp only;omega) (by omega)
   rw[hst8] at hW8
   rcases h67 with h6|h7
   ·simp (config:={maxSteps:=1000000}) (disch:=first|assumption|omega|exact ab (by omega)|exact aa (by assumption)|(simp only[ap]<;>omega)) only[go_sem,seval,g1,g2,g3,g4,gb6,t0,t19,h6,hr8.wf']
    exact hR' _ ⟨_,N8,u8,rfl,⟨by simp only[go_sem,seval,g1],by simp only[go_sem,seval,g2],by simp only[go_sem,seval,g3],by simp only[go_sem,seval,g4]⟩,hW8,hC8,hF8⟩
   ·simp (config:={maxSteps:=1000000}) (disch:=first|assumption|omega|exact ab (by omega)|exact aa (by assumption)|(simp only[ap]<;>omega)) only[go_sem,seval,g1,g2,g3,g4,gb6,t0,t19,h7,hr8.wf']
    exact hR' _ ⟨_,N8,u8,rfl,⟨by simp only[go_sem,seval,g1],by simp only[go_sem,seval,g2],by simp only[go_sem,seval,g3],by simp only[go_sem,seval,g4]⟩,hW8,hC8,hF8⟩
  ·rw[if_neg h67] at hst8
   have e8:st8=((L',n+x.own.length),none):=by rw[←hst8];rfl
   have d6:x.k≠6:=fun h=>h67 (Or.inl h)
   have d7:x.k≠7:=fun h=>h67 (Or.inr h)
   simp (config:={maxSteps:=1000000}) (disch:=first|assumption|omega|exact ab (by omega)|exact aa (by assumption)|(simp only[ap]<;>omega)) only[go_sem,seval,g1,g2,g3,g4,gb6,t0,t19,d6,d7]
   exact hR' _ ⟨_,N6,u5,rfl,⟨by simp only[go_sem,seval,g1],by simp only[go_sem,seval,g2],by simp only[go_sem,seval,g3],by simp only[go_sem,seval,g4]⟩,by rw[e8];exact hW6,(Chg.refl N6).weak (by simp),bD.refl N6 u5⟩
 clear g1 g2 g3 g4 hg6 ho6
 rintro d ⟨t,N8,u8,rfl,⟨g1,g2,g3,g4⟩,hW8,hC8,hF8⟩
 change wp _ _ _ _ ⟨an [] t, [],none,N8⟩ _
 have hb5:b1∉ck::ids u5:=by rw[List.mem_cons,not_or];exact ⟨hbck,hbu5⟩
 have gb8:=(hC8.get ob6 hb5).trans gb6
 have ob8:=hC8.old ob6
 have hFC:∀{u9:NV} {N9:NH} {v9:NV} {M9:NH},Chg (ck::ids u) N M9->bD N u v9->Chg (ck::ids v9) M9 N9->bD M9 v9 u9->Chg (ck::ids u) N N9/\bD N u u9:=by
  intro u9 N9 v9 M9 c1 c2 c3 c4
  refine ⟨c1.trans c3 fun i hi ho=> ?_,fun i hi=> ?_⟩
  ·rcases List.mem_cons.1 hi with e|hi
   ·simp[e]
   ·exact (c2 i hi).elim (fun q=>by simp[q]) fun q=>absurd ho q
  ·exact (c4 i hi).elim (fun q=>c2 i q) fun q=>Or.inr fun o=>q (c1.old o)
 obtain ⟨hN8,hFN8⟩:=hFC hN6 hFN5 hC8 hF8
 by_cases h6:x.k=6
 ·rw[if_pos h6] at hall hbud
  have hq:(bk (if x.k=6∨x.k=7 then x.b else [])).flatMap Stm.own=((if x.k=6∨x.k=7 then bk x.b else [])).flatMap Stm.own:=by rw[if_pos (Or.inl h6),if_pos (Or.inl h6)]
  rw[hq] at q1
  obtain ⟨N9,hr9,u9,hW9,hC9,hF9⟩:=he hSe (st:=st8) hW8 (fun h=>q2 h rfl) (q3 (by omega)) (by omega) (by omega)
  obtain ⟨hN9,hFN9⟩:=hFC hN8 hFN8 hC9 hF9
  rw[←hall] at hW9
  simp (config:={maxSteps:=1000000}) (disch:=first|assumption|omega|exact ab (by omega)|exact aa (by assumption)|(simp only[ap]<;>omega)) only[go_sem,seval,g1,g2,g3,g4,gb8,t0,t20,h6,hr9.wf']
  exact hN _ N9 u9 hW9 hN9 hFN9 (by simp only[go_sem,seval,g1]) (by simp only[go_sem,seval,g2]) (by simp only[go_sem,seval]<;>rfl)
 ·rw[if_neg h6] at hall
  have e9:dU (cs.map (·.1)) x.all ((L,n),none)=st8:=by rw[hall];unfold iq;split<;>rfl
  rw[←e9] at hW8
  simp (config:={maxSteps:=1000000}) (disch:=first|assumption|omega|exact ab (by omega)|exact aa (by assumption)|(simp only[ap]<;>omega)) only[go_sem,seval,g1,g2,g3,g4,gb8,t0,t20,h6]
  exact hN _ N8 u8 hW8 hN8 hFN8 (by simp only[go_sem,seval,g1]) (by simp only[go_sem,seval,g2]) (by simp only[go_sem,seval]<;>rfl)
end
end FR
open Go Nm Go.Proofs
namespace FR
set_option linter.unusedSimpArgs false
set_option linter.unusedVariables false
section
variable {ck:D4} {B m0:NH} {vc:NV} {cs:List (List Nat×Int)} {T:D4->Prop}
theorem zW {Z:List (List Nat)} {l:List Stm} {st:qI} (h:st.2≠none):iq Z l st=st:=if_neg h
theorem lU (hcs:Sl m0 vc 2 (lm cs)) (hcl:cs.length<=1000000) (h0:∀i,ay m0 i->ay B i) (hk:¬ay m0 ck) (hkB:¬ay B ck) {l:List Stm} (ih:∀x∈l,mG ck B m0 vc cs T x.b/\mG ck B m0 vc cs T x.e):mG ck B m0 vc cs T l:=by
 intro v C N u st hS hW hne hle hbud hsz
 refine WF.ex1 fun K hK=> ?_
 refine WF.of_wpG (fun _=>rfl) zB (L:= [(.a .e,v),(.e,.ptr ck 0)]) rfl ?_
 unfold Jo
 have hll:=lg l
 simp (disch:=first|assumption|omega) only[go_sem,seval,ag]
 refine W.loop (fun k d=>∃t M i u' st',d=⟨t, [],none,M⟩/\NT.get D4.e t=some (.ptr ck 0)/\NT.get D4.e.a t=some v/\NT.get D4.e.f t=some (ii (i:Nat))/\i+k=l.length/\iq (cs.map (·.1)) (l.drop i) st'=iq (cs.map (·.1)) l st/\Wk ck B m0 vc u' st'.1.1 (mW st'.2) (vS st'.2) M/\Chg (ck::ids u) N M/\bD N u u'/\(st'.2≠none->mW st'.2≠0)/\st'.1.1.length<=st'.1.2/\st'.1.2+((bk (l.drop i)).flatMap Stm.own).length<=100000000) ?_ l.length _ ⟨_,N,0,u,st,rfl,by simp only[go_sem,seval],by simp only[go_sem,seval],by simp only[go_sem,seval]<;>rfl,by omega,rfl,hW,(Chg.refl N).weak (by simp),bD.refl N u,hne,hle,hbud⟩
 rintro k d ⟨t,M,i,u',st',rfl,g1,g2,g3,hik,hE,hWM,hC,hF,hne',hle',hbud'⟩
 apply aA
 change wp _ _ _ _ ⟨an [] t, [],none,M⟩ _
 have hSM:=hS.stays (io hWM.c T)
 have hlen:=hSM.sl.len
 rw[hS.len] at hlen
 have hg:=hWM.g
 by_cases hi:i<l.length
 ·by_cases hs:st'.2=none
  ·obtain ⟨⟨L,n⟩,r⟩:=st'
   cases hs
   obtain ⟨w,hcx,hRx,hPx⟩:=z9 hS i hi
   obtain ⟨id,off,wr,c,a1,a2,a3,a4,a5⟩:=rk hSM i hi hcx
   have hsx:=yW (List.getElem_mem hi)
   obtain ⟨h1,h2⟩:=ih _ (List.getElem_mem hi)
   rw[List.drop_eq_getElem_cons hi] at hE hbud'
   rw[BL] at hE
   rw[bk,List.flatMap_append,List.length_append] at hbud'
   dsimp only at hbud' hle'
   obtain ⟨q1,q2,q3⟩:=D7 (Z:=cs.map (·.1)) l[i].all ((L,n),none)
   have hstep:∀{u9:NV} {N9:NH},Chg (ck::ids u') M N9->bD M u' u9->Chg (ck::ids u) N N9/\bD N u u9:=by
    intro u9 N9 c3 c4
    refine ⟨hC.trans c3 fun i hi ho=> ?_,fun i hi=> ?_⟩
    ·rcases List.mem_cons.1 hi with e|hi
     ·simp[e]
     ·exact (hF i hi).elim (fun q=>by simp[q]) fun q=>absurd ho q
    ·exact (c4 i hi).elim (fun q=>hF i q) fun q=>Or.inr fun o=>q (hC.old o)
   refine Eh hcs hcl h0 hk hkB hRx hPx h1 h2 (L:=L) (n:=n) hle' (by omega) (by omega) hWM (ln:=l.length) hi hlen (by omega) a1 a2 a3 a4 a5 g1 g2 g3 ?_ ?_
   ·intro t' N' u9 hW9 hC9 hF9 k1 k2 k3
    obtain ⟨r1,r2⟩:=hstep hC9 hF9
    exact ⟨k - 1,by omega,t',N',i+1,u9,_,rfl,k1,k2,k3,by omega,hE,hW9,r1,r2,fun h=>q2 h rfl,q3 hle',by dsimp only at q1;omega⟩
   ·intro hn t' N' u9 hW9 hC9 hF9
    obtain ⟨r1,r2⟩:=hstep hC9 hF9
    rw[zW hn] at hE
    rw[←hE] at hK
    simp (disch:=first|assumption|omega) only[go_sem,seval]
    exact hK _ ⟨u9,hW9,r1,r2⟩
  ·have hr:=hne' hs
   rw[zW hs] at hE
   rw[←hE] at hK
   generalize mW st'.2=z at hg hr hWM hK
   unfold kB
   simp (disch:=first|assumption|omega) only[go_sem,seval,g1,g2,g3,hlen,hg]
   exact hK _ ⟨u',hWM,hC,hF⟩
 ·rw[List.drop_of_length_le (by omega)] at hE
  have e0:iq (cs.map (·.1)) [] st'=st':=by unfold iq;split<;>rfl
  rw[e0] at hE
  rw[←hE] at hK
  unfold kB
  simp (disch:=first|assumption|omega) only[go_sem,seval,g1,g2,g3,hlen]
  exact hK _ ⟨u',hWM,hC,hF⟩
theorem Ke (hcs:Sl m0 vc 2 (lm cs)) (hcl:cs.length<=1000000) (h0:∀i,ay m0 i->ay B i) (hk:¬ay m0 ck) (hkB:¬ay B ck):∀l:List Stm,mG ck B m0 vc cs T l:=by
 have key:∀x:Stm,mG ck B m0 vc cs T x.b/\mG ck B m0 vc cs T x.e:=by
  apply Stm.ind
  intro k a nm ce i x y b e hb he
  exact ⟨lU hcs hcl h0 hk hkB hb,lU hcs hcl h0 hk hkB he⟩
 exact fun l=>lU hcs hcl h0 hk hkB fun x _=>key x
end
end FR
open Go Nm Go.Proofs
namespace FR
set_option linter.unusedSimpArgs false
set_option linter.unusedVariables false
theorem L4 {Z:List (List Nat)} (l:List Stm):∀st:Mn,st.2=none->(∀x∈l,x.sz<=100000000)->st.1.2+(l.flatMap Stm.own).length<=100000000->Al O1 (lp Z) l st:=by
 induction l with
 |nil=>intro st _ _ _;trivial
 |cons x l ih=>
  intro st h0 h1 h2
  rw[List.flatMap_cons,List.length_append] at h2
  refine ⟨⟨h0,h1 x (List.mem_cons_self ..),by omega⟩,fun h=> ?_⟩
  have e:(lp Z st x).1=((x.own.foldl aP st.1.1,st.1.2+x.own.length),none):=by
   unfold lp at h ⊢
   split at h
   ·cases h
   ·split at h
    ·cases h
    ·split at h
     ·cases h
     ·rename_i a b c;rw[if_neg a,if_neg b,if_neg c]
  rw[e]
  exact ih _ rfl (fun y hy=>h1 y (List.mem_cons_of_mem _ hy)) (by show st.1.2+_+_<=_;omega)
def fo (Z:List (List Nat)) (l:List Stm):Option (Int×Int):=(a6 (lp Z) (bk l) (([],0),none)).1.2
theorem HN {m0 m:NH} {T:D4->Prop} {v:NV} {l:List Stm} {C:List (List NV)} {mo:D4} {Z:List (List Nat)} (hS:SS m0 T v l C) (hC0:Chg [] m0 m) (hm:m.get mo=some (.map (fZ Z))) (hmo:ay m mo) (hsz:bA l<=10000000):
 ∃m',bm Try.prog S0 49 [v,.map mo] m (.tup [ii (vS (fo Z l)),ii (mW (fo Z l))]) m'/\Chg [] m m':=by
 refine WF.ex1 fun K hK=> ?_
 refine WF.of_wpM (fun _=>rfl) zM (L:= [(.a .e,.map mo),(.e,v)]) rfl ?_
 unfold In
 simp (config:={maxSteps:=1000000}) (disch:=first|assumption|omega|exact ab (by omega)|exact aa (by assumption)|(simp only[ap]<;>omega)) only[go_sem,seval,(Hx _ hS.sl.one).wf']
 generalize hM0:hp _ 4 m=M0
 have hC1:Chg [] m M0:=by rw[←hM0];exact ao rfl
 have gc0:M0.get (na m 0)=some (.cells true [.map mo]):=by rw[←hM0];exact av
 have gb0:M0.get (na m 1)=some (.cells true [ii 0]):=by rw[←hM0];exact av
 have ge0:M0.get (na m 2)=some (.cells true [ii 0]):=by rw[←hM0];exact av
 have go0:M0.get (na m 3)=some (.cells true [.nils]):=by rw[←hM0];exact av
 have oc0:ay M0 (na m 0):=by rw[←hM0];exact ab (by omega)
 have ob0:ay M0 (na m 1):=by rw[←hM0];exact ab (by omega)
 have oe0:ay M0 (na m 2):=by rw[←hM0];exact ab (by omega)
 have oo0:ay M0 (na m 3):=by rw[←hM0];exact ab (by omega)
 have gm0:=(hC1.get hmo (by simp)).trans hm
 have om0:=hC1.old hmo
 generalize hM:hp [(.n 0,.cells true [v])] 1 M0=M
 have hC2:Chg [] M0 M:=by rw[←hM];exact ao rfl
 have gz:M.get (na M0 0)=some (.cells true [v]):=by rw[←hM];exact av
 have oz:ay M (na M0 0):=by rw[←hM];exact ab (by omega)
 have hCm:Chg [] m M:=hC1.trans hC2 (by simp)
 generalize ht:an [(D4.e.b.b,NV.fn 97 [NV.ptr (na M0 0) 0]),(D4.e.b.a,v),(D4.e.a.b,NV.ptr (na m 3) 0),(D4.e.a.a,NV.ptr (na m 2) 0),(D4.e.f,NV.ptr (na m 1) 0),(D4.e.c,NV.ptr (na m 0) 0),(D4.e.a,NV.map mo),(D4.e,v)] NT.leaf=t
 have g1:NT.get D4.e.c t=some (.ptr (na m 0) 0):=by rw[←ht];simp (config:={maxSteps:=1000000}) (disch:=first|assumption|omega|exact ab (by omega)|exact aa (by assumption)|(simp only[ap]<;>omega)) only[go_sem,seval]
 have g2:NT.get D4.e.b.b t=some (.fn 97 [.ptr (na M0 0) 0]):=by rw[←ht];simp (config:={maxSteps:=1000000}) (disch:=first|assumption|omega|exact ab (by omega)|exact aa (by assumption)|(simp only[ap]<;>omega)) only[go_sem,seval]
 have g3:NT.get D4.e.f t=some (.ptr (na m 1) 0):=by rw[←ht];simp (config:={maxSteps:=1000000}) (disch:=first|assumption|omega|exact ab (by omega)|exact aa (by assumption)|(simp only[ap]<;>omega)) only[go_sem,seval]
 have g4:NT.get D4.e.a.a t=some (.ptr (na m 2) 0):=by rw[←ht];simp (config:={maxSteps:=1000000}) (disch:=first|assumption|omega|exact ab (by omega)|exact aa (by assumption)|(simp only[ap]<;>omega)) only[go_sem,seval]
 have g5:NT.get D4.e.a.b t=some (.ptr (na m 3) 0):=by rw[←ht];simp (config:={maxSteps:=1000000}) (disch:=first|assumption|omega|exact ab (by omega)|exact aa (by assumption)|(simp only[ap]<;>omega)) only[go_sem,seval]
 clear ht
 generalize hM1:hp [(.n 1,.loop 0 .none t [D4.e.b.c] eR eQ),(.n 0,.defd true)] 2 M=M1
 have hG:Chg [] M M1:=by rw[←hM1];exact ao rfl
 have oq:ay M1 (na M 1):=by rw[←hM1];exact ab (by omega)
 have om:ay M1 (na M 0):=by rw[←hM1];exact ab (by omega)
 have gq:M1.get (na M 1)=some (.loop 0 .none t [D4.e.b.c] eR eQ):=by rw[←hM1];exact av
 have gm:M1.get (na M 0)=some (.defd true):=by rw[←hM1];exact av
 have hG2:Chg [] M0 M1:=hC2.trans hG (by simp)
 have hCm1:Chg [] m M1:=hCm.trans hG (by simp)
 have n01:∀{i:D4} {k:Nat},ay M0 i->i≠na M k:=fun h=>(hC2.old h).ne _
 have nm:∀{j k:Nat},j≠k->na m j≠na m k:=fun h e=>h (je e)
 have hO:BdO (na M 1) (na m 3) (na m 1) (na m 2) (na m 0) mo M1:=by
  refine ⟨(n01 oo0).symm,(n01 ob0).symm,(n01 oe0).symm,nm (by omega),nm (by omega),nm (by omega),oq,hG2.old oo0,hG2.old ob0,hG2.old oe0,hG2.old oc0,hG2.old om0, ?_, ?_⟩
  ·simp only[List.mem_cons,List.not_mem_nil,or_false,not_or]
   exact ⟨n01 oc0,nm (by omega),nm (by omega),nm (by omega)⟩
  ·simp only[List.mem_cons,List.not_mem_nil,or_false,not_or]
   exact ⟨n01 om0,hmo.ne 3,hmo.ne 1,hmo.ne 2⟩
 have h0:∀S,Chg [na M 1,na m 3,na m 1,na m 2] M1 S->Chg [] m0 S:=fun S h=>(hC0.trans hCm1 (by simp)).trans h fun i hi ho=>by
  simp only[List.mem_cons,List.not_mem_nil,or_false] at hi
  rcases hi with rfl|rfl|rfl|rfl
  ·exact absurd (hCm.old (hC0.old ho)) aF
  ·exact absurd (hC0.old ho) aF
  ·exact absurd (hC0.old ho) aF
  ·exact absurd (hC0.old ho) aF
 have hY:=FA (T:=T) hO g1 g3 g4 g5 ((hG2.get oc0 (by simp)).trans gc0) ((hG2.get om0 (by simp)).trans gm0) h0
 obtain ⟨hA1,hA2⟩:=kZ l
 obtain ⟨m',hr,F',⟨u,rfl,hC3,hq3,ho3,hb3,he3,hu3,-⟩,hC4,-⟩:=Fh hY (s:=(([],0),none)) (F:= [na M 1,na m 3,na m 1,na m 2]) (id:=na M0 0) ((hG.get oz (by simp)).trans gz) hS ⟨.nils,rfl,(Chg.refl M1).weak (by simp),gq,(hG2.get oo0 (by simp)).trans go0,(hG2.get ob0 (by simp)).trans gb0,(hG2.get oe0 (by simp)).trans ge0,bz.nil,by simp⟩ (L4 _ _ rfl (fun x hx=>by have:=hA1 x hx;omega) (by show 0+_<=_;omega)) (by omega)
 change m'.get _=some (.loop (Lu (fo Z l)) (NX (fo Z l)) _ _ _ _) at hq3
 change m'.get _=some (.cells true [ii (vS (fo Z l))]) at hb3
 change m'.get _=some (.cells true [ii (mW (fo Z l))]) at he3
 have hst:Lu (fo Z l)≠1:=by cases fo Z l<;>simp[Lu]
 refine W.rangeJ g2 (hM1▸hr) hq3 hst ?_ (hC3.old oq)
 have gm3:m'.get (na M 0)=some (.defd true):=(hC3.get om (by
  simp only[List.mem_cons,List.not_mem_nil,or_false,not_or]
  exact ⟨fun e=>by have:=je e;omega,fun e=>n01 oo0 e.symm,fun e=>n01 ob0 e.symm,fun e=>n01 oe0 e.symm⟩)).trans gm
 have om3:=hC3.old om
 have ob3:=hC3.old (hG2.old ob0)
 have oe3:=hC3.old (hG2.old oe0)
 have hne:na M 0≠na M 1:=fun e=>by have:=je e;omega
 have n1:na m 1≠na M 1:=n01 ob0
 have n1':na m 1≠na M 0:=n01 ob0
 have n2:na m 2≠na M 1:=n01 oe0
 have n2':na m 2≠na M 0:=n01 oe0
 have n3:na m 1≠na m 2:=nm (by omega)
 have n3':na m 2≠na m 1:=nm (by omega)
 have fin:∀{S:List D4} {Me:NH},Chg S m' Me->(∀i∈S,i∈ [na M 1,na M 0,na m 1,na m 2])->Chg [] m Me:=by
  intro S Me hCe hS
  refine ((hCm1.weak (T:= [na M 1,na m 3,na m 1,na m 2,na M 0]) (by simp)).trans hC3 fun i h _=>by simp at h ⊢;rcases h with h|h|h|h<;>simp[h]).trans hCe (fun i h _=>by have:=hS i h;simp at this ⊢;rcases this with h|h|h|h<;>simp[h]) |>.weak fun i hi ho=> ?_
  simp only[List.mem_cons,List.not_mem_nil,or_false] at hi
  rcases hi with rfl|rfl|rfl|rfl|rfl
  ·exact absurd (hCm.old ho) aF
  ·exact absurd ho aF
  ·exact absurd ho aF
  ·exact absurd ho aF
  ·exact absurd (hCm.old ho) aF
 have n1s:=n1'.symm
 have n2s:=n2'.symm
 have n1t:=n1.symm
 have n2t:=n2.symm
 have hne':=hne.symm
 cases hb:fo Z l with
 |none=>
  rw[hb] at hb3 he3 hK
  change hJ _ _ (D8 .none) ⟨an [] t,_,_,_⟩
  simp (config:={maxSteps:=1000000}) (disch:=first|assumption|omega|exact ab (by omega)|exact aa (by assumption)|(simp only[ap]<;>omega)) only[go_sem,seval,D8,g1,g3,g4,gm3,om3,hb3,he3]
  refine wA ?_
  rw[wz]
  simp (config:={maxSteps:=1000000}) (disch:=first|assumption|omega|exact ab (by omega)|exact aa (by assumption)|(simp only[ap]<;>omega)) only[go_sem,seval,g1,g3,g4,gm3,om3,hb3,he3,ob3,oe3]
  refine hK _ ?_
  generalize hMe:hp _ 0 m'=Me
  have hCe:Chg [na M 0,na m 2,na m 1,na M 1] m' Me:=by rw[←hMe];exact ao rfl
  exact fin hCe (by simp)
 |some z=>
  obtain ⟨za,ze⟩:=z
  rw[hb] at hb3 he3 hK
  change hJ _ _ (D8 .ret) ⟨an [] t,_,_,_⟩
  simp (config:={maxSteps:=1000000}) (disch:=first|assumption|omega|exact ab (by omega)|exact aa (by assumption)|(simp only[ap]<;>omega)) only[go_sem,seval,D8,g1,g3,g4,gm3,om3,hb3,he3]
  refine wA ?_
  rw[wz]
  simp (config:={maxSteps:=1000000}) (disch:=first|assumption|omega|exact ab (by omega)|exact aa (by assumption)|(simp only[ap]<;>omega)) only[go_sem,seval,g1,g3,g4,gm3,om3,hb3,he3,ob3,oe3]
  refine hK _ ?_
  generalize hMe:hp _ 0 m'=Me
  have hCe:Chg [na M 0,na M 1] m' Me:=by rw[←hMe];exact ao rfl
  exact fin hCe (by simp)
end FR
open Go Nm Go.Proofs
namespace FR
set_option linter.unusedSimpArgs false
set_option linter.unusedVariables false
def jx (Z:List (List Nat)) (r:List Stm):List (List Stm)->Int×Int
 | []=>(vS (fo Z r),mW (fo Z r))
 |b::l=>if mW (fo Z b)≠0 then (vS (fo Z b),mW (fo Z b)) else jx Z r l
def DI (p:Prg):List (List Nat):=(p.cs.map (·.1)).foldl aP []
def iK (p:Prg):Int×Int:=if qj p≠0 then (0,qj p) else jx (DI p) p.r (p.ts.map (·.2))
theorem KJ {m:NH} {T:D4->Prop} {p:Prg} {vc vt vr:NV} (h:RP m T p vc vt vr) (hs:p.cs.length<=1000000/\p.ts.length<=1000000) (hz:∀t∈p.ts,bA t.2<=10000000) (hr:bA p.r<=10000000):
 ∃m',bm Try.prog S0 13 [.agg [vc,vt,vr]] m (.tup [ii (iK p).1,ii (iK p).2]) m'/\Chg [] m m':=by
 refine WF.ex1 fun K hK=> ?_
 refine WF.of_wpG (fun _=>rfl) yj (L:= [(.e,.agg [vc,vt,vr])]) rfl ?_
 unfold JL
 obtain ⟨hcs,hts⟩:=hs
 obtain ⟨Ct,hT⟩:=h.t
 obtain ⟨Cr,hR⟩:=h.r
 have hlc:=h.c.len
 rw[List.length_map] at hlc
 have hlt:=hT.sl.len
 rw[hT.len] at hlt
 generalize hM0:hp [(.n 0,.cells true [vc,vt,vr])] 1 m=M0
 have hC0:Chg [] m M0:=by rw[←hM0];exact ao rfl
 have g0:M0.get (na m 0)=some (.cells true [vc,vt,vr]):=by rw[←hM0];exact av
 have o0:ay M0 (na m 0):=by rw[←hM0];exact ab (by omega)
 obtain ⟨M1,hr1,hC1⟩:=Id (h.stays (io hC0 T)) ⟨hcs,hts⟩
 have g1:=(hC1.get o0 (by simp)).trans g0
 have o1:=hC1.old o0
 have hC01:Chg [] m M1:=hC0.trans hC1 (by simp)
 unfold iK at hK
 by_cases h0:qj p=0
 ·rw[h0] at hr1
  rw[if_neg (by simp[h0])] at hK
  simp (config:={maxSteps:=1000000}) (disch:=first|assumption|omega|exact ab (by omega)|exact aa (by assumption)|(simp only[ap]<;>omega)) only[go_sem,seval,hM0,g0,hr1.wf,g1,hlc]
  generalize hM2:hp _ 1 M1=M2
  have hC2:Chg [] M1 M2:=by rw[←hM2];exact ao rfl
  have gm2:M2.get (na M1 0)=some (.map (fZ [])):=by rw[←hM2];exact av
  have om2:ay M2 (na M1 0):=by rw[←hM2];exact ab (by omega)
  have hC02:=hC01.trans hC2 (by simp)
  have g2:=(hC2.get o1 (by simp)).trans g1
  have o2:=hC2.old o1
  have hnm:na m 0≠na M1 0:=o1.ne 0
  refine W.loop (fun k d=>∃t M i,d=⟨t, [],none,M⟩/\NT.get D4.e.a t=some (.ptr (na m 0) 0)/\NT.get D4.e.a.a t=some (.map (na M1 0))/\NT.get D4.e.f.c t=some vc/\NT.get D4.e.f.f t=some (ii p.cs.length)/\NT.get D4.e.a.a.a t=some (ii (i:Nat))/\i+k=p.cs.length/\M.get (na M1 0)=some (.map (fZ (((p.cs.map (·.1)).take i).foldl aP [])))/\Chg [na M1 0] M2 M) ?_ p.cs.length _ ⟨_,M2,0,rfl,by simp only[go_sem,seval],by simp only[go_sem,seval],by simp only[go_sem,seval],by simp only[go_sem,seval],by simp only[go_sem,seval]<;>rfl,by omega,gm2,(Chg.refl M2).weak (by simp)⟩
  rintro k d ⟨t,M,i,rfl,a1,a2,a3,a4,a5,hik,gm,hC⟩
  apply aA
  unfold zQ
  change wp _ _ _ _ ⟨an [] t, [],none,M⟩ _
  have omM:=hC.old om2
  have gM:=(hC.get o2 (by simpa using hnm)).trans g2
  have oM:=hC.old o2
  have hC0M:Chg [] m M:=hC02.trans hC fun i hi ho=>by
   simp only[List.mem_cons,List.not_mem_nil,or_false] at hi;subst hi;exact absurd (hC01.old ho) aF
  rw[←ag M]
  by_cases hi:i<p.cs.length
  ·obtain ⟨id,off,wr,c,b1,b2,b3,b4,b5⟩:=h.c.at i (by simpa using hi)
   rw[List.getElem_map] at b5
   have b2':=(hC0M.get b3 (by simp)).trans b2
   have b3':=hC0M.old b3
   have htk:(p.cs.map (·.1)).take (i+1)=(p.cs.map (·.1)).take i++ [p.cs[i].1]:=by
    rw[List.take_add_one,List.getElem?_map,List.getElem?_eq_getElem hi];rfl
   simp (config:={maxSteps:=1000000}) (disch:=first|assumption|omega|exact ab (by omega)|exact aa (by assumption)|(simp only[ap]<;>omega)) only[go_sem,seval,a1,a2,a3,a4,a5,b1,b2',b5,gm]
   generalize hM3:hp _ 1 M=M3
   have hC3:Chg [na M1 0] M M3:=by rw[←hM3];exact ao rfl
   refine ⟨k - 1,by omega,_,M3,i+1,by rfl,by simp only[go_sem,seval,a1],by simp only[go_sem,seval,a2],by simp only[go_sem,seval,a3],by simp only[go_sem,seval,a4],by simp only[go_sem,seval]<;>rfl,by omega, ?_,hC.trans hC3 fun _ h _=>h⟩
   rw[htk,List.foldl_append,←hM3]
   exact (aO omM).trans az
  ·rw[List.take_of_length_le (by simp;omega)] at gm
   simp (config:={maxSteps:=1000000}) (disch:=first|assumption|omega|exact ab (by omega)|exact aa (by assumption)|(simp only[ap]<;>omega)) only[go_sem,seval,a1,a2,a3,a4,a5,gM,hlt,ag]
   generalize hZ:DI p=Z at hK
   rw[show (p.cs.map (·.1)).foldl aP []=Z from hZ] at gm
   refine W.loop (fun k d=>∃t N i,d=⟨t, [],none,N⟩/\NT.get D4.e.a t=some (.ptr (na m 0) 0)/\NT.get D4.e.a.a t=some (.map (na M1 0))/\NT.get D4.e.a.c.b t=some vt/\NT.get D4.e.a.c.c t=some (ii p.ts.length)/\NT.get D4.e.a.c.f t=some (ii (i:Nat))/\i+k=p.ts.length/\jx Z p.r ((p.ts.map (·.2)).drop i)=jx Z p.r (p.ts.map (·.2))/\Chg [] M N) ?_ p.ts.length _ ⟨_,M,0,rfl,by simp only[go_sem,seval,a1],by simp only[go_sem,seval,a2],by simp only[go_sem,seval],by simp only[go_sem,seval],by simp only[go_sem,seval]<;>rfl,by omega,rfl,Chg.refl M⟩
   clear a1 a2 a3 a4 a5 hik
   rintro k d ⟨t,N,i,rfl,a1,a2,a3,a4,a5,hik,hE,hC⟩
   apply aA
   unfold yD
   change wp _ _ _ _ ⟨an [] t, [],none,N⟩ _
   have gN:=(hC.get oM (by simp)).trans gM
   have hC0N:=hC0M.trans hC (by simp)
   have gmN:=(hC.get omM (by simp)).trans gm
   have omN:=hC.old omM
   rw[←ag N]
   by_cases hi:i<p.ts.length
   ·obtain ⟨vb,B,id,off,wr,c,hSb,b1,b2,b3,b4,b5⟩:=hT.at i hi
    have b2':=(hC0N.get b3 (by simp)).trans b2
    have b3':=hC0N.old b3
    have hzi:=hz _ (List.getElem_mem hi)
    rw[List.drop_eq_getElem_cons (by simpa using hi),List.getElem_map,jx] at hE
    simp (config:={maxSteps:=1000000}) (disch:=first|assumption|omega|exact ab (by omega)|exact aa (by assumption)|(simp only[ap]<;>omega)) only[go_sem,seval,a1,a2,a3,a4,a5,b1,b2',b5]
    generalize hN1:hp _ 1 N=N1
    have hC1':Chg [] N N1:=by rw[←hN1];exact ao rfl
    obtain ⟨N2,hr2,hC2'⟩:=HN hSb (hC0N.trans hC1' (by simp)) ((hC1'.get omN (by simp)).trans gmN) (hC1'.old omN) hzi
    have hCN2:=hC1'.trans hC2' (by simp)
    by_cases he:mW (fo Z p.ts[i].2)=0
    ·rw[if_neg (by simp[he])] at hE
     rw[he] at hr2
     simp (config:={maxSteps:=1000000}) (disch:=first|assumption|omega|exact ab (by omega)|exact aa (by assumption)|(simp only[ap]<;>omega)) only[go_sem,seval,hr2.wf',a1,a2,a3,a4,a5]
     exact ⟨k - 1,by omega,_,N2,i+1,by rfl,by simp only[go_sem,seval,a1],by simp only[go_sem,seval,a2],by simp only[go_sem,seval,a3],by simp only[go_sem,seval,a4],by simp only[go_sem,seval]<;>rfl,by omega,hE,hC.trans hCN2 (by simp)⟩
    ·rw[if_pos he] at hE
     rw[←hE] at hK
     simp (config:={maxSteps:=1000000}) (disch:=first|assumption|omega|exact ab (by omega)|exact aa (by assumption)|(simp only[ap]<;>omega)) only[go_sem,seval,hr2.wf',a1,a2,a3,a4,a5,he]
     exact hK _ (hC0N.trans hCN2 (by simp))
   ·rw[List.drop_of_length_le (by simp;omega),jx] at hE
    rw[←hE] at hK
    obtain ⟨N2,hr2,hC2'⟩:=HN hR hC0N gmN omN hr
    simp (config:={maxSteps:=1000000}) (disch:=first|assumption|omega|exact ab (by omega)|exact aa (by assumption)|(simp only[ap]<;>omega)) only[go_sem,seval,a1,a2,a3,a4,a5,gN,ag,hr2.wf']
    exact hK _ (hC0N.trans hC2' (by simp))
 ·rw[if_pos h0] at hK
  simp (config:={maxSteps:=1000000}) (disch:=first|assumption|omega|exact ab (by omega)|exact aa (by assumption)|(simp only[ap]<;>omega)) only[go_sem,seval,hM0,g0,hr1.wf',h0]
  exact hK _ hC01
end FR
open Go Nm Go.Proofs
namespace FR
set_option linter.unusedSimpArgs false
set_option linter.unusedVariables false
theorem Ak {Z Z':List (List Nat)} (hZ:∀n,n∈Z↔n∈Z') (l:List Stm):∀st:qI,st.2=none->(a6 (nX Z') l st).1.2=(a6 (lp Z) l st).1.2:=by
 induction l with
 |nil=>intro st h;rfl
 |cons x l ih=>
  intro st h
  have hex:(∃n∈x.own,n∈Z')↔∃n∈x.own,n∈Z:=by simp only[hZ]
  have hR:nX Z' st x=(((x.own.foldl aP st.1.1,st.1.2+x.own.length),Hi x.a (kQ Z' (x.own.foldl aP st.1.1) x)),decide (kQ Z' (x.own.foldl aP st.1.1) x=0)):=rfl
  have stop:∀e:Int,e≠0->kQ Z' (x.own.foldl aP st.1.1) x=e->(lp Z st x).2=false->(lp Z st x).1.2=some (x.a,e)->(a6 (nX Z') (x::l) st).1.2=(a6 (lp Z) (x::l) st).1.2:=by
   intro e he h1 h2 h3
   have hr2:(nX Z' st x).2=false:=by rw[hR,h1];exact decide_eq_false he
   rw[a6,a6,hr2,h2,if_neg (by simp),if_neg (by simp),h3,hR,h1]
   exact if_neg he
  by_cases h1:(x.k=1∨x.k=2∨x.k=3)/\x.ce∉Z
  ·have h1':(x.k=1∨x.k=2∨x.k=3)/\x.ce∉Z':=⟨h1.1,fun q=>h1.2 ((hZ _).2 q)⟩
   have hB:lp Z st x=((st.1,some (x.a,4)),false):=if_pos h1
   refine stop 4 (by decide) ?_ (by rw[hB]) (by rw[hB])
   unfold kQ e6;rw[if_pos h1'];simp
  ·have h1':¬((x.k=1∨x.k=2∨x.k=3)/\x.ce∉Z'):=fun q=>h1 ⟨q.1,fun z=>q.2 ((hZ _).1 z)⟩
   by_cases h2:∃n∈x.own,n∈Z
   ·have hB:lp Z st x=((st.1,some (x.a,6)),false):=by unfold lp;rw[if_neg h1,if_pos h2]
    refine stop 6 (by decide) ?_ (by rw[hB]) (by rw[hB])
    have e1:e6 Z' (if (x.k=1∨x.k=2∨x.k=3)/\x.ce∉Z' then 4 else 0) x.own=6:=by unfold e6;rw[if_neg h1',if_pos ⟨rfl,hex.2 h2⟩]
    unfold kQ;rw[e1,if_neg (by simp)]
   ·have h2':¬(True/\∃n∈x.own,n∈Z'):=fun q=>h2 (hex.1 q.2)
    have e0:e6 Z' (if (x.k=1∨x.k=2∨x.k=3)/\x.ce∉Z' then 4 else 0) x.own=0:=by
     unfold e6;rw[if_neg h1',if_neg fun q=>h2 (hex.1 q.2)]
    by_cases h3:12<(x.own.foldl aP st.1.1).length
    ·have hB:lp Z st x=(((x.own.foldl aP st.1.1,st.1.2+x.own.length),some (x.a,3)),false):=by unfold lp;rw[if_neg h1,if_neg h2,if_pos h3]
     refine stop 3 (by decide) ?_ (by rw[hB]) (by rw[hB])
     unfold kQ;rw[e0,if_pos ⟨rfl,h3⟩]
    ·have hB:lp Z st x=(((x.own.foldl aP st.1.1,st.1.2+x.own.length),none),true):=by unfold lp;rw[if_neg h1,if_neg h2,if_neg h3]
     have hE:kQ Z' (x.own.foldl aP st.1.1) x=0:=by unfold kQ;rw[e0,if_neg fun q=>h3 q.2]
     have hR':nX Z' st x=(((x.own.foldl aP st.1.1,st.1.2+x.own.length),none),true):=by rw[hR,hE];rfl
     rw[a6,a6,hB,hR',if_pos rfl,if_pos rfl]
     exact ih _ rfl
theorem yH {Z Z':List (List Nat)} (hZ:∀n,n∈Z↔n∈Z') (l:List Stm):(iq Z' l (([],0),none)).2=fo Z l:=by
 unfold iq fo
 rw[if_pos rfl]
 exact Ak hZ _ _ rfl
theorem IZ {Z:List (List Nat)} {l:List Stm} (h:mW (fo Z l)=0):fo Z l=none:=by
 have h1:=(D7 (Z:=Z) (bk l) (([],0),none)).2.1
 rw[←kT,yH (Z:=Z) (Z':=Z) (fun _=>Iff.rfl)] at h1
 exact Decidable.byContradiction fun q=>h1 q rfl h
theorem Fa (p:Prg) (n:List Nat):n∈DI p↔n∈p.cs.map (·.1):=by unfold DI;rw[ga];simp
theorem Dl {l:List (List Nat)} {s:List Nat} {i:Nat} (hi:i<l.length) (hs:l[i]=s):bW l s<i↔s∈l.take i:=by
 have hm:0<=bW l s:=gu.2 (hs▸List.getElem_mem hi)
 have key:∃j:Nat,bW l s=j/\∃h:j<l.length,l[j]=s/\∀k (hk:k<j),l[k]'(by omega)≠s:=by
  unfold bW at hm ⊢
  cases hf:l.findIdx? (fun a=>decide (s=a)) with
  |none=>rw[hf] at hm;dsimp only at hm;omega
  |some j=>
   obtain ⟨h,h1,h2⟩:=List.findIdx?_eq_some_iff_getElem.mp hf
   exact ⟨j,rfl,h,by simpa using (of_decide_eq_true h1).symm,fun k hk q=>by have:=h2 k hk;simp[q] at this⟩
 obtain ⟨j,hj,hl,h1,h2⟩:=key
 rw[hj]
 constructor
 ·intro h
  rw[←h1]
  exact List.mem_take_iff_getElem.2 ⟨j,by omega,rfl⟩
 ·intro h
  obtain ⟨k,hk,e⟩:=List.mem_take_iff_getElem.1 h
  by_cases q:k<j
  ·exact absurd e (h2 k q)
  ·omega
end FR
open Go Nm Go.Proofs
namespace FR
set_option linter.unusedSimpArgs false
set_option linter.unusedVariables false
theorem K1 {m:NH} {T:D4->Prop} {p:Prg} {vc vt vr:NV} (h:RP m T p vc vt vr) (hs:p.cs.length<=1000000/\p.ts.length<=1000000) (hz:∀t∈p.ts,bA t.2<=10000000) (hr:bA p.r<=10000000):
 ∃m',bm Try.prog S0 14 [.agg [vc,vt,vr]] m (.tup [ii (iK p).1,ii (iK p).2]) m'/\Chg [] m m':=by
 refine WF.ex1 fun K hK=> ?_
 refine WF.of_wpG (fun _=>rfl) yM (L:= [(.e,.agg [vc,vt,vr])]) rfl ?_
 unfold Jb
 obtain ⟨hcs,hts⟩:=hs
 generalize hM0:hp [(.n 0,.cells true [vc,vt,vr])] 1 m=M
 have hC0:Chg [] m M:=by rw[←hM0];exact ao rfl
 have g0:M.get (na m 0)=some (.cells true [vc,vt,vr]):=by rw[←hM0];exact av
 have o0:ay M (na m 0):=by rw[←hM0];exact ab (by omega)
 have h:=h.stays (io hC0 T)
 obtain ⟨Ct,hT⟩:=h.t
 obtain ⟨Cr,hR⟩:=h.r
 have hlc:=h.c.len
 rw[List.length_map] at hlc
 have hlt:=hT.sl.len
 rw[hT.len] at hlt
 have hvs:br 4 vc vc=true:=h.c.same
 have hv1:=h.c.one
 unfold iK qj at hK
 by_cases hb:16<p.cs.length∨p.ts.length=0∨4<p.ts.length
 ·rw[if_pos hb,if_pos (by decide)] at hK
  rcases hb with hb|hb|hb
  ·simp (config:={maxSteps:=1000000}) (disch:=first|assumption|omega|exact ab (by omega)|exact aa (by assumption)|(simp only[ap]<;>omega)) only[go_sem,seval,hM0,g0,hlc,hlt,hb]
   exact hK _ hC0
  ·by_cases hb2:16<p.cs.length
   ·simp (config:={maxSteps:=1000000}) (disch:=first|assumption|omega|exact ab (by omega)|exact aa (by assumption)|(simp only[ap]<;>omega)) only[go_sem,seval,hM0,g0,hlc,hlt,hb2]
    exact hK _ hC0
   ·simp (config:={maxSteps:=1000000}) (disch:=first|assumption|omega|exact ab (by omega)|exact aa (by assumption)|(simp only[ap]<;>omega)) only[go_sem,seval,hM0,g0,hlc,hlt,hb,hb2]
    exact hK _ hC0
  ·by_cases hb2:16<p.cs.length
   ·simp (config:={maxSteps:=1000000}) (disch:=first|assumption|omega|exact ab (by omega)|exact aa (by assumption)|(simp only[ap]<;>omega)) only[go_sem,seval,hM0,g0,hlc,hlt,hb2]
    exact hK _ hC0
   ·simp (config:={maxSteps:=1000000}) (disch:=first|assumption|omega|exact ab (by omega)|exact aa (by assumption)|(simp only[ap]<;>omega)) only[go_sem,seval,hM0,g0,hlc,hlt,hb,hb2]
    exact hK _ hC0
 rw[if_neg hb] at hK
 have hb1:¬16<p.cs.length:=fun q=>hb (Or.inl q)
 have hb2:p.ts.length≠0:=fun q=>hb (Or.inr (Or.inl q))
 have hb3:¬4<p.ts.length:=fun q=>hb (Or.inr (Or.inr q))
 have hE0:dc ((((p.cs.map (·.1)).take 0).foldl aP [])) 0 (p.cs.drop 0)=dc [] 0 p.cs:=rfl
 simp (config:={maxSteps:=1000000}) (disch:=first|assumption|omega|exact ab (by omega)|exact aa (by assumption)|(simp only[ap]<;>omega)) only[go_sem,seval,hM0,g0,hlc,hlt]
 refine W.loop (fun k d=>∃t i w,d=⟨t, [],none,M⟩/\NT.get D4.e.a t=some (.ptr (na m 0) 0)/\NT.get D4.e.f t=some (ii w)/\NT.get D4.e.a.a t=some (ii (i:Nat))/\i+k=p.cs.length/\0<=w/\w<=64/\dc (((p.cs.map (·.1)).take i).foldl aP []) w (p.cs.drop i)=dc [] 0 p.cs) ?_ p.cs.length _ ⟨_,0,0,rfl,by simp only[go_sem,seval],by simp only[go_sem,seval],by simp only[go_sem,seval]<;>rfl,by omega,by omega,by omega,rfl⟩
 rintro k d ⟨t,i,w,rfl,g1,g2,g3,hik,hw0,hw,hE⟩
 apply aA
 unfold yB
 change wp _ _ _ _ ⟨an [] t, [],none,M⟩ _
 by_cases hi:i<p.cs.length
 ·obtain ⟨id,off,wr,c,a1,a2,a3,a4,a5⟩:=h.c.at i (by simpa using hi)
  rw[List.getElem_map] at a5
  have htk:((p.cs.map (·.1)).take (i+1)).foldl aP []=aP (((p.cs.map (·.1)).take i).foldl aP []) p.cs[i].1:=by
   rw[List.take_add_one,List.getElem?_map,List.getElem?_eq_getElem hi,List.foldl_append];rfl
  have hfs:=rL h.c hcs p.cs[i].1
  have hft:=Dl (l:=p.cs.map (·.1)) (s:=p.cs[i].1) (i:=i) (by simpa using hi) (by simp)
  have hmem:p.cs[i].1∈((p.cs.map (·.1)).take i).foldl aP []↔p.cs[i].1∈(p.cs.map (·.1)).take i:=by rw[ga];simp
  have hpw:=Hk M p.cs[i].2
  rw[List.drop_eq_getElem_cons hi,dc,←htk] at hE
  generalize hcc:p.cs[i]=cc at hE a5 hfs hft hmem hpw
  obtain ⟨nm,s⟩:=cc
  dsimp only at hE a5 hfs hft hmem hpw
  have c0:c[off+0]? =some (.str nm):=bg a5 0 (by omega)
  have c1:c[off+1]? =some (ii s):=bg a5 1 (by omega)
  have hfb:=rE (l:=p.cs.map (·.1)) (x:=nm)
  by_cases hin:nm∈(p.cs.map (·.1)).take i
  ·rw[if_pos (hmem.2 hin)] at hE
   have hlt':=hft.2 hin
   generalize bW (p.cs.map (·.1)) nm=z at hfs hlt' hfb
   rw[←hE,if_pos (show (5:Int)≠0 by decide),if_pos (show (5:Int)≠0 by decide)] at hK
   simp (config:={maxSteps:=1000000}) (disch:=first|assumption|omega|exact ab (by omega)|exact aa (by assumption)|(simp only[ap]<;>omega)) only[go_sem,seval,g1,g2,g3,g0,hlc,a1,a2,c0,c1,hvs,hfs.wf']
   exact hK _ hC0
  ·rw[if_neg fun q=>hin (hmem.1 q)] at hE
   have hge:¬bW (p.cs.map (·.1)) nm<i:=fun q=>hin (hft.1 q)
   generalize bW (p.cs.map (·.1)) nm=z at hfs hge hfb
   by_cases hp:nE s=false
   ·rw[if_pos hp] at hE
    rw[hp] at hpw
    rw[←hE,if_pos (show (7:Int)≠0 by decide),if_pos (show (7:Int)≠0 by decide)] at hK
    simp (config:={maxSteps:=1000000}) (disch:=first|assumption|omega|exact ab (by omega)|exact aa (by assumption)|(simp only[ap]<;>omega)) only[go_sem,seval,g1,g2,g3,g0,hlc,a1,a2,c0,c1,hvs,hfs.wf',hpw.wf']
    exact hK _ hC0
   ·rw[if_neg hp] at hE
    have hpt:nE s=true:=by simpa using hp
    rw[hpt] at hpw
    obtain ⟨p1,p2,-⟩:=of_decide_eq_true hpt
    by_cases h64:64 - w<s
    ·rw[if_pos h64] at hE
     rw[←hE,if_pos (show (3:Int)≠0 by decide),if_pos (show (3:Int)≠0 by decide)] at hK
     simp (config:={maxSteps:=1000000}) (disch:=first|assumption|omega|exact ab (by omega)|exact aa (by assumption)|(simp only[ap]<;>omega)) only[go_sem,seval,g1,g2,g3,g0,hlc,a1,a2,c0,c1,hvs,hfs.wf',hpw.wf']
     exact hK _ hC0
    ·rw[if_neg h64] at hE
     simp (config:={maxSteps:=1000000}) (disch:=first|assumption|omega|exact ab (by omega)|exact aa (by assumption)|(simp only[ap]<;>omega)) only[go_sem,seval,g1,g2,g3,g0,hlc,a1,a2,c0,c1,hvs,hfs.wf',hpw.wf']
     exact ⟨k - 1,by omega,_,i+1,w+s,by rfl,by simp only[go_sem,seval,g1],by simp only[go_sem,seval],by simp only[go_sem,seval]<;>rfl,by omega,by omega,by omega,hE⟩
 ·rw[List.drop_of_length_le (by omega),dc] at hE
  rw[←hE,if_neg (show ¬(0:Int)≠0 by decide)] at hK
  simp (config:={maxSteps:=1000000}) (disch:=first|assumption|omega|exact ab (by omega)|exact aa (by assumption)|(simp only[ap]<;>omega)) only[go_sem,seval,g1,g2,g3,g0,hlc]
  clear hik hw0 hw hE hE0
  refine W.loop (fun k d=>∃t i,d=⟨t, [],none,M⟩/\NT.get D4.e.a t=some (.ptr (na m 0) 0)/\NT.get D4.e.a.b t=some (ii (i:Nat))/\i+k=p.ts.length/\fy (((p.ts.map (·.1)).take i).foldl aP []) ((p.ts.map (·.1)).drop i)=fy [] (p.ts.map (·.1))) ?_ p.ts.length _ ⟨_,0,rfl,by simp only[go_sem,seval,g1],by simp only[go_sem,seval]<;>rfl,by omega,rfl⟩
  clear g1 g2 g3 hi
  rintro k d ⟨t,i,rfl,g1,g2,hik,hE⟩
  apply aA
  unfold zX
  change wp _ _ _ _ ⟨an [] t, [],none,M⟩ _
  by_cases hi:i<p.ts.length
  ·obtain ⟨vbi,Bi,idi,offi,wri,ci,-,a1,a2,a3,a4,a5⟩:=hT.at i hi
   have ci0:ci[offi+0]? =some (.str p.ts[i].1):=bg a5 0 (by omega)
   have htk:((p.ts.map (·.1)).take (i+1)).foldl aP []=aP (((p.ts.map (·.1)).take i).foldl aP []) p.ts[i].1:=by
    rw[List.take_add_one,List.getElem?_map,List.getElem?_eq_getElem hi,List.foldl_append];rfl
   have hmem:p.ts[i].1∈((p.ts.map (·.1)).take i).foldl aP []↔p.ts[i].1∈(p.ts.map (·.1)).take i:=by rw[ga];simp
   rw[List.drop_eq_getElem_cons (by simpa using hi),List.getElem_map,fy,←htk] at hE
   simp (config:={maxSteps:=1000000}) (disch:=first|assumption|omega|exact ab (by omega)|exact aa (by assumption)|(simp only[ap]<;>omega)) only[go_sem,seval,g1,g2,g0,hlt]
   refine W.loop (fun kk d=>∃t j,d=⟨t, [],none,M⟩/\NT.get D4.e.a t=some (.ptr (na m 0) 0)/\NT.get D4.e.a.b t=some (ii (i:Nat))/\NT.get D4.e.a.c t=some (ii (j:Nat))/\j+kk=i/\∀q (h1:q<j) (h2:q<p.ts.length),p.ts[q].1≠p.ts[i].1) ?_ i _ ⟨_,0,rfl,by simp only[go_sem,seval,g1],by simp only[go_sem,seval,g2],by simp only[go_sem,seval]<;>rfl,by omega,by simp⟩
   clear g1 g2
   rintro kk d ⟨t,j,rfl,g1,g2,g3,hjk,hno⟩
   apply aA
   unfold zJ
   change wp _ _ _ _ ⟨an [] t, [],none,M⟩ _
   by_cases hj:j<i
   ·obtain ⟨vbj,Bj,idj,offj,wrj,cj,-,b1,b2,b3,b4,b5⟩:=hT.at j (by omega)
    have cj0:cj[offj+0]? =some (.str p.ts[j].1):=bg b5 0 (by omega)
    have hts':br 4 vt vt=true:=hT.sl.same
    by_cases he:p.ts[j].1=p.ts[i].1
    ·have hin:p.ts[i].1∈(p.ts.map (·.1)).take i:=List.mem_take_iff_getElem.2 ⟨j,by simp;omega,by simpa using he⟩
     rw[if_pos (hmem.2 hin)] at hE
     rw[←hE,if_pos (show (5:Int)≠0 by decide)] at hK
     simp (config:={maxSteps:=1000000}) (disch:=first|assumption|omega|exact ab (by omega)|exact aa (by assumption)|(simp only[ap]<;>omega)) only[go_sem,seval,g1,g2,g3,g0,hlt,a1,a2,ci0,b1,b2,cj0,he,hts']
     exact hK _ hC0
    ·simp (config:={maxSteps:=1000000}) (disch:=first|assumption|omega|exact ab (by omega)|exact aa (by assumption)|(simp only[ap]<;>omega)) only[go_sem,seval,g1,g2,g3,g0,hlt,a1,a2,ci0,b1,b2,cj0,he,hts']
     refine ⟨kk - 1,by omega,_,j+1,by rfl,by simp only[go_sem,seval,g1],by simp only[go_sem,seval,g2],by simp only[go_sem,seval]<;>rfl,by omega,fun q h1 h2=> ?_⟩
     rcases Nat.lt_or_ge q j with h3|h3
     ·exact hno q h3 h2
     ·obtain rfl:q=j:=by omega
      exact he
   ·have hnin:p.ts[i].1∉(p.ts.map (·.1)).take i:=fun q=>by
     obtain ⟨y,hy,e⟩:=List.mem_take_iff_getElem.1 q
     exact hno y (by omega) (by simp at hy;omega) (by simpa using e)
    rw[if_neg fun q=>hnin (hmem.1 q)] at hE
    simp (config:={maxSteps:=1000000}) (disch:=first|assumption|omega|exact ab (by omega)|exact aa (by assumption)|(simp only[ap]<;>omega)) only[go_sem,seval,g1,g2,g3,g0,hlt]
    exact ⟨k - 1,by omega,_,i+1,by rfl,by simp only[go_sem,seval,g1],by simp only[go_sem,seval]<;>rfl,by omega,hE⟩
  ·rw[List.drop_of_length_le (by simp;omega),fy] at hE
   rw[←hE,if_neg (show ¬(0:Int)≠0 by decide)] at hK
   simp (config:={maxSteps:=1000000}) (disch:=first|assumption|omega|exact ab (by omega)|exact aa (by assumption)|(simp only[ap]<;>omega)) only[go_sem,seval,g1,g2,g0,hlt]
   clear hik hE
   generalize hZ:DI p=Z at hK
   have hZm:∀n,n∈Z↔n∈p.cs.map (·.1):=fun n=>hZ▸Fa p n
   generalize htot:jx Z p.r (p.ts.map (·.2))=tot at hK
   refine W.loop (fun k d=>∃t N i,d=⟨t, [],none,N⟩/\NT.get D4.e.a t=some (.ptr (na m 0) 0)/\NT.get D4.e.a.f t=some (ii (i:Nat))/\i+k=p.ts.length+1/\Chg [] M N/\((i<=p.ts.length/\jx Z p.r ((p.ts.map (·.2)).drop i)=tot)∨(i=p.ts.length+1/\tot=(0,0)))) ?_ (p.ts.length+1) _ ⟨_,M,0,rfl,by simp only[go_sem,seval,g1],by simp only[go_sem,seval]<;>rfl,by omega,Chg.refl M,Or.inl ⟨by omega,htot⟩⟩
   clear g1 g2 hi htot
   rintro k d ⟨t,N,i,rfl,g1,g2,hik,hC,hE⟩
   apply aA
   unfold yt
   change wp _ _ _ _ ⟨an [] t, [],none,N⟩ _
   have gN:=(hC.get o0 (by simp)).trans g0
   have oN:=hC.old o0
   have hN0:=hC0.trans hC (by simp)
   rcases hE with ⟨hi,hE⟩|⟨hi,hE⟩
   ·have hcN:=h.c.chg hC fun _ _=>by simp
    generalize hN1:hp [(.n 0,.cells true [vc,.nils,ii 0,ii 0])] 1 N=N1
    have hC1:Chg [] N N1:=by rw[←hN1];exact ao rfl
    have hW1:Wk (na N 0) N N vc .nils [] 0 0 N1:=⟨by rw[←hN1];exact av,by rw[←hN1];exact ab (by omega),bz.nil,by simp[ids],hC1,fun _ ho=>hC1.old ho⟩
    have gN1:=(hC1.get oN (by simp)).trans gN
    have oN1:=hC1.old oN
    have hwalk:∀{vb:NV} {b:List Stm} {Bb:List (List NV)},SS M T vb b Bb->bA b<=10000000->∃N2,bm Try.prog S0 52 [.ptr (na N 0) 0,vb] N1 (.tup []) N2/\(∃u,N2.get (na N 0)=some (.cells true [vc,u,ii (mW (fo Z b)),ii (vS (fo Z b))]))/\ay N2 (na N 0)/\Chg [] N N2/\N2.get (na m 0)=some (.cells true [vc,vt,vr]):=by
     intro vb b Bb hb hsb
     have hle:=(kZ b).2
     obtain ⟨N2,hr2,u2,hW2,hC2,-⟩:=Ke (T:=T) hcN hcs (fun _ ho=>ho) aF aF b (st:=(([],0),none)) (hb.stays (io hC T)) hW1 (fun q=>absurd rfl q) (by simp) (by dsimp only;omega) (by omega)
     rw[yH hZm] at hW2
     have hC2':Chg [na N 0] N1 N2:=hC2.weak (by simp[ids])
     exact ⟨N2,hr2,⟨u2,hW2.g⟩,hW2.o,hW2.c,(hC2'.get oN1 (by simpa using oN.ne 0)).trans gN1⟩
    by_cases hl:i<p.ts.length
    ·obtain ⟨vb,Bb,id,off,wr,c,hSb,a1,a2,a3,a4,a5⟩:=hT.at i hl
     have c1:c[off+1]? =some vb:=bg a5 1 (by omega)
     have a2':=((hC.trans hC1 (by simp)).get a3 (by simp)).trans a2
     obtain ⟨N2,hr2,⟨u2,gk⟩,ok,hC2,g02⟩:=hwalk hSb (hz _ (List.getElem_mem hl))
     rw[List.drop_eq_getElem_cons (by simpa using hl),List.getElem_map,jx] at hE
     rw[←ag N]
     by_cases he:mW (fo Z p.ts[i].2)=0
     ·rw[if_neg (by simp[he])] at hE
      rw[he] at gk
      simp (config:={maxSteps:=1000000}) (disch:=first|assumption|omega|exact ab (by omega)|exact aa (by assumption)|(simp only[ap]<;>omega)) only[go_sem,seval,g1,g2,gN,hlt,hv1,hN1,gN1,a1,a2',c1,hr2.wf',gk]
      exact ⟨k - 1,by omega,_,N2,i+1,by rfl,by simp only[go_sem,seval,g1],by simp only[go_sem,seval]<;>rfl,by omega,hC.trans hC2 (by simp),Or.inl ⟨by omega,hE⟩⟩
     ·rw[if_pos he] at hE
      rw[←hE] at hK
      simp (config:={maxSteps:=1000000}) (disch:=first|assumption|omega|exact ab (by omega)|exact aa (by assumption)|(simp only[ap]<;>omega)) only[go_sem,seval,g1,g2,gN,hlt,hv1,hN1,gN1,a1,a2',c1,hr2.wf',gk,he]
      exact hK _ (hN0.trans hC2 (by simp))
    ·obtain ⟨N2,hr2,⟨u2,gk⟩,ok,hC2,g02⟩:=hwalk hR hr
     rw[List.drop_of_length_le (by simp;omega),jx] at hE
     rw[←ag N]
     by_cases he:mW (fo Z p.r)=0
     ·rw[IZ he] at hE gk
      simp (config:={maxSteps:=1000000}) (disch:=first|assumption|omega|exact ab (by omega)|exact aa (by assumption)|(simp only[ap]<;>omega)) only[go_sem,seval,g1,g2,gN,hlt,hv1,hN1,gN1,hr2.wf',gk,mW,vS]
      exact ⟨k - 1,by omega,_,N2,i+1,by rfl,by simp only[go_sem,seval,g1],by simp only[go_sem,seval]<;>rfl,by omega,hC.trans hC2 (by simp),Or.inr ⟨by omega,hE.symm⟩⟩
     ·rw[←hE] at hK
      simp (config:={maxSteps:=1000000}) (disch:=first|assumption|omega|exact ab (by omega)|exact aa (by assumption)|(simp only[ap]<;>omega)) only[go_sem,seval,g1,g2,gN,hlt,hv1,hN1,gN1,hr2.wf',gk,he]
      exact hK _ (hN0.trans hC2 (by simp))
   ·rw[hE] at hK
    simp (config:={maxSteps:=1000000}) (disch:=first|assumption|omega|exact ab (by omega)|exact aa (by assumption)|(simp only[ap]<;>omega)) only[go_sem,seval,g1,g2,gN,hlt]
    exact hK _ hN0
end FR
open Go Nm Go.Proofs
namespace FR
set_option linter.unusedSimpArgs false
set_option linter.unusedVariables false
def vB (c:Nat):Bool:=decide (97<=c/\c<=122)
def fa (c:Nat):Bool:=decide (48<=c/\c<=57)
def eh (c:Nat):Bool:=vB c||fa c||decide (c=95)
def Ab (c:Nat):Bool:=decide (c=32∨c=9∨c=10∨c=13)
theorem pq (m:NH) (c:Nat):bm Try.prog S0 133 [u8 c] m (.bool (vB c)) m:=by
 have h:∃v m',bm Try.prog S0 133 [u8 c] m v m'/\v= .bool (vB c)/\m'=m:=by
  refine WF.ex fun K hK=> ?_
  refine WF.of_wpG (fun _=>rfl) tJ (L:= [(.e,u8 c)]) rfl ?_
  unfold Co
  by_cases h1:97<=c
  ·by_cases h2:c<=122
   ·simp (disch:=first|assumption|omega) only[go_sem,seval]
    exact hK _ _ ⟨by simp[vB,h1,h2],ag m⟩
   ·simp (disch:=first|assumption|omega) only[go_sem,seval]
    exact hK _ _ ⟨by simp[vB,h2],ag m⟩
  ·simp (disch:=first|assumption|omega) only[go_sem,seval]
   exact hK _ _ ⟨by simp[vB,h1],ag m⟩
 obtain ⟨v,m',h,rfl,rfl⟩:=h
 exact h
theorem rQ (m:NH) (c:Nat):bm Try.prog S0 132 [u8 c] m (.bool (fa c)) m:=by
 have h:∃v m',bm Try.prog S0 132 [u8 c] m v m'/\v= .bool (fa c)/\m'=m:=by
  refine WF.ex fun K hK=> ?_
  refine WF.of_wpG (fun _=>rfl) uu (L:= [(.e,u8 c)]) rfl ?_
  unfold B7
  by_cases h1:48<=c
  ·by_cases h2:c<=57
   ·simp (disch:=first|assumption|omega) only[go_sem,seval]
    exact hK _ _ ⟨by simp[fa,h1,h2],ag m⟩
   ·simp (disch:=first|assumption|omega) only[go_sem,seval]
    exact hK _ _ ⟨by simp[fa,h2],ag m⟩
  ·simp (disch:=first|assumption|omega) only[go_sem,seval]
   exact hK _ _ ⟨by simp[fa,h1],ag m⟩
 obtain ⟨v,m',h,rfl,rfl⟩:=h
 exact h
theorem B4 (m:NH) (c:Nat):bm Try.prog S0 131 [u8 c] m (.bool (eh c)) m:=by
 have h:∃v m',bm Try.prog S0 131 [u8 c] m v m'/\v= .bool (eh c)/\m'=m:=by
  refine WF.ex fun K hK=> ?_
  refine WF.of_wpG (fun _=>rfl) vw (L:= [(.e,u8 c)]) rfl ?_
  unfold Ey
  have a1:=pq m c
  have a2:=rQ m c
  cases h1:vB c with
  |true=>
   rw[h1] at a1
   simp (disch:=first|assumption|omega) only[go_sem,seval,ag,a1.wf']
   exact hK _ _ ⟨by simp[eh,h1],rfl⟩
  |false=>
   rw[h1] at a1
   cases h2:fa c with
   |true=>
    rw[h2] at a2
    simp (disch:=first|assumption|omega) only[go_sem,seval,ag,a1.wf',a2.wf']
    exact hK _ _ ⟨by simp[eh,h2],rfl⟩
   |false=>
    rw[h2] at a2
    by_cases h3:c=95
    ·simp (disch:=first|assumption|omega) only[go_sem,seval,ag,a1.wf',a2.wf']
     exact hK _ _ ⟨by simp[eh,h3],rfl⟩
    ·simp (disch:=first|assumption|omega) only[go_sem,seval,ag,a1.wf',a2.wf']
     exact hK _ _ ⟨by simp[eh,h1,h2,h3],rfl⟩
 obtain ⟨v,m',h,rfl,rfl⟩:=h
 exact h
def aY (p:Nat->Bool) (s:List Nat) (a:Nat):Nat:=a+((s.drop a).takeWhile p).length
theorem gi {p:Nat->Bool} {s:List Nat} {a:Nat} (h:a<s.length) (hp:p s[a]=true):aY p s a=aY p s (a+1):=by
 unfold aY
 rw[List.drop_eq_getElem_cons h,List.takeWhile_cons,if_pos hp,List.length_cons]
 omega
theorem rv {p:Nat->Bool} {s:List Nat} {a:Nat} (h:a<s.length) (hp:p s[a]=false):aY p s a=a:=by
 unfold aY
 rw[List.drop_eq_getElem_cons h,List.takeWhile_cons,if_neg (by simp[hp])];rfl
theorem oH {p:Nat->Bool} {s:List Nat} {a:Nat} (h:s.length<=a):aY p s a=a:=by
 unfold aY
 rw[List.drop_eq_nil_of_le h];rfl
theorem ju {p:Nat->Bool} {s:List Nat} {a:Nat}:a<=aY p s a:=by unfold aY;omega
theorem fO {p:Nat->Bool} {s:List Nat} {a:Nat} (h:a<=s.length):aY p s a<=s.length:=by
 unfold aY
 have:=(List.takeWhile_sublist (l:=s.drop a) p).length_le
 rw[List.length_drop] at this;omega
def xh:Bool->List Nat->Nat
 |_, []=>0
 |false,c::l=>if Ab c then 1+xh false l else if c=35 then 1+xh true l else 0
 |true,c::l=>if c=10 then 1+xh false l else 1+xh true l
def bB (s:List Nat) (a:Nat):Nat:=a+xh false (s.drop a)
theorem HZ:∀(l:List Nat) (q:Bool),xh q l<=l.length:=by
 intro l
 induction l with
 |nil=>intro q;cases q<;>exact Nat.le_refl 0
 |cons c l ih=>
  intro q
  have h1:=ih false
  have h2:=ih true
  cases q with
  |false=>
   show (if Ab c then 1+xh false l else if c=35 then 1+xh true l else 0)<=l.length+1
   split
   ·omega
   ·split<;>omega
  |true=>
   show (if c=10 then 1+xh false l else 1+xh true l)<=l.length+1
   split<;>omega
def mt (s:List Nat) (a:Nat):Nat:=a+xh true (s.drop a)
theorem gQ {s:List Nat} {a:Nat} (h:a<s.length):bB s a=if Ab s[a] then bB s (a+1) else if s[a]=35 then mt s (a+1) else a:=by
 unfold bB mt
 rw[List.drop_eq_getElem_cons h]
 show a+(if Ab s[a] then 1+xh false (s.drop (a+1)) else if s[a]=35 then 1+xh true (s.drop (a+1)) else 0)=_
 split
 ·omega
 ·split<;>omega
theorem nD {s:List Nat} {a:Nat} (h:a<s.length):mt s a=if s[a]=10 then bB s (a+1) else mt s (a+1):=by
 unfold bB mt
 rw[List.drop_eq_getElem_cons h]
 show a+(if s[a]=10 then 1+xh false (s.drop (a+1)) else 1+xh true (s.drop (a+1)))=_
 split<;>omega
theorem qD {s:List Nat} {a:Nat} (h:s.length<=a):bB s a=a:=by
 unfold bB;rw[List.drop_eq_nil_of_le h];rfl
theorem AP {s:List Nat} {a:Nat} (h:s.length<=a):mt s a=a:=by
 unfold mt;rw[List.drop_eq_nil_of_le h];rfl
theorem kG {s:List Nat} {a:Nat} (h:a<=s.length):bB s a<=s.length:=by
 have:=HZ (s.drop a) false
 rw[List.length_drop] at this
 unfold bB;omega
theorem vg {s:List Nat} {a:Nat}:a<=bB s a:=by unfold bB;omega
theorem GJ (s:List Nat):∀(k a:Nat),k=s.length - a->mt s a=bB s (aY (fun c=>decide (c≠10)) s a):=by
 intro k
 induction k with
 |zero=>intro a hk;rw[oH (by omega),AP (by omega),qD (by omega)]
 |succ k ih=>
  intro a hk
  have ha:a<s.length:=by omega
  by_cases h:s[a]=10
  ·rw[rv ha (by simp[h]),nD ha,if_pos h,gQ ha,if_pos (by simp[Ab,h])]
  ·rw[gi ha (by simp[h]),nD ha,if_neg h];exact ih (a+1) (by omega)
theorem xT {s:List Nat} {a:Nat} (h:a<s.length) (hs:s[a]=35):bB s a=bB s (aY (fun c=>decide (c≠10)) s a):=by
 rw[gi h (by simp[hs]),gQ h,if_neg (by simp[Ab,hs]),if_pos hs,GJ s _ _ rfl]
theorem Bz {s:List Nat} {a:Nat} (h:a<s.length) (hb:Ab s[a]=false) (hs:s[a]≠35):bB s a=a:=by
 rw[gQ h,if_neg (by simp[hb]),if_neg hs]
theorem G6 {m:NH} {vb:NV} {s:List Nat} (hs:s.length<=1000000) (hb:Sl m vb 1 (oh s)) {a:Nat} (ha:a<=s.length) {t:Tm} (g1:NT.get D4.e t=some vb) (g2:NT.get D4.e.a t=some (ii a))
 {Q:Out->Dyn->Prop} (hQ:∀t',NT.get D4.e t'=some vb->NT.get D4.e.a t'=some (ii (aY (fun c=>decide (c≠10)) s a))->Q (.exit 3) ⟨an [] t', [],none,m⟩):W Try.prog S0 none rZ.loop ⟨t, [],none,m⟩ Q:=by
 have hlen:=hb.len
 rw[List.length_map] at hlen
 refine W.loop (fun k d=>∃t i,d=⟨t, [],none,m⟩/\NT.get D4.e t=some vb/\NT.get D4.e.a t=some (ii (i:Nat))/\aY (fun c=>decide (c≠10)) s i=aY (fun c=>decide (c≠10)) s a/\i+k=s.length) ?_ (s.length - a) _ ⟨_,a,rfl,g1,g2,rfl,by omega⟩
 rintro k d ⟨t,i,rfl,g1,g2,hr,hik⟩
 have hQ':=fun L t'=>hQ (an L t')
 simp only[E4] at hQ'
 apply aA
 unfold rZ
 change wp _ _ _ _ ⟨an [] t, [],none,m⟩ _
 by_cases hi:i<s.length
 ·obtain ⟨id,off,w,c,a1,a2,a3,a4,a5⟩:=hb.at i (by simpa using hi)
  rw[List.getElem_map] at a5
  have c0:=bg a5 0 (by omega)
  rw[Nat.add_zero] at c0
  by_cases h10:s[i]=10
  ·simp (disch:=first|assumption|omega) only[go_sem,seval,g1,g2,hlen,a1,a2,c0]
   refine hQ' _ _ ?_ ?_
   ·simp (disch:=first|assumption|omega) only[go_sem,seval,g1]
   ·simp (disch:=first|assumption|omega) only[go_sem,seval,g2];rw[←hr,rv hi (by simp[h10])]
  ·simp (disch:=first|assumption|omega) only[go_sem,seval,g1,g2,hlen,a1,a2,c0]
   refine ⟨k - 1,by omega,_,i+1,rfl, ?_, ?_,by rw[←hr,gi hi (by simp[h10])],by omega⟩
   ·simp (disch:=first|assumption|omega) only[go_sem,seval,g1]
   ·simp (disch:=first|assumption|omega) only[go_sem,seval]<;>rfl
 ·simp (disch:=first|assumption|omega) only[go_sem,seval,g1,g2,hlen]
  refine hQ' _ _ ?_ ?_
  ·simp (disch:=first|assumption|omega) only[go_sem,seval,g1]
  ·simp (disch:=first|assumption|omega) only[go_sem,seval,g2];rw[←hr,oH (by omega)]
theorem E9 (m:NH) {vb:NV} {s:List Nat} (hs:s.length<=1000000) (hb:Sl m vb 1 (oh s)) {a:Nat} (ha:a<=s.length):bm Try.prog S0 82 [vb,ii a] m (ii (bB s a)) m:=by
 have h:∃v m',bm Try.prog S0 82 [vb,ii a] m v m'/\v=ii (bB s a)/\m'=m:=by
  refine WF.ex fun K hK=> ?_
  refine WF.of_wpG (fun _=>rfl) yr (L:= [(.a .e,ii a),(.e,vb)]) rfl ?_
  unfold I3
  have hlen:=hb.len
  rw[List.length_map] at hlen
  simp (disch:=first|assumption|omega) only[go_sem,seval,ag]
  refine W.loop (fun k d=>∃t i,d=⟨t, [],none,m⟩/\NT.get D4.e t=some vb/\NT.get D4.e.a t=some (ii (i:Nat))/\bB s i=bB s a/\i+k=s.length) ?_ (s.length - a) _ ⟨_,a,rfl,by simp only[go_sem,seval],by simp only[go_sem,seval],rfl,by omega⟩
  rintro k d ⟨t,i,rfl,g1,g2,hr,hik⟩
  apply aA
  unfold zq
  change wp _ _ _ _ ⟨an [] t, [],none,m⟩ _
  by_cases hi:i<s.length
  ·obtain ⟨id,off,w,c,a1,a2,a3,a4,a5⟩:=hb.at i (by simpa using hi)
   rw[List.getElem_map] at a5
   have c0:=bg a5 0 (by omega)
   rw[Nat.add_zero] at c0
   have blk:∀h:Ab s[i]=true,bB s (i+1)=bB s a:=fun h=>by rw[←hr,gQ hi,if_pos h]
   by_cases h1:s[i]=32
   ·simp (disch:=first|assumption|omega) only[go_sem,seval,g1,g2,hlen,a1,a2,c0]
    refine ⟨k - 1,by omega,_,i+1,rfl, ?_, ?_,blk (by simp[Ab,h1]),by omega⟩
    ·simp (disch:=first|assumption|omega) only[go_sem,seval,g1]
    ·simp (disch:=first|assumption|omega) only[go_sem,seval]<;>rfl
   ·by_cases h2:s[i]=9
    ·simp (disch:=first|assumption|omega) only[go_sem,seval,g1,g2,hlen,a1,a2,c0]
     refine ⟨k - 1,by omega,_,i+1,rfl, ?_, ?_,blk (by simp[Ab,h2]),by omega⟩
     ·simp (disch:=first|assumption|omega) only[go_sem,seval,g1]
     ·simp (disch:=first|assumption|omega) only[go_sem,seval]<;>rfl
    ·by_cases h3:s[i]=10
     ·simp (disch:=first|assumption|omega) only[go_sem,seval,g1,g2,hlen,a1,a2,c0]
      refine ⟨k - 1,by omega,_,i+1,rfl, ?_, ?_,blk (by simp[Ab,h3]),by omega⟩
      ·simp (disch:=first|assumption|omega) only[go_sem,seval,g1]
      ·simp (disch:=first|assumption|omega) only[go_sem,seval]<;>rfl
     ·by_cases h4:s[i]=13
      ·simp (disch:=first|assumption|omega) only[go_sem,seval,g1,g2,hlen,a1,a2,c0]
       refine ⟨k - 1,by omega,_,i+1,rfl, ?_, ?_,blk (by simp[Ab,h4]),by omega⟩
       ·simp (disch:=first|assumption|omega) only[go_sem,seval,g1]
       ·simp (disch:=first|assumption|omega) only[go_sem,seval]<;>rfl
      ·have hnb:Ab s[i]=false:=by simp[Ab,h1,h2,h3,h4]
       by_cases h5:s[i]=35
       ·simp (disch:=first|assumption|omega) only[go_sem,seval,g1,g2,hlen,a1,a2,c0]
        refine G6 hs hb (a:=i) (by omega) ?_ ?_ ?_
        ·simp (disch:=first|assumption|omega) only[go_sem,seval,g1]
        ·simp (disch:=first|assumption|omega) only[go_sem,seval,g2]
        intro t' g1 g2
        simp (disch:=first|assumption|omega) only[go_sem,seval]
        have hle:=fO (p:=fun c=>decide (c≠10)) (s:=s) (a:=i) (by omega)
        have hlt:i+1<=aY (fun c=>decide (c≠10)) s i:=by rw[gi hi (by simp[h5])];exact ju
        exact ⟨s.length - aY (fun c=>decide (c≠10)) s i,by omega,t',_,rfl,g1,g2,by rw[←xT hi h5];exact hr,by omega⟩
       ·simp (disch:=first|assumption|omega) only[go_sem,seval,g1,g2,hlen,a1,a2,c0]
        exact hK _ _ ⟨by rw[←hr,Bz hi hnb h5],rfl⟩
  ·simp (disch:=first|assumption|omega) only[go_sem,seval,g1,g2,hlen]
   exact hK _ _ ⟨by rw[←hr,qD (by omega)],rfl⟩
 obtain ⟨v,m',h,rfl,rfl⟩:=h
 exact h
def fX:List (List Nat):= [[99,101,108,108], [116,104,114,101,97,100], [114,101,99,111,118,101,114], [115,101,116], [108,111,97,100], [115,116,111,114,101], [99,97,115], [102,101,110,99,101], [111,117,116], [105,102], [101,108,115,101], [119,104,105,108,101]]
theorem JK (m:NH) (t:List Nat):∃v m',bm Try.prog S0 134 [.str t] m v m'/\v= .bool (decide (t∈fX))/\Chg [] m m':=by
 refine WF.ex fun K hK=> ?_
 refine WF.of_wpG (fun _=>rfl) tK (L:= [(.e,.str t)]) rfl ?_
 unfold Em
 simp (config:={maxSteps:=1000000}) (disch:=first|assumption|omega|exact ab (by omega)|exact aa (by assumption)|(simp only[ap]<;>omega)) only[go_sem,seval]
 generalize hM:hp _ 1 m=M
 have hC:Chg [] m M:=by rw[←hM];exact ao rfl
 have hv:Sl M (.slc (na m 0) 0 12 1 12) 1 (bw fX):=by
  rw[←hM]
  exact (bz.of (B:=m) (C:=bw fX) (by simp) aF av (ab (by omega)) rfl rfl rfl).sl
 have hwl:fX.length=12:=rfl
 refine W.loop (fun k d=>∃t' i,d=⟨t', [],none,M⟩/\NT.get D4.e t'=some (.str t)/\NT.get D4.e.c t'=some (.slc (na m 0) 0 12 1 12)/\NT.get D4.e.f t'=some (ii (i:Nat))/\t∉fX.take i/\i+k=12) ?_ 12 _ ⟨_,0,rfl,by simp only[go_sem,seval],by simp only[go_sem,seval],by simp only[go_sem,seval]<;>rfl,by simp,by omega⟩
 rintro k d ⟨t',i,rfl,g1,g2,g3,hno,hik⟩
 apply aA
 unfold um
 change wp _ _ _ _ ⟨an [] t', [],none,M⟩ _
 by_cases hi:i<12
 ·obtain ⟨id,off,w,c,a1,a2,a3,a4,a5⟩:=hv.at i (by simpa [hwl] using hi)
  rw[List.getElem_map] at a5
  have c0:=bg a5 0 (by omega)
  rw[Nat.add_zero] at c0
  by_cases he:fX[i]=t
  ·simp (config:={maxSteps:=1000000}) (disch:=first|assumption|omega|exact ab (by omega)|exact aa (by assumption)|(simp only[ap]<;>omega)) only[go_sem,seval,g1,g2,g3,a1,a2,c0,he]
   exact hK _ _ ⟨by rw[decide_eq_true (show t∈fX by rw[←he];exact List.getElem_mem _)],hC⟩
  ·simp (config:={maxSteps:=1000000}) (disch:=first|assumption|omega|exact ab (by omega)|exact aa (by assumption)|(simp only[ap]<;>omega)) only[go_sem,seval,g1,g2,g3,a1,a2,c0,he]
   refine ⟨k - 1,by omega,_,i+1,rfl, ?_, ?_, ?_, ?_,by omega⟩
   ·simp (config:={maxSteps:=1000000}) (disch:=first|assumption|omega|exact ab (by omega)|exact aa (by assumption)|(simp only[ap]<;>omega)) only[go_sem,seval,g1]
   ·simp (config:={maxSteps:=1000000}) (disch:=first|assumption|omega|exact ab (by omega)|exact aa (by assumption)|(simp only[ap]<;>omega)) only[go_sem,seval,g2]
   ·simp (config:={maxSteps:=1000000}) (disch:=first|assumption|omega|exact ab (by omega)|exact aa (by assumption)|(simp only[ap]<;>omega)) only[go_sem,seval]<;>rfl
   ·rw[List.take_add_one,List.getElem?_eq_getElem (by omega)]
    simp only[Option.toList_some,List.mem_append,List.mem_singleton,not_or]
    exact ⟨hno,fun q=>he q.symm⟩
 ·simp (config:={maxSteps:=1000000}) (disch:=first|assumption|omega|exact ab (by omega)|exact aa (by assumption)|(simp only[ap]<;>omega)) only[go_sem,seval,g1,g2,g3]
  have e:i=12:=by omega
  subst e
  rw[List.take_of_length_le (by rw[hwl];omega)] at hno
  exact hK _ _ ⟨by simp[hno],hC⟩
def pz:List Nat->Nat->Option Nat
 | [],n=>some n
 |c::l,n=>if 10*n+(c - 48)<18446744073709551616 then pz l (10*n+(c - 48)) else none
def Fw (s:List Nat):Option Nat:=if 1<s.length/\s[0]? =some 48 then none else pz s 0
def d8:List Nat:= [123,125,40,41,91,93,59,43,45,42,38,61,60]
def cut (s:List Nat) (a e:Nat):List Nat:=(s.take e).drop a
def f0 (s:List Nat) (a:Nat):Option (Nat×List Nat×Nat×Nat):=
 match s[a]? with
 |none=>none
 |some c=>
  if vB c then (if cut s a (aY eh s a)∈fX then some (4,cut s a (aY eh s a),0,aY eh s a) else if (cut s a (aY eh s a)).length<=16 then some (1,cut s a (aY eh s a),0,aY eh s a) else none)
  else if fa c then (match Fw (cut s a (aY fa s a)) with|some n=>if aY eh s a=aY fa s a then some (2, [],n,aY fa s a) else none|none=>none)
  else if c∈d8 then some (3, [c],0,a+1) else none
theorem CC {a n d:Int} {t:List Nat}:br 4 (.agg [.int .i64 (.lit a),.str t,.int .u64 (.lit n),.int .i64 (.lit d)]) (.agg [.int .i64 (.lit a),.str t,.int .u64 (.lit n),.int .i64 (.lit d)])=true:=by
 refine ko ?_
 intro v hv
 simp only[List.mem_cons,List.not_mem_nil,or_false] at hv
 rcases hv with rfl|rfl|rfl|rfl<;>trivial
theorem rD (p:Nat->Bool) (s:List Nat) (a:Nat):cut s a (aY p s a)=(s.drop a).takeWhile p:=by
 unfold cut aY
 rw[List.drop_take,Nat.add_sub_cancel_left]
 exact (List.prefix_iff_eq_take.mp (List.takeWhile_prefix p)).symm
theorem Jl {p:Nat->Bool} {s:List Nat} {a c:Nat} (hb:s[a]? =some c) (hp:p c=true):∃l,cut s a (aY p s a)=c::l:=by
 rw[rD]
 obtain ⟨ha,hc⟩:=List.getElem?_eq_some_iff.mp hb
 rw[List.drop_eq_getElem_cons ha,hc,List.takeWhile_cons,hp]
 exact ⟨_,rfl⟩
theorem vD (p:Nat->Bool) (l:List Nat):∀c∈l.takeWhile p,p c=true:=by
 induction l with
 |nil=>intro c h;simp at h
 |cons x l ih=>
  intro c h
  rw[List.takeWhile_cons] at h
  split at h
  ·rcases List.mem_cons.mp h with rfl|h
   ·assumption
   ·exact ih c h
  ·simp at h
theorem BO (p:Nat->Bool) (s:List Nat) (a:Nat):∀c∈cut s a (aY p s a),p c=true:=by rw[rD];exact vD p _
theorem GV (c:Nat) (h:fa c=true):eh c=true:=by unfold eh;rw[h];simp
structure Tok where
 k:Nat
 t:List Nat
 n:Nat
 p:Nat
def Tok.l (x:Tok):List NV:= [ii x.k,.str x.t,u64 x.n,ii x.p]
def dH (s:List Nat):Nat->Nat->List Tok×Option Nat
 |0,_=>([],none)
 |k+1,a=>if a<s.length then (match f0 s a with
  |none=>([],some a)
  |some (kd,t,n,e)=>(⟨kd,t,n,a⟩::(dH s k (bB s e)).1,(dH s k (bB s e)).2)) else ([⟨5, [],0,s.length⟩],none)
def dM (s:List Nat):List Tok×Option Nat:=dH s (s.length+1) (bB s 0)
theorem CN {p:Nat->Bool} {s:List Nat} {a c:Nat} (hb:s[a]? =some c) (hp:p c=true):a<aY p s a:=by
 obtain ⟨ha,hc⟩:=List.getElem?_eq_some_iff.mp hb
 rw[gi ha (by rw[hc];exact hp)]
 exact ju
theorem EJ {s:List Nat} {a kd n e:Nat} {t:List Nat} (h:f0 s a=some (kd,t,n,e)):a<e/\e<=s.length:=by
 unfold f0 at h
 cases hb:s[a]? with
 |none=>rw[hb] at h;cases h
 |some c=>
  rw[hb] at h
  obtain ⟨ha,hc⟩:=List.getElem?_eq_some_iff.mp hb
  dsimp only at h
  have g1:vB c=true->a<aY eh s a:=fun q=>CN hb (by unfold eh;rw[q];rfl)
  have g2:fa c=true->a<aY fa s a:=fun q=>CN hb q
  have l1:=fO (p:=eh) (s:=s) (a:=a) (by omega)
  have l2:=fO (p:=fa) (s:=s) (a:=a) (by omega)
  split at h
  ·rename_i hL
   split at h
   ·cases h;exact ⟨g1 hL,l1⟩
   ·split at h
    ·cases h;exact ⟨g1 hL,l1⟩
    ·cases h
  ·split at h
   ·rename_i hD
    split at h
    ·split at h
     ·cases h;exact ⟨g2 hD,l2⟩
     ·cases h
    ·cases h
   ·split at h
    ·cases h;exact ⟨by omega,by omega⟩
    ·cases h
theorem lN (s:List Nat):∀(k a:Nat),(dH s k a).1.length<=k:=by
 intro k
 induction k with
 |zero=>intro a;simp[dH]
 |succ k ih=>
  intro a
  unfold dH
  split
  ·split
   ·simp
   ·rename_i kd t n e _
    have:=ih (bB s e)
    simp only[List.length_cons];omega
  ·simp
def MS (s:List Nat):Int->List Tok->Prop
 |_, []=>True
 |w,x::l=>w<x.p/\x.p<=s.length/\x.t.length<=s.length - x.p/\cut s x.p (x.p+x.t.length)=x.t/\(x.k=5↔l= [])/\MS s x.p l
theorem kw {s:List Nat} {a e:Nat} (h:e<=s.length):(cut s a e).length=e - a:=by unfold cut;rw[List.length_drop,List.length_take];omega
theorem ry (s:List Nat) (a:Nat):cut s a a= []:=by unfold cut;exact List.drop_take_self
theorem F6 {s:List Nat} {a e:Nat} (h:e<=s.length) (h':a<=e):cut s a (a+(cut s a e).length)=cut s a e:=by rw[kw h,Nat.add_sub_cancel' h']
theorem Hm {s:List Nat} {a c:Nat} (hb:s[a]? =some c):cut s a (a+1)= [c]:=by
 obtain ⟨ha,hc⟩:=List.getElem?_eq_some_iff.mp hb
 unfold cut
 rw[List.take_add_one,hb]
 simp only[Option.toList_some]
 rw[List.drop_append_of_le_length (by rw[List.length_take];omega),List.drop_take_self];rfl
theorem JF {s:List Nat} {a kd n e:Nat} {t:List Nat} (h:f0 s a=some (kd,t,n,e)):kd≠5/\t.length<=s.length - a/\cut s a (a+t.length)=t:=by
 unfold f0 at h
 cases hb:s[a]? with
 |none=>rw[hb] at h;cases h
 |some c=>
  rw[hb] at h
  obtain ⟨ha,hc⟩:=List.getElem?_eq_some_iff.mp hb
  dsimp only at h
  have l1:=fO (p:=eh) (s:=s) (a:=a) (by omega)
  have l2:=ju (p:=eh) (s:=s) (a:=a)
  have c1:=F6 l1 l2
  have c2:=kw (a:=a) l1
  split at h
  ·split at h
   ·cases h;exact ⟨by omega,by omega,c1⟩
   ·split at h
    ·cases h;exact ⟨by omega,by omega,c1⟩
    ·cases h
  ·split at h
   ·split at h
    ·split at h
     ·cases h;exact ⟨by omega,by simp,ry s a⟩
     ·cases h
    ·cases h
   ·split at h
    ·cases h;exact ⟨by omega,by simp;omega,Hm hb⟩
    ·cases h
theorem E8 (s:List Nat):∀(k a:Nat) (w:Int),s.length<=a+k->a<=s.length->w<a->(dH s (k+1) a).2=none->MS s w (dH s (k+1) a).1/\(dH s (k+1) a).1≠ []:=by
 intro k
 induction k with
 |zero=>
  intro a w h1 h2 h3 h4
  rw[dH,if_neg (by omega)]
  exact ⟨⟨by simp;omega,Nat.le_refl _,by simp,ry s _,by simp,trivial⟩,by simp⟩
 |succ k ih=>
  intro a w h1 h2 h3 h4
  by_cases ha:a<s.length
  ·rw[dH,if_pos ha] at h4 ⊢
   cases hk:f0 s a with
   |none=>rw[hk] at h4;cases h4
   |some x=>
    obtain ⟨kd,t,n,e⟩:=x
    rw[hk] at h4
    obtain ⟨e1,e2⟩:=EJ hk
    obtain ⟨t1,t2,t3⟩:=JF hk
    have g1:e<=bB s e:=vg
    obtain ⟨i1,i2⟩:=ih (bB s e) a (by omega) (kG e2) (by omega) h4
    exact ⟨⟨h3,by simp;omega,t2,t3,⟨fun q=>absurd q t1,fun q=>absurd q i2⟩,i1⟩,by simp⟩
  ·rw[dH,if_neg ha]
   exact ⟨⟨by simp;omega,Nat.le_refl _,by simp,ry s _,by simp,trivial⟩,by simp⟩
theorem GC {s:List Nat} (h:(dM s).2=none):MS s (-1) (dM s).1/\(dM s).1≠ []:=by
 have:=kG (s:=s) (a:=0) (Nat.zero_le _)
 exact E8 s s.length (bB s 0) (-1) (by omega) this (by omega) h
theorem LM {m:NH} {vb f:NV} {s:List Nat} (hs:s.length<=1000000) (hb:Sl m vb 1 (oh s)) {a:Nat} (ha:a<=s.length) {t:Tm} (g1:NT.get D4.e t=some vb) (g2:NT.get D4.e.a.c t=some (ii a)) (g3:NT.get D4.e.a t=some (ii a)) (g4:NT.get D4.e.f t=some f)
 {Q:Out->Dyn->Prop} (hQ:∀L t',NT.get D4.e (an L t')=some vb->NT.get D4.e.a (an L t')=some (ii a)->NT.get D4.e.f (an L t')=some f->NT.get D4.e.a.c (an L t')=some (ii ((aY eh s a:Nat):Int))->Q (.exit 0) ⟨an L t', [],none,m⟩):W Try.prog S0 none sn.loop ⟨t, [],none,m⟩ Q:=by
 have hlen:=hb.len
 rw[List.length_map] at hlen
 refine W.loop (fun k d=>∃t i,d=⟨t, [],none,m⟩/\NT.get D4.e t=some vb/\NT.get D4.e.a t=some (ii a)/\NT.get D4.e.f t=some f/\NT.get D4.e.a.c t=some (ii (i:Nat))/\aY eh s i=aY eh s a/\i+k=s.length) ?_ (s.length - a) _ ⟨_,a,rfl,g1,g3,g4,g2,rfl,by omega⟩
 rintro k d ⟨t,i,rfl,g1,g3,g4,g2,hr,hik⟩
 apply aA
 unfold sn
 change wp _ _ _ _ ⟨an [] t, [],none,m⟩ _
 by_cases hi:i<s.length
 ·obtain ⟨id,off,w,c,a1,a2,a3,a4,a5⟩:=hb.at i (by simpa using hi)
  rw[List.getElem_map] at a5
  have c0:=bg a5 0 (by omega)
  rw[Nat.add_zero] at c0
  have hI:=B4 m s[i]
  cases h1:eh s[i] with
  |false=>
   rw[h1] at hI
   simp (disch:=first|assumption|omega) only[go_sem,seval,g1,g2,hlen,a1,a2,c0,hI.wf']
   refine hQ _ _ ?_ ?_ ?_ ?_
   ·simp (disch:=first|assumption|omega) only[go_sem,seval,g1]
   ·simp (disch:=first|assumption|omega) only[go_sem,seval,g3]
   ·simp (disch:=first|assumption|omega) only[go_sem,seval,g4]
   ·simp (disch:=first|assumption|omega) only[go_sem,seval,g2];rw[←hr,rv hi h1]
  |true=>
   rw[h1] at hI
   simp (disch:=first|assumption|omega) only[go_sem,seval,g1,g2,hlen,a1,a2,c0,hI.wf']
   refine ⟨k - 1,by omega,_,i+1,rfl, ?_, ?_, ?_, ?_,by rw[←hr,gi hi h1],by omega⟩
   ·simp (disch:=first|assumption|omega) only[go_sem,seval,g1]
   ·simp (disch:=first|assumption|omega) only[go_sem,seval,g3]
   ·simp (disch:=first|assumption|omega) only[go_sem,seval,g4]
   ·simp (disch:=first|assumption|omega) only[go_sem,seval]<;>rfl
 ·simp (disch:=first|assumption|omega) only[go_sem,seval,g1,g2,hlen]
  refine hQ _ _ ?_ ?_ ?_ ?_
  ·simp (disch:=first|assumption|omega) only[go_sem,seval,g1]
  ·simp (disch:=first|assumption|omega) only[go_sem,seval,g3]
  ·simp (disch:=first|assumption|omega) only[go_sem,seval,g4]
  ·simp (disch:=first|assumption|omega) only[go_sem,seval,g2];rw[←hr,oH (by omega)]
theorem C7 {s:List Nat} {a:Nat} (h:∀c∈cut s a (aY eh s a),fa c=true):aY fa s a=aY eh s a:=by
 rw[rD] at h
 unfold aY
 congr 1
 generalize s.drop a=l at h ⊢
 induction l with
 |nil=>rfl
 |cons x l ih=>
  rw[List.takeWhile_cons] at h
  rw[List.takeWhile_cons,List.takeWhile_cons]
  cases hx:eh x with
  |false=>
   have:fa x=false:=by cases hd:fa x with
    |false=>rfl
    |true=>rw[GV x hd] at hx;cases hx
   simp[hx,this]
  |true=>
   rw[hx] at h
   have h0:=h x (by simp)
   rw[h0]
   simp only[if_true,List.length_cons]
   rw[ih fun c hc=>h c (by simp[hc])]
def wE (s:List Nat) (a:Nat):Prop:=aY eh s a≠aY fa s a∨pz (cut s a (aY fa s a)) 0=none
theorem GQ {s:List Nat} {a e i:Nat} (h1:a<=i) (h2:i<e) (h3:e<=s.length):(cut s a e).drop (i - a)=s[i]::(cut s a e).drop (i+1 - a):=by
 have hlt:i - a<(cut s a e).length:=by rw[kw h3];omega
 have hg:(cut s a e)[i - a]? =s[i]? :=by
  unfold cut
  rw[List.getElem?_drop,show a+(i - a)=i by omega,List.getElem?_take_of_lt h2]
 rw[List.getElem?_eq_getElem hlt,List.getElem?_eq_getElem (by omega),Option.some.injEq] at hg
 rw[List.drop_eq_getElem_cons hlt,show i - a+1=i+1 - a by omega,hg]
theorem KQ {m:NH} {vb:NV} {s:List Nat} (hs:s.length<=1000000) (hb:Sl m vb 1 (oh s)) {a:Nat} (ha:a<=s.length) {t:Tm} {r tk:D4} {b0 b1 b2 b3 a0 a1 a2 a3 cc:NV}
 (hr:m.get r=some (.cells true [b0,b1,b2,b3])) (htk:m.get tk=some (.cells true [a0,a1,a2,a3])) (orr:ay m r) (otk:ay m tk)
 (g1:NT.get D4.e t=some vb) (g2:NT.get D4.e.a.c t=some (ii ((aY eh s a:Nat):Int))) (g3:NT.get D4.e.a t=some (ii a)) (g4:NT.get D4.e.f t=some (.ptr r 0)) (g5:NT.get D4.e.b.a t=some (.ptr tk 0)) (g6:NT.get D4.e.b.b t=some (u64 0)) (g7:NT.get D4.e.b.c t=some (ii a)) (g8:NT.get D4.e.a.f t=some cc)
 {Q:Out->Dyn->Prop}
 (hbad:wE s a->∀L t',NT.get D4.e.f (an L t')=some (.ptr r 0)->NT.get D4.e.a.a (an L t')=some (ii a)->NT.get D4.e.a.b (an L t')=some (ii 2)->Q .ret ⟨an L t', [],none,m.put r (.cells true [a0,a1,a2,a3])⟩)
 (hok:∀n,aY eh s a=aY fa s a->pz (cut s a (aY fa s a)) 0=some n->∀L t',NT.get D4.e.b.a (an L t')=some (.ptr tk 0)->NT.get D4.e.a.c (an L t')=some (ii ((aY eh s a:Nat):Int))->NT.get D4.e.a (an L t')=some (ii a)->NT.get D4.e.f (an L t')=some (.ptr r 0)->NT.get D4.e.b.b (an L t')=some (u64 n)->NT.get D4.e.a.f (an L t')=some cc->Q (.exit 3) ⟨an L t', [],none,m⟩):
 W Try.prog S0 none rX.loop ⟨t, [],none,m⟩ Q:=by
 have hlen:=hb.len
 rw[List.length_map] at hlen
 have hle:aY eh s a<=s.length:=fO ha
 have hge:a<=aY eh s a:=ju
 generalize hto:aY eh s a=to at hle hge g2 hok
 refine W.loop (fun k d=>∃t i n,d=⟨t, [],none,m⟩/\NT.get D4.e t=some vb/\NT.get D4.e.a.c t=some (ii (to:Nat))/\NT.get D4.e.a t=some (ii a)/\NT.get D4.e.f t=some (.ptr r 0)/\NT.get D4.e.b.a t=some (.ptr tk 0)/\NT.get D4.e.b.b t=some (u64 n)/\NT.get D4.e.b.c t=some (ii (i:Nat))/\NT.get D4.e.a.f t=some cc/\n<18446744073709551616/\a<=i/\(∀c∈(cut s a to).take (i - a),fa c=true)/\pz ((cut s a to).drop (i - a)) n=pz (cut s a to) 0/\i+k=to) ?_ (to - a) _
  ⟨_,a,0,rfl,g1,g2,g3,g4,g5,g6,g7,g8,by omega,Nat.le_refl _,by simp,by simp,by omega⟩
 rintro k d ⟨t,i,n,rfl,g1,g2,g3,g4,g5,g6,g7,g8,hn,hai,hall,hv,hik⟩
 apply aA
 unfold rX
 change wp _ _ _ _ ⟨an [] t, [],none,m⟩ _
 by_cases hi:i<to
 ·obtain ⟨id,off,w,c',x1,x2,x3,x4,x5⟩:=hb.at i (by simp;omega)
  rw[List.getElem_map] at x5
  have c0:=bg x5 0 (by omega)
  rw[Nat.add_zero] at c0
  have hcg:=GQ (s:=s) hai hi hle
  have hD:=rQ m s[i]
  generalize hc:s[i]=c at c0 hcg hD
  rw[hcg] at hv
  have hmem:c∈cut s a to:=by
   have:c∈(cut s a to).drop (i - a):=by rw[hcg];simp
   exact List.mem_of_mem_drop this
  cases h1:fa c with
  |false=>
   rw[h1] at hD
   simp (config:={maxSteps:=1000000}) (disch:=first|assumption|omega|exact ab (by omega)|exact aa (by assumption)|(simp only[ap]<;>omega)) only[go_sem,seval,ag,g1,g2,g3,g4,g5,g6,g7,hlen,x1,x2,c0,hD.wf',hr,htk]
   refine hbad (Or.inl fun h=> ?_) _ _ ?_ ?_ ?_
   ·rw[hto] at h
    have:=BO fa s a c (by rw[←h];exact hmem)
    rw[h1] at this;cases this
   ·simp (config:={maxSteps:=1000000}) (disch:=first|assumption|omega|exact ab (by omega)|exact aa (by assumption)|(simp only[ap]<;>omega)) only[go_sem,seval,g4]
   ·simp (config:={maxSteps:=1000000}) (disch:=first|assumption|omega|exact ab (by omega)|exact aa (by assumption)|(simp only[ap]<;>omega)) only[go_sem,seval]
   ·simp (config:={maxSteps:=1000000}) (disch:=first|assumption|omega|exact ab (by omega)|exact aa (by assumption)|(simp only[ap]<;>omega)) only[go_sem,seval]
  |true=>
   rw[h1] at hD
   have hdd:=h1
   unfold fa at hdd
   rw[decide_eq_true_eq] at hdd
   have e1:((c:Int) - 48) % 256=((c - 48:Nat):Int):=by omega
   have e2:((c - 48:Nat):Int) % 18446744073709551616=((c - 48:Nat):Int):=by omega
   have e3:(18446744073709551615 - ((c - 48:Nat):Int)) % 18446744073709551616=((18446744073709551615 - (c - 48):Nat):Int):=by omega
   have q10:∀x:Nat,x<18446744073709551616->dK .num .quo (.int .u64 (.lit (x:Int))) (.int .u64 (.lit 10))=some (.int .u64 (.lit ((x / 10:Nat):Int))):=by
    intro x hx
    have:=C1 (a:=x) (b:=10) (by omega)
    rw[show x / 10 % 18446744073709551616=x / 10 by omega] at this
    exact this
   have q10:=q10 (18446744073709551615 - (c - 48)) (by omega)
   have hvn:pz (c::(cut s a to).drop (i+1 - a)) n=if 10*n+(c - 48)<18446744073709551616 then pz ((cut s a to).drop (i+1 - a)) (10*n+(c - 48)) else none:=rfl
   by_cases hlt:10*n+(c - 48)<18446744073709551616
   ·rw[hvn,if_pos hlt] at hv
    have hle10:n<=(18446744073709551615 - (c - 48)) / 10:=by omega
    have e4:(10*(n:Int) % 18446744073709551616+((c - 48:Nat):Int)) % 18446744073709551616=((10*n+(c - 48):Nat):Int):=by omega
    generalize hqq:(18446744073709551615 - (c - 48)) / 10=qq at q10 hle10
    simp (config:={maxSteps:=1000000}) (disch:=first|assumption|omega|exact ab (by omega)|exact aa (by assumption)|(simp only[ap]<;>omega)) only[go_sem,seval,ag,g1,g2,g3,g4,g5,g6,g7,hlen,x1,x2,c0,hD.wf',e1,e2,e3,q10,e4]
    refine ⟨k - 1,by omega,_,i+1,10*n+(c - 48),rfl, ?_, ?_, ?_, ?_, ?_, ?_, ?_, ?_,hlt,by omega, ?_,hv,by omega⟩
    ·simp (config:={maxSteps:=1000000}) (disch:=first|assumption|omega|exact ab (by omega)|exact aa (by assumption)|(simp only[ap]<;>omega)) only[go_sem,seval,g1]
    ·simp (config:={maxSteps:=1000000}) (disch:=first|assumption|omega|exact ab (by omega)|exact aa (by assumption)|(simp only[ap]<;>omega)) only[go_sem,seval,g2]
    ·simp (config:={maxSteps:=1000000}) (disch:=first|assumption|omega|exact ab (by omega)|exact aa (by assumption)|(simp only[ap]<;>omega)) only[go_sem,seval,g3]
    ·simp (config:={maxSteps:=1000000}) (disch:=first|assumption|omega|exact ab (by omega)|exact aa (by assumption)|(simp only[ap]<;>omega)) only[go_sem,seval,g4]
    ·simp (config:={maxSteps:=1000000}) (disch:=first|assumption|omega|exact ab (by omega)|exact aa (by assumption)|(simp only[ap]<;>omega)) only[go_sem,seval,g5]
    ·simp (config:={maxSteps:=1000000}) (disch:=first|assumption|omega|exact ab (by omega)|exact aa (by assumption)|(simp only[ap]<;>omega)) only[go_sem,seval]
    ·simp (config:={maxSteps:=1000000}) (disch:=first|assumption|omega|exact ab (by omega)|exact aa (by assumption)|(simp only[ap]<;>omega)) only[go_sem,seval]<;>rfl
    ·simp (config:={maxSteps:=1000000}) (disch:=first|assumption|omega|exact ab (by omega)|exact aa (by assumption)|(simp only[ap]<;>omega)) only[go_sem,seval,g8]
    ·intro x hx
     rw[show i+1 - a=i - a+1 by omega,List.take_add_one] at hx
     have hg:(cut s a to)[i - a]? =some c:=by
      have:=congrArg (fun l=>l[0]?) hcg
      simpa using this
     rw[hg] at hx
     simp only[Option.toList_some,List.mem_append,List.mem_singleton] at hx
     rcases hx with hx|rfl
     ·exact hall x hx
     ·exact h1
   ·rw[hvn,if_neg hlt] at hv
    have hle10:(18446744073709551615 - (c - 48)) / 10<n:=by omega
    generalize hqq:(18446744073709551615 - (c - 48)) / 10=qq at q10 hle10
    simp (config:={maxSteps:=1000000}) (disch:=first|assumption|omega|exact ab (by omega)|exact aa (by assumption)|(simp only[ap]<;>omega)) only[go_sem,seval,ag,g1,g2,g3,g4,g5,g6,g7,hlen,x1,x2,c0,hD.wf',e1,e2,e3,q10,hr,htk]
    refine hbad ?_ _ _ ?_ ?_ ?_
    ·unfold wE
     by_cases h:aY eh s a=aY fa s a
     ·right;rw[←h,hto];exact hv.symm
     ·exact Or.inl h
    ·simp (config:={maxSteps:=1000000}) (disch:=first|assumption|omega|exact ab (by omega)|exact aa (by assumption)|(simp only[ap]<;>omega)) only[go_sem,seval,g4]
    ·simp (config:={maxSteps:=1000000}) (disch:=first|assumption|omega|exact ab (by omega)|exact aa (by assumption)|(simp only[ap]<;>omega)) only[go_sem,seval]
    ·simp (config:={maxSteps:=1000000}) (disch:=first|assumption|omega|exact ab (by omega)|exact aa (by assumption)|(simp only[ap]<;>omega)) only[go_sem,seval]
 ·simp (config:={maxSteps:=1000000}) (disch:=first|assumption|omega|exact ab (by omega)|exact aa (by assumption)|(simp only[ap]<;>omega)) only[go_sem,seval,g1,g2,g7,hlen]
  have hia:i - a=(cut s a to).length:=by rw[kw hle];omega
  rw[hia,List.take_length] at hall
  have he:aY fa s a=aY eh s a:=C7 (by rw[hto];exact hall)
  rw[hia,List.drop_length] at hv
  rw[hto] at he
  refine hok n he.symm ?_ _ _ ?_ ?_ ?_ ?_ ?_ ?_
  ·rw[he,←hv];rfl
  ·simp (config:={maxSteps:=1000000}) (disch:=first|assumption|omega|exact ab (by omega)|exact aa (by assumption)|(simp only[ap]<;>omega)) only[go_sem,seval,g5]
  ·simp (config:={maxSteps:=1000000}) (disch:=first|assumption|omega|exact ab (by omega)|exact aa (by assumption)|(simp only[ap]<;>omega)) only[go_sem,seval,g2]
  ·simp (config:={maxSteps:=1000000}) (disch:=first|assumption|omega|exact ab (by omega)|exact aa (by assumption)|(simp only[ap]<;>omega)) only[go_sem,seval,g3]
  ·simp (config:={maxSteps:=1000000}) (disch:=first|assumption|omega|exact ab (by omega)|exact aa (by assumption)|(simp only[ap]<;>omega)) only[go_sem,seval,g4]
  ·simp (config:={maxSteps:=1000000}) (disch:=first|assumption|omega|exact ab (by omega)|exact aa (by assumption)|(simp only[ap]<;>omega)) only[go_sem,seval,g6]
  ·simp (config:={maxSteps:=1000000}) (disch:=first|assumption|omega|exact ab (by omega)|exact aa (by assumption)|(simp only[ap]<;>omega)) only[go_sem,seval,g8]
theorem Lo {m:NH} {t:Tm} {r tk:D4} {b0 b1 b2 b3 a0 a1 a2 a3:NV} {c a:Nat} (ha':a<=1000000)
 (hr:m.get r=some (.cells true [b0,b1,b2,b3])) (htk:m.get tk=some (.cells true [a0,a1,a2,a3])) (orr:ay m r) (otk:ay m tk) (hrt:r≠tk)
 (g1:NT.get D4.e.c.a t=some (.str d8)) (g2:NT.get D4.e.c.b t=some (ii 0)) (g3:NT.get D4.e.a t=some (ii a)) (g4:NT.get D4.e.f t=some (.ptr r 0)) (g5:NT.get D4.e.b.a t=some (.ptr tk 0)) (g6:NT.get D4.e.a.f t=some (u8 c))
 {Q:Out->Dyn->Prop}
 (hok:c∈d8->∀L t' m',m'.get r=some (.cells true [ii 3,.str [c],a2,a3])->Chg [r,tk] m m'->NT.get D4.e.f (an L t')=some (.ptr r 0)->NT.get D4.e.a.a (an L t')=some (ii ((a:Int)+1))->NT.get D4.e.a.b (an L t')=some (ii 0)->Q .ret ⟨an L t', [],none,m'⟩)
 (hbad:c∉d8->∀L t',NT.get D4.e.b.a (an L t')=some (.ptr tk 0)->NT.get D4.e.a (an L t')=some (ii a)->NT.get D4.e.f (an L t')=some (.ptr r 0)->Q (.exit 5) ⟨an L t', [],none,m⟩):
 W Try.prog S0 none sC.loop ⟨t, [],none,m⟩ Q:=by
 have hsl:d8.length=13:=rfl
 refine W.loop (fun k d=>∃t i,d=⟨t, [],none,m⟩/\NT.get D4.e.c.a t=some (.str d8)/\NT.get D4.e.c.b t=some (ii (i:Nat))/\NT.get D4.e.a t=some (ii a)/\NT.get D4.e.f t=some (.ptr r 0)/\NT.get D4.e.b.a t=some (.ptr tk 0)/\NT.get D4.e.a.f t=some (u8 c)/\c∉d8.take i/\i+k=13) ?_ 13 _ ⟨_,0,rfl,g1,g2,g3,g4,g5,g6,by simp,by omega⟩
 rintro k d ⟨t,i,rfl,g1,g2,g3,g4,g5,g6,hno,hik⟩
 apply aA
 unfold sC
 change wp _ _ _ _ ⟨an [] t, [],none,m⟩ _
 rw[←ag m]
 by_cases hi:i<13
 ·have hb:d8[i]? =some d8[i]:=List.getElem?_eq_getElem (by omega)
  by_cases he:d8[i]=c
  ·rw[he] at hb
   have e1:List.drop i (List.take ((i:Int)+1).toNat d8)= [c]:=by
    rw[show ((i:Int)+1).toNat=i+1 by omega,List.take_add_one,hb]
    simp only[Option.toList_some]
    rw[List.drop_append_of_le_length (by rw[List.length_take];omega),List.drop_take_self];rfl
   simp (config:={maxSteps:=1000000}) (disch:=first|assumption|omega|exact ab (by omega)|exact aa (by assumption)|(simp only[ap]<;>omega)) only[go_sem,seval,g1,g2,g3,g4,g5,g6,hb,hsl,e1,hr,htk,CC]
   refine hok (by rw[←he];exact List.getElem_mem _) _ _ _ ?_ ?_ ?_ ?_ ?_
   ·exact (aO orr).trans az
   ·exact (ao rfl).weak (by simp[aR])
   ·simp (config:={maxSteps:=1000000}) (disch:=first|assumption|omega|exact ab (by omega)|exact aa (by assumption)|(simp only[ap]<;>omega)) only[go_sem,seval,g4]
   ·simp (config:={maxSteps:=1000000}) (disch:=first|assumption|omega|exact ab (by omega)|exact aa (by assumption)|(simp only[ap]<;>omega)) only[go_sem,seval]
   ·simp (config:={maxSteps:=1000000}) (disch:=first|assumption|omega|exact ab (by omega)|exact aa (by assumption)|(simp only[ap]<;>omega)) only[go_sem,seval]
  ·have hne:((d8[i]:Int)=(c:Int))=False:=by simp;omega
   simp (config:={maxSteps:=1000000}) (disch:=first|assumption|omega|exact ab (by omega)|exact aa (by assumption)|(simp only[ap]<;>omega)) only[go_sem,seval,g1,g2,g3,g4,g5,g6,hb,hsl]
   refine ⟨k - 1,by omega,_,i+1,by rw[ag], ?_, ?_, ?_, ?_, ?_, ?_, ?_,by omega⟩
   ·simp (config:={maxSteps:=1000000}) (disch:=first|assumption|omega|exact ab (by omega)|exact aa (by assumption)|(simp only[ap]<;>omega)) only[go_sem,seval,g1]
   ·simp (config:={maxSteps:=1000000}) (disch:=first|assumption|omega|exact ab (by omega)|exact aa (by assumption)|(simp only[ap]<;>omega)) only[go_sem,seval]<;>rfl
   ·simp (config:={maxSteps:=1000000}) (disch:=first|assumption|omega|exact ab (by omega)|exact aa (by assumption)|(simp only[ap]<;>omega)) only[go_sem,seval,g3]
   ·simp (config:={maxSteps:=1000000}) (disch:=first|assumption|omega|exact ab (by omega)|exact aa (by assumption)|(simp only[ap]<;>omega)) only[go_sem,seval,g4]
   ·simp (config:={maxSteps:=1000000}) (disch:=first|assumption|omega|exact ab (by omega)|exact aa (by assumption)|(simp only[ap]<;>omega)) only[go_sem,seval,g5]
   ·simp (config:={maxSteps:=1000000}) (disch:=first|assumption|omega|exact ab (by omega)|exact aa (by assumption)|(simp only[ap]<;>omega)) only[go_sem,seval,g6]
   ·rw[List.take_add_one,hb]
    simp only[Option.toList_some,List.mem_append,List.mem_singleton,not_or]
    exact ⟨hno,fun q=>he q.symm⟩
 ·simp (config:={maxSteps:=1000000}) (disch:=first|assumption|omega|exact ab (by omega)|exact aa (by assumption)|(simp only[ap]<;>omega)) only[go_sem,seval,g1,g2,hsl]
  rw[ag]
  refine hbad ?_ _ _ ?_ ?_ ?_
  ·have:i=13:=by omega
   subst this
   exact hno
  ·simp (config:={maxSteps:=1000000}) (disch:=first|assumption|omega|exact ab (by omega)|exact aa (by assumption)|(simp only[ap]<;>omega)) only[go_sem,seval,g5]
  ·simp (config:={maxSteps:=1000000}) (disch:=first|assumption|omega|exact ab (by omega)|exact aa (by assumption)|(simp only[ap]<;>omega)) only[go_sem,seval,g3]
  ·simp (config:={maxSteps:=1000000}) (disch:=first|assumption|omega|exact ab (by omega)|exact aa (by assumption)|(simp only[ap]<;>omega)) only[go_sem,seval,g4]
theorem DU (s:List Nat) (a e:Nat):((oh s).drop a).take (e - a)=oh (cut s a e):=by
 unfold cut
 rw[List.drop_take]
 simp[List.map_take,List.map_drop]
theorem kJ {s:List Nat} {a c:Nat} (hbs:s[a]? =some c) (hD:fa c=true):Fw (cut s a (aY fa s a))=if 1<aY fa s a - a/\c=48 then none else pz (cut s a (aY fa s a)) 0:=by
 have ha:=(List.getElem?_eq_some_iff.mp hbs).1
 obtain ⟨l,hl⟩:=Jl hbs hD
 have hn:=kw (s:=s) (a:=a) (fO (p:=fa) (s:=s) (a:=a) (by omega))
 unfold Fw
 rw[hn]
 have e:((cut s a (aY fa s a))[0]? =some 48)↔(c=48):=by rw[hl];simp
 by_cases h:1<aY fa s a - a/\c=48
 ·rw[if_pos h,if_pos ⟨h.1,e.mpr h.2⟩]
 ·rw[if_neg h,if_neg fun q=>h ⟨q.1,e.mp q.2⟩]
theorem kr {s:List Nat} {a c:Nat} (hbs:s[a]? =some c) (hD:fa c=true):f0 s a=(match Fw (cut s a (aY fa s a)) with|some n=>if aY eh s a=aY fa s a then some (2, [],n,aY fa s a) else none|none=>none):=by
 have hL:vB c=false:=by
  unfold fa at hD;rw[decide_eq_true_eq] at hD
  unfold vB;rw[decide_eq_false_iff_not];omega
 unfold f0;rw[hbs];simp only[hL,hD];rfl
theorem uJ {s:List Nat} {a c:Nat} (hbs:s[a]? =some c) (hD:fa c=true) (h:wE s a):f0 s a=none:=by
 rw[kr hbs hD,kJ hbs hD]
 by_cases h1:1<aY fa s a - a/\c=48
 ·rw[if_pos h1]
 ·rw[if_neg h1]
  rcases h with h|h
  ·cases pz (cut s a (aY fa s a)) 0 with
   |none=>rfl
   |some n=>simp[h]
  ·rw[h]
theorem G2 (m:NH) {vb:NV} {s:List Nat} (hs:s.length<=1000000) (h256:∀c∈s,c<256) (hb:Sl m vb 1 (oh s)) {a:Nat} (ha:a<s.length):
 ∃v m',bm Try.prog S0 83 [vb,ii a] m v m'/\(∃(k0:Int) (t0:List Nat) (n0 p:Int),v= .tup [.agg [ii k0,.str t0,.int .u64 (.lit n0),ii a],ii p,ii (if (f0 s a).isSome then 0 else 2)]/\∀k t n e,f0 s a=some (k,t,n,e)->k0=k/\t0=t/\n0=n/\p=e)/\Chg [] m m':=by
 refine WF.ex fun K hK=> ?_
 refine WF.of_wpG (fun _=>rfl) zj (L:= [(.a .e,ii a),(.e,vb)]) rfl ?_
 unfold Ia
 simp (config:={maxSteps:=1000000}) (disch:=first|assumption|omega|exact ab (by omega)|exact aa (by assumption)|(simp only[ap]<;>omega)) only[go_sem,seval]
 generalize hM0:hp _ 1 m=M0
 have hC0:Chg [] m M0:=by rw[←hM0];exact ao rfl
 have r0:M0.get (na m 0)=some (.cells true [ii 0,.str [],u64 0,ii 0]):=by rw[←hM0];exact av
 have or0:ay M0 (na m 0):=by rw[←hM0];exact ab (by omega)
 have hb0:=hb.chg hC0 fun _ _=>by simp
 refine LM hs hb0 (Nat.le_of_lt ha) (by simp only[go_sem,seval]) (by simp only[go_sem,seval]) (by simp only[go_sem,seval]) (f:= .ptr (na m 0) 0) (by simp only[go_sem,seval]) ?_
 intro L t g1 g2 g3 g4
 rw[←ag M0]
 obtain ⟨id,off,w,c',x1,x2,x3,x4,x5⟩:=hb0.at a (by simpa using ha)
 rw[List.getElem_map] at x5
 have c0:=bg x5 0 (by omega)
 rw[Nat.add_zero] at c0
 have hbs:s[a]? =some s[a]:=List.getElem?_eq_getElem ha
 have hc256:=h256 s[a] (List.getElem_mem ha)
 generalize hc:s[a]=c at c0 hbs hc256
 have hd:∀m,bm Try.prog S0 132 [u8 c] m (.bool (fa c)) m:=fun m=>rQ m c
 have hl:∀m,bm Try.prog S0 133 [u8 c] m (.bool (vB c)) m:=fun m=>pq m c
 generalize hT:an L t=T at g1 g2 g3 g4
 change wp _ _ _ _ ⟨an [] T, [],none,_⟩ _
 have na_ne:na m 0≠na M0 0:=or0.ne 0
 have na_ne':na M0 0≠na m 0:=fun e=>or0.ne 0 e.symm
 have chF:∀(M1:NH) {MF:NH} {T1 T2:List D4},Chg T1 M0 M1->Chg T2 M1 MF->(∀i∈T1++T2,i=na m 0∨i=na M0 0)->Chg [] m MF:=by
  intro M1 MF T1 T2 h1 h2 hi
  refine (hC0.weak (T:=T1++T2) (by simp)).trans ((h1.weak (T:=T1++T2) (by intro i hi _;simp[hi])).trans h2 (by intro i hi _;simp[hi])) (fun _ h _=>h) |>.weak ?_
  intro i hi' ho
  rcases hi i hi' with rfl|rfl
  ·exact absurd ho aF
  ·exact absurd (hC0.old ho) aF
 cases hD:fa c with
 |true=>
  rw[hD] at hd
  simp (config:={maxSteps:=1000000}) (disch:=first|assumption|omega|exact ab (by omega)|exact aa (by assumption)|(simp only[ap]<;>omega)) only[go_sem,seval,g1,g2,g3,g4,x1,x2,c0,(hd _).wf']
  generalize hM1:hp _ 1 M0=M1
  have hC1:Chg [] M0 M1:=by rw[←hM1];exact ao rfl
  have p0:=(hC1.get or0 (by simp)).trans r0
  have op0:=hC1.old or0
  have p1:M1.get (na M0 0)=some (.cells true [ii 0,.str [],u64 0,ii a]):=by rw[←hM1];exact av
  have op1:ay M1 (na M0 0):=by rw[←hM1];exact ab (by omega)
  have hb1:=hb0.chg hC1 fun _ _=>by simp
  refine KQ hs hb1 (Nat.le_of_lt ha) p0 p1 op0 op1 (cc:=u8 c) ?_ ?_ ?_ ?_ ?_ ?_ ?_ ?_ ?_ ?_
  ·simp (config:={maxSteps:=1000000}) (disch:=first|assumption|omega|exact ab (by omega)|exact aa (by assumption)|(simp only[ap]<;>omega)) only[go_sem,seval,g1]
  ·simp (config:={maxSteps:=1000000}) (disch:=first|assumption|omega|exact ab (by omega)|exact aa (by assumption)|(simp only[ap]<;>omega)) only[go_sem,seval,g4]
  ·simp (config:={maxSteps:=1000000}) (disch:=first|assumption|omega|exact ab (by omega)|exact aa (by assumption)|(simp only[ap]<;>omega)) only[go_sem,seval,g2]
  ·simp (config:={maxSteps:=1000000}) (disch:=first|assumption|omega|exact ab (by omega)|exact aa (by assumption)|(simp only[ap]<;>omega)) only[go_sem,seval,g3]
  ·simp (config:={maxSteps:=1000000}) (disch:=first|assumption|omega|exact ab (by omega)|exact aa (by assumption)|(simp only[ap]<;>omega)) only[go_sem,seval]
  ·simp (config:={maxSteps:=1000000}) (disch:=first|assumption|omega|exact ab (by omega)|exact aa (by assumption)|(simp only[ap]<;>omega)) only[go_sem,seval]<;>rfl
  ·simp (config:={maxSteps:=1000000}) (disch:=first|assumption|omega|exact ab (by omega)|exact aa (by assumption)|(simp only[ap]<;>omega)) only[go_sem,seval,g2]
  ·simp (config:={maxSteps:=1000000}) (disch:=first|assumption|omega|exact ab (by omega)|exact aa (by assumption)|(simp only[ap]<;>omega)) only[go_sem,seval]
  ·intro hbn L' t' k1 k2 k3
   generalize an L' t'=T' at k1 k2 k3
   rw[show M1.put (na m 0) (.cells true [ii 0,.str [],u64 0,ii a])=hp [(.o (na m 0),.cells true [ii 0,.str [],u64 0,ii a])] 0 M1 from by rw[←qT op0,ag]]
   change xz _ K .ret ⟨an [] T', [],none,_⟩
   have T:f0 s a=none:=uJ hbs hD hbn
   simp (config:={maxSteps:=1000000}) (disch:=first|assumption|omega|exact ab (by omega)|exact aa (by assumption)|(simp only[ap]<;>omega)) only[go_sem,seval,k1,k2,k3]
   refine hK _ _ ⟨⟨_,_,_,_,by rw[T];rfl, ?_⟩,chF M1 hC1 (ao rfl) (by simp[aR])⟩
   intro k t n e he;rw[T] at he;cases he
  ·intro n hrr hv L' t' k1 k2 k3 k4 k5 k6
   generalize an L' t'=T' at k1 k2 k3 k4 k5 k6
   rw[←ag M1]
   change wp _ _ _ _ ⟨an [] T', [],none,_⟩ _
   have hge:a<=aY eh s a:=ju
   have hle:aY eh s a<=s.length:=fO (Nat.le_of_lt ha)
   by_cases h48:c=48
   ·by_cases hgt:a+1<aY eh s a
    ·have T:f0 s a=none:=by rw[kr hbs hD,kJ hbs hD,if_pos ⟨by omega,h48⟩]
     simp (config:={maxSteps:=1000000}) (disch:=first|assumption|omega|exact ab (by omega)|exact aa (by assumption)|(simp only[ap]<;>omega)) only[go_sem,seval,k1,k2,k3,k4,k5,k6,p0,p1]
     refine hK _ _ ⟨⟨_,_,_,_,by rw[T];rfl, ?_⟩,chF M1 hC1 (ao rfl) (by simp[aR])⟩
     intro k t n e he;rw[T] at he;cases he
    ·have T:f0 s a=some (2, [],n,aY fa s a):=by rw[kr hbs hD,kJ hbs hD,if_neg (by omega),hv];simp[hrr]
     simp (config:={maxSteps:=1000000}) (disch:=first|assumption|omega|exact ab (by omega)|exact aa (by assumption)|(simp only[ap]<;>omega)) only[go_sem,seval,k1,k2,k3,k4,k5,k6,p0,p1,na_ne]
     refine hK _ _ ⟨⟨_,_,_,_,by rw[T];rfl, ?_⟩,chF M1 hC1 (ao rfl) (by simp[aR])⟩
     intro k t n e he;rw[T] at he;cases he
     exact ⟨rfl,rfl,rfl,by rw[hrr]⟩
   ·have T:f0 s a=some (2, [],n,aY fa s a):=by rw[kr hbs hD,kJ hbs hD,if_neg (by omega),hv];simp[hrr]
    simp (config:={maxSteps:=1000000}) (disch:=first|assumption|omega|exact ab (by omega)|exact aa (by assumption)|(simp only[ap]<;>omega)) only[go_sem,seval,k1,k2,k3,k4,k5,k6,p0,p1,na_ne]
    refine hK _ _ ⟨⟨_,_,_,_,by rw[T];rfl, ?_⟩,chF M1 hC1 (ao rfl) (by simp[aR])⟩
    intro k t n e he;rw[T] at he;cases he
    exact ⟨rfl,rfl,rfl,by rw[hrr]⟩
 |false=>
  rw[hD] at hd
  cases hL:vB c with
  |true=>
   rw[hL] at hl
   simp (config:={maxSteps:=1000000}) (disch:=first|assumption|omega|exact ab (by omega)|exact aa (by assumption)|(simp only[ap]<;>omega)) only[go_sem,seval,g1,g2,g3,g4,x1,x2,c0,(hd _).wf',(hl _).wf']
   generalize hM1:hp _ 1 M0=M1
   have hC1:Chg [] M0 M1:=by rw[←hM1];exact ao rfl
   have op0:=hC1.old or0
   have p1:M1.get (na M0 0)=some (.cells true [ii 0,.str [],u64 0,ii a]):=by rw[←hM1];exact av
   have op1:ay M1 (na M0 0):=by rw[←hM1];exact ab (by omega)
   have hb1:=hb0.chg hC1 fun _ _=>by simp
   have p0:=(hC1.get or0 (by simp)).trans r0
   have hge:a<=aY eh s a:=ju
   have hle:aY eh s a<=s.length:=fO (Nat.le_of_lt ha)
   refine zp (a:=a) (b:=aY eh s a) hb1 hge (by simpa using hle) ?_ ?_ ?_
   ·intro K;simp (config:={maxSteps:=1000000}) (disch:=first|assumption|omega|exact ab (by omega)|exact aa (by assumption)|(simp only[ap]<;>omega)) only[go_sem,seval]
   ·intro d K hd;simp (config:={maxSteps:=1000000}) (disch:=first|assumption|omega|exact ab (by omega)|exact aa (by assumption)|(simp only[ap]<;>omega)) only[go_sem,seval]
   intro v' hv' _
   rw[DU] at hv'
   have hbt:=hv'.bts (fun c hc=>h256 c (List.mem_of_mem_take (List.mem_of_mem_drop hc)))
   rw[←ag M1]
   have hbt:Gs (hp [] 0 M1) v'= .val (.str (cut s a (aY eh s a))):=by rw[ag];exact hbt
   simp (config:={maxSteps:=1000000}) (disch:=first|assumption|omega|exact ab (by omega)|exact aa (by assumption)|(simp only[ap]<;>omega)) only[go_sem,seval,g1,g2,g3,g4,hbt,p1]
   generalize hM2:hp _ 0 M1=M2
   have hC2:Chg [na M0 0] M1 M2:=by rw[←hM2];exact (ao rfl).weak (by simp[aR])
   have s0:=(hC2.get op0 (by simpa using na_ne)).trans p0
   have s1:M2.get (na M0 0)=some (.cells true [ii 1,.str (cut s a (aY eh s a)),u64 0,ii a]):=by rw[←hM2];simp (config:={maxSteps:=1000000}) (disch:=first|assumption|omega|exact ab (by omega)|exact aa (by assumption)|(simp only[ap]<;>omega)) only[go_sem,seval]
   have os0:=hC2.old op0
   have os1:=hC2.old op1
   obtain ⟨wv,M3,hw,rfl,hC3⟩:=JK M2 (cut s a (aY eh s a))
   have y0:=(hC3.get os0 (by simp)).trans s0
   have y1:=(hC3.get os1 (by simp)).trans s1
   have oy0:=hC3.old os0
   have oy1:=hC3.old os1
   have hC13:Chg [na M0 0] M0 M3:=(hC1.weak (T:= [na M0 0]) (by simp)).trans ((hC2.weak (T:= [na M0 0]) (by simp)).trans (hC3.weak (T:= [na M0 0]) (by simp)) (fun _ h _=>h)) (fun _ h _=>h)
   have TT:f0 s a=(if cut s a (aY eh s a)∈fX then some (4,cut s a (aY eh s a),0,aY eh s a) else if (cut s a (aY eh s a)).length<=16 then some (1,cut s a (aY eh s a),0,aY eh s a) else none):=by
    unfold f0;rw[hbs];simp only[hL];rfl
   by_cases hwd:cut s a (aY eh s a)∈fX
   ·rw[decide_eq_true hwd] at hw
    rw[if_pos hwd] at TT
    simp (config:={maxSteps:=1000000}) (disch:=first|assumption|omega|exact ab (by omega)|exact aa (by assumption)|(simp only[ap]<;>omega)) only[go_sem,seval,hw.wf,g1,g2,g3,g4,y0,y1]
    refine hK _ _ ⟨⟨_,_,_,_,by rw[TT];rfl, ?_⟩,chF M3 hC13 (ao rfl) (by simp[aR])⟩
    intro k t n e he;rw[TT] at he;cases he
    exact ⟨rfl,rfl,rfl,rfl⟩
   ·rw[decide_eq_false hwd] at hw
    rw[if_neg hwd] at TT
    by_cases h16:(cut s a (aY eh s a)).length<=16
    ·rw[if_pos h16] at TT
     simp (config:={maxSteps:=1000000}) (disch:=first|assumption|omega|exact ab (by omega)|exact aa (by assumption)|(simp only[ap]<;>omega)) only[go_sem,seval,hw.wf,g1,g2,g3,g4,y0,y1]
     refine hK _ _ ⟨⟨_,_,_,_,by rw[TT];rfl, ?_⟩,chF M3 hC13 (ao rfl) (by simp[aR])⟩
     intro k t n e he;rw[TT] at he;cases he
     exact ⟨rfl,rfl,rfl,rfl⟩
    ·rw[if_neg h16] at TT
     simp (config:={maxSteps:=1000000}) (disch:=first|assumption|omega|exact ab (by omega)|exact aa (by assumption)|(simp only[ap]<;>omega)) only[go_sem,seval,hw.wf,g1,g2,g3,g4,y0,y1]
     refine hK _ _ ⟨⟨_,_,_,_,by rw[TT];rfl, ?_⟩,chF M3 hC13 (ao rfl) (by simp[aR])⟩
     intro k t n e he;rw[TT] at he;cases he
  |false=>
   rw[hL] at hl
   simp (config:={maxSteps:=1000000}) (disch:=first|assumption|omega|exact ab (by omega)|exact aa (by assumption)|(simp only[ap]<;>omega)) only[go_sem,seval,g1,g2,g3,g4,x1,x2,c0,(hd _).wf',(hl _).wf']
   generalize hM1:hp _ 1 M0=M1
   have hC1:Chg [] M0 M1:=by rw[←hM1];exact ao rfl
   have p0:=(hC1.get or0 (by simp)).trans r0
   have op0:=hC1.old or0
   have p1:M1.get (na M0 0)=some (.cells true [ii 0,.str [],u64 0,ii a]):=by rw[←hM1];exact av
   have op1:ay M1 (na M0 0):=by rw[←hM1];exact ab (by omega)
   have T:f0 s a=if c∈d8 then some (3, [c],0,a+1) else none:=by unfold f0;rw[hbs];simp[hL,hD]
   refine Lo (c:=c) (a:=a) (by omega) p0 p1 op0 op1 na_ne ?_ ?_ ?_ ?_ ?_ ?_ ?_ ?_
   ·simp (config:={maxSteps:=1000000}) (disch:=first|assumption|omega|exact ab (by omega)|exact aa (by assumption)|(simp only[ap]<;>omega)) only[go_sem,seval]<;>rfl
   ·simp (config:={maxSteps:=1000000}) (disch:=first|assumption|omega|exact ab (by omega)|exact aa (by assumption)|(simp only[ap]<;>omega)) only[go_sem,seval]
   ·simp (config:={maxSteps:=1000000}) (disch:=first|assumption|omega|exact ab (by omega)|exact aa (by assumption)|(simp only[ap]<;>omega)) only[go_sem,seval,g2]
   ·simp (config:={maxSteps:=1000000}) (disch:=first|assumption|omega|exact ab (by omega)|exact aa (by assumption)|(simp only[ap]<;>omega)) only[go_sem,seval,g3]
   ·simp (config:={maxSteps:=1000000}) (disch:=first|assumption|omega|exact ab (by omega)|exact aa (by assumption)|(simp only[ap]<;>omega)) only[go_sem,seval]
   ·simp (config:={maxSteps:=1000000}) (disch:=first|assumption|omega|exact ab (by omega)|exact aa (by assumption)|(simp only[ap]<;>omega)) only[go_sem,seval]
   ·intro hm L' t' m' q0 hCm k1 k2 k3
    rw[if_pos hm] at T
    generalize an L' t'=T' at k1 k2 k3
    change xz _ K .ret ⟨an [] T', [],none,m'⟩
    simp (config:={maxSteps:=1000000}) (disch:=first|assumption|omega|exact ab (by omega)|exact aa (by assumption)|(simp only[ap]<;>omega)) only[go_sem,seval,k1,k2,k3,q0]
    refine hK _ _ ⟨⟨_,_,_,_,by rw[T];rfl, ?_⟩,chF M1 hC1 hCm (by simp)⟩
    intro k t n e he;rw[T] at he;cases he
    exact ⟨rfl,rfl,rfl,by omega⟩
   ·intro hm L' t' k1 k2 k3
    rw[if_neg hm] at T
    generalize an L' t'=T' at k1 k2 k3
    rw[←ag M1]
    change wp _ _ _ _ ⟨an [] T', [],none,_⟩ _
    simp (config:={maxSteps:=1000000}) (disch:=first|assumption|omega|exact ab (by omega)|exact aa (by assumption)|(simp only[ap]<;>omega)) only[go_sem,seval,k1,k2,k3,p0,p1]
    refine hK _ _ ⟨⟨_,_,_,_,by rw[T];rfl, ?_⟩,chF M1 hC1 (ao rfl) (by simp[aR])⟩
    intro k t n e he;rw[T] at he;cases he
theorem G8 {m M0:NH} {vb:NV} {s:List Nat} (hs:s.length<=16384) (h256:∀c∈s,c<256) (hb:Sl m vb 1 (oh s)) (hCm:Chg [] m M0) {t:Tm}
 (g1:NT.get D4.e t=some vb) (g2:NT.get D4.e.a.a t=some .nils) (g3:NT.get D4.e.a.b t=some (ii ((bB s 0:Nat):Int))) {Q:Out->Dyn->Prop}
 (hbad:∀a,(dM s).2=some a->∀L t' M,Chg [] m M->NT.get D4.e.b (an L t')=some .nils->NT.get D4.e.c (an L t')=some (ii a)->NT.get D4.e.f (an L t')=some (ii 2)->Q .ret ⟨an L t', [],none,M⟩)
 (hok:∀T,dM s=(T++ [⟨5, [],0,s.length⟩],none)->∀L t' M u,Chg [] m M->bz m M u 4 (T.map Tok.l)->NT.get D4.e (an L t')=some vb->NT.get D4.e.a.a (an L t')=some u->Q (.exit 0) ⟨an L t', [],none,M⟩):
 W Try.prog S0 none rJ.loop ⟨t, [],none,M0⟩ Q:=by
 have hsk0:bB s 0<=s.length:=kG (Nat.zero_le _)
 refine W.loop (fun k d=>∃t M i L u,d=⟨t, [],none,M⟩/\NT.get D4.e t=some vb/\NT.get D4.e.a.a t=some u/\NT.get D4.e.a.b t=some (ii (i:Nat))/\i<=s.length/\s.length<=i+k/\Chg [] m M/\bz m M u 4 (L.map Tok.l)/\dM s=(L++(dH s (k+1) i).1,(dH s (k+1) i).2)) ?_ s.length _
  ⟨_,M0,bB s 0, [],.nils,rfl,g1,g2,g3,hsk0,by omega,hCm,bz.nil,rfl⟩
 rintro k d ⟨t,M,i,L,u,rfl,g1,g2,g3,hi,hik,hC,hu,hT⟩
 apply aA
 unfold rJ
 change wp _ _ _ _ ⟨an [] t, [],none,M⟩ _
 rw[←ag M]
 have hLl:L.length<=s.length+1:=by
  have h:=lN s (s.length+1) (bB s 0)
  have h2:(dM s).1.length=_:=congrArg (fun x=>x.1.length) hT
  rw[List.length_append] at h2
  have h3:(dM s).1.length<=s.length+1:=h
  omega
 have hbM:=hb.chg hC fun _ _=>by simp
 have hlen:=hbM.len
 rw[show (oh s).length=s.length by simp] at hlen
 by_cases hlt:i<s.length
 ·obtain ⟨k,rfl⟩:∃k',k=k'+1:=⟨k - 1,by omega⟩
  have hTs:dH s (k+1+1) i=(match f0 s i with
   |none=>([],some i)
   |some (kd,t,n,e)=>(⟨kd,t,n,i⟩::(dH s (k+1) (bB s e)).1,(dH s (k+1) (bB s e)).2)):=by
   rw[dH,if_pos hlt]
  obtain ⟨v,M2,hr,⟨k0,t0,n0,p,rfl,htk⟩,hC2⟩:=G2 (hp [] 0 M) (by omega) h256 (by rw[ag];exact hbM) hlt
  have hC2:Chg [] M M2:=by rw[ag] at hC2;exact hC2
  cases hk:f0 s i with
  |none=>
   rw[hk] at hr
   have hr:bm Try.prog S0 83 [vb,ii i] (hp [] 0 M) (.tup [.agg [ii k0,.str t0,.int .u64 (.lit n0),ii i],ii p,ii 2]) M2:=hr
   rw[hTs,hk] at hT
   simp (config:={maxSteps:=1000000}) (disch:=first|assumption|omega|exact ab (by omega)|exact aa (by assumption)|(simp only[ap]<;>omega)) only[go_sem,seval,g1,g2,g3,hlen,hr.wf]
   refine hbad i (by rw[hT]) _ _ _ ((hC.trans hC2 (by simp)).trans (ao rfl) (by simp[aR])) ?_ ?_ ?_
   ·simp (config:={maxSteps:=1000000}) (disch:=first|assumption|omega|exact ab (by omega)|exact aa (by assumption)|(simp only[ap]<;>omega)) only[go_sem,seval]
   ·simp (config:={maxSteps:=1000000}) (disch:=first|assumption|omega|exact ab (by omega)|exact aa (by assumption)|(simp only[ap]<;>omega)) only[go_sem,seval]
   ·simp (config:={maxSteps:=1000000}) (disch:=first|assumption|omega|exact ab (by omega)|exact aa (by assumption)|(simp only[ap]<;>omega)) only[go_sem,seval]
  |some x=>
   obtain ⟨kd,tx,n,e⟩:=x
   rw[hk] at hr
   obtain ⟨e0,e1,e2,e3⟩:=htk kd tx n e hk
   rw[e0,e1,e2,e3] at hr
   have hr:bm Try.prog S0 83 [vb,ii i] (hp [] 0 M) (.tup [.agg [ii kd,.str tx,.int .u64 (.lit (n:Int)),ii i],ii e,ii 0]) M2:=hr
   obtain ⟨l1,l2⟩:=EJ hk
   simp (config:={maxSteps:=1000000}) (disch:=first|assumption|omega|exact ab (by omega)|exact aa (by assumption)|(simp only[ap]<;>omega)) only[go_sem,seval,g1,g2,g3,hlen,hr.wf]
   generalize hM3:hp _ 2 M2=M3
   have hC3:Chg [] M2 M3:=by rw[←hM3];exact ao rfl
   have n1:M3.get (na M2 1)=some (.cells true (Tok.l ⟨kd,tx,n,i⟩)):=by rw[←hM3];exact av
   have on1:ay M3 (na M2 1):=by rw[←hM3];exact ab (by omega)
   have hCC:Chg [] m M3:=hC.trans (hC2.trans hC3 (by simp)) (by simp)
   refine tM (hu.chg (hC2.trans hC3 fun _ h _=>h) fun _ _=>by simp) n1 on1 rfl (fun i hi=>hCC.old hi) (by simp;omega) (by simp;omega) ?_
   intro u' M5 hu' hC5
   have hC6:Chg [] m M5:=(hCC.weak (T:=ids u) (by simp)).trans hC5 (fun _ h _=>h) |>.weak (by intro j hj ho;exact absurd ho (hu.new j hj))
   have hsk:bm Try.prog S0 82 [vb,ii e] (hp [] 0 M5) (ii ((bB s e:Nat):Int)) (hp [] 0 M5):=E9 _ (by omega) (by rw[ag];exact hb.chg hC6 fun _ _=>by simp) l2
   simp (config:={maxSteps:=1000000}) (disch:=first|assumption|omega|exact ab (by omega)|exact aa (by assumption)|(simp only[ap]<;>omega)) only[go_sem,seval,g1,g2,g3,hsk.wf']
   have hge:e<=bB s e:=vg
   refine ⟨k,by omega,_,M5,bB s e,L++ [⟨kd,tx,n,i⟩],u',by rw[ag], ?_, ?_, ?_,kG l2,by omega,hC6, ?_, ?_⟩
   ·simp (config:={maxSteps:=1000000}) (disch:=first|assumption|omega|exact ab (by omega)|exact aa (by assumption)|(simp only[ap]<;>omega)) only[go_sem,seval,g1]
   ·simp (config:={maxSteps:=1000000}) (disch:=first|assumption|omega|exact ab (by omega)|exact aa (by assumption)|(simp only[ap]<;>omega)) only[go_sem,seval]
   ·simp (config:={maxSteps:=1000000}) (disch:=first|assumption|omega|exact ab (by omega)|exact aa (by assumption)|(simp only[ap]<;>omega)) only[go_sem,seval]
   ·rw[List.map_append];exact hu'
   ·rw[hT,hTs,hk];simp
 ·have hTs:dH s (k+1) i=([⟨5, [],0,s.length⟩],none):=by rw[dH,if_neg hlt]
  rw[hTs] at hT
  simp (config:={maxSteps:=1000000}) (disch:=first|assumption|omega|exact ab (by omega)|exact aa (by assumption)|(simp only[ap]<;>omega)) only[go_sem,seval,g1,g2,g3,hlen]
  rw[ag]
  refine hok L hT _ _ _ u hC hu ?_ ?_
  ·simp (config:={maxSteps:=1000000}) (disch:=first|assumption|omega|exact ab (by omega)|exact aa (by assumption)|(simp only[ap]<;>omega)) only[go_sem,seval,g1]
  ·simp (config:={maxSteps:=1000000}) (disch:=first|assumption|omega|exact ab (by omega)|exact aa (by assumption)|(simp only[ap]<;>omega)) only[go_sem,seval,g2]
theorem B3 (m:NH) {v:NV} {b:List Nat} (hv:Sl m v 1 (oh b)) (hb:∀c∈b,c<256):
 ∃r m',bm Try.prog S0 45 [v] m r m'/\(if 16384<b.length then r= .tup [.nils,ii 0,ii 3] else (match (dM b).2 with|some a=>r= .tup [.nils,ii a,ii 2]|none=>∃u,r= .tup [u,ii b.length,ii 0]/\bz m m' u 4 ((dM b).1.map Tok.l)))/\Chg [] m m':=by
 refine WF.ex fun K hK=> ?_
 refine WF.of_wpG (fun _=>rfl) zd (L:= [(.e,v)]) rfl ?_
 unfold IA
 have hlen:=hv.len
 rw[show (oh b).length=b.length by simp] at hlen
 by_cases h1:16384<b.length
 ·simp (config:={maxSteps:=1000000}) (disch:=first|assumption|omega|exact ab (by omega)|exact aa (by assumption)|(simp only[ap]<;>omega)) only[go_sem,seval,hlen,ag]
  refine hK _ _ ⟨by rw[if_pos h1],Chg.refl m⟩
 ·have hs0:bm Try.prog S0 82 [v,ii 0] m (ii ((bB b 0:Nat):Int)) m:=E9 m (by omega) hv (a:=0) (Nat.zero_le _)
  simp (config:={maxSteps:=1000000}) (disch:=first|assumption|omega|exact ab (by omega)|exact aa (by assumption)|(simp only[ap]<;>omega)) only[go_sem,seval,hlen,ag,hs0.wf']
  refine G8 (m:=m) (s:=b) (vb:=v) (by omega) hb hv (Chg.refl m) ?_ ?_ ?_ ?_ ?_
  ·simp (config:={maxSteps:=1000000}) (disch:=first|assumption|omega|exact ab (by omega)|exact aa (by assumption)|(simp only[ap]<;>omega)) only[go_sem,seval]
  ·simp (config:={maxSteps:=1000000}) (disch:=first|assumption|omega|exact ab (by omega)|exact aa (by assumption)|(simp only[ap]<;>omega)) only[go_sem,seval]
  ·simp (config:={maxSteps:=1000000}) (disch:=first|assumption|omega|exact ab (by omega)|exact aa (by assumption)|(simp only[ap]<;>omega)) only[go_sem,seval]
  ·intro a he L t M hC g1 g2 g3
   generalize an L t=T at g1 g2 g3
   change xz _ K .ret ⟨an [] T, [],none,M⟩
   simp (config:={maxSteps:=1000000}) (disch:=first|assumption|omega|exact ab (by omega)|exact aa (by assumption)|(simp only[ap]<;>omega)) only[go_sem,seval,g1,g2,g3]
   refine hK _ _ ⟨by rw[if_neg h1,he],hC⟩
  ·intro Tl hT L t M u hC hu g1 g2
   generalize an L t=T at g1 g2
   change wp _ _ _ _ ⟨an [] T, [],none,M⟩ _
   rw[←ag M]
   have hlen:=(hv.chg hC fun _ _=>by simp).len
   rw[show (oh b).length=b.length by simp] at hlen
   have hTl:Tl.length<=b.length+1:=by
    have h:=lN b (b.length+1) (bB b 0)
    have h2:(dM b).1.length=_:=congrArg (fun x=>x.1.length) hT
    rw[List.length_append] at h2
    have h3:(dM b).1.length<=b.length+1:=h
    omega
   simp (config:={maxSteps:=1000000}) (disch:=first|assumption|omega|exact ab (by omega)|exact aa (by assumption)|(simp only[ap]<;>omega)) only[go_sem,seval,g1,g2,hlen]
   generalize hM3:hp _ 1 M=M3
   have hC3:Chg [] M M3:=by rw[←hM3];exact ao rfl
   have n1:M3.get (na M 0)=some (.cells true (Tok.l ⟨5, [],0,b.length⟩)):=by rw[←hM3];exact av
   have on1:ay M3 (na M 0):=by rw[←hM3];exact ab (by omega)
   have hCC:Chg [] m M3:=hC.trans hC3 (by simp)
   refine tM (hu.chg hC3 fun _ _=>by simp) n1 on1 rfl (fun i hi=>hCC.old hi) (by simp;omega) (by simp;omega) ?_
   intro u' M5 hu' hC5
   have hC6:Chg [] m M5:=(hCC.weak (T:=ids u) (by simp)).trans hC5 (fun _ h _=>h) |>.weak (by intro j hj ho;exact absurd ho (hu.new j hj))
   have hlen5:=(hv.chg hC6 fun _ _=>by simp).len
   rw[show (oh b).length=b.length by simp] at hlen5
   simp (config:={maxSteps:=1000000}) (disch:=first|assumption|omega|exact ab (by omega)|exact aa (by assumption)|(simp only[ap]<;>omega)) only[go_sem,seval,g1,g2,hlen5]
   rw[ag]
   refine hK _ _ ⟨?_,hC6⟩
   rw[if_neg h1,hT]
   exact ⟨u',rfl,by rw[List.map_append];exact hu'⟩
end FR
open Go Nm Go.Proofs
namespace FR
set_option linter.unusedSimpArgs false
set_option linter.unusedVariables false
structure Rs where
 (a e b:Nat)
def aT (L:List Tok) (a:Nat):Tok:=(L[a]?).getD ⟨0, [],0,0⟩
def bp (e:Nat) (s:Rs):Rs:=if s.e=0 then ⟨s.a,e,s.a⟩ else s
def aq (s:Rs):Rs:=⟨s.a+1,s.e,s.b⟩
def qF:List Nat->Nat
 |c::_=>if vB c then 4 else 3
 | []=>3
def a8 (L:List Tok) (w:List Nat) (s:Rs):Bool:=decide (s.e=0/\(aT L s.a).k=qF w/\(aT L s.a).t=w)
def a9 (L:List Tok) (w:List Nat) (s:Rs):Rs:=if a8 L w s then aq s else bp 2 s
def bf (L:List Tok) (s:Rs):List Nat×Rs:=if s.e≠0∨(aT L s.a).k≠1 then ([],bp 2 s) else ((aT L s.a).t,aq s)
structure RD (m:NH) (r:D4) (vl:NV) (s:Rs) (rest:List NV):Prop where
 g:m.get r=some (.cells true (vl::ii s.a::ii s.e::ii s.b::rest))
 o:ay m r
structure RC (m0:NH) (L:List Tok) (vl:NV) (r:D4):Prop where
 sl:Sl m0 vl 4 (L.map Tok.l)
 len:L.length<=20000
 no:¬ay m0 r
theorem RD.chg {m m':NH} {r:D4} {vl:NV} {s:Rs} {rest:List NV} {S:List D4} (h:RD m r vl s rest) (hC:Chg S m m') (hr:r∉S):RD m' r vl s rest:=⟨(hC.get h.o hr).trans h.g,hC.old h.o⟩
theorem RC.chg {m0 m m':NH} {L:List Tok} {vl:NV} {r:D4} (h:RC m0 L vl r) (h0:Chg [] m0 m) (hC:Chg [r] m m'):Chg [] m0 m':=h0.trans hC fun i hi ho=>by
 simp only[List.mem_cons,List.not_mem_nil,or_false] at hi;subst hi;exact absurd ho h.no
theorem bG {L:List Tok} {w:List Nat} {s:Rs} (h:a8 L w s=true):s.e=0/\s.a<L.length:=by
 obtain ⟨h1,h2,h3⟩:=of_decide_eq_true h
 refine ⟨h1, ?_⟩
 rcases Nat.lt_or_ge s.a L.length with q|q
 ·exact q
 ·rw[aT,List.getElem?_eq_none q] at h2
  have:qF w≠0:=by unfold qF;split;split<;>omega;omega
  exact absurd h2.symm this
theorem pA {T:Tok}:T.l[0]? =some (ii T.k):=_root_.id rfl
theorem vC {T:Tok}:T.l[1]? =some (.str T.t):=_root_.id rfl
theorem MQ {T:Tok}:T.l[2]? =some (u64 T.n):=_root_.id rfl
section
variable {m0 m:NH} {L:List Tok} {vl:NV} {r:D4} {s:Rs} {rest:List NV}
theorem gZ (hd:RD m r vl s rest) (e:Nat):∃m',bm Try.prog S0 86 [.ptr r 0,ii e] m (.tup []) m'/\RD m' r vl (bp e s) rest/\Chg [r] m m':=by
 refine WF.ex1 fun K hK=> ?_
 refine WF.of_wpG (fun _=>rfl) x6 (L:= [(.a .e,ii e),(.e,.ptr r 0)]) rfl ?_
 unfold Im
 obtain ⟨g,o⟩:=hd
 by_cases h:s.e=0
 ·rw[h] at g
  simp (config:={maxSteps:=1000000}) (disch:=first|assumption|omega|exact ab (by omega)|exact aa (by assumption)|(simp only[ap]<;>omega)) only[go_sem,seval,g]
  refine hK _ ⟨⟨?_,aa o⟩,(ao rfl).weak (by intro i hi _;simpa [aR] using hi)⟩
  rw[bp,if_pos h]
  exact (aO o).trans az
 ·have hd:decide ((s.e:Int)=0)=false:=decide_eq_false (by omega)
  simp (config:={maxSteps:=1000000}) (disch:=first|assumption|omega|exact ab (by omega)|exact aa (by assumption)|(simp only[ap]<;>omega)) only[go_sem,seval,g,hd,ag]
  refine hK _ ⟨⟨?_,o⟩,(Chg.refl m).weak (by simp)⟩
  rw[bp,if_neg h];exact g
theorem iW (hc:RC m0 L vl r) (h0:Chg [] m0 m) (hd:RD m r vl s rest):∃m',bm Try.prog S0 46 [.ptr r 0] m (.agg (aT L s.a).l) m'/\Chg [] m m':=by
 refine WF.ex1 fun K hK=> ?_
 refine WF.of_wpG (fun _=>rfl) Ag (L:= [(.e,.ptr r 0)]) rfl ?_
 unfold J9
 obtain ⟨g,o⟩:=hd
 have hs:=hc.sl.chg h0 fun _ _=>by simp
 have hlen:=hs.len
 have hll:=hc.len
 rw[List.length_map] at hlen
 have hvs:br 4 vl vl=true:=hs.same
 by_cases h:s.a<L.length
 ·obtain ⟨id,off,w,c,a1,a2,a3,a4,a5⟩:=hs.at s.a (by simpa using h)
  rw[List.getElem_map] at a5
  have hl:(Tok.l L[s.a]).length=4:=rfl
  have hl':(Tok.l L[s.a]).take 4=Tok.l L[s.a]:=rfl
  simp (config:={maxSteps:=1000000}) (disch:=first|assumption|omega|exact ab (by omega)|exact aa (by assumption)|(simp only[ap]<;>omega)) only[go_sem,seval,g,hlen,a1,a2,a5,hl,hl',hvs]
  have e:aT L s.a=L[s.a]:=by rw[aT,List.getElem?_eq_getElem h];rfl
  rw[e] at hK
  exact hK _ (ao rfl)
 ·have e:aT L s.a=⟨0, [],0,0⟩:=by rw[aT,List.getElem?_eq_none (by omega)];rfl
  rw[e] at hK
  simp (config:={maxSteps:=1000000}) (disch:=first|assumption|omega|exact ab (by omega)|exact aa (by assumption)|(simp only[ap]<;>omega)) only[go_sem,seval,g,hlen,hvs]
  exact hK _ (ao rfl)
theorem dj (hc:RC m0 L vl r) (h0:Chg [] m0 m) (hd:RD m r vl s rest) (w:List Nat) (hw:w≠ []) (ha:s.a<=100000):∃m',bm Try.prog S0 84 [.ptr r 0,.str w] m (.bool (a8 L w s)) m'/\RD m' r vl (if a8 L w s then aq s else s) rest/\Chg [r] m m':=by
 refine WF.ex1 fun K hK=> ?_
 refine WF.of_wpG (fun _=>rfl) yd (L:= [(.a .e,.str w),(.e,.ptr r 0)]) rfl ?_
 unfold Kj
 simp (config:={maxSteps:=1000000}) (disch:=first|assumption|omega|exact ab (by omega)|exact aa (by assumption)|(simp only[ap]<;>omega)) only[go_sem,seval,ag]
 refine WF.use1H (iW hc h0 hd) ?_
 intro m1 hC1
 have hd1:=hd.chg hC1 (by simp)
 generalize hT:aT L s.a=T
 obtain ⟨c,w',rfl⟩:=List.exists_cons_of_ne_nil hw
 have hw0:(c::w')[0]? =some c:=rfl
 obtain ⟨g,o⟩:=hd1
 have hkw:qF (c::w')=if vB c then 4 else 3:=rfl
 have hl:(Tok.l T).length=4:=rfl
 have hlr:=pq
 have yes:∀M,a8 L (c::w') s=true->Chg [r] m M->M.get r=some (.cells true (vl::ii (s.a+1:Nat)::ii s.e::ii s.b::rest))->ay M r->K (.bool true) M:=fun M h1 h2 h3 h4=>by
  rw[h1,if_pos rfl] at hK
  exact hK M ⟨⟨h3,h4⟩,h2⟩
 have no:∀M,a8 L (c::w') s=false->Chg [] m M->K (.bool false) M:=fun M h1 h2=>by
  rw[h1,if_neg (by simp)] at hK
  exact hK M ⟨hd.chg h2 (by simp),h2.weak (by simp)⟩
 have tb:∀k,qF (c::w')=k->a8 L (c::w') s=decide (s.e=0/\T.k=k/\T.t=c::w'):=fun k hk=>by rw[a8,hT,hk]
 have hC2:∀l,aR l= []->Chg [] m (hp l 1 m1):=fun l e=>hC1.trans (ao e) (by simp)
 cases hlt:vB c with
 |true=>
  have tb:=tb 4 (by rw[hkw,hlt];rfl)
  by_cases he:s.e=0
  ·by_cases hk:T.k=4
   ·by_cases ht:T.t=c::w'
    ·simp (config:={maxSteps:=1000000}) (disch:=first|assumption|omega|exact ab (by omega)|exact aa (by assumption)|(simp only[ap]<;>omega)) only[go_sem,seval,hw0,hl,pA,vC,(hlr _ _).wf',hlt,g]
     refine yes _ (by rw[tb];simp[he,hk,ht]) ?_ ((aO o).trans az) (aa o)
     exact (hC1.weak (by simp)).trans (ao rfl) (by simp[aR])
    ·simp (config:={maxSteps:=1000000}) (disch:=first|assumption|omega|exact ab (by omega)|exact aa (by assumption)|(simp only[ap]<;>omega)) only[go_sem,seval,hw0,hl,pA,vC,(hlr _ _).wf',hlt,g]
     refine no _ (by rw[tb];simp[ht]) ?_;exact hC2 _ rfl
   ·simp (config:={maxSteps:=1000000}) (disch:=first|assumption|omega|exact ab (by omega)|exact aa (by assumption)|(simp only[ap]<;>omega)) only[go_sem,seval,hw0,hl,pA,vC,(hlr _ _).wf',hlt,g]
    refine no _ (by rw[tb];simp[hk]) ?_;exact hC2 _ rfl
  ·simp (config:={maxSteps:=1000000}) (disch:=first|assumption|omega|exact ab (by omega)|exact aa (by assumption)|(simp only[ap]<;>omega)) only[go_sem,seval,hw0,hl,pA,vC,(hlr _ _).wf',hlt,g]
   refine no _ (by rw[tb];simp[he]) ?_;exact hC2 _ rfl
 |false=>
  have tb:=tb 3 (by rw[hkw,hlt];rfl)
  by_cases he:s.e=0
  ·by_cases hk:T.k=3
   ·by_cases ht:T.t=c::w'
    ·simp (config:={maxSteps:=1000000}) (disch:=first|assumption|omega|exact ab (by omega)|exact aa (by assumption)|(simp only[ap]<;>omega)) only[go_sem,seval,hw0,hl,pA,vC,(hlr _ _).wf',hlt,g]
     refine yes _ (by rw[tb];simp[he,hk,ht]) ?_ ((aO o).trans az) (aa o)
     exact (hC1.weak (by simp)).trans (ao rfl) (by simp[aR])
    ·simp (config:={maxSteps:=1000000}) (disch:=first|assumption|omega|exact ab (by omega)|exact aa (by assumption)|(simp only[ap]<;>omega)) only[go_sem,seval,hw0,hl,pA,vC,(hlr _ _).wf',hlt,g]
     refine no _ (by rw[tb];simp[ht]) ?_;exact hC2 _ rfl
   ·simp (config:={maxSteps:=1000000}) (disch:=first|assumption|omega|exact ab (by omega)|exact aa (by assumption)|(simp only[ap]<;>omega)) only[go_sem,seval,hw0,hl,pA,vC,(hlr _ _).wf',hlt,g]
    refine no _ (by rw[tb];simp[hk]) ?_;exact hC2 _ rfl
  ·simp (config:={maxSteps:=1000000}) (disch:=first|assumption|omega|exact ab (by omega)|exact aa (by assumption)|(simp only[ap]<;>omega)) only[go_sem,seval,hw0,hl,pA,vC,(hlr _ _).wf',hlt,g]
   refine no _ (by rw[tb];simp[he]) ?_;exact hC2 _ rfl
theorem fY (hc:RC m0 L vl r) (h0:Chg [] m0 m) (hd:RD m r vl s rest) (w:List Nat) (hw:w≠ []) (ha:s.a<=100000):∃m',bm Try.prog S0 87 [.ptr r 0,.str w] m (.tup []) m'/\RD m' r vl (a9 L w s) rest/\Chg [r] m m':=by
 refine WF.ex1 fun K hK=> ?_
 refine WF.of_wpG (fun _=>rfl) z0 (L:= [(.a .e,.str w),(.e,.ptr r 0)]) rfl ?_
 unfold IN
 simp (disch:=first|assumption|omega) only[go_sem,seval,ag]
 refine WF.use1 (dj hc h0 hd w hw ha) ?_
 rintro m1 ⟨hd1,hC1⟩
 unfold a9 at hK
 cases hb:a8 L w s with
 |true=>
  rw[hb] at hd1 hK
  simp (disch:=first|assumption|omega) only[go_sem,seval]
  exact hK _ ⟨hd1,hC1⟩
 |false=>
  rw[hb] at hd1 hK
  simp (disch:=first|assumption|omega) only[go_sem,seval]
  refine WF.use1 (gZ (s:=s) hd1 2) ?_
  rintro m2 ⟨hd2,hC2⟩
  simp (disch:=first|assumption|omega) only[go_sem,seval]
  exact hK _ ⟨hd2,hC1.trans hC2 fun _ h _=>h⟩
theorem lA (hc:RC m0 L vl r) (h0:Chg [] m0 m) (hd:RD m r vl s rest) (ha:s.a<=100000):∃m',bm Try.prog S0 85 [.ptr r 0] m (.str (bf L s).1) m'/\RD m' r vl (bf L s).2 rest/\Chg [r] m m':=by
 refine WF.ex1 fun K hK=> ?_
 refine WF.of_wpG (fun _=>rfl) zi (L:= [(.e,.ptr r 0)]) rfl ?_
 unfold Jn
 simp (config:={maxSteps:=1000000}) (disch:=first|assumption|omega|exact ab (by omega)|exact aa (by assumption)|(simp only[ap]<;>omega)) only[go_sem,seval,ag]
 refine WF.use1H (iW hc h0 hd) ?_
 intro m1 hC1
 have hd1:=hd.chg hC1 (by simp)
 have hl:(Tok.l (aT L s.a)).length=4:=rfl
 unfold bf at hK
 generalize aT L s.a=T at hK hl
 obtain ⟨g,o⟩:=hd1
 have bad:(s.e≠0∨T.k≠1)->∀M,Chg [] m M->∃m',bm Try.prog S0 86 [.ptr r 0,ii 2] M (.tup []) m'/\K (.str []) m':=fun h M hC=>by
  rw[if_pos h] at hK
  obtain ⟨m2,h1,hd2,hC2⟩:=gZ (hd.chg hC (by simp)) 2
  exact ⟨m2,h1,hK _ ⟨hd2,(hC.weak (by simp)).trans hC2 fun _ h _=>h⟩⟩
 by_cases he:s.e=0
 ·by_cases hk:T.k=1
  ·rw[if_neg (by omega)] at hK
   simp (config:={maxSteps:=1000000}) (disch:=first|assumption|omega|exact ab (by omega)|exact aa (by assumption)|(simp only[ap]<;>omega)) only[go_sem,seval,hl,pA,vC,g]
   refine hK _ ⟨⟨(aO o).trans az,aa o⟩,(hC1.weak (by simp)).trans (ao rfl) (by simp[aR])⟩
  ·simp (config:={maxSteps:=1000000}) (disch:=first|assumption|omega|exact ab (by omega)|exact aa (by assumption)|(simp only[ap]<;>omega)) only[go_sem,seval,hl,pA,vC,g]
   refine WF.use1 (bad (Or.inr hk) _ (fk hC1 rfl)) ?_
   intro M h
   simp (config:={maxSteps:=1000000}) (disch:=first|assumption|omega|exact ab (by omega)|exact aa (by assumption)|(simp only[ap]<;>omega)) only[go_sem,seval]
   exact h
 ·simp (config:={maxSteps:=1000000}) (disch:=first|assumption|omega|exact ab (by omega)|exact aa (by assumption)|(simp only[ap]<;>omega)) only[go_sem,seval,hl,pA,vC,g]
  refine WF.use1 (bad (Or.inl he) _ (fk hC1 rfl)) ?_
  intro M h
  simp (config:={maxSteps:=1000000}) (disch:=first|assumption|omega|exact ab (by omega)|exact aa (by assumption)|(simp only[ap]<;>omega)) only[go_sem,seval]
  exact h
end
end FR
open Go Nm Go.Proofs
namespace FR
set_option linter.unusedSimpArgs false
set_option linter.unusedVariables false
abbrev GX (n:Nat):Ex:= .mk 0 n 0 [] []
abbrev yA (s:List Nat):Ex:= .mk 1 0 0 s []
abbrev zY (o:Nat) (x y:Ex):Ex:= .mk 2 0 o [] [x,y]
mutual
def Ex.depth:Ex->Nat
 | .mk _ _ _ _ ks=>cY ks+1
def cY:List Ex->Nat
 | []=>0
 |x::xs=>max x.depth (cY xs)
end
theorem pE (a b:List Ex):cY (a++b)=max (cY a) (cY b):=by
 induction a with
 |nil=>simp[cY]
 |cons x a ih=>rw[List.cons_append,cY,cY,ih];omega
section
variable (L:List Tok)
def cU (E:Rs->Ex×Rs) (d:Nat) (s:Rs):Ex×Rs:=
 if s.e≠0 then (zE,s) else if 29<d then (zE,bp 11 s) else if (aT L s.a).k=2 then (GX (aT L s.a).n,aq s) else if (aT L s.a).k=1 then (yA (aT L s.a).t,aq s)
 else if a8 L [40] s=true then ((E (aq s)).1,a9 L [41] (E (aq s)).2) else (zE,bp 2 s)
def hH (T:Tok):Nat:=if T.k=3/\T.t.length=1 then T.t.headD 0 else 0
def xL (o:Nat):Bool:=decide (o=43∨o=45∨o=42∨o=38∨o=61∨o=60)
def fI (P:Rs->Ex×Rs):Nat->Ex->Rs->Ex×Rs
 |0,x,s=>(x,s)
 |f+1,x,s=>if s.e≠0 then (x,s) else if xL (hH (aT L s.a))=false then (x,s) else
  if (P (aq s)).2.e≠0 then (x,(P (aq s)).2) else
   fI P f (zY (hH (aT L s.a)) x (P (aq s)).1) (if 30<(zY (hH (aT L s.a)) x (P (aq s)).1).depth then bp 11 (P (aq s)).2 else (P (aq s)).2)
def ig (E:Rs->Ex×Rs) (d:Nat) (s:Rs):Ex×Rs:=fI L (cU L E d) (L.length+1) (cU L E d s).1 (cU L E d s).2
def jF:Nat->Rs->Ex×Rs
 |0,s=>ig L (fun s=>(zE,s)) 30 s
 |n+1,s=>ig L (jF n) (29 - n) s
end
structure St (L:List Tok) (s s':Rs):Prop where
 le:s.a<=s'.a
 lim:s.a<=L.length->s'.a<=L.length
 err:s.e≠0->s'=s
 lim2:∀{N:Nat},(∀a,1<=(aT L a).k->(aT L a).k<=4->a<N)->s.a<=N->s.b<=N->s'.a<=N/\s'.b<=N
theorem St.refl (L:List Tok) (s:Rs):St L s s:=⟨Nat.le_refl _,fun h=>h,fun _=>rfl,fun _ h1 h2=>⟨h1,h2⟩⟩
theorem St.trans {L:List Tok} {a b c:Rs} (h:St L a b) (h':St L b c):St L a c:=⟨Nat.le_trans h.le h'.le,fun q=>h'.lim (h.lim q),fun q=>by have:=h.err q;subst this;exact h'.err q,fun hN h1 h2=>let ⟨q1,q2⟩:=h.lim2 hN h1 h2;h'.lim2 hN q1 q2⟩
theorem St.zero {L:List Tok} {s s':Rs} (h:St L s s') (e:s'.e=0):s.e=0:=by
 rcases Nat.eq_zero_or_pos s.e with q|q
 ·exact q
 ·have:=h.err (by omega);subst this;exact e
theorem b7 (L:List Tok) (e:Nat) (s:Rs):St L s (bp e s):=by
 unfold bp
 split
 ·exact ⟨Nat.le_refl _,fun h=>h,fun h=>absurd ‹_› h,fun _ h1 _=>⟨h1,h1⟩⟩
 ·exact St.refl L s
theorem gT {L:List Tok} {s:Rs} (h:s.a<L.length) (he:s.e=0) (hk:1<=(aT L s.a).k/\(aT L s.a).k<=4):St L s (aq s):=⟨Nat.le_succ _,fun _=>h,fun q=>absurd he q,fun hN _ h2=>⟨hN _ hk.1 hk.2,h2⟩⟩
theorem ef {L:List Tok} {w:List Nat} {s:Rs} (h:a8 L w s=true):St L s (aq s):=by
 obtain ⟨h1,h2,h3⟩:=of_decide_eq_true h
 refine gT (bG h).2 h1 ?_
 rw[h2]
 unfold qF
 split
 ·split<;>omega
 ·omega
theorem lG {L:List Tok} {a:Nat} (h:(aT L a).k≠0):a<L.length:=by
 rcases Nat.lt_or_ge a L.length with q|q
 ·exact q
 ·rw[aT,List.getElem?_eq_none q] at h;exact absurd rfl h
theorem bR (L:List Tok) (w:List Nat) (s:Rs):St L s (a9 L w s):=by
 unfold a9
 split
 ·rename_i h;exact ef h
 ·exact b7 _ _ _
theorem cv (L:List Tok) (s:Rs):St L s (bf L s).2:=by
 unfold bf
 split
 ·exact b7 _ _ _
 ·rename_i h
  exact gT (lG (by omega)) (by omega) (by omega)
theorem gI {L:List Tok} {E:Rs->Ex×Rs} {d:Nat} (hE:∀s,St L s (E s).2) (s:Rs):St L s (cU L E d s).2:=by
 unfold cU
 split
 ·exact St.refl _ _
 ·split
  ·exact b7 _ _ _
  ·split
   ·exact gT (lG (by omega)) (by omega) (by omega)
   ·split
    ·exact gT (lG (by omega)) (by omega) (by omega)
    ·split
     ·rename_i h;exact ((ef h).trans (hE _)).trans (bR _ _ _)
     ·exact b7 _ _ _
theorem sA {L:List Tok} {a:Nat} (h:xL (hH (aT L a))=true):a<L.length:=by
 refine lG fun q=> ?_
 unfold hH at h
 rw[if_neg (by omega)] at h
 exact absurd h (by decide)
theorem J3 {L:List Tok} {a:Nat} (h:xL (hH (aT L a))=true):1<=(aT L a).k/\(aT L a).k<=4:=by
 unfold hH at h
 by_cases q:(aT L a).k=3/\(aT L a).t.length=1
 ·omega
 ·rw[if_neg q] at h;exact absurd h (by decide)
theorem kY {L:List Tok} {P:Rs->Ex×Rs} (hP:∀s,St L s (P s).2):∀(f:Nat) (x:Ex) (s:Rs),St L s (fI L P f x s).2:=by
 intro f
 induction f with
 |zero=>intro x s;exact St.refl _ _
 |succ f ih=>
  intro x s
  rw[fI]
  split
  ·exact St.refl _ _
  ·split
   ·exact St.refl _ _
   ·rename_i h1 h2
    have h3:=(gT (sA (by simpa using h2)) (by omega:s.e=0) (J3 (by simpa using h2))).trans (hP (aq s))
    split
    ·exact h3
    ·refine (h3.trans ?_).trans (ih _ _)
     split
     ·exact b7 _ _ _
     ·exact St.refl _ _
theorem sH {L:List Tok} {E:Rs->Ex×Rs} {d:Nat} (hE:∀s,St L s (E s).2) (s:Rs):St L s (ig L E d s).2:=(gI hE s).trans (kY (gI hE) _ _ _)
theorem cm (L:List Tok):∀(n:Nat) (s:Rs),St L s (jF L n s).2:=by
 intro n
 induction n with
 |zero=>exact fun s=>sH (fun s=>St.refl _ s) s
 |succ n ih=>exact fun s=>sH ih s
def Fj (E:Rs->Ex×Rs):Prop:=∀s,(E s).2.e=0->(E s).1.sz+s.a<=(E s).2.a
theorem rh {L:List Tok} {E:Rs->Ex×Rs} {d:Nat} (hS:∀s,St L s (E s).2) (hE:Fj E):Fj (cU L E d):=by
 intro s
 unfold cU
 have hf:∀e,e≠0->(bp e s).e≠0:=fun e he=>by unfold bp;split;exact he;assumption
 split
 ·intro h;exact absurd h ‹_›
 ·split
  ·intro h;exact absurd h (hf 11 (by omega))
  ·split
   ·intro _;simp[Ex.sz,jd,aq];omega
   ·split
    ·intro _;simp[Ex.sz,jd,aq];omega
    ·split
     ·intro h
      have h1:=bR L [41] (E (aq s)).2
      have h2:=hE (aq s) (h1.zero h)
      have h3:=h1.le
      have h4:(aq s).a=s.a+1:=rfl
      dsimp only at h ⊢
      omega
     ·intro h;exact absurd h (hf 2 (by omega))
theorem FF {L:List Tok} {P:Rs->Ex×Rs} (hS:∀s,St L s (P s).2) (hP:Fj P):∀(f:Nat) (x:Ex) (s:Rs) (a0:Nat),(s.e=0->x.sz+a0<=s.a)->(fI L P f x s).2.e=0->(fI L P f x s).1.sz+a0<=(fI L P f x s).2.a:=by
 intro f
 induction f with
 |zero=>intro x s a0 h h2;exact h h2
 |succ f ih=>
  intro x s a0 h
  rw[fI]
  split
  ·intro h2;exact absurd h2 ‹_›
  ·split
   ·intro h2;exact h h2
   ·split
    ·intro h2;exact absurd h2 ‹_›
    ·rename_i h1 h2 h3
     refine ih _ _ a0 fun h4=> ?_
     have h5:=hP (aq s) (by omega)
     have h6:=h (by omega)
     have h7:(aq s).a=s.a+1:=rfl
     have h8:(zY (hH (aT L s.a)) x (P (aq s)).1).sz=1+(x.sz+((P (aq s)).1.sz+0)):=by simp[Ex.sz,jd]
     rw[h8]
     split
     ·unfold bp;split
      ·show _+a0<=(P (aq s)).2.a;omega
      ·omega
     ·omega
theorem uv {L:List Tok} {E:Rs->Ex×Rs} {d:Nat} (hS:∀s,St L s (E s).2) (hP:Fj (cU L E d)):Fj (ig L E d):=by
 intro s h
 exact FF (gI hS) hP _ _ _ s.a (fun h=>hP s h) h
theorem nI (L:List Tok) (E:Rs->Ex×Rs):Fj (cU L E 30):=by
 intro s
 unfold cU
 split
 ·intro h;exact absurd h ‹_›
 ·rw[if_pos (by omega)]
  intro h;unfold bp at h;split at h
  ·exact absurd h (by show (11:Nat)≠0;omega)
  ·exact absurd h ‹_›
theorem ru (L:List Tok):∀n:Nat,Fj (jF L n):=by
 intro n
 induction n with
 |zero=>exact uv (fun s=>St.refl _ s) (nI L _)
 |succ n ih=>exact uv (cm L n) (rh (cm L n) ih)
abbrev nZ (m:NH):D4->Prop:=fun i=>¬ay m i
theorem RE.chg {mc m m':NH} {x:Ex} {c:List NV} {S:List D4} (h:RE m (nZ mc) x c) (hC:Chg S m m') (hS:∀i∈S,ay mc i):RE m' (nZ mc) x c:=h.stays (bo.of hC fun i hi hs=>hi (hS i hs))
theorem RS.chg {mc m m':NH} {x:Stm} {c:List NV} {S:List D4} (h:RS m (nZ mc) x c) (hC:Chg S m m') (hS:∀i∈S,ay mc i):RS m' (nZ mc) x c:=h.stays (bo.of hC fun i hi hs=>hi (hS i hs))
theorem RE.new {mc mb m:NH} {x:Ex} {c:List NV} (h:RE m (nZ mc) x c) (hC:∀i,ay mb i->ay mc i):RE m (nZ mb) x c:=h.weak fun i hi ho=>hi (hC i ho)
theorem RS.new {mc mb m:NH} {x:Stm} {c:List NV} (h:RS m (nZ mc) x c) (hC:∀i,ay mb i->ay mc i):RS m (nZ mb) x c:=h.weak fun i hi ho=>hi (hC i ho)
theorem Kd (m:NH) (T:D4->Prop) (n:Nat):RE m T (GX n) ((GX n).l .nils):=Bn m T 0 n 0 []
theorem FO (m:NH) (T:D4->Prop) (s:List Nat):RE m T (yA s) ((yA s).l .nils):=Bn m T 1 0 0 s
def NB (x:Ex):Prop:=∀{m0 m:NH} {T:D4->Prop} {c:List NV},RE m0 T x c->bo T m0 m->x.sz<=100000000->∃m',bm Try.prog S0 32 [.agg c] m (ii x.depth) m'/\Chg [] m m'
theorem IK:∀x:Ex,x.depth<=x.sz:=by
 apply Ex.ind
 intro k n o s ks ih
 rw[Ex.depth,Ex.sz]
 have:∀ks:List Ex,(∀x∈ks,x.depth<=x.sz)->cY ks<=jd ks:=by
  intro ks
  induction ks with
  |nil=>intro _;simp[cY]
  |cons x xs ih=>
   intro h
   have h1:=h x (List.mem_cons_self ..)
   have h2:=ih fun y hy=>h y (List.mem_cons_of_mem _ hy)
   rw[cY,jd];omega
 have:=this ks ih
 omega
theorem FV {l:List Ex} {x:Ex} (hx:x∈l):x.sz<=jd l:=by
 induction l with
 |nil=>simp at hx
 |cons a l ih=>
  rw[jd]
  rcases List.mem_cons.mp hx with rfl|hx
  ·omega
  ·have:=ih hx;omega
theorem FL:∀x:Ex,NB x:=by
 apply Ex.ind
 intro k n o s ks ih m0 m T c hR hst hsz
 obtain ⟨vk,C,rfl,hS⟩:=hR.inv
 rw[Ex.sz] at hsz
 refine WF.ex1 fun K hK=> ?_
 refine WF.of_wpG (fun _=>rfl) yU (L:= [(.e,.agg [ii k,u64 n,u8 o,.str s,vk])]) rfl ?_
 unfold Jf
 simp (disch:=first|assumption|omega) only[go_sem,seval]
 generalize hM1:hp _ 1 m=M1
 have hC1:Chg [] m M1:=by rw[←hM1];exact ao rfl
 have hg1:M1.get (na m 0)=some (.cells true [ii k,u64 n,u8 o,.str s,vk]):=by rw[←hM1];exact av
 have ho1:ay M1 (na m 0):=by rw[←hM1];exact ab (by omega)
 have hls:=rl ks
 refine W.loop (fun j d=>∃t M i,d=⟨t, [],none,M⟩/\NT.get D4.e.a t=some (.ptr (na m 0) 0)/\NT.get D4.e.c t=some (ii (cY (ks.take i)))/\NT.get D4.e.f t=some (ii (i:Nat))/\i+j=ks.length/\Chg [] M1 M) ?_ ks.length _ ⟨_,M1,0,rfl,by simp only[go_sem,seval],by simp only[go_sem,seval]<;>rfl,by simp only[go_sem,seval]<;>rfl,by omega,Chg.refl M1⟩
 rintro j d ⟨t,M,i,rfl,g1,g2,g3,hij,hC⟩
 apply aA
 unfold zC
 change wp _ _ _ _ ⟨an [] t, [],none,M⟩ _
 have hstM:bo T m0 M:=fun i hi ho=>by
  obtain ⟨q1,q2⟩:=hst i hi ho
  have hCM:Chg [] m M:=hC1.trans hC (by simp)
  exact ⟨(hCM.get q2 (by simp)).trans q1,hCM.old q2⟩
 have hSM:=hS.stays hstM
 have hgM:=(hC.get ho1 (by simp)).trans hg1
 have hlen:=hSM.sl.len
 rw[hS.len] at hlen
 by_cases hi:i<ks.length
 ·obtain ⟨cx,hcx,hRx⟩:=hS.at i hi
  have hc:i<C.length:=by rw[hS.len];exact hi
  obtain ⟨id,off,wr,c,a1,a2,a3,a4,a5⟩:=hSM.sl.at i hc
  have ecx:C[i]=cx:=by rw[List.getElem?_eq_getElem hc] at hcx;injection hcx
  rw[ecx] at a5
  have hsx:=FV (List.getElem_mem hi)
  obtain ⟨m',hr,hC'⟩:=ih ks[i] (List.getElem_mem hi) hRx hstM (by omega)
  have htk:cY (ks.take (i+1))=max (cY (ks.take i)) ks[i].depth:=by
   rw[List.take_add_one,List.getElem?_eq_getElem hi,Option.toList_some,pE,cY,cY];omega
  simp (disch:=first|assumption|omega) only[go_sem,seval,g1,g2,g3,hgM,hlen,a1,a2,a5,hr.wf']
  by_cases hgt:cY (ks.take i)<ks[i].depth
  ·simp (disch:=first|assumption|omega) only[go_sem,seval,g1,g2,g3]
   refine ⟨j - 1,by omega,_,m',i+1,by rfl,by simp only[go_sem,seval,g1], ?_,by simp only[go_sem,seval]<;>rfl,by omega,hC.trans hC' (by simp)⟩
   simp (disch:=first|assumption|omega) only[go_sem,seval,htk]
   rw[Nat.max_eq_right (by omega)]
  ·simp (disch:=first|assumption|omega) only[go_sem,seval,g1,g2,g3]
   refine ⟨j - 1,by omega,_,m',i+1,by rfl,by simp only[go_sem,seval,g1], ?_,by simp only[go_sem,seval]<;>rfl,by omega,hC.trans hC' (by simp)⟩
   simp (disch:=first|assumption|omega) only[go_sem,seval,htk,g2]
   rw[Nat.max_eq_left (by omega)]
 ·have e:(ks.take i)=ks:=List.take_of_length_le (by omega)
  rw[e] at g2
  have hd:=IK (.mk k n o s ks)
  rw[Ex.depth,Ex.sz] at hd
  rw[Ex.depth] at hK
  simp (disch:=first|assumption|omega) only[go_sem,seval,g1,g2,g3,hgM,hlen]
  exact hK _ (hC1.trans hC (by simp))
end FR
open Go Nm Go.Proofs
namespace FR
set_option linter.unusedSimpArgs false
set_option linter.unusedVariables false
def IH (f:Nat) (m0:NH) (L:List Tok) (vl:NV) (r:D4) (rest:List NV) (E:Rs->Ex×Rs) (d:Nat):Prop:=∀{m:NH} {s:Rs},Chg [] m0 m->RD m r vl s rest->s.a<=L.length->
 ∃v m',bm Try.prog S0 f [.ptr r 0,ii d] m v m'/\(∃u,v= .agg ((E s).1.l u)/\RE m' (nZ m) (E s).1 ((E s).1.l u))/\RD m' r vl (E s).2 rest/\Chg [r] m m'
theorem mY {S:List D4} {m M:NH} {l:List (AK×NO)} {k:Nat} (h:Chg S m M) (ho:∀i∈aR l,ay m i->i∈S):Chg S m (hp l k M):=h.trans (ao rfl) ho
section
variable {m0:NH} {L:List Tok} {vl:NV} {r:D4} {rest:List NV} {E:Rs->Ex×Rs}
theorem DK (hc:RC m0 L vl r) {d:Nat} (hst:∀s,St L s (E s).2) (hE:d<=29->IH 162 m0 L vl r rest E (d+1)) (hd30:d<=30):IH 173 m0 L vl r rest (cU L E d) d:=by
 intro m s h0 hd ha
 refine WF.ex fun K hK=> ?_
 refine WF.of_wpG (fun _=>rfl) tF (L:= [(.a .e,ii d),(.e,.ptr r 0)]) rfl ?_
 unfold Du
 have hll:=hc.len
 simp (config:={maxSteps:=1000000}) (disch:=first|assumption|omega|exact ab (by omega)|exact aa (by assumption)|(simp only[ap]<;>omega)) only[go_sem,seval]
 generalize hM1:hp _ 1 m=M1
 have hC1:Chg [] m M1:=by rw[←hM1];exact ao rfl
 have hg1:M1.get (na m 0)=some (.cells true [ii 0,u64 0,u8 0,.str [],.nils]):=by rw[←hM1];exact av
 have ho1:ay M1 (na m 0):=by rw[←hM1];exact ab (by omega)
 have hr0:r≠na m 0:=hd.o.ne 0
 have hr0':na m 0≠r:=fun e=>hr0 e.symm
 have hd1:=hd.chg hC1 (by simp)
 have hn1:∀i,ay m i->ay M1 i:=fun i hi=>hC1.old hi
 refine WF.use1H (iW hc (h0.trans hC1 (by simp)) hd1) ?_
 intro M2 hC2
 have hd2:=hd1.chg hC2 (by simp)
 have hg2:=(hC2.get ho1 (by simp)).trans hg1
 have ho2:=hC2.old ho1
 have hC02:=hC1.trans hC2 (by simp)
 have hl:(Tok.l (aT L s.a)).length=4:=rfl
 have hpf:cU L E d s=if s.e≠0 then (zE,s) else if 29<d then (zE,bp 11 s) else if (aT L s.a).k=2 then (GX (aT L s.a).n,aq s) else if (aT L s.a).k=1 then (yA (aT L s.a).t,aq s)
  else if a8 L [40] s=true then ((E (aq s)).1,a9 L [41] (E (aq s)).2) else (zE,bp 2 s):=rfl
 rw[hpf] at hK
 clear hpf
 generalize hT:aT L s.a=T at hK hl
 have hdg:=hd2.g
 have hdo:=hd2.o
 have hCr2:Chg [r] m M2:=hC02.weak (by simp)
 have fin:∀{M:NH} {s':Rs} {u:NV} {x:Ex} {l:List (AK×NO)} {k:Nat},RD M r vl s' rest->Chg [r] m M->RE M (nZ m) x (x.l u)->(∀i∈aR l,i=na m 0)->(RE (hp l k M) (nZ m) x (x.l u)->RD (hp l k M) r vl s' rest/\Chg [r] m (hp l k M)):=fun h1 h2 h3 h4 _=>
  ⟨h1.chg (ao rfl) fun hi=>hr0 (h4 _ hi),mY h2 fun i hi ho=>absurd (h4 i hi▸ho) aF⟩
 by_cases he:s.e=0
 ·rw[if_neg (by omega)] at hK
  by_cases h29:29<d
  ·rw[if_pos h29] at hK
   simp (config:={maxSteps:=1000000}) (disch:=first|assumption|omega|exact ab (by omega)|exact aa (by assumption)|(simp only[ap]<;>omega)) only[go_sem,seval,hl,hdg]
   generalize hM3:hp _ 1 M2=M3
   have hC3:Chg [] M2 M3:=by rw[←hM3];exact ao rfl
   refine WF.use1H (gZ (hd2.chg hC3 (by simp)) 11) ?_
   rintro M4 ⟨hd4,hC4⟩
   have hg4:=(hC4.get (hC3.old ho2) (by simpa using hr0.symm)).trans ((hC3.get ho2 (by simp)).trans hg2)
   have ho4:=hC4.old (hC3.old ho2)
   simp (config:={maxSteps:=1000000}) (disch:=first|assumption|omega|exact ab (by omega)|exact aa (by assumption)|(simp only[ap]<;>omega)) only[go_sem,seval,hg4]
   exact hK _ _ ⟨⟨.nils,rfl,Bn _ _ _ _ _ _⟩,fin hd4 ((hCr2.trans hC3 (by simp)).trans hC4 fun _ h _=>h) (Bn _ _ 0 0 0 []) (by simp[aR]) (Bn _ _ _ _ _ _)⟩
  ·rw[if_neg h29] at hK
   by_cases h2:T.k=2
   ·rw[if_pos h2] at hK
    simp (config:={maxSteps:=1000000}) (disch:=first|assumption|omega|exact ab (by omega)|exact aa (by assumption)|(simp only[ap]<;>omega)) only[go_sem,seval,hl,pA,MQ,hdg,hg2,hr0]
    refine hK _ _ ⟨⟨.nils,rfl,Kd _ _ _⟩,⟨?_,aa (by assumption)⟩, ?_⟩
    ·refine (aO hdo).trans ?_
     simp only[bh hr0,az];rfl
    ·exact mY hCr2 (by simp[aR,aF])
   ·rw[if_neg h2] at hK
    by_cases h1:T.k=1
    ·rw[if_pos h1] at hK
     simp (config:={maxSteps:=1000000}) (disch:=first|assumption|omega|exact ab (by omega)|exact aa (by assumption)|(simp only[ap]<;>omega)) only[go_sem,seval,hl,pA,vC,hdg,hg2,hr0]
     refine hK _ _ ⟨⟨.nils,rfl,FO _ _ _⟩,⟨?_,aa (by assumption)⟩, ?_⟩
     ·refine (aO hdo).trans ?_
      simp only[bh hr0,az];rfl
     ·exact mY hCr2 (by simp[aR,aF])
    ·rw[if_neg h1] at hK
     simp (config:={maxSteps:=1000000}) (disch:=first|assumption|omega|exact ab (by omega)|exact aa (by assumption)|(simp only[ap]<;>omega)) only[go_sem,seval,hl,pA,hdg]
     generalize hM3:hp _ 1 M2=M3
     have hC3:Chg [] M2 M3:=by rw[←hM3];exact ao rfl
     have hd3:=hd2.chg hC3 (by simp)
     refine WF.use1H (dj hc (h0.trans (hC02.trans hC3 (by simp)) (by simp)) hd3 [40] (by simp) (by omega)) ?_
     rintro M4 ⟨hd4,hC4⟩
     have hg4:=(hC4.get (hC3.old ho2) (by simpa using hr0.symm)).trans ((hC3.get ho2 (by simp)).trans hg2)
     have ho4:=hC4.old (hC3.old ho2)
     have hC04:Chg [r] m M4:=(hCr2.trans hC3 (by simp)).trans hC4 fun _ h _=>h
     cases hb:a8 L [40] s with
     |true=>
      rw[hb,if_pos rfl] at hK hd4
      dsimp only at hK
      generalize hEs:E (aq s)=Es at hK
      obtain ⟨-,hlt⟩:=bG hb
      simp (config:={maxSteps:=1000000}) (disch:=first|assumption|omega|exact ab (by omega)|exact aa (by assumption)|(simp only[ap]<;>omega)) only[go_sem,seval,ag]
      refine WF.useH (hE (by omega) (hc.chg h0 hC04) hd4 hlt) ?_
      rintro v5 M5 ⟨⟨u,rfl,hx5⟩,hd5,hC5⟩
      have hst5:=hst (aq s)
      rw[hEs] at hx5 hd5 hst5 ⊢
      have hg5:=(hC5.get ho4 (by simpa using hr0.symm)).trans hg4
      have ho5:=hC5.old ho4
      have hC05:Chg [r] m M5:=hC04.trans hC5 fun _ h _=>h
      have hx5l:(Es.1.l u).length=5:=rfl
      simp (config:={maxSteps:=1000000}) (disch:=first|assumption|omega|exact ab (by omega)|exact aa (by assumption)|(simp only[ap]<;>omega)) only[go_sem,seval,hx5l]
      generalize hM6:hp _ 1 M5=M6
      have hC6:Chg [] M5 M6:=by rw[←hM6];exact ao rfl
      have hg6:M6.get (na M5 0)=some (.cells true (Es.1.l u)):=by rw[←hM6];exact av
      have ho6:ay M6 (na M5 0):=by rw[←hM6];exact ab (by omega)
      have hlim:=hst5.lim hlt
      refine WF.use1H (fY hc (hc.chg h0 (hC05.trans hC6 (by simp))) (hd5.chg hC6 (by simp)) [41] (by simp) (by omega)) ?_
      rintro M7 ⟨hd7,hC7⟩
      have hg7:=(hC7.get (hC6.old ho5) (by simpa using hr0.symm)).trans ((hC6.get ho5 (by simp)).trans hg5)
      have ho7:=hC7.old (hC6.old ho5)
      have hr5:na M5 0≠r:=fun e=>(hd5.o.ne 0 e.symm)
      have hb7:=(hC7.get ho6 (by simpa using hr5)).trans hg6
      have hC07:Chg [r] m M7:=(hC05.trans hC6 (by simp)).trans hC7 fun _ h _=>h
      have hl5':(Es.1.l u).take 5=Es.1.l u:=rfl
      simp (config:={maxSteps:=1000000}) (disch:=first|assumption|omega|exact ab (by omega)|exact aa (by assumption)|(simp only[ap]<;>omega)) only[go_sem,seval,hg7,hb7,hx5l,hl5']
      have hx7:RE M7 (nZ M4) Es.1 (Es.1.l u):=(hx5.chg hC6 (by simp)).chg hC7 fun i hi=>by
       simp only[List.mem_cons,List.not_mem_nil,or_false] at hi;subst hi;exact hd4.o
      generalize hM8:hp _ 0 M7=M8
      have hC8:Chg [na m 0] M7 M8:=by rw[←hM8];exact ao rfl
      have hx8:RE M8 (nZ M4) Es.1 (Es.1.l u):=hx7.chg hC8 fun i hi=>by
       simp only[List.mem_cons,List.not_mem_nil,or_false] at hi;subst hi;exact ho4
      have hx9:RE M8 (nZ m) Es.1 (Es.1.l u):=hx8.new fun i hi=>hC04.old hi
      have hd8:=hd7.chg hC8 (by simpa using hr0)
      have hC08:Chg [r] m M8:=hC07.trans hC8 fun i hi ho=>by
       simp only[List.mem_cons,List.not_mem_nil,or_false] at hi;subst hi;exact absurd ho aF
      exact hK _ _ ⟨⟨u,rfl,hx9⟩,hd8,hC08⟩
     |false=>
      rw[hb,if_neg Bool.false_ne_true] at hK hd4
      simp (config:={maxSteps:=1000000}) (disch:=first|assumption|omega|exact ab (by omega)|exact aa (by assumption)|(simp only[ap]<;>omega)) only[go_sem,seval,ag]
      refine WF.use1H (gZ hd4 2) ?_
      rintro M5 ⟨hd5,hC5⟩
      have hg5:=(hC5.get ho4 (by simpa using hr0.symm)).trans hg4
      have ho5:=hC5.old ho4
      simp (config:={maxSteps:=1000000}) (disch:=first|assumption|omega|exact ab (by omega)|exact aa (by assumption)|(simp only[ap]<;>omega)) only[go_sem,seval,hg5]
      exact hK _ _ ⟨⟨.nils,rfl,Bn _ _ _ _ _ _⟩,fin hd5 (hC04.trans hC5 fun _ h _=>h) (Bn _ _ 0 0 0 []) (by simp[aR]) (Bn _ _ _ _ _ _)⟩
 ·rw[if_pos he] at hK
  simp (config:={maxSteps:=1000000}) (disch:=first|assumption|omega|exact ab (by omega)|exact aa (by assumption)|(simp only[ap]<;>omega)) only[go_sem,seval,hl,hdg,hg2]
  exact hK _ _ ⟨⟨.nils,rfl,Bn _ _ _ _ _ _⟩,fin hd2 hCr2 (Bn _ _ 0 0 0 []) (by simp[aR]) (Bn _ _ _ _ _ _)⟩
end
end FR
open Go Nm Go.Proofs
namespace FR
set_option linter.unusedSimpArgs false
set_option linter.unusedVariables false
theorem RE.old {m:NH} {T:D4->Prop} {x:Ex} {c:List NV} (h:RE m T x c):RE m (fun i=>T i/\ay m i) x c:=by
 induction h with
 |mk hv hT hl h ih=>exact .mk hv (fun i hi=>⟨hT i hi,hv.old i hi⟩) hl ih
theorem RS.old {m:NH} {T:D4->Prop} {x:Stm} {c:List NV} (h:RS m T x c):RS m (fun i=>T i/\ay m i) x c:=by
 induction h with
 |mk hi hx hy hb hbT hbl hbR he heT hel heR ih1 ih2=>exact .mk hi.old hx.old hy.old hb (fun i q=>⟨hbT i q,hb.old i q⟩) hbl ih1 he (fun i q=>⟨heT i q,he.old i q⟩) hel ih2
theorem LK {m:NH} {T:D4->Prop} {o:Nat} {x y:Ex} {cx cy:List NV} (hx:RE m T x cx) (hy:RE m T y cy) {id:D4} (hT:T id) (hg:m.get id=some (.cells true (cx++cy))) (ho:ay m id):RE m T (zY o x y) ((zY o x y).l (.slc id 0 2 5 2)):=by
 refine .mk (C:= [cx,cy]) ⟨?_,Or.inr ⟨id,0,2,true,_,rfl,hg,ho, ?_, ?_⟩⟩ (by intro i hi;simp[ids] at hi;subst hi;exact hT) rfl ?_
 ·intro c hc;simp at hc;rcases hc with rfl|rfl
  ·exact hx.len
  ·exact hy.len
 ·simp[hx.len,hy.len]
 ·simp[hx.len,hy.len]
  rw[List.take_of_length_le (by simp[hx.len,hy.len])]
 ·intro i z c h1 h2
  match i with
  |0=>cases h1;cases h2;exact hx
  |1=>cases h1;cases h2;exact hy
  |i+2=>simp at h1
section
variable {m0:NH} {L:List Tok} {vl:NV} {r:D4} {rest:List NV}
theorem BR (hc:RC m0 L vl r) {P:Rs->Ex×Rs} {d:Nat} (hst:∀s,St L s (P s).2) (hsz:Fj P) (hP:IH 173 m0 L vl r rest P d) {m:NH} (h0:Chg [] m0 m) {b1 b2:D4} (hb1:¬ay m b1) (hb2:¬ay m b2) (hb12:b1≠b2) (horm:ay m r)
 {X:Ex} {S:Rs} {M:NH} {x:Ex} {s:Rs} {u:NV} (hd:RD M r vl s rest) (hx:RE M (fun i=>¬ay m i/\i≠b1/\i≠b2) x (x.l u)) (hg:M.get b2=some (.cells true (x.l u))) (hob:ay M b2) (hob1:ay M b1) {z1:List NV} (hg1:M.get b1=some (.cells true z1)) (ha:s.a<=L.length) (hxs:s.e=0->x.sz<=s.a) (hxz:x.sz<=100000) (hC:Chg [r] m M) (hE:fI L P (L.length+1) x s=(X,S))
 {t:Tm} (g1:NT.get D4.e t=some (.ptr r 0)) (g2:NT.get D4.e.a t=some (ii d)) (g3:NT.get D4.e.f t=some (.ptr b1 0)) (g4:NT.get D4.e.a.a t=some (.ptr b2 0)) {Q:Out->Dyn->Prop}
 (hQ:∀t' M' u',NT.get D4.e.f t'=some (.ptr b1 0)->NT.get D4.e.a.a t'=some (.ptr b2 0)->RD M' r vl S rest->RE M' (fun i=>¬ay m i/\i≠b1/\i≠b2) X (X.l u')->M'.get b2=some (.cells true (X.l u'))->ay M' b2->ay M' b1->M'.get b1=some (.cells true z1)->Chg [r] m M'->Q (.exit 0) ⟨an [] t', [],none,M'⟩):
 W Try.prog S0 none pm.loop ⟨t, [],none,M⟩ Q:=by
 refine W.loop (fun k D=>∃t M x s u f,D=⟨t, [],none,M⟩/\NT.get D4.e t=some (.ptr r 0)/\NT.get D4.e.a t=some (ii d)/\NT.get D4.e.f t=some (.ptr b1 0)/\NT.get D4.e.a.a t=some (.ptr b2 0)/\RD M r vl s rest/\RE M (fun i=>¬ay m i/\i≠b1/\i≠b2) x (x.l u)/\M.get b2=some (.cells true (x.l u))/\ay M b2/\ay M b1/\M.get b1=some (.cells true z1)/\s.a<=L.length/\(s.e=0->x.sz<=s.a)/\x.sz<=100000/\Chg [r] m M/\fI L P f x s=(X,S)/\L.length<f+s.a/\k=f) ?_ (L.length+1) _ ⟨t,M,x,s,u,L.length+1,rfl,g1,g2,g3,g4,hd,hx,hg,hob,hob1,hg1,ha,hxs,hxz,hC,hE,by omega,rfl⟩
 clear hd hx hg hob hob1 hg1 ha hxs hxz hC hE g1 g2 g3 g4
 rintro k D ⟨t,M,x,s,u,f,rfl,g1,g2,g3,g4,hd,hx,hg,hob,hob1,hg1,ha,hxs,hxz,hC,hE,hf,rfl⟩
 apply aA
 unfold pm
 change wp _ _ _ _ ⟨an [] t, [],none,M⟩ _
 have hll:=hc.len
 obtain ⟨f,rfl⟩:∃f',k=f'+1:=⟨k - 1,by omega⟩
 rw[fI] at hE
 have hdg:=hd.g
 refine gD (fun D=>s.e=0/\∃t',D=⟨t', [],none,M⟩/\NT.get D4.e t'=some (.ptr r 0)/\NT.get D4.e.a t'=some (ii d)/\NT.get D4.e.f t'=some (.ptr b1 0)/\NT.get D4.e.a.a t'=some (.ptr b2 0)) (fun R hR=> ?_) ?_
 ·by_cases he:s.e=0
  ·simp (config:={maxSteps:=1000000}) (disch:=first|assumption|omega|exact ab (by omega)|exact aa (by assumption)|(simp only[ap]<;>omega)) only[go_sem,seval,g1,g2,g3,g4,hdg]
   exact hR _ ⟨he,_,rfl,by simp only[go_sem,seval,g1],by simp only[go_sem,seval,g2],by simp only[go_sem,seval,g3],by simp only[go_sem,seval,g4]⟩
  ·rw[if_pos he] at hE
   injection hE with e1 e2
   subst e1 e2
   have hde:decide ((s.e:Int)=0)=false:=decide_eq_false (by omega)
   simp (config:={maxSteps:=1000000}) (disch:=first|assumption|omega|exact ab (by omega)|exact aa (by assumption)|(simp only[ap]<;>omega)) only[go_sem,seval,g1,g2,g3,g4,hdg,hde]
   exact hQ _ M u (by simp only[go_sem,seval,g3]) (by simp only[go_sem,seval,g4]) hd hx hg hob hob1 hg1 hC
 clear g1 g2 g3 g4
 rintro D ⟨he,t,rfl,g1,g2,g3,g4⟩
 rw[if_neg (by omega)] at hE
 change wp _ _ _ _ ⟨an [] t, [],none,M⟩ _
 rw[rp]
 have hl:(Tok.l (aT L s.a)).length=4:=rfl
 refine NG (fun D=>∃t' M2,D=⟨t', [],none,M2⟩/\Chg [] M M2/\xL (hH (aT L s.a))=true/\NT.get D4.e t'=some (.ptr r 0)/\NT.get D4.e.a t'=some (ii d)/\NT.get D4.e.f t'=some (.ptr b1 0)/\NT.get D4.e.a.a t'=some (.ptr b2 0)/\NT.get D4.e.a.c t'=some (u8 (hH (aT L s.a)))) (fun R hR=> ?_) ?_
 ·simp (config:={maxSteps:=1000000}) (disch:=first|assumption|omega|exact ab (by omega)|exact aa (by assumption)|(simp only[ap]<;>omega)) only[go_sem,seval,g1,g2,g3,g4,hdg]
  refine WF.use1H (iW hc (hc.chg h0 hC) hd) ?_
  intro M2 hC2
  generalize hT:aT L s.a=T at hE hl hR
  have out:∀(l:List (AK×NO)) (k:Nat) (t':Tm),xL (hH T)=false->NT.get D4.e.f t'=some (.ptr b1 0)->NT.get D4.e.a.a t'=some (.ptr b2 0)->aR l= []->Q (.exit 0) ⟨an [] t', [],none,hp l k M2⟩:=by
   intro l k t' hop q1 q2 ho
   rw[if_pos hop] at hE
   injection hE with e1 e2
   subst e1 e2
   have hC3:=fk (k:=k) hC2 ho
   exact hQ _ _ u q1 q2 (hd.chg hC3 (by simp)) (hx.stays (io hC3 _)) ((hC3.get hob (by simp)).trans hg) (hC3.old hob) (hC3.old hob1) ((hC3.get hob1 (by simp)).trans hg1) (hC.trans hC3 (by simp))
  by_cases h3:T.k=3
  ·by_cases h1:T.t.length=1
   ·obtain ⟨c,hc1⟩:=List.length_eq_one_iff.mp h1
    have hopc:hH T=c:=by unfold hH;rw[if_pos ⟨h3,h1⟩,hc1];rfl
    have h00:T.t[0]? =some c:=by rw[hc1];rfl
    rw[hopc] at hR out
    by_cases hop:xL c=true
    ·have hcs:=of_decide_eq_true hop
     rcases hcs with rfl|rfl|rfl|rfl|rfl|rfl<;>simp (config:={maxSteps:=1000000}) (disch:=first|assumption|omega|exact ab (by omega)|exact aa (by assumption)|(simp only[ap]<;>omega)) only[go_sem,seval,g1,g2,g3,g4,hl,pA,vC,h3,h1,h00]<;>exact hR _ ⟨_,_,rfl,fk hC2 rfl,hop,by simp only[go_sem,seval,g1],by simp only[go_sem,seval,g2],by simp only[go_sem,seval,g3],by simp only[go_sem,seval,g4],by simp only[go_sem,seval]<;>rfl⟩
    ·have hop':xL c=false:=by simpa using hop
     have hcs:=of_decide_eq_false hop'
     simp (config:={maxSteps:=1000000}) (disch:=first|assumption|omega|exact ab (by omega)|exact aa (by assumption)|(simp only[ap]<;>omega)) only[go_sem,seval,g1,g2,g3,g4,hl,pA,vC,h3,h1,h00]
     exact out _ _ _ hop' (by simp only[go_sem,seval,g3]) (by simp only[go_sem,seval,g4]) rfl
   ·have hopc:hH T=0:=by unfold hH;rw[if_neg (fun h=>h1 h.2)]
    rw[hopc] at hR out
    simp (config:={maxSteps:=1000000}) (disch:=first|assumption|omega|exact ab (by omega)|exact aa (by assumption)|(simp only[ap]<;>omega)) only[go_sem,seval,g1,g2,g3,g4,hl,pA,vC,h3]
    exact out _ _ _ rfl (by simp only[go_sem,seval,g3]) (by simp only[go_sem,seval,g4]) rfl
  ·have hopc:hH T=0:=by unfold hH;rw[if_neg (fun h=>h3 h.1)]
   rw[hopc] at hR out
   simp (config:={maxSteps:=1000000}) (disch:=first|assumption|omega|exact ab (by omega)|exact aa (by assumption)|(simp only[ap]<;>omega)) only[go_sem,seval,g1,g2,g3,g4,hl,pA,vC]
   exact out _ _ _ rfl (by simp only[go_sem,seval,g3]) (by simp only[go_sem,seval,g4]) rfl
 clear g1 g2 g3 g4
 rintro D ⟨t,M2,rfl,hC2,hop,g1,g2,g3,g4,g5⟩
 have hlt:=sA hop
 rw[if_neg (by simp[hop])] at hE
 generalize hH (aT L s.a)=o at hE g5
 change wp _ _ _ _ ⟨an [] t, [],none,M2⟩ _
 rw[←ag M2]
 have hd2:=hd.chg hC2 (by simp)
 have hdg2:=hd2.g
 have hdo2:=hd2.o
 simp (config:={maxSteps:=1000000}) (disch:=first|assumption|omega|exact ab (by omega)|exact aa (by assumption)|(simp only[ap]<;>omega)) only[go_sem,seval,g1,g2,g3,g4,g5,hdg2]
 generalize hM3:hp _ 0 M2=M3
 have hC3:Chg [r] M2 M3:=by rw[←hM3];exact ao rfl
 have hd3:RD M3 r vl (aq s) rest:=⟨by rw[←hM3];exact (aO hdo2).trans az,hC3.old hdo2⟩
 have hC03:Chg [r] m M3:=(hC.trans hC2 (by simp)).trans hC3 fun _ h _=>h
 have nb1:b1∉ [r]:=by simp;rintro rfl;exact hb1 horm
 have nb2:b2∉ [r]:=by simp;rintro rfl;exact hb2 horm
 have hCb:∀{M M':NH} {z:List NV} {b:D4},Chg [r] M M'->b∉ [r]->ay M b->M.get b=some (.cells true z)->M'.get b=some (.cells true z)/\ay M' b:=fun h hn ho hg=>⟨(h.get ho hn).trans hg,h.old ho⟩
 have hC23:Chg [r] M M3:=(hC2.weak (by simp)).trans hC3 fun _ h _=>h
 refine WF.use (hP (hc.chg h0 hC03) hd3 hlt) ?_
 rintro v4 M4 ⟨⟨w,rfl,hy4⟩,hd4,hC4⟩
 have hst4:=hst (aq s)
 have hsz4:=hsz (aq s)
 have hna:(aq s).a=s.a+1:=rfl
 have hlim:=hst4.lim hlt
 generalize hP4:P (aq s)=p4 at hy4 hd4 hE hst4 hsz4 hlim
 obtain ⟨y,s4⟩:=p4
 dsimp only at hy4 hd4 hE hst4 hsz4 hlim
 have hC24:Chg [r] M M4:=hC23.trans hC4 fun _ h _=>h
 obtain ⟨hg4,ho4⟩:=hCb hC24 nb2 hob hg
 obtain ⟨hg14,ho14⟩:=hCb hC24 nb1 hob1 hg1
 have hx4:RE M4 (fun i=>¬ay m i/\i≠b1/\i≠b2) x (x.l u):=hx.stays (bo.of hC24 fun i hi hs=>by
  simp only[List.mem_cons,List.not_mem_nil,or_false] at hs;subst hs;exact hi.1 horm)
 have hC04:Chg [r] m M4:=hC03.trans hC4 fun _ h _=>h
 have hy4':RE M4 (fun i=>¬ay m i/\i≠b1/\i≠b2) y (y.l w):=hy4.weak fun i hi=>⟨fun h=>hi (hC03.old h),fun h=>hi (h▸hC23.old hob1),fun h=>hi (h▸hC23.old hob)⟩
 have hyl:(y.l w).length=5:=rfl
 have hxl:(x.l u).length=5:=rfl
 rw[←ag M4]
 by_cases he4:s4.e=0
 ·rw[if_neg (by omega)] at hE
  have hys:=hsz4 he4
  have hdg4:=hd4.g
  have hdo4:=hd4.o
  have hyl':(y.l w).take 5=y.l w:=rfl
  have hxl':(x.l u).take 5=x.l u:=rfl
  have hxd:(y.l w).drop 5= []:=rfl
  simp (config:={maxSteps:=1000000}) (disch:=first|assumption|omega|exact ab (by omega)|exact aa (by assumption)|(simp only[ap]<;>omega)) only[go_sem,seval,g1,g2,g3,g4,g5,hyl,hdg4,hg4,hxl,hyl',hxl']
  generalize hM5:hp _ 2 M4=M5
  have hC5:Chg [b2] M4 M5:=by rw[←hM5];exact ao rfl
  have hg5:M5.get b2=some (.cells true ((zY o x y).l (.slc (na M4 1) 0 2 5 2))):=by rw[←hM5];exact (aO ho4).trans az
  have hk5:M5.get (na M4 1)=some (.cells true (x.l u++y.l w)):=by rw[←hM5];exact av
  have hko5:ay M5 (na M4 1):=by rw[←hM5];exact ab (by omega)
  have hTk:¬ay m (na M4 1)/\na M4 1≠b1/\na M4 1≠b2:=⟨fun h=>aF (hC04.old h),fun h=>ho14.ne 1 h.symm,fun h=>ho4.ne 1 h.symm⟩
  have hs5:bo (fun i=>¬ay m i/\i≠b1/\i≠b2) M4 M5:=bo.of hC5 fun i hi hs=>by
   simp only[List.mem_cons,List.not_mem_nil,or_false] at hs;exact hi.2.2 hs
  have hxy5:RE M5 (fun i=>¬ay m i/\i≠b1/\i≠b2) (zY o x y) ((zY o x y).l (.slc (na M4 1) 0 2 5 2)):=LK (hx4.stays hs5) (hy4'.stays hs5) hTk hk5 hko5
  have hosz:(zY o x y).sz=1+(x.sz+(y.sz+0)):=by simp[Ex.sz,jd]
  refine WF.use1H (FL (zY o x y) hxy5 (fun i _ ho=>⟨rfl,ho⟩) (by omega)) ?_
  intro M6 hC6
  have hd5:RD M5 r vl s4 rest:=hd4.chg hC5 (by simp;rintro rfl;exact hb2 horm)
  have hd6:=hd5.chg hC6 (by simp)
  have hC56:Chg [b2] M4 M6:=hC5.trans hC6 (by simp)
  have hxy6:=hxy5.stays (io hC6 _)
  have hg6:=(hC6.get (hC5.old ho4) (by simp)).trans hg5
  have ho6:=hC56.old ho4
  have ho16:=hC56.old ho14
  have hg16:=(hC56.get ho14 (by simpa using hb12)).trans hg14
  have hC06:Chg [r] m M6:=hC04.trans hC56 fun i hi ho=>by
   simp only[List.mem_cons,List.not_mem_nil,or_false] at hi;subst hi;exact absurd ho hb2
  have he0:=hxs he
  by_cases hdp:30<(zY o x y).depth
  ·rw[if_pos hdp] at hE
   simp (config:={maxSteps:=1000000}) (disch:=first|assumption|omega|exact ab (by omega)|exact aa (by assumption)|(simp only[ap]<;>omega)) only[go_sem,seval,g1]
   rw[ag]
   refine WF.use1 (gZ hd6 11) ?_
   rintro M7 ⟨hd7,hC7⟩
   obtain ⟨hg7,ho7⟩:=hCb hC7 nb2 ho6 hg6
   obtain ⟨hg17,ho17⟩:=hCb hC7 nb1 ho16 hg16
   have hxy7:=hxy6.stays (m':=M7) (bo.of hC7 fun i hi hs=>by
    simp only[List.mem_cons,List.not_mem_nil,or_false] at hs;subst hs;exact hi.1 horm)
   have hfe:(bp 11 s4).e≠0/\(bp 11 s4).a=s4.a:=by unfold bp;rw[if_pos he4];exact ⟨by show (11:Nat)≠0;omega,rfl⟩
   simp (config:={maxSteps:=1000000}) (disch:=first|assumption|omega|exact ab (by omega)|exact aa (by assumption)|(simp only[ap]<;>omega)) only[go_sem,seval]
   refine ⟨f,by omega,_,M7,zY o x y,_,_,f,by rfl,by simp only[go_sem,seval,g1],by simp only[go_sem,seval,g2],by simp only[go_sem,seval,g3],by simp only[go_sem,seval,g4],hd7,hxy7,hg7,ho7,ho17,hg17,by rw[hfe.2];exact hlim,fun h=>absurd h hfe.1,by omega,hC06.trans hC7 fun _ h _=>h,hE, ?_,rfl⟩
   have:=hst4.le
   rw[hfe.2];omega
  ·rw[if_neg hdp] at hE
   simp (config:={maxSteps:=1000000}) (disch:=first|assumption|omega|exact ab (by omega)|exact aa (by assumption)|(simp only[ap]<;>omega)) only[go_sem,seval,g1]
   refine ⟨f,by omega,_,M6,zY o x y,_,_,f,by rw[ag],by simp only[go_sem,seval,g1],by simp only[go_sem,seval,g2],by simp only[go_sem,seval,g3],by simp only[go_sem,seval,g4],hd6,hxy6,hg6,ho6,ho16,hg16,hlim,fun h=>by omega,by omega,hC06,hE, ?_,rfl⟩
   have:=hst4.le
   omega
 ·rw[if_pos he4] at hE
  injection hE with e1 e2
  subst e1 e2
  have hdg4:=hd4.g
  have hdo4:=hd4.o
  simp (config:={maxSteps:=1000000}) (disch:=first|assumption|omega|exact ab (by omega)|exact aa (by assumption)|(simp only[ap]<;>omega)) only[go_sem,seval,g1,g2,g3,g4,g5,hyl,hdg4]
  generalize hM5:hp _ 1 M4=M5
  have hC5:Chg [] M4 M5:=by rw[←hM5];exact ao rfl
  exact hQ _ M5 u (by simp only[go_sem,seval,g3]) (by simp only[go_sem,seval,g4]) (hd4.chg hC5 (by simp)) (hx4.stays (io hC5 _)) ((hC5.get ho4 (by simp)).trans hg4) (hC5.old ho4) (hC5.old ho14) ((hC5.get ho14 (by simp)).trans hg14) (hC04.trans hC5 (by simp))
end
end FR
open Go Nm Go.Proofs
namespace FR
set_option linter.unusedSimpArgs false
set_option linter.unusedVariables false
section
variable {m0:NH} {L:List Tok} {vl:NV} {r:D4} {rest:List NV}
theorem zf (hc:RC m0 L vl r) {E:Rs->Ex×Rs} {d:Nat} (hst:∀s,St L s (E s).2) (hP:IH 173 m0 L vl r rest (cU L E d) d) (hsz:Fj (cU L E d)) (hsz1:∀s,s.a<=L.length->(cU L E d s).1.sz<=100000):IH 162 m0 L vl r rest (ig L E d) d:=by
 intro m s h0 hd ha
 refine WF.ex fun K hK=> ?_
 refine WF.of_wpG (fun _=>rfl) uE (L:= [(.a .e,ii d),(.e,.ptr r 0)]) rfl ?_
 unfold DS
 have hll:=hc.len
 simp (config:={maxSteps:=1000000}) (disch:=first|assumption|omega|exact ab (by omega)|exact aa (by assumption)|(simp only[ap]<;>omega)) only[go_sem,seval]
 generalize hM1:hp _ 1 m=M1
 have hC1:Chg [] m M1:=by rw[←hM1];exact ao rfl
 have hg1:M1.get (na m 0)=some (.cells true [ii 0,u64 0,u8 0,.str [],.nils]):=by rw[←hM1];exact av
 have ho1:ay M1 (na m 0):=by rw[←hM1];exact ab (by omega)
 have hr0:na m 0≠r:=fun e=>hd.o.ne 0 e.symm
 have hd1:=hd.chg hC1 (by simp)
 refine WF.useH (hP (h0.trans hC1 (by simp)) hd1 ha) ?_
 rintro v2 M2 ⟨⟨u,rfl,hx2⟩,hd2,hC2⟩
 have hst2:=gI (L:=L) (d:=d) hst s
 have hlim:=hst2.lim ha
 have hsz2:=hsz s
 have hszz:=hsz1 s ha
 have hXS:fI L (cU L E d) (L.length+1) (cU L E d s).1 (cU L E d s).2=((ig L E d s).1,(ig L E d s).2):=rfl
 generalize (ig L E d s).1=X at hXS hK
 generalize (ig L E d s).2=S at hXS hK
 generalize cU L E d s=p at hx2 hd2 hlim hsz2 hszz hXS
 obtain ⟨x,s2⟩:=p
 dsimp only at hx2 hd2 hlim hsz2 hszz hXS
 have hg2:=(hC2.get ho1 (by simpa using hr0)).trans hg1
 have ho2:=hC2.old ho1
 have hxl:(x.l u).length=5:=rfl
 have hC02:Chg [r] m M2:=(hC1.weak (by simp)).trans hC2 fun _ h _=>h
 simp (config:={maxSteps:=1000000}) (disch:=first|assumption|omega|exact ab (by omega)|exact aa (by assumption)|(simp only[ap]<;>omega)) only[go_sem,seval,hxl]
 generalize hM3:hp _ 1 M2=M3
 have hC3:Chg [] M2 M3:=by rw[←hM3];exact ao rfl
 have hg3:M3.get (na M2 0)=some (.cells true (x.l u)):=by rw[←hM3];exact av
 have ho3:ay M3 (na M2 0):=by rw[←hM3];exact ab (by omega)
 have hx3:RE M3 (fun i=>¬ay m i/\i≠na m 0/\i≠na M2 0) x (x.l u):=(hx2.old.stays (io hC3 _)).weak fun i hi=>⟨fun h=>hi.1 (hC1.old h),fun h=>hi.1 (h▸ho1),fun h=>aF (h▸hi.2)⟩
 refine BR hc (gI hst) hsz hP h0 (b1:=na m 0) (b2:=na M2 0) aF (fun h=>aF (hC02.old h)) (fun e=>ho2.ne 0 e) hd.o (hd2.chg hC3 (by simp)) hx3 hg3 ho3 (hC3.old ho2) ((hC3.get ho2 (by simp)).trans hg2) hlim (fun h=>by have:=hsz2 h;omega) hszz (hC02.trans hC3 (by simp)) hXS (by simp only[go_sem,seval]) (by simp only[go_sem,seval]) (by simp only[go_sem,seval]) (by simp only[go_sem,seval]) ?_
 intro t' M' u' q1 q2 q3 q4 q5 q6 q7 q8 q9
 have hXl:(X.l u').length=5:=rfl
 have hXl':(X.l u').take 5=X.l u':=rfl
 rw[←ag M']
 simp (config:={maxSteps:=1000000}) (disch:=first|assumption|omega|exact ab (by omega)|exact aa (by assumption)|(simp only[ap]<;>omega)) only[go_sem,seval,q1,q2,q5,q8,hXl,hXl']
 generalize hM5:hp _ 0 M'=M5
 have hC5:Chg [na m 0] M' M5:=by rw[←hM5];exact ao rfl
 have hx5:RE M5 (nZ m) X (X.l u'):=(q4.stays (m':=M5) (bo.of hC5 fun i hi hs=>by
  simp only[List.mem_cons,List.not_mem_nil,or_false] at hs;exact hi.2.1 hs)).weak fun i hi=>hi.1
 exact hK _ _ ⟨⟨u',rfl,hx5⟩,q3.chg hC5 (by simpa using hr0.symm),q9.trans hC5 fun i hi ho=>by
  simp only[List.mem_cons,List.not_mem_nil,or_false] at hi;subst hi;exact absurd ho aF⟩
theorem FG {P:Rs->Ex×Rs} (hst:∀s,St L s (P s).2) (hsz:Fj P):∀(f:Nat) (x:Ex) (s:Rs),s.a<=L.length->(s.e=0->x.sz<=s.a)->x.sz<=L.length+1->(fI L P f x s).1.sz<=L.length+1:=by
 intro f
 induction f with
 |zero=>intro x s _ _ h;exact h
 |succ f ih=>
  intro x s ha h1 h2
  rw[fI]
  split
  ·exact h2
  ·split
   ·exact h2
   ·rename_i q1 q2
    have hlt:=sA (L:=L) (a:=s.a) (by simpa using q2)
    have h3:=(hst (aq s)).lim hlt
    split
    ·exact h2
    ·rename_i q3
     have h5:=hsz (aq s) (by omega)
     have h6:=h1 (by omega)
     have h7:(aq s).a=s.a+1:=rfl
     have h8:(zY (hH (aT L s.a)) x (P (aq s)).1).sz=1+(x.sz+((P (aq s)).1.sz+0)):=by simp[Ex.sz,jd]
     have hfa:∀e,(bp e (P (aq s)).2).a=(P (aq s)).2.a:=fun e=>by unfold bp;split<;>rfl
     refine ih _ _ ?_ ?_ (by omega)
     ·split
      ·rw[hfa];exact h3
      ·exact h3
     ·split
      ·rw[hfa];omega
      ·omega
theorem sY {E:Rs->Ex×Rs} {d:Nat} (hst:∀s,St L s (E s).2) (hsz:Fj (cU L E d)) (hp1:∀s,s.a<=L.length->(cU L E d s).1.sz<=L.length+1) (s:Rs) (ha:s.a<=L.length):(ig L E d s).1.sz<=L.length+1:=
 FG (gI hst) hsz _ _ _ ((gI (L:=L) (d:=d) hst s).lim ha) (fun h=>by have:=hsz s h;omega) (hp1 s ha)
theorem mS {E:Rs->Ex×Rs} {d:Nat} (hE:∀s,s.a<=L.length->(E s).1.sz<=L.length+1) (s:Rs) (ha:s.a<=L.length):(cU L E d s).1.sz<=L.length+1:=by
 unfold cU
 split
 ·simp[zE,Ex.sz,jd]
 ·split
  ·simp[zE,Ex.sz,jd]
  ·split
   ·simp[Ex.sz,jd]
   ·split
    ·simp[Ex.sz,jd]
    ·split
     ·rename_i h;exact hE _ (bG h).2
     ·simp[zE,Ex.sz,jd]
theorem Fd:∀(n:Nat) (s:Rs),s.a<=L.length->(jF L n s).1.sz<=L.length+1:=by
 intro n
 induction n with
 |zero=>exact fun s ha=>sY (fun s=>St.refl _ s) (nI L _) (mS fun s _=>by simp[zE,Ex.sz,jd]) s ha
 |succ n ih=>exact fun s ha=>sY (cm L n) (rh (cm L n) (ru L n)) (mS ih) s ha
theorem JC (hc:RC m0 L vl r):∀n,n<=30->IH 162 m0 L vl r rest (jF L n) (30 - n):=by
 have hll:=hc.len
 intro n
 induction n with
 |zero=>
  intro _
  have e2:jF L 0=ig L (fun s=>(zE,s)) 30:=by funext s;rfl
  rw[e2]
  intro m s
  exact zf (E:=fun s=>(zE,s)) hc (fun s=>St.refl _ s) (DK hc (fun s=>St.refl _ s) (fun h=>by omega) (by omega)) (nI L _) fun s ha=>by have:=mS (L:=L) (E:=fun s=>(zE,s)) (d:=30) (fun s _=>by simp[zE,Ex.sz,jd]) s ha;omega
 |succ n ih=>
  intro hn
  have e:30 - (n+1)=29 - n:=by omega
  have h1:29 - n+1=30 - n:=by omega
  have e2:jF L (n+1)=ig L (jF L n) (29 - n):=by funext s;rfl
  rw[e,e2]
  intro m s
  exact zf hc (cm L n) (DK hc (cm L n) (fun _=>by rw[h1];exact ih (by omega)) (by omega)) (rh (cm L n) (ru L n)) fun s ha=>by have:=mS (d:=29 - n) (Fd n) s ha;omega
end
end FR
open Go Nm Go.Proofs
namespace FR
set_option linter.unusedSimpArgs false
set_option linter.unusedVariables false
section
variable (L:List Tok)
abbrev ei (s:Rs):Ex×Rs:=jF L 30 s
def bn (s:Rs):List Nat×Ex×Rs:=if a8 L [91] (bf L s).2=true then ((bf L s).1,(ei L (aq (bf L s).2)).1,a9 L [93] (ei L (aq (bf L s).2)).2) else ((bf L s).1,zE,(bf L s).2)
def uZ (x:Stm) (s:Rs):Stm×Rs:=(x,a9 L [59] s)
def Mo (p:Int) (s:Rs):Stm×Rs:=uZ L (.mk 0 p (bf L s).1 [] zE (ei L (bf L s).2).1 zE [] []) (ei L (bf L s).2).2
def HP (p:Int) (s:Rs):Stm×Rs:=uZ L (.mk 1 p (bf L s).1 (bn L (bf L s).2).1 (bn L (bf L s).2).2.1 zE zE [] []) (bn L (bf L s).2).2.2
def Ec (p:Int) (s:Rs):Stm×Rs:=uZ L (.mk 2 p [] (bn L s).1 (bn L s).2.1 (ei L (bn L s).2.2).1 zE [] []) (ei L (bn L s).2.2).2
def Mr (p:Int) (s:Rs):Stm×Rs:=uZ L (.mk 3 p (bf L s).1 (bn L (bf L s).2).1 (bn L (bf L s).2).2.1 (ei L (bn L (bf L s).2).2.2).1 (ei L (ei L (bn L (bf L s).2).2.2).2).1 [] []) (ei L (ei L (bn L (bf L s).2).2.2).2).2
def Ml (p:Int) (s:Rs):Stm×Rs:=uZ L (.mk 5 p [] [] zE (ei L s).1 zE [] []) (ei L s).2
def Kv (B:Rs->List Stm×Rs) (p:Int) (s:Rs):Stm×Rs:=
 if a8 L [101,108,115,101] (B (ei L s).2).2=true then (.mk 6 p [] [] zE (ei L s).1 zE (B (ei L s).2).1 (B (aq (B (ei L s).2).2)).1,(B (aq (B (ei L s).2).2)).2)
 else (.mk 6 p [] [] zE (ei L s).1 zE (B (ei L s).2).1 [],(B (ei L s).2).2)
def C8 (B:Rs->List Stm×Rs) (p:Int) (s:Rs):Stm×Rs:=(.mk 7 p [] [] zE (ei L s).1 zE (B (ei L s).2).1 [],(B (ei L s).2).2)
def cP (B:Rs->List Stm×Rs) (s:Rs):Stm×Rs:=
 if a8 L [115,101,116] s=true then Mo L (aT L s.a).p (aq s)
 else if a8 L [108,111,97,100] s=true then HP L (aT L s.a).p (aq s)
 else if a8 L [115,116,111,114,101] s=true then Ec L (aT L s.a).p (aq s)
 else if a8 L [99,97,115] s=true then Mr L (aT L s.a).p (aq s)
 else if a8 L [102,101,110,99,101] s=true then uZ L (.mk 4 (aT L s.a).p [] [] zE zE zE [] []) (aq s)
 else if a8 L [111,117,116] s=true then Ml L (aT L s.a).p (aq s)
 else if a8 L [105,102] s=true then Kv L B (aT L s.a).p (aq s)
 else if a8 L [119,104,105,108,101] s=true then C8 L B (aT L s.a).p (aq s)
 else uZ L (.mk 0 (aT L s.a).p [] [] zE zE zE [] []) (bp 2 s)
def gG (S:Rs->Stm×Rs):Nat->List Stm->Rs->List Stm×Rs
 |0,l,s=>(l,s)
 |f+1,l,s=>if s.e≠0 then (l,s) else if a8 L [125] s=true then (l,aq s) else gG S f (l++ [(S s).1]) (S s).2
def dG (d:Nat) (s:Rs):Rs:=if s.e=0/\29<d/\(aT L s.a).k=3/\(aT L s.a).t= [123] then bp 11 s else s
def iY (S:Rs->Stm×Rs) (d:Nat) (s:Rs):List Stm×Rs:=gG L S (L.length+1) [] (a9 L [123] (dG L d s))
def dD:Nat->Rs->List Stm×Rs
 |0,s=>iY L (fun s=>(.mk 0 0 [] [] zE zE zE [] [],bp 2 s)) 30 s
 |n+1,s=>iY L (cP L (dD n)) (29 - n) s
end
section
variable {m0:NH} {L:List Tok} {vl:NV} {r:D4} {rest:List NV}
theorem eB (s:Rs):St L s (bn L s).2.2:=by
 unfold bn
 split
 ·rename_i h;exact (((cv L s).trans (ef h)).trans (cm L 30 _)).trans (bR _ _ _)
 ·exact cv L s
theorem HL (hc:RC m0 L vl r):IH 162 m0 L vl r rest (ei L) 0:=by
 intro m s
 exact JC hc 30 (Nat.le_refl _)
theorem rS (hc:RC m0 L vl r) {m:NH} {s:Rs} (h0:Chg [] m0 m) (hd:RD m r vl s rest) (ha:s.a<=L.length) {pb:D4} (hpr:pb≠r) (hop:ay m pb) (hnp:¬ay m0 pb) {c0 c1 c2 c3:NV} {c:List NV} (hl:c.length=12)
 (hg:m.get pb=some (.cells true (c0::c1::c2::c3::ii 0::u64 0::u8 0:: .str []:: .nils::c))):
 ∃m',bm Try.prog S0 163 [.ptr r 0,.ptr pb 0] m (.tup []) m'/\∃u,m'.get pb=some (.cells true (c0::c1::c2:: .str (bn L s).1::((bn L s).2.1.l u++c)))/\RE m' (nZ m) (bn L s).2.1 ((bn L s).2.1.l u)/\RD m' r vl (bn L s).2.2 rest/\Chg [r,pb] m m':=by
 refine WF.ex1 fun K hK=> ?_
 refine WF.of_wpG (fun _=>rfl) th (L:= [(.a .e,.ptr pb 0),(.e,.ptr r 0)]) rfl ?_
 unfold DG
 have hll:=hc.len
 have hrp:r≠pb:=fun e=>hpr e.symm
 simp (config:={maxSteps:=1000000}) (disch:=first|assumption|omega|exact ab (by omega)|exact aa (by assumption)|(simp only[ap]<;>omega)) only[go_sem,seval,ag]
 refine WF.use1H (lA hc h0 hd (by omega)) ?_
 rintro M1 ⟨hd1,hC1⟩
 have hst1:=cv L s
 unfold bn at hK
 generalize bf L s=q at hK hd1 hst1
 obtain ⟨n,s1⟩:=q
 dsimp only at hK hd1 hst1
 have hg1:=(hC1.get hop (by simpa using hpr)).trans hg
 have ho1:=hC1.old hop
 simp (config:={maxSteps:=1000000}) (disch:=first|assumption|omega|exact ab (by omega)|exact aa (by assumption)|(simp only[ap]<;>omega)) only[go_sem,seval,hg1]
 generalize hM2:hp _ 0 M1=M2
 have hC2:Chg [pb] M1 M2:=by rw[←hM2];exact ao rfl
 have hg2:M2.get pb=some (.cells true (c0::c1::c2:: .str n::ii 0::u64 0::u8 0:: .str []:: .nils::c)):=by rw[←hM2];exact (aO ho1).trans az
 have ho2:=hC2.old ho1
 have hd2:=hd1.chg hC2 (by simpa using hrp)
 have hC02:Chg [r,pb] m M2:=(hC1.weak (by simp)).trans hC2 (by simp)
 have hlim:=hst1.lim ha
 have hbase:∀{M},Chg [r,pb] m M->Chg [] m0 M:=fun h=>h0.trans h fun i hi ho=>by
  simp only[List.mem_cons,List.not_mem_nil,or_false] at hi
  rcases hi with rfl|rfl
  ·exact absurd ho hc.no
  ·exact absurd ho hnp
 refine WF.use1H (dj hc (hbase hC02) hd2 [91] (by simp) (by omega)) ?_
 rintro M3 ⟨hd3,hC3⟩
 have hg3:=(hC3.get ho2 (by simpa using hpr)).trans hg2
 have ho3:=hC3.old ho2
 have hC03:Chg [r,pb] m M3:=hC02.trans hC3 (by intro i hi _;simp at hi ⊢;exact Or.inl hi)
 cases hb:a8 L [91] s1 with
 |true=>
  rw[hb,if_pos rfl] at hK hd3
  have hlt:=(bG hb).2
  simp (config:={maxSteps:=1000000}) (disch:=first|assumption|omega|exact ab (by omega)|exact aa (by assumption)|(simp only[ap]<;>omega)) only[go_sem,seval,ag]
  refine WF.useH (HL hc (hbase hC03) hd3 hlt) ?_
  rintro v4 M4 ⟨⟨u,rfl,hx4⟩,hd4,hC4⟩
  have hst4:=cm L 30 (aq s1)
  have hlim4:=hst4.lim hlt
  dsimp only at hK
  generalize hq:ei L (aq s1)=q at hK hx4 hd4
  have hq':jF L 30 (aq s1)=q:=hq
  rw[hq'] at hlim4
  obtain ⟨x,s4⟩:=q
  dsimp only at hK hx4 hd4 hlim4
  have hg4:=(hC4.get ho3 (by simpa using hpr)).trans hg3
  have ho4:=hC4.old ho3
  have hxl:(x.l u).length=5:=rfl
  simp (config:={maxSteps:=1000000}) (disch:=first|assumption|omega|exact ab (by omega)|exact aa (by assumption)|(simp only[ap]<;>omega)) only[go_sem,seval,hg4,hxl,hl]
  generalize hM5:hp _ 0 M4=M5
  have hC5:Chg [pb] M4 M5:=by rw[←hM5];exact ao rfl
  have hg5:M5.get pb=some (.cells true (c0::c1::c2:: .str n::(x.l u++c))):=by rw[←hM5];exact (aO ho4).trans az
  have ho5:=hC5.old ho4
  have hC04:Chg [r,pb] m M4:=hC03.trans hC4 (by intro i hi _;simp at hi ⊢;exact Or.inl hi)
  have hC05:Chg [r,pb] m M5:=hC04.trans hC5 (by simp)
  refine WF.use1H (fY hc (hbase hC05) (hd4.chg hC5 (by simpa using hrp)) [93] (by simp) (by omega)) ?_
  rintro M6 ⟨hd6,hC6⟩
  simp (config:={maxSteps:=1000000}) (disch:=first|assumption|omega|exact ab (by omega)|exact aa (by assumption)|(simp only[ap]<;>omega)) only[go_sem,seval,ag]
  refine hK _ ⟨u,(hC6.get ho5 (by simpa using hpr)).trans hg5, ?_,hd6,hC05.trans hC6 (by intro i hi _;simp at hi ⊢;exact Or.inl hi)⟩
  refine ((hx4.chg hC5 ?_).chg hC6 ?_).new fun i hi=>hC03.old hi
  ·intro i hi;simp only[List.mem_cons,List.not_mem_nil,or_false] at hi;subst hi;exact ho3
  ·intro i hi;simp only[List.mem_cons,List.not_mem_nil,or_false] at hi;subst hi;exact hd3.o
 |false=>
  rw[hb,if_neg Bool.false_ne_true] at hK hd3
  simp (config:={maxSteps:=1000000}) (disch:=first|assumption|omega|exact ab (by omega)|exact aa (by assumption)|(simp only[ap]<;>omega)) only[go_sem,seval,ag]
  exact hK _ ⟨.nils,hg3,Bn _ _ 0 0 0 [],hd3,hC03⟩
end
end FR
open Go Nm Go.Proofs
namespace FR
set_option linter.unusedSimpArgs false
set_option linter.unusedVariables false
def NF (m0:NH) (L:List Tok) (vl:NV) (r:D4) (rest:List NV) (S:Rs->Stm×Rs) (d:Nat):Prop:=∀{m:NH} {s:Rs},Chg [] m0 m->RD m r vl s rest->s.a<=L.length->
 ∃v m',bm Try.prog S0 135 [.ptr r 0,ii d] m v m'/\(∃w,v= .agg ((S s).1.l w)/\RS m' (nZ m) (S s).1 ((S s).1.l w))/\RD m' r vl (S s).2 rest/\Chg [r] m m'
def Nu (m0:NH) (L:List Tok) (vl:NV) (r:D4) (rest:List NV) (B:Rs->List Stm×Rs) (d:Nat):Prop:=∀{m:NH} {s:Rs},Chg [] m0 m->RD m r vl s rest->s.a<=L.length->
 ∃v m',bm Try.prog S0 88 [.ptr r 0,ii d] m v m'/\(∃C,SS m' (nZ m) v (B s).1 C)/\RD m' r vl (B s).2 rest/\Chg [r] m m'
section
variable {m0:NH} {L:List Tok} {vl:NV} {r:D4} {rest:List NV}
theorem kI (d:Nat) (s:Rs):St L s (dG L d s):=by
 unfold dG
 split
 ·exact b7 _ _ _
 ·exact St.refl _ _
theorem Aj (hc:RC m0 L vl r) {S:Rs->Stm×Rs} {d:Nat} (hst:∀s,St L s (S s).2) (hpr:∀s,s.e=0->s.a<(S s).2.a∨(S s).2.e≠0) (hS:d<=29->NF m0 L vl r rest S d) (hd29:∀s:Rs,d=30->True) {m:NH} (h0:Chg [] m0 m) (horm:ay m r)
 {X:List Stm} {Z:Rs} {M:NH} {s:Rs} (hde:s.e≠0∨d<=29) (hd:RD M r vl s rest) (ha:s.a<=L.length) (hC:Chg [r] m M) (hE:gG L S (L.length+1) [] s=(X,Z))
 {t:Tm} (g1:NT.get D4.e t=some (.ptr r 0)) (g2:NT.get D4.e.a t=some (ii d)) (g3:NT.get D4.e.a.a t=some .nils) {Q:Out->Dyn->Prop}
 (hQ:∀t' M' v C,NT.get D4.e.a.a t'=some v->RD M' r vl Z rest->SS M' (nZ m) v X C->Chg [r] m M'->Q (.exit 0) ⟨an [] t', [],none,M'⟩):
 W Try.prog S0 none qZ.loop ⟨t, [],none,M⟩ Q:=by
 refine W.loop (fun k D=>∃t M l s v C,D=⟨t, [],none,M⟩/\NT.get D4.e t=some (.ptr r 0)/\NT.get D4.e.a t=some (ii d)/\NT.get D4.e.a.a t=some v/\(s.e≠0∨d<=29)/\RD M r vl s rest/\bz m M v 21 C/\C.length=l.length/\(∀(j:Nat) (x:Stm) (c:List NV),l[j]? =some x->C[j]? =some c->RS M (fun i=>¬ay m i/\i∉ids v) x c)/\s.a<=L.length/\Chg [r] m M/\gG L S k l s=(X,Z)/\(L.length<k+s.a∨s.e≠0)/\l.length+k<=L.length+1) ?_ (L.length+1) _ ⟨t,M, [],s,.nils, [],rfl,g1,g2,g3,hde,hd,bz.nil,rfl,by simp,ha,hC,hE,Or.inl (by omega),by simp⟩
 clear hde hd ha hC hE g1 g2 g3
 rintro k D ⟨t,M,l,s,v,C,rfl,g1,g2,g3,hde,hd,hv,hcl,hR,ha,hC,hE,hf,hlk⟩
 apply aA
 unfold qZ
 change wp _ _ _ _ ⟨an [] t, [],none,M⟩ _
 have hll:=hc.len
 have hdg:=hd.g
 by_cases he:s.e=0
 ·obtain ⟨f,rfl⟩:∃f',k=f'+1:=⟨k - 1,by rcases hf with h|h<;>omega⟩
  rw[gG,if_neg (by omega)] at hE
  simp (config:={maxSteps:=1000000}) (disch:=first|assumption|omega|exact ab (by omega)|exact aa (by assumption)|(simp only[ap]<;>omega)) only[go_sem,seval,g1,g2,g3,hdg]
  refine WF.use1H (dj hc (hc.chg h0 hC) hd [125] (by simp) (by omega)) ?_
  rintro M2 ⟨hd2,hC2⟩
  have hrv:∀i∈ids v,i∉ [r]:=fun i hi h=>by
   simp only[List.mem_cons,List.not_mem_nil,or_false] at h;subst h;exact hv.new _ hi horm
  have hv2:=hv.chg hC2 hrv
  have hC02:Chg [r] m M2:=hC.trans hC2 fun _ h _=>h
  have hst2:bo (fun i=>¬ay m i/\i∉ids v) M M2:=bo.of hC2 fun i hi hs=>by
   simp only[List.mem_cons,List.not_mem_nil,or_false] at hs;subst hs;exact hi.1 horm
  cases hb:a8 L [125] s with
  |true=>
   rw[hb,if_pos rfl] at hE hd2
   injection hE with e1 e2
   subst e1 e2
   simp (config:={maxSteps:=1000000}) (disch:=first|assumption|omega|exact ab (by omega)|exact aa (by assumption)|(simp only[ap]<;>omega)) only[go_sem,seval,g1,g2,g3,ag]
   exact hQ _ M2 v C (by simp only[go_sem,seval,g3]) hd2 ⟨hv2.sl,fun i hi=>hv2.new i hi,hcl,fun j x c h1 h2=>((hR j x c h1 h2).stays hst2).weak fun i hi=>hi.1⟩ hC02
  |false=>
   rw[hb,if_neg Bool.false_ne_true] at hE hd2
   simp (config:={maxSteps:=1000000}) (disch:=first|assumption|omega|exact ab (by omega)|exact aa (by assumption)|(simp only[ap]<;>omega)) only[go_sem,seval,g1,g2,g3,ag]
   refine WF.useH (hS (by omega) (hc.chg h0 hC02) hd2 ha) ?_
   rintro v3 M3 ⟨⟨w,rfl,hx3⟩,hd3,hC3⟩
   have hlim:=(hst s).lim ha
   have hpr':=hpr s he
   generalize S s=q at hE hx3 hd3 hlim hpr'
   obtain ⟨x,s3⟩:=q
   dsimp only at hE hx3 hd3 hlim hpr'
   have hxl:(x.l w).length=21:=rfl
   have hxl':(x.l w).take 21=x.l w:=rfl
   simp (config:={maxSteps:=1000000}) (disch:=first|assumption|omega|exact ab (by omega)|exact aa (by assumption)|(simp only[ap]<;>omega)) only[go_sem,seval,g1,g2,g3,hxl]
   have hC4:Chg [] M3 (hp [(.n 0,.cells true (x.l w))] 1 M3):=ao rfl
   have hv3:=hv2.chg hC3 hrv
   have hC03:Chg [r] m M3:=hC02.trans hC3 fun _ h _=>h
   refine dR (cs:=x.l w) (hv3.chg hC4 fun _ _=>by simp) av (ab (by omega)) hxl (fun i hi=>hC4.old (hC03.old hi)) (by omega) (by omega) ?_
   intro v5 M5 hv5 hC5 hF5
   generalize hM4:hp [(.n 0,.cells true (x.l w))] 1 M3=M4 at hC4 hC5 hF5
   have hC34:Chg [r] M2 M4:=hC3.trans hC4 (by simp)
   have hd5:RD M5 r vl s3 rest:=(hd3.chg hC4 (by simp)).chg hC5 fun h=>hv.new _ h horm
   have hC05:Chg [r] m M5:=(hC02.trans hC34 fun _ h _=>h).trans hC5 fun i hi ho=>absurd ho (hv.new i hi)
   have hlen5:(l++ [x]).length=l.length+1:=by simp
   simp (config:={maxSteps:=1000000}) (disch:=first|assumption|omega|exact ab (by omega)|exact aa (by assumption)|(simp only[ap]<;>omega)) only[go_sem,seval,g1,g2,g3]
   refine ⟨f,by omega,_,M5,l++ [x],s3,v5,C++ [x.l w],by rfl,by simp only[go_sem,seval,g1],by simp only[go_sem,seval,g2],by simp only[go_sem,seval], ?_,hd5,hv5,by simp[hcl], ?_,hlim,hC05,hE, ?_,by omega⟩
   ·rcases hde with h|h
    ·exact absurd he h
    ·exact Or.inr h
   ·have hold:∀(j:Nat) (y:Stm) (c:List NV),l[j]? =some y->C[j]? =some c->RS M5 (fun i=>¬ay m i/\i∉ids v5) y c:=fun j y c h1 h2=>by
     have a1:=((hR j y c h1 h2).stays hst2).stays (m':=M4) (bo.of hC34 fun i hi hs=>by
      simp only[List.mem_cons,List.not_mem_nil,or_false] at hs;subst hs;exact hi.1 horm)
     have a2:=a1.old.stays (m':=M5) (bo.of hC5 fun i hi hs=>hi.1.2 hs)
     exact a2.weak fun i hi=>⟨hi.1.1,fun h=>(hF5 i h).elim hi.1.2 fun q=>q hi.2⟩
    have hnew:RS M5 (fun i=>¬ay m i/\i∉ids v5) x (x.l w):=by
     have a1:RS M4 (nZ M2) x (x.l w):=hx3.chg hC4 (by simp)
     have a2:=a1.old.stays (m':=M5) (bo.of hC5 fun i hi hs=>hi.1 (hv2.sl.old i hs))
     exact a2.weak fun i hi=>⟨fun h=>hi.1 (hC02.old h),fun h=>(hF5 i h).elim (fun q=>hi.1 (hv2.sl.old i q)) fun q=>q hi.2⟩
    intro j y c h1 h2
    rcases Nat.lt_or_ge j l.length with h|h
    ·rw[List.getElem?_append_left h] at h1
     rw[List.getElem?_append_left (by omega)] at h2
     exact hold j y c h1 h2
    ·rw[List.getElem?_append_right h] at h1
     rw[List.getElem?_append_right (by omega),hcl] at h2
     cases hj:j - l.length with
     |zero=>rw[hj] at h1 h2;cases h1;cases h2;exact hnew
     |succ n=>rw[hj] at h1;simp at h1
   ·rcases hpr' with h|h
    ·left;rcases hf with q|q<;>omega
    ·exact Or.inr h
 ·have hde':decide ((s.e:Int)=0)=false:=decide_eq_false (by omega)
  have hE':(l,s)=(X,Z):=by
   cases k with
   |zero=>exact hE
   |succ k=>rw[gG,if_pos he] at hE;exact hE
  injection hE' with e1 e2
  subst e1 e2
  simp (config:={maxSteps:=1000000}) (disch:=first|assumption|omega|exact ab (by omega)|exact aa (by assumption)|(simp only[ap]<;>omega)) only[go_sem,seval,g1,g2,g3,hdg,hde']
  exact hQ _ M v C (by simp only[go_sem,seval,g3]) hd ⟨hv.sl,fun i hi=>hv.new i hi,hcl,fun j x c h1 h2=>(hR j x c h1 h2).weak fun i hi=>hi.1⟩ hC
theorem zt (hc:RC m0 L vl r) {S:Rs->Stm×Rs} {d:Nat} (hst:∀s,St L s (S s).2) (hpr:∀s,s.e=0->s.a<(S s).2.a∨(S s).2.e≠0) (hS:d<=29->NF m0 L vl r rest S d):Nu m0 L vl r rest (iY L S d) d:=by
 intro m s h0 hd ha
 refine WF.ex fun K hK=> ?_
 refine WF.of_wpG (fun _=>rfl) zk (L:= [(.a .e,ii d),(.e,.ptr r 0)]) rfl ?_
 unfold Iu
 have hll:=hc.len
 have hdg:=hd.g
 refine NK (fun D=>D=⟨an [(D4.e.a.a,.nils),(D4.e.f,.nils),(D4.e.a,ii d),(D4.e,.ptr r 0)] .leaf, [],none,m⟩) (fun R hR=> ?_) ?_
 ·simp (disch:=first|assumption|omega) only[go_sem,seval,ag]
  exact hR _ rfl
 rintro D rfl
 refine gD (fun D=>∃t M,D=⟨t, [],none,M⟩/\NT.get D4.e t=some (.ptr r 0)/\NT.get D4.e.a t=some (ii d)/\NT.get D4.e.a.a t=some .nils/\RD M r vl (dG L d s) rest/\Chg [r] m M) (fun R hR=> ?_) ?_
 ·have no:∀(t:Tm) (M:NH),NT.get D4.e t=some (.ptr r 0)->NT.get D4.e.a t=some (ii d)->NT.get D4.e.a.a t=some .nils->dG L d s=s->Chg [] m M->R ⟨t, [],none,M⟩:=fun t M q1 q2 q3 q4 q5=>hR _ ⟨t,M,rfl,q1,q2,q3,by rw[q4];exact hd.chg q5 (by simp),q5.weak (by simp)⟩
  by_cases he:s.e=0
  ·by_cases h29:29<d
   ·obtain ⟨M1,hr1,hC1⟩:=iW hc h0 hd
    have hd1:=hd.chg hC1 (by simp)
    obtain ⟨M2,hr2,hC2⟩:=iW hc (h0.trans hC1 (by simp)) hd1
    have hd2:=hd1.chg hC2 (by simp)
    have hl0:(aT L s.a).l[0]? =some (ii (aT L s.a).k):=rfl
    have hl1:(aT L s.a).l[1]? =some (.str (aT L s.a).t):=rfl
    by_cases hk:(aT L s.a).k=3
    ·by_cases ht:(aT L s.a).t= [123]
     ·simp (disch:=first|assumption|omega) only[go_sem,seval,hdg,hr1.wf',hr2.wf',hl0,hl1]
      refine WF.use1 (gZ hd2 11) ?_
      rintro M3 ⟨hd3,hC3⟩
      simp (disch:=first|assumption|omega) only[go_sem,seval]
      refine hR _ ⟨_,M3,rfl,by simp only[go_sem,seval],by simp only[go_sem,seval],by simp only[go_sem,seval], ?_,((hC1.trans hC2 (by simp)).weak (by simp)).trans hC3 fun _ h _=>h⟩
      rw[dG,if_pos ⟨he,h29,hk,ht⟩];exact hd3
     ·simp (disch:=first|assumption|omega) only[go_sem,seval,hdg,hr1.wf',hr2.wf',hl0,hl1]
      exact no _ _ (by simp only[go_sem,seval]) (by simp only[go_sem,seval]) (by simp only[go_sem,seval]) (by rw[dG,if_neg (fun h=>ht h.2.2.2)]) (hC1.trans hC2 (by simp))
    ·simp (disch:=first|assumption|omega) only[go_sem,seval,hdg,hr1.wf',hr2.wf',hl0,hl1]
     exact no _ _ (by simp only[go_sem,seval]) (by simp only[go_sem,seval]) (by simp only[go_sem,seval]) (by rw[dG,if_neg (fun h=>hk h.2.2.1)]) hC1
   ·simp (disch:=first|assumption|omega) only[go_sem,seval,hdg]
    exact no _ _ (by simp only[go_sem,seval]) (by simp only[go_sem,seval]) (by simp only[go_sem,seval]) (by rw[dG,if_neg (fun h=>h29 h.2.1)]) (Chg.refl m)
  ·have hde':decide ((s.e:Int)=0)=false:=decide_eq_false (by omega)
   simp (disch:=first|assumption|omega) only[go_sem,seval,hdg,hde']
   exact no _ _ (by simp only[go_sem,seval]) (by simp only[go_sem,seval]) (by simp only[go_sem,seval]) (by rw[dG,if_neg (fun h=>he h.1)]) (Chg.refl m)
 rintro D ⟨t,M,rfl,g1,g2,g3,hdM,hCM⟩
 change wp _ _ _ _ ⟨an [] t, [],none,M⟩ _
 have hst1:=(kI (L:=L) d s).lim ha
 have hst2:=(bR L [123] (dG L d s)).lim hst1
 have hX:gG L S (L.length+1) [] (a9 L [123] (dG L d s))=((iY L S d s).1,(iY L S d s).2):=rfl
 have hdeep:(a9 L [123] (dG L d s)).e≠0∨d<=29:=by
  rcases Nat.lt_or_ge 29 d with h|h
  ·left
   have hff:∀e (s:Rs),e≠0->(bp e s).e≠0:=fun e s h=>by unfold bp;split;exact h;assumption
   by_cases he:s.e=0
   ·by_cases hk:(aT L s.a).k=3/\(aT L s.a).t= [123]
    ·have e1:dG L d s=bp 11 s:=by rw[dG,if_pos ⟨he,h,hk.1,hk.2⟩]
     rw[e1]
     intro q
     exact hff 11 s (by omega) ((bR L [123] _).zero q)
    ·have e1:dG L d s=s:=by rw[dG,if_neg (fun h=>hk ⟨h.2.2.1,h.2.2.2⟩)]
     rw[e1]
     have e2:a8 L [123] s=false:=decide_eq_false fun q=>hk ⟨q.2.1,q.2.2⟩
     rw[a9,e2,if_neg Bool.false_ne_true]
     exact hff 2 s (by omega)
   ·intro q
    exact he ((kI (L:=L) d s).zero ((bR L [123] _).zero q))
  ·exact Or.inr h
 generalize (iY L S d s).1=X at hX hK
 generalize (iY L S d s).2=Z at hX hK
 simp (disch:=first|assumption|omega) only[go_sem,seval,g1,g2,g3]
 refine WF.use1 (fY hc (hc.chg h0 hCM) hdM [123] (by simp) (by omega)) ?_
 rintro M2 ⟨hd2,hC2⟩
 have hC02:Chg [r] m M2:=hCM.trans hC2 fun _ h _=>h
 simp (disch:=first|assumption|omega) only[go_sem,seval,g1,g2,g3]
 refine Aj hc hst hpr hS (fun _ _=>trivial) h0 hd.o hdeep hd2 hst2 hC02 hX (by simp only[go_sem,seval,g1]) (by simp only[go_sem,seval,g2]) (by simp only[go_sem,seval,g3]) ?_
 intro t' M' v C q1 q2 q3 q4
 simp (disch:=first|assumption|omega) only[go_sem,seval,q1]
 exact hK _ _ ⟨⟨C,q3⟩,q2,q4⟩
end
end FR
open Go Nm Go.Proofs
namespace FR
set_option linter.unusedSimpArgs false
set_option linter.unusedVariables false
abbrev TB (m:NH) (b1 b2:D4):D4->Prop:=fun i=>¬ay m i/\i≠b1/\i≠b2
structure SC (m:NH) (r b1 b2:D4) (vl:NV) (rest z:List NV) (M:NH) (s:Rs) (c:List NV):Prop where
 hd:RD M r vl s rest
 g2:M.get b2=some (.cells true c)
 o2:ay M b2
 g1:M.get b1=some (.cells true z)
 o1:ay M b1
 hC:Chg [r] m M
section
variable {m0:NH} {L:List Tok} {vl:NV} {r b1 b2:D4} {rest z:List NV} {m M M':NH} {s s':Rs} {c c':List NV} {l:List (AK×NO)} {k:Nat}
theorem SC.call (h:SC m r b1 b2 vl rest z M s c) (h1:b1≠r) (h2:b2≠r) (hC:Chg [r] M M') (hd:RD M' r vl s' rest):SC m r b1 b2 vl rest z M' s' c:=
 ⟨hd,(hC.get h.o2 (by simpa using h2)).trans h.g2,hC.old h.o2,(hC.get h.o1 (by simpa using h1)).trans h.g1,hC.old h.o1,h.hC.trans hC fun _ h _=>h⟩
theorem SC.grow (h:SC m r b1 b2 vl rest z M s c) (hC:Chg [] M M'):SC m r b1 b2 vl rest z M' s c:=
 ⟨h.hd.chg hC (by simp),(hC.get h.o2 (by simp)).trans h.g2,hC.old h.o2,(hC.get h.o1 (by simp)).trans h.g1,hC.old h.o1,h.hC.trans hC (by simp)⟩
theorem SC.put (h:SC m r b1 b2 vl rest z M s c) (h2:b2≠r) (h12:b1≠b2) (hn:¬ay m b2) (hl:∀i∈aR l,i=b2):SC m r b1 b2 vl rest z (hp ((.o b2,.cells true c')::l) k M) s c':=by
 have hC:Chg [b2] M (hp ((.o b2,.cells true c')::l) k M):=(ao rfl).weak fun i hi _=>by
  simp only[aR,List.mem_cons] at hi ⊢
  rcases hi with rfl|hi
  ·exact Or.inl rfl
  ·exact Or.inl (hl i hi)
 exact ⟨h.hd.chg hC (by simpa using h2.symm),(aO h.o2).trans az,hC.old h.o2,(hC.get h.o1 (by simpa using h12)).trans h.g1,hC.old h.o1,h.hC.trans hC fun i hi ho=>by
  simp only[List.mem_cons,List.not_mem_nil,or_false] at hi;subst hi;exact absurd ho hn⟩
theorem SC.place (h:SC m r b1 b2 vl rest z M s c) (h1:b1≠r) (h12:b1≠b2) (hn:¬ay m b2) (hC:Chg [r,b2] M M') (hd:RD M' r vl s' rest) (hg:M'.get b2=some (.cells true c')):SC m r b1 b2 vl rest z M' s' c':=
 ⟨hd,hg,hC.old h.o2,(hC.get h.o1 (by simp;exact ⟨h1,h12⟩)).trans h.g1,hC.old h.o1,h.hC.trans hC fun i hi ho=>by
  simp only[List.mem_cons,List.not_mem_nil,or_false] at hi
  rcases hi with rfl|rfl
  ·simp
  ·exact absurd ho hn⟩
theorem dP (hr:ay m r) (hC:Chg [r] M M'):bo (TB m b1 b2) M M':=bo.of hC fun i hi hs=>by
 simp only[List.mem_cons,List.not_mem_nil,or_false] at hs;subst hs;exact hi.1 hr
theorem cN (hl:∀i∈aR l,i=b2):bo (TB m b1 b2) M (hp l k M):=bo.of (ao rfl) fun i hi hs=>hi.2.2 (hl i hs)
theorem SC.tb (h:SC m r b1 b2 vl rest z M s c):∀i,nZ M i->TB m b1 b2 i:=fun i hi=>⟨fun q=>hi (h.hC.old q),fun q=>hi (q▸h.o1),fun q=>hi (q▸h.o2)⟩
theorem SS.weak {m:NH} {T T':D4->Prop} (hT':∀i,T i->T' i) {v:NV} {l:List Stm} {C:List (List NV)} (h:SS m T v l C):SS m T' v l C:=⟨h.sl,fun i hi=>hT' i (h.hT i hi),h.len,fun i x c a b=>(h.R i x c a b).weak hT'⟩
theorem s7 (m:NH) (T:D4->Prop):SS m T .nils [] []:=⟨Sl.nil,by simp[ids],rfl,by simp⟩
theorem RS.of {m:NH} {T:D4->Prop} {k a:Int} {nm ce:List Nat} {i x y:Ex} {b e:List Stm} {ui ux uy vb ve:NV} (hi:RE m T i (i.l ui)) (hx:RE m T x (x.l ux)) (hy:RE m T y (y.l uy)) {B E:List (List NV)} (hb:SS m T vb b B) (he:SS m T ve e E):
 RS m T (.mk k a nm ce i x y b e) ((Stm.mk k a nm ce i x y b e).l ⟨ui,ux,uy,vb,ve⟩):= .mk hi hx hy hb.sl hb.hT hb.len hb.R he.sl he.hT he.len he.R
theorem ie (m:NH) (T:D4->Prop):RE m T zE (zE.l .nils):=Bn m T 0 0 0 []
abbrev dO (k p:Int):List NV:= [ii k,ii p,.str [],.str [],ii 0,u64 0,u8 0,.str [],.nils,ii 0,u64 0,u8 0,.str [],.nils,ii 0,u64 0,u8 0,.str [],.nils,.nils,.nils]
end
section
variable {m0:NH} {L:List Tok} {vl:NV} {r:D4} {rest:List NV}
set_option maxHeartbeats 4000000 in
theorem HR (hc:RC m0 L vl r) {B:Rs->List Stm×Rs} {d:Nat} (hst:∀s,St L s (B s).2) (hB:Nu m0 L vl r rest B (d+1)) (hd29:d<=29):NF m0 L vl r rest (cP L B) d:=by
 intro m s h0 hd ha
 refine WF.ex fun K hK=> ?_
 refine WF.of_wpG (fun _=>rfl) ud (L:= [(.a .e,ii d),(.e,.ptr r 0)]) rfl ?_
 unfold Cj
 have hll:=hc.len
 refine Of (fun D=>∃t M b1 b2,D=⟨t, [],none,M⟩/\SC m r b1 b2 vl rest (dO 0 0) M s (dO 0 (aT L s.a).p)/\¬ay m b1/\¬ay m b2/\b1≠b2/\NT.get D4.e t=some (.ptr r 0)/\NT.get D4.e.a t=some (ii d)/\NT.get D4.e.f t=some (.ptr b1 0)/\NT.get D4.e.a.a t=some (.ptr b2 0)/\NT.get D4.e.a.b t=some (.bool true)) (fun R hR=> ?_) ?_
 ·simp (config:={maxSteps:=1000000}) (disch:=first|assumption|omega|exact ab (by omega)|exact aa (by assumption)|(simp only[ap]<;>omega)) only[go_sem,seval]
  generalize hM1:hp _ 1 m=M1
  have hC1:Chg [] m M1:=by rw[←hM1];exact ao rfl
  have g1:M1.get (na m 0)=some (.cells true (dO 0 0)):=by rw[←hM1];exact av
  have o1:ay M1 (na m 0):=by rw[←hM1];exact ab (by omega)
  refine WF.use1H (iW hc (h0.trans hC1 (by simp)) (hd.chg hC1 (by simp))) ?_
  intro M2 hC2
  have hl3:(aT L s.a).l[3]? =some (ii (aT L s.a).p):=rfl
  simp (config:={maxSteps:=1000000}) (disch:=first|assumption|omega|exact ab (by omega)|exact aa (by assumption)|(simp only[ap]<;>omega)) only[go_sem,seval,hl3]
  generalize hM3:hp _ 1 M2=M3
  have hC3:Chg [] M2 M3:=by rw[←hM3];exact ao rfl
  have hC02:=hC1.trans hC2 (by simp)
  have hC03:=hC02.trans hC3 (by simp)
  have o12:=hC2.old o1
  refine hR _ ⟨_,M3,na m 0,na M2 0,rfl,⟨hd.chg hC03 (by simp), ?_, ?_,(hC3.get o12 (by simp)).trans ((hC2.get o1 (by simp)).trans g1),hC3.old o12,hC03.weak (by simp)⟩,aF,fun h=>aF (hC02.old h),fun e=>o12.ne 0 e,by simp only[go_sem,seval],by simp only[go_sem,seval],by simp only[go_sem,seval],by simp only[go_sem,seval],by simp only[go_sem,seval]⟩
  ·rw[←hM3];exact av
  ·rw[←hM3];exact ab (by omega)
 rintro D ⟨t,M,b1,b2,rfl,hs,hn1,hn2,h12,g1,g2,g3,g4,g5⟩
 change wp _ _ _ _ ⟨an [] t, [],none,M⟩ _
 have hr1:b1≠r:=fun e=>hn1 (e▸hd.o)
 have hr2:b2≠r:=fun e=>hn2 (e▸hd.o)
 have hr2':r≠b2:=fun e=>hr2 e.symm
 have hnb2:¬ay m0 b2:=fun h=>hn2 (h0.old h)
 have hro:=hd.o
 refine gD (fun D=>∃t M x w s' q,D=⟨t, [],none,M⟩/\SC m r b1 b2 vl rest (dO 0 0) M s' (x.l w)/\RS M (TB m b1 b2) x (x.l w)/\(x,if q then a9 L [59] s' else s')=cP L B s/\s'.a<=L.length/\NT.get D4.e t=some (.ptr r 0)/\NT.get D4.e.f t=some (.ptr b1 0)/\NT.get D4.e.a.a t=some (.ptr b2 0)/\NT.get D4.e.a.b t=some (.bool q)) (fun R hR=> ?_) ?_
 ·have hbase:∀{M:NH} {s:Rs} {c:List NV},SC m r b1 b2 vl rest (dO 0 0) M s c->Chg [] m0 M:=fun h=>hc.chg h0 h.hC
  have hput:∀{M:NH} {s:Rs} {c c':List NV} {l:List (AK×NO)} {k:Nat},SC m r b1 b2 vl rest (dO 0 0) M s c->(∀i∈aR l,i=b2)->SC m r b1 b2 vl rest (dO 0 0) (hp ((.o b2,.cells true c')::l) k M) s c':=fun h hl=>h.put hr2 h12 hn2 hl
  generalize hpp:((aT L s.a).p:Int)=p at hs
  have fin:∀{t:Tm} {M:NH} {x:Stm} {w:SV} {s':Rs} {q:Bool},SC m r b1 b2 vl rest (dO 0 0) M s' (x.l w)->RS M (TB m b1 b2) x (x.l w)->(x,if q then a9 L [59] s' else s')=cP L B s->s'.a<=L.length->NT.get D4.e t=some (.ptr r 0)->NT.get D4.e.f t=some (.ptr b1 0)->NT.get D4.e.a.a t=some (.ptr b2 0)->NT.get D4.e.a.b t=some (.bool q)->R ⟨t, [],none,M⟩:=fun h1 h2 h3 h4 h5 h6 h7 h8=>hR _ ⟨_,_,_,_,_,_,rfl,h1,h2,h3,h4,h5,h6,h7,h8⟩
  rw[rp]
  simp (config:={maxSteps:=1000000}) (disch:=first|assumption|omega|exact ab (by omega)|exact aa (by assumption)|(simp only[ap]<;>omega)) only[go_sem,seval,g1,g2,g3,g4,g5,ag]
  refine WF.use1H (dj hc (hbase hs) hs.hd [115,101,116] (by simp) (by omega)) ?_
  rintro M0 ⟨hd0,hC0⟩
  cases hb0:a8 L [115,101,116] s with
  |true=>
   obtain ⟨he,hlt⟩:=bG hb0
   have hlim:(aq s).a<=L.length:=hlt
   rw[hb0,if_pos rfl] at hd0
   replace hs:=hs.call hr1 hr2 hC0 hd0
   have hg2:=hs.g2
   have ho2:=hs.o2
   simp (config:={maxSteps:=1000000}) (disch:=first|assumption|omega|exact ab (by omega)|exact aa (by assumption)|(simp only[ap]<;>omega)) only[go_sem,seval,g1,g2,g3,g4,g5,hg2,ag]
   refine WF.use1H (lA hc (hbase hs) hs.hd (by omega)) ?_
   rintro N0_1 ⟨hd,hC⟩
   replace hs:=hs.call hr1 hr2 hC hd
   replace hlim:=(cv L _).lim hlim
   generalize hqs0_2:(bf L (aq s)).2=s0_2 at hs hlim
   generalize hqn0_3:(bf L (aq s)).1=n0_3
   have hg2:=hs.g2
   have ho2:=hs.o2
   simp (config:={maxSteps:=1000000}) (disch:=first|assumption|omega|exact ab (by omega)|exact aa (by assumption)|(simp only[ap]<;>omega)) only[go_sem,seval,g1,g2,g3,g4,g5,hg2]
   generalize hMg:hp _ 0 _=M0_4
   have hs':SC m r b1 b2 vl rest (dO 0 0) M0_4 s0_2 [ii 0,ii p,.str n0_3,.str [],ii 0,u64 0,u8 0,.str [],.nils,ii 0,u64 0,u8 0,.str [],.nils,ii 0,u64 0,u8 0,.str [],.nils,.nils,.nils]:=by rw[←hMg];exact hput hs (by simp[aR])
   clear hMg
   replace hs:=hs'
   refine WF.useH (HL hc (hbase hs) hs.hd hlim) ?_
   rintro v N0_5 ⟨⟨u0_6,rfl,hx⟩,hd,hC⟩
   have tX:=hx.weak hs.tb
   replace hs:=hs.call hr1 hr2 hC hd
   replace hlim:(ei L s0_2).2.a<=L.length:=(cm L 30 _).lim hlim
   generalize hqs0_8:(ei L s0_2).2=s0_8 at hs hlim
   generalize hqx0_7:(ei L s0_2).1=x0_7 at tX
   clear hx hd
   have hxl:(x0_7.l u0_6).length=5:=rfl
   have hg2:=hs.g2
   have ho2:=hs.o2
   simp (config:={maxSteps:=1000000}) (disch:=first|assumption|omega|exact ab (by omega)|exact aa (by assumption)|(simp only[ap]<;>omega)) only[go_sem,seval,g1,g2,g3,g4,g5,hg2]
   generalize hMg:hp _ 0 _=M0_9
   have hs':SC m r b1 b2 vl rest (dO 0 0) M0_9 s0_8 [ii 0,ii p,.str n0_3,.str [],ii 0,u64 0,u8 0,.str [],.nils,ii x0_7.k,u64 x0_7.n,u8 x0_7.o,.str x0_7.s,u0_6,ii 0,u64 0,u8 0,.str [],.nils,.nils,.nils]:=by rw[←hMg];exact hput hs (by simp[aR])
   replace tX:=tX.stays (m':=M0_9) (by rw[←hMg];exact cN (by simp[aR]))
   clear hMg
   replace hs:=hs'
   refine fin (x:= .mk 0 p n0_3 [] zE x0_7 zE [] []) (w:=⟨.nils,u0_6,.nils,.nils,.nils⟩) (s':=s0_8) (q:=true) hs (RS.of (ie _ _) tX (ie _ _) (s7 _ _) (s7 _ _)) ?_ hlim (by simp only[go_sem,seval,g1]) (by simp only[go_sem,seval,g3]) (by simp only[go_sem,seval,g4]) (by simp only[go_sem,seval,g5])
   rw[cP,if_pos hb0,hpp]
   subst hqx0_7 hqs0_8 hqn0_3 hqs0_2
   rfl
  |false=>
  have ne0:¬(a8 L [115,101,116] s=true):=by rw[hb0];exact Bool.false_ne_true
  rw[hb0,if_neg Bool.false_ne_true] at hd0
  replace hs:=hs.call hr1 hr2 hC0 hd0
  simp (config:={maxSteps:=1000000}) (disch:=first|assumption|omega|exact ab (by omega)|exact aa (by assumption)|(simp only[ap]<;>omega)) only[go_sem,seval,g1,g2,g3,g4,g5,ag]
  refine WF.use1H (dj hc (hbase hs) hs.hd [108,111,97,100] (by simp) (by omega)) ?_
  rintro M1 ⟨hd1,hC1⟩
  cases hb1:a8 L [108,111,97,100] s with
  |true=>
   obtain ⟨he,hlt⟩:=bG hb1
   have hlim:(aq s).a<=L.length:=hlt
   rw[hb1,if_pos rfl] at hd1
   replace hs:=hs.call hr1 hr2 hC1 hd1
   have hg2:=hs.g2
   have ho2:=hs.o2
   simp (config:={maxSteps:=1000000}) (disch:=first|assumption|omega|exact ab (by omega)|exact aa (by assumption)|(simp only[ap]<;>omega)) only[go_sem,seval,g1,g2,g3,g4,g5,hg2]
   generalize hMg:hp _ 0 _=M1_1
   have hs':SC m r b1 b2 vl rest (dO 0 0) M1_1 (aq s) [ii 1,ii p,.str [],.str [],ii 0,u64 0,u8 0,.str [],.nils,ii 0,u64 0,u8 0,.str [],.nils,ii 0,u64 0,u8 0,.str [],.nils,.nils,.nils]:=by rw[←hMg];exact hput hs (by simp[aR])
   clear hMg
   replace hs:=hs'
   refine WF.use1H (lA hc (hbase hs) hs.hd (by omega)) ?_
   rintro N1_2 ⟨hd,hC⟩
   replace hs:=hs.call hr1 hr2 hC hd
   replace hlim:=(cv L _).lim hlim
   generalize hqs1_3:(bf L (aq s)).2=s1_3 at hs hlim
   generalize hqn1_4:(bf L (aq s)).1=n1_4
   have hg2:=hs.g2
   have ho2:=hs.o2
   simp (config:={maxSteps:=1000000}) (disch:=first|assumption|omega|exact ab (by omega)|exact aa (by assumption)|(simp only[ap]<;>omega)) only[go_sem,seval,g1,g2,g3,g4,g5,hg2]
   generalize hMg:hp _ 0 _=M1_5
   have hs':SC m r b1 b2 vl rest (dO 0 0) M1_5 s1_3 [ii 1,ii p,.str n1_4,.str [],ii 0,u64 0,u8 0,.str [],.nils,ii 0,u64 0,u8 0,.str [],.nils,ii 0,u64 0,u8 0,.str [],.nils,.nils,.nils]:=by rw[←hMg];exact hput hs (by simp[aR])
   clear hMg
   replace hs:=hs'
   refine WF.use1 (rS hc (hbase hs) hs.hd hlim hr2 hs.o2 hnb2 (by rfl) hs.g2) ?_
   rintro N1_6 ⟨u1_7,hg,hx,hd,hC⟩
   have tI:=hx.weak hs.tb
   replace hs:=hs.place hr1 h12 hn2 hC hd hg
   replace hlim:=(eB (L:=L) s1_3).lim hlim
   generalize hqs1_9:(bn L s1_3).2.2=s1_9 at hs hlim
   generalize hqx1_8:(bn L s1_3).2.1=x1_8 at hs tI
   generalize hqn1_10:(bn L s1_3).1=n1_10 at hs
   clear hx hd hg
   have hg2:=hs.g2
   have ho2:=hs.o2
   simp (config:={maxSteps:=1000000}) (disch:=first|assumption|omega|exact ab (by omega)|exact aa (by assumption)|(simp only[ap]<;>omega)) only[go_sem,seval,g1,g2,g3,g4,g5,hg2,ag]
   refine fin (x:= .mk 1 p n1_4 n1_10 x1_8 zE zE [] []) (w:=⟨u1_7,.nils,.nils,.nils,.nils⟩) (s':=s1_9) (q:=true) hs (RS.of tI (ie _ _) (ie _ _) (s7 _ _) (s7 _ _)) ?_ hlim (by simp only[go_sem,seval,g1]) (by simp only[go_sem,seval,g3]) (by simp only[go_sem,seval,g4]) (by simp only[go_sem,seval,g5])
   rw[cP,if_neg ne0,if_pos hb1,hpp]
   subst hqn1_10 hqx1_8 hqs1_9 hqn1_4 hqs1_3
   rfl
  |false=>
  have ne1:¬(a8 L [108,111,97,100] s=true):=by rw[hb1];exact Bool.false_ne_true
  rw[hb1,if_neg Bool.false_ne_true] at hd1
  replace hs:=hs.call hr1 hr2 hC1 hd1
  simp (config:={maxSteps:=1000000}) (disch:=first|assumption|omega|exact ab (by omega)|exact aa (by assumption)|(simp only[ap]<;>omega)) only[go_sem,seval,g1,g2,g3,g4,g5,ag]
  refine WF.use1H (dj hc (hbase hs) hs.hd [115,116,111,114,101] (by simp) (by omega)) ?_
  rintro M2 ⟨hd2,hC2⟩
  cases hb2:a8 L [115,116,111,114,101] s with
  |true=>
   obtain ⟨he,hlt⟩:=bG hb2
   have hlim:(aq s).a<=L.length:=hlt
   rw[hb2,if_pos rfl] at hd2
   replace hs:=hs.call hr1 hr2 hC2 hd2
   have hg2:=hs.g2
   have ho2:=hs.o2
   simp (config:={maxSteps:=1000000}) (disch:=first|assumption|omega|exact ab (by omega)|exact aa (by assumption)|(simp only[ap]<;>omega)) only[go_sem,seval,g1,g2,g3,g4,g5,hg2]
   generalize hMg:hp _ 0 _=M2_1
   have hs':SC m r b1 b2 vl rest (dO 0 0) M2_1 (aq s) [ii 2,ii p,.str [],.str [],ii 0,u64 0,u8 0,.str [],.nils,ii 0,u64 0,u8 0,.str [],.nils,ii 0,u64 0,u8 0,.str [],.nils,.nils,.nils]:=by rw[←hMg];exact hput hs (by simp[aR])
   clear hMg
   replace hs:=hs'
   refine WF.use1 (rS hc (hbase hs) hs.hd hlim hr2 hs.o2 hnb2 (by rfl) hs.g2) ?_
   rintro N2_2 ⟨u2_3,hg,hx,hd,hC⟩
   have tI:=hx.weak hs.tb
   replace hs:=hs.place hr1 h12 hn2 hC hd hg
   replace hlim:=(eB (L:=L) (aq s)).lim hlim
   generalize hqs2_5:(bn L (aq s)).2.2=s2_5 at hs hlim
   generalize hqx2_4:(bn L (aq s)).2.1=x2_4 at hs tI
   generalize hqn2_6:(bn L (aq s)).1=n2_6 at hs
   clear hx hd hg
   have hg2:=hs.g2
   have ho2:=hs.o2
   simp (config:={maxSteps:=1000000}) (disch:=first|assumption|omega|exact ab (by omega)|exact aa (by assumption)|(simp only[ap]<;>omega)) only[go_sem,seval,g1,g2,g3,g4,g5,hg2,ag]
   refine WF.useH (HL hc (hbase hs) hs.hd hlim) ?_
   rintro v N2_7 ⟨⟨u2_8,rfl,hx⟩,hd,hC⟩
   have tX:=hx.weak hs.tb
   replace hs:=hs.call hr1 hr2 hC hd
   replace tI:=tI.stays (dP hro hC)
   replace hlim:(ei L s2_5).2.a<=L.length:=(cm L 30 _).lim hlim
   generalize hqs2_10:(ei L s2_5).2=s2_10 at hs hlim
   generalize hqx2_9:(ei L s2_5).1=x2_9 at tX
   clear hx hd
   have hxl:(x2_9.l u2_8).length=5:=rfl
   have hg2:=hs.g2
   have ho2:=hs.o2
   simp (config:={maxSteps:=1000000}) (disch:=first|assumption|omega|exact ab (by omega)|exact aa (by assumption)|(simp only[ap]<;>omega)) only[go_sem,seval,g1,g2,g3,g4,g5,hg2]
   generalize hMg:hp _ 0 _=M2_11
   have hs':SC m r b1 b2 vl rest (dO 0 0) M2_11 s2_10 [ii 2,ii p,.str [],.str n2_6,ii x2_4.k,u64 x2_4.n,u8 x2_4.o,.str x2_4.s,u2_3,ii x2_9.k,u64 x2_9.n,u8 x2_9.o,.str x2_9.s,u2_8,ii 0,u64 0,u8 0,.str [],.nils,.nils,.nils]:=by rw[←hMg];exact hput hs (by simp[aR])
   replace tI:=tI.stays (m':=M2_11) (by rw[←hMg];exact cN (by simp[aR]))
   replace tX:=tX.stays (m':=M2_11) (by rw[←hMg];exact cN (by simp[aR]))
   clear hMg
   replace hs:=hs'
   refine fin (x:= .mk 2 p [] n2_6 x2_4 x2_9 zE [] []) (w:=⟨u2_3,u2_8,.nils,.nils,.nils⟩) (s':=s2_10) (q:=true) hs (RS.of tI tX (ie _ _) (s7 _ _) (s7 _ _)) ?_ hlim (by simp only[go_sem,seval,g1]) (by simp only[go_sem,seval,g3]) (by simp only[go_sem,seval,g4]) (by simp only[go_sem,seval,g5])
   rw[cP,if_neg ne0,if_neg ne1,if_pos hb2,hpp]
   subst hqx2_9 hqs2_10 hqn2_6 hqx2_4 hqs2_5
   rfl
  |false=>
  have ne2:¬(a8 L [115,116,111,114,101] s=true):=by rw[hb2];exact Bool.false_ne_true
  rw[hb2,if_neg Bool.false_ne_true] at hd2
  replace hs:=hs.call hr1 hr2 hC2 hd2
  simp (config:={maxSteps:=1000000}) (disch:=first|assumption|omega|exact ab (by omega)|exact aa (by assumption)|(simp only[ap]<;>omega)) only[go_sem,seval,g1,g2,g3,g4,g5,ag]
  refine WF.use1H (dj hc (hbase hs) hs.hd [99,97,115] (by simp) (by omega)) ?_
  rintro M3 ⟨hd3,hC3⟩
  cases hb3:a8 L [99,97,115] s with
  |true=>
   obtain ⟨he,hlt⟩:=bG hb3
   have hlim:(aq s).a<=L.length:=hlt
   rw[hb3,if_pos rfl] at hd3
   replace hs:=hs.call hr1 hr2 hC3 hd3
   have hg2:=hs.g2
   have ho2:=hs.o2
   simp (config:={maxSteps:=1000000}) (disch:=first|assumption|omega|exact ab (by omega)|exact aa (by assumption)|(simp only[ap]<;>omega)) only[go_sem,seval,g1,g2,g3,g4,g5,hg2]
   generalize hMg:hp _ 0 _=M3_1
   have hs':SC m r b1 b2 vl rest (dO 0 0) M3_1 (aq s) [ii 3,ii p,.str [],.str [],ii 0,u64 0,u8 0,.str [],.nils,ii 0,u64 0,u8 0,.str [],.nils,ii 0,u64 0,u8 0,.str [],.nils,.nils,.nils]:=by rw[←hMg];exact hput hs (by simp[aR])
   clear hMg
   replace hs:=hs'
   refine WF.use1H (lA hc (hbase hs) hs.hd (by omega)) ?_
   rintro N3_2 ⟨hd,hC⟩
   replace hs:=hs.call hr1 hr2 hC hd
   replace hlim:=(cv L _).lim hlim
   generalize hqs3_3:(bf L (aq s)).2=s3_3 at hs hlim
   generalize hqn3_4:(bf L (aq s)).1=n3_4
   have hg2:=hs.g2
   have ho2:=hs.o2
   simp (config:={maxSteps:=1000000}) (disch:=first|assumption|omega|exact ab (by omega)|exact aa (by assumption)|(simp only[ap]<;>omega)) only[go_sem,seval,g1,g2,g3,g4,g5,hg2]
   generalize hMg:hp _ 0 _=M3_5
   have hs':SC m r b1 b2 vl rest (dO 0 0) M3_5 s3_3 [ii 3,ii p,.str n3_4,.str [],ii 0,u64 0,u8 0,.str [],.nils,ii 0,u64 0,u8 0,.str [],.nils,ii 0,u64 0,u8 0,.str [],.nils,.nils,.nils]:=by rw[←hMg];exact hput hs (by simp[aR])
   clear hMg
   replace hs:=hs'
   refine WF.use1 (rS hc (hbase hs) hs.hd hlim hr2 hs.o2 hnb2 (by rfl) hs.g2) ?_
   rintro N3_6 ⟨u3_7,hg,hx,hd,hC⟩
   have tI:=hx.weak hs.tb
   replace hs:=hs.place hr1 h12 hn2 hC hd hg
   replace hlim:=(eB (L:=L) s3_3).lim hlim
   generalize hqs3_9:(bn L s3_3).2.2=s3_9 at hs hlim
   generalize hqx3_8:(bn L s3_3).2.1=x3_8 at hs tI
   generalize hqn3_10:(bn L s3_3).1=n3_10 at hs
   clear hx hd hg
   have hg2:=hs.g2
   have ho2:=hs.o2
   simp (config:={maxSteps:=1000000}) (disch:=first|assumption|omega|exact ab (by omega)|exact aa (by assumption)|(simp only[ap]<;>omega)) only[go_sem,seval,g1,g2,g3,g4,g5,hg2,ag]
   refine WF.useH (HL hc (hbase hs) hs.hd hlim) ?_
   rintro v N3_11 ⟨⟨u3_12,rfl,hx⟩,hd,hC⟩
   have tX:=hx.weak hs.tb
   replace hs:=hs.call hr1 hr2 hC hd
   replace tI:=tI.stays (dP hro hC)
   replace hlim:(ei L s3_9).2.a<=L.length:=(cm L 30 _).lim hlim
   generalize hqs3_14:(ei L s3_9).2=s3_14 at hs hlim
   generalize hqx3_13:(ei L s3_9).1=x3_13 at tX
   clear hx hd
   have hxl:(x3_13.l u3_12).length=5:=rfl
   have hg2:=hs.g2
   have ho2:=hs.o2
   simp (config:={maxSteps:=1000000}) (disch:=first|assumption|omega|exact ab (by omega)|exact aa (by assumption)|(simp only[ap]<;>omega)) only[go_sem,seval,g1,g2,g3,g4,g5,hg2]
   generalize hMg:hp _ 0 _=M3_15
   have hs':SC m r b1 b2 vl rest (dO 0 0) M3_15 s3_14 [ii 3,ii p,.str n3_4,.str n3_10,ii x3_8.k,u64 x3_8.n,u8 x3_8.o,.str x3_8.s,u3_7,ii x3_13.k,u64 x3_13.n,u8 x3_13.o,.str x3_13.s,u3_12,ii 0,u64 0,u8 0,.str [],.nils,.nils,.nils]:=by rw[←hMg];exact hput hs (by simp[aR])
   replace tI:=tI.stays (m':=M3_15) (by rw[←hMg];exact cN (by simp[aR]))
   replace tX:=tX.stays (m':=M3_15) (by rw[←hMg];exact cN (by simp[aR]))
   clear hMg
   replace hs:=hs'
   refine WF.useH (HL hc (hbase hs) hs.hd hlim) ?_
   rintro v N3_16 ⟨⟨u3_17,rfl,hx⟩,hd,hC⟩
   have tY:=hx.weak hs.tb
   replace hs:=hs.call hr1 hr2 hC hd
   replace tI:=tI.stays (dP hro hC)
   replace tX:=tX.stays (dP hro hC)
   replace hlim:(ei L s3_14).2.a<=L.length:=(cm L 30 _).lim hlim
   generalize hqs3_19:(ei L s3_14).2=s3_19 at hs hlim
   generalize hqx3_18:(ei L s3_14).1=x3_18 at tY
   clear hx hd
   have hxl:(x3_18.l u3_17).length=5:=rfl
   have hg2:=hs.g2
   have ho2:=hs.o2
   simp (config:={maxSteps:=1000000}) (disch:=first|assumption|omega|exact ab (by omega)|exact aa (by assumption)|(simp only[ap]<;>omega)) only[go_sem,seval,g1,g2,g3,g4,g5,hg2]
   generalize hMg:hp _ 0 _=M3_20
   have hs':SC m r b1 b2 vl rest (dO 0 0) M3_20 s3_19 [ii 3,ii p,.str n3_4,.str n3_10,ii x3_8.k,u64 x3_8.n,u8 x3_8.o,.str x3_8.s,u3_7,ii x3_13.k,u64 x3_13.n,u8 x3_13.o,.str x3_13.s,u3_12,ii x3_18.k,u64 x3_18.n,u8 x3_18.o,.str x3_18.s,u3_17,.nils,.nils]:=by rw[←hMg];exact hput hs (by simp[aR])
   replace tI:=tI.stays (m':=M3_20) (by rw[←hMg];exact cN (by simp[aR]))
   replace tX:=tX.stays (m':=M3_20) (by rw[←hMg];exact cN (by simp[aR]))
   replace tY:=tY.stays (m':=M3_20) (by rw[←hMg];exact cN (by simp[aR]))
   clear hMg
   replace hs:=hs'
   refine fin (x:= .mk 3 p n3_4 n3_10 x3_8 x3_13 x3_18 [] []) (w:=⟨u3_7,u3_12,u3_17,.nils,.nils⟩) (s':=s3_19) (q:=true) hs (RS.of tI tX tY (s7 _ _) (s7 _ _)) ?_ hlim (by simp only[go_sem,seval,g1]) (by simp only[go_sem,seval,g3]) (by simp only[go_sem,seval,g4]) (by simp only[go_sem,seval,g5])
   rw[cP,if_neg ne0,if_neg ne1,if_neg ne2,if_pos hb3,hpp]
   subst hqx3_18 hqs3_19 hqx3_13 hqs3_14 hqn3_10 hqx3_8 hqs3_9 hqn3_4 hqs3_3
   rfl
  |false=>
  have ne3:¬(a8 L [99,97,115] s=true):=by rw[hb3];exact Bool.false_ne_true
  rw[hb3,if_neg Bool.false_ne_true] at hd3
  replace hs:=hs.call hr1 hr2 hC3 hd3
  simp (config:={maxSteps:=1000000}) (disch:=first|assumption|omega|exact ab (by omega)|exact aa (by assumption)|(simp only[ap]<;>omega)) only[go_sem,seval,g1,g2,g3,g4,g5,ag]
  refine WF.use1H (dj hc (hbase hs) hs.hd [102,101,110,99,101] (by simp) (by omega)) ?_
  rintro M4 ⟨hd4,hC4⟩
  cases hb4:a8 L [102,101,110,99,101] s with
  |true=>
   obtain ⟨he,hlt⟩:=bG hb4
   have hlim:(aq s).a<=L.length:=hlt
   rw[hb4,if_pos rfl] at hd4
   replace hs:=hs.call hr1 hr2 hC4 hd4
   have hg2:=hs.g2
   have ho2:=hs.o2
   simp (config:={maxSteps:=1000000}) (disch:=first|assumption|omega|exact ab (by omega)|exact aa (by assumption)|(simp only[ap]<;>omega)) only[go_sem,seval,g1,g2,g3,g4,g5,hg2]
   generalize hMg:hp _ 0 _=M4_1
   have hs':SC m r b1 b2 vl rest (dO 0 0) M4_1 (aq s) [ii 4,ii p,.str [],.str [],ii 0,u64 0,u8 0,.str [],.nils,ii 0,u64 0,u8 0,.str [],.nils,ii 0,u64 0,u8 0,.str [],.nils,.nils,.nils]:=by rw[←hMg];exact hput hs (by simp[aR])
   clear hMg
   replace hs:=hs'
   refine fin (x:= .mk 4 p [] [] zE zE zE [] []) (w:=⟨.nils,.nils,.nils,.nils,.nils⟩) (s':=(aq s)) (q:=true) hs (RS.of (ie _ _) (ie _ _) (ie _ _) (s7 _ _) (s7 _ _)) ?_ hlim (by simp only[go_sem,seval,g1]) (by simp only[go_sem,seval,g3]) (by simp only[go_sem,seval,g4]) (by simp only[go_sem,seval,g5])
   rw[cP,if_neg ne0,if_neg ne1,if_neg ne2,if_neg ne3,if_pos hb4,hpp]
   rfl
  |false=>
  have ne4:¬(a8 L [102,101,110,99,101] s=true):=by rw[hb4];exact Bool.false_ne_true
  rw[hb4,if_neg Bool.false_ne_true] at hd4
  replace hs:=hs.call hr1 hr2 hC4 hd4
  simp (config:={maxSteps:=1000000}) (disch:=first|assumption|omega|exact ab (by omega)|exact aa (by assumption)|(simp only[ap]<;>omega)) only[go_sem,seval,g1,g2,g3,g4,g5,ag]
  refine WF.use1H (dj hc (hbase hs) hs.hd [111,117,116] (by simp) (by omega)) ?_
  rintro M5 ⟨hd5,hC5⟩
  cases hb5:a8 L [111,117,116] s with
  |true=>
   obtain ⟨he,hlt⟩:=bG hb5
   have hlim:(aq s).a<=L.length:=hlt
   rw[hb5,if_pos rfl] at hd5
   replace hs:=hs.call hr1 hr2 hC5 hd5
   have hg2:=hs.g2
   have ho2:=hs.o2
   simp (config:={maxSteps:=1000000}) (disch:=first|assumption|omega|exact ab (by omega)|exact aa (by assumption)|(simp only[ap]<;>omega)) only[go_sem,seval,g1,g2,g3,g4,g5,hg2]
   generalize hMg:hp _ 0 _=M5_1
   have hs':SC m r b1 b2 vl rest (dO 0 0) M5_1 (aq s) [ii 5,ii p,.str [],.str [],ii 0,u64 0,u8 0,.str [],.nils,ii 0,u64 0,u8 0,.str [],.nils,ii 0,u64 0,u8 0,.str [],.nils,.nils,.nils]:=by rw[←hMg];exact hput hs (by simp[aR])
   clear hMg
   replace hs:=hs'
   refine WF.useH (HL hc (hbase hs) hs.hd hlim) ?_
   rintro v N5_2 ⟨⟨u5_3,rfl,hx⟩,hd,hC⟩
   have tX:=hx.weak hs.tb
   replace hs:=hs.call hr1 hr2 hC hd
   replace hlim:(ei L (aq s)).2.a<=L.length:=(cm L 30 _).lim hlim
   generalize hqs5_5:(ei L (aq s)).2=s5_5 at hs hlim
   generalize hqx5_4:(ei L (aq s)).1=x5_4 at tX
   clear hx hd
   have hxl:(x5_4.l u5_3).length=5:=rfl
   have hg2:=hs.g2
   have ho2:=hs.o2
   simp (config:={maxSteps:=1000000}) (disch:=first|assumption|omega|exact ab (by omega)|exact aa (by assumption)|(simp only[ap]<;>omega)) only[go_sem,seval,g1,g2,g3,g4,g5,hg2]
   generalize hMg:hp _ 0 _=M5_6
   have hs':SC m r b1 b2 vl rest (dO 0 0) M5_6 s5_5 [ii 5,ii p,.str [],.str [],ii 0,u64 0,u8 0,.str [],.nils,ii x5_4.k,u64 x5_4.n,u8 x5_4.o,.str x5_4.s,u5_3,ii 0,u64 0,u8 0,.str [],.nils,.nils,.nils]:=by rw[←hMg];exact hput hs (by simp[aR])
   replace tX:=tX.stays (m':=M5_6) (by rw[←hMg];exact cN (by simp[aR]))
   clear hMg
   replace hs:=hs'
   refine fin (x:= .mk 5 p [] [] zE x5_4 zE [] []) (w:=⟨.nils,u5_3,.nils,.nils,.nils⟩) (s':=s5_5) (q:=true) hs (RS.of (ie _ _) tX (ie _ _) (s7 _ _) (s7 _ _)) ?_ hlim (by simp only[go_sem,seval,g1]) (by simp only[go_sem,seval,g3]) (by simp only[go_sem,seval,g4]) (by simp only[go_sem,seval,g5])
   rw[cP,if_neg ne0,if_neg ne1,if_neg ne2,if_neg ne3,if_neg ne4,if_pos hb5,hpp]
   subst hqx5_4 hqs5_5
   rfl
  |false=>
  have ne5:¬(a8 L [111,117,116] s=true):=by rw[hb5];exact Bool.false_ne_true
  rw[hb5,if_neg Bool.false_ne_true] at hd5
  replace hs:=hs.call hr1 hr2 hC5 hd5
  simp (config:={maxSteps:=1000000}) (disch:=first|assumption|omega|exact ab (by omega)|exact aa (by assumption)|(simp only[ap]<;>omega)) only[go_sem,seval,g1,g2,g3,g4,g5,ag]
  refine WF.use1H (dj hc (hbase hs) hs.hd [105,102] (by simp) (by omega)) ?_
  rintro M6 ⟨hd6,hC6⟩
  cases hb6:a8 L [105,102] s with
  |true=>
   obtain ⟨he,hlt⟩:=bG hb6
   have hlim:(aq s).a<=L.length:=hlt
   rw[hb6,if_pos rfl] at hd6
   replace hs:=hs.call hr1 hr2 hC6 hd6
   have hg2:=hs.g2
   have ho2:=hs.o2
   simp (config:={maxSteps:=1000000}) (disch:=first|assumption|omega|exact ab (by omega)|exact aa (by assumption)|(simp only[ap]<;>omega)) only[go_sem,seval,g1,g2,g3,g4,g5,hg2]
   generalize hMg:hp _ 0 _=M6_1
   have hs':SC m r b1 b2 vl rest (dO 0 0) M6_1 (aq s) [ii 6,ii p,.str [],.str [],ii 0,u64 0,u8 0,.str [],.nils,ii 0,u64 0,u8 0,.str [],.nils,ii 0,u64 0,u8 0,.str [],.nils,.nils,.nils]:=by rw[←hMg];exact hput hs (by simp[aR])
   clear hMg
   replace hs:=hs'
   refine WF.useH (HL hc (hbase hs) hs.hd hlim) ?_
   rintro v N6_2 ⟨⟨u6_3,rfl,hx⟩,hd,hC⟩
   have tX:=hx.weak hs.tb
   replace hs:=hs.call hr1 hr2 hC hd
   replace hlim:(ei L (aq s)).2.a<=L.length:=(cm L 30 _).lim hlim
   generalize hqs6_5:(ei L (aq s)).2=s6_5 at hs hlim
   generalize hqx6_4:(ei L (aq s)).1=x6_4 at tX
   clear hx hd
   have hxl:(x6_4.l u6_3).length=5:=rfl
   have hg2:=hs.g2
   have ho2:=hs.o2
   simp (config:={maxSteps:=1000000}) (disch:=first|assumption|omega|exact ab (by omega)|exact aa (by assumption)|(simp only[ap]<;>omega)) only[go_sem,seval,g1,g2,g3,g4,g5,hg2]
   generalize hMg:hp _ 0 _=M6_6
   have hs':SC m r b1 b2 vl rest (dO 0 0) M6_6 s6_5 [ii 6,ii p,.str [],.str [],ii 0,u64 0,u8 0,.str [],.nils,ii x6_4.k,u64 x6_4.n,u8 x6_4.o,.str x6_4.s,u6_3,ii 0,u64 0,u8 0,.str [],.nils,.nils,.nils]:=by rw[←hMg];exact hput hs (by simp[aR])
   replace tX:=tX.stays (m':=M6_6) (by rw[←hMg];exact cN (by simp[aR]))
   clear hMg
   replace hs:=hs'
   refine WF.useH (hB (hbase hs) hs.hd hlim) ?_
   rintro v6_8 N6_7 ⟨⟨C6_9,hx⟩,hd,hC⟩
   have tB:=hx.weak hs.tb
   replace hs:=hs.call hr1 hr2 hC hd
   replace tX:=tX.stays (dP hro hC)
   replace hlim:=(hst s6_5).lim hlim
   generalize hqs6_11:(B s6_5).2=s6_11 at hs hlim
   generalize hql6_10:(B s6_5).1=l6_10 at tB
   clear hx hd
   have hg2:=hs.g2
   have ho2:=hs.o2
   simp (config:={maxSteps:=1000000}) (disch:=first|assumption|omega|exact ab (by omega)|exact aa (by assumption)|(simp only[ap]<;>omega)) only[go_sem,seval,g1,g2,g3,g4,g5,hg2,tB.sl.one]
   generalize hMg:hp _ 0 _=M6_12
   have hs':SC m r b1 b2 vl rest (dO 0 0) M6_12 s6_11 [ii 6,ii p,.str [],.str [],ii 0,u64 0,u8 0,.str [],.nils,ii x6_4.k,u64 x6_4.n,u8 x6_4.o,.str x6_4.s,u6_3,ii 0,u64 0,u8 0,.str [],.nils,v6_8,.nils]:=by rw[←hMg];exact hput hs (by simp[aR])
   replace tX:=tX.stays (m':=M6_12) (by rw[←hMg];exact cN (by simp[aR]))
   replace tB:=tB.stays (m':=M6_12) (by rw[←hMg];exact cN (by simp[aR]))
   clear hMg
   replace hs:=hs'
   refine WF.use1H (dj hc (hbase hs) hs.hd [101,108,115,101] (by simp) (by omega)) ?_
   rintro Me ⟨hde,hCe⟩
   replace hs':=hs.call hr1 hr2 hCe hde
   replace tX:=tX.stays (dP hro hCe)
   replace tB:=tB.stays (dP hro hCe)
   cases hbe:a8 L [101,108,115,101] s6_11 with
   |true=>
    rw[hbe,if_pos rfl] at hs'
    replace hs:=hs'
    have hlim:(aq s6_11).a<=L.length:=(bG hbe).2
    have hg2:=hs.g2
    have ho2:=hs.o2
    simp (config:={maxSteps:=1000000}) (disch:=first|assumption|omega|exact ab (by omega)|exact aa (by assumption)|(simp only[ap]<;>omega)) only[go_sem,seval,g1,g2,g3,g4,g5,hg2,tB.sl.one,ag]
    refine WF.useH (hB (hbase hs) hs.hd hlim) ?_
    rintro v6t_14 N6t_13 ⟨⟨C6t_15,hx⟩,hd,hC⟩
    have tE:=hx.weak hs.tb
    replace hs:=hs.call hr1 hr2 hC hd
    replace tX:=tX.stays (dP hro hC)
    replace tB:=tB.stays (dP hro hC)
    replace hlim:=(hst (aq s6_11)).lim hlim
    generalize hqs6t_17:(B (aq s6_11)).2=s6t_17 at hs hlim
    generalize hql6t_16:(B (aq s6_11)).1=l6t_16 at tE
    clear hx hd
    have hg2:=hs.g2
    have ho2:=hs.o2
    simp (config:={maxSteps:=1000000}) (disch:=first|assumption|omega|exact ab (by omega)|exact aa (by assumption)|(simp only[ap]<;>omega)) only[go_sem,seval,g1,g2,g3,g4,g5,hg2,tB.sl.one,tE.sl.one]
    generalize hMg:hp _ 0 _=M6t_18
    have hs':SC m r b1 b2 vl rest (dO 0 0) M6t_18 s6t_17 [ii 6,ii p,.str [],.str [],ii 0,u64 0,u8 0,.str [],.nils,ii x6_4.k,u64 x6_4.n,u8 x6_4.o,.str x6_4.s,u6_3,ii 0,u64 0,u8 0,.str [],.nils,v6_8,v6t_14]:=by rw[←hMg];exact hput hs (by simp[aR])
    replace tX:=tX.stays (m':=M6t_18) (by rw[←hMg];exact cN (by simp[aR]))
    replace tB:=tB.stays (m':=M6t_18) (by rw[←hMg];exact cN (by simp[aR]))
    replace tE:=tE.stays (m':=M6t_18) (by rw[←hMg];exact cN (by simp[aR]))
    clear hMg
    replace hs:=hs'
    refine fin (x:= .mk 6 p [] [] zE x6_4 zE l6_10 l6t_16) (w:=⟨.nils,u6_3,.nils,v6_8,v6t_14⟩) (s':=s6t_17) (q:=false) hs (RS.of (ie _ _) tX (ie _ _) tB tE) ?_ hlim (by simp only[go_sem,seval,g1]) (by simp only[go_sem,seval,g3]) (by simp only[go_sem,seval,g4]) (by simp only[go_sem,seval,g5])
    rw[cP,if_neg ne0,if_neg ne1,if_neg ne2,if_neg ne3,if_neg ne4,if_neg ne5,if_pos hb6,hpp]
    subst hql6t_16 hqs6t_17 hql6_10 hqs6_11 hqx6_4 hqs6_5
    rw[Kv,if_pos hbe];rfl
   |false=>
    rw[hbe,if_neg Bool.false_ne_true] at hs'
    replace hs:=hs'
    have nee:¬(a8 L [101,108,115,101] s6_11=true):=by rw[hbe];exact Bool.false_ne_true
    have hg2:=hs.g2
    have ho2:=hs.o2
    simp (config:={maxSteps:=1000000}) (disch:=first|assumption|omega|exact ab (by omega)|exact aa (by assumption)|(simp only[ap]<;>omega)) only[go_sem,seval,g1,g2,g3,g4,g5,hg2,tB.sl.one,ag]
    refine fin (x:= .mk 6 p [] [] zE x6_4 zE l6_10 []) (w:=⟨.nils,u6_3,.nils,v6_8,.nils⟩) (s':=s6_11) (q:=false) hs (RS.of (ie _ _) tX (ie _ _) tB (s7 _ _)) ?_ hlim (by simp only[go_sem,seval,g1]) (by simp only[go_sem,seval,g3]) (by simp only[go_sem,seval,g4]) (by simp only[go_sem,seval,g5])
    rw[cP,if_neg ne0,if_neg ne1,if_neg ne2,if_neg ne3,if_neg ne4,if_neg ne5,if_pos hb6,hpp]
    subst hql6_10 hqs6_11 hqx6_4 hqs6_5
    rw[Kv,if_neg nee];rfl
  |false=>
  have ne6:¬(a8 L [105,102] s=true):=by rw[hb6];exact Bool.false_ne_true
  rw[hb6,if_neg Bool.false_ne_true] at hd6
  replace hs:=hs.call hr1 hr2 hC6 hd6
  simp (config:={maxSteps:=1000000}) (disch:=first|assumption|omega|exact ab (by omega)|exact aa (by assumption)|(simp only[ap]<;>omega)) only[go_sem,seval,g1,g2,g3,g4,g5,ag]
  refine WF.use1H (dj hc (hbase hs) hs.hd [119,104,105,108,101] (by simp) (by omega)) ?_
  rintro M7 ⟨hd7,hC7⟩
  cases hb7:a8 L [119,104,105,108,101] s with
  |true=>
   obtain ⟨he,hlt⟩:=bG hb7
   have hlim:(aq s).a<=L.length:=hlt
   rw[hb7,if_pos rfl] at hd7
   replace hs:=hs.call hr1 hr2 hC7 hd7
   have hg2:=hs.g2
   have ho2:=hs.o2
   simp (config:={maxSteps:=1000000}) (disch:=first|assumption|omega|exact ab (by omega)|exact aa (by assumption)|(simp only[ap]<;>omega)) only[go_sem,seval,g1,g2,g3,g4,g5,hg2]
   generalize hMg:hp _ 0 _=M7_1
   have hs':SC m r b1 b2 vl rest (dO 0 0) M7_1 (aq s) [ii 7,ii p,.str [],.str [],ii 0,u64 0,u8 0,.str [],.nils,ii 0,u64 0,u8 0,.str [],.nils,ii 0,u64 0,u8 0,.str [],.nils,.nils,.nils]:=by rw[←hMg];exact hput hs (by simp[aR])
   clear hMg
   replace hs:=hs'
   refine WF.useH (HL hc (hbase hs) hs.hd hlim) ?_
   rintro v N7_2 ⟨⟨u7_3,rfl,hx⟩,hd,hC⟩
   have tX:=hx.weak hs.tb
   replace hs:=hs.call hr1 hr2 hC hd
   replace hlim:(ei L (aq s)).2.a<=L.length:=(cm L 30 _).lim hlim
   generalize hqs7_5:(ei L (aq s)).2=s7_5 at hs hlim
   generalize hqx7_4:(ei L (aq s)).1=x7_4 at tX
   clear hx hd
   have hxl:(x7_4.l u7_3).length=5:=rfl
   have hg2:=hs.g2
   have ho2:=hs.o2
   simp (config:={maxSteps:=1000000}) (disch:=first|assumption|omega|exact ab (by omega)|exact aa (by assumption)|(simp only[ap]<;>omega)) only[go_sem,seval,g1,g2,g3,g4,g5,hg2]
   generalize hMg:hp _ 0 _=M7_6
   have hs':SC m r b1 b2 vl rest (dO 0 0) M7_6 s7_5 [ii 7,ii p,.str [],.str [],ii 0,u64 0,u8 0,.str [],.nils,ii x7_4.k,u64 x7_4.n,u8 x7_4.o,.str x7_4.s,u7_3,ii 0,u64 0,u8 0,.str [],.nils,.nils,.nils]:=by rw[←hMg];exact hput hs (by simp[aR])
   replace tX:=tX.stays (m':=M7_6) (by rw[←hMg];exact cN (by simp[aR]))
   clear hMg
   replace hs:=hs'
   refine WF.useH (hB (hbase hs) hs.hd hlim) ?_
   rintro v7_8 N7_7 ⟨⟨C7_9,hx⟩,hd,hC⟩
   have tB:=hx.weak hs.tb
   replace hs:=hs.call hr1 hr2 hC hd
   replace tX:=tX.stays (dP hro hC)
   replace hlim:=(hst s7_5).lim hlim
   generalize hqs7_11:(B s7_5).2=s7_11 at hs hlim
   generalize hql7_10:(B s7_5).1=l7_10 at tB
   clear hx hd
   have hg2:=hs.g2
   have ho2:=hs.o2
   simp (config:={maxSteps:=1000000}) (disch:=first|assumption|omega|exact ab (by omega)|exact aa (by assumption)|(simp only[ap]<;>omega)) only[go_sem,seval,g1,g2,g3,g4,g5,hg2,tB.sl.one]
   generalize hMg:hp _ 0 _=M7_12
   have hs':SC m r b1 b2 vl rest (dO 0 0) M7_12 s7_11 [ii 7,ii p,.str [],.str [],ii 0,u64 0,u8 0,.str [],.nils,ii x7_4.k,u64 x7_4.n,u8 x7_4.o,.str x7_4.s,u7_3,ii 0,u64 0,u8 0,.str [],.nils,v7_8,.nils]:=by rw[←hMg];exact hput hs (by simp[aR])
   replace tX:=tX.stays (m':=M7_12) (by rw[←hMg];exact cN (by simp[aR]))
   replace tB:=tB.stays (m':=M7_12) (by rw[←hMg];exact cN (by simp[aR]))
   clear hMg
   replace hs:=hs'
   refine fin (x:= .mk 7 p [] [] zE x7_4 zE l7_10 []) (w:=⟨.nils,u7_3,.nils,v7_8,.nils⟩) (s':=s7_11) (q:=false) hs (RS.of (ie _ _) tX (ie _ _) tB (s7 _ _)) ?_ hlim (by simp only[go_sem,seval,g1]) (by simp only[go_sem,seval,g3]) (by simp only[go_sem,seval,g4]) (by simp only[go_sem,seval,g5])
   rw[cP,if_neg ne0,if_neg ne1,if_neg ne2,if_neg ne3,if_neg ne4,if_neg ne5,if_neg ne6,if_pos hb7,hpp]
   subst hql7_10 hqs7_11 hqx7_4 hqs7_5
   rfl
  |false=>
  have ne7:¬(a8 L [119,104,105,108,101] s=true):=by rw[hb7];exact Bool.false_ne_true
  rw[hb7,if_neg Bool.false_ne_true] at hd7
  replace hs:=hs.call hr1 hr2 hC7 hd7
  simp (config:={maxSteps:=1000000}) (disch:=first|assumption|omega|exact ab (by omega)|exact aa (by assumption)|(simp only[ap]<;>omega)) only[go_sem,seval,g1,g2,g3,g4,g5,ag]
  refine WF.use1 (gZ hs.hd 2) ?_
  rintro M9 ⟨hd9,hC9⟩
  replace hs:=hs.call hr1 hr2 hC9 hd9
  have hlim:=(b7 L 2 s).lim ha
  simp (config:={maxSteps:=1000000}) (disch:=first|assumption|omega|exact ab (by omega)|exact aa (by assumption)|(simp only[ap]<;>omega)) only[go_sem,seval,g1,g2,g3,g4,g5]
  refine fin (x:= .mk 0 p [] [] zE zE zE [] []) (w:=⟨.nils,.nils,.nils,.nils,.nils⟩) (s':=bp 2 s) (q:=true) hs (RS.of (ie _ _) (ie _ _) (ie _ _) (s7 _ _) (s7 _ _)) ?_ hlim (by simp only[go_sem,seval,g1]) (by simp only[go_sem,seval,g3]) (by simp only[go_sem,seval,g4]) (by simp only[go_sem,seval,g5])
  rw[cP,if_neg ne0,if_neg ne1,if_neg ne2,if_neg ne3,if_neg ne4,if_neg ne5,if_neg ne6,if_neg ne7,hpp]
  rfl
 clear g1 g2 g3 g4 g5 hs
 rintro D ⟨t,M,x,w,s',q,rfl,hs,hx,hE,ha',g1,g3,g4,g5⟩
 change wp _ _ _ _ ⟨an [] t, [],none,M⟩ _
 rw[←hE] at hK
 have hxl:(x.l w).length=21:=rfl
 have hxl':(x.l w).take 21=x.l w:=rfl
 have fin:∀{M s''},SC m r b1 b2 vl rest (dO 0 0) M s'' (x.l w)->RS M (TB m b1 b2) x (x.l w)->(if q then a9 L [59] s' else s')=s''->K (.agg (x.l w)) (hp [(.o b1,.cells true (x.l w))] 0 M):=fun {M s''} h1 h2 h3=>by
  have hC:Chg [b1] M (hp [(.o b1,.cells true (x.l w))] 0 M):=ao rfl
  refine hK _ _ ⟨⟨w,rfl,(h2.stays (bo.of hC fun i hi hs=> ?_)).weak fun i hi=>hi.1⟩, ?_,h1.hC.trans hC fun i hi ho=> ?_⟩
  ·simp only[List.mem_cons,List.not_mem_nil,or_false] at hs;exact hi.2.1 hs
  ·show RD _ r vl (if q then a9 L [59] s' else s') rest
   rw[h3];exact h1.hd.chg hC (by simpa using fun e=>hr1 e.symm)
  ·simp only[List.mem_cons,List.not_mem_nil,or_false] at hi;subst hi;exact absurd ho hn1
 cases q with
 |true=>
  simp (config:={maxSteps:=1000000}) (disch:=first|assumption|omega|exact ab (by omega)|exact aa (by assumption)|(simp only[ap]<;>omega)) only[go_sem,seval,g1,g3,g4,g5,ag]
  refine WF.use1H (fY hc (hc.chg h0 hs.hC) hs.hd [59] (by simp) (by omega)) ?_
  rintro M2 ⟨hd2,hC2⟩
  have hs2:=hs.call hr1 hr2 hC2 hd2
  have hg2:=hs2.g2
  have hg1:=hs2.g1
  have ho1:=hs2.o1
  have ho2:=hs2.o2
  simp (config:={maxSteps:=1000000}) (disch:=first|assumption|omega|exact ab (by omega)|exact aa (by assumption)|(simp only[ap]<;>omega)) only[go_sem,seval,g1,g3,g4,g5,hg2,hg1,hxl,hxl']
  exact fin hs2 (hx.stays (dP hro hC2)) rfl
 |false=>
  have hg2:=hs.g2
  have hg1:=hs.g1
  have ho1:=hs.o1
  have ho2:=hs.o2
  rw[←ag M]
  simp (config:={maxSteps:=1000000}) (disch:=first|assumption|omega|exact ab (by omega)|exact aa (by assumption)|(simp only[ap]<;>omega)) only[go_sem,seval,g1,g3,g4,g5,hg2,hg1,hxl,hxl']
  exact fin hs hx rfl
end
end FR
