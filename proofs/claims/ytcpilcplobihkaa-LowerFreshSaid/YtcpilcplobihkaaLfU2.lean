/- Contracts of functions that the law LowerFresh reaches, part 2. -/
import Derived.Test.YtcpilcplobihkaaLfU1
open Go Nm Go.Proofs
namespace FR
set_option linter.unusedSimpArgs false
set_option linter.unusedVariables false
section
variable {L:List Tok}
theorem DA {P:Ps} {s:Rs} (h:∀c∈P.cs,0<=c.2/\c.2<=1048576):∀c∈(eF L P s).1.cs,0<=c.2/\c.2<=1048576:=by
 intro c
 unfold eF
 split
 ·intro hc
  rcases List.mem_append.1 hc with hc|hc
  ·exact h c hc
  ·rw[List.mem_singleton] at hc
   subst hc
   unfold pS bC
   split
   ·split
    ·dsimp only;split<;>omega
    ·dsimp only;omega
   ·dsimp only;omega
 ·split
  ·exact h c
  ·exact h c
theorem zJ:∀(f:Nat) (P:Ps) (s:Rs),(∀c∈P.cs,0<=c.2/\c.2<=1048576)->∀c∈(cz L f P s).1.cs,0<=c.2/\c.2<=1048576:=by
 intro f
 induction f with
 |zero=>intro P s h;exact h
 |succ f ih=>
  intro P s h
  rw[cz]
  split
  ·exact h
  ·split
   ·exact h
   ·exact ih _ _ (DA h)
end
theorem vA {b:List Nat} {p:Prg} (h:(hH b).1=some p):∀c∈p.cs,0<=c.2/\c.2<=1048576:=by
 unfold hH at h
 split at h
 ·cases h
 ·split at h
  ·cases h
  ·split at h
   ·cases h
   ·injection h with h
    subst h
    exact zJ _ _ _ (by simp)
def c8 (cs:List (List Nat×Int)) (l:List Stm):Ms:=bf (aA 12 0 0) (jY cs (locals l) l ⟨[],(locals l).length,0⟩)
abbrev JC (l:List Sp):List (List NV):=l.map Sp.l
theorem pN (l:List Stm):(locals l).length<=2*cn l:=by
 have h1:=iV ((bB l).flatMap Stm.own) []
 have h2:=(rj l).2
 unfold locals
 simp only[List.length_nil] at h1
 omega
theorem nt {l:List Stm} (hz:cn l<=400000):(⟨[],(locals l).length,0⟩:Ms).ok (1+16*cn l):=by
 have:=pN l
 exact ⟨by simp;omega,by dsimp only;omega,by dsimp only;omega,by dsimp only;omega,by dsimp only;omega⟩
theorem D9 {B B' m m':NH} {v:NV} {e:Nat} {C:List (List NV)} {t:D4} (h:bL B' m v e C) (hC:Chg [t] m m') (ht:aC B' t) (hb:∀i,aC B i->aC B' i):bL B m' v e C:=
 (h.chg hC fun i hi q=>by
  simp only[List.mem_cons,List.not_mem_nil,or_false] at q;subst q;exact h.new _ hi ht).back hb
theorem D3 {m:NH} {T:D4->Prop} {v vc:NV} {l:List Stm} {C:List (List NV)} {cs:List (List Nat×Int)} (hS:SS m T v l C) (hc:Sl m vc 2 (qg cs)) (hcl:cs.length<=1000000) (hcz:∀c∈cs,0<=c.2/\c.2<=1048576) (hz:cn l<=400000):
 ∃w m',bI Try.prog S0 25 [v,vc] m w m'/\(∃vs,w= .agg [ii (c8 cs l).v,ii (locals l).length,vs]/\bL m m' vs 9 (JC (c8 cs l).st))/\Chg [] m m':=by
 refine WF.ex fun K hK=> ?_
 refine WF.of_wpG (fun _=>rfl) yG (L:= [(.a .e,vc),(.e,v)]) rfl ?_
 unfold IU
 generalize hM1:hp [(.n 0,.cells true [ii 0,ii 0,.nils])] 1 m=M1
 have hC1:Chg [] m M1:=by rw[←hM1];exact an rfl
 have g1:M1.get (na m 0)=some (.cells true [ii 0,ii 0,.nils]):=by rw[←hM1];exact ax
 have o1:aC M1 (na m 0):=by rw[←hM1];exact ab (by omega)
 obtain ⟨vn,m2,r2,hn,hC2⟩:=Cg (hS.stays (qW hC1 T)) (Chg.refl M1) (by omega)
 have o2:=hC2.old o1
 have g2:=(hC2.get o1 (by simp)).trans g1
 have hCm2:=hC1.trans hC2 (by simp)
 have hnl:=hn.sl.len
 have hns:=hn.sl.one
 rw[List.length_map] at hnl
 have hle:=pN l
 have hx:Cx m2 vc vn cs (locals l):=⟨hc.chg hCm2 fun _ _=>by simp,hcl,fun n z h e=>by have:=hcz _ (List.getElem_mem h);omega,hn.sl,by omega⟩
 have hvc:=hx.c.one
 simp (config:={maxSteps:=1000000}) (disch:=first|assumption|omega|exact ab (by omega)|exact aa (by assumption)|(simp only[ao]<;>omega)) only[go_sem,seval,hM1,r2.wf,hnl,hns,hvc]
 generalize hM3:hp _ 1 m2=M3
 have hC3:Chg [] m2 M3:=by rw[←hM3];exact an rfl
 have g3:M3.get (na m2 0)=some (.cells true [vc,vn,ii (locals l).length,ii (locals l).length,.nils,ii 0]):=by rw[←hM3];exact ax
 have k3:MK m2 M3 (na m2 0) vc vn (locals l).length .nils ⟨[],(locals l).length,0⟩:=⟨g3,by rw[←hM3];exact ab (by omega),aI,bL.nil,by simp[ids],hC3⟩
 obtain ⟨m4,r4,v4,k4,e4⟩:=Fa l (hS.stays (qW hCm2 T)) hx k3 (k:=1) (nt hz)
 have ok4:=oY (cs:=cs) (ns:=locals l) (l:=l) (k:=1) (nt hz)
 obtain ⟨m5,r5,v5,k5,e5⟩:=eh k4 (aA 12 0 0) (by have:=ok4.s;omega)
 change MK m2 m5 (na m2 0) vc vn _ v5 (c8 cs l) at k5
 unfold aA at r5
 have g5:=k5.g
 have h5:=k5.s.sl.one
 have o5:=k5.c.old o2
 have g50:=(k5.c.get o2 (by simp)).trans g2
 rw[←ai m5] at r5
 rw[ai] at r5
 simp (config:={maxSteps:=1000000}) (disch:=first|assumption|omega|exact ab (by omega)|exact aa (by assumption)|(simp only[ao]<;>omega)) only[go_sem,seval,r4.wf',r5.wf,g5,h5,g50]
 refine hK _ _ ⟨⟨v5,rfl, ?_⟩, ?_⟩
 ·generalize hM6:hp _ 0 m5=M6
  exact D9 k5.s (by rw[←hM6];exact an rfl) o2 fun i hi=>hCm2.old hi
 ·refine (hCm2.trans k5.c (by simp)).trans (an rfl) fun i hi ho=> ?_
  simp only[aU,List.mem_cons,List.not_mem_nil,or_false] at hi;subst hi;exact absurd ho aI
end FR
open Go Nm Go.Proofs
namespace FR
set_option linter.unusedSimpArgs false
set_option linter.unusedVariables false
def eq (cs:List (List Nat×Int)) (r:List Stm) (l:List (List Nat×List Stm)):Bool:=decide (400<(c8 cs r).v)||l.any fun t=>decide (400<(c8 cs t.2).v)
theorem z6 {cs:List (List Nat×Int)} {r:List Stm} {l:List (List Nat×List Stm)} {i:Nat} (hi:i<l.length):eq cs r (l.take (i+1))=(eq cs r (l.take i)||decide (400<(c8 cs l[i].2).v)):=by
 unfold eq
 rw[List.take_add_one,List.getElem?_eq_getElem hi,List.any_append]
 simp[Bool.or_assoc]
def iG (m:NH) (cs:List (List Nat×Int)) (l:List Stm) (c:List NV) (N:D4->Prop):Prop:=∃vs,c= [ii (c8 cs l).v,ii (locals l).length,vs]/\Sl m vs 9 (JC (c8 cs l).st)/\∀i∈ids vs,N i
structure CodesC (m:NH) (cs:List (List Nat×Int)) (l:List (List Nat×List Stm)) (vl:NV) (C:List (List NV)) (N:D4->Prop):Prop where
 s:Sl m vl 3 C
 n:C.length=l.length
 c:∀(j:Nat) (t:List Nat×List Stm) (c:List NV),l[j]? =some t->C[j]? =some c->iG m cs t.2 c N
def tF (m0 m:NH) (p:Prg) (w:NV):Prop:=
 if (mn p).2≠0 then w= .tup [.agg [ii 0,ii 0,.nils],.nils,ii (mn p).2]
 else if eq p.cs p.r p.ts=true then w= .tup [.agg [ii 0,ii 0,.nils],.nils,ii 3]
 else ∃c vl C,w= .tup [.agg c,vl,ii 0]/\iG m p.cs p.r c (fun i=>¬aC m0 i)/\CodesC m p.cs p.ts vl C (fun i=>¬aC m0 i)
theorem iG.chg {m m':NH} {cs:List (List Nat×Int)} {l:List Stm} {c:List NV} {N N':D4->Prop} {S:List D4} (h:iG m cs l c N) (hC:Chg S m m') (hS:∀i,N i->aC m i->i∉S) (hN:∀i,N i->aC m i->N' i):iG m' cs l c N':=by
 obtain ⟨vs,e,h1,h2⟩:=h
 exact ⟨vs,e,h1.chg hC fun i hi=>hS i (h2 i hi) (h1.old i hi),fun i hi=>hN i (h2 i hi) (h1.old i hi)⟩
theorem Fu {m:NH} {T:D4->Prop} {p:Prg} {vc vt vr:NV} (h:RP m T p vc vt vr) (hs:p.cs.length<=1000000/\p.ts.length<=1000000) (hcz:∀c∈p.cs,0<=c.2/\c.2<=1048576) (hz:∀t∈p.ts,cn t.2<=400000) (hr:cn p.r<=400000):
 ∃w m',bI Try.prog S0 20 [.agg [vc,vt,vr]] m w m'/\tF m m' p w/\Chg [] m m':=by
 refine WF.ex fun K hK=> ?_
 refine WF.of_wpG (fun _=>rfl) yU (L:= [(.e,.agg [vc,vt,vr])]) rfl ?_
 unfold G1
 obtain ⟨hcs,hts⟩:=hs
 generalize hM1:hp [(.n 1,.cells true [ii 0,ii 0,.nils]),(.n 0,.cells true [vc,vt,vr])] 2 m=M1
 have hC1:Chg [] m M1:=by rw[←hM1];exact an rfl
 have g10:M1.get (na m 0)=some (.cells true [vc,vt,vr]):=by rw[←hM1];exact ax
 have g11:M1.get (na m 1)=some (.cells true [ii 0,ii 0,.nils]):=by rw[←hM1];exact ax
 have o10:aC M1 (na m 0):=by rw[←hM1];exact ab (by omega)
 have o11:aC M1 (na m 1):=by rw[←hM1];exact ab (by omega)
 have hne:na m 0≠na m 1:=fun e=>by have:=jF e;omega
 have h1:=h.stays (qW hC1 T)
 obtain ⟨m2,r2,hC2⟩:=KU h1 ⟨hcs,hts⟩ (fun t ht=>by have:=hz t ht;omega) (by omega)
 have g20:=(hC2.get o10 (by simp)).trans g10
 have g21:=(hC2.get o11 (by simp)).trans g11
 have o20:=hC2.old o10
 have o21:=hC2.old o11
 have hCm2:=hC1.trans hC2 (by simp)
 have h2:=h1.stays (qW hC2 T)
 unfold tF at hK
 by_cases hE:(mn p).2≠0
 ·simp only[if_pos hE] at hK
  rw[←ai m2] at g20
  simp (config:={maxSteps:=1000000}) (disch:=first|assumption|omega|exact ab (by omega)|exact aa (by assumption)|(simp only[ao]<;>omega)) only[go_sem,seval,hM1,g10,r2.wf,g21]
  refine hK _ _ ⟨rfl,hCm2.trans (an rfl) fun i hi ho=> ?_⟩
  simp only[aU,List.mem_cons,List.not_mem_nil,or_false] at hi;subst hi;exact absurd ho aI
 ·simp only[if_neg hE] at hK
  have hE0:(mn p).2=0:=by simpa using hE
  rw[hE0] at r2
  obtain ⟨CT,hT⟩:=h2.t
  obtain ⟨CR,hR⟩:=h2.r
  obtain ⟨w3,m3,r3,⟨vs3,rfl,hv3⟩,hC3⟩:=D3 hR h2.c hcs hcz hr
  have hlt:=hT.sl.len
  rw[hT.len] at hlt
  have g30:=(hC3.get o20 (by simp)).trans g20
  have g31:=(hC3.get o21 (by simp)).trans g21
  have o30:=hC3.old o20
  have o31:=hC3.old o21
  have hv31:=hv3.sl.one
  have hd3:decide (400<(c8 p.cs p.r).v)=eq p.cs p.r (p.ts.take 0):=by simp[eq]
  simp (config:={maxSteps:=1000000}) (disch:=first|assumption|omega|exact ab (by omega)|exact aa (by assumption)|(simp only[ao]<;>omega)) only[go_sem,seval,hM1,g10,r2.wf',g20,r3.wf,hlt,hv31,g30,hd3]
  generalize hM4:hp _ 1 m3=M4
  have hC4:Chg [] m3 M4:=by rw[←hM4];exact an rfl
  have g42:M4.get (na m3 0)=some (.cells true [ii (c8 p.cs p.r).v,ii (locals p.r).length,vs3]):=by rw[←hM4];exact ax
  have o42:aC M4 (na m3 0):=by rw[←hM4];exact ab (by omega)
  have g40:=(hC4.get o30 (by simp)).trans g30
  have g41:=(hC4.get o31 (by simp)).trans g31
  have o40:=hC4.old o30
  have o41:=hC4.old o31
  have hCm3:=hCm2.trans hC3 (by simp)
  have hCm4:=hCm3.trans hC4 (by simp)
  have hS3:iG M4 p.cs p.r [ii (c8 p.cs p.r).v,ii (locals p.r).length,vs3] (fun i=>¬aC m i/\aC M4 i/\i≠na m 1):=by
   have h0:=hv3.chg hC4 fun _ _=>by simp
   refine ⟨vs3,rfl,h0.sl,fun i hi=>⟨fun ho=>hv3.new i hi (hCm2.old ho),h0.sl.old i hi,fun e=>hv3.new i hi (e▸o21)⟩⟩
  have hn3:na m3 0≠na m 1:=fun e=>aI (e▸o31)
  refine W.loop (fun k d=>∃t M i vl C,d=⟨t, [],none,M⟩/\NT.get D4.e.a t=some (.ptr (na m 0) 0)/\NT.get D4.e.b t=some (.ptr (na m 1) 0)/\NT.get D4.e.a.c t=some (.ptr (na m3 0) 0)/\NT.get D4.e.a.f t=some (.bool (eq p.cs p.r (p.ts.take i)))/\NT.get D4.e.b.a t=some vl/\NT.get D4.e.a.c.c t=some vt/\NT.get D4.e.a.c.f t=some (ii p.ts.length)/\NT.get D4.e.a.f.a t=some (ii (i:Nat))/\i+k=p.ts.length/\bL M4 M vl 3 C/\C.length=i/\(∀(j:Nat) (t:List Nat×List Stm) (c:List NV),j<i->p.ts[j]? =some t->C[j]? =some c->iG M p.cs t.2 c (fun i=>¬aC M4 i/\i∉ids vl))/\Chg [] M4 M) ?_ p.ts.length _ ⟨_,M4,0,.nils, [],rfl,by simp only[go_sem,seval],by simp only[go_sem,seval],by simp only[go_sem,seval],by simp only[go_sem,seval],by simp only[go_sem,seval],by simp only[go_sem,seval],by simp only[go_sem,seval],by simp only[go_sem,seval]<;>rfl,by omega,bL.nil,rfl,by simp,Chg.refl M4⟩
  rintro k d ⟨t,M,i,vl,C,rfl,t1,t2,t3,t4,t5,t6,t7,t8,hik,hvl,hCl,hcd,hC⟩
  apply aK
  unfold xI
  change wp _ _ _ _ ⟨ak [] t, [],none,M⟩ _
  have g0:=(hC.get o40 (by simp)).trans g40
  have g1:=(hC.get o41 (by simp)).trans g41
  have gs:=(hC.get o42 (by simp)).trans g42
  have o0:=hC.old o40
  have o1:=hC.old o41
  have os:=hC.old o42
  have hCM:=hCm4.trans hC (by simp)
  have hvl1:=hvl.sl.one
  rw[←ai M]
  by_cases hi:i<p.ts.length
  ·obtain ⟨vb,Bb,id,off,wr,c,hSb,a1,a2,a3,a4,a5⟩:=hT.at i hi
   have c1:c[off+1]? =some vb:=bz a5 1 (by omega)
   have hC2M:Chg [] m2 M:=(hC3.trans hC4 (by simp)).trans hC (by simp)
   have a2':=(hC2M.get a3 (by simp)).trans a2
   have hth: [NV.str p.ts[i].1,vb].length=2:=rfl
   have hvb1:=hSb.sl.one
   generalize hM5:hp [(.n 0,.cells true [.str p.ts[i].1,vb]),(.n 0,.cells true [.str [],.nils])] 1 M=M5
   have hC5:Chg [] M M5:=by rw[←hM5];exact an rfl
   have g5:M5.get (na M 0)=some (.cells true [.str p.ts[i].1,vb]):=by rw[←hM5];exact ax
   have o5n:aC M5 (na M 0):=by rw[←hM5];exact ab (by omega)
   have g50:=(hC5.get o0 (by simp)).trans g0
   obtain ⟨w6,m6,r6,⟨vs6,rfl,hv6⟩,hC6⟩:=D3 ((hSb.stays (qW hC2M T)).stays (qW hC5 T)) ((h2.c.chg hC2M fun _ _=>by simp).chg hC5 fun _ _=>by simp) hcs hcz (hz _ (List.getElem_mem hi))
   have hsucc:=z6 (cs:=p.cs) (r:=p.r) hi
   have hv61:=hv6.sl.one
   have hC56:=hC5.trans hC6 (by simp)
   skip
   generalize hbq:eq p.cs p.r (p.ts.take i)=bq at t4 hsucc
   have fin:∀{t':Tm} {M' vl'},bL M4 M' vl' 3 (C++ [[ii (c8 p.cs p.ts[i].2).v,ii (locals p.ts[i].2).length,vs6]])->Chg (na M 0::ids vl) m6 M'->(∀j∈ids vl',j∈ids vl∨¬aC m6 j)->NT.get D4.e.a t'=some (.ptr (na m 0) 0)->NT.get D4.e.b t'=some (.ptr (na m 1) 0)->NT.get D4.e.a.c t'=some (.ptr (na m3 0) 0)->NT.get D4.e.a.f t'=some (.bool (eq p.cs p.r (p.ts.take (i+1))))->NT.get D4.e.b.a t'=some vl'->NT.get D4.e.a.c.c t'=some vt->NT.get D4.e.a.c.f t'=some (ii p.ts.length)->NT.get D4.e.a.f.a t'=some (ii (i+1:Nat))->∃k'<k,∃t M i vl C,(⟨t', [],none,M'⟩:Dyn)=⟨t, [],none,M⟩/\NT.get D4.e.a t=some (.ptr (na m 0) 0)/\NT.get D4.e.b t=some (.ptr (na m 1) 0)/\NT.get D4.e.a.c t=some (.ptr (na m3 0) 0)/\NT.get D4.e.a.f t=some (.bool (eq p.cs p.r (p.ts.take i)))/\NT.get D4.e.b.a t=some vl/\NT.get D4.e.a.c.c t=some vt/\NT.get D4.e.a.c.f t=some (ii p.ts.length)/\NT.get D4.e.a.f.a t=some (ii (i:Nat))/\i+k'=p.ts.length/\bL M4 M vl 3 C/\C.length=i/\(∀(j:Nat) (t:List Nat×List Stm) (c:List NV),j<i->p.ts[j]? =some t->C[j]? =some c->iG M p.cs t.2 c (fun i=>¬aC M4 i/\i∉ids vl))/\Chg [] M4 M:=by
    intro t' M' vl' q1 q2 q3 q4 q5 q6 q7 q8 q9 q10 q11
    have hvo:=hvl.sl.old
    have hC6M:Chg (ids vl) M M':=(hC56.weak (T:=ids vl) (by simp)).trans q2 fun i hi ho=>(List.mem_cons.1 hi).elim (fun e=>absurd (e▸ho) aI) fun q=>q
    refine ⟨k - 1,by omega,_,_,i+1,_,_,rfl,q4,q5,q6,q7,q8,q9,q10,q11,by omega,q1,by simp[hCl],fun j tt cc hj h1 h2=> ?_,hC.trans hC6M fun i hi ho=>absurd ho (hvl.new i hi)⟩
    rcases Nat.lt_or_ge j i with hji|hji
    ·rw[List.getElem?_append_left (by omega)] at h2
     exact (hcd j tt cc hji h1 h2).chg hC6M (fun i hi _=>hi.2) fun i hi ho=>⟨hi.1,fun q=>(q3 i q).elim hi.2 fun q=>q (hC56.old ho)⟩
    ·obtain rfl:j=i:=by omega
     rw[List.getElem?_append_right (by omega),hCl,Nat.sub_self,List.getElem?_cons_zero] at h2
     rw[List.getElem?_eq_getElem hi] at h1
     injection h1 with h1
     injection h2 with h2
     subst h1 h2
     have hnv:∀i∈ids vs6,i∉ids vl:=fun i hi q=>hv6.new i hi (hC5.old (hvo i q))
     have hnv':∀i∈ids vs6,i∉na M 0::ids vl:=fun i hi q=>(List.mem_cons.1 q).elim (fun e=>hv6.new i hi (e▸o5n)) (hnv i hi)
     exact ⟨vs6,rfl,hv6.sl.chg q2 hnv',fun i hi=>⟨fun ho=>hv6.new i hi (hC5.old (hC.old ho)),fun q=>(q3 i q).elim (hnv i hi) fun q=>q (hv6.sl.old i hi)⟩⟩
   cases bq with
   |true=>
    simp (config:={maxSteps:=1000000}) (disch:=first|assumption|omega|exact ab (by omega)|exact aa (by assumption)|(simp only[ao]<;>omega)) only[go_sem,seval,t1,t2,t3,t4,t5,t6,t7,t8,g0,a1,a2',c1,a5,hM5,g5,g50,r6.wf,hv61]
    generalize hM7:hp _ 2 m6=M7
    have hC7:Chg [] m6 M7:=by rw[←hM7];exact an rfl
    have g7:M7.get (na m6 1)=some (.cells true [ii (c8 p.cs p.ts[i].2).v,ii (locals p.ts[i].2).length,vs6]):=by rw[←hM7];exact ax
    have o7:aC M7 (na m6 1):=by rw[←hM7];exact ab (by omega)
    refine gy ((hvl.chg hC56 fun _ _=>by simp).chg hC7 fun _ _=>by simp) g7 o7 rfl (fun i hi=>hC7.old (hC56.old (hC.old hi))) (by omega) (by omega) ?_
    intro vl2 M8 hw hCw8 hFw8
    have hCw:Chg (na M 0::ids vl) m6 M8:=(hC7.weak (T:=na M 0::ids vl) (by simp)).trans hCw8 fun i hi _=>List.mem_cons_of_mem _ hi
    have hFw:∀j∈ids vl2,j∈ids vl∨¬aC m6 j:=fun j hj=>(hFw8 j hj).imp (fun q=>q) fun q ho=>q (hC7.old ho)
    simp (config:={maxSteps:=1000000}) (disch:=first|assumption|omega|exact ab (by omega)|exact aa (by assumption)|(simp only[ao]<;>omega)) only[go_sem,seval,t1,t2,t3,t4,t5,t6,t7,t8,]
    exact fin hw hCw hFw (by simp only[go_sem,seval,t1]) (by simp only[go_sem,seval,t2]) (by simp only[go_sem,seval,t3]) (by simp only[go_sem,seval,t4,hsucc,Bool.true_or]) (by simp only[go_sem,seval]) (by simp only[go_sem,seval,t6]) (by simp only[go_sem,seval,t7]) (by simp only[go_sem,seval]<;>rfl)
   |false=>
    simp (config:={maxSteps:=1000000}) (disch:=first|assumption|omega|exact ab (by omega)|exact aa (by assumption)|(simp only[ao]<;>omega)) only[go_sem,seval,t1,t2,t3,t4,t5,t6,t7,t8,g0,a1,a2',c1,a5,hM5,g5,g50,r6.wf,hv61]
    generalize hM7:hp _ 2 m6=M7
    have hC7:Chg [] m6 M7:=by rw[←hM7];exact an rfl
    have g7:M7.get (na m6 1)=some (.cells true [ii (c8 p.cs p.ts[i].2).v,ii (locals p.ts[i].2).length,vs6]):=by rw[←hM7];exact ax
    have o7:aC M7 (na m6 1):=by rw[←hM7];exact ab (by omega)
    refine gy ((hvl.chg hC56 fun _ _=>by simp).chg hC7 fun _ _=>by simp) g7 o7 rfl (fun i hi=>hC7.old (hC56.old (hC.old hi))) (by omega) (by omega) ?_
    intro vl2 M8 hw hCw8 hFw8
    have hCw:Chg (na M 0::ids vl) m6 M8:=(hC7.weak (T:=na M 0::ids vl) (by simp)).trans hCw8 fun i hi _=>List.mem_cons_of_mem _ hi
    have hFw:∀j∈ids vl2,j∈ids vl∨¬aC m6 j:=fun j hj=>(hFw8 j hj).imp (fun q=>q) fun q ho=>q (hC7.old ho)
    simp (config:={maxSteps:=1000000}) (disch:=first|assumption|omega|exact ab (by omega)|exact aa (by assumption)|(simp only[ao]<;>omega)) only[go_sem,seval,t1,t2,t3,t4,t5,t6,t7,t8,]
    exact fin hw hCw hFw (by simp only[go_sem,seval,t1]) (by simp only[go_sem,seval,t2]) (by simp only[go_sem,seval,t3]) (by simp only[go_sem,seval,t4,hsucc,Bool.false_or]) (by simp only[go_sem,seval]) (by simp only[go_sem,seval,t6]) (by simp only[go_sem,seval,t7]) (by simp only[go_sem,seval]<;>rfl)
  ·have hi':i=p.ts.length:=by omega
   rw[hi',List.take_length] at t4
   have hcc:CodesC M p.cs p.ts vl C (fun i=>¬aC M4 i):=⟨hvl.sl,by omega,fun j tt cc h1 h2=>by
    have hj:j<p.ts.length:=by
     rcases Nat.lt_or_ge j p.ts.length with q|q
     ·exact q
     ·rw[List.getElem?_eq_none q] at h1;cases h1
    exact (hcd j tt cc (by omega) h1 h2).chg (Chg.refl M) (by simp) fun i hi _=>hi.1⟩
   cases hbq:eq p.cs p.r p.ts with
   |true=>
    rw[hbq] at t4
    simp only[if_pos hbq] at hK
    simp (config:={maxSteps:=1000000}) (disch:=first|assumption|omega|exact ab (by omega)|exact aa (by assumption)|(simp only[ao]<;>omega)) only[go_sem,seval,t1,t2,t3,t4,t5,t6,t7,t8,g0,g1,gs]
    refine hK _ _ ⟨rfl,hCM.trans (an rfl) fun i hi ho=> ?_⟩
    simp only[aU,List.mem_cons,List.not_mem_nil,or_false] at hi;subst hi;exact absurd ho aI
   |false=>
    rw[hbq] at t4
    simp only[hbq] at hK
    have hgs1:na m3 0≠na m 1:=hn3
    simp (config:={maxSteps:=1000000}) (disch:=first|assumption|omega|exact ab (by omega)|exact aa (by assumption)|(simp only[ao]<;>omega)) only[go_sem,seval,t1,t2,t3,t4,t5,t6,t7,t8,g0,g1,gs]
    generalize hMz:hp _ 0 M=Mz
    have hCz:Chg [na m 1] M Mz:=by rw[←hMz];exact an rfl
    refine hK _ _ ⟨⟨_,vl,C,rfl, ?_, ?_⟩,hCM.trans hCz fun i hi ho=> ?_⟩
    ·exact (hS3.chg hC (by simp) (N':=fun i=>¬aC m i/\i≠na m 1) fun i hi _=>⟨hi.1,hi.2.2⟩).chg hCz (fun i hi _=>by simpa using hi.2) fun i hi _=>hi.1
    ·have hnn:∀i,¬aC M4 i->i≠na m 1:=fun i hi e=>hi (e▸o41)
     exact ⟨hvl.sl.chg hCz fun i hi q=>hnn i (hvl.new i hi) (by simpa using q),hcc.n,fun j tt cc h1 h2=>(hcc.c j tt cc h1 h2).chg hCz (fun i hi _=>by simpa using hnn i hi) fun i hi _ ho=>hi (hCm4.old ho)⟩
    ·simp only[List.mem_cons,List.not_mem_nil,or_false] at hi;subst hi;exact absurd ho aI
end FR
open Go Nm Go.Proofs
namespace FR
set_option linter.unusedSimpArgs false
set_option linter.unusedVariables false
def cR (s:Sp):List Int:=if s.k=1∨s.k=3∨s.k=6∨s.k=8∨s.k=11 then [s.a] else if s.k=2∨s.k=4 then [s.a,s.b] else if s.k=5 then [s.a,s.b,s.c] else []
def dG (s:Sp):Int:=if s.k=0∨s.k=1∨s.k=2∨s.k=3∨s.k=5 then s.d else -1
def gd (l:List Sp):List Int:=(l.filter fun s=>decide (s.k=9)).map (·.t)
def dD (l:List Sp) (v:Int):Nat:=l.countP fun s=>decide (dG s=v)
def iZ (L:Int):Int->List Sp->Int->Prop
 |v, [],v'=>v=v'
 |v,s::l,v'=>(∀u∈cR s,0<=u/\u<v)/\((dG s<L/\iZ L v l v')∨(dG s=v/\iZ L (v+1) l v'))
theorem mK {L:Int}:∀{a b:List Sp} {v w x:Int},iZ L v a w->iZ L w b x->iZ L v (a++b) x:=by
 intro a
 induction a with
 |nil=>intro b v w x h1 h2;rw[iZ] at h1;subst h1;exact h2
 |cons s a ih=>
  intro b v w x h1 h2
  rw[iZ] at h1
  rw[List.cons_append,iZ]
  exact ⟨h1.1,h1.2.imp (fun q=>⟨q.1,ih q.2 h2⟩) fun q=>⟨q.1,ih q.2 h2⟩⟩
theorem qV {L:Int}:∀{a:List Sp} {v w:Int},iZ L v a w->v<=w:=by
 intro a
 induction a with
 |nil=>intro v w h;rw[iZ] at h;omega
 |cons s a ih=>
  intro v w h
  rw[iZ] at h
  rcases h.2 with q|q
  ·exact ih q.2
  ·have:=ih q.2;omega
theorem jg (a b:List Sp) (v:Int):dD (a++b) v=dD a v+dD b v:=by unfold dD;exact List.countP_append
theorem i0 (s:Sp) (v:Int):dD [s] v=if dG s=v then 1 else 0:=by unfold dD;by_cases h:dG s=v<;>simp[h]
theorem Ai {L:Int}:∀{l:List Sp} {v w:Int},iZ L v l w->L<=v->∀pre:List Sp,(∀u,L<=u->u<v->dD pre u=1)->(∀u,v<=u->dD pre u=0)->
 (∀(k:Nat) (h:k<l.length),(∀u∈cR l[k],0<=u/\u<w/\(L<=u->dD (pre++l.take k) u=1))/\dG l[k]<w)/\∀u,L<=u->u<w->dD (pre++l) u=1:=by
 intro l
 induction l with
 |nil=>
  intro v w h hL pre h1 h2
  rw[iZ] at h
  subst h
  exact ⟨fun k h=>absurd h (by simp),fun u a b=>by rw[List.append_nil];exact h1 u a b⟩
 |cons s l ih=>
  intro v w h hL pre h1 h2
  rw[iZ] at h
  have hw:v<=w/\dG s<w/\((∀(k:Nat) (h:k<l.length),(∀u∈cR l[k],0<=u/\u<w/\(L<=u->dD ((pre++ [s])++l.take k) u=1))/\dG l[k]<w)/\∀u,L<=u->u<w->dD ((pre++ [s])++l) u=1):=by
   rcases h.2 with q|q
   ·have hvw:=qV q.2
    refine ⟨hvw,by omega,ih q.2 hL (pre++ [s]) (fun u a b=> ?_) fun u a=> ?_⟩
    ·rw[jg,i0,if_neg (by omega),h1 u a b]
    ·rw[jg,i0,if_neg (by omega),h2 u a]
   ·have hvw:=qV q.2
    refine ⟨by omega,by omega,ih q.2 (by omega) (pre++ [s]) (fun u a b=> ?_) fun u a=> ?_⟩
    ·rw[jg,i0]
     by_cases hu:u=v
     ·subst hu;rw[if_pos q.1,h2 u (Int.le_refl _)]
     ·rw[if_neg (by omega),h1 u a (by omega)]
    ·rw[jg,i0,if_neg (by omega),h2 u (by omega)]
  obtain ⟨hvw,hs,h3,h4⟩:=hw
  refine ⟨fun k hk=> ?_,fun u a b=>by have:=h4 u a b;rwa [List.append_assoc,List.singleton_append] at this⟩
  cases k with
  |zero=>
   refine ⟨fun u hu=> ?_,hs⟩
   have:=h.1 u hu
   refine ⟨this.1,by omega,fun a=> ?_⟩
   rw[List.take_zero,List.append_nil]
   exact h1 u a this.2
  |succ k=>
   have:=h3 k (by simpa using hk)
   rw[List.append_assoc,List.singleton_append] at this
   exact this
structure Gn (L:Int) (X:Ms) (n:List Sp) (Y:Ms):Prop where
 st:Y.st=X.st++n
 sq:iZ L X.v n Y.v
 lb:X.lb<=Y.lb
 nd:(gd n).Nodup
 rg:∀t∈gd n,X.lb<=t/\t<Y.lb
def Gr (L:Int) (X Y:Ms):Prop:=∃n,Gn L X n Y
section
variable {L:Int} {X Y Z:Ms}
theorem dJ (a b:List Sp):gd (a++b)=gd a++gd b:=by unfold gd;rw[List.filter_append,List.map_append]
theorem Gn.trans {a b:List Sp} (h:Gn L X a Y) (h':Gn L Y b Z):Gn L X (a++b) Z:=
 ⟨by rw[h'.st,h.st,List.append_assoc],mK h.sq h'.sq,by have:=h.lb;have:=h'.lb;omega,by
  rw[dJ,List.nodup_append]
  exact ⟨h.nd,h'.nd,fun x hx y hy e=>by have:=h.rg x hx;have:=h'.rg y hy;omega⟩,
 fun t ht=>by
  rw[dJ,List.mem_append] at ht
  have:=h.lb;have:=h'.lb
  rcases ht with ht|ht
  ·have:=h.rg t ht;omega
  ·have:=h'.rg t ht;omega⟩
theorem Gr.refl (X:Ms):Gr L X X:=⟨[],by simp,rfl,by omega,by simp[gd],by simp[gd]⟩
theorem Gr.trans (h:Gr L X Y) (h':Gr L Y Z):Gr L X Z:=let ⟨a,p⟩:=h;let ⟨b,q⟩:=h';⟨a++b,p.trans q⟩
theorem Gr.v (h:Gr L X Y):X.v<=Y.v:=let ⟨_,p⟩:=h;qV p.sq
theorem gu {s:Sp} (h:s.k≠9):gd [s]= []:=by unfold gd;simp[h]
theorem fA {s:Sp} (hu:∀u∈cR s,0<=u/\u<X.v) (hs:dG s<L) (hk:s.k≠9):Gr L X (bf s X):=
 ⟨[s],rfl,⟨hu,Or.inl ⟨hs,rfl⟩⟩,by simp[bf],by rw[gu hk];simp,by rw[gu hk];simp⟩
theorem kU (n:Int):Gr L X (bp n X):=
 ⟨[⟨0,X.v,0,0,0,0,0,n,0⟩],rfl,⟨by simp[cR],Or.inr ⟨by simp[dG],rfl⟩⟩,by simp[bp,bf],by rw[gu (by simp)];simp,by rw[gu (by simp)];simp⟩
theorem xZ (o:Int) {a b:Int} (ha:0<=a/\a<X.v) (hb:0<=b/\b<X.v):Gr L X (mD o a b X):=
 ⟨[⟨2,X.v,a,b,0,0,0,0,o⟩],rfl,⟨by simp[cR];omega,Or.inr ⟨by simp[dG],rfl⟩⟩,by simp[mD,bf],by rw[gu (by simp)];simp,by rw[gu (by simp)];simp⟩
end
mutual
def Ex.wf:Ex->Prop
 | .mk k _ _ _ ks=>k=0∨k=1∨(k=2/\Nb ks)
def Nb:List Ex->Prop
 | []=>False
 | [_]=>False
 | [a,b]=>a.wf/\b.wf
 |_::_::_::_=>False
end
mutual
def Stm.wf:Stm->Prop
 | .mk _ _ _ _ i x y b e=>i.wf/\x.wf/\y.wf/\mm b/\mm e
def mm:List Stm->Prop
 | []=>True
 |s::l=>s.wf/\mm l
end
theorem yb:∀{l:List Stm},mm l↔∀s∈l,s.wf:=by
 intro l
 induction l with
 |nil=>simp[mm]
 |cons s l ih=>rw[mm,ih];simp
section
variable {ns:List (List Nat)} {cs:List (List Nat×Int)}
theorem CM {s:List Nat} (h:s∈ns):0<=hU ns s/\hU ns s<ns.length:=by
 unfold hU eD
 split
 ·rename_i i hi
  have:=(List.findIdx?_eq_some_iff_findIdx_eq.1 hi).1
  omega
 ·rename_i hn
  rw[List.findIdx?_eq_none_iff] at hn
  have:=hn s h
  simp at this
theorem lY:∀(x:Ex) {X:Ms},x.wf->(∀n∈x.names,n∈ns)->(ns.length:Int)<=X.v->Gr ns.length X (x.lw ns X).2/\0<=(x.lw ns X).1/\(x.lw ns X).1<(x.lw ns X).2.v:=by
 apply Ex.ind (P:=fun x=>∀{X:Ms},x.wf->(∀n∈x.names,n∈ns)->(ns.length:Int)<=X.v->Gr ns.length X (x.lw ns X).2/\0<=(x.lw ns X).1/\(x.lw ns X).1<(x.lw ns X).2.v)
 intro c n o s ks ih X hw hn hX
 rw[Ex.wf] at hw
 rw[Ex.lw]
 rcases hw with rfl|rfl|⟨rfl,hk⟩
 ·rw[if_pos rfl]
  exact ⟨kU n,by dsimp only;omega,by simp[bp,bf];omega⟩
 ·rw[if_neg (by omega),if_pos rfl]
  have:=CM (ns:=ns) (hn s (by rw[Ex.names,if_pos rfl];simp))
  exact ⟨Gr.refl X,this.1,by dsimp only;omega⟩
 ·rw[if_neg (by omega),if_neg (by omega),if_pos rfl]
  rw[Ex.names,if_neg (by omega),if_pos rfl] at hn
  match ks,ih,hk,hn with
  | [a,b],ih,hk,hn=>
   rw[Nb] at hk
   simp only[cg,List.append_nil,List.mem_append] at hn
   rw[Lw]
   obtain ⟨a1,a2,a3⟩:=ih a (by simp) (X:=X) hk.1 (fun n h=>hn n (Or.inl h)) hX
   have a4:=a1.v
   obtain ⟨b1,b2,b3⟩:=ih b (by simp) (X:=(a.lw ns X).2) hk.2 (fun n h=>hn n (Or.inr h)) (by omega)
   have b4:=b1.v
   refine ⟨(a1.trans b1).trans (xZ _ ⟨a2,by omega⟩ ⟨b2,b3⟩),by dsimp only;omega,by simp[mD,bf];omega⟩
theorem Ee {i mk ba L:Int} {X:Ms} (hi:0<=i/\i<X.v):Gr L X (oy i mk ba X).2/\0<=(oy i mk ba X).1/\(oy i mk ba X).1<(oy i mk ba X).2.v:=by
 unfold oy
 dsimp only
 have e1:(bp mk X).v=X.v+1:=rfl
 have e2:(mD 38 i X.v (bp mk X)).v=X.v+1+1:=rfl
 have e3:(bp 8 (mD 38 i X.v (bp mk X))).v=X.v+1+1+1:=rfl
 refine ⟨?_, ?_, ?_⟩
 ·refine (((((kU mk).trans (xZ 38 ?_ ?_)).trans (kU 8)).trans (xZ 42 ?_ ?_)).trans (kU ba)).trans (xZ 43 ?_ ?_)
  all_goals (simp only[bp,mD,bf];omega)
 ·simp only[bp,mD,bf];omega
 ·simp only[bp,mD,bf];omega
theorem oK {s:Stm} {X:Ms} (hw:s.i.wf) (hn:∀n∈s.i.names,n∈ns) (hX:(ns.length:Int)<=X.v):Gr ns.length X (bo cs ns s X).2/\0<=(bo cs ns s X).1/\(bo cs ns s X).1<(bo cs ns s X).2.v:=by
 obtain ⟨a1,a2,a3⟩:=lY (ns:=ns) s.i hw hn hX
 obtain ⟨b1,b2,b3⟩:=Ee (L:=ns.length) (i:=(s.i.lw ns X).1) (mk:=(uH cs (eD (cs.map (·.1)) s.ce) - 1) % 18446744073709551616) (ba:=Lh cs (eD (cs.map (·.1)) s.ce) % 18446744073709551616) (X:=(s.i.lw ns X).2) ⟨a2,a3⟩
 exact ⟨a1.trans b1,b2,b3⟩
theorem u4 {l:List Stm} (h:∀s∈l,∀{X:Ms},s.wf->(∀t∈s.all,∀n∈t.own,n∈ns)->(ns.length:Int)<=X.v->Gr ns.length X (s.lw cs ns X)):∀{X:Ms},mm l->(∀t∈bB l,∀n∈t.own,n∈ns)->(ns.length:Int)<=X.v->Gr ns.length X (jY cs ns l X):=by
 induction l with
 |nil=>intro X _ _ _;rw[jY];exact Gr.refl X
 |cons s l ih=>
  intro X hw hn hX
  rw[mm] at hw
  rw[jY]
  rw[bB] at hn
  have h1:=h s (List.mem_cons_self ..) (X:=X) hw.1 (fun t ht=>hn t (List.mem_append_left _ ht)) hX
  exact h1.trans (ih (fun y hy=>h y (List.mem_cons_of_mem _ hy)) hw.2 (fun t ht=>hn t (List.mem_append_right _ ht)) (by have:=h1.v;omega))
theorem kM (t:Int):gd [aA 9 0 t]= [t]:=by simp[gd,aA]
theorem yk {L:Int} {X Y Z:Ms} (hL:0<=L) (h0:Gr L (du 2 X) Y) (h1:Gr L (bf (aA 9 0 X.lb) Y) Z):Gr L X (bf (aA 9 0 (X.lb+1)) Z):=by
 obtain ⟨n0,p⟩:=h0
 obtain ⟨n1,q⟩:=h1
 have pl:=p.lb
 have ql:=q.lb
 have e2:(du 2 X).lb=X.lb+2:=rfl
 have e3:(bf (aA 9 0 X.lb) Y).lb=Y.lb:=rfl
 have hs:∀t v,iZ L v [aA 9 0 t] v:=fun t v=>⟨by simp[cR,aA],Or.inl ⟨by simp[dG,aA];omega,rfl⟩⟩
 refine ⟨n0++([aA 9 0 X.lb]++(n1++ [aA 9 0 (X.lb+1)])), ?_, ?_, ?_, ?_, ?_⟩
 ·show Z.st++_=_
  rw[q.st]
  show (Y.st++ [_])++n1++_=_
  rw[p.st]
  simp[du]
 ·exact mK p.sq (mK (hs _ _) (mK q.sq (hs _ _)))
 ·show X.lb<=Z.lb;omega
 ·rw[dJ,dJ,dJ,kM,kM]
  rw[List.nodup_append]
  refine ⟨p.nd, ?_,fun x hx y hy e=> ?_⟩
  ·rw[List.singleton_append,List.nodup_cons,List.nodup_append]
   refine ⟨fun hm=> ?_,q.nd,by simp,fun x hx y hy e=> ?_⟩
   ·rcases List.mem_append.1 hm with hm|hm
    ·have:=q.rg _ hm;omega
    ·rw[List.mem_singleton] at hm;omega
   ·have:=q.rg _ hx;rw[List.mem_singleton] at hy;omega
  ·have:=p.rg _ hx
   rcases List.mem_append.1 hy with hy|hy
   ·rw[List.mem_singleton] at hy;omega
   ·rcases List.mem_append.1 hy with hy|hy
    ·have:=q.rg _ hy;omega
    ·rw[List.mem_singleton] at hy;omega
 ·intro t ht
  rw[dJ,dJ,dJ,kM,kM] at ht
  show X.lb<=t/\t<Z.lb
  simp only[List.mem_append,List.mem_singleton] at ht
  rcases ht with ht|ht|ht|ht
  ·have:=p.rg _ ht;omega
  ·omega
  ·have:=q.rg _ ht;omega
  ·omega
theorem HV:∀(s:Stm) {X:Ms},s.wf->(∀t∈s.all,∀n∈t.own,n∈ns)->(ns.length:Int)<=X.v->Gr ns.length X (s.lw cs ns X):=by
 apply Stm.ind (P:=fun s=>∀{X:Ms},s.wf->(∀t∈s.all,∀n∈t.own,n∈ns)->(ns.length:Int)<=X.v->Gr ns.length X (s.lw cs ns X))
 intro k a nm ce i x y b e hb he X hw hn hX
 rw[Stm.wf] at hw
 obtain ⟨hi,hx,hy,hwb,hwe⟩:=hw
 rw[Stm.all] at hn
 have hown:=hn _ (List.mem_cons_self ..)
 rw[Stm.own] at hown
 simp only[List.mem_append] at hown
 have hnB:k=6∨k=7->∀t∈bB b,∀n∈t.own,n∈ns:=fun q t ht=>hn t (List.mem_cons_of_mem _ (List.mem_append_left _ (by rw[if_pos q];exact ht)))
 have hnE:k=6->∀t∈bB e,∀n∈t.own,n∈ns:=fun q t ht=>hn t (List.mem_cons_of_mem _ (List.mem_append_right _ (by rw[if_pos q];exact ht)))
 have hB:∀{X:Ms},mm b->(∀t∈bB b,∀n∈t.own,n∈ns)->(ns.length:Int)<=X.v->Gr ns.length X (jY cs ns b X):=u4 hb
 have hE:∀{X:Ms},mm e->(∀t∈bB e,∀n∈t.own,n∈ns)->(ns.length:Int)<=X.v->Gr ns.length X (jY cs ns e X):=u4 he
 have hL:(0:Int)<=ns.length:=by omega
 have hnm:k=0∨k=1∨k=3->0<=hU ns nm/\hU ns nm<ns.length:=fun q=>CM (hown nm (Or.inl (by rw[if_pos q];simp)))
 have hni:k=1∨k=2∨k=3->∀n∈i.names,n∈ns:=fun q n h=>hown n (Or.inr (Or.inl (by rw[if_pos q];exact h)))
 have hnx:k=0∨k=2∨k=3∨k=5∨k=6∨k=7->∀n∈x.names,n∈ns:=fun q n h=>hown n (Or.inr (Or.inr (Or.inl (by rw[if_pos q];exact h))))
 have hny:k=3->∀n∈y.names,n∈ns:=fun q n h=>hown n (Or.inr (Or.inr (Or.inr (by rw[if_pos q];exact h))))
 rw[Stm.lw]
 split
 ·rename_i q
  obtain ⟨a1,a2,a3⟩:=lY x hx (hnx (by omega)) hX
  refine a1.trans (fA ?_ ?_ ?_)
  ·simp[cR];omega
  ·have:=hnm (by omega);simp[dG];omega
  ·simp
 split
 ·rename_i q
  obtain ⟨a1,a2,a3⟩:=oK (cs:=cs) (s:= .mk k a nm ce i x y b e) hi (hni (by omega)) hX
  refine a1.trans (fA ?_ ?_ ?_)
  ·simp[cR];omega
  ·have:=hnm (by omega);simp[dG];omega
  ·simp
 split
 ·rename_i q
  obtain ⟨a1,a2,a3⟩:=oK (cs:=cs) (s:= .mk k a nm ce i x y b e) hi (hni (by omega)) hX
  have av:=a1.v
  obtain ⟨b1,b2,b3⟩:=lY x hx (hnx (by omega)) (X:=(bo cs ns (.mk k a nm ce i x y b e) X).2) (by omega)
  have bv:=b1.v
  refine (a1.trans b1).trans (fA ?_ ?_ ?_)
  ·simp[cR];omega
  ·simp[dG];omega
  ·simp
 split
 ·rename_i q
  obtain ⟨a1,a2,a3⟩:=oK (cs:=cs) (s:= .mk k a nm ce i x y b e) hi (hni (by omega)) hX
  have av:=a1.v
  obtain ⟨b1,b2,b3⟩:=lY x hx (hnx (by omega)) (X:=(bo cs ns (.mk k a nm ce i x y b e) X).2) (by omega)
  have bv:=b1.v
  obtain ⟨c1,c2,c3⟩:=lY y hy (hny (by omega)) (X:=(x.lw ns (bo cs ns (.mk k a nm ce i x y b e) X).2).2) (by omega)
  have cv:=c1.v
  refine ((a1.trans b1).trans c1).trans (fA ?_ ?_ ?_)
  ·simp[cR];omega
  ·have:=hnm (by omega);simp[dG];omega
  ·simp
 split
 ·exact fA (by simp[cR,aA]) (by simp[dG,aA];omega) (by simp[aA])
 split
 ·obtain ⟨a1,a2,a3⟩:=lY x hx (hnx (by omega)) hX
  exact a1.trans (fA (by simp[cR,aA];omega) (by simp[dG,aA];omega) (by simp[aA]))
 split
 ·rename_i q
  obtain ⟨a1,a2,a3⟩:=lY x hx (hnx (by omega)) (X:=du 2 X) hX
  have av:=a1.v
  have z1:=a1.trans (fA (s:=aA 11 (x.lw ns (du 2 X)).1 X.lb) (by simp[cR,aA];omega) (by simp[dG,aA];omega) (by simp[aA]))
  have zv:=z1.v
  have b1:=hB hwb (hnB (by omega)) (X:=bf (aA 11 (x.lw ns (du 2 X)).1 X.lb) (x.lw ns (du 2 X)).2) (by have:(du 2 X).v=X.v:=rfl;omega)
  have bv:=b1.v
  have j1:=(z1.trans b1).trans (fA (s:=aA 10 0 (X.lb+1)) (by simp[cR,aA]) (by simp[dG,aA];omega) (by simp[aA]))
  have jv:=j1.v
  exact yk hL j1 (hE hwe (hnE (by omega)) (by have:(du 2 X).v=X.v:=rfl;simp only[bf] at jv ⊢;omega))
 split
 ·rename_i q
  obtain ⟨a1,a2,a3⟩:=lY x hx (hnx (by omega)) (X:=bf (aA 9 0 X.lb) (du 2 X)) hX
  have av:=a1.v
  have z1:=a1.trans (fA (s:=aA 11 (x.lw ns (bf (aA 9 0 X.lb) (du 2 X))).1 (X.lb+1)) (fun u hu=>by simp only[cR,aA,reduceCtorEq,if_false,if_true] at hu;simp at hu;subst hu;exact ⟨a2,a3⟩) (by simp[dG,aA];omega) (by simp[aA]))
  have zv:=z1.v
  have b1:=hB hwb (hnB (by omega)) (X:=bf (aA 11 (x.lw ns (bf (aA 9 0 X.lb) (du 2 X))).1 (X.lb+1)) (x.lw ns (bf (aA 9 0 X.lb) (du 2 X))).2) (by have:(bf (aA 9 0 X.lb) (du 2 X)).v=X.v:=rfl;omega)
  have j1:=(z1.trans b1).trans (fA (s:=aA 10 0 X.lb) (by simp[cR,aA]) (by simp[dG,aA];omega) (by simp[aA]))
  exact yk hL (Gr.refl _) j1
 ·exact Gr.refl X
theorem Np {l:List Stm} {X:Ms} (hw:mm l) (hn:∀t∈bB l,∀n∈t.own,n∈ns) (hX:(ns.length:Int)<=X.v):Gr ns.length X (jY cs ns l X):=u4 (fun s _=>HV s) hw hn hX
end
structure Fresh (L V:Int) (st:List Sp):Prop where
 lv:0<=L/\L<=V
 ne:∃n s,st=n++ [s]/\s.k=12
 us:∀(k:Nat) (h:k<st.length),∀u∈cR st[k],0<=u/\u<V/\(L<=u->dD (st.take k) u=1)
 se:∀(k:Nat) (h:k<st.length),dG st[k]<V
 on:∀u,L<=u->u<V->dD st u=1
 la:∀(j k:Nat) (h:k<st.length) (hj:j<k),st[j].k=9->st[k].k=9->st[j].t≠st[k].t
theorem Gf {st:List Sp} (h:(gd st).Nodup):∀(j k:Nat) (h:k<st.length) (hj:j<k),st[j].k=9->st[k].k=9->st[j].t≠st[k].t:=by
 intro j k hk hj e1 e2 e
 have hs:st=st.take k++st[k]::st.drop (k+1):=by rw[←List.drop_eq_getElem_cons hk,List.take_append_drop]
 rw[hs,dJ,List.nodup_append] at h
 refine h.2.2 st[j].t ?_ st[k].t ?_ e
 ·refine List.mem_map_of_mem (f:=fun s:Sp=>s.t) (List.mem_filter.2 ⟨?_,by simpa using e1⟩)
  rw[List.mem_take_iff_getElem]
  exact ⟨j,by omega,rfl⟩
 ·exact List.mem_map_of_mem (f:=fun s:Sp=>s.t) (List.mem_filter.2 ⟨List.mem_cons_self ..,by simpa using e2⟩)
theorem uP {cs:List (List Nat×Int)} {l:List Stm} (hw:mm l):Fresh (locals l).length (c8 cs l).v (c8 cs l).st:=by
 have h:=Np (cs:=cs) (ns:=locals l) (X:=⟨[],(locals l).length,0⟩) hw (fun t ht n hn=>by
  unfold locals
  exact (zq _ _).2 (Or.inr (List.mem_flatMap.2 ⟨t,ht,hn⟩))) (Int.le_refl _)
 obtain ⟨n,g⟩:=h.trans (fA (s:=aA 12 0 0) (by simp[cR,aA]) (by simp[dG,aA];omega) (by simp[aA]))
 have e:(c8 cs l).st=n:=by have:=g.st;rwa [List.nil_append] at this
 have sq:iZ (locals l).length (locals l).length n (c8 cs l).v:=g.sq
 obtain ⟨f1,f2⟩:=Ai sq (Int.le_refl _) [] (fun u a b=>by omega) (fun u a=>by simp[dD])
 simp only[List.nil_append] at f1 f2
 rw[e]
 refine ⟨⟨by omega,qV sq⟩,⟨(jY cs (locals l) l ⟨[],(locals l).length,0⟩).st,aA 12 0 0,by rw[←e];rfl,rfl⟩,fun k h=>(f1 k h).1,fun k h=>(f1 k h).2,f2,Gf g.nd⟩
section
variable {L:List Tok}
def Lo (E:Rs->Ex×Rs):Prop:=∀s,(E s).1.wf
theorem jn:zE.wf:=by rw[zE,Ex.wf];exact Or.inl rfl
theorem mC {E:Rs->Ex×Rs} {d:Nat} (hE:Lo E):Lo (cF L E d):=by
 intro s
 unfold cF
 split
 ·exact jn
 split
 ·exact jn
 split
 ·show (DK _).wf;rw[Ex.wf];exact Or.inl rfl
 split
 ·show (uc _).wf;rw[Ex.wf];exact Or.inr (Or.inl rfl)
 split
 ·exact hE _
 ·exact jn
theorem xS {P:Rs->Ex×Rs} (hP:Lo P):∀(f:Nat) (x:Ex) (s:Rs),x.wf->(eK L P f x s).1.wf:=by
 intro f
 induction f with
 |zero=>intro x s h;exact h
 |succ f ih=>
  intro x s h
  rw[eK]
  split
  ·exact h
  split
  ·exact h
  split
  ·exact h
  ·refine ih _ _ ?_
   rw[Ex.wf]
   exact Or.inr (Or.inr ⟨rfl,h,hP _⟩)
theorem Er:∀(n:Nat),Lo (iJ L n):=by
 intro n
 induction n with
 |zero=>exact fun s=>xS (mC fun s=>jn) _ _ _ (mC (fun s=>jn) s)
 |succ n ih=>exact fun s=>xS (mC ih) _ _ _ (mC ih s)
def JH (B:Rs->List Stm×Rs):Prop:=∀s,mm (B s).1
theorem kj (s:Rs):(eg L s).1.wf:=Er 30 s
theorem nW (s:Rs):(bh L s).2.1.wf:=by
 unfold bh
 split
 ·exact kj _
 ·exact jn
theorem Em {B:Rs->List Stm×Rs} (hB:JH B) (s:Rs):(cC L B s).1.wf:=by
 have z:=jn
 have n:mm []:=by rw[mm];trivial
 unfold cC
 split
 ·show (Stm.mk ..).wf;rw[Stm.wf];exact ⟨z,kj _,z,n,n⟩
 split
 ·show (Stm.mk ..).wf;rw[Stm.wf];exact ⟨nW _,z,z,n,n⟩
 split
 ·show (Stm.mk ..).wf;rw[Stm.wf];exact ⟨nW _,kj _,z,n,n⟩
 split
 ·show (Stm.mk ..).wf;rw[Stm.wf];exact ⟨nW _,kj _,kj _,n,n⟩
 split
 ·show (Stm.mk ..).wf;rw[Stm.wf];exact ⟨z,z,z,n,n⟩
 split
 ·show (Stm.mk ..).wf;rw[Stm.wf];exact ⟨z,kj _,z,n,n⟩
 split
 ·unfold I7
  split
  ·show (Stm.mk ..).wf;rw[Stm.wf];exact ⟨z,kj _,z,hB _,hB _⟩
  ·show (Stm.mk ..).wf;rw[Stm.wf];exact ⟨z,kj _,z,hB _,n⟩
 split
 ·show (Stm.mk ..).wf;rw[Stm.wf];exact ⟨z,kj _,z,hB _,n⟩
 ·show (Stm.mk ..).wf;rw[Stm.wf];exact ⟨z,z,z,n,n⟩
theorem sA {S:Rs->Stm×Rs} (hS:∀s,(S s).1.wf):∀(f:Nat) (l:List Stm) (s:Rs),mm l->mm (fk L S f l s).1:=by
 intro f
 induction f with
 |zero=>intro l s h;exact h
 |succ f ih=>
  intro l s h
  rw[fk]
  split
  ·exact h
  split
  ·exact h
  ·refine ih _ _ (yb.2 fun t ht=> ?_)
   rcases List.mem_append.1 ht with ht|ht
   ·exact yb.1 h t ht
   ·rw[List.mem_singleton] at ht;subst ht;exact hS _
theorem xR:∀(n:Nat),JH (di L n):=by
 intro n
 have n0:mm []:=by rw[mm];trivial
 induction n with
 |zero=>exact fun s=>sA (fun s=>by rw[Stm.wf];exact ⟨jn,jn,jn,n0,n0⟩) _ _ _ n0
 |succ n ih=>exact fun s=>sA (fun s=>Em ih s) _ _ _ n0
def Ls (P:Ps):Prop:=(∀t∈P.ts,mm t.2)/\mm P.rc
theorem Hh {P:Ps} {s:Rs} (h:Ls P):Ls (eF L P s).1:=by
 unfold eF
 split
 ·exact h
 split
 ·refine ⟨fun t ht=> ?_,h.2⟩
  rcases List.mem_append.1 ht with ht|ht
  ·exact h.1 t ht
  ·rw[List.mem_singleton] at ht;subst ht;exact xR 30 _
 ·exact ⟨h.1,xR 30 _⟩
theorem EX:∀(f:Nat) (P:Ps) (s:Rs),Ls P->Ls (cz L f P s).1:=by
 intro f
 induction f with
 |zero=>intro P s h;exact h
 |succ f ih=>
  intro P s h
  rw[cz]
  split
  ·exact h
  split
  ·exact h
  ·exact ih _ _ (Hh h)
end
theorem D2 {b:List Nat} {p:Prg} (h:(hH b).1=some p):(∀t∈p.ts,mm t.2)/\mm p.r:=by
 unfold hH at h
 split at h
 ·cases h
 ·split at h
  ·cases h
  ·split at h
   ·cases h
   ·injection h with h
    subst h
    exact EX (L:=(dC b).1) _ ⟨[], [], [],false⟩ ⟨0,0,0⟩ ⟨by simp,by show mm [];rw[mm];trivial⟩
end FR
open Go Nm Go.Proofs
namespace FR
set_option linter.unusedSimpArgs false
set_option linter.unusedVariables false
theorem Bk {cs:List (List Nat×Int)} {l:List Stm} (hz:cn l<=400000):(c8 cs l).st.length<=1000000000:=by
 have ok4:=oY (cs:=cs) (ns:=locals l) (l:=l) (k:=1) (nt (by omega))
 have:=ok4.s
 unfold c8 bf
 simp;omega
theorem iG.one {m:NH} {cs:List (List Nat×Int)} {l:List Stm} {c:List NV} {N:D4->Prop} (h:iG m cs l c N):bP 4 (.agg c) (.agg c)=true/\c.length=3:=by
 obtain ⟨v,rfl,hv,-⟩:=h
 refine ⟨nL fun w hw=> ?_,rfl⟩
 simp only[List.mem_cons,List.not_mem_nil,or_false] at hw
 rcases hw with rfl|rfl|rfl
 ·trivial
 ·trivial
 ·exact hv.flat
theorem Gz (m:NH) (e:Int):bI Try.prog S0 22 [ii e] m (ii e) m:=by
 have h:∃v m',bI Try.prog S0 22 [ii e] m v m'/\v=ii e/\m'=m:=by
  refine WF.ex fun K hK=> ?_
  refine WF.of_wpG (fun _=>rfl) yd (L:= [(.e,ii e)]) rfl ?_
  unfold G7
  simp (disch:=first|assumption|omega) only[go_sem,seval,ai]
  exact hK _ _ ⟨rfl,rfl⟩
 obtain ⟨v,m',h1,rfl,rfl⟩:=h
 exact h1
end FR
open Go Nm Go.Proofs
namespace FR
set_option linter.unusedSimpArgs false
set_option linter.unusedVariables false
abbrev Ng (l:List Int):List (List NV):=l.map fun u=> [ii u]
theorem G8 {m:NH} {s:Sp}:∃vu m',bI Try.prog S0 27 [.agg s.l] m vu m'/\Sl m' vu 1 (Ng (cR s))/\Chg [] m m':=by
 refine WF.ex fun K hK=> ?_
 refine WF.of_wpG (fun _=>rfl) zb (L:= [(.e,.agg s.l)]) rfl ?_
 unfold HL
 unfold cR at hK
 by_cases h1:s.k=1∨s.k=3∨s.k=6∨s.k=8∨s.k=11
 ·rw[if_pos h1] at hK
  rcases h1 with h|h|h|h|h
  all_goals
   simp (config:={maxSteps:=1000000}) (disch:=first|assumption|omega|exact ab (by omega)|exact aa (by assumption)|(simp only[ao]<;>omega)) only[go_sem,seval]
   generalize hM:hp _ 2 m=M at hK ⊢
   exact hK _ _ ⟨(bL.of (B:=m) (by simp) aI (by rw[←hM];exact ax) (by rw[←hM];exact ab (by omega)) (by rfl) (by rfl) (by rfl)).sl,by rw[←hM];exact an rfl⟩
 ·rw[if_neg h1] at hK
  simp only[not_or] at h1
  by_cases h2:s.k=2∨s.k=4
  ·rw[if_pos h2] at hK
   rcases h2 with h|h
   all_goals
    simp (config:={maxSteps:=1000000}) (disch:=first|assumption|omega|exact ab (by omega)|exact aa (by assumption)|(simp only[ao]<;>omega)) only[go_sem,seval]
    generalize hM:hp _ 2 m=M at hK ⊢
    exact hK _ _ ⟨(bL.of (B:=m) (by simp) aI (by rw[←hM];exact ax) (by rw[←hM];exact ab (by omega)) (by rfl) (by rfl) (by rfl)).sl,by rw[←hM];exact an rfl⟩
  ·rw[if_neg h2] at hK
   simp only[not_or] at h2
   by_cases h3:s.k=5
   ·rw[if_pos h3] at hK
    simp (config:={maxSteps:=1000000}) (disch:=first|assumption|omega|exact ab (by omega)|exact aa (by assumption)|(simp only[ao]<;>omega)) only[go_sem,seval]
    generalize hM:hp _ 2 m=M at hK ⊢
    exact hK _ _ ⟨(bL.of (B:=m) (by simp) aI (by rw[←hM];exact ax) (by rw[←hM];exact ab (by omega)) (by rfl) (by rfl) (by rfl)).sl,by rw[←hM];exact an rfl⟩
   ·rw[if_neg h3] at hK
    simp (config:={maxSteps:=1000000}) (disch:=first|assumption|omega|exact ab (by omega)|exact aa (by assumption)|(simp only[ao]<;>omega)) only[go_sem,seval]
    exact hK _ _ ⟨Sl.nil,an rfl⟩
theorem II {m:NH} {s:Sp}:∃m',bI Try.prog S0 28 [.agg s.l] m (ii (dG s)) m'/\Chg [] m m':=by
 refine WF.ex1 fun K hK=> ?_
 refine WF.of_wpG (fun _=>rfl) xU (L:= [(.e,.agg s.l)]) rfl ?_
 unfold Hm
 unfold dG at hK
 by_cases h1:s.k=0∨s.k=1∨s.k=2∨s.k=3∨s.k=5
 ·rw[if_pos h1] at hK
  rcases h1 with h|h|h|h|h
  all_goals
   simp (config:={maxSteps:=1000000}) (disch:=first|assumption|omega|exact ab (by omega)|exact aa (by assumption)|(simp only[ao]<;>omega)) only[go_sem,seval]
   exact hK _ (an rfl)
 ·rw[if_neg h1] at hK
  simp only[not_or] at h1
  simp (config:={maxSteps:=1000000}) (disch:=first|assumption|omega|exact ab (by omega)|exact aa (by assumption)|(simp only[ao]<;>omega)) only[go_sem,seval]
  exact hK _ (an rfl)
def qf (pre:List Sp) (V:Nat):List (List NV):=(List.range V).map fun v=> [ii (dD pre (v:Nat))]
theorem lf {pre:List Sp} {V n:Nat} (h:n<(qf pre V).length):(qf pre V)[n]= [ii (dD pre (n:Nat))]:=(List.getElem_map ..).trans (by rw[List.getElem_range])
theorem rC (pre:List Sp) (V:Nat):(qf pre V).length=V:=by unfold qf;simp
theorem E4 {pre:List Sp} {s:Sp} {V n:Nat} (h:dG s=n):qf (pre++ [s]) V=(qf pre V).set n [ii (dD pre (n:Nat)+1)]:=by
 apply List.ext_getElem
 ·simp[qf]
 ·intro j h1 h2
  rw[List.getElem_set,lf,jg,i0]
  by_cases e:n=j
  ·subst e;rw[if_pos rfl,if_pos h];rfl
  ·rw[if_neg e,lf,if_neg (by omega)];rfl
theorem Cv {pre:List Sp} {s:Sp} {V:Nat} (h:dG s<0):qf (pre++ [s]) V=qf pre V:=by
 unfold qf
 congr 1
 funext v
 rw[jg,i0,if_neg (by omega)];rfl
theorem KX {N:NH} {vu vset vl vst:NV} {us:List Int} {idc:D4} {pre:List Sp} {V:Nat} {L k i:Int} (hu:Sl N vu 1 (Ng us)) (hc:N.get idc=some (.cells true [ii V,ii L,vst])) (ho:aC N idc) (hs:Sl N vset 1 (qf pre V)) (hus:∀u∈us,0<=u/\u<V/\(L<=u->dD pre u=1)) (hul:us.length<=10) {t:Tm} (t1:NT.get D4.e.a.f t=some vl) (t2:NT.get D4.e.b.b t=some (ii i)) (t3:NT.get D4.e.b.c t=some (.ptr idc 0)) (t4:NT.get D4.e.b.f t=some vset) (t5:NT.get D4.e.c.a t=some (ii k)) (t6:NT.get D4.e.c.b t=some vu) (t7:NT.get D4.e.c.c t=some (ii 0)) {Q:Out->Dyn->Prop}
 (hQ:∀t',NT.get D4.e.a.f t'=some vl->NT.get D4.e.b.b t'=some (ii i)->NT.get D4.e.b.c t'=some (.ptr idc 0)->NT.get D4.e.b.f t'=some vset->NT.get D4.e.c.a t'=some (ii k)->Q (.exit 4) ⟨ak [] t', [],none,N⟩):
 W Try.prog S0 none wu.loop ⟨t, [],none,N⟩ Q:=by
 refine W.loop (fun f d=>∃t j,d=⟨t, [],none,N⟩/\NT.get D4.e.a.f t=some vl/\NT.get D4.e.b.b t=some (ii i)/\NT.get D4.e.b.c t=some (.ptr idc 0)/\NT.get D4.e.b.f t=some vset/\NT.get D4.e.c.a t=some (ii k)/\NT.get D4.e.c.b t=some vu/\NT.get D4.e.c.c t=some (ii (j:Nat))/\j+f=us.length) ?_ us.length _ ⟨t,0,rfl,t1,t2,t3,t4,t5,t6,t7,by omega⟩
 rintro f d ⟨t,j,rfl,t1,t2,t3,t4,t5,t6,t7,hjf⟩
 apply aK
 unfold wu
 change wp _ _ _ _ ⟨ak [] t, [],none,N⟩ _
 have hlen:=hu.len
 rw[List.length_map] at hlen
 by_cases hj:j<us.length
 ·obtain ⟨id,off,wr,c,a1,a2,a3,a4,a5⟩:=hu.at j (by simpa using hj)
  rw[List.getElem_map] at a5
  have c0:c[off]? =some (ii us[j]):=bz a5 0 (by omega)
  obtain ⟨h1,h2,h3⟩:=hus _ (List.getElem_mem hj)
  by_cases hL:L<=us[j]
  ·obtain ⟨n,hn⟩:=Int.eq_ofNat_of_zero_le h1
   obtain ⟨ids,offs,ws,cs,b1,b2,b3,b4,b5⟩:=hs.at n (by rw[rC];omega)
   rw[lf] at b5
   have d0:cs[offs]? =some (ii (dD pre (n:Nat))):=bz b5 0 (by omega)
   rw[←hn,h3 hL] at d0
   rw[←hn] at b1
   simp (config:={maxSteps:=1000000}) (disch:=first|assumption|omega|exact ab (by omega)|exact aa (by assumption)|(simp only[ao]<;>omega)) only[go_sem,seval,t1,t2,t3,t4,t5,t6,t7,hlen,a1,a2,c0,hc,b1,b2,d0]
   exact ⟨f - 1,by omega,_,j+1,by rfl,by simp only[go_sem,seval,t1],by simp only[go_sem,seval,t2],by simp only[go_sem,seval,t3],by simp only[go_sem,seval,t4],by simp only[go_sem,seval,t5],by simp only[go_sem,seval,t6],by simp only[go_sem,seval]<;>rfl,by omega⟩
  ·simp (config:={maxSteps:=1000000}) (disch:=first|assumption|omega|exact ab (by omega)|exact aa (by assumption)|(simp only[ao]<;>omega)) only[go_sem,seval,t1,t2,t3,t4,t5,t6,t7,hlen,a1,a2,c0,hc]
   exact ⟨f - 1,by omega,_,j+1,by rfl,by simp only[go_sem,seval,t1],by simp only[go_sem,seval,t2],by simp only[go_sem,seval,t3],by simp only[go_sem,seval,t4],by simp only[go_sem,seval,t5],by simp only[go_sem,seval,t6],by simp only[go_sem,seval]<;>rfl,by omega⟩
 ·simp (config:={maxSteps:=1000000}) (disch:=first|assumption|omega|exact ab (by omega)|exact aa (by assumption)|(simp only[ao]<;>omega)) only[go_sem,seval,t1,t2,t3,t4,t5,t6,t7,hlen]
  exact hQ _ (by simp only[go_sem,seval,t1]) (by simp only[go_sem,seval,t2]) (by simp only[go_sem,seval,t3]) (by simp only[go_sem,seval,t4]) (by simp only[go_sem,seval,t5])
theorem Gv {N:NH} {vset vl vst:NV} {idc:D4} {st:List Sp} {V:Nat} {L i:Int} {k:Nat} (hc:N.get idc=some (.cells true [ii V,ii L,vst])) (ho:aC N idc) (hs:Sl N vst 9 (JC st)) (hk:k<st.length) (hkk:st[k].k=9) (hne:∀(j:Nat) (hj:j<k),st[j].k=9->st[j].t≠st[k].t) (hl:st.length<=1000000000) {t:Tm} (t1:NT.get D4.e.a.f t=some vl) (t2:NT.get D4.e.b.b t=some (ii i)) (t3:NT.get D4.e.b.c t=some (.ptr idc 0)) (t4:NT.get D4.e.b.f t=some vset) (t5:NT.get D4.e.c.a t=some (ii k)) (t7:NT.get D4.e.f.a t=some (ii 0)) {Q:Out->Dyn->Prop}
 (hQ:∀t',NT.get D4.e.a.f t'=some vl->NT.get D4.e.b.b t'=some (ii i)->NT.get D4.e.b.c t'=some (.ptr idc 0)->NT.get D4.e.b.f t'=some vset->NT.get D4.e.c.a t'=some (ii k)->Q (.exit 6) ⟨ak [] t', [],none,N⟩):
 W Try.prog S0 none vR.loop ⟨t, [],none,N⟩ Q:=by
 refine W.loop (fun f d=>∃t j,d=⟨t, [],none,N⟩/\NT.get D4.e.a.f t=some vl/\NT.get D4.e.b.b t=some (ii i)/\NT.get D4.e.b.c t=some (.ptr idc 0)/\NT.get D4.e.b.f t=some vset/\NT.get D4.e.c.a t=some (ii k)/\NT.get D4.e.f.a t=some (ii (j:Nat))/\j+f=k) ?_ k _ ⟨t,0,rfl,t1,t2,t3,t4,t5,t7,by omega⟩
 rintro f d ⟨t,j,rfl,t1,t2,t3,t4,t5,t7,hjf⟩
 apply aK
 unfold vR
 change wp _ _ _ _ ⟨ak [] t, [],none,N⟩ _
 by_cases hj:j<k
 ·have hj':j<st.length:=by omega
  obtain ⟨id,off,wr,c,a1,a2,a3,a4,a5⟩:=hs.at j (by simpa using hj')
  rw[List.getElem_map] at a5
  have c0:c[off+0]? =some (ii st[j].k):=bz a5 0 (by omega)
  have c5:c[off+5]? =some (ii st[j].t):=bz a5 5 (by omega)
  obtain ⟨id',off',wr',c',b1,b2,b3,b4,b5⟩:=hs.at k (by simpa using hk)
  rw[List.getElem_map] at b5
  have d5:c'[off'+5]? =some (ii st[k].t):=bz b5 5 (by omega)
  by_cases h9:st[j].k=9
  ·have:=hne j hj h9
   simp (config:={maxSteps:=1000000}) (disch:=first|assumption|omega|exact ab (by omega)|exact aa (by assumption)|(simp only[ao]<;>omega)) only[go_sem,seval,t1,t2,t3,t4,t5,t7,a1,a2,c0,c5,hc,b1,b2,d5]
   exact ⟨f - 1,by omega,_,j+1,by rfl,by simp only[go_sem,seval,t1],by simp only[go_sem,seval,t2],by simp only[go_sem,seval,t3],by simp only[go_sem,seval,t4],by simp only[go_sem,seval,t5],by simp only[go_sem,seval]<;>rfl,by omega⟩
  ·simp (config:={maxSteps:=1000000}) (disch:=first|assumption|omega|exact ab (by omega)|exact aa (by assumption)|(simp only[ao]<;>omega)) only[go_sem,seval,t1,t2,t3,t4,t5,t7,a1,a2,c0,hc]
   exact ⟨f - 1,by omega,_,j+1,by rfl,by simp only[go_sem,seval,t1],by simp only[go_sem,seval,t2],by simp only[go_sem,seval,t3],by simp only[go_sem,seval,t4],by simp only[go_sem,seval,t5],by simp only[go_sem,seval]<;>rfl,by omega⟩
 ·simp (config:={maxSteps:=1000000}) (disch:=first|assumption|omega|exact ab (by omega)|exact aa (by assumption)|(simp only[ao]<;>omega)) only[go_sem,seval,t1,t2,t3,t4,t5,t7]
  exact hQ _ (by simp only[go_sem,seval,t1]) (by simp only[go_sem,seval,t2]) (by simp only[go_sem,seval,t3]) (by simp only[go_sem,seval,t4]) (by simp only[go_sem,seval,t5])
theorem JA {N:NH} {vset vl vst:NV} {idc:D4} {st:List Sp} {V:Nat} {L i:Int} (hc:N.get idc=some (.cells true [ii V,ii L,vst])) (ho:aC N idc) (hs:Sl N vset 1 (qf st V)) (hL:0<=L/\L<=V) (hV:V<=1000000) (hon:∀u,L<=u->u<V->dD st u=1) {t:Tm} (t1:NT.get D4.e.a.f t=some vl) (t2:NT.get D4.e.b.b t=some (ii i)) (t3:NT.get D4.e.b.c t=some (.ptr idc 0)) (t4:NT.get D4.e.b.f t=some vset) (t7:NT.get D4.e.f.b t=some (ii L)) {Q:Out->Dyn->Prop}
 (hQ:∀t',NT.get D4.e.a.f t'=some vl->NT.get D4.e.b.b t'=some (ii i)->Q (.exit 8) ⟨ak [] t', [],none,N⟩):
 W Try.prog S0 none vL.loop ⟨t, [],none,N⟩ Q:=by
 obtain ⟨l,rfl⟩:=Int.eq_ofNat_of_zero_le hL.1
 refine W.loop (fun f d=>∃t,∃j:Nat,d=⟨t, [],none,N⟩/\NT.get D4.e.a.f t=some vl/\NT.get D4.e.b.b t=some (ii i)/\NT.get D4.e.b.c t=some (.ptr idc 0)/\NT.get D4.e.b.f t=some vset/\NT.get D4.e.f.b t=some (ii j)/\j+f=V/\l<=j) ?_ (V - l) _ ⟨t,l,rfl,t1,t2,t3,t4,t7,by omega,by omega⟩
 rintro f d ⟨t,j,rfl,t1,t2,t3,t4,t7,hjf,hlj⟩
 apply aK
 unfold vL
 change wp _ _ _ _ ⟨ak [] t, [],none,N⟩ _
 by_cases hj:j<V
 ·obtain ⟨ids,offs,ws,cs,b1,b2,b3,b4,b5⟩:=hs.at j (by rw[rC];omega)
  rw[lf] at b5
  have d0:cs[offs]? =some (ii (dD st (j:Nat))):=bz b5 0 (by omega)
  rw[hon j (by omega) (by omega)] at d0
  simp (config:={maxSteps:=1000000}) (disch:=first|assumption|omega|exact ab (by omega)|exact aa (by assumption)|(simp only[ao]<;>omega)) only[go_sem,seval,t1,t2,t3,t4,t7,hc,b1,b2,d0]
  exact ⟨f - 1,by omega,_,j+1,by rfl,by simp only[go_sem,seval,t1],by simp only[go_sem,seval,t2],by simp only[go_sem,seval,t3],by simp only[go_sem,seval,t4],by simp only[go_sem,seval]<;>rfl,by omega,by omega⟩
 ·simp (config:={maxSteps:=1000000}) (disch:=first|assumption|omega|exact ab (by omega)|exact aa (by assumption)|(simp only[ao]<;>omega)) only[go_sem,seval,t1,t2,t3,t4,t7,hc]
  exact hQ _ (by simp only[go_sem,seval,t1]) (by simp only[go_sem,seval,t2])
end FR
open Go Nm Go.Proofs
namespace FR
set_option linter.unusedSimpArgs false
set_option linter.unusedVariables false
theorem ta {st:List Sp} {k:Nat} (h:k<st.length):st.take (k+1)=st.take k++ [st[k]]:=by rw[List.take_add_one,List.getElem?_eq_getElem h];rfl
theorem Ki {M0 N0:NH} {vset vl vst:NV} {idc:D4} {st:List Sp} {V:Nat} {L i:Int} (hs:bL M0 N0 vset 1 (qf [] V)) (hst:Sl M0 vst 9 (JC st)) (hc:M0.get idc=some (.cells true [ii V,ii L,vst])) (ho:aC M0 idc) (hC:Chg [] M0 N0) (F:Fresh L V st) (hl:st.length<=1000000000) (hV:V<=1000000) {t:Tm} (t1:NT.get D4.e.a.f t=some vl) (t2:NT.get D4.e.b.b t=some (ii i)) (t3:NT.get D4.e.b.c t=some (.ptr idc 0)) (t4:NT.get D4.e.b.f t=some vset) (t5:NT.get D4.e.c.a t=some (ii 0)) {Q:Out->Dyn->Prop}
 (hQ:∀t' N,NT.get D4.e.a.f t'=some vl->NT.get D4.e.b.b t'=some (ii i)->NT.get D4.e.b.c t'=some (.ptr idc 0)->NT.get D4.e.b.f t'=some vset->bL M0 N vset 1 (qf st V)->Chg [] M0 N->Q (.exit 2) ⟨ak [] t', [],none,N⟩):
 W Try.prog S0 none vK.loop ⟨t, [],none,N0⟩ Q:=by
 refine W.loop (fun f d=>∃t N k,d=⟨t, [],none,N⟩/\NT.get D4.e.a.f t=some vl/\NT.get D4.e.b.b t=some (ii i)/\NT.get D4.e.b.c t=some (.ptr idc 0)/\NT.get D4.e.b.f t=some vset/\NT.get D4.e.c.a t=some (ii (k:Nat))/\k+f=st.length/\bL M0 N vset 1 (qf (st.take k) V)/\Chg [] M0 N) ?_ st.length _ ⟨t,N0,0,rfl,t1,t2,t3,t4,t5,by omega,by simpa using hs,hC⟩
 clear hs hC t1 t2 t3 t4 t5
 rintro f d ⟨t,N,k,rfl,t1,t2,t3,t4,t5,hkf,hs,hC⟩
 apply aK
 unfold vK
 change wp _ _ _ _ ⟨ak [] t, [],none,N⟩ _
 have hlen:=hst.len
 rw[List.length_map] at hlen
 have gN:=(hC.get ho (by simp)).trans hc
 have oN:=hC.old ho
 by_cases hk:k<st.length
 ·obtain ⟨id,off,wr,c,a1,a2,a3,a4,a5⟩:=hst.at k (by simpa using hk)
  rw[List.getElem_map] at a5
  have a2':=(hC.get a3 (by simp)).trans a2
  obtain ⟨vu,N1,r1,hu,hC1⟩:=G8 (m:=N) (s:=st[k])
  have hCN1:=hC.trans hC1 (by simp)
  simp (config:={maxSteps:=1000000}) (disch:=first|assumption|omega|exact ab (by omega)|exact aa (by assumption)|(simp only[ao]<;>omega)) only[go_sem,seval,t1,t2,t3,t4,t5,hlen,gN,a1,a2',a4,a5,r1.wf']
  have g1:=(hCN1.get ho (by simp)).trans hc
  have o1:=hCN1.old ho
  have hs1:=hs.chg hC1 fun _ _=>by simp
  refine KX (vl:=vl) (i:=i) (k:=k) (us:=cR st[k]) (pre:=st.take k) (V:=V) (L:=L) hu g1 o1 hs1.sl (F.us k hk) (by unfold cR;split;simp;split;simp;split;simp;simp) (by simp only[go_sem,seval,t1]) (by simp only[go_sem,seval,t2]) (by simp only[go_sem,seval,t3]) (by simp only[go_sem,seval,t4]) (by simp only[go_sem,seval,t5]) (by simp only[go_sem,seval]) (by simp only[go_sem,seval]) ?_
  clear t1 t2 t3 t4 t5
  intro t' t1 t2 t3 t4 t5
  obtain ⟨N2,r2,hC2⟩:=II (m:=N1) (s:=st[k])
  have a21:=(hCN1.get a3 (by simp)).trans a2
  have hCN2:=hCN1.trans hC2 (by simp)
  have a22:=(hCN2.get a3 (by simp)).trans a2
  have g2:=(hCN2.get ho (by simp)).trans hc
  have o2:=hCN2.old ho
  have hs2:=hs1.chg hC2 fun _ _=>by simp
  have hdV:=F.se k hk
  have c0:c[off+0]? =some (ii st[k].k):=bz a5 0 (by omega)
  by_cases hd:0<=dG st[k]
  ·obtain ⟨n,hn⟩:=Int.eq_ofNat_of_zero_le hd
   obtain ⟨ids',offs,cs,b1,b2,b3,b4,b5,b6,b7,b8⟩:=hs2.at n (by rw[rC];omega)
   rw[lf] at b7 b8
   have d0:cs[offs]? =some (ii (dD (st.take k) (n:Nat))):=bz b7 0 (by omega)
   have hcl:dD (st.take k) (n:Nat)<=1000000000:=by unfold dD;have:=List.countP_le_length (p:=fun s=>decide (dG s=(n:Nat))) (l:=st.take k);have:=List.length_take_le k st;omega
   rw[←hn] at b1
   have hne:idc≠ids':=fun e=>hs2.new ids' (by rw[b2];simp) (e▸ho)
   have hneI:id≠ids':=fun e=>hs2.new ids' (by rw[b2];simp) (e▸a3)
   have oI:=hCN2.old a3
   have hs3:∀N3,N3=hp [(.o ids',.cells true (cs.set offs (ii (dD (st.take k) (n:Nat)+1))))] 0 N2->bL M0 N3 vset 1 (qf (st.take (k+1)) V)/\Chg [] M0 N3/\Sl N3 vst 9 (JC st)/\N3.get idc=some (.cells true [ii V,ii L,vst]):=fun N3 e=>by
    subst e
    have hC3:Chg [] M0 (hp [(.o ids',.cells true (cs.set offs (ii (dD (st.take k) (n:Nat)+1))))] 0 N2):=hCN2.trans (jA _ _ _) fun x hx hx2=>by
     simp only[aU,List.mem_cons,List.not_mem_nil,or_false] at hx;rw[hx] at hx2;exact absurd hx2 (hs2.new ids' (by rw[b2];simp))
    refine ⟨?_,hC3,hst.chg hC3 fun _ _=>by simp,(hC3.get ho (by simp)).trans hc⟩
    rw[ta hk,E4 hn]
    exact b8 [(0,ii (dD (st.take k) (n:Nat)+1))] _ (by simp) ((aQ b5).trans ay) (aa b5)
   by_cases h9:st[k].k=9
   ·simp (config:={maxSteps:=1000000}) (disch:=first|assumption|omega|exact ab (by omega)|exact aa (by assumption)|(simp only[ao]<;>omega)) only[go_sem,seval,t1,t2,t3,t4,t5,hlen,g1,g2,a1,a21,a22,a4,a5,r2.wf,c0,b1,b4,d0]
    generalize hM3:hp [(.o ids',.cells true (cs.set offs (ii (dD (st.take k) (n:Nat)+1))))] 0 N2=N3
    obtain ⟨q1,q2,q3,q4⟩:=hs3 N3 hM3.symm
    refine Gv (vl:=vl) (i:=i) (k:=k) (V:=V) (L:=L) (vset:=vset) q4 (q2.old ho) q3 hk h9 (fun j hj h=>F.la j k hk hj h h9) hl (by simp only[go_sem,seval,t1]) (by simp only[go_sem,seval,t2]) (by simp only[go_sem,seval,t3]) (by simp only[go_sem,seval,t4]) (by simp only[go_sem,seval,t5]) (by simp only[go_sem,seval]) ?_
    clear t1 t2 t3 t4 t5
    intro t' t1 t2 t3 t4 t5
    simp (config:={maxSteps:=1000000}) (disch:=first|assumption|omega|exact ab (by omega)|exact aa (by assumption)|(simp only[ao]<;>omega)) only[go_sem,seval,t1,t2,t3,t4,t5]
    exact ⟨f - 1,by omega,_,N3,k+1,by rfl,by simp only[go_sem,seval,t1],by simp only[go_sem,seval,t2],by simp only[go_sem,seval,t3],by simp only[go_sem,seval,t4],by simp only[go_sem,seval]<;>rfl,by omega,q1,q2⟩
   ·simp (config:={maxSteps:=1000000}) (disch:=first|assumption|omega|exact ab (by omega)|exact aa (by assumption)|(simp only[ao]<;>omega)) only[go_sem,seval,t1,t2,t3,t4,t5,hlen,g1,g2,a1,a21,a22,a4,a5,r2.wf,c0,b1,b4,d0]
    generalize hM3:hp [(.o ids',.cells true (cs.set offs (ii (dD (st.take k) (n:Nat)+1))))] 0 N2=N3
    obtain ⟨q1,q2,q3,q4⟩:=hs3 N3 hM3.symm
    exact ⟨f - 1,by omega,_,N3,k+1,by rfl,by simp only[go_sem,seval,t1],by simp only[go_sem,seval,t2],by simp only[go_sem,seval,t3],by simp only[go_sem,seval,t4],by simp only[go_sem,seval]<;>rfl,by omega,q1,q2⟩
  ·have q1:bL M0 N2 vset 1 (qf (st.take (k+1)) V):=by rw[ta hk,Cv (by omega)];exact hs2
   by_cases h9:st[k].k=9
   ·simp (config:={maxSteps:=1000000}) (disch:=first|assumption|omega|exact ab (by omega)|exact aa (by assumption)|(simp only[ao]<;>omega)) only[go_sem,seval,t1,t2,t3,t4,t5,hlen,g1,g2,a1,a21,a22,a4,a5,r2.wf',c0]
    refine Gv (vl:=vl) (i:=i) (k:=k) (V:=V) (L:=L) (vset:=vset) g2 o2 (hst.chg hCN2 fun _ _=>by simp) hk h9 (fun j hj h=>F.la j k hk hj h h9) hl (by simp only[go_sem,seval,t1]) (by simp only[go_sem,seval,t2]) (by simp only[go_sem,seval,t3]) (by simp only[go_sem,seval,t4]) (by simp only[go_sem,seval,t5]) (by simp only[go_sem,seval]) ?_
    clear t1 t2 t3 t4 t5
    intro t' t1 t2 t3 t4 t5
    simp (config:={maxSteps:=1000000}) (disch:=first|assumption|omega|exact ab (by omega)|exact aa (by assumption)|(simp only[ao]<;>omega)) only[go_sem,seval,t1,t2,t3,t4,t5]
    exact ⟨f - 1,by omega,_,N2,k+1,by rfl,by simp only[go_sem,seval,t1],by simp only[go_sem,seval,t2],by simp only[go_sem,seval,t3],by simp only[go_sem,seval,t4],by simp only[go_sem,seval]<;>rfl,by omega,q1,hCN2⟩
   ·simp (config:={maxSteps:=1000000}) (disch:=first|assumption|omega|exact ab (by omega)|exact aa (by assumption)|(simp only[ao]<;>omega)) only[go_sem,seval,t1,t2,t3,t4,t5,hlen,g1,g2,a1,a21,a22,a4,a5,r2.wf',c0]
    exact ⟨f - 1,by omega,_,N2,k+1,by rfl,by simp only[go_sem,seval,t1],by simp only[go_sem,seval,t2],by simp only[go_sem,seval,t3],by simp only[go_sem,seval,t4],by simp only[go_sem,seval]<;>rfl,by omega,q1,hCN2⟩
 ·simp (config:={maxSteps:=1000000}) (disch:=first|assumption|omega|exact ab (by omega)|exact aa (by assumption)|(simp only[ao]<;>omega)) only[go_sem,seval,t1,t2,t3,t4,t5,hlen,gN]
  rw[List.take_of_length_le (by omega)] at hs
  exact hQ _ _ (by simp only[go_sem,seval,t1]) (by simp only[go_sem,seval,t2]) (by simp only[go_sem,seval,t3]) (by simp only[go_sem,seval,t4]) hs hC
end FR
open Go Nm Go.Proofs
namespace FR
set_option linter.unusedSimpArgs false
set_option linter.unusedVariables false
def MM (p:Prg):Prop:=(mn p).2=0/\eq p.cs p.r p.ts=false
def A5 (p:Prg):Int:=if (mn p).2≠0 then (mn p).2 else if eq p.cs p.r p.ts=true then 3 else 0
def I9 (m:NH) (p:Prg) (a b:Int) (v vl:NV) (N:D4->Prop):Prop:=(MM p/\iG m p.cs p.r [ii a,ii b,v] N/\∃C,CodesC m p.cs p.ts vl C N)∨(¬MM p/\a=0/\b=0/\v= .nils/\vl= .nils)
theorem tF.inv {m0 m:NH} {p:Prg} {w:NV} (h:tF m0 m p w):∃a b v vl,w= .tup [.agg [ii a,ii b,v],vl,ii (A5 p)]/\I9 m p a b v vl (fun i=>¬aC m0 i):=by
 unfold tF at h
 unfold A5
 by_cases h1:(mn p).2≠0
 ·rw[if_pos h1] at h
  rw[if_pos h1]
  exact ⟨0,0,.nils,.nils,h,Or.inr ⟨fun q=>h1 q.1,rfl,rfl,rfl,rfl⟩⟩
 ·rw[if_neg h1] at h
  rw[if_neg h1]
  by_cases h2:eq p.cs p.r p.ts=true
  ·rw[if_pos h2] at h
   rw[if_pos h2]
   exact ⟨0,0,.nils,.nils,h,Or.inr ⟨fun q=>(by rw[q.2] at h2;cases h2),rfl,rfl,rfl,rfl⟩⟩
  ·rw[if_neg h2] at h
   rw[if_neg h2]
   obtain ⟨c,vl,C,rfl,⟨v,rfl,h3⟩,h4⟩:=h
   have e1:(mn p).2=0:=by simpa using h1
   have e2:eq p.cs p.r p.ts=false:=by simpa using h2
   exact ⟨_,_,v,vl,rfl,Or.inl ⟨⟨e1,e2⟩,⟨v,rfl,h3⟩,C,h4⟩⟩
theorem CodesC.chg {m m':NH} {cs:List (List Nat×Int)} {l:List (List Nat×List Stm)} {v:NV} {C:List (List NV)} {N:D4->Prop} (h:CodesC m cs l v C N) (hC:Chg [] m m'):CodesC m' cs l v C N:=
 ⟨h.s.chg hC fun _ _=>by simp,h.n,fun j t c a b=>(h.c j t c a b).chg hC (by simp) fun i hi _=>hi⟩
theorem I9.chg {m m':NH} {p:Prg} {a b:Int} {v vl:NV} {N:D4->Prop} (h:I9 m p a b v vl N) (hC:Chg [] m m'):I9 m' p a b v vl N:=by
 rcases h with ⟨h1,h2,C,h3⟩|h
 ·exact Or.inl ⟨h1,h2.chg hC (by simp) fun i hi _=>hi,C,h3.chg hC⟩
 ·exact Or.inr h
theorem I9.one {m:NH} {p:Prg} {a b:Int} {v vl:NV} {N:D4->Prop} (h:I9 m p a b v vl N):cellsOf v=some [v]/\cellsOf vl=some [vl]:=by
 rcases h with ⟨-,⟨v',e,h2,-⟩,C,h3⟩|⟨-,-,-,rfl,rfl⟩
 ·injection e with _ e;injection e with _ e;injection e with e _
  subst e
  exact ⟨h2.one,h3.s.one⟩
 ·exact ⟨rfl,rfl⟩
end FR
open Go Nm Go.Proofs
namespace FR
set_option linter.unusedSimpArgs false
set_option linter.unusedVariables false
theorem B3 {cs:List (List Nat×Int)} {r:List Stm} {l:List (List Nat×List Stm)} (h:eq cs r l=false) {t:List Nat×List Stm} (ht:t∈l):(c8 cs t.2).v<=400:=by
 unfold eq at h
 rw[Bool.or_eq_false_iff,List.any_eq_false] at h
 have:=h.2 t ht
 simp at this
 exact this
theorem lowerFresh (m:NH) (l:List NV) (h:TyA Try.prog m [22] l):∃m',bI Try.prog S0 6 l m (.bool true) m':=by
 obtain ⟨x,r,rfl,h1,h⟩:=h.inv1 (by intro fs q;rw[Try.underlying22] at q;simp at q)
 obtain rfl:=h.inv0
 obtain ⟨v,b,hx,hv,hb⟩:=Cf h1
 have hxv:v=x:=by simpa using hx.symm
 subst hxv
 have hal:∀m,bI Try.prog S0 19 [] m (.bool true) m:=fun m=>bI.kept rfl m
 have h:∃v' m',bI Try.prog S0 6 [v] m v' m'/\v'= .bool true:=by
  refine WF.ex fun K hK=> ?_
  refine WF.of_wpG (fun _=>rfl) wE (L:= [(.e,v)]) rfl ?_
  unfold MS
  have hv':Sl (hp [] 0 m) v 1 (o9 b):=by rw[ai];exact hv
  obtain ⟨w,M1,hr1,⟨vc,vt,vr,rfl,hpp⟩,hC1⟩:=z8 hv' hb
  rw[ai] at hC1
  have hlen:=(hv.chg hC1 fun _ _=>by simp).len
  rw[show (o9 b).length=b.length by simp] at hlen
  cases hprog:(hH b).1 with
  |none=>
   rw[hprog] at hpp
   obtain ⟨-,-,-,he⟩:=hpp
   have he':((hH b).2.2:Int)≠0:=by omega
   simp (config:={maxSteps:=1000000}) (disch:=first|assumption|omega|exact ab (by omega)|exact aa (by assumption)|(simp only[ao]<;>omega)) only[go_sem,seval,(hal _).wf',hr1.wf,he']
   exact hK _ _ rfl
  |some p=>
   rw[hprog] at hpp
   obtain ⟨hpp,he,hs1,hs2⟩:=hpp
   by_cases hlb:2500<b.length
   ·simp (config:={maxSteps:=1000000}) (disch:=first|assumption|omega|exact ab (by omega)|exact aa (by assumption)|(simp only[ao]<;>omega)) only[go_sem,seval,(hal _).wf',hr1.wf,he,hlen]
    exact hK _ _ rfl
   ·have hcs:p.cs.length<=1000000/\p.ts.length<=1000000:=by omega
    have hz:∀t∈p.ts,cn t.2<=400000:=fun t ht=>by
     have:=FW (List.mem_map_of_mem (f:=fun t:List Nat×List Stm=>cn t.2) ht)
     omega
    have hzr:cn p.r<=400000:=by omega
    have hcz:=vA hprog
    have hwf:=D2 hprog
    obtain ⟨CT0,hT0⟩:=hpp.t
    obtain ⟨CR0,hR0⟩:=hpp.r
    simp (config:={maxSteps:=1000000}) (disch:=first|assumption|omega|exact ab (by omega)|exact aa (by assumption)|(simp only[ao]<;>omega)) only[go_sem,seval,(hal _).wf',hr1.wf,he,hlen,hpp.c.one,hT0.sl.one,hR0.sl.one]
    generalize hM2:hp _ 1 M1=M2
    have hC2:Chg [] M1 M2:=by rw[←hM2];exact an rfl
    have g2:M2.get (na M1 0)=some (.cells true [vc,vt,vr]):=by rw[←hM2];exact ax
    have hp2:=hpp.stays (qW hC2 _)
    obtain ⟨w3,M3,hr3,hw3,hC3⟩:=Fu hp2 hcs hcz hz hzr
    obtain ⟨a3,b3,v3,l3,rfl,hP3⟩:=hw3.inv
    by_cases hE:A5 p≠0
    ·simp (config:={maxSteps:=1000000}) (disch:=first|assumption|omega|exact ab (by omega)|exact aa (by assumption)|(simp only[ao]<;>omega)) only[go_sem,seval,hr3.wf,hP3.one.1,g2,(Gz _ _).wf']
     exact hK _ _ rfl
    ·have hE0:A5 p=0:=by simpa using hE
     rcases hP3 with ⟨hok,hCR,C,hCT⟩|⟨hok,-⟩
     ·obtain ⟨v3',e3,hs3,-⟩:=hCR
      injection e3 with _ e3;injection e3 with _ e3;injection e3 with e3 _;subst e3
      simp (config:={maxSteps:=1000000}) (disch:=first|assumption|omega|exact ab (by omega)|exact aa (by assumption)|(simp only[ao]<;>omega)) only[go_sem,seval,hr3.wf,hs3.one,g2,(Gz _ _).wf',hE0]
      generalize hM4:hp _ 1 M3=M4
      have hC4:Chg [] M3 M4:=by rw[←hM4];exact an rfl
      have hT4:=hCT.chg hC4
      have hlT:=hT4.s.len
      rw[hT4.n] at hlT
      refine W.loop (fun k d=>∃t N i,d=⟨t, [],none,N⟩/\NT.get D4.e.a.f t=some l3/\NT.get D4.e.b.b t=some (ii (i:Nat))/\i+k=p.ts.length/\Chg [] M4 N) ?_ p.ts.length _ ⟨_,M4,0,rfl,by simp only[go_sem,seval],by simp only[go_sem,seval]<;>rfl,by omega,Chg.refl M4⟩
      rintro k d ⟨t,N,i,rfl,t1,t2,hik,hC⟩
      apply aK
      unfold DW
      change wp _ _ _ _ ⟨ak [] t, [],none,N⟩ _
      rw[←ai N]
      have hTN:=hT4.chg hC
      by_cases hi:i<p.ts.length
      ·have hiC:i<C.length:=by rw[hTN.n];exact hi
       obtain ⟨id,off,wr,c,e1,e2,e3,e4,e5⟩:=hTN.s.at i hiC
       obtain ⟨vs,ec,hsv,-⟩:=hTN.c i p.ts[i] C[i] (List.getElem?_eq_getElem hi) (List.getElem?_eq_getElem hiC)
       rw[ec] at e5
       have F:=uP (cs:=p.cs) (hwf.1 _ (List.getElem_mem hi))
       have hv4:=B3 hok.2 (List.getElem_mem hi)
       have hcl:=Bk (cs:=p.cs) (hz _ (List.getElem_mem hi))
       generalize hcm:c8 p.cs p.ts[i].2=X at *
       generalize hll:((locals p.ts[i].2).length:Int)=L at *
       obtain ⟨st,V',lb⟩:=X
       dsimp only at *
       obtain ⟨V,rfl⟩:=Int.eq_ofNat_of_zero_le (show 0<=V' by have:=F.lv;omega)
       obtain ⟨n,z,hst,hzk⟩:=F.ne
       have hlv:=F.lv
       have hnl:n.length+1=st.length:=by rw[hst];simp
       have hlst:=hsv.len
       rw[List.length_map] at hlst
       obtain ⟨id',off',wr',c',f1,f2,f3,f4,f5⟩:=hsv.at n.length (by simp;omega)
       rw[List.getElem_map] at f5
       have hz12:(st[n.length]'(by omega)).k=12:=by subst hst;simp[hzk]
       have d0:c'[off'+0]? =some (ii (st[n.length]'(by omega)).k):=bz f5 0 (by omega)
       rw[hz12] at d0
       have e1n:(st.length:Int) - 1=(n.length:Nat):=by omega
       simp (config:={maxSteps:=1000000}) (disch:=first|assumption|omega|exact ab (by omega)|exact aa (by assumption)|(simp only[ao]<;>omega)) only[go_sem,seval,t1,t2,hlT,e1,e2,e4,e5,hsv.one,hlst,e1n,f1,f2,d0]
       generalize hN0:hp _ 2 N=N0
       generalize hM0:hp [(AK.n 0,NO.cells true [ii V,ii L,vs]),(AK.n 0,NO.cells true [ii 0,ii 0,NV.nils])] 1 N=M0
       have hC0:Chg [] M0 N0:=by
        rw[←hN0,←hM0]
        have:=Chg.add (hp [(AK.n 0,NO.cells true [ii V,ii L,vs]),(AK.n 0,NO.cells true [ii 0,ii 0,NV.nils])] 1 N) (NO.cells true (rep V [ii 0]))
        rwa [tJ] at this
       have hCM:Chg [] N M0:=by rw[←hM0];exact an rfl
       have hnew:¬aC M0 (na N 1):=fun q=>by rw[←hM0] at q;exact Nat.lt_irrefl _ q
       have ow:bL M0 N0 (.slc (na N 1) 0 V 1 V) 1 (qf [] V):=by
        have e0:qf [] V=List.replicate V [ii 0]:=by
         apply List.ext_getElem
         ·simp[qf]
         ·intro j h1 h2;rw[lf,List.getElem_replicate];rfl
        rw[e0]
        refine bL.of (by simp) hnew (c:=rep V [ii 0]) (by rw[←hN0];exact ax) (by rw[←hN0];exact ab (by omega)) (by rw[IS]) (by simp) (by simp)
       have gM0:M0.get (na N 0)=some (.cells true [ii V,ii L,vs]):=by rw[←hM0];exact ax
       have oM0:aC M0 (na N 0):=by rw[←hM0];exact ab (by omega)
       refine Ki (vl:=l3) (i:=i) (L:=L) (V:=V) (idc:=na N 0) (st:=st) ow (hsv.chg hCM fun _ _=>by simp) gM0 oM0 hC0 F hcl (by omega) (by simp only[go_sem,seval,t1]) (by simp only[go_sem,seval,t2]) (by simp only[go_sem,seval]) (by simp only[go_sem,seval]) (by simp only[go_sem,seval]) ?_
       clear t1 t2
       intro t' N1 t1 t2 t3 t4 ow1 hC1
       have g1:=(hC1.get oM0 (by simp)).trans gM0
       simp (config:={maxSteps:=1000000}) (disch:=first|assumption|omega|exact ab (by omega)|exact aa (by assumption)|(simp only[ao]<;>omega)) only[go_sem,seval,t1,t2,t3,t4,g1]
       refine JA (vl:=l3) (i:=i) (L:=L) (V:=V) (idc:=na N 0) (st:=st) g1 (hC1.old oM0) ow1.sl hlv (by omega) F.on (by simp only[go_sem,seval,t1]) (by simp only[go_sem,seval,t2]) (by simp only[go_sem,seval,t3]) (by simp only[go_sem,seval,t4]) (by simp only[go_sem,seval]) ?_
       clear t1 t2 t3 t4
       intro t' t1 t2
       simp (config:={maxSteps:=1000000}) (disch:=first|assumption|omega|exact ab (by omega)|exact aa (by assumption)|(simp only[ao]<;>omega)) only[go_sem,seval,t1,t2]
       exact ⟨k - 1,by omega,_,N1,i+1,by rfl,by simp only[go_sem,seval,t1],by simp only[go_sem,seval]<;>rfl,by omega,hC.trans (hCM.trans hC1 (by simp)) (by simp)⟩
      ·simp (config:={maxSteps:=1000000}) (disch:=first|assumption|omega|exact ab (by omega)|exact aa (by assumption)|(simp only[ao]<;>omega)) only[go_sem,seval,t1,t2,hlT]
       exact hK _ _ rfl
     ·exfalso
      unfold A5 at hE0
      unfold MM at hok
      split at hE0
      ·exact absurd hE0 ‹_›
      ·split at hE0
       ·omega
       ·rename_i q1 q2
        exact hok ⟨by simpa using q1,by simpa using q2⟩
 obtain ⟨v',m',h,rfl⟩:=h
 exact ⟨m',h⟩
end FR
