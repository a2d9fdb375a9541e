/- Contracts of functions that the law ParmWeak reaches, part 1. -/
import Derived.Test.YtbmkdfoffpeabaaPwU0
set_option linter.unusedSimpArgs false
set_option linter.unusedVariables false
open Go Nm Go.Proofs
namespace FR
structure Ch where
 (k c n:Int)
abbrev HA (l:List Ch):List (List NV):=l.map fun x=> [ii x.k,ii x.c,ii x.n]
theorem DA {m:NH} {l:List NV} (h:Ty Try.prog m 22 l):∃v b,l= [v]/\Sl m v 3 (HA b):=by
 obtain ⟨v,C,rfl,hS,hm,hall⟩:=h.inv_slc Try.underlying22
 have key:∀C:List (List NV),(∀c∈C,Ty Try.prog m 31 c)->∃sp:List Ch,C=HA sp:=by
  intro C
  induction C with
  |nil=>intro _;exact ⟨[],rfl⟩
  |cons c C ih=>
   intro h
   have h1:TyL Try.prog m [3,3,3] c:=(h c (List.mem_cons_self ..)).inv_struct Try.underlying31
   obtain ⟨a1,b1,rfl,h2,h1⟩:=h1.inv
   obtain ⟨a2,b2,rfl,h3,h1⟩:=h1.inv
   obtain ⟨a3,b3,rfl,h4,h1⟩:=h1.inv
   obtain rfl:=h1.inv0
   obtain ⟨z1,rfl,_⟩:=h2.inv_int Try.underlying3
   obtain ⟨z2,rfl,_⟩:=h3.inv_int Try.underlying3
   obtain ⟨z3,rfl,_⟩:=h4.inv_int Try.underlying3
   obtain ⟨l,rfl⟩:=ih fun x hx=>h x (List.mem_cons_of_mem _ hx)
   exact ⟨⟨z1,z2,z3⟩::l,rfl⟩
 obtain ⟨b,rfl⟩:=key C hall
 have hc:Try.prog.cellsOf 31=3:=by kernel_rfl
 rw[hc] at hS
 exact ⟨v,b,rfl,hS⟩
theorem H8 {a b:Int} (ha:a=0∨a=1) (hb:b=0∨b=1):cP .num .add (iu a) (iu b)=some (iu (a+b)):=by
 rcases ha with rfl|rfl<;>rcases hb with rfl|rfl<;>rfl
set_option maxHeartbeats 1000000 in
theorem parmWeak (m:NH) (l:List NV) (h:TyA Try.prog m [4,22] l):∃m',rT 3 l m (.bool true) m':=by
 obtain ⟨x,r,rfl,h1,h⟩:=h.inv1 (by intro fs q;rw[Try.underlying4] at q;simp at q)
 obtain ⟨x2,r2,rfl,h2,h⟩:=h.inv1 (by intro fs q;rw[Try.underlying22] at q;simp at q)
 obtain rfl:=h.inv0
 obtain ⟨bb,hx⟩:=h1.inv_bool Try.underlying4
 have hxv:x= .bool bb:=by simpa using hx
 subst hxv
 obtain ⟨vl,ch,hx2,hl⟩:=DA h2
 have hxv2:vl=x2:=by simpa using hx2.symm
 subst hxv2
 have hal:∀m,rT 8 [] m (.bool true) m:=fun m=>nL.kept rfl m
 have h:∃v' m',rT 3 [.bool bb,vl] m v' m'/\v'= .bool true:=by
  refine WF.ex fun K hK=> ?_
  refine WF.of_wpG (fun _=>rfl) qM (L:= [(.a .e,vl),(.e,.bool bb)]) rfl ?_
  unfold Io
  have hlen:=hl.len
  rw[List.length_map] at hlen
  cases bb with
  |false=>
   obtain ⟨v,m1,r1,p,f,q,rfl,hM,k1⟩:=AQ (b:=false) (m:=m) (bt:= .nils) ⟨by simp[uB],Or.inl ⟨rfl,rfl⟩⟩
   by_cases hn:300<ch.length
   ·simp (config:={maxSteps:=1000000}) (disch:=first|assumption|omega|(apply ah;omega)|(apply ae;assumption)|(simp only[aN]<;>omega)) only[go_sem,seval,aq,(hal _).wf',r1.wf',ou,AS,hlen]
    exact hK _ _ rfl
   obtain ⟨m2,r2,f2,q2,h2,k2⟩:=rp hM (by omega) (xD (Dn false)) 0 0 0
   simp (config:={maxSteps:=1000000}) (disch:=first|assumption|omega|(apply ah;omega)|(apply ae;assumption)|(simp only[aN]<;>omega)) only[go_sem,seval,aq,(hal _).wf',r1.wf',ou,hlen,r2.wf']
   refine W.loop (fun n d=>∃T M i f q,d=⟨T, [],none,M⟩/\NT.get D4.e.a.c T=some (.ptr p 0)/\NT.get D4.e.a.f T=some (ii (i:Nat))/\i+n=14/\MaC (ed false) (WT false) 2 (2+2*i) f M p q (sX i)) ?_ 14 _ ⟨_,m2,0,f2,q2,rfl,by simp only[go_sem,seval],by simp only[go_sem,seval]<;>rfl,by omega,h2⟩
   rintro n d ⟨T,M,i,f3,q3,rfl,t1,t2,hin,hI⟩
   apply bo
   unfold xp
   change wp _ _ _ _ ⟨aw [] T, [],none,M⟩ _
   by_cases hi:i<14
   ·have hand:=HX hi
    obtain ⟨m4,r4,f4,q4,h4,k4⟩:=rp hI (by omega) (xD (sZ i)) 0 ((i % 2:Nat):Int) 0
    simp (config:={maxSteps:=1000000}) (disch:=first|assumption|omega|(apply ah;omega)|(apply ae;assumption)|(simp only[aN]<;>omega)) only[go_sem,seval,t1,t2,hand,r4.wf']
    exact ⟨n - 1,by omega,_,m4,i+1,f4,q4,by rfl,by simp only[go_sem,seval,t1],by simp only[go_sem,seval]<;>rfl,by omega,h4⟩
   ·have e:i=14:=by omega
    subst e
    obtain ⟨o,m4,r4,o4,hC4⟩:=BA hI
    rw[wL] at o4
    have hlo:=o4.sl.len
    obtain ⟨id,off,wr,cs,a1,a2,a3⟩:=kz o4.sl (i:=0) (by simp)
    obtain ⟨id2,off2,wr2,cs2,b1,b2,b3⟩:=kz o4.sl (i:=1) (by simp)
    have a1':fw 1 o (ii 0)= .val (.ptr id off):=a1
    have b1':fw 1 o (ii 1)= .val (.ptr id2 off2):=b1
    have a3':cs[off]? =some (iu 0):=a3
    have b3':cs2[off2]? =some (iu 0):=b3
    have hlo':qz o= .val (ii 2):=hlo
    simp (config:={maxSteps:=1000000}) (disch:=first|assumption|omega|(apply ah;omega)|(apply ae;assumption)|(simp only[aN]<;>omega)) only[go_sem,seval,t1,t2,r4.wf',hlo',a1',a2,a3',b1',b2,b3']
    exact hK _ _ rfl
  |true=>
   generalize hm0:hp [(.n 0,.cells true [ii 18,ii 0,ii 0,ii 0,ii 0,ii 0,ii 0])] 1 m=m0
   have hC0:Chg [] m m0:=aR hm0 rfl
   obtain ⟨v,m1,r1,p,f,q,rfl,hM,k1⟩:=AQ (b:=true) (m:=m0) (bt:= .slc (na m 0) 0 1 7 1) ⟨by simp[uB,aZ],Or.inr ⟨na m 0,0,1,true,_,rfl,bc hm0,bj hm0 (by omega),by simp[uB],by simp[uB,aZ]⟩⟩
   have hl0:=hl.chg hC0 (by simp)
   have hlc:SlC 0 fz m0 vl 3 (HA ch):=⟨hl0,fun _ _=>rfl⟩
   by_cases hn:300<ch.length
   ·simp (config:={maxSteps:=1000000}) (disch:=first|assumption|omega|(apply ah;omega)|(apply ae;assumption)|(simp only[aN]<;>omega)) only[go_sem,seval,(hal _).wf',hm0,r1.wf',ou,AS,hlen]
    exact hK _ _ rfl
   simp (config:={maxSteps:=1000000}) (disch:=first|assumption|omega|(apply ah;omega)|(apply ae;assumption)|(simp only[aN]<;>omega)) only[go_sem,seval,(hal _).wf',hm0,r1.wf',ou,hlen]
   have hi0:EV (Gx (ed true) 2):=Or.inl ⟨rfl,rfl,rfl,rfl⟩
   refine W.loop (fun n d=>∃T M i f q Z,d=⟨T, [],none,M⟩/\NT.get D4.e.a.c T=some (.ptr p 0)/\NT.get D4.e.a T=some vl/\NT.get D4.e.b.b T=some (ii (i:Nat))/\i+n=ch.length/\MaC (ed true) (WT true) 2 (2*i) f M p q Z/\InT true Z/\EV Z/\SlC 0 f M vl 3 (HA ch)) ?_ ch.length _ ⟨_,m1,0,f,q,_,rfl,by simp only[go_sem,seval],by simp only[go_sem,seval],by simp only[go_sem,seval]<;>rfl,by omega,hM,Dn true,hi0,hlc.kp k1 (by simp)⟩
   rintro n d ⟨T,M,i,f3,q3,Z,rfl,t1,t2,t3,hin,hI,hZ1,hZ2,hv⟩
   apply bo
   unfold vO
   change wp _ _ _ _ ⟨aw [] T, [],none,M⟩ _
   have hlen2:=hv.o.len
   rw[List.length_map] at hlen2
   by_cases hi:i<ch.length
   ·obtain ⟨id,off,wr,cs,a1,a2,a3,a4,a5⟩:=hv.o.at i (by simpa using hi)
    rw[List.getElem_map] at a5
    have a0:cs[off]? =some (ii ch[i].k):=by have:=fp a5 0 (by omega);rwa [Nat.add_zero] at this
    by_cases h3:ch[i].k=3
    ·rw[h3] at a0
     simp (config:={maxSteps:=1000000}) (disch:=first|assumption|omega|(apply ah;omega)|(apply ae;assumption)|(simp only[aN]<;>omega)) only[go_sem,seval,t1,t2,t3,hlen2,a1,a2,Nat.add_zero,a0]
     exact ⟨n - 1,by omega,_,M,i+1,f3,q3,Z,by rfl,by simp only[go_sem,seval,t1],by simp only[go_sem,seval,t2],by simp only[go_sem,seval]<;>rfl,by omega,hI.more (by omega) (by omega),hZ1,hZ2,hv⟩
    ·obtain ⟨m4,r4,f4,q4,h4,k4⟩:=rp hI (by omega) (xD hZ1) ch[i].k ch[i].c ch[i].n
     simp (config:={maxSteps:=1000000}) (disch:=first|assumption|omega|(apply ah;omega)|(apply ae;assumption)|(simp only[aN]<;>omega)) only[go_sem,seval,t1,t2,t3,hlen2,a1,a2,Nat.add_zero,a0,h3,a5,r4.wf']
     exact ⟨n - 1,by omega,_,m4,i+1,f4,q4,_,by rfl,by simp only[go_sem,seval,t1],by simp only[go_sem,seval,t2],by simp only[go_sem,seval]<;>rfl,by omega,h4,(qL true hZ1 _ _ _).1,Cr hZ2 _ _ _ h3,hv.kp k4 (by unfold TM;omega)⟩
   ·obtain ⟨o,m4,r4,o4,hC4⟩:=BA hI
    have hlo:=o4.sl.len
    rw[List.length_map] at hlo
    rcases hZ2.fin with hf|⟨x,y,hxy,hx,hy,hf⟩
    ·simp (config:={maxSteps:=1000000}) (disch:=first|assumption|omega|(apply ah;omega)|(apply ae;assumption)|(simp only[aN]<;>omega)) only[go_sem,seval,t1,t2,t3,hlen2,r4.wf',hlo]
     exact hK _ _ rfl
    ·rw[hxy] at o4 hlo
     obtain ⟨id,off,wr,cs,a1,a2,a3⟩:=kz o4.sl (i:=0) (by simp)
     obtain ⟨id2,off2,wr2,cs2,b1,b2,b3⟩:=kz o4.sl (i:=1) (by simp)
     have a1':fw 1 o (ii 0)= .val (.ptr id off):=a1
     have b1':fw 1 o (ii 1)= .val (.ptr id2 off2):=b1
     have a3':cs[off]? =some (iu x):=a3
     have b3':cs2[off2]? =some (iu y):=b3
     have hlo':qz o= .val (ii 2):=hlo
     have hadd:=H8 hx hy
     have hpos:0<x+y:=by omega
     simp (config:={maxSteps:=1000000}) (disch:=first|assumption|omega|(apply ah;omega)|(apply ae;assumption)|(simp only[aN]<;>omega)) only[go_sem,seval,t1,t2,t3,hlen2,r4.wf',hlo',a1',a2,a3',b1',b2,b3',hadd]
     exact hK _ _ rfl
 obtain ⟨v',m',h,rfl⟩:=h
 exact ⟨m',h⟩
end FR
