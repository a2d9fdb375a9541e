/- A machine that runs the given program with memory and order of evaluation taken apart, and what it shows of the law ShowPrograms: part 5. -/
import Derived.Test.YtjmhciggnonhfaaGreatDoorSpD
set_option linter.unusedSimpArgs false
set_option linter.unusedVariables false
set_option linter.unusedSectionVars false
set_option linter.defProp false
open Go Nm Go.Proofs
namespace FR
theorem sP {ce:List Nat} {i:Ex} (h1:NmOk ce) (h2:GX i):(iX ce i).length<=40000000000:=by
 have a:=h1.len
 have b:=dp h2
 unfold iX
 split
 ·omega
 ·simp only[List.length_append,List.length_cons,List.length_nil];omega
theorem fV (d:Nat):(ld d).length=2*d:=by unfold ld;rw[List.length_flatten,List.map_replicate,List.sum_replicate_nat];show d*2=_;omega
theorem sj {s:Stm} {w:SV} {m0 m:NH} {T:D4->Prop} (h1:NmOk s.ce) (h2:GX s.i) (hR:RE m0 T s.i (s.i.l w.vi)) (hst:aE T m0 m):∃m',a6 Tryz.prog S0 40 [.agg (s.l w)] m (.str (iX s.ce s.i)) m'/\Chg [] m m':=by
 refine WF.ex1 fun K hK=> ?_
 refine WF.of_wpG (fun _=>rfl) Ak (L:= [(.e,.agg (s.l w))]) rfl ?_
 unfold Ma
 generalize hM1:hp [(.n 0,.cells true (s.l w))] 1 m=M1
 have hC1:Chg [] m M1:=bf hM1 rfl
 have hg1:M1.get (na m 0)=some (.cells true (s.l w)):=bu hM1
 have ho1:aw M1 (na m 0):=bB hM1 (by omega)
 have hsl:(s.l w).length=21:=rfl
 obtain ⟨M2,r2,hC2⟩:=jB h2.g h2.d hR (hst.grow hC1)
 have hg2:=(hC2.get ho1 (by simp)).trans hg1
 have hcl:=h1.len
 have hil:=dp h2
 have hsa:=cj hR
 unfold iX at hK
 by_cases q0:s.i.k=0
 ·have d0:decide (s.i.k=0)=true:=Q7 q0
  by_cases q1:s.i.n=0
  ·have d1:decide ((s.i.n:Int)=0)=true:=Q7 (by omega)
   rw[Q5 ⟨q0,q1⟩] at hK
   simp (config:={maxSteps:=1000000}) (disch:=first|assumption|omega|(apply ai;omega)|(apply ae;assumption)|(simp only[ay]<;>omega)) only[go_sem,seval,hM1,hg1,hsl,d0,d1]
   exact hK _ hC1
  ·have d1:decide ((s.i.n:Int)=0)=false:=Q6 (by omega)
   rw[Q4 (fun q=>q1 q.2)] at hK
   simp (config:={maxSteps:=1000000}) (disch:=first|assumption|omega|(apply ai;omega)|(apply ae;assumption)|(simp only[ay]<;>omega)) only[go_sem,seval,hM1,hg1,hsl,d0,d1,r2.wf',hg2,hsa]
   have:=hK _ (hC1.trans hC2 (by simp))
   simpa using this
 ·have d0:decide (s.i.k=0)=false:=Q6 q0
  rw[Q4 (fun q=>q0 q.1)] at hK
  simp (config:={maxSteps:=1000000}) (disch:=first|assumption|omega|(apply ai;omega)|(apply ae;assumption)|(simp only[ay]<;>omega)) only[go_sem,seval,hM1,hg1,hsl,d0,r2.wf',hg2,hsa]
  have:=hK _ (hC1.trans hC2 (by simp))
  simpa using this
end FR
open Go Nm Go.Proofs
namespace FR
theorem ir (d:Nat):∀(a b:List Stm),dj d (a++b)=dj d a++dj d b
 | [],b=>by rw[List.nil_append,dj,List.nil_append]
 |s::a,b=>by rw[List.cons_append,dj,dj,ir d a b,List.append_assoc]
theorem nG {m0 M:NH} {T:D4->Prop} {l:List Stm} {v:NV} {C:List (List NV)} (hS:SS m0 T v l C) (hst:aE T m0 M) (i:Nat) (hi:i<l.length):∃w id off wr c,SP m0 T l[i] w/\np 21 v (.int .i64 (.lit (i:Int)))= .val (.ptr id off)/\M.get id=some (.cells wr c)/\aw M id/\off+21<=c.length/\(c.drop off).take 21=l[i].l w:=by
 obtain ⟨cx,hcx,hRx⟩:=hS.at i hi
 have hc:i<C.length:=by rw[hS.len];exact hi
 obtain ⟨id,off,wr,c,a1,a2,a3,a4,a5⟩:=(hS.stays hst).sl.at i hc
 obtain ⟨w,rfl,hP⟩:=hRx.inv'
 rw[List.getElem?_eq_getElem hc] at hcx
 injection hcx with hcx
 exact ⟨w,id,off,wr,c,hP,a1,a2,a3,a4,a5.trans hcx⟩
theorem gX {m:NH} {T:D4->Prop} {s:Stm} {w:SV} (h:SP m T s w):br 4 (.agg (s.l w)) (.agg (s.l w))=true:=by
 obtain ⟨_,_,e1,s1⟩:=h.i.inv'
 obtain ⟨_,_,e2,s2⟩:=h.x.inv'
 obtain ⟨_,_,e3,s3⟩:=h.y.inv'
 injection e1 with _ e1;injection e1 with _ e1;injection e1 with _ e1;injection e1 with _ e1;injection e1 with e1 _
 injection e2 with _ e2;injection e2 with _ e2;injection e2 with _ e2;injection e2 with _ e2;injection e2 with e2 _
 injection e3 with _ e3;injection e3 with _ e3;injection e3 with _ e3;injection e3 with _ e3;injection e3 with e3 _
 obtain ⟨_,hb⟩:=h.b
 obtain ⟨_,he⟩:=h.e
 refine od fun w hw=> ?_
 simp only[Q9,Q8,or_false] at hw
 rcases hw with rfl|rfl|rfl|rfl|rfl|rfl|rfl|rfl|rfl|rfl|rfl|rfl|rfl|rfl|rfl|rfl|rfl|rfl|rfl|rfl|rfl
 all_goals first|trivial|(rw[e1];exact s1.sl.flat)|(rw[e2];exact s2.sl.flat)|(rw[e3];exact s3.sl.flat)|exact hb.sl.flat|exact he.sl.flat
theorem Lo {n:Nat} {s:Stm} (h:GS n s) (d:Nat):1<=(dI d s).length:=by
 cases h<;>simp[dI]<;>omega
theorem sE {n:Nat}:∀{l:List Stm},(∀s∈l,GS n s)->∀d,l.length<=(dj d l).length
 | [],_,_=>by simp
 |s::l,h,d=>by
  have a:=Lo (h s List.mem_cons_self) d
  have b:=sE (fun x hx=>h x (List.mem_cons_of_mem _ hx)) d
  rw[dj,List.length_append,List.length_cons]
  omega
def PW (n:Nat):Prop:=∀{l:List Stm} {d:Nat} {m0 m:NH} {T:D4->Prop} {v:NV} {C:List (List NV)},(∀s∈l,GS n s)->d+n<=40->(dj d l).length<=100000000000->SS m0 T v l C->aE T m0 m->
 ∃m',a6 Tryz.prog S0 20 [v,ii d] m (.str (dj d l)) m'/\Chg [] m m'
set_option maxHeartbeats 4000000 in
theorem Eg {n:Nat} (ih:∀k,n=k+1->PW k):PW n:=by
 intro l d m0 m T v C hl hd hb hS hst
 have hll:=Nat.le_trans (sE hl d) hb
 refine WF.ex1 fun K hK=> ?_
 refine WF.of_wpG (fun _=>rfl) AJ (L:= [(.a .e,ii d),(.e,v)]) rfl ?_
 unfold Lz
 simp (config:={maxSteps:=1000000}) (disch:=first|assumption|omega|(apply ai;omega)|(apply ae;assumption)|(simp only[ay]<;>omega)) only[go_sem,seval]
 rw[ab m]
 refine W.loop (fun k D=>∃t M i,D=⟨t, [],none,M⟩/\NT.get D4.e t=some v/\NT.get D4.e.a t=some (ii d)/\NT.get D4.e.a.a t=some (.str (dj d (l.take i)))/\NT.get D4.e.a.b t=some (ii (i:Nat))/\i+k=l.length/\Chg [] m M) ?_ l.length _ ⟨_,m,0,rfl,by exact gq rfl,by exact gq rfl,by exact gq rfl,by exact gq rfl,by omega,Chg.refl m⟩
 rintro k D ⟨t,M,i,rfl,g1,g2,g3,g4,hik,hC⟩
 apply aM
 unfold yT
 change wp _ _ _ _ ⟨am [] t, [],none,M⟩ _
 rw[←ab M]
 have hstM:=hst.grow hC
 have hlen:=(hS.stays hstM).sl.len
 rw[hS.len] at hlen
 by_cases hi0:¬i<l.length
 ·have e:i=l.length:=by omega
  subst e
  rw[List.take_length] at g3
  simp (config:={maxSteps:=1000000}) (disch:=first|assumption|omega|(apply ai;omega)|(apply ae;assumption)|(simp only[ay]<;>omega)) only[go_sem,seval,g1,g2,g3,g4,hlen]
  rw[ab M]
  exact hK _ hC
 have hi:i<l.length:=by omega
 obtain ⟨w,id,off,wr,c,hP,a1,a2,a3,a4,a5⟩:=nG hS hstM i hi
 have hgs:=hl _ (List.getElem_mem hi)
 have htk:l.take (i+1)=l.take i++ [l[i]]:=by rw[List.take_add_one,List.getElem?_eq_getElem hi];rfl
 have hsum:(dj d (l.take i)).length+(dI d l[i]).length<=100000000000:=by
  refine Nat.le_trans ?_ hb
  have e:l=l.take i++([l[i]]++l.drop (i+1)):=by
   rw[←List.append_assoc,←htk,List.take_append_drop]
  conv=>rhs;rw[e]
  rw[ir,ir,List.length_append,List.length_append,dj,dj,List.append_nil]
  omega
 have hnx:dj d (l.take (i+1))=dj d (l.take i)++dI d l[i]:=by rw[htk,ir,dj,dj,List.append_nil]
 have hldl:=fV d
 generalize hs:l[i]=s at *
 have hsl:(s.l w).length=21:=rfl
 simp (config:={maxSteps:=1000000}) (disch:=first|assumption|omega|(apply ai;omega)|(apply ae;assumption)|(simp only[ay]<;>omega)) only[go_sem,seval,g1,g2,g3,g4,hlen,a1,a2,a5]
 generalize hM1:hp _ 1 M=M1
 have hC1:Chg [] M M1:=bf hM1 rfl
 have hg1:M1.get (na M 0)=some (.cells true (s.l w)):=bu hM1
 have ho1:aw M1 (na M 0):=bB hM1 (by omega)
 obtain ⟨M2,r2,hC2'⟩:=Ls M1 d (by omega)
 have hC2:Chg [] M M2:=hC1.trans hC2' (by simp)
 have hg2:M2.get (na M 0)=some (.cells true (s.l w)):=(hC2'.get ho1 (by simp)).trans hg1
 have ho2:aw M2 (na M 0):=hC2'.old ho1
 have hst2:=hstM.grow hC2
 have hm2:=hC.trans hC2 (by simp)
 have hnx':=hnx
 cases hgs with
 |@set _ a nm x h1 h2=>
  obtain ⟨M3,r3,hC3⟩:=jB h2.g h2.d hP.x hst2
  have hg3:=(hC3.get ho2 (by simp)).trans hg2
  have hlx:=dp h2
  have hln:=h1.len
  have hsx:=cj hP.x
  dsimp only[Stm.l,Stm.x,Stm.i,Stm.y,Stm.k,Stm.a,Stm.nm,Stm.ce,Stm.b,Stm.e] at *
  simp (config:={maxSteps:=1000000}) (disch:=first|assumption|omega|(apply ai;omega)|(apply ae;assumption)|(simp only[ay]<;>omega)) only[go_sem,seval,g1,g2,g3,g4,r2.wf',hg2,r3.wf',hg3,hsx]
  refine ⟨k - 1,by omega,_,M3,i+1,rfl,by exact gq g1,by exact gq g2, ?_,by exact gq rfl,by omega,hm2.trans hC3 (by simp)⟩
  simp (config:={maxSteps:=1000000}) (disch:=first|assumption|omega|(apply ai;omega)|(apply ae;assumption)|(simp only[ay]<;>omega)) only[go_sem,seval]
  rw[hnx,dI]
  simp only[if_true,List.append_assoc,List.cons_append,List.nil_append,List.length_nil,iE,eH,cU,im,di,iG,vM,fi,eE]
 |@load _ a nm ce j h1 h2 h3=>
  obtain ⟨M3,r3,hC3⟩:=sj (s:= .mk 1 a nm ce j zE zE [] []) (w:=w) h2 h3 hP.i hst2
  have hg3:=(hC3.get ho2 (by simp)).trans hg2
  have hlx:=sP h2 h3
  have hln:=h1.len
  have hss:=gX hP
  dsimp only[Stm.l,Stm.x,Stm.i,Stm.y,Stm.k,Stm.a,Stm.nm,Stm.ce,Stm.b,Stm.e] at *
  simp (config:={maxSteps:=1000000}) (disch:=first|assumption|omega|(apply ai;omega)|(apply ae;assumption)|(simp only[ay]<;>omega)) only[go_sem,seval,g1,g2,g3,g4,r2.wf',hg2,r3.wf',hg3,hss]
  refine ⟨k - 1,by omega,_,M3,i+1,rfl,by exact gq g1,by exact gq g2, ?_,by exact gq rfl,by omega,hm2.trans hC3 (by simp)⟩
  simp (config:={maxSteps:=1000000}) (disch:=first|assumption|omega|(apply ai;omega)|(apply ae;assumption)|(simp only[ay]<;>omega)) only[go_sem,seval]
  rw[hnx,dI]
  simp only[if_true,show ¬(1:Int)=0 from by decide,if_false,List.append_assoc,List.cons_append,List.nil_append,List.length_nil,iE,eH,cU,im,di,iG,vM,fi,eE]
 |@store _ a ce j x h2 h3 h4=>
  obtain ⟨M3,r3,hC3⟩:=sj (s:= .mk 2 a [] ce j x zE [] []) (w:=w) h2 h3 hP.i hst2
  obtain ⟨M4,r4,hC4⟩:=jB h4.g h4.d hP.x (hst2.grow hC3)
  have hg3:=(hC3.get ho2 (by simp)).trans hg2
  have hg4:=(hC4.get (hC3.old ho2) (by simp)).trans hg3
  have hlx:=sP h2 h3
  have hly:=dp h4
  have hss:=gX hP
  have hsx:=cj hP.x
  dsimp only[Stm.l,Stm.x,Stm.i,Stm.y,Stm.k,Stm.a,Stm.nm,Stm.ce,Stm.b,Stm.e] at *
  simp (config:={maxSteps:=1000000}) (disch:=first|assumption|omega|(apply ai;omega)|(apply ae;assumption)|(simp only[ay]<;>omega)) only[go_sem,seval,g1,g2,g3,g4,r2.wf',hg2,r3.wf',hg3,r4.wf',hg4,hss,hsx]
  refine ⟨k - 1,by omega,_,M4,i+1,rfl,by exact gq g1,by exact gq g2, ?_,by exact gq rfl,by omega,(hm2.trans hC3 (by simp)).trans hC4 (by simp)⟩
  simp (config:={maxSteps:=1000000}) (disch:=first|assumption|omega|(apply ai;omega)|(apply ae;assumption)|(simp only[ay]<;>omega)) only[go_sem,seval]
  rw[hnx,dI]
  simp only[if_true,show ¬(2:Int)=0 from by decide,show ¬(2:Int)=1 from by decide,if_false,List.append_assoc,List.cons_append,List.nil_append,List.length_nil,iE,eH,cU,im,di,iG,vM,fi,eE]
 |@cas _ a nm ce j x y h1 h2 h3 h4 h5=>
  obtain ⟨M3,r3,hC3⟩:=sj (s:= .mk 3 a nm ce j x y [] []) (w:=w) h2 h3 hP.i hst2
  obtain ⟨M4,r4,hC4⟩:=jB h4.g h4.d hP.x (hst2.grow hC3)
  obtain ⟨M5,r5,hC5⟩:=jB h5.g h5.d hP.y ((hst2.grow hC3).grow hC4)
  have hg3:=(hC3.get ho2 (by simp)).trans hg2
  have hg4:=(hC4.get (hC3.old ho2) (by simp)).trans hg3
  have hg5:=(hC5.get (hC4.old (hC3.old ho2)) (by simp)).trans hg4
  have hlx:=sP h2 h3
  have hly:=dp h4
  have hlz:=dp h5
  have hln:=h1.len
  have hss:=gX hP
  have hsx:=cj hP.x
  have hsy:=cj hP.y
  dsimp only[Stm.l,Stm.x,Stm.i,Stm.y,Stm.k,Stm.a,Stm.nm,Stm.ce,Stm.b,Stm.e] at *
  simp (config:={maxSteps:=1000000}) (disch:=first|assumption|omega|(apply ai;omega)|(apply ae;assumption)|(simp only[ay]<;>omega)) only[go_sem,seval,g1,g2,g3,g4,r2.wf',hg2,r3.wf',hg3,r4.wf',hg4,r5.wf',hg5,hss,hsx,hsy]
  refine ⟨k - 1,by omega,_,M5,i+1,rfl,by exact gq g1,by exact gq g2, ?_,by exact gq rfl,by omega,((hm2.trans hC3 (by simp)).trans hC4 (by simp)).trans hC5 (by simp)⟩
  simp (config:={maxSteps:=1000000}) (disch:=first|assumption|omega|(apply ai;omega)|(apply ae;assumption)|(simp only[ay]<;>omega)) only[go_sem,seval]
  rw[hnx,dI]
  simp only[if_true,show ¬(3:Int)=0 from by decide,show ¬(3:Int)=1 from by decide,show ¬(3:Int)=2 from by decide,if_false,List.append_assoc,List.cons_append,List.nil_append,List.length_nil,iE,eH,cU,im,di,iG,vM,fi,eE]
 |@fence _ a=>
  dsimp only[Stm.l,Stm.x,Stm.i,Stm.y,Stm.k,Stm.a,Stm.nm,Stm.ce,Stm.b,Stm.e] at *
  simp (config:={maxSteps:=1000000}) (disch:=first|assumption|omega|(apply ai;omega)|(apply ae;assumption)|(simp only[ay]<;>omega)) only[go_sem,seval,g1,g2,g3,g4,r2.wf',hg2]
  refine ⟨k - 1,by omega,_,M2,i+1,rfl,by exact gq g1,by exact gq g2, ?_,by exact gq rfl,by omega,hm2⟩
  simp (config:={maxSteps:=1000000}) (disch:=first|assumption|omega|(apply ai;omega)|(apply ae;assumption)|(simp only[ay]<;>omega)) only[go_sem,seval]
  rw[hnx,dI]
  simp only[if_true,show ¬(4:Int)=0 from by decide,show ¬(4:Int)=1 from by decide,show ¬(4:Int)=2 from by decide,show ¬(4:Int)=3 from by decide,if_false,List.append_assoc,List.cons_append,List.nil_append,List.length_nil,iE,eH,cU,im,di,iG,vM,fi,eE]
 |@out _ a x h4=>
  obtain ⟨M3,r3,hC3⟩:=jB h4.g h4.d hP.x hst2
  have hg3:=(hC3.get ho2 (by simp)).trans hg2
  have hlx:=dp h4
  dsimp only[Stm.l,Stm.x,Stm.i,Stm.y,Stm.k,Stm.a,Stm.nm,Stm.ce,Stm.b,Stm.e] at *
  simp (config:={maxSteps:=1000000}) (disch:=first|assumption|omega|(apply ai;omega)|(apply ae;assumption)|(simp only[ay]<;>omega)) only[go_sem,seval,g1,g2,g3,g4,r2.wf',hg2,r3.wf',hg3]
  refine ⟨k - 1,by omega,_,M3,i+1,rfl,by exact gq g1,by exact gq g2, ?_,by exact gq rfl,by omega,hm2.trans hC3 (by simp)⟩
  simp (config:={maxSteps:=1000000}) (disch:=first|assumption|omega|(apply ai;omega)|(apply ae;assumption)|(simp only[ay]<;>omega)) only[go_sem,seval]
  rw[hnx,dI]
  simp only[if_true,show ¬(5:Int)=0 from by decide,show ¬(5:Int)=1 from by decide,show ¬(5:Int)=2 from by decide,show ¬(5:Int)=3 from by decide,show ¬(5:Int)=4 from by decide,if_false,List.append_assoc,List.cons_append,List.nil_append,List.length_nil,iE,eH,cU,im,di,iG,vM,fi,eE]
 |@cond n a x b e h4 hb' he'=>
  have hIH:=@ih n rfl
  have hbl:(dj (d+1) b).length+(dj (d+1) e).length<=100000000000:=by
   have:=hsum
   rw[dI] at this
   simp only[if_true,show ¬(6:Int)=0 from by decide,show ¬(6:Int)=1 from by decide,show ¬(6:Int)=2 from by decide,show ¬(6:Int)=3 from by decide,show ¬(6:Int)=4 from by decide,show ¬(6:Int)=5 from by decide,if_false,List.length_append,List.length_cons,List.length_nil] at this
   by_cases q:e.length=0
   ·obtain rfl:=List.eq_nil_of_length_eq_zero q
    rw[dj,List.length_nil]
    omega
   ·rw[Q4 q] at this
    simp only[List.length_append,List.length_cons,List.length_nil] at this
    omega
  obtain ⟨B,hSb⟩:=hP.b
  obtain ⟨E,hSe⟩:=hP.e
  obtain ⟨M3,r3,hC3⟩:=jB h4.g h4.d hP.x hst2
  obtain ⟨M4,r4,hC4⟩:=hIH hb' (d:=d+1) (by omega) (by omega) hSb (hst2.grow hC3)
  obtain ⟨M5,r5,hC5⟩:=hIH he' (d:=d+1) (by omega) (by omega) hSe ((hst2.grow hC3).grow hC4)
  have hg3:=(hC3.get ho2 (by simp)).trans hg2
  have hg4:=(hC4.get (hC3.old ho2) (by simp)).trans hg3
  have hg5:=(hC5.get (hC4.old (hC3.old ho2)) (by simp)).trans hg4
  have hlx:=dp h4
  have hsx:=cj hP.x
  have hfb:br 4 w.vb w.vb=true:=hSb.sl.same
  have hel:=(hSe.stays ((hst2.grow hC3).grow hC4)).sl.len
  rw[hSe.len] at hel
  have e1:((d:Int)+1)=((d+1:Nat):Int):=by omega
  have hge:=sE he' (d+1)
  dsimp only[Stm.l,Stm.x,Stm.i,Stm.y,Stm.k,Stm.a,Stm.nm,Stm.ce,Stm.b,Stm.e] at *
  by_cases q:e.length=0
  ·have q':decide ((0:Int)<(e.length:Int))=false:=Q6 (by omega)
   simp (config:={maxSteps:=1000000}) (disch:=first|assumption|omega|(apply ai;omega)|(apply ae;assumption)|(simp only[ay]<;>omega)) only[go_sem,seval,g1,g2,g3,g4,r2.wf',hg2,r3.wf',hg3,hsx,e1,r4.wf',hg4,hfb,hel,q']
   refine ⟨k - 1,by omega,_,M4,i+1,rfl,by exact gq g1,by exact gq g2, ?_,by exact gq rfl,by omega,(hm2.trans hC3 (by simp)).trans hC4 (by simp)⟩
   simp (config:={maxSteps:=1000000}) (disch:=first|assumption|omega|(apply ai;omega)|(apply ae;assumption)|(simp only[ay]<;>omega)) only[go_sem,seval]
   rw[hnx,dI]
   simp only[if_true,show ¬(6:Int)=0 from by decide,show ¬(6:Int)=1 from by decide,show ¬(6:Int)=2 from by decide,show ¬(6:Int)=3 from by decide,show ¬(6:Int)=4 from by decide,show ¬(6:Int)=5 from by decide,if_false,List.append_assoc,List.cons_append,List.nil_append,List.length_nil,iE,eH,cU,im,di,iG,vM,fi,eE,Q5 q]
  ·have q':decide ((0:Int)<(e.length:Int))=true:=Q7 (by omega)
   simp (config:={maxSteps:=1000000}) (disch:=first|assumption|omega|(apply ai;omega)|(apply ae;assumption)|(simp only[ay]<;>omega)) only[go_sem,seval,g1,g2,g3,g4,r2.wf',hg2,r3.wf',hg3,hsx,e1,r4.wf',hg4,hfb,hel,q',r5.wf',hg5]
   refine ⟨k - 1,by omega,_,M5,i+1,rfl,by exact gq g1,by exact gq g2, ?_,by exact gq rfl,by omega,((hm2.trans hC3 (by simp)).trans hC4 (by simp)).trans hC5 (by simp)⟩
   simp (config:={maxSteps:=1000000}) (disch:=first|assumption|omega|(apply ai;omega)|(apply ae;assumption)|(simp only[ay]<;>omega)) only[go_sem,seval]
   rw[hnx,dI]
   simp only[if_true,show ¬(6:Int)=0 from by decide,show ¬(6:Int)=1 from by decide,show ¬(6:Int)=2 from by decide,show ¬(6:Int)=3 from by decide,show ¬(6:Int)=4 from by decide,show ¬(6:Int)=5 from by decide,if_false,List.append_assoc,List.cons_append,List.nil_append,List.length_nil,iE,eH,cU,im,di,iG,vM,fi,eE,Q4 q]
 |@loop n a x b h4 hb'=>
  have hIH:=@ih n rfl
  have hbl:(dj (d+1) b).length<=100000000000:=by
   have:=hsum
   rw[dI] at this
   simp only[if_true,show ¬(7:Int)=0 from by decide,show ¬(7:Int)=1 from by decide,show ¬(7:Int)=2 from by decide,show ¬(7:Int)=3 from by decide,show ¬(7:Int)=4 from by decide,show ¬(7:Int)=5 from by decide,show ¬(7:Int)=6 from by decide,if_false,List.length_append,List.length_cons,List.length_nil] at this
   omega
  obtain ⟨B,hSb⟩:=hP.b
  obtain ⟨M3,r3,hC3⟩:=jB h4.g h4.d hP.x hst2
  obtain ⟨M4,r4,hC4⟩:=hIH hb' (d:=d+1) (by omega) hbl hSb (hst2.grow hC3)
  have hg3:=(hC3.get ho2 (by simp)).trans hg2
  have hg4:=(hC4.get (hC3.old ho2) (by simp)).trans hg3
  have hlx:=dp h4
  have hsx:=cj hP.x
  have hfb:br 4 w.vb w.vb=true:=hSb.sl.same
  have e1:((d:Int)+1)=((d+1:Nat):Int):=by omega
  dsimp only[Stm.l,Stm.x,Stm.i,Stm.y,Stm.k,Stm.a,Stm.nm,Stm.ce,Stm.b,Stm.e] at *
  simp (config:={maxSteps:=1000000}) (disch:=first|assumption|omega|(apply ai;omega)|(apply ae;assumption)|(simp only[ay]<;>omega)) only[go_sem,seval,g1,g2,g3,g4,r2.wf',hg2,r3.wf',hg3,hsx,e1,r4.wf',hg4,hfb]
  refine ⟨k - 1,by omega,_,M4,i+1,rfl,by exact gq g1,by exact gq g2, ?_,by exact gq rfl,by omega,(hm2.trans hC3 (by simp)).trans hC4 (by simp)⟩
  simp (config:={maxSteps:=1000000}) (disch:=first|assumption|omega|(apply ai;omega)|(apply ae;assumption)|(simp only[ay]<;>omega)) only[go_sem,seval]
  rw[hnx,dI]
  simp only[if_true,show ¬(7:Int)=0 from by decide,show ¬(7:Int)=1 from by decide,show ¬(7:Int)=2 from by decide,show ¬(7:Int)=3 from by decide,show ¬(7:Int)=4 from by decide,show ¬(7:Int)=5 from by decide,show ¬(7:Int)=6 from by decide,if_false,List.append_assoc,List.cons_append,List.nil_append,List.length_nil,iE,eH,cU,im,di,iG,vM,fi,eE]
theorem ss:∀n,PW n
 |0=>Eg fun k h=>by omega
 |n+1=>Eg fun k h=>Nat.succ.inj h▸ss n
end FR
open Go Nm Go.Proofs
namespace FR
theorem j4 {α:Type} (f:α->List Nat) (l:List α) (i:Nat) (hi:i<l.length):((l.take (i+1)).map f).flatten=((l.take i).map f).flatten++f l[i]:=by
 rw[List.take_add_one,List.getElem?_eq_getElem hi,List.map_append,List.flatten_append]
 simp
theorem nC {α:Type} (f:α->List Nat) (l:List α) (i:Nat):(((l.take i).map f).flatten).length<=((l.map f).flatten).length:=by
 conv=>rhs;rw[←List.take_append_drop i l,List.map_append,List.flatten_append,List.length_append]
 omega
theorem Hj {p:Prg} (hg:GP p) (hb:(jh p).length<=100000000000) {m0 m:NH} {T:D4->Prop} {vc vt vr:NV} (h:RP m0 T p vc vt vr) (hst:aE T m0 m):∃m',a6 Tryz.prog S0 7 [.agg [vc,vt,vr]] m (.str (jh p)) m'/\Chg [] m m':=by
 refine WF.ex1 fun K hK=> ?_
 refine WF.of_wpG (fun _=>rfl) DF (L:= [(.e,.agg [vc,vt,vr])]) rfl ?_
 unfold Qq
 have hcl:((p.cs.map jH).flatten).length+((p.ts.map jU).flatten).length+(tJ p.r).length<=100000000000:=by
  unfold jh at hb
  rw[List.length_append,List.length_append] at hb
  exact hb
 have hnc:p.cs.length<=((p.cs.map jH).flatten).length:=b7 fun c _=>by unfold jH;split<;>simp<;>omega
 have hnt:p.ts.length<=((p.ts.map jU).flatten).length:=b7 fun c _=>by unfold jU;simp
 simp (config:={maxSteps:=1000000}) (disch:=first|assumption|omega|(apply ai;omega)|(apply ae;assumption)|(simp only[ay]<;>omega)) only[go_sem,seval]
 generalize hM1:hp _ 1 m=M1
 have hC1:Chg [] m M1:=bf hM1 rfl
 have hg1:M1.get (na m 0)=some (.cells true [vc,vt,vr]):=bu hM1
 have ho1:aw M1 (na m 0):=bB hM1 (by omega)
 have hst1:=hst.grow hC1
 have h1:=h.stays hst1
 have hlc:=h1.c.len
 rw[List.length_map] at hlc
 refine W.loop (fun k D=>∃t i,D=⟨t, [],none,M1⟩/\NT.get D4.e.a t=some (.ptr (na m 0) 0)/\NT.get D4.e.c t=some (.str (((p.cs.take i).map jH).flatten))/\NT.get D4.e.f t=some (ii (i:Nat))/\i+k=p.cs.length) ?_ p.cs.length _ ⟨_,0,rfl,by exact gq rfl,by exact gq rfl,by exact gq rfl,by omega⟩
 rintro k D ⟨t,i,rfl,g1,g2,g3,hik⟩
 apply aM
 unfold DW
 change wp _ _ _ _ ⟨am [] t, [],none,M1⟩ _
 by_cases hi:i<p.cs.length
 ·obtain ⟨id,off,wr,c,a1,a2,a3,a4,a5⟩:=h1.c.at i (by rw[List.length_map];exact hi)
  rw[List.getElem_map] at a5
  have c0:c[off+0]? =some (.str p.cs[i].1):=cn a5 0 (by omega)
  have c1:c[off+1]? =some (ii p.cs[i].2):=cn a5 1 (by omega)
  obtain ⟨n1,n2,n3⟩:=hg.c _ (List.getElem_mem hi)
  have hft:=j4 jH p.cs i hi
  have hfl:=nC jH p.cs (i+1)
  rw[hft,List.length_append] at hfl
  generalize hz:p.cs[i]=z at *
  obtain ⟨nm,zz⟩:=z
  obtain ⟨u,rfl⟩:=Rb n2
  have hnl:=n1.len
  dsimp only at *
  have hd:=Dv u M1 (by omega)
  have hdl:=jT (u:=u) (by omega)
  have hneg:decide ((u:Int)<0)=false:=Q6 (by omega)
  have hmod:((u:Int) % 18446744073709551616)=(u:Int):=by omega
  by_cases hq:u=1
  ·have hq':decide (¬((u:Int)=1))=false:=Q6 (by omega)
   simp (config:={maxSteps:=1000000}) (disch:=first|assumption|omega|(apply ai;omega)|(apply ae;assumption)|(simp only[ay]<;>omega)) only[go_sem,seval,g1,g2,g3,hg1,hlc,a1,a2,c0,c1,hq']
   refine ⟨k - 1,by omega,_,i+1,rfl,by exact gq g1, ?_,by exact gq rfl,by omega⟩
   simp (config:={maxSteps:=1000000}) (disch:=first|assumption|omega|(apply ai;omega)|(apply ae;assumption)|(simp only[ay]<;>omega)) only[go_sem,seval]
   rw[hft]
   unfold jH
   rw[Q5 (by dsimp only;omega)]
   simp only[List.append_assoc,List.cons_append,List.nil_append,kp]
  ·have hq':decide (¬((u:Int)=1))=true:=Q7 (by omega)
   simp (config:={maxSteps:=1000000}) (disch:=first|assumption|omega|(apply ai;omega)|(apply ae;assumption)|(simp only[ay]<;>omega)) only[go_sem,seval,g1,g2,g3,hg1,hlc,a1,a2,c0,c1,hq',hneg,hmod,hd.wf']
   refine ⟨k - 1,by omega,_,i+1,rfl,by exact gq g1, ?_,by exact gq rfl,by omega⟩
   simp (config:={maxSteps:=1000000}) (disch:=first|assumption|omega|(apply ai;omega)|(apply ae;assumption)|(simp only[ay]<;>omega)) only[go_sem,seval]
   rw[hft]
   unfold jH
   rw[Q4 (by dsimp only;omega)]
   simp only[List.append_assoc,List.cons_append,List.nil_append,kp,Int.toNat_natCast]
 ·have e:i=p.cs.length:=by omega
  subst e
  rw[List.take_length] at g2
  simp (config:={maxSteps:=1000000}) (disch:=first|assumption|omega|(apply ai;omega)|(apply ae;assumption)|(simp only[ay]<;>omega)) only[go_sem,seval,g1,g2,g3,hg1,hlc]
  obtain ⟨TC,hT⟩:=h1.t
  have hlt:=hT.sl.len
  rw[hT.len] at hlt
  refine W.loop (fun k D=>∃t M i,D=⟨t, [],none,M⟩/\NT.get D4.e.a t=some (.ptr (na m 0) 0)/\NT.get D4.e.c t=some (.str ((p.cs.map jH).flatten++((p.ts.take i).map jU).flatten))/\NT.get D4.e.a.b t=some (ii (i:Nat))/\i+k=p.ts.length/\Chg [] M1 M) ?_ p.ts.length _ ⟨_,M1,0,rfl, ?_, ?_,by exact gq rfl,by omega,Chg.refl M1⟩
  case refine_2=>simp (config:={maxSteps:=1000000}) (disch:=first|assumption|omega|(apply ai;omega)|(apply ae;assumption)|(simp only[ay]<;>omega)) only[go_sem,seval,g1]
  case refine_3=>simp (config:={maxSteps:=1000000}) (disch:=first|assumption|omega|(apply ai;omega)|(apply ae;assumption)|(simp only[ay]<;>omega)) only[go_sem,seval,g2];simp
  rintro k' D' ⟨t',M,i,rfl,g1,g2,g3,hik',hC⟩
  apply aM
  unfold vX
  change wp _ _ _ _ ⟨am [] t', [],none,M⟩ _
  have hgM:=(hC.get ho1 (by simp)).trans hg1
  have hoM:=hC.old ho1
  have hstM:=hst1.grow hC
  have hTM:=hT.stays (iM hC T)
  by_cases hi:i<p.ts.length
  ·obtain ⟨vb,B,id,off,wr,c,hSb,a1,a2,a3,a4,a5⟩:=hTM.at i hi
   have c0:c[off+0]? =some (.str p.ts[i].1):=cn a5 0 (by omega)
   have c1:c[off+1]? =some vb:=cn a5 1 (by omega)
   obtain ⟨n1,n2⟩:=hg.t _ (List.getElem_mem hi)
   have hft:=j4 jU p.ts i hi
   have hfl:=nC jU p.ts (i+1)
   rw[hft,List.length_append] at hfl
   generalize hz:p.ts[i]=z at *
   obtain ⟨nm,bb⟩:=z
   have hnl:=n1.len
   dsimp only at *
   have hbb:(dj 1 bb).length+10<=(jU (nm,bb)).length:=by unfold jU;simp only[List.length_append,List.length_cons,List.length_nil];omega
   obtain ⟨M2,r2,hC2⟩:=ss 29 (d:=1) n2 (by omega) (by omega) hSb (iM (Chg.refl M) T)
   have hg2:=(hC2.get hoM (by simp)).trans hgM
   have r2':a6 Tryz.prog S0 20 [vb,.int .i64 (.lit 1)] M (.str (dj 1 bb)) M2:=r2
   have hsb:br 4 vb vb=true:=hSb.sl.same
   have hsvt:br 4 vt vt=true:=hT.sl.same
   have b2:=(hC2.get a3 (by simp)).trans a2
   simp (config:={maxSteps:=1000000}) (disch:=first|assumption|omega|(apply ai;omega)|(apply ae;assumption)|(simp only[ay]<;>omega)) only[go_sem,seval,g1,g2,g3,hgM,hlt,a1,a2,c0,c1,r2'.wf',hg2,b2,hsb,hsvt]
   refine ⟨k' - 1,by omega,_,M2,i+1,rfl,by exact gq g1, ?_,by exact gq rfl,by omega,hC.trans hC2 (by simp)⟩
   simp (config:={maxSteps:=1000000}) (disch:=first|assumption|omega|(apply ai;omega)|(apply ae;assumption)|(simp only[ay]<;>omega)) only[go_sem,seval]
   rw[hft]
   unfold jU
   simp only[List.append_assoc,List.cons_append,List.nil_append,iI]
  ·have e:i=p.ts.length:=by omega
   subst e
   rw[List.take_length] at g2
   obtain ⟨RC',hR⟩:=h1.r
   have hRM:=hR.stays (iM hC T)
   have hlr:=hRM.sl.len
   rw[hR.len] at hlr
   by_cases hz:p.r.length=0
   ·have q':decide ((0:Int)<(p.r.length:Int))=false:=Q6 (by omega)
    simp (config:={maxSteps:=1000000}) (disch:=first|assumption|omega|(apply ai;omega)|(apply ae;assumption)|(simp only[ay]<;>omega)) only[go_sem,seval,g1,g2,g3,hgM,hlt,hlr,q']
    have e:jh p=(p.cs.map jH).flatten++(p.ts.map jU).flatten:=by unfold jh tJ;rw[Q5 hz,List.append_nil]
    rw[e] at hK
    exact hK _ (hC1.trans hC (by simp))
   ·have q':decide ((0:Int)<(p.r.length:Int))=true:=Q7 (by omega)
    have hbb:(dj 1 p.r).length+10<=(tJ p.r).length:=by unfold tJ;rw[Q4 hz];simp only[List.length_append,List.length_cons,List.length_nil];omega
    obtain ⟨M2,r2,hC2⟩:=ss 29 (d:=1) hg.r (by omega) (by omega) hRM (iM (Chg.refl M) T)
    have r2':a6 Tryz.prog S0 20 [vr,.int .i64 (.lit 1)] M (.str (dj 1 p.r)) M2:=r2
    simp (config:={maxSteps:=1000000}) (disch:=first|assumption|omega|(apply ai;omega)|(apply ae;assumption)|(simp only[ay]<;>omega)) only[go_sem,seval,g1,g2,g3,hgM,hlt,hlr,q',r2'.wf']
    have e:jh p=(p.cs.map jH).flatten++(p.ts.map jU).flatten++ [114,101,99,111,118,101,114,32,123,10]++dj 1 p.r++ [125,10]:=by
     unfold jh tJ;rw[Q4 hz];simp only[List.append_assoc,List.cons_append,List.nil_append]
    rw[e] at hK
    exact hK _ ((hC1.trans hC (by simp)).trans hC2 (by simp))
end FR
open Go Nm Go.Proofs
namespace FR
theorem jD {x:Ex} (h:GE x):(cO x).length+5<=30*x.sz:=by
 induction h with
 |int h=>
  have:=jT h
  simp[me,cO,Ex.sz,nB];omega
 |name h=>
  have:=h.len
  simp[gR,cO,Ex.sz,nB];omega
 |@op o x y h hx hy ihx ihy=>
  rw[mC,show (gQ o x y).sz=1+(x.sz+y.sz) from by simp[gQ,Ex.sz,nB]]
  simp only[List.length_append,List.length_cons,List.length_nil]
  omega
theorem xQ {ce:List Nat} {i:Ex} (h1:NmOk ce) (h2:GX i):(iX ce i).length<=20+30*i.sz:=by
 have a:=h1.len
 have b:=jD h2.g
 unfold iX
 split
 ·omega
 ·simp only[List.length_append,List.length_cons,List.length_nil];omega
theorem md {n:Nat}:∀{l:List Stm} {d:Nat},(∀s∈l,(dI d s).length<=60*s.sz)->(dj d l).length<=60*fF l
 | [],_,_=>by simp[dj,fF]
 |s::l,d,h=>by
  have a:=h s List.mem_cons_self
  have b:=md (n:=n) (fun x hx=>h x (List.mem_cons_of_mem _ hx))
  rw[dj,fF,List.length_append]
  omega
theorem D6 {n:Nat} {s:Stm} (h:GS n s):∀d,d+n<=31->(dI d s).length<=60*s.sz:=by
 induction h with
 |set h1 h2=>intro d hd;have a:=h1.len;have b:=jD h2.g;have c:=fV d;have p1:=fQ zE;simp[dI,Stm.sz,fF];omega
 |load h1 h2 h3=>intro d hd;have a:=h1.len;have b:=xQ h2 h3;have c:=fV d;have p1:=fQ zE;simp[dI,Stm.sz,fF];omega
 |store h2 h3 h4=>intro d hd;have a:=jD h4.g;have b:=xQ h2 h3;have c:=fV d;have p1:=fQ zE;simp[dI,Stm.sz,fF];omega
 |cas h1 h2 h3 h4 h5=>intro d hd;have e:=h1.len;have f:=jD h5.g;have a:=jD h4.g;have b:=xQ h2 h3;have c:=fV d;have p1:=fQ zE;simp[dI,Stm.sz,fF];omega
 |fence=>intro d hd;have c:=fV d;have p1:=fQ zE;simp[dI,Stm.sz,fF];omega
 |out h4=>intro d hd;have a:=jD h4.g;have c:=fV d;have p1:=fQ zE;simp[dI,Stm.sz,fF];omega
 |@cond n a x b e h4 hb he ihb ihe=>
  intro d hd
  have c:=fV d
  have f:=jD h4.g
  have p1:=fQ zE
  have p2:=fQ x
  have g1:=md (n:=n) (l:=b) (d:=d+1) fun s hs=>ihb s hs (d+1) (by omega)
  have g2:=md (n:=n) (l:=e) (d:=d+1) fun s hs=>ihe s hs (d+1) (by omega)
  simp only[dI,Stm.sz,if_true,show ¬(6:Int)=0 from by decide,show ¬(6:Int)=1 from by decide,show ¬(6:Int)=2 from by decide,show ¬(6:Int)=3 from by decide,show ¬(6:Int)=4 from by decide,show ¬(6:Int)=5 from by decide,if_false,List.length_append,List.length_cons,List.length_nil]
  have:(if e.length=0 then ([]:List Nat) else [125,32]++fi++ [32,123,10]++dj (d+1) e++ld d).length<=(dj (d+1) e).length+(ld d).length+20:=by
   split
   ·simp
   ·simp only[List.length_append,List.length_cons,List.length_nil];omega
  omega
 |@loop n a x b h4 hb ihb=>
  intro d hd
  have c:=fV d
  have f:=jD h4.g
  have p1:=fQ zE
  have p2:=fQ x
  have g1:=md (n:=n) (l:=b) (d:=d+1) fun s hs=>ihb s hs (d+1) (by omega)
  simp only[dI,Stm.sz,if_true,show ¬(7:Int)=0 from by decide,show ¬(7:Int)=1 from by decide,show ¬(7:Int)=2 from by decide,show ¬(7:Int)=3 from by decide,show ¬(7:Int)=4 from by decide,show ¬(7:Int)=5 from by decide,show ¬(7:Int)=6 from by decide,if_false,List.length_append,List.length_cons,List.length_nil]
  omega
theorem oc {α:Type} {f:α->List Nat} {g:α->Nat}:∀{l:List α},(∀x∈l,(f x).length<=g x)->((l.map f).flatten).length<=(l.map g).sum
 | [],_=>by simp
 |x::l,h=>by
  have a:=h x List.mem_cons_self
  have b:=oc (l:=l) fun y hy=>h y (List.mem_cons_of_mem _ hy)
  simp only[List.map_cons,List.flatten_cons,List.length_append,List.sum_cons];omega
theorem AW {α:Type} {g:α->Nat}:∀(l:List α),(l.map fun x=>100+60*g x).sum=100*l.length+60*(l.map g).sum
 | []=>rfl
 |x::l=>by simp only[List.map_cons,List.sum_cons,AW l,List.length_cons];omega
theorem KE {p:Prg} (h:GP p) {N:Nat} (h1:p.cs.length+p.ts.length<=N) (h2:(p.ts.map fun t=>fF t.2).sum+fF p.r<=4*N):(jh p).length<=340*N+100:=by
 have a:((p.cs.map jH).flatten).length<=(p.cs.map fun _=>100).sum:=oc fun c hc=>by
  have n1:=(h.c c hc).1.len
  have n2:=jT (u:=c.2.toNat) (by have:=(h.c c hc).2;omega)
  unfold jH
  split<;>simp only[List.length_append,List.length_cons,List.length_nil]<;>omega
 have b:((p.ts.map jU).flatten).length<=(p.ts.map fun t=>100+60*fF t.2).sum:=oc fun t ht=>by
  have n1:=(h.t t ht).1.len
  have n2:=md (n:=0) (l:=t.2) (d:=1) fun s hs=>D6 ((h.t t ht).2 s hs) 1 (by omega)
  unfold jU
  simp only[List.length_append,List.length_cons,List.length_nil]
  omega
 rw[AW] at b
 have c:(tJ p.r).length<=100+60*fF p.r:=by
  have n2:=md (n:=0) (l:=p.r) (d:=1) fun s hs=>D6 (h.r s hs) 1 (by omega)
  unfold tJ
  split
  ·simp
  ·simp only[List.length_append,List.length_cons,List.length_nil];omega
 have e:(p.cs.map fun _=>100).sum=100*p.cs.length:=by
  rw[List.map_const'];simp[Nat.mul_comm]
 unfold jh
 rw[List.length_append,List.length_append]
 omega
end FR
open Go Nm Go.Proofs
namespace FR
structure Bld (B m:NH) (id:D4) (d:Int) (s:List Nat):Prop where
 g:∃a b,m.get id=some (.cellsT 57 [a,b,ii d])/\mz id a=true/\((s= []/\b= .nils)∨∃ob,s≠ []/\b= .slc ob 0 s.length 1 0/\m.get ob=some (.cellsT 5 (gJ s))/\aw m ob/\¬aw B ob/\ob≠id)
 o:aw m id
 n:¬aw B id
 c:Chg [] B m
theorem u6 (s:List Nat):(gJ s).length=s.length:=by rw[ic,List.length_map]
theorem FJ (s t:List Nat):sF (gJ s) (gJ t)=gJ (s++t):=by rw[sX,ic,ic,ic,List.map_append]
theorem kJ (id:D4):mz id (.ptr id 0)=true:=by
 show Nat.beq id.toNat id.toNat=true
 exact Nat.beq_refl _
theorem FA {id:D4} {t:List Nat} {m:NH}:Lm 57 5 [.ptr id 0,.str t] m=(match m.get id with
 |some (.cellsT T' [a,b,d])=>cond (Nat.beq T' 57) (cond (mz id a) (match b with
  | .nils=>(match t with
   | []=>some (NV.tup [.int .i64 (.lit 0),.nili],m.put id (.cellsT 57 [.ptr id 0,.nils,d]))
   |c::s=>cond (Nat.ble (s.length+1) 1000000) (some (NV.tup [.int .i64 (.lit (.ofNat (s.length+1))),.nili],(m.put id (.cellsT 57 [.ptr id 0,.slc m.next 0 (s.length+1) 1 0,d])).add (.cellsT 5 (gJ (c::s))))) none)
  | .slc ob 0 n 1 0=>(match m.get ob with
   |some (.cellsT U' c)=>cond (Nat.beq U' 5) (cond (Nat.beq c.length n&&Nat.ble 1 n) (cond (Nat.ble (n+t.length) 1000000) (some (NV.tup [.int .i64 (.lit (.ofNat t.length)),.nili],((m.put ob .dead).put id (.cellsT 57 [.ptr id 0,.slc m.next 0 (n+t.length) 1 0,d])).add (.cellsT 5 (sF c (gJ t))))) none) none) none
   |_=>none)
  |_=>none) none) none
 |_=>none):=by
 show (match m.get id with
  |some (.cellsT T' [a,b,d])=>cond (Nat.beq T' 57) (cond (mz id a) (match b with
   | .nils=>(match t with
    | []=>m.set id (.cellsT 57 [.ptr id 0,.nils,d]) fun h=>some (NV.tup [.int .i64 (.lit 0),.nili],h)
    |c::s=>aq (Nat.succ s.length) fun n=>cond (Nat.ble n 1000000) (m.set id (.cellsT 57 [.ptr id 0,.slc m.next 0 n 1 0,d]) fun h=>h.new (.cellsT 5 (gJ (c::s))) fun _ h=>some (NV.tup [.int .i64 (.lit (.ofNat n)),.nili],h)) none)
   | .slc ob 0 n 1 0=>(match m.get ob with
    |some (.cellsT U' c)=>cond (Nat.beq U' 5) (cond (Nat.beq c.length n&&Nat.ble 1 n) (aq t.length fun m'=>aq (Nat.add n m') fun k=>cond (Nat.ble k 1000000) (m.set ob .dead fun h=>h.set id (.cellsT 57 [.ptr id 0,.slc h.next 0 k 1 0,d]) fun h=>h.new (.cellsT 5 (sF c (gJ t))) fun _ h=>some (NV.tup [.int .i64 (.lit (.ofNat m')),.nili],h)) none) none) none
    |_=>none)
   |_=>none) none) none
  |_=>none)=_
 simp only[NH.set_eq,NH.new_eq,ag]
 rfl
def Kc (m m':NH):Prop:=∀i w c,aw m i->m.get i=some (.cells w c)->m'.get i=some (.cells w c)/\aw m' i
theorem Kc.refl (m:NH):Kc m m:=fun i w c o h=>⟨h,o⟩
theorem Kc.trans {a b c:NH} (h:Kc a b) (k:Kc b c):Kc a c:=fun i w x o g=>by
 obtain ⟨g1,o1⟩:=h i w x o g
 exact k i w x o1 g1
theorem Kc.of {m m':NH} (h:Chg [] m m'):Kc m m':=fun i w c o g=>⟨(h.get o (by simp)).trans g,h.old o⟩
theorem Kc.put {m:NH} {id:D4} {T:Nat} {c:List NV} (h:m.get id=some (.cellsT T c)) (o:NO):Kc m (m.put id o):=fun i w x ho g=>by
 have hn:i≠id:=fun e=>by rw[e,h] at g;cases g
 exact ⟨(NH.get_put_ne m o hn).trans g,(Chg.put m id o).old ho⟩
theorem LU {B m:NH} {id:D4} {d:Int} {s t:List Nat} (h:Bld B m id d s) (hl:s.length+t.length<=1000000):∃w m',a6 Tryz.prog S0 35 [.ptr id 0,.str t] m w m'/\Bld B m' id d (s++t)/\Kc m m':=by
 obtain ⟨⟨a,b,g1,g2,g3⟩,ho,hn,hc⟩:=h
 have hS:S0 35 [.ptr id 0,.str t] m=Lm 57 5 [.ptr id 0,.str t] m:=rfl
 have kk:∀{w m'},Lm 57 5 [.ptr id 0,.str t] m=some (w,m')->a6 Tryz.prog S0 35 [.ptr id 0,.str t] m w m':=fun q=>a6.keptM (hS.trans q)
 rw[FA,g1] at kk
 dsimp only at kk
 rw[g2,show Nat.beq 57 57=true from rfl,cond_true,cond_true] at kk
 have hnx:¬aw B m.next:=fun q=>Nat.lt_irrefl _ (Nat.lt_of_lt_of_le q hc.next)
 have hin:id≠m.next:=ho.next_ne
 rcases g3 with ⟨rfl,rfl⟩|⟨ob,hs,rfl,k1,k2,k3,k4⟩
 ·cases t with
  |nil=>
   dsimp only at kk
   refine ⟨_,_,kk rfl,⟨⟨_,_,NH.get_put_same _ _ _,kJ id,Or.inl ⟨rfl,rfl⟩⟩,(Chg.put m id _).old ho,hn,hc.trans (Chg.put m id _) fun i hi ho=>Q3 ho (by rw[one hi];exact hn)⟩,Kc.put g1 _⟩
  |cons c t=>
   dsimp only at kk
   have hl':t.length+1<=1000000:=by simpa using hl
   rw[Nat.ble_eq_true_of_le hl',cond_true] at kk
   refine ⟨_,_,kk rfl, ?_, ?_⟩
   rotate_left
   ·exact (Kc.put g1 _).trans (Kc.of (Chg.add _ _))
   have c1:Chg [] B (m.put id (.cellsT 57 [.ptr id 0,.slc m.next 0 (t.length+1) 1 0,ii d])):=hc.trans (Chg.put m id _) fun i hi ho=>Q3 ho (by rw[one hi];exact hn)
   refine ⟨⟨_,_,(NH.get_add_ne (m.put id _) _ (show id≠(m.put id _).next from hin)).trans (NH.get_put_same _ _ _),kJ id,Or.inr ⟨m.next,by simp,rfl,NH.get_add_same _ _,bh _ _,hnx,fun q=>hin q.symm⟩⟩,(Chg.add _ _).old ((Chg.put m id _).old ho),hn,c1.trans (Chg.add _ _) (by simp)⟩
 ·have hlp:1<=s.length:=List.length_pos_iff.mpr hs
  have e2:Lm 57 5 [.ptr id 0,.str t] m=(match m.get ob with
   |some (.cellsT U' c)=>cond (Nat.beq U' 5) (cond (Nat.beq c.length s.length&&Nat.ble 1 s.length) (cond (Nat.ble (s.length+t.length) 1000000) (some (NV.tup [.int .i64 (.lit (.ofNat t.length)),.nili],((m.put ob .dead).put id (.cellsT 57 [.ptr id 0,.slc m.next 0 (s.length+t.length) 1 0,ii d])).add (.cellsT 5 (sF c (gJ t))))) none) none) none
   |_=>none):=by
   rw[FA,g1]
   dsimp only
   rw[g2,show Nat.beq 57 57=true from rfl,cond_true,cond_true]
   rfl
  rw[k1] at e2
  dsimp only at e2
  rw[show Nat.beq 5 5=true from rfl,cond_true,u6,Nat.beq_refl,Nat.ble_eq_true_of_le hlp,Bool.and_self,cond_true,Nat.ble_eq_true_of_le hl,cond_true,FJ] at e2
  have kk:=a6.keptM (P:=Tryz.prog) (S:=S0) (f:=35) (hS.trans e2)
  refine ⟨_,_,kk, ?_, ?_⟩
  rotate_left
  ·exact ((Kc.put k1 _).trans (Kc.put ((NH.get_put_ne m _ (fun q=>k4 q.symm)).trans g1) _)).trans (Kc.of (Chg.add _ _))
  have c0:Chg [] B (m.put ob .dead):=hc.trans (Chg.put m ob _) fun i hi ho=>Q3 ho (by rw[one hi];exact k3)
  have c1:Chg [] B ((m.put ob .dead).put id (.cellsT 57 [.ptr id 0,.slc m.next 0 (s.length+t.length) 1 0,ii d])):=c0.trans (Chg.put _ id _) fun i hi ho=>Q3 ho (by rw[one hi];exact hn)
  refine ⟨⟨_,_,(NH.get_add_ne ((m.put ob .dead).put id _) _ (show id≠((m.put ob .dead).put id _).next from hin)).trans (NH.get_put_same _ _ _),kJ id,Or.inr ⟨m.next,by simp[hs],by rw[List.length_append],NH.get_add_same _ _,bh _ _,hnx,fun q=>hin q.symm⟩⟩,(Chg.add _ _).old ((Chg.put _ id _).old ((Chg.put _ ob _).old ho)),hn,c1.trans (Chg.add _ _) (by simp)⟩
theorem Dd (s:List Nat) (h:∀c∈s,c<256):yE (gJ s)=some s:=by
 induction s with
 |nil=>rfl
 |cons c s ih=>
  show cond (Nat.blt c 256) (match yE (gJ s) with|some l=>some (c::l)|none=>none) none=_
  rw[ih fun x hx=>h x (List.mem_cons_of_mem _ hx),show Nat.blt c 256=true from Nat.ble_eq_true_of_le (h c List.mem_cons_self)]
  rfl
theorem AY {id:D4} {m:NH}:Ch 57 5 [.ptr id 0] m=(match m.get id with
 |some (.cellsT T' [_,b,_])=>cond (Nat.beq T' 57) (match b with
  | .nils=>some (.str [],m)
  | .slc ob 0 n 1 0=>(match m.get ob with
   |some (.cellsT U' c)=>cond (Nat.beq U' 5) (cond (Nat.beq c.length n&&Nat.ble 1 n) (match yE c with|some s=>m.set ob .dead fun h=>some (NV.str s,h)|none=>none) none) none
   |_=>none)
  |_=>none) none
 |_=>none):=rfl
theorem IE {B m:NH} {id:D4} {d:Int} {s:List Nat} (h:Bld B m id d s) (hb:∀c∈s,c<256):∃m',a6 Tryz.prog S0 18 [.ptr id 0] m (.str s) m'/\Chg [] B m':=by
 obtain ⟨⟨a,b,g1,g2,g3⟩,ho,hn,hc⟩:=h
 have hS:S0 18 [.ptr id 0] m=Ch 57 5 [.ptr id 0] m:=rfl
 rcases g3 with ⟨rfl,rfl⟩|⟨ob,hs,rfl,k1,k2,k3,k4⟩
 ·refine ⟨m,a6.keptM (hS.trans ?_),hc⟩
  rw[AY,g1]
  rfl
 ·have hlp:1<=s.length:=List.length_pos_iff.mpr hs
  have e2:Ch 57 5 [.ptr id 0] m=(match m.get ob with
   |some (.cellsT U' c)=>cond (Nat.beq U' 5) (cond (Nat.beq c.length s.length&&Nat.ble 1 s.length) (match yE c with|some s=>m.set ob .dead fun h=>some (NV.str s,h)|none=>none) none) none
   |_=>none):=by
   rw[AY,g1]
   rfl
  rw[k1] at e2
  dsimp only at e2
  rw[show Nat.beq 5 5=true from rfl,cond_true,u6,Nat.beq_refl,Nat.ble_eq_true_of_le hlp,Bool.and_self,cond_true,Dd s hb] at e2
  dsimp only at e2
  rw[NH.set_eq] at e2
  exact ⟨_,a6.keptM (hS.trans e2),hc.trans (Chg.put m ob _) fun i hi ho=>Q3 ho (by rw[one hi];exact k3)⟩
end FR
open Go Nm Go.Proofs
namespace FR
structure Tb (m:NH):Prop where
 t:lH 0 m=true
 o:aw m (D4.of 0)
theorem Tb.chg {m m':NH} (h:Tb m) (hc:Chg [] m m'):Tb m':=⟨by have:=h.t;unfold lH at this ⊢;rw[hc.get h.o (by simp)];exact this,hc.old h.o⟩
theorem qS:∀(k u:Nat) (acc:List Nat),u<10 ^ k->0<k->kh k u acc=du u++acc:=by
 intro k
 induction k with
 |zero=>intro u acc _ h;omega
 |succ k ih=>
  intro u acc hu _
  rw[qV,du]
  by_cases h:u<10
  ·rw[Q5 h,Q5 h];rfl
  ·rw[Q4 h,Q4 h]
   rcases Nat.eq_zero_or_pos k with rfl|hk
   ·omega
   ·rw[ih _ _ (by rw[Nat.pow_succ] at hu;omega) hk]
    simp
theorem PI {m:NH} (hb:Tb m) {n:Nat} (hn:n<18446744073709551616):a6 Tryz.prog S0 26 [u64 n,.int .i64 (.lit 10)] m (.str (du n)) m:=by
 refine a6.keptM ?_
 show Im 0 [.int .u64 (.lit (.ofNat n)),.int .i64 (.lit 10)] m=_
 show cond (Nat.ble n 99) (some (NV.str (kh 20 n []),m)) (cond (lH 0 m) (cond (Nat.ble n 18446744073709551615) (some (NV.str (kh 20 n []),m)) none) none)=_
 rw[qS 20 n [] (by show n<100000000000000000000;omega) (by omega),List.append_nil,hb.t,Nat.ble_eq_true_of_le (by omega:n<=18446744073709551615)]
 cases Nat.ble n 99<;>rfl
theorem ye {n:Nat} (hn:n<18446744073709551616):uL (n:Int)=du n:=by
 show kh 20 n []=_
 rw[qS 20 n [] (by show n<100000000000000000000;omega) (by omega),List.append_nil]
theorem PM {m:NH} (hb:Tb m) {n:Nat} (hn:n<=9223372036854775807):a6 Tryz.prog S0 34 [ii n] m (.str (du n)) m:=by
 refine a6.keptM ?_
 show rj 0 [.int .i64 (.lit (n:Int))] m=_
 unfold rj
 dsimp only
 rw[hb.t,ye (by omega),ji,ji,Q7 (show Int.negSucc 9223372036854775807<=(n:Int) by omega),Q7 (show (n:Int)<=Int.ofNat 9223372036854775807 by show (n:Int)<=((9223372036854775807:Nat):Int);omega)]
 rfl
theorem Ao:∀d,Cm d=ld d
 |0=>rfl
 |d+1=>by
  show 32::32::Cm d=_
  rw[Ao d,ld,ld,List.replicate_succ];rfl
theorem Ph (m:NH) {d:Nat} (hd:d<=1000):a6 Tryz.prog S0 36 [.str [32,32],ii d] m (.str (ld d)) m:=by
 refine a6.keptM ?_
 show cond (Nat.ble d 1000) (some (NV.str (Cm d),m)) none=_
 rw[Nat.ble_eq_true_of_le hd,Ao];rfl
theorem ja {x:Ex} (h:GE x):x.depth<=30->∀{m0 m:NH} {T:D4->Prop} {c:List NV},Tb m->RE m0 T x c->aE T m0 m->∃m',a6 Tryz.prog S0 11 [.agg c] m (.str (cO x)) m'/\Chg [] m m':=by
 induction h with
 |@int n h=>
  intro _ m0 m T c hb hR hst
  obtain ⟨vk,C,rfl,hS⟩:=hR.inv
  refine WF.ex1 fun K hK=> ?_
  refine WF.of_wpG (fun _=>rfl) nH (L:= [(.e,.agg [ii 0,u64 n,u8 0,.str [],vk])]) rfl ?_
  unfold F4
  generalize hM1:hp [(.n 0,.cells true [ii 0,u64 n,u8 0,.str [],vk])] 1 m=M1
  have hC1:Chg [] m M1:=bf hM1 rfl
  have hg1:M1.get (na m 0)=some (.cells true [ii 0,u64 n,u8 0,.str [],vk]):=bu hM1
  have hd:=PI (hb.chg hC1) h
  simp (config:={maxSteps:=1000000}) (disch:=first|assumption|omega|(apply ai;omega)|(apply ae;assumption)|(simp only[ay]<;>omega)) only[go_sem,seval,hM1,hg1,hd.wf']
  have e:cO (me n)=du n:=by simp[me,cO]
  rw[e] at hK
  exact hK _ hC1
 |@name s h=>
  intro _ m0 m T c hb hR hst
  obtain ⟨vk,C,rfl,hS⟩:=hR.inv
  refine WF.ex1 fun K hK=> ?_
  refine WF.of_wpG (fun _=>rfl) nH (L:= [(.e,.agg [ii 1,u64 0,u8 0,.str s,vk])]) rfl ?_
  unfold F4
  simp (config:={maxSteps:=1000000}) (disch:=first|assumption|omega|(apply ai;omega)|(apply ae;assumption)|(simp only[ay]<;>omega)) only[go_sem,seval]
  have e:cO (gR s)=s:=by simp[gR,cO]
  rw[e] at hK
  exact hK _ (aH rfl)
 |@op o x y h hx hy ihx ihy=>
  intro hd m0 m T c hb hR hst
  have hdep:(gQ o x y).depth=max x.depth y.depth+1:=by simp[gQ,Ex.depth,bo]
  rw[mC]
  have ho:o<256:=by have:=of_decide_eq_true h;omega
  have lx:=dp ⟨hx,by omega⟩
  have ly:=dp ⟨hy,by omega⟩
  obtain ⟨vk,C,rfl,hS⟩:=hR.inv
  refine WF.ex1 fun K hK=> ?_
  refine WF.of_wpG (fun _=>rfl) nH (L:= [(.e,.agg [ii 2,u64 0,u8 o,.str [],vk])]) rfl ?_
  unfold F4
  generalize hM1:hp [(.n 0,.cells true [ii 2,u64 0,u8 o,.str [],vk])] 1 m=M1
  have hC1:Chg [] m M1:=bf hM1 rfl
  have hg1:M1.get (na m 0)=some (.cells true [ii 2,u64 0,u8 o,.str [],vk]):=bu hM1
  have hst1:=hst.grow hC1
  have hlk:=(hS.stays hst1).sl.len
  rw[hS.len] at hlk
  obtain ⟨ua,ia,oa,wa,ca,hRa,a1,a2,a3,a4,a5⟩:=jV hS hst1 0 (by simp)
  obtain ⟨ub,ib,ob,wb,cb,hRb,b1,b2,b3,b4,b5⟩:=jV hS hst1 1 (by simp)
  have a1':np 5 vk (ii 0)= .val (.ptr ia oa):=a1
  have b1':np 5 vk (ii 1)= .val (.ptr ib ob):=b1
  have ho1:aw M1 (na m 0):=bB hM1 (by omega)
  have hC2:Chg [] M1 (M1.add (.cells true [u8 o])):=Chg.add M1 _
  have hgN:(M1.add (.cells true [u8 o])).get M1.next=some (.cells true [u8 o]):=NH.get_add_same M1 _
  have hoN:aw (M1.add (.cells true [u8 o])) M1.next:=bh M1 _
  generalize hM2:M1.add (.cells true [u8 o])=M2 at hC2 hgN hoN
  have hsl:Sl M2 (.slc M1.next 0 1 1 1) 1 (gi [o]):=⟨by simp[gi],Or.inr ⟨M1.next,0,1,true, [u8 o],rfl,hgN,hoN,by simp[gi],by simp[gi]⟩⟩
  have hbts:p9 M2 (.slc M1.next 0 1 1 1)= .val (.str [o]):=hsl.bts (by simpa using ho)
  have hst2:=hst1.grow hC2
  obtain ⟨M3,hr3,hC3⟩:=ihx (by omega) ((hb.chg hC1).chg hC2) hRa hst2
  have hst3:=hst2.grow hC3
  obtain ⟨M4,hr4,hC4⟩:=ihy (by omega) (((hb.chg hC1).chg hC2).chg hC3) hRb hst3
  have hg2:=(hC2.get ho1 (by simp)).trans hg1
  have hg3:=(hC3.get (hC2.old ho1) (by simp)).trans hg2
  have hg4:=(hC4.get (hC3.old (hC2.old ho1)) (by simp)).trans hg3
  have a22:=(hC2.get a3 (by simp)).trans a2
  have b22:=(hC2.get b3 (by simp)).trans b2
  have a23:=(hC3.get (hC2.old a3) (by simp)).trans a22
  have b23:=(hC3.get (hC2.old b3) (by simp)).trans b22
  have a24:=(hC4.get (hC3.old (hC2.old a3)) (by simp)).trans a23
  have b24:=(hC4.get (hC3.old (hC2.old b3)) (by simp)).trans b23
  have hvk:br 4 vk vk=true:=hS.sl.same
  have hsa:=cj hRa
  have hsb:=cj hRb
  simp (config:={maxSteps:=1000000}) (disch:=first|assumption|omega|(apply ai;omega)|(apply ae;assumption)|(simp only[ay]<;>omega)) only[go_sem,seval,hM1,hg1,hlk,a1',a2,a5,b1',b2,b5,hM2,hg2,hbts,a22,b22,hr3.wf',hg3,a23,b23,hr4.wf',hg4,a24,b24,hvk,hsa,hsb]
  have hs3:p9 M3 (.slc M1.next 0 1 1 1)= .val (.str [o]):=(hsl.chg hC3 (by simp)).bts (by simpa using ho)
  have hs4:p9 M4 (.slc M1.next 0 1 1 1)= .val (.str [o]):=((hsl.chg hC3 (by simp)).chg hC4 (by simp)).bts (by simpa using ho)
  rw[hs3,hs4]
  have q:br 4 (.str [o]) (.str [o])=true:=rS (n:=3)
  refine ⟨q,q, ?_⟩
  have:=hK M4 (((hC1.trans hC2 (by simp)).trans hC3 (by simp)).trans hC4 (by simp))
  simpa using this
theorem se {s:Stm} {w:SV} {m0 m:NH} {T:D4->Prop} (h1:NmOk s.ce) (h2:GX s.i) (hR:RE m0 T s.i (s.i.l w.vi)) (hb:Tb m) (hst:aE T m0 m):∃m',a6 Tryz.prog S0 62 [.agg (s.l w)] m (.str (iX s.ce s.i)) m'/\Chg [] m m':=by
 refine WF.ex1 fun K hK=> ?_
 refine WF.of_wpG (fun _=>rfl) AI (L:= [(.e,.agg (s.l w))]) rfl ?_
 unfold Jd
 generalize hM1:hp [(.n 0,.cells true (s.l w))] 1 m=M1
 have hC1:Chg [] m M1:=bf hM1 rfl
 have hg1:M1.get (na m 0)=some (.cells true (s.l w)):=bu hM1
 have ho1:aw M1 (na m 0):=bB hM1 (by omega)
 have hsl:(s.l w).length=21:=rfl
 obtain ⟨M2,r2,hC2⟩:=ja h2.g h2.d (hb.chg hC1) hR (hst.grow hC1)
 have hg2:=(hC2.get ho1 (by simp)).trans hg1
 have hcl:=h1.len
 have hil:=dp h2
 have hsa:=cj hR
 unfold iX at hK
 by_cases q0:s.i.k=0
 ·have d0:decide (s.i.k=0)=true:=Q7 q0
  by_cases q1:s.i.n=0
  ·have d1:decide ((s.i.n:Int)=0)=true:=Q7 (by omega)
   rw[Q5 ⟨q0,q1⟩] at hK
   simp (config:={maxSteps:=1000000}) (disch:=first|assumption|omega|(apply ai;omega)|(apply ae;assumption)|(simp only[ay]<;>omega)) only[go_sem,seval,hM1,hg1,hsl,d0,d1]
   exact hK _ hC1
  ·have d1:decide ((s.i.n:Int)=0)=false:=Q6 (by omega)
   rw[Q4 (fun q=>q1 q.2)] at hK
   simp (config:={maxSteps:=1000000}) (disch:=first|assumption|omega|(apply ai;omega)|(apply ae;assumption)|(simp only[ay]<;>omega)) only[go_sem,seval,hM1,hg1,hsl,d0,d1,r2.wf',hg2,hsa]
   have:=hK _ (hC1.trans hC2 (by simp))
   simpa using this
 ·have d0:decide (s.i.k=0)=false:=Q6 q0
  rw[Q4 (fun q=>q0 q.1)] at hK
  simp (config:={maxSteps:=1000000}) (disch:=first|assumption|omega|(apply ai;omega)|(apply ae;assumption)|(simp only[ay]<;>omega)) only[go_sem,seval,hM1,hg1,hsl,d0,r2.wf',hg2,hsa]
  have:=hK _ (hC1.trans hC2 (by simp))
  simpa using this
end FR
open Go Nm Go.Proofs
namespace FR
theorem IK {m M:NH} {v:NV} {e:Nat} {C:List (List NV)} (h:Sl m v e C) (k:Kc m M):Sl M v e C:=by
 obtain ⟨h0,⟨rfl,rfl⟩|⟨id,off,kc,w,c,rfl,h1,h2,h3,h4⟩⟩:=h
 ·exact ⟨h0,Or.inl ⟨rfl,rfl⟩⟩
 ·obtain ⟨g1,g2⟩:=k id w c h2 h1
  exact ⟨h0,Or.inr ⟨id,off,kc,w,c,rfl,g1,g2,h3,h4⟩⟩
theorem rq (parts:List (List Nat)) (i:Nat) (hi:i<parts.length):(parts.take (i+1)).flatten=(parts.take i).flatten++parts[i]:=by
 rw[List.take_add_one,List.getElem?_eq_getElem hi,List.flatten_append]
 simp
theorem wl (parts:List (List Nat)) (i:Nat):((parts.take i).flatten).length<=parts.flatten.length:=by
 conv=>rhs;rw[←List.take_append_drop i parts,List.flatten_append,List.length_append]
 omega
theorem dh {B m:NH} {id:D4} {d:Nat} {s:List Nat} {v:NV} {parts:List (List Nat)} (h:Bld B m id (d:Int) s) (hv:Sl m v 1 (ft parts)) (hd:d<=1000) (hp:parts.length<=100) (hl:s.length+2*d+parts.flatten.length+1<=1000000):
 ∃m',a6 Tryz.prog S0 16 [.ptr id 0,v] m (.tup []) m'/\Bld B m' id (d:Int) (s++ld d++parts.flatten++ [10])/\Kc m m':=by
 have key:∃w m',a6 Tryz.prog S0 16 [.ptr id 0,v] m w m'/\w= .tup []/\Bld B m' id (d:Int) (s++ld d++parts.flatten++ [10])/\Kc m m':=by
  refine WF.ex fun K hK=> ?_
  refine WF.of_wpG (fun _=>rfl) y9 (L:= [(.a .e,v),(.e,.ptr id 0)]) rfl ?_
  unfold JF
  have hld:=fV d
  obtain ⟨a,b,g,-⟩:=h.g
  have r0:=Ph m hd
  obtain ⟨w1,m1,r1,h1,k1⟩:=LU (t:=ld d) h (by omega)
  obtain ⟨a1,b1,g1,-⟩:=h1.g
  have hv1:=IK hv k1
  have hlen:=hv1.len
  rw[List.length_map] at hlen
  have hone:=hv1.one
  rw[ab m]
  simp (config:={maxSteps:=1000000}) (disch:=first|assumption|omega|(apply ai;omega)|(apply ae;assumption)|(simp only[ay]<;>omega)) only[go_sem,seval,g,rG,r0.wf',r1.wf',g1,hlen]
  refine W.loop (fun k D=>∃t M i,D=⟨t, [],none,M⟩/\NT.get D4.e t=some (.ptr id 0)/\NT.get D4.e.c.c t=some v/\NT.get D4.e.c.f t=some (ii parts.length)/\NT.get D4.e.f.a t=some (ii (i:Nat))/\i+k=parts.length/\Bld B M id (d:Int) (s++ld d++(parts.take i).flatten)/\Kc m M) ?_ parts.length _ ⟨_,m1,0,rfl,by exact gq rfl,by exact gq rfl,by exact gq rfl,by exact gq rfl,by omega,by simpa using h1,k1⟩
  rintro k D ⟨t,M,i,rfl,t0,t1,t2,t3,hik,hB,hK1⟩
  apply aM
  unfold AR
  change wp _ _ _ _ ⟨am [] t, [],none,M⟩ _
  have hvM:=IK hv hK1
  obtain ⟨a2,b2,g2,-⟩:=hB.g
  by_cases hi:i<parts.length
  ·obtain ⟨iv,off,w,c,x1,x2,x3,x4,x5⟩:=hvM.at i (by rw[List.length_map];exact hi)
   rw[List.getElem_map] at x5
   have c0:c[off]? =some (.str parts[i]):=cn x5 0 (by omega)
   have hft:=rq parts i hi
   have hfl:=wl parts (i+1)
   rw[hft,List.length_append] at hfl
   obtain ⟨w2,M2,r2,h2,k2⟩:=LU (t:=parts[i]) hB (by simp only[List.length_append];omega)
   simp (config:={maxSteps:=1000000}) (disch:=first|assumption|omega|(apply ai;omega)|(apply ae;assumption)|(simp only[ay]<;>omega)) only[go_sem,seval,t0,t1,t2,t3,x1,x2,c0,g2,r2.wf']
   refine ⟨k - 1,by omega,_,M2,i+1,rfl,by exact gq t0,by exact gq t1,by exact gq t2,by exact gq rfl,by omega, ?_,hK1.trans k2⟩
   rw[hft,←List.append_assoc]
   exact h2
  ·have e:i=parts.length:=by omega
   subst e
   rw[List.take_length] at hB
   obtain ⟨w2,M2,r2,h2,k2⟩:=LU (t:= [10]) hB (by simp only[List.length_append,List.length_cons,List.length_nil];omega)
   simp (config:={maxSteps:=1000000}) (disch:=first|assumption|omega|(apply ai;omega)|(apply ae;assumption)|(simp only[ay]<;>omega)) only[go_sem,seval,t0,t1,t2,t3,g2,r2.wf']
   exact hK _ _ ⟨rfl,h2,hK1.trans k2⟩
 obtain ⟨w,m',h1,rfl,h2,h3⟩:=key
 exact ⟨m',h1,h2,h3⟩
end FR
open Go Nm Go.Proofs
namespace FR
theorem Bld.chg {B m m':NH} {id:D4} {d:Int} {s:List Nat} (h:Bld B m id d s) (hc:Chg [] m m'):Bld B m' id d s:=by
 obtain ⟨⟨a,b,g1,g2,g3⟩,ho,hn,hc0⟩:=h
 refine ⟨⟨a,b,(hc.get ho (by simp)).trans g1,g2, ?_⟩,hc.old ho,hn,hc0.trans hc (by simp)⟩
 rcases g3 with g3|⟨ob,hs,hb,k1,k2,k3,k4⟩
 ·exact Or.inl g3
 ·exact Or.inr ⟨ob,hs,hb,(hc.get k2 (by simp)).trans k1,hc.old k2,k3,k4⟩
theorem bP {M:NH} {id:D4} {parts:List (List Nat)} {n:Nat} (hg:M.get id=some (.cells true (parts.map NV.str))) (ho:aw M id) (hn:n=parts.length):Sl M (.slc id 0 n 1 n) 1 (ft parts):=by
 subst hn
 have hf:∀l:List (List Nat),(ft l).flatten=l.map NV.str:=fun l=>by
  induction l with
  |nil=>rfl
  |cons a l ih=>show [NV.str a]++(ft l).flatten=_;rw[ih];rfl
 refine ⟨by simp,Or.inr ⟨id,0,parts.length,true,parts.map NV.str,by rw[List.length_map],hg,ho,by simp, ?_⟩⟩
 rw[hf,List.drop_zero,List.length_map,Nat.mul_one,←List.length_map (f:=NV.str),List.take_length]
theorem Tb.kc {m m':NH} (h:Tb m) (hk:Kc m m'):Tb m':=by
 have ht:=h.t
 unfold lH at ht
 split at ht
 ·rename_i w c hc
  obtain ⟨g,o⟩:=hk _ _ _ h.o hc
  exact ⟨by unfold lH;rw[g];exact ht,o⟩
 ·cases ht
def O8 (n:Nat):Prop:=∀{l:List Stm} {d:Nat} {B m:NH} {id:D4} {S:List Nat} {T:D4->Prop} {v:NV} {C:List (List NV)},(∀s∈l,GS n s)->Tb m->Bld B m id (d:Int) S->SS B T v l C->d+n<=39->S.length+(dj (d+1) l).length<=1000000->
 ∃m',a6 Tryz.prog S0 17 [.ptr id 0,v] m (.tup []) m'/\Bld B m' id (d:Int) (S++dj (d+1) l)/\Kc m m'
set_option maxHeartbeats 4000000 in
theorem OM {n:Nat} (ih:∀k,n=k+1->O8 k) {s:Stm} (hs:GS n s) {d:Nat} {B m:NH} {id:D4} {S:List Nat} {T:D4->Prop} {w:SV} (hb:Tb m) (h:Bld B m id (d:Int) S) (hP:SP B T s w) (hd:d+n<=40) (hl:S.length+(dI d s).length<=1000000):
 ∃m',a6 Tryz.prog S0 37 [.ptr id 0,.agg (s.l w)] m (.tup []) m'/\Bld B m' id (d:Int) (S++dI d s)/\Kc m m':=by
 have key:∃u m',a6 Tryz.prog S0 37 [.ptr id 0,.agg (s.l w)] m u m'/\u= .tup []/\Bld B m' id (d:Int) (S++dI d s)/\Kc m m':=by
  refine WF.ex fun K hK=> ?_
  refine WF.of_wpG (fun _=>rfl) zo (L:= [(.a .e,.agg (s.l w)),(.e,.ptr id 0)]) rfl ?_
  unfold Ks
  generalize hM1:hp [(.n 0,.cells true (s.l w))] 1 m=M1
  have hC1:Chg [] m M1:=bf hM1 rfl
  have hg1:M1.get (na m 0)=some (.cells true (s.l w)):=bu hM1
  have ho1:aw M1 (na m 0):=bB hM1 (by omega)
  have hsl:(s.l w).length=21:=rfl
  have hb1:=hb.chg hC1
  have h1:=h.chg hC1
  have hst1:aE T B M1:=iM h1.c T
  have hldl:=fV d
  cases hs with
  |@set _ a nm x g1 g2=>
   have hnx:dI d (.mk 0 a nm [] zE x zE [] [])=ld d++ [[115,101,116,32],nm, [32],cO x, [59]].flatten++ [10]:=by
    rw[dI]
    simp only[if_true,List.append_assoc,List.cons_append,List.nil_append,List.flatten_cons,List.flatten_nil,List.append_nil,iE,eH,cU,im,di,iG]
   rw[hnx] at hK hl
   simp only[List.length_append,List.length_cons,List.length_nil] at hl
   obtain ⟨M2,r2,hC2⟩:=ja g2.g g2.d hb1 hP.x hst1
   have hs2:=cj hP.x
   have hb2:=hb1.chg hC2
   have h2:=h1.chg hC2
   have hst2:aE T B M2:=iM h2.c T
   have ho2:=hC2.old ho1
   have hg2:=(hC2.get ho1 (by simp)).trans hg1
   have hC3:Chg [] M2 (M2.add (.cells true [.str ([115,101,116,32]),.str (nm),.str ([32]),.str (cO x),.str ([59])])):=Chg.add M2 _
   have hq:(M2.add (.cells true [.str ([115,101,116,32]),.str (nm),.str ([32]),.str (cO x),.str ([59])])).get M2.next=some (.cells true [.str ([115,101,116,32]),.str (nm),.str ([32]),.str (cO x),.str ([59])]):=NH.get_add_same M2 _
   have hqo:aw (M2.add (.cells true [.str ([115,101,116,32]),.str (nm),.str ([32]),.str (cO x),.str ([59])])) M2.next:=bh M2 _
   generalize hM3:M2.add (.cells true [.str ([115,101,116,32]),.str (nm),.str ([32]),.str (cO x),.str ([59])])=M3 at hC3 hq hqo
   have hvv:Sl M3 (.slc (M2.next) 0 5 1 5) 1 (ft [[115,101,116,32],nm, [32],cO x, [59]]):=bP hq hqo rfl
   obtain ⟨M4,r4,h4,k4⟩:=dh (h2.chg hC3) hvv (by omega) (by simp) (by omega)
   have hgm:=(hC3.get ho2 (by simp)).trans hg2
   obtain ⟨hgl,hol⟩:=k4 _ _ _ (hC3.old ho2) hgm
   dsimp only[Stm.l,Stm.x,Stm.i,Stm.y,Stm.k,Stm.a,Stm.nm,Stm.ce,Stm.b,Stm.e] at *
   simp (config:={maxSteps:=1000000}) (disch:=first|assumption|omega|(apply ai;omega)|(apply ae;assumption)|(simp only[ay]<;>omega)) only[go_sem,seval,hM1,hg1,hsl,r2.wf',hg2,hs2,hM3,hgm,r4.wf',hgl]
   refine hK _ _ ⟨rfl, ?_,(Kc.of ((hC1.trans hC2 (by simp)).trans hC3 (by simp))).trans k4⟩
   have q:=h4
   simpa only[List.append_assoc] using q
  |@load _ a nm ce j g1 g2 g3=>
   have hnx:dI d (.mk 1 a nm ce j zE zE [] [])=ld d++ [[108,111,97,100,32],nm, [32],iX ce j, [59]].flatten++ [10]:=by
    rw[dI]
    simp only[if_true,show ¬(1:Int)=0 from by decide,if_false,List.append_assoc,List.cons_append,List.nil_append,List.flatten_cons,List.flatten_nil,List.append_nil,iE,eH,cU,im,di,iG]
   rw[hnx] at hK hl
   simp only[List.length_append,List.length_cons,List.length_nil] at hl
   obtain ⟨M2,r2,hC2⟩:=se (s:= .mk 1 a nm ce j zE zE [] []) (w:=w) g2 g3 hP.i hb1 hst1
   have hs2:=gX hP
   have hb2:=hb1.chg hC2
   have h2:=h1.chg hC2
   have hst2:aE T B M2:=iM h2.c T
   have ho2:=hC2.old ho1
   have hg2:=(hC2.get ho1 (by simp)).trans hg1
   have hC3:Chg [] M2 (M2.add (.cells true [.str ([108,111,97,100,32]),.str (nm),.str ([32]),.str (iX ce j),.str ([59])])):=Chg.add M2 _
   have hq:(M2.add (.cells true [.str ([108,111,97,100,32]),.str (nm),.str ([32]),.str (iX ce j),.str ([59])])).get M2.next=some (.cells true [.str ([108,111,97,100,32]),.str (nm),.str ([32]),.str (iX ce j),.str ([59])]):=NH.get_add_same M2 _
   have hqo:aw (M2.add (.cells true [.str ([108,111,97,100,32]),.str (nm),.str ([32]),.str (iX ce j),.str ([59])])) M2.next:=bh M2 _
   generalize hM3:M2.add (.cells true [.str ([108,111,97,100,32]),.str (nm),.str ([32]),.str (iX ce j),.str ([59])])=M3 at hC3 hq hqo
   have hvv:Sl M3 (.slc (M2.next) 0 5 1 5) 1 (ft [[108,111,97,100,32],nm, [32],iX ce j, [59]]):=bP hq hqo rfl
   obtain ⟨M4,r4,h4,k4⟩:=dh (h2.chg hC3) hvv (by omega) (by simp) (by omega)
   have hgm:=(hC3.get ho2 (by simp)).trans hg2
   obtain ⟨hgl,hol⟩:=k4 _ _ _ (hC3.old ho2) hgm
   dsimp only[Stm.l,Stm.x,Stm.i,Stm.y,Stm.k,Stm.a,Stm.nm,Stm.ce,Stm.b,Stm.e] at *
   simp (config:={maxSteps:=1000000}) (disch:=first|assumption|omega|(apply ai;omega)|(apply ae;assumption)|(simp only[ay]<;>omega)) only[go_sem,seval,hM1,hg1,hsl,r2.wf',hg2,hs2,hM3,hgm,r4.wf',hgl]
   refine hK _ _ ⟨rfl, ?_,(Kc.of ((hC1.trans hC2 (by simp)).trans hC3 (by simp))).trans k4⟩
   have q:=h4
   simpa only[List.append_assoc] using q
  |@store _ a ce j x g2 g3 g4=>
   have hnx:dI d (.mk 2 a [] ce j x zE [] [])=ld d++ [[115,116,111,114,101,32],iX ce j, [32],cO x, [59]].flatten++ [10]:=by
    rw[dI]
    simp only[if_true,show ¬(2:Int)=0 from by decide,show ¬(2:Int)=1 from by decide,if_false,List.append_assoc,List.cons_append,List.nil_append,List.flatten_cons,List.flatten_nil,List.append_nil,iE,eH,cU,im,di,iG]
   rw[hnx] at hK hl
   simp only[List.length_append,List.length_cons,List.length_nil] at hl
   obtain ⟨M2,r2,hC2⟩:=se (s:= .mk 2 a [] ce j x zE [] []) (w:=w) g2 g3 hP.i hb1 hst1
   have hs2:=gX hP
   have hb2:=hb1.chg hC2
   have h2:=h1.chg hC2
   have hst2:aE T B M2:=iM h2.c T
   have ho2:=hC2.old ho1
   have hg2:=(hC2.get ho1 (by simp)).trans hg1
   obtain ⟨M3,r3,hC3⟩:=ja g4.g g4.d hb2 hP.x hst2
   have hs3:=cj hP.x
   have hb3:=hb2.chg hC3
   have h3:=h2.chg hC3
   have hst3:aE T B M3:=iM h3.c T
   have ho3:=hC3.old ho2
   have hg3:=(hC3.get ho2 (by simp)).trans hg2
   have hC4:Chg [] M3 (M3.add (.cells true [.str ([115,116,111,114,101,32]),.str (iX ce j),.str ([32]),.str (cO x),.str ([59])])):=Chg.add M3 _
   have hq:(M3.add (.cells true [.str ([115,116,111,114,101,32]),.str (iX ce j),.str ([32]),.str (cO x),.str ([59])])).get M3.next=some (.cells true [.str ([115,116,111,114,101,32]),.str (iX ce j),.str ([32]),.str (cO x),.str ([59])]):=NH.get_add_same M3 _
   have hqo:aw (M3.add (.cells true [.str ([115,116,111,114,101,32]),.str (iX ce j),.str ([32]),.str (cO x),.str ([59])])) M3.next:=bh M3 _
   generalize hM4:M3.add (.cells true [.str ([115,116,111,114,101,32]),.str (iX ce j),.str ([32]),.str (cO x),.str ([59])])=M4 at hC4 hq hqo
   have hvv:Sl M4 (.slc (M3.next) 0 5 1 5) 1 (ft [[115,116,111,114,101,32],iX ce j, [32],cO x, [59]]):=bP hq hqo rfl
   obtain ⟨M5,r5,h5,k5⟩:=dh (h3.chg hC4) hvv (by omega) (by simp) (by omega)
   have hgm:=(hC4.get ho3 (by simp)).trans hg3
   obtain ⟨hgl,hol⟩:=k5 _ _ _ (hC4.old ho3) hgm
   dsimp only[Stm.l,Stm.x,Stm.i,Stm.y,Stm.k,Stm.a,Stm.nm,Stm.ce,Stm.b,Stm.e] at *
   simp (config:={maxSteps:=1000000}) (disch:=first|assumption|omega|(apply ai;omega)|(apply ae;assumption)|(simp only[ay]<;>omega)) only[go_sem,seval,hM1,hg1,hsl,r2.wf',hg2,hs2,r3.wf',hg3,hs3,hM4,hgm,r5.wf',hgl]
   refine hK _ _ ⟨rfl, ?_,(Kc.of (((hC1.trans hC2 (by simp)).trans hC3 (by simp)).trans hC4 (by simp))).trans k5⟩
   have q:=h5
   simpa only[List.append_assoc] using q
  |@cas _ a nm ce j x y g1 g2 g3 g4 g5=>
   have hnx:dI d (.mk 3 a nm ce j x y [] [])=ld d++ [[99,97,115,32],nm, [32],iX ce j, [32],cO x, [32],cO y, [59]].flatten++ [10]:=by
    rw[dI]
    simp only[if_true,show ¬(3:Int)=0 from by decide,show ¬(3:Int)=1 from by decide,show ¬(3:Int)=2 from by decide,if_false,List.append_assoc,List.cons_append,List.nil_append,List.flatten_cons,List.flatten_nil,List.append_nil,iE,eH,cU,im,di,iG]
   rw[hnx] at hK hl
   simp only[List.length_append,List.length_cons,List.length_nil] at hl
   obtain ⟨M2,r2,hC2⟩:=se (s:= .mk 3 a nm ce j x y [] []) (w:=w) g2 g3 hP.i hb1 hst1
   have hs2:=gX hP
   have hb2:=hb1.chg hC2
   have h2:=h1.chg hC2
   have hst2:aE T B M2:=iM h2.c T
   have ho2:=hC2.old ho1
   have hg2:=(hC2.get ho1 (by simp)).trans hg1
   obtain ⟨M3,r3,hC3⟩:=ja g4.g g4.d hb2 hP.x hst2
   have hs3:=cj hP.x
   have hb3:=hb2.chg hC3
   have h3:=h2.chg hC3
   have hst3:aE T B M3:=iM h3.c T
   have ho3:=hC3.old ho2
   have hg3:=(hC3.get ho2 (by simp)).trans hg2
   obtain ⟨M4,r4,hC4⟩:=ja g5.g g5.d hb3 hP.y hst3
   have hs4:=cj hP.y
   have hb4:=hb3.chg hC4
   have h4:=h3.chg hC4
   have hst4:aE T B M4:=iM h4.c T
   have ho4:=hC4.old ho3
   have hg4:=(hC4.get ho3 (by simp)).trans hg3
   have hC5:Chg [] M4 (M4.add (.cells true [.str ([99,97,115,32]),.str (nm),.str ([32]),.str (iX ce j),.str ([32]),.str (cO x),.str ([32]),.str (cO y),.str ([59])])):=Chg.add M4 _
   have hq:(M4.add (.cells true [.str ([99,97,115,32]),.str (nm),.str ([32]),.str (iX ce j),.str ([32]),.str (cO x),.str ([32]),.str (cO y),.str ([59])])).get M4.next=some (.cells true [.str ([99,97,115,32]),.str (nm),.str ([32]),.str (iX ce j),.str ([32]),.str (cO x),.str ([32]),.str (cO y),.str ([59])]):=NH.get_add_same M4 _
   have hqo:aw (M4.add (.cells true [.str ([99,97,115,32]),.str (nm),.str ([32]),.str (iX ce j),.str ([32]),.str (cO x),.str ([32]),.str (cO y),.str ([59])])) M4.next:=bh M4 _
   generalize hM5:M4.add (.cells true [.str ([99,97,115,32]),.str (nm),.str ([32]),.str (iX ce j),.str ([32]),.str (cO x),.str ([32]),.str (cO y),.str ([59])])=M5 at hC5 hq hqo
   have hvv:Sl M5 (.slc (M4.next) 0 9 1 9) 1 (ft [[99,97,115,32],nm, [32],iX ce j, [32],cO x, [32],cO y, [59]]):=bP hq hqo rfl
   obtain ⟨M6,r6,h6,k6⟩:=dh (h4.chg hC5) hvv (by omega) (by simp) (by omega)
   have hgm:=(hC5.get ho4 (by simp)).trans hg4
   obtain ⟨hgl,hol⟩:=k6 _ _ _ (hC5.old ho4) hgm
   dsimp only[Stm.l,Stm.x,Stm.i,Stm.y,Stm.k,Stm.a,Stm.nm,Stm.ce,Stm.b,Stm.e] at *
   simp (config:={maxSteps:=1000000}) (disch:=first|assumption|omega|(apply ai;omega)|(apply ae;assumption)|(simp only[ay]<;>omega)) only[go_sem,seval,hM1,hg1,hsl,r2.wf',hg2,hs2,r3.wf',hg3,hs3,r4.wf',hg4,hs4,hM5,hgm,r6.wf',hgl]
   refine hK _ _ ⟨rfl, ?_,(Kc.of ((((hC1.trans hC2 (by simp)).trans hC3 (by simp)).trans hC4 (by simp)).trans hC5 (by simp))).trans k6⟩
   have q:=h6
   simpa only[List.append_assoc] using q
  |@fence _ a=>
   have hnx:dI d (.mk 4 a [] [] zE zE zE [] [])=ld d++ [[102,101,110,99,101,59]].flatten++ [10]:=by
    rw[dI]
    simp only[if_true,show ¬(4:Int)=0 from by decide,show ¬(4:Int)=1 from by decide,show ¬(4:Int)=2 from by decide,show ¬(4:Int)=3 from by decide,if_false,List.append_assoc,List.cons_append,List.nil_append,List.flatten_cons,List.flatten_nil,List.append_nil,iE,eH,cU,im,di,iG]
   rw[hnx] at hK hl
   simp only[List.length_append,List.length_cons,List.length_nil] at hl
   have hC2:Chg [] M1 (M1.add (.cells true [.str ([102,101,110,99,101,59])])):=Chg.add M1 _
   have hq:(M1.add (.cells true [.str ([102,101,110,99,101,59])])).get M1.next=some (.cells true [.str ([102,101,110,99,101,59])]):=NH.get_add_same M1 _
   have hqo:aw (M1.add (.cells true [.str ([102,101,110,99,101,59])])) M1.next:=bh M1 _
   generalize hM2:M1.add (.cells true [.str ([102,101,110,99,101,59])])=M2 at hC2 hq hqo
   have hvv:Sl M2 (.slc (M1.next) 0 1 1 1) 1 (ft [[102,101,110,99,101,59]]):=bP hq hqo rfl
   obtain ⟨M3,r3,h3,k3⟩:=dh (h1.chg hC2) hvv (by omega) (by simp) (by omega)
   have hgm:=(hC2.get ho1 (by simp)).trans hg1
   obtain ⟨hgl,hol⟩:=k3 _ _ _ (hC2.old ho1) hgm
   dsimp only[Stm.l,Stm.x,Stm.i,Stm.y,Stm.k,Stm.a,Stm.nm,Stm.ce,Stm.b,Stm.e] at *
   simp (config:={maxSteps:=1000000}) (disch:=first|assumption|omega|(apply ai;omega)|(apply ae;assumption)|(simp only[ay]<;>omega)) only[go_sem,seval,hM1,hg1,hsl,hM2,hgm,r3.wf',hgl]
   refine hK _ _ ⟨rfl, ?_,(Kc.of ((hC1).trans hC2 (by simp))).trans k3⟩
   have q:=h3
   simpa only[List.append_assoc] using q
  |@out _ a x g4=>
   have hnx:dI d (.mk 5 a [] [] zE x zE [] [])=ld d++ [[111,117,116,32],cO x, [59]].flatten++ [10]:=by
    rw[dI]
    simp only[if_true,show ¬(5:Int)=0 from by decide,show ¬(5:Int)=1 from by decide,show ¬(5:Int)=2 from by decide,show ¬(5:Int)=3 from by decide,show ¬(5:Int)=4 from by decide,if_false,List.append_assoc,List.cons_append,List.nil_append,List.flatten_cons,List.flatten_nil,List.append_nil,iE,eH,cU,im,di,iG]
   rw[hnx] at hK hl
   simp only[List.length_append,List.length_cons,List.length_nil] at hl
   obtain ⟨M2,r2,hC2⟩:=ja g4.g g4.d hb1 hP.x hst1
   have hs2:=cj hP.x
   have hb2:=hb1.chg hC2
   have h2:=h1.chg hC2
   have hst2:aE T B M2:=iM h2.c T
   have ho2:=hC2.old ho1
   have hg2:=(hC2.get ho1 (by simp)).trans hg1
   have hC3:Chg [] M2 (M2.add (.cells true [.str ([111,117,116,32]),.str (cO x),.str ([59])])):=Chg.add M2 _
   have hq:(M2.add (.cells true [.str ([111,117,116,32]),.str (cO x),.str ([59])])).get M2.next=some (.cells true [.str ([111,117,116,32]),.str (cO x),.str ([59])]):=NH.get_add_same M2 _
   have hqo:aw (M2.add (.cells true [.str ([111,117,116,32]),.str (cO x),.str ([59])])) M2.next:=bh M2 _
   generalize hM3:M2.add (.cells true [.str ([111,117,116,32]),.str (cO x),.str ([59])])=M3 at hC3 hq hqo
   have hvv:Sl M3 (.slc (M2.next) 0 3 1 3) 1 (ft [[111,117,116,32],cO x, [59]]):=bP hq hqo rfl
   obtain ⟨M4,r4,h4,k4⟩:=dh (h2.chg hC3) hvv (by omega) (by simp) (by omega)
   have hgm:=(hC3.get ho2 (by simp)).trans hg2
   obtain ⟨hgl,hol⟩:=k4 _ _ _ (hC3.old ho2) hgm
   dsimp only[Stm.l,Stm.x,Stm.i,Stm.y,Stm.k,Stm.a,Stm.nm,Stm.ce,Stm.b,Stm.e] at *
   simp (config:={maxSteps:=1000000}) (disch:=first|assumption|omega|(apply ai;omega)|(apply ae;assumption)|(simp only[ay]<;>omega)) only[go_sem,seval,hM1,hg1,hsl,r2.wf',hg2,hs2,hM3,hgm,r4.wf',hgl]
   refine hK _ _ ⟨rfl, ?_,(Kc.of ((hC1.trans hC2 (by simp)).trans hC3 (by simp))).trans k4⟩
   have q:=h4
   simpa only[List.append_assoc] using q
  |@cond n a x b e g4 hb' he'=>
   have hIH:=@ih n rfl
   obtain ⟨BB,hSb⟩:=hP.b
   obtain ⟨EE,hSe⟩:=hP.e
   rw[dI] at hK hl
   simp only[if_true,show ¬(6:Int)=0 from by decide,show ¬(6:Int)=1 from by decide,show ¬(6:Int)=2 from by decide,show ¬(6:Int)=3 from by decide,show ¬(6:Int)=4 from by decide,show ¬(6:Int)=5 from by decide,if_false] at hK hl
   simp only[List.length_append,List.length_cons,List.length_nil] at hl
   obtain ⟨M2,r2,hC2⟩:=ja g4.g g4.d hb1 hP.x hst1
   have hb2:=hb1.chg hC2
   have h2:=h1.chg hC2
   have ho2:=hC2.old ho1
   have hg2:=(hC2.get ho1 (by simp)).trans hg1
   have kk2:Kc m M2:=Kc.of (hC1.trans hC2 (by simp))
   have hC3:Chg [] M2 (M2.add (.cells true [.str ([105,102,32]),.str (cO x),.str ([32,123])])):=Chg.add M2 _
   have hq3:(M2.add (.cells true [.str ([105,102,32]),.str (cO x),.str ([32,123])])).get M2.next=some (.cells true [.str ([105,102,32]),.str (cO x),.str ([32,123])]):=NH.get_add_same M2 _
   have hqo3:aw (M2.add (.cells true [.str ([105,102,32]),.str (cO x),.str ([32,123])])) M2.next:=bh M2 _
   generalize hM3:M2.add (.cells true [.str ([105,102,32]),.str (cO x),.str ([32,123])])=M3 at hC3 hq3 hqo3
   have hvv3:Sl M3 (.slc (M2.next) 0 3 1 3) 1 (ft [[105,102,32],cO x, [32,123]]):=bP hq3 hqo3 rfl
   obtain ⟨M4,r4,h4,k4⟩:=dh (h2.chg hC3) hvv3 (by omega) (by simp) (by simp only[List.flatten_cons,List.flatten_nil,List.length_append,List.length_cons,List.length_nil];omega)
   have kk4:Kc M2 M4:=(Kc.of hC3).trans k4
   have hgm3:=(hC3.get ho2 (by simp)).trans hg2
   obtain ⟨hg4,ho4⟩:=kk4 _ _ _ ho2 hg2
   have hb4:=hb2.kc kk4
   obtain ⟨M5,r5,h5,k5⟩:=hIH hb' hb4 h4 hSb (by omega) (by simp only[List.flatten_cons,List.flatten_nil,List.length_append,List.length_cons,List.length_nil];omega)
   obtain ⟨hg5,ho5⟩:=k5 _ _ _ ho4 hg4
   have hb5:=hb4.kc k5
   have hel:=(hSe.stays (iM h5.c T)).sl.len
   rw[hSe.len] at hel
   by_cases q:e.length=0
   ·have q':decide ((0:Int)<(e.length:Int))=false:=Q6 (by omega)
    rw[Q5 q] at hK hl
    simp only[List.length_nil] at hl
    have hC6:Chg [] M5 (M5.add (.cells true [.str ([125])])):=Chg.add M5 _
    have hq6:(M5.add (.cells true [.str ([125])])).get M5.next=some (.cells true [.str ([125])]):=NH.get_add_same M5 _
    have hqo6:aw (M5.add (.cells true [.str ([125])])) M5.next:=bh M5 _
    generalize hM6:M5.add (.cells true [.str ([125])])=M6 at hC6 hq6 hqo6
    have hvv6:Sl M6 (.slc (M5.next) 0 1 1 1) 1 (ft [[125]]):=bP hq6 hqo6 rfl
    obtain ⟨M7,r7,h7,k7⟩:=dh (h5.chg hC6) hvv6 (by omega) (by simp) (by simp only[List.flatten_cons,List.flatten_nil,List.length_append,List.length_cons,List.length_nil];omega)
    have kk7:Kc M5 M7:=(Kc.of hC6).trans k7
    have hgm6:=(hC6.get ho5 (by simp)).trans hg5
    obtain ⟨hg7,ho7⟩:=kk7 _ _ _ ho5 hg5
    have hb7:=hb5.kc kk7
    dsimp only[Stm.l,Stm.x,Stm.i,Stm.y,Stm.k,Stm.a,Stm.nm,Stm.ce,Stm.b,Stm.e] at *
    simp (config:={maxSteps:=1000000}) (disch:=first|assumption|omega|(apply ai;omega)|(apply ae;assumption)|(simp only[ay]<;>omega)) only[go_sem,seval,hM1,hg1,hsl,r2.wf',hg2,hM3,hgm3,r4.wf',hg4,r5.wf',hg5,hel,q',hM6,hgm6,r7.wf',hg7]
    refine hK _ _ ⟨rfl, ?_,((kk2.trans kk4).trans k5).trans kk7⟩
    have qq:=h7
    simpa only[List.append_assoc,List.cons_append,List.nil_append,List.flatten_cons,List.flatten_nil,List.append_nil,vM] using qq
   ·have q':decide ((0:Int)<(e.length:Int))=true:=Q7 (by omega)
    rw[Q4 q] at hK hl
    simp only[List.length_append,List.length_cons,List.length_nil] at hl
    have hC6:Chg [] M5 (M5.add (.cells true [.str ([125,32,101,108,115,101,32,123])])):=Chg.add M5 _
    have hq6:(M5.add (.cells true [.str ([125,32,101,108,115,101,32,123])])).get M5.next=some (.cells true [.str ([125,32,101,108,115,101,32,123])]):=NH.get_add_same M5 _
    have hqo6:aw (M5.add (.cells true [.str ([125,32,101,108,115,101,32,123])])) M5.next:=bh M5 _
    generalize hM6:M5.add (.cells true [.str ([125,32,101,108,115,101,32,123])])=M6 at hC6 hq6 hqo6
    have hvv6:Sl M6 (.slc (M5.next) 0 1 1 1) 1 (ft [[125,32,101,108,115,101,32,123]]):=bP hq6 hqo6 rfl
    obtain ⟨M7,r7,h7,k7⟩:=dh (h5.chg hC6) hvv6 (by omega) (by simp) (by simp only[List.flatten_cons,List.flatten_nil,List.length_append,List.length_cons,List.length_nil];omega)
    have kk7:Kc M5 M7:=(Kc.of hC6).trans k7
    have hgm6:=(hC6.get ho5 (by simp)).trans hg5
    obtain ⟨hg7,ho7⟩:=kk7 _ _ _ ho5 hg5
    have hb7:=hb5.kc kk7
    obtain ⟨M8,r8,h8,k8⟩:=hIH he' hb7 h7 hSe (by omega) (by simp only[List.flatten_cons,List.flatten_nil,List.length_append,List.length_cons,List.length_nil];omega)
    obtain ⟨hg8,ho8⟩:=k8 _ _ _ ho7 hg7
    have hb8:=hb7.kc k8
    have hC9:Chg [] M8 (M8.add (.cells true [.str ([125])])):=Chg.add M8 _
    have hq9:(M8.add (.cells true [.str ([125])])).get M8.next=some (.cells true [.str ([125])]):=NH.get_add_same M8 _
    have hqo9:aw (M8.add (.cells true [.str ([125])])) M8.next:=bh M8 _
    generalize hM9:M8.add (.cells true [.str ([125])])=M9 at hC9 hq9 hqo9
    have hvv9:Sl M9 (.slc (M8.next) 0 1 1 1) 1 (ft [[125]]):=bP hq9 hqo9 rfl
    obtain ⟨M10,r10,h10,k10⟩:=dh (h8.chg hC9) hvv9 (by omega) (by simp) (by simp only[List.flatten_cons,List.flatten_nil,List.length_append,List.length_cons,List.length_nil];omega)
    have kk10:Kc M8 M10:=(Kc.of hC9).trans k10
    have hgm9:=(hC9.get ho8 (by simp)).trans hg8
    obtain ⟨hg10,ho10⟩:=kk10 _ _ _ ho8 hg8
    have hb10:=hb8.kc kk10
    dsimp only[Stm.l,Stm.x,Stm.i,Stm.y,Stm.k,Stm.a,Stm.nm,Stm.ce,Stm.b,Stm.e] at *
    simp (config:={maxSteps:=1000000}) (disch:=first|assumption|omega|(apply ai;omega)|(apply ae;assumption)|(simp only[ay]<;>omega)) only[go_sem,seval,hM1,hg1,hsl,r2.wf',hg2,hM3,hgm3,r4.wf',hg4,r5.wf',hg5,hel,q',hM6,hgm6,r7.wf',hg7,r8.wf',hg8,hM9,hgm9,r10.wf',hg10]
    refine hK _ _ ⟨rfl, ?_,((((kk2.trans kk4).trans k5).trans kk7).trans k8).trans kk10⟩
    have qq:=h10
    simpa only[List.append_assoc,List.cons_append,List.nil_append,List.flatten_cons,List.flatten_nil,List.append_nil,vM,fi] using qq
  |@loop n a x b g4 hb'=>
   have hIH:=@ih n rfl
   obtain ⟨BB,hSb⟩:=hP.b
   rw[dI] at hK hl
   simp only[if_true,show ¬(7:Int)=0 from by decide,show ¬(7:Int)=1 from by decide,show ¬(7:Int)=2 from by decide,show ¬(7:Int)=3 from by decide,show ¬(7:Int)=4 from by decide,show ¬(7:Int)=5 from by decide,show ¬(7:Int)=6 from by decide,if_false] at hK hl
   simp only[List.length_append,List.length_cons,List.length_nil] at hl
   obtain ⟨M2,r2,hC2⟩:=ja g4.g g4.d hb1 hP.x hst1
   have hb2:=hb1.chg hC2
   have h2:=h1.chg hC2
   have ho2:=hC2.old ho1
   have hg2:=(hC2.get ho1 (by simp)).trans hg1
   have kk2:Kc m M2:=Kc.of (hC1.trans hC2 (by simp))
   have hC3:Chg [] M2 (M2.add (.cells true [.str ([119,104,105,108,101,32]),.str (cO x),.str ([32,123])])):=Chg.add M2 _
   have hq3:(M2.add (.cells true [.str ([119,104,105,108,101,32]),.str (cO x),.str ([32,123])])).get M2.next=some (.cells true [.str ([119,104,105,108,101,32]),.str (cO x),.str ([32,123])]):=NH.get_add_same M2 _
   have hqo3:aw (M2.add (.cells true [.str ([119,104,105,108,101,32]),.str (cO x),.str ([32,123])])) M2.next:=bh M2 _
   generalize hM3:M2.add (.cells true [.str ([119,104,105,108,101,32]),.str (cO x),.str ([32,123])])=M3 at hC3 hq3 hqo3
   have hvv3:Sl M3 (.slc (M2.next) 0 3 1 3) 1 (ft [[119,104,105,108,101,32],cO x, [32,123]]):=bP hq3 hqo3 rfl
   obtain ⟨M4,r4,h4,k4⟩:=dh (h2.chg hC3) hvv3 (by omega) (by simp) (by simp only[List.flatten_cons,List.flatten_nil,List.length_append,List.length_cons,List.length_nil];omega)
   have kk4:Kc M2 M4:=(Kc.of hC3).trans k4
   have hgm3:=(hC3.get ho2 (by simp)).trans hg2
   obtain ⟨hg4,ho4⟩:=kk4 _ _ _ ho2 hg2
   have hb4:=hb2.kc kk4
   obtain ⟨M5,r5,h5,k5⟩:=hIH hb' hb4 h4 hSb (by omega) (by simp only[List.flatten_cons,List.flatten_nil,List.length_append,List.length_cons,List.length_nil];omega)
   obtain ⟨hg5,ho5⟩:=k5 _ _ _ ho4 hg4
   have hb5:=hb4.kc k5
   have hC6:Chg [] M5 (M5.add (.cells true [.str ([125])])):=Chg.add M5 _
   have hq6:(M5.add (.cells true [.str ([125])])).get M5.next=some (.cells true [.str ([125])]):=NH.get_add_same M5 _
   have hqo6:aw (M5.add (.cells true [.str ([125])])) M5.next:=bh M5 _
   generalize hM6:M5.add (.cells true [.str ([125])])=M6 at hC6 hq6 hqo6
   have hvv6:Sl M6 (.slc (M5.next) 0 1 1 1) 1 (ft [[125]]):=bP hq6 hqo6 rfl
   obtain ⟨M7,r7,h7,k7⟩:=dh (h5.chg hC6) hvv6 (by omega) (by simp) (by simp only[List.flatten_cons,List.flatten_nil,List.length_append,List.length_cons,List.length_nil];omega)
   have kk7:Kc M5 M7:=(Kc.of hC6).trans k7
   have hgm6:=(hC6.get ho5 (by simp)).trans hg5
   obtain ⟨hg7,ho7⟩:=kk7 _ _ _ ho5 hg5
   have hb7:=hb5.kc kk7
   dsimp only[Stm.l,Stm.x,Stm.i,Stm.y,Stm.k,Stm.a,Stm.nm,Stm.ce,Stm.b,Stm.e] at *
   simp (config:={maxSteps:=1000000}) (disch:=first|assumption|omega|(apply ai;omega)|(apply ae;assumption)|(simp only[ay]<;>omega)) only[go_sem,seval,hM1,hg1,hsl,r2.wf',hg2,hM3,hgm3,r4.wf',hg4,r5.wf',hg5,hM6,hgm6,r7.wf',hg7]
   refine hK _ _ ⟨rfl, ?_,((kk2.trans kk4).trans k5).trans kk7⟩
   have qq:=h7
   simpa only[List.append_assoc,List.cons_append,List.nil_append,List.flatten_cons,List.flatten_nil,List.append_nil,eE] using qq
 obtain ⟨u,m',q1,rfl,q2,q3⟩:=key
 exact ⟨m',q1,q2,q3⟩
end FR
open Go Nm Go.Proofs
namespace FR
theorem Bld.deep {B m:NH} {id:D4} {d d':Int} {s:List Nat} {a b:NV} (h:Bld B m id d s) (hg:m.get id=some (.cellsT 57 [a,b,ii d])):Bld B (m.put id (.cellsT 57 [a,b,ii d'])) id d' s/\Kc m (m.put id (.cellsT 57 [a,b,ii d'])):=by
 obtain ⟨⟨a',b',g1,g2,g3⟩,ho,hn,hc0⟩:=h
 have e:=g1.symm.trans hg
 injection e with e;injection e with _ e;injection e with e1 e;injection e with e2 e
 subst e1 e2
 refine ⟨⟨⟨a',b',NH.get_put_same _ _ _,g2, ?_⟩,(Chg.put m id _).old ho,hn,hc0.trans (Chg.put m id _) fun i hi ho=>Q3 ho (by rw[one hi];exact hn)⟩,Kc.put hg _⟩
 rcases g3 with g3|⟨ob,hs,hb,k1,k2,k3,k4⟩
 ·exact Or.inl g3
 ·exact Or.inr ⟨ob,hs,hb,(NH.get_put_ne m _ k4).trans k1,(Chg.put m id _).old k2,k3,k4⟩
set_option maxHeartbeats 4000000 in
theorem zr {n:Nat} (ih:∀k,n=k+1->O8 k):O8 n:=by
 intro l d B m id S T v C hl hb h hS hd hle
 have key:∃u m',a6 Tryz.prog S0 17 [.ptr id 0,v] m u m'/\u= .tup []/\Bld B m' id (d:Int) (S++dj (d+1) l)/\Kc m m':=by
  refine WF.ex fun K hK=> ?_
  refine WF.of_wpG (fun _=>rfl) AO (L:= [(.a .e,v),(.e,.ptr id 0)]) rfl ?_
  unfold Kq
  obtain ⟨a,b,g,-⟩:=h.g
  have hlen:=(hS.stays (iM h.c T)).sl.len
  rw[hS.len] at hlen
  have e1:((d:Int)+1)=((d+1:Nat):Int):=by omega
  have hll:=Nat.le_trans (sE hl (d+1)) (by omega:(dj (d+1) l).length<=1000000)
  simp (config:={maxSteps:=1000000}) (disch:=first|assumption|omega|(apply ai;omega)|(apply ae;assumption)|(simp only[ay]<;>omega)) only[go_sem,seval,g,rG,Dw,e1,hlen]
  rw[ab m]
  obtain ⟨hB0,hK0⟩:=h.deep (d':=((d+1:Nat):Int)) g
  refine W.loop (fun k D=>∃t M i,D=⟨t, [],none,M⟩/\NT.get D4.e t=some (.ptr id 0)/\NT.get D4.e.c.a t=some v/\NT.get D4.e.c.b t=some (ii l.length)/\NT.get D4.e.c.c t=some (ii (i:Nat))/\i+k=l.length/\Bld B M id ((d+1:Nat):Int) (S++dj (d+1) (l.take i))/\Kc m M) ?_ l.length _ ⟨_,_,0,rfl,by exact gq rfl,by exact gq rfl,by exact gq rfl,by exact gq rfl,by omega,by simpa [dj] using hB0,hK0⟩
  rintro k D ⟨t,M,i,rfl,t0,t1,t2,t3,hik,hB,hK1⟩
  apply aM
  unfold AX
  change wp _ _ _ _ ⟨am [] t, [],none,M⟩ _
  rw[←ab M]
  obtain ⟨a2,b2,g2,-⟩:=hB.g
  by_cases hi0:¬i<l.length
  ·have e:i=l.length:=by omega
   subst e
   rw[List.take_length] at hB
   have e2:(((d+1:Nat):Int) - 1)=(d:Int):=by omega
   obtain ⟨hB2,hK2⟩:=hB.deep (d':=(d:Int)) g2
   simp (config:={maxSteps:=1000000}) (disch:=first|assumption|omega|(apply ai;omega)|(apply ae;assumption)|(simp only[ay]<;>omega)) only[go_sem,seval,t0,t1,t2,t3,g2,rG,Dw,e2,ab]
   exact hK _ _ ⟨rfl,hB2,hK1.trans hK2⟩
  have hi:i<l.length:=by omega
  obtain ⟨w,iv,off,wr,c,hP,x1,x2,x3,x4,x5⟩:=nG hS (iM hB.c T) i hi
  have hgs:=hl _ (List.getElem_mem hi)
  have htk:l.take (i+1)=l.take i++ [l[i]]:=by rw[List.take_add_one,List.getElem?_eq_getElem hi];rfl
  have hnx:dj (d+1) (l.take (i+1))=dj (d+1) (l.take i)++dI (d+1) l[i]:=by rw[htk,ir,dj,dj,List.append_nil]
  have hsum:(dj (d+1) (l.take i)).length+(dI (d+1) l[i]).length<=(dj (d+1) l).length:=by
   have e:l=l.take i++([l[i]]++l.drop (i+1)):=by
    rw[←List.append_assoc,←htk,List.take_append_drop]
   conv=>rhs;rw[e]
   rw[ir,ir,List.length_append,List.length_append,dj,dj,List.append_nil]
   omega
  generalize hs:l[i]=s at *
  have hsl:(s.l w).length=21:=rfl
  simp (config:={maxSteps:=1000000}) (disch:=first|assumption|omega|(apply ai;omega)|(apply ae;assumption)|(simp only[ay]<;>omega)) only[go_sem,seval,t0,t1,t2,t3,x1,x2,x5]
  generalize hM1:hp _ 1 M=M1
  have hC1:Chg [] M M1:=bf hM1 rfl
  have hg1:M1.get (na M 0)=some (.cells true (s.l w)):=bu hM1
  have hb1:=(hb.kc hK1).chg hC1
  obtain ⟨M2,r2,h2,k2⟩:=OM ih hgs hb1 (hB.chg hC1) hP (by omega) (by rw[List.length_append];omega)
  simp (config:={maxSteps:=1000000}) (disch:=first|assumption|omega|(apply ai;omega)|(apply ae;assumption)|(simp only[ay]<;>omega)) only[go_sem,seval,t0,t1,t2,t3,hg1,r2.wf']
  refine ⟨k - 1,by omega,_,M2,i+1,rfl,by exact gq t0,by exact gq t1,by exact gq t2,by exact gq rfl,by omega, ?_,(hK1.trans (Kc.of hC1)).trans k2⟩
  rw[hnx,←List.append_assoc]
  exact h2
 obtain ⟨u,m',h1,rfl,h2,h3⟩:=key
 exact ⟨m',h1,h2,h3⟩
theorem DA:∀n,O8 n
 |0=>zr fun k h=>by omega
 |n+1=>zr fun k h=>Nat.succ.inj h▸DA n
end FR
open Go Nm Go.Proofs
namespace FR
abbrev BO (s:List Nat):Prop:=∀c∈s,c<256
theorem BO.app {a b:List Nat} (ha:BO a) (hb:BO b):BO (a++b):=fun c h=>by
 rcases List.mem_append.mp h with h|h
 ·exact ha c h
 ·exact hb c h
theorem ip {s:List Nat} (h:NmOk s):BO s:=fun c hc=>by
 have:=h.all c hc
 unfold bT jd cu at this
 simp at this
 omega
theorem Dx (n:Nat):BO (du n):=fun c hc=>by have:=Av (Eh n c hc);omega
theorem nh (d:Nat):BO (ld d):=fun c hc=>by
 unfold ld at hc
 rw[List.mem_flatten] at hc
 obtain ⟨l,hl,q⟩:=hc
 rw[List.eq_of_mem_replicate hl] at q
 have:∀c∈ [32,32],c<256:=by decide
 exact this c q
theorem uN {x:Ex} (h:GE x):BO (cO x):=by
 induction h with
 |int h=>simp only[cO,if_true];exact Dx _
 |name h=>simp only[cO,if_true,show ¬(1:Int)=0 from by decide,if_false];exact ip h
 |@op o x y h hx hy ihx ihy=>
  rw[mC]
  have ho:o<256:=by have:=of_decide_eq_true h;omega
  refine BO.app (BO.app (BO.app (BO.app (by decide) ihx) ?_) ihy) (by decide)
  intro c hc
  simp only[Q9,Q8,or_false] at hc
  omega
theorem Ky {ce:List Nat} {i:Ex} (h1:NmOk ce) (h2:GX i):BO (iX ce i):=by
 have:=ip h1
 have:=uN h2.g
 unfold iX
 split
 ·assumption
 ·repeat' apply BO.app
  all_goals first|assumption|(unfold BO;decide)
theorem F9 {l:List Stm} (h:∀s∈l,∀d,BO (dI d s)) (d:Nat):BO (dj d l):=by
 induction l with
 |nil=>rw[dj];intro c hc;exact Q3 hc Q8
 |cons s l ih=>rw[dj];exact (h s List.mem_cons_self d).app (ih fun x hx=>h x (List.mem_cons_of_mem _ hx))
theorem wo:BO []:=fun c hc=>Q3 hc Q8
theorem OL {n:Nat} {s:Stm} (h:GS n s):∀d,BO (dI d s):=by
 induction h with
 |set h1 h2=>
  intro d;have:=nh d;have:=ip h1;have:=uN h2.g
  simp only[dI,if_true]
  repeat' apply BO.app
  all_goals first|assumption|(unfold BO;decide)
 |load h1 h2 h3=>
  intro d;have:=nh d;have:=ip h1;have:=Ky h2 h3
  simp only[dI,if_true,show ¬(1:Int)=0 from by decide,if_false]
  repeat' apply BO.app
  all_goals first|assumption|(unfold BO;decide)
 |store h2 h3 h4=>
  intro d;have:=nh d;have:=uN h4.g;have:=Ky h2 h3
  simp only[dI,if_true,show ¬(2:Int)=0 from by decide,show ¬(2:Int)=1 from by decide,if_false]
  repeat' apply BO.app
  all_goals first|assumption|(unfold BO;decide)
 |cas h1 h2 h3 h4 h5=>
  intro d;have:=nh d;have:=ip h1;have:=uN h4.g;have:=uN h5.g;have:=Ky h2 h3
  simp only[dI,if_true,show ¬(3:Int)=0 from by decide,show ¬(3:Int)=1 from by decide,show ¬(3:Int)=2 from by decide,if_false]
  repeat' apply BO.app
  all_goals first|assumption|(unfold BO;decide)
 |fence=>
  intro d;have:=nh d
  simp only[dI,if_true,show ¬(4:Int)=0 from by decide,show ¬(4:Int)=1 from by decide,show ¬(4:Int)=2 from by decide,show ¬(4:Int)=3 from by decide,if_false]
  repeat' apply BO.app
  all_goals first|assumption|(unfold BO;decide)
 |out h4=>
  intro d;have:=nh d;have:=uN h4.g
  simp only[dI,if_true,show ¬(5:Int)=0 from by decide,show ¬(5:Int)=1 from by decide,show ¬(5:Int)=2 from by decide,show ¬(5:Int)=3 from by decide,show ¬(5:Int)=4 from by decide,if_false]
  repeat' apply BO.app
  all_goals first|assumption|(unfold BO;decide)
 |@cond n a x b e h4 hb he ihb ihe=>
  intro d;have:=nh d;have:=uN h4.g;have:=F9 ihb (d+1);have:=F9 ihe (d+1)
  simp only[dI,if_true,show ¬(6:Int)=0 from by decide,show ¬(6:Int)=1 from by decide,show ¬(6:Int)=2 from by decide,show ¬(6:Int)=3 from by decide,show ¬(6:Int)=4 from by decide,show ¬(6:Int)=5 from by decide,if_false]
  split
  ·repeat' apply BO.app
   all_goals first|assumption|exact wo|(unfold BO;decide)
  ·repeat' apply BO.app
   all_goals first|assumption|(unfold BO;decide)
 |@loop n a x b h4 hb ihb=>
  intro d;have:=nh d;have:=uN h4.g;have:=F9 ihb (d+1)
  simp only[dI,if_true,show ¬(7:Int)=0 from by decide,show ¬(7:Int)=1 from by decide,show ¬(7:Int)=2 from by decide,show ¬(7:Int)=3 from by decide,show ¬(7:Int)=4 from by decide,show ¬(7:Int)=5 from by decide,show ¬(7:Int)=6 from by decide,if_false]
  repeat' apply BO.app
  all_goals first|assumption|(unfold BO;decide)
theorem rZ {α:Type} {f:α->List Nat}:∀{l:List α},(∀x∈l,BO (f x))->BO (l.map f).flatten
 | [],_=>wo
 |x::l,h=>by rw[List.map_cons,List.flatten_cons];exact (h x List.mem_cons_self).app (rZ fun y hy=>h y (List.mem_cons_of_mem _ hy))
theorem N3 {p:Prg} (h:GP p):BO (jh p):=by
 unfold jh
 refine BO.app (BO.app (rZ fun c hc=> ?_) (rZ fun t ht=> ?_)) ?_
 ·have:=ip (h.c c hc).1
  have:=Dx c.2.toNat
  unfold jH
  split<;>(repeat' apply BO.app)<;>first|assumption|(unfold BO;decide)
 ·have:=ip (h.t t ht).1
  have:=F9 (fun s hs=>OL ((h.t t ht).2 s hs)) 1
  unfold jU
  (repeat' apply BO.app)<;>first|assumption|(unfold BO;decide)
 ·have:=F9 (fun s hs=>OL (h.r s hs)) 1
  unfold tJ
  split
  ·exact wo
  ·(repeat' apply BO.app)<;>first|assumption|(unfold BO;decide)
end FR
open Go Nm Go.Proofs
namespace FR
theorem KB {B m:NH} {id:D4} {S nm:List Nat} {u:Nat} (hb:Tb m) (h:Bld B m id ((0:Nat):Int) S) (hn:NmOk nm) (hu:u<=1048576) (hl:S.length+(jH (nm,(u:Int))).length<=1000000):
 ∃m',a6 Tryz.prog S0 15 [.ptr id 0,.agg [.str nm,ii u]] m (.tup []) m'/\Bld B m' id ((0:Nat):Int) (S++jH (nm,(u:Int)))/\Kc m m':=by
 have key:∃w m',a6 Tryz.prog S0 15 [.ptr id 0,.agg [.str nm,ii u]] m w m'/\w= .tup []/\Bld B m' id ((0:Nat):Int) (S++jH (nm,(u:Int)))/\Kc m m':=by
  refine WF.ex fun K hK=> ?_
  refine WF.of_wpG (fun _=>rfl) zu (L:= [(.a .e,.agg [.str nm,ii u]),(.e,.ptr id 0)]) rfl ?_
  unfold L7
  generalize hM1:hp [(.n 0,.cells true [.str nm,ii u])] 1 m=M1
  have hC1:Chg [] m M1:=bf hM1 rfl
  have hg1:M1.get (na m 0)=some (.cells true [.str nm,ii u]):=bu hM1
  have ho1:aw M1 (na m 0):=bB hM1 (by omega)
  have hb1:=hb.chg hC1
  have h1:=h.chg hC1
  have ld0:ld 0= []:=rfl
  unfold jH at hK hl
  dsimp only at hK hl
  by_cases q:u=1
  ·have q':decide ((u:Int)=1)=true:=Q7 (by omega)
   rw[Q5 (by omega)] at hK hl
   simp only[List.length_append,List.length_cons,List.length_nil] at hl
   have hC2:Chg [] M1 (M1.add (.cells true [.str [99,101,108,108,32],.str nm,.str [59]])):=Chg.add M1 _
   have hq:(M1.add (.cells true [.str [99,101,108,108,32],.str nm,.str [59]])).get M1.next=some (.cells true [.str [99,101,108,108,32],.str nm,.str [59]]):=NH.get_add_same M1 _
   have hqo:aw (M1.add (.cells true [.str [99,101,108,108,32],.str nm,.str [59]])) M1.next:=bh M1 _
   generalize hM2:M1.add (.cells true [.str [99,101,108,108,32],.str nm,.str [59]])=M2 at hC2 hq hqo
   have hvv:Sl M2 (.slc M1.next 0 3 1 3) 1 (ft [[99,101,108,108,32],nm, [59]]):=bP hq hqo rfl
   obtain ⟨M3,r3,h3,k3⟩:=dh (h1.chg hC2) hvv (by omega) (by simp) (by simp only[List.flatten_cons,List.flatten_nil,List.length_append,List.length_cons,List.length_nil];omega)
   have hgm:=(hC2.get ho1 (by simp)).trans hg1
   obtain ⟨hgl,hol⟩:=k3 _ _ _ (hC2.old ho1) hgm
   simp (config:={maxSteps:=1000000}) (disch:=first|assumption|omega|(apply ai;omega)|(apply ae;assumption)|(simp only[ay]<;>omega)) only[go_sem,seval,hM1,hg1,q',hM2,hgm,r3.wf',hgl]
   refine hK _ _ ⟨rfl, ?_,(Kc.of (hC1.trans hC2 (by simp))).trans k3⟩
   have qq:=h3
   rw[ld0] at qq
   simpa only[List.append_assoc,List.cons_append,List.nil_append,List.append_nil,List.flatten_cons,List.flatten_nil,kp] using qq
  ·have q':decide ((u:Int)=1)=false:=Q6 (by omega)
   have r2:=PM hb1 (n:=u) (by omega)
   have hdl:=jT (u:=u) (by omega)
   have hmx:max (0:Int) (u:Int)=(u:Int):=by omega
   rw[Q4 (by omega)] at hK hl
   rw[Int.toNat_natCast] at hK hl
   simp only[List.length_append,List.length_cons,List.length_nil] at hl
   have hC2:Chg [] M1 (M1.add (.cells true [.str [99,101,108,108,32],.str nm,.str [91],.str (du u),.str [93,59]])):=Chg.add M1 _
   have hq:(M1.add (.cells true [.str [99,101,108,108,32],.str nm,.str [91],.str (du u),.str [93,59]])).get M1.next=some (.cells true [.str [99,101,108,108,32],.str nm,.str [91],.str (du u),.str [93,59]]):=NH.get_add_same M1 _
   have hqo:aw (M1.add (.cells true [.str [99,101,108,108,32],.str nm,.str [91],.str (du u),.str [93,59]])) M1.next:=bh M1 _
   generalize hM2:M1.add (.cells true [.str [99,101,108,108,32],.str nm,.str [91],.str (du u),.str [93,59]])=M2 at hC2 hq hqo
   have hvv:Sl M2 (.slc M1.next 0 5 1 5) 1 (ft [[99,101,108,108,32],nm, [91],du u, [93,59]]):=bP hq hqo rfl
   obtain ⟨M3,r3,h3,k3⟩:=dh (h1.chg hC2) hvv (by omega) (by simp) (by simp only[List.flatten_cons,List.flatten_nil,List.length_append,List.length_cons,List.length_nil];omega)
   have hgm:=(hC2.get ho1 (by simp)).trans hg1
   obtain ⟨hgl,hol⟩:=k3 _ _ _ (hC2.old ho1) hgm
   simp (config:={maxSteps:=1000000}) (disch:=first|assumption|omega|(apply ai;omega)|(apply ae;assumption)|(simp only[ay]<;>omega)) only[go_sem,seval,hM1,hg1,q',hmx,r2.wf',hM2,hgm,r3.wf',hgl]
   refine hK _ _ ⟨rfl, ?_,(Kc.of (hC1.trans hC2 (by simp))).trans k3⟩
   have qq:=h3
   rw[ld0] at qq
   simpa only[List.append_assoc,List.cons_append,List.nil_append,List.append_nil,List.flatten_cons,List.flatten_nil,kp] using qq
 obtain ⟨w,m',h1,rfl,h2,h3⟩:=key
 exact ⟨m',h1,h2,h3⟩
end FR
open Go Nm Go.Proofs
namespace FR
set_option maxHeartbeats 4000000 in
theorem qX {p:Prg} (hg:GP p) (hl:(jh p).length<=1000000) {m:NH} {T:D4->Prop} {vc vt vr:NV} (hb:Tb m) (h:RP m T p vc vt vr):∃m',a6 Tryz.prog S0 6 [.agg [vc,vt,vr]] m (.str (jh p)) m'/\Chg [] m m':=by
 refine WF.ex1 fun K hK=> ?_
 refine WF.of_wpG (fun _=>rfl) F6 (L:= [(.e,.agg [vc,vt,vr])]) rfl ?_
 unfold Qi
 have hbo:=N3 hg
 have hcl:((p.cs.map jH).flatten).length+((p.ts.map jU).flatten).length+(tJ p.r).length<=1000000:=by
  unfold jh at hl
  rw[List.length_append,List.length_append] at hl
  exact hl
 have hnc:p.cs.length<=((p.cs.map jH).flatten).length:=b7 fun c _=>by unfold jH;split<;>simp<;>omega
 have hnt:p.ts.length<=((p.ts.map jU).flatten).length:=b7 fun c _=>by unfold jU;simp
 obtain ⟨TC,hT⟩:=h.t
 obtain ⟨RC',hR⟩:=h.r
 have hlc:=h.c.len
 rw[List.length_map] at hlc
 have ld0:ld 0= []:=rfl
 have hIH:=@DA 29
 simp (config:={maxSteps:=1000000}) (disch:=first|assumption|omega|(apply ai;omega)|(apply ae;assumption)|(simp only[ay]<;>omega)) only[go_sem,seval,hlc]
 generalize hM0:hp _ 2 m=M0
 have hC0:Chg [] m M0:=bf hM0 rfl
 have hg0:M0.get (na m 0)=some (.cells true [vc,vt,vr]):=bu hM0
 have ho0:aw M0 (na m 0):=bB hM0 (by omega)
 have hgw:M0.get (na m 1)=some (.cellsT 57 [.nilp,.nils,ii 0]):=bu hM0
 have hb0:=hb.chg hC0
 have hB0:Bld m M0 (na m 1) ((0:Nat):Int) []:=⟨⟨_,_,hgw,rfl,Or.inl ⟨rfl,rfl⟩⟩,bB hM0 (by omega),aD,hC0⟩
 refine W.loop (fun k D=>∃t M i,D=⟨t, [],none,M⟩/\NT.get D4.e.c t=some (.ptr (na m 1) 0)/\NT.get D4.e.a t=some (.ptr (na m 0) 0)/\NT.get D4.e.b.c t=some vc/\NT.get D4.e.b.f t=some (ii p.cs.length)/\NT.get D4.e.c.a t=some (ii (i:Nat))/\i+k=p.cs.length/\Bld m M (na m 1) ((0:Nat):Int) (((p.cs.take i).map jH).flatten)/\Kc M0 M) ?_ p.cs.length _ ⟨_,M0,0,rfl,by exact gq rfl,by exact gq rfl,by exact gq rfl,by exact gq rfl,by exact gq rfl,by omega,by simpa using hB0,Kc.refl M0⟩
 rintro k D ⟨t,M,i,rfl,t0,t1,t2,t3,t4,hik,hB,hK1⟩
 apply aM
 unfold ym
 change wp _ _ _ _ ⟨am [] t, [],none,M⟩ _
 rw[←ab M]
 by_cases hi:i<p.cs.length
 ·obtain ⟨id,off,wr,c,x1,x2,x3,x4,x5⟩:=(h.c.chg hB.c fun _ _=>by simp).at i (by rw[List.length_map];exact hi)
  rw[List.getElem_map] at x5
  obtain ⟨n1,n2,n3⟩:=hg.c _ (List.getElem_mem hi)
  have hft:=j4 jH p.cs i hi
  have hfl:=nC jH p.cs (i+1)
  rw[hft,List.length_append] at hfl
  generalize hz:p.cs[i]=z at *
  obtain ⟨nm,zz⟩:=z
  obtain ⟨u,rfl⟩:=Rb n2
  have hu:u<=1048576:=by have:=n3;dsimp only at this;omega
  have hS1:(((p.cs.take i).map jH).flatten).length+(jH (nm,(u:Int))).length<=1000000:=by omega
  have n1':NmOk nm:=n1
  simp (config:={maxSteps:=1000000}) (disch:=first|assumption|omega|(apply ai;omega)|(apply ae;assumption)|(simp only[ay]<;>omega)) only[go_sem,seval,t0,t1,t2,t3,t4,x1,x2,x5]
  generalize hM1:hp _ 1 M=M1
  have hC1:Chg [] M M1:=bf hM1 rfl
  have hg1:M1.get (na M 0)=some (.cells true [.str nm,ii u]):=bu hM1
  obtain ⟨M2,r2,h2,k2⟩:=KB ((hb0.kc hK1).chg hC1) (hB.chg hC1) n1' hu hS1
  simp (config:={maxSteps:=1000000}) (disch:=first|assumption|omega|(apply ai;omega)|(apply ae;assumption)|(simp only[ay]<;>omega)) only[go_sem,seval,t0,t1,t2,t3,t4,hg1,r2.wf']
  refine ⟨k - 1,by omega,_,M2,i+1,rfl,by exact gq t0,by exact gq t1,by exact gq t2,by exact gq t3,by exact gq rfl,by omega, ?_,(hK1.trans (Kc.of hC1)).trans k2⟩
  rw[hft]
  exact h2
 have e:i=p.cs.length:=by omega
 subst e
 rw[List.take_length] at hB
 obtain ⟨hg0M,ho0M⟩:=hK1 _ _ _ ho0 hg0
 have hlt:=(hT.stays (iM hB.c T)).sl.len
 rw[hT.len] at hlt
 simp (config:={maxSteps:=1000000}) (disch:=first|assumption|omega|(apply ai;omega)|(apply ae;assumption)|(simp only[ay]<;>omega)) only[go_sem,seval,t0,t1,t2,t3,t4,hg0M,hlt]
 rw[ab M]
 refine W.loop (fun k D=>∃t M i,D=⟨t, [],none,M⟩/\NT.get D4.e.c t=some (.ptr (na m 1) 0)/\NT.get D4.e.a t=some (.ptr (na m 0) 0)/\NT.get D4.e.a.a.b t=some vt/\NT.get D4.e.a.a.c t=some (ii p.ts.length)/\NT.get D4.e.a.a.f t=some (ii (i:Nat))/\i+k=p.ts.length/\Bld m M (na m 1) ((0:Nat):Int) ((p.cs.map jH).flatten++((p.ts.take i).map jU).flatten)/\Kc M0 M) ?_ p.ts.length _ ⟨_,M,0,rfl,by exact gq t0,by exact gq t1,by exact gq rfl,by exact gq rfl,by exact gq rfl,by omega,by simpa using hB,hK1⟩
 clear hB hK1 hg0M ho0M hlt t0 t1 t2 t3 t4 hik hi
 rintro k D ⟨t,M,i,rfl,t0,t1,t2,t3,t4,hik,hB,hK1⟩
 apply aM
 unfold ES
 change wp _ _ _ _ ⟨am [] t, [],none,M⟩ _
 rw[←ab M]
 by_cases hi:i<p.ts.length
 ·obtain ⟨vb,BB0,iv,off,wr,c,hSb0,x1,x2',x3,x4,x5⟩:=hT.at i hi
  have x2:=(hB.c.get x3 (by simp)).trans x2'
  obtain ⟨n1,n2⟩:=hg.t _ (List.getElem_mem hi)
  have hft:=j4 jU p.ts i hi
  have hfl:=nC jU p.ts (i+1)
  rw[hft,List.length_append] at hfl
  generalize hz:p.ts[i]=z at *
  obtain ⟨nm,bb⟩:=z
  have hnl:=n1.len
  dsimp only at *
  have hTl:(jU (nm,bb)).length=12+nm.length+(dj 1 bb).length:=by unfold jU;simp only[List.length_append,List.length_cons,List.length_nil];omega
  have hS1:((p.cs.map jH).flatten).length+(((p.ts.take i).map jU).flatten).length+(12+nm.length+(dj 1 bb).length)<=1000000:=by omega
  have n2':∀s∈bb,GS 29 s:=n2
  simp (config:={maxSteps:=1000000}) (disch:=first|assumption|omega|(apply ai;omega)|(apply ae;assumption)|(simp only[ay]<;>omega)) only[go_sem,seval,t0,t1,t2,t3,t4,x1,x2,x5]
  generalize hM1:hp _ 2 M=M1
  have hC1:Chg [] M M1:=bf hM1 rfl
  have hg1:M1.get (na M 0)=some (.cells true [.str nm,vb]):=bu hM1
  have ho1:aw M1 (na M 0):=bB hM1 (by omega)
  have hq:M1.get (na M 1)=some (.cells true [.str [116,104,114,101,97,100,32],.str nm,.str [32,123]]):=bu hM1
  have hqo:aw M1 (na M 1):=bB hM1 (by omega)
  have hb1:=(hb0.kc hK1).chg hC1
  have h1:=hB.chg hC1
  have hvv:Sl M1 (.slc (na M 1) 0 3 1 3) 1 (ft [[116,104,114,101,97,100,32],nm, [32,123]]):=bP hq hqo rfl
  obtain ⟨M2,r2,h2,k2⟩:=dh h1 hvv (by omega) (by simp) (by simp only[List.flatten_cons,List.flatten_nil,List.length_append,List.length_cons,List.length_nil];omega)
  obtain ⟨hg2,ho2⟩:=k2 _ _ _ ho1 hg1
  have hb2:=hb1.kc k2
  obtain ⟨M3,r3,h3,k3⟩:=hIH n2' hb2 h2 hSb0 (by omega) (by simp only[ld0,Nat.zero_add,List.flatten_cons,List.flatten_nil,List.length_append,List.length_cons,List.length_nil];omega)
  obtain ⟨hg3,ho3⟩:=k3 _ _ _ ho2 hg2
  have hb3:=hb2.kc k3
  have hC4:Chg [] M3 (M3.add (.cells true [.str ([125])])):=Chg.add M3 _
  have hq4:(M3.add (.cells true [.str ([125])])).get M3.next=some (.cells true [.str ([125])]):=NH.get_add_same M3 _
  have hqo4:aw (M3.add (.cells true [.str ([125])])) M3.next:=bh M3 _
  generalize hM4:M3.add (.cells true [.str ([125])])=M4 at hC4 hq4 hqo4
  have hvv4:Sl M4 (.slc (M3.next) 0 1 1 1) 1 (ft [[125]]):=bP hq4 hqo4 rfl
  obtain ⟨M5,r5,h5,k5⟩:=dh (h3.chg hC4) hvv4 (by omega) (by simp) (by simp only[List.flatten_cons,List.flatten_nil,ld0,Nat.zero_add,List.length_append,List.length_cons,List.length_nil];omega)
  have kk5:Kc M3 M5:=(Kc.of hC4).trans k5
  have hgm4:=(hC4.get ho3 (by simp)).trans hg3
  obtain ⟨hg5,ho5⟩:=kk5 _ _ _ ho3 hg3
  have hb5:=hb3.kc kk5
  simp (config:={maxSteps:=1000000}) (disch:=first|assumption|omega|(apply ai;omega)|(apply ae;assumption)|(simp only[ay]<;>omega)) only[go_sem,seval,t0,t1,t2,t3,t4,r2.wf',hg2,r3.wf',hg3,hM4,hgm4,r5.wf',hg5]
  refine ⟨k - 1,by omega,_,M5,i+1,rfl,by exact gq t0,by exact gq t1,by exact gq t2,by exact gq t3,by exact gq rfl,by omega, ?_,(((hK1.trans (Kc.of hC1)).trans k2).trans k3).trans kk5⟩
  rw[hft]
  rw[show jU (nm,bb)=iI++ [32]++nm++ [32,123,10]++dj 1 bb++ [125,10] from rfl]
  refine (congrArg (fun s=>Bld m M5 (na m 1) ((0:Nat):Int) s) ?_).mp h5
  simp only[ld0,Nat.zero_add,List.append_assoc,List.cons_append,List.nil_append,List.append_nil,List.flatten_cons,List.flatten_nil,iI]
 have e:i=p.ts.length:=by omega
 subst e
 rw[List.take_length] at hB
 obtain ⟨hg1,ho1⟩:=hK1 _ _ _ ho0 hg0
 have hb1:=hb0.kc hK1
 have h1:=hB
 have hlr:=(hR.stays (iM hB.c T)).sl.len
 rw[hR.len] at hlr
 generalize M=M1 at *
 by_cases hz:p.r.length=0
 ·have q':decide ((0:Int)<(p.r.length:Int))=false:=Q6 (by omega)
  have e:jh p=(p.cs.map jH).flatten++(p.ts.map jU).flatten:=by unfold jh tJ;rw[Q5 hz,List.append_nil]
  rw[e] at hK hbo
  obtain ⟨M9,r9,C9⟩:=IE h1 hbo
  simp (config:={maxSteps:=1000000}) (disch:=first|assumption|omega|(apply ai;omega)|(apply ae;assumption)|(simp only[ay]<;>omega)) only[go_sem,seval,t0,t1,t2,t3,t4,ab,hg1,hlr,q',r9.wf']
  exact hK _ C9
 ·have q':decide ((0:Int)<(p.r.length:Int))=true:=Q7 (by omega)
  have e:jh p=(p.cs.map jH).flatten++(p.ts.map jU).flatten++(cv++ [32,123,10]++dj 1 p.r++ [125,10]):=by unfold jh tJ;rw[Q4 hz]
  have hRl:(tJ p.r).length=12+(dj 1 p.r).length:=by unfold tJ;rw[Q4 hz];simp only[List.length_append,List.length_cons,List.length_nil];omega
  have hS1:((p.cs.map jH).flatten).length+((p.ts.map jU).flatten).length+(12+(dj 1 p.r).length)<=1000000:=by omega
  have hC2:Chg [] M1 (M1.add (.cells true [.str ([114,101,99,111,118,101,114,32,123])])):=Chg.add M1 _
  have hq2:(M1.add (.cells true [.str ([114,101,99,111,118,101,114,32,123])])).get M1.next=some (.cells true [.str ([114,101,99,111,118,101,114,32,123])]):=NH.get_add_same M1 _
  have hqo2:aw (M1.add (.cells true [.str ([114,101,99,111,118,101,114,32,123])])) M1.next:=bh M1 _
  generalize hM2:M1.add (.cells true [.str ([114,101,99,111,118,101,114,32,123])])=M2 at hC2 hq2 hqo2
  have hvv2:Sl M2 (.slc (M1.next) 0 1 1 1) 1 (ft [[114,101,99,111,118,101,114,32,123]]):=bP hq2 hqo2 rfl
  obtain ⟨M3,r3,h3,k3⟩:=dh (h1.chg hC2) hvv2 (by omega) (by simp) (by simp only[List.flatten_cons,List.flatten_nil,ld0,Nat.zero_add,List.length_append,List.length_cons,List.length_nil];omega)
  have kk3:Kc M1 M3:=(Kc.of hC2).trans k3
  have hgm2:=(hC2.get ho1 (by simp)).trans hg1
  obtain ⟨hg3,ho3⟩:=kk3 _ _ _ ho1 hg1
  have hb3:=hb1.kc kk3
  obtain ⟨M4,r4,h4,k4⟩:=hIH hg.r hb3 h3 hR (by omega) (by simp only[List.flatten_cons,List.flatten_nil,ld0,Nat.zero_add,List.length_append,List.length_cons,List.length_nil];omega)
  obtain ⟨hg4,ho4⟩:=k4 _ _ _ ho3 hg3
  have hb4:=hb3.kc k4
  have hC5:Chg [] M4 (M4.add (.cells true [.str ([125])])):=Chg.add M4 _
  have hq5:(M4.add (.cells true [.str ([125])])).get M4.next=some (.cells true [.str ([125])]):=NH.get_add_same M4 _
  have hqo5:aw (M4.add (.cells true [.str ([125])])) M4.next:=bh M4 _
  generalize hM5:M4.add (.cells true [.str ([125])])=M5 at hC5 hq5 hqo5
  have hvv5:Sl M5 (.slc (M4.next) 0 1 1 1) 1 (ft [[125]]):=bP hq5 hqo5 rfl
  obtain ⟨M6,r6,h6,k6⟩:=dh (h4.chg hC5) hvv5 (by omega) (by simp) (by simp only[List.flatten_cons,List.flatten_nil,ld0,Nat.zero_add,List.length_append,List.length_cons,List.length_nil];omega)
  have kk6:Kc M4 M6:=(Kc.of hC5).trans k6
  have hgm5:=(hC5.get ho4 (by simp)).trans hg4
  obtain ⟨hg6,ho6⟩:=kk6 _ _ _ ho4 hg4
  have hb6:=hb4.kc kk6
  have e2:(((p.cs.map jH).flatten++(p.ts.map jU).flatten)++ld 0++ [[114,101,99,111,118,101,114,32,123]].flatten++ [10]++dj (0+1) p.r++ld 0++ [[125]].flatten++ [10])=jh p:=by
   rw[e];simp only[ld0,Nat.zero_add,List.append_assoc,List.cons_append,List.nil_append,List.append_nil,List.flatten_cons,List.flatten_nil]
  rw[e2] at h6
  obtain ⟨M9,r9,C9⟩:=IE h6 hbo
  simp (config:={maxSteps:=1000000}) (disch:=first|assumption|omega|(apply ai;omega)|(apply ae;assumption)|(simp only[ay]<;>omega)) only[go_sem,seval,t0,t1,t2,t3,t4,ab,hg1,hlr,q',hM2,hgm2,r3.wf',hg3,r4.wf',hg4,hM5,hgm5,r6.wf',hg6,r9.wf']
  exact hK _ C9
end FR
open Go Nm Go.Proofs
namespace FR
def Qu (x:Ex):Prop:=∀{m0 m0' m:NH} {T T':D4->Prop} {c c':List NV},RE m0 T x c->aE T m0 m->RE m0' T' x c'->aE T' m0' m->∃m',a6 Tryz.prog S0 49 [.agg c,.agg c'] m (.bool true) m'/\Chg [] m m'
theorem te {k:Int} {n o:Nat} {s:List Nat} {ks:List Ex} (hk:∀z∈ks,Qu z) (hl:ks.length<=100):Qu (.mk k n o s ks):=by
 intro m0 m0' m T T' c c' hR hst hR' hst'
 obtain ⟨vk,C,rfl,hS⟩:=hR.inv
 obtain ⟨vk',C',rfl,hS'⟩:=hR'.inv
 refine WF.ex1 fun K hK=> ?_
 refine WF.of_wpG (fun _=>rfl) AG (L:= [(.a .e,.agg [ii k,u64 n,u8 o,.str s,vk']),(.e,.agg [ii k,u64 n,u8 o,.str s,vk])]) rfl ?_
 unfold Kx
 generalize hM1:hp [(.n 1,.cells true [ii k,u64 n,u8 o,.str s,vk']),(.n 0,.cells true [ii k,u64 n,u8 o,.str s,vk])] 2 m=M1
 have hC1:Chg [] m M1:=bf hM1 rfl
 have hg0:M1.get (na m 0)=some (.cells true [ii k,u64 n,u8 o,.str s,vk]):=bu hM1
 have hg1:M1.get (na m 1)=some (.cells true [ii k,u64 n,u8 o,.str s,vk']):=bu hM1
 have ho0:aw M1 (na m 0):=bB hM1 (by omega)
 have ho1:aw M1 (na m 1):=bB hM1 (by omega)
 have hst1:=hst.grow hC1
 have hst1':=hst'.grow hC1
 have hlk:=(hS.stays hst1).sl.len
 rw[hS.len] at hlk
 have hlk':=(hS'.stays hst1').sl.len
 rw[hS'.len] at hlk'
 have hss:decide (s≠s)=false:=Q6 (by simp)
 simp (config:={maxSteps:=1000000}) (disch:=first|assumption|omega|(apply ai;omega)|(apply ae;assumption)|(simp only[ay]<;>omega)) only[go_sem,seval,hM1,hg0,hg1,hlk,hlk',hss]
 refine W.loop (fun j D=>∃t M i,D=⟨t, [],none,M⟩/\NT.get D4.e.b t=some (.ptr (na m 0) 0)/\NT.get D4.e.c t=some (.ptr (na m 1) 0)/\NT.get D4.e.a.a t=some (ii (i:Nat))/\i+j=ks.length/\Chg [] M1 M) ?_ ks.length _ ⟨_,M1,0,rfl,by exact gq rfl,by exact gq rfl,by exact gq rfl,by omega,Chg.refl M1⟩
 rintro j D ⟨t,M,i,rfl,t0,t1,t2,hij,hC⟩
 apply aM
 unfold Ad
 change wp _ _ _ _ ⟨am [] t, [],none,M⟩ _
 have hg0M:=(hC.get ho0 (by simp)).trans hg0
 have hg1M:=(hC.get ho1 (by simp)).trans hg1
 have hstM:=hst1.grow hC
 have hstM':=hst1'.grow hC
 have hlM:=(hS.stays hstM).sl.len
 rw[hS.len] at hlM
 by_cases hi:i<ks.length
 ·obtain ⟨ua,ia,oa,wa,ca,hRa,a1,a2,a3,a4,a5⟩:=jV hS hstM i hi
  obtain ⟨ub,ib,ob,wb,cb,hRb,b1,b2,b3,b4,b5⟩:=jV hS' hstM' i hi
  obtain ⟨M2,r2,hC2⟩:=hk _ (List.getElem_mem hi) hRa hstM hRb hstM'
  have g2:=(hC2.get (hC.old ho0) (by simp)).trans hg0M
  have g3:=(hC2.get (hC.old ho1) (by simp)).trans hg1M
  have a22:=(hC2.get a3 (by simp)).trans a2
  have b22:=(hC2.get b3 (by simp)).trans b2
  have hvk:br 4 vk vk=true:=hS.sl.same
  have hvk':br 4 vk' vk'=true:=hS'.sl.same
  have hsa:=cj hRa
  have hsb:=cj hRb
  simp (config:={maxSteps:=1000000}) (disch:=first|assumption|omega|(apply ai;omega)|(apply ae;assumption)|(simp only[ay]<;>omega)) only[go_sem,seval,t0,t1,t2,hg0M,hg1M,hlM,a1,a2,a5,b1,b2,b5,r2.wf',g2,g3,a22,b22,hvk,hvk',hsa,hsb]
  exact ⟨j - 1,by omega,_,M2,i+1,rfl,by exact gq t0,by exact gq t1,by exact gq rfl,by omega,hC.trans hC2 (by simp)⟩
 ·simp (config:={maxSteps:=1000000}) (disch:=first|assumption|omega|(apply ai;omega)|(apply ae;assumption)|(simp only[ay]<;>omega)) only[go_sem,seval,t0,t1,t2,hg0M,hlM]
  exact hK _ (hC1.trans hC (by simp))
theorem wt {x:Ex} (h:GE x):Qu x:=by
 induction h with
 |int h=>exact te (fun z hz=>Q3 hz Q8) (by simp)
 |name h=>exact te (fun z hz=>Q3 hz Q8) (by simp)
 |@op o x y h hx hy ihx ihy=>
  refine te (fun z hz=> ?_) (by simp)
  simp only[Q9,Q8,or_false] at hz
  rcases hz with rfl|rfl
  ·exact ihx
  ·exact ihy
theorem GS.ex {n:Nat} {s:Stm} (h:GS n s):GE s.i/\GE s.x/\GE s.y:=by
 have z:GE zE:= .int (n:=0) (by omega)
 cases h with
 |set h1 h2=>exact ⟨z,h2.g,z⟩
 |load h1 h2 h3=>exact ⟨h3.g,z,z⟩
 |store h2 h3 h4=>exact ⟨h3.g,h4.g,z⟩
 |cas h1 h2 h3 h4 h5=>exact ⟨h3.g,h4.g,h5.g⟩
 |fence=>exact ⟨z,z,z⟩
 |out h4=>exact ⟨z,h4.g,z⟩
 |cond h4 hb he=>exact ⟨z,h4.g,z⟩
 |loop h4 hb=>exact ⟨z,h4.g,z⟩
theorem GS.bd {n:Nat} {s:Stm} (h:GS n s):(s.b= []/\s.e= [])∨∃k,n=k+1/\(∀x∈s.b,GS k x)/\∀x∈s.e,GS k x:=by
 cases h with
 |set h1 h2=>exact Or.inl ⟨rfl,rfl⟩
 |load h1 h2 h3=>exact Or.inl ⟨rfl,rfl⟩
 |store h2 h3 h4=>exact Or.inl ⟨rfl,rfl⟩
 |cas h1 h2 h3 h4 h5=>exact Or.inl ⟨rfl,rfl⟩
 |fence=>exact Or.inl ⟨rfl,rfl⟩
 |out h4=>exact Or.inl ⟨rfl,rfl⟩
 |cond h4 hb he=>exact Or.inr ⟨_,rfl,hb,he⟩
 |loop h4 hb=>exact Or.inr ⟨_,rfl,hb,fun x hx=>Q3 hx Q8⟩
theorem xX:∀{l l':List Stm},hZ l=hZ l'->l.length=l'.length/\∀(i:Nat) (h:i<l.length) (h':i<l'.length),l[i].er=l'[i].er
 | [], [],_=>⟨rfl,fun i h=>Q3 h (by simp)⟩
 | [],s::l,h=>by rw[hZ,hZ] at h;cases h
 |s::l, [],h=>by rw[hZ,hZ] at h;cases h
 |s::l,s'::l',h=>by
  rw[hZ,hZ] at h
  injection h with h1 h2
  obtain ⟨e1,e2⟩:=xX h2
  refine ⟨by rw[List.length_cons,List.length_cons,e1],fun i hi hi'=> ?_⟩
  cases i with
  |zero=>exact h1
  |succ i=>exact e2 i (by simpa using hi) (by simpa using hi')
theorem Jr {s s':Stm} (h:s.er=s'.er):s.k=s'.k/\s.nm=s'.nm/\s.ce=s'.ce/\s.i=s'.i/\s.x=s'.x/\s.y=s'.y/\hZ s.b=hZ s'.b/\hZ s.e=hZ s'.e:=by
 cases s;cases s'
 rw[Stm.er,Stm.er] at h
 injection h with h1 h2 h3 h4 h5 h6 h7 h8 h9
 exact ⟨h1,h3,h4,h5,h6,h7,h8,h9⟩
end FR
open Go Nm Go.Proofs
namespace FR
end FR
open Go Nm Go.Proofs
namespace FR
theorem OQ (s:Stm):s.sz=1+s.i.sz+s.x.sz+s.y.sz+fF s.b+fF s.e:=by cases s;rfl
end FR
open Go Nm Go.Proofs
namespace FR
section
variable {σ:Type} {q:D4} {m0:NH} {T:D4->Prop} {A:σ->Stm->Prop} {f:σ->Stm->σ×Bool} {Φ:σ->List D4->NH->Prop}
theorem Hu {l:List Stm} {x:Stm} (hx:x∈l):x.sz<=fF l:=by
 induction l with
 |nil=>simp at hx
 |cons a l ih=>
  rw[fF]
  rcases List.mem_cons.mp hx with rfl|hx
  ·omega
  ·have:=ih hx;omega
end
end FR
open Go Nm Go.Proofs
namespace FR
theorem Ej {m:NH} {v v':NV} (hv:Sl m v 21 []) (hv':Sl m v' 21 []):∃m',a6 Tryz.prog S0 25 [v,v',.bool false] m (.bool true) m'/\Chg [] m m':=by
 refine WF.ex1 fun K hK=> ?_
 refine WF.of_wpG (fun _=>rfl) sA (L:= [(.b .e,.bool false),(.a .e,v'),(.e,v)]) rfl ?_
 unfold Hk
 have hl:=hv.len
 have hl':=hv'.len
 simp (config:={maxSteps:=1000000}) (disch:=first|assumption|omega|(apply ai;omega)|(apply ae;assumption)|(simp only[ay]<;>omega)) only[go_sem,seval,hl,hl']
 rw[ab m]
 refine W.loop (fun j D=>∃t,D=⟨t, [],none,m⟩/\NT.get D4.e t=some v/\NT.get D4.e.a.c t=some (ii 0)) ?_ 0 _ ⟨_,rfl,by exact gq rfl,by exact gq rfl⟩
 rintro j D ⟨t,rfl,t0,t1⟩
 apply aM
 unfold sD
 change wp _ _ _ _ ⟨am [] t, [],none,m⟩ _
 simp (config:={maxSteps:=1000000}) (disch:=first|assumption|omega|(apply ai;omega)|(apply ae;assumption)|(simp only[ay]<;>omega)) only[go_sem,seval,t0,t1,hl]
 exact hK _ (Chg.refl m)
def Pd (n:Nat):Prop:=∀{l l':List Stm} {m0 m0' m:NH} {T T':D4->Prop} {v v':NV} {C C':List (List NV)},(∀s∈l,GS n s)->hZ l=hZ l'->SS m0 T v l C->aE T m0 m->SS m0' T' v' l' C'->aE T' m0' m->fF l<=1000000000->
 ∃m',a6 Tryz.prog S0 25 [v,v',.bool false] m (.bool true) m'/\Chg [] m m'
theorem uu {n:Nat} (ih:∀k,n=k+1->Pd k) {l l':List Stm} (hb:l= []∨∃k,n=k+1/\∀x∈l,GS k x) (he:hZ l=hZ l') {m0 m0' m:NH} {T T':D4->Prop} {v v':NV} {C C':List (List NV)} (h:SS m0 T v l C) (hst:aE T m0 m) (h':SS m0' T' v' l' C') (hst':aE T' m0' m) (hl:fF l<=1000000000):
 ∃m',a6 Tryz.prog S0 25 [v,v',.bool false] m (.bool true) m'/\Chg [] m m':=by
 rcases hb with rfl|⟨k,rfl,hk⟩
 ·have e:l'= []:=List.eq_nil_of_length_eq_zero (by have:=(xX he).1;simp at this;omega)
  subst e
  have a:=(h.stays hst).sl
  have b:=(h'.stays hst').sl
  have ea:C= []:=List.eq_nil_of_length_eq_zero (by rw[h.len];rfl)
  have eb:C'= []:=List.eq_nil_of_length_eq_zero (by rw[h'.len];rfl)
  subst ea eb
  exact Ej a b
 ·exact ih k rfl hk he h hst h' hst' hl
set_option maxHeartbeats 8000000 in
theorem A9 {n:Nat} (ih:∀k,n=k+1->Pd k):Pd n:=by
 intro l l' m0 m0' m T T' v v' C C' hg he hS hst hS' hst' hzz
 have hll:=Nat.le_trans (Hv l) hzz
 obtain ⟨hlen,hat⟩:=xX he
 refine WF.ex1 fun K hK=> ?_
 refine WF.of_wpG (fun _=>rfl) sA (L:= [(.b .e,.bool false),(.a .e,v'),(.e,v)]) rfl ?_
 unfold Hk
 have hl1:=(hS.stays hst).sl.len
 rw[hS.len] at hl1
 have hl2:=(hS'.stays hst').sl.len
 rw[hS'.len,←hlen] at hl2
 simp (config:={maxSteps:=1000000}) (disch:=first|assumption|omega|(apply ai;omega)|(apply ae;assumption)|(simp only[ay]<;>omega)) only[go_sem,seval,hl1,hl2]
 rw[ab m]
 refine W.loop (fun j D=>∃t M i,D=⟨t, [],none,M⟩/\NT.get D4.e t=some v/\NT.get D4.e.a t=some v'/\NT.get D4.e.b t=some (.bool false)/\NT.get D4.e.a.c t=some (ii (i:Nat))/\i+j=l.length/\Chg [] m M) ?_ l.length _ ⟨_,m,0,rfl,by exact gq rfl,by exact gq rfl,by exact gq rfl,by exact gq rfl,by omega,Chg.refl m⟩
 rintro j D ⟨t,M,i,rfl,t0,t1,t2,t3,hij,hC⟩
 apply aM
 unfold sD
 change wp _ _ _ _ ⟨am [] t, [],none,M⟩ _
 rw[←ab M]
 have hstM:=hst.grow hC
 have hstM':=hst'.grow hC
 have hlM:=(hS.stays hstM).sl.len
 rw[hS.len] at hlM
 by_cases hi0:¬i<l.length
 ·simp (config:={maxSteps:=1000000}) (disch:=first|assumption|omega|(apply ai;omega)|(apply ae;assumption)|(simp only[ay]<;>omega)) only[go_sem,seval,t0,t1,t2,t3,hlM]
  rw[ab M]
  exact hK _ hC
 have hi:i<l.length:=by omega
 obtain ⟨w,ia,oa,wa,ca,hP,a1,a2,a3,a4,a5⟩:=nG hS hstM i hi
 obtain ⟨w',ib,ob,wb,cb,hP',b1,b2,b3,b4,b5⟩:=nG hS' hstM' i (by omega)
 have hgs:=hg _ (List.getElem_mem hi)
 obtain ⟨e1,e2,e3,e4,e5,e6,e7,e8⟩:=Jr (hat i hi (by omega))
 generalize hs:l[i]=s at *
 generalize hs':l'[i]=s' at *
 obtain ⟨x1,x2,x3⟩:=hgs.ex
 have hsl:(s.l w).length=21:=rfl
 have hsl':(s'.l w').length=21:=rfl
 have q2:decide (s.nm≠s'.nm)=false:=Q6 (by simp[e2])
 have q3:decide (s.ce≠s'.ce)=false:=Q6 (by simp[e3])
 have hzs:fF s.b+fF s.e<=1000000000:=by
  have a:=Hu (l:=l) (x:=s) (by rw[←hs];exact List.getElem_mem hi)
  have b:=OQ s
  omega
 simp (config:={maxSteps:=1000000}) (disch:=first|assumption|omega|(apply ai;omega)|(apply ae;assumption)|(simp only[ay]<;>omega)) only[go_sem,seval,t0,t1,t2,t3,hlM,a1,a2,a5,b1,b2,b5,e1,q2,q3]
 generalize hM1:hp _ 2 M=M1
 have hC1:Chg [] M M1:=bf hM1 rfl
 have g0:M1.get (na M 0)=some (.cells true (s.l w)):=bu hM1
 have g1:M1.get (na M 1)=some (.cells true (s'.l w')):=bu hM1
 have o0:aw M1 (na M 0):=bB hM1 (by omega)
 have o1:aw M1 (na M 1):=bB hM1 (by omega)
 have s1:=hstM.grow hC1
 have s1':=hstM'.grow hC1
 have hi':RE m0' T' s.i (s'.i.l w'.vi):=by rw[e4];exact hP'.i
 have hx':RE m0' T' s.x (s'.x.l w'.vx):=by rw[e5];exact hP'.x
 have hy':RE m0' T' s.y (s'.y.l w'.vy):=by rw[e6];exact hP'.y
 obtain ⟨B1,hB1⟩:=hP.b
 obtain ⟨B2,hB2⟩:=hP'.b
 obtain ⟨E1,hE1⟩:=hP.e
 obtain ⟨E2,hE2⟩:=hP'.e
 obtain ⟨M2,r2,C2⟩:=wt x1 hP.i s1 hi' s1'
 have g02:=(C2.get o0 (by simp)).trans g0
 have g12:=(C2.get o1 (by simp)).trans g1
 have o02:=C2.old o0
 have o12:=C2.old o1
 obtain ⟨M3,r3,C3⟩:=wt x2 hP.x (s1.grow C2) hx' (s1'.grow C2)
 have g03:=(C3.get o02 (by simp)).trans g02
 have g13:=(C3.get o12 (by simp)).trans g12
 have o03:=C3.old o02
 have o13:=C3.old o12
 obtain ⟨M4,r4,C4⟩:=wt x3 hP.y ((s1.grow C2).grow C3) hy' ((s1'.grow C2).grow C3)
 have g04:=(C4.get o03 (by simp)).trans g03
 have g14:=(C4.get o13 (by simp)).trans g13
 have o04:=C4.old o03
 have o14:=C4.old o13
 obtain ⟨M5,r5,C5⟩:=uu ih (hgs.bd.imp (·.1) fun ⟨k,h1,h2,_⟩=>⟨k,h1,h2⟩) e7 hB1 (((s1.grow C2).grow C3).grow C4) hB2 (((s1'.grow C2).grow C3).grow C4) (by omega)
 have g05:=(C5.get o04 (by simp)).trans g04
 have g15:=(C5.get o14 (by simp)).trans g14
 have o05:=C5.old o04
 have o15:=C5.old o14
 obtain ⟨M6,r6,C6⟩:=uu ih (hgs.bd.imp (·.2) fun ⟨k,h1,_,h2⟩=>⟨k,h1,h2⟩) e8 hE1 ((((s1.grow C2).grow C3).grow C4).grow C5) hE2 ((((s1'.grow C2).grow C3).grow C4).grow C5) (by omega)
 simp (config:={maxSteps:=1000000}) (disch:=first|assumption|omega|(apply ai;omega)|(apply ae;assumption)|(simp only[ay]<;>omega)) only[go_sem,seval,t0,t1,t2,t3,g0,g1,hsl,hsl',r2.wf',g02,g12,r3.wf',g03,g13,r4.wf',g04,g14,r5.wf',g05,g15,r6.wf']
 exact ⟨j - 1,by omega,_,M6,i+1,rfl,by exact gq t0,by exact gq t1,by exact gq t2,by exact gq rfl,by omega,(((((hC.trans hC1 (by simp)).trans C2 (by simp)).trans C3 (by simp)).trans C4 (by simp)).trans C5 (by simp)).trans C6 (by simp)⟩
theorem v8:∀n,Pd n
 |0=>A9 fun k h=>by omega
 |n+1=>A9 fun k h=>Nat.succ.inj h▸v8 n
end FR
open Go Nm Go.Proofs
namespace FR
theorem Qp (s:List Nat) (z:Int):eJ [.str,.int] [.str s,ii z] [.str s,ii z]=some true:=by
 have h:qe z z=true:=by rw[gh];simp
 have hk:rE .i64 .i64=true:=rfl
 show (match some (vN s s) with|some c=>cond c (eJ [.int] [ii z] [ii z]) (some false)|none=>none)=_
 rw[pj]
 show (match (cond (rE .i64 .i64) (some (qe z z)) none) with|some c=>cond c (eJ [] [] []) (some false)|none=>none)=_
 rw[hk,h];rfl
theorem LF {l l':List (List Nat×List Stm)} (h:Gh l=Gh l'):l.length=l'.length/\∀(i:Nat) (hi:i<l.length) (hi':i<l'.length),l[i].1=l'[i].1/\hZ l[i].2=hZ l'[i].2:=by
 unfold Gh at h
 have hl:=congrArg List.length h
 rw[List.length_map,List.length_map] at hl
 refine ⟨hl,fun i hi hi'=> ?_⟩
 have:=congrArg (fun x=>x[i]?) h
 simp only[List.getElem?_map,List.getElem?_eq_getElem hi,List.getElem?_eq_getElem hi',Option.map_some,Option.some.injEq,Prod.mk.injEq] at this
 exact this
set_option maxHeartbeats 8000000 in
theorem IX {p q:Prg} (hg:GP p) (he:Gm q=Gm p) {m0 m0' m:NH} {T T':D4->Prop} {vc vt vr vc' vt' vr':NV} (h:RP m0 T p vc vt vr) (hst:aE T m0 m) (h':RP m0' T' q vc' vt' vr') (hst':aE T' m0' m)
 (hz1:∀t∈p.ts,fF t.2<=1000000000) (hz2:fF p.r<=1000000000) (hz3:p.cs.length<=1000000000) (hz4:p.ts.length<=1000000000):
 ∃m',a6 Tryz.prog S0 10 [.agg [vc,vt,vr],.agg [vc',vt',vr'],.bool false] m (.bool true) m'/\Chg [] m m':=by
 obtain ⟨qc,qt,qr⟩:=q
 unfold Gm at he
 injection he with f1 f2 f3
 dsimp only at f1 f2 f3
 subst f1
 refine WF.ex1 fun K hK=> ?_
 refine WF.of_wpG (fun _=>rfl) Ag (L:= [(.b .e,.bool false),(.a .e,.agg [vc',vt',vr']),(.e,.agg [vc,vt,vr])]) rfl ?_
 unfold L0
 generalize hM1:hp [(.n 1,.cells true [vc',vt',vr']),(.n 0,.cells true [vc,vt,vr])] 2 m=M1
 have hC1:Chg [] m M1:=bf hM1 rfl
 have hg0:M1.get (na m 0)=some (.cells true [vc,vt,vr]):=bu hM1
 have hg1:M1.get (na m 1)=some (.cells true [vc',vt',vr']):=bu hM1
 have ho0:aw M1 (na m 0):=bB hM1 (by omega)
 have ho1:aw M1 (na m 1):=bB hM1 (by omega)
 have s1:=hst.grow hC1
 have s1':=hst'.grow hC1
 obtain ⟨TC,hT⟩:=h.t
 obtain ⟨TC',hT'⟩:=h'.t
 obtain ⟨RC1,hR⟩:=h.r
 obtain ⟨RC2,hR'⟩:=h'.r
 obtain ⟨tl,tat⟩:=LF f2
 have lc:=(h.stays s1).c.len
 rw[List.length_map] at lc
 have lc':=(h'.stays s1').c.len
 rw[List.length_map] at lc'
 have lt:=(hT.stays s1).sl.len
 rw[hT.len] at lt
 have lt':=(hT'.stays s1').sl.len
 rw[hT'.len] at lt'
 dsimp only at lc' lt' tl tat hT' hR'
 rw[tl] at lt'
 obtain ⟨M2,r2,C2⟩:=v8 29 hg.r f3.symm hR s1 hR' s1' hz2
 have g02:=(C2.get ho0 (by simp)).trans hg0
 have g12:=(C2.get ho1 (by simp)).trans hg1
 have o02:=C2.old ho0
 have o12:=C2.old ho1
 simp (config:={maxSteps:=1000000}) (disch:=first|assumption|omega|(apply ai;omega)|(apply ae;assumption)|(simp only[ay]<;>omega)) only[go_sem,seval,hM1,hg0,hg1,lc,lc',lt,lt',r2.wf',g02,g12]
 have s2:=s1.grow C2
 have s2':=s1'.grow C2
 refine W.loop (fun j D=>∃t i,D=⟨t, [],none,M2⟩/\NT.get D4.e.c t=some (.ptr (na m 0) 0)/\NT.get D4.e.f t=some (.ptr (na m 1) 0)/\NT.get D4.e.b t=some (.bool false)/\NT.get D4.e.a.c t=some (ii (i:Nat))/\i+j=p.cs.length) ?_ p.cs.length _ ⟨_,0,rfl,by exact gq rfl,by exact gq rfl,by exact gq rfl,by exact gq rfl,by omega⟩
 rintro j D ⟨t,i,rfl,t0,t1,t2,t3,hij⟩
 apply aM
 unfold Aq
 change wp _ _ _ _ ⟨am [] t, [],none,M2⟩ _
 have lc2:=(h.stays s2).c.len
 rw[List.length_map] at lc2
 by_cases hi:i<p.cs.length
 ·obtain ⟨ia,oa,wa,ca,a1,a2,a3,a4,a5⟩:=(h.stays s2).c.at i (by rw[List.length_map];exact hi)
  obtain ⟨ib,ob,wb,cb,b1,b2,b3,b4,b5⟩:=(h'.stays s2').c.at i (by rw[List.length_map];exact hi)
  rw[List.getElem_map] at a5 b5
  dsimp only at b5
  have e:=PB (Qp p.cs[i].1 p.cs[i].2)
  rw[Bool.not_true] at e
  simp (config:={maxSteps:=1000000}) (disch:=first|assumption|omega|(apply ai;omega)|(apply ae;assumption)|(simp only[ay]<;>omega)) only[go_sem,seval,t0,t1,t2,t3,g02,g12,lc2,a1,a2,a5,b1,b2,b5,Bc,e]
  exact ⟨j - 1,by omega,_,i+1,rfl,by exact gq t0,by exact gq t1,by exact gq t2,by exact gq rfl,by omega⟩
 have hi':i=p.cs.length:=by omega
 simp (config:={maxSteps:=1000000}) (disch:=first|assumption|omega|(apply ai;omega)|(apply ae;assumption)|(simp only[ay]<;>omega)) only[go_sem,seval,t0,t1,t2,t3,g02,g12,lc2]
 refine W.loop (fun j D=>∃t M i,D=⟨t, [],none,M⟩/\NT.get D4.e.c t=some (.ptr (na m 0) 0)/\NT.get D4.e.f t=some (.ptr (na m 1) 0)/\NT.get D4.e.b t=some (.bool false)/\NT.get D4.e.a.f t=some (ii (i:Nat))/\i+j=p.ts.length/\Chg [] M2 M) ?_ p.ts.length _ ⟨_,M2,0,rfl,by exact gq t0,by exact gq t1,by exact gq t2,by exact gq rfl,by omega,Chg.refl M2⟩
 clear t0 t1 t2 t3 hij hi hi' lc2
 rintro j D ⟨t,M,i,rfl,t0,t1,t2,t3,hij,hC⟩
 apply aM
 unfold zc
 change wp _ _ _ _ ⟨am [] t, [],none,M⟩ _
 have g0M:=(hC.get o02 (by simp)).trans g02
 have g1M:=(hC.get o12 (by simp)).trans g12
 have o0M:=hC.old o02
 have o1M:=hC.old o12
 have sM:=s2.grow hC
 have sM':=s2'.grow hC
 have ltM:=(hT.stays sM).sl.len
 rw[hT.len] at ltM
 by_cases hi:i<p.ts.length
 ·obtain ⟨vb,B1,ia,oa,wa,ca,hB1,a1,a2,a3,a4,a5⟩:=(hT.stays sM).at i hi
  obtain ⟨vb',B2,ib,ob,wb,cb,hB2,b1,b2,b3,b4,b5⟩:=(hT'.stays sM').at i (by omega)
  have a50:=cn a5 0 (by omega)
  have a51:=cn a5 1 (by omega)
  have b50:=cn b5 0 (by omega)
  have b51:=cn b5 1 (by omega)
  obtain ⟨n1,n2⟩:=tat i (by omega) hi
  have q2:decide (p.ts[i].1≠(qt[i]'(by omega)).1)=false:=Q6 (by simp[n1])
  obtain ⟨M3,r3,C3⟩:=v8 29 (hg.t _ (List.getElem_mem hi)).2 n2.symm hB1 (iM (Chg.refl M) T) hB2 (iM (Chg.refl M) T') (hz1 _ (List.getElem_mem hi))
  have g03:=(C3.get o0M (by simp)).trans g0M
  have g13:=(C3.get o1M (by simp)).trans g1M
  have a23:=(C3.get a3 (by simp)).trans a2
  have b23:=(C3.get b3 (by simp)).trans b2
  have hv1:br 4 vt vt=true:=hT.sl.same
  have hv2:br 4 vt' vt'=true:=hT'.sl.same
  have hv3:br 4 vb vb=true:=hB1.sl.same
  have hv4:br 4 vb' vb'=true:=hB2.sl.same
  simp (config:={maxSteps:=1000000}) (disch:=first|assumption|omega|(apply ai;omega)|(apply ae;assumption)|(simp only[ay]<;>omega)) only[go_sem,seval,t0,t1,t2,t3,g0M,g1M,ltM,a1,a2,a50,a51,b1,b2,b50,b51,q2,r3.wf',g03,g13,a23,b23,hv1,hv2,hv3,hv4]
  exact ⟨j - 1,by omega,_,M3,i+1,rfl,by exact gq t0,by exact gq t1,by exact gq t2,by exact gq rfl,by omega,hC.trans C3 (by simp)⟩
 ·simp (config:={maxSteps:=1000000}) (disch:=first|assumption|omega|(apply ai;omega)|(apply ae;assumption)|(simp only[ay]<;>omega)) only[go_sem,seval,t0,t1,t2,t3,g0M,ltM]
  exact hK _ ((hC1.trans C2 (by simp)).trans hC (by simp))
end FR
open Go Nm Go.Proofs
namespace FR
theorem pI (m:NH) (c:Nat):a6 Tryz.prog S0 83 [u8 c] m (.bool (jd c)) m:=by
 have h:∃v m',a6 Tryz.prog S0 83 [u8 c] m v m'/\v= .bool (jd c)/\m'=m:=by
  refine WF.ex fun K hK=> ?_
  refine WF.of_wpG (fun _=>rfl) yS (L:= [(.e,u8 c)]) rfl ?_
  unfold Lf
  by_cases h1:97<=c
  ·by_cases h2:c<=122
   ·simp (disch:=first|assumption|omega) only[go_sem,seval]
    exact hK _ _ ⟨by simp[jd,h1,h2],ab m⟩
   ·simp (disch:=first|assumption|omega) only[go_sem,seval]
    exact hK _ _ ⟨by simp[jd,h2],ab m⟩
  ·simp (disch:=first|assumption|omega) only[go_sem,seval]
   exact hK _ _ ⟨by simp[jd,h1],ab m⟩
 obtain ⟨v,m',h,rfl,rfl⟩:=h
 exact h
theorem ry (m:NH) (c:Nat):a6 Tryz.prog S0 88 [u8 c] m (.bool (cu c)) m:=by
 have h:∃v m',a6 Tryz.prog S0 88 [u8 c] m v m'/\v= .bool (cu c)/\m'=m:=by
  refine WF.ex fun K hK=> ?_
  refine WF.of_wpG (fun _=>rfl) za (L:= [(.e,u8 c)]) rfl ?_
  unfold Mg
  by_cases h1:48<=c
  ·by_cases h2:c<=57
   ·simp (disch:=first|assumption|omega) only[go_sem,seval]
    exact hK _ _ ⟨by simp[cu,h1,h2],ab m⟩
   ·simp (disch:=first|assumption|omega) only[go_sem,seval]
    exact hK _ _ ⟨by simp[cu,h2],ab m⟩
  ·simp (disch:=first|assumption|omega) only[go_sem,seval]
   exact hK _ _ ⟨by simp[cu,h1],ab m⟩
 obtain ⟨v,m',h,rfl,rfl⟩:=h
 exact h
theorem lG (m:NH) (c:Nat):a6 Tryz.prog S0 84 [u8 c] m (.bool (bT c)) m:=by
 have h:∃v m',a6 Tryz.prog S0 84 [u8 c] m v m'/\v= .bool (bT c)/\m'=m:=by
  refine WF.ex fun K hK=> ?_
  refine WF.of_wpG (fun _=>rfl) zJ (L:= [(.e,u8 c)]) rfl ?_
  unfold J6
  have a1:=pI m c
  have a2:=ry m c
  cases h1:jd c with
  |true=>
   rw[h1] at a1
   simp (disch:=first|assumption|omega) only[go_sem,seval,ab,a1.wf']
   exact hK _ _ ⟨by simp[bT,h1],rfl⟩
  |false=>
   rw[h1] at a1
   cases h2:cu c with
   |true=>
    rw[h2] at a2
    simp (disch:=first|assumption|omega) only[go_sem,seval,ab,a1.wf',a2.wf']
    exact hK _ _ ⟨by simp[bT,h2],rfl⟩
   |false=>
    rw[h2] at a2
    by_cases h3:c=95
    ·simp (disch:=first|assumption|omega) only[go_sem,seval,ab,a1.wf',a2.wf']
     exact hK _ _ ⟨by simp[bT,h3],rfl⟩
    ·simp (disch:=first|assumption|omega) only[go_sem,seval,ab,a1.wf',a2.wf']
     exact hK _ _ ⟨by simp[bT,h1,h2,h3],rfl⟩
 obtain ⟨v,m',h,rfl,rfl⟩:=h
 exact h
theorem Ik (m:NH) (c:Nat):a6 Tryz.prog S0 81 [u8 c] m (.bool (j8 c)) m:=by
 have h:∃v m',a6 Tryz.prog S0 81 [u8 c] m v m'/\v= .bool (j8 c)/\m'=m:=by
  refine WF.ex fun K hK=> ?_
  refine WF.of_wpG (fun _=>rfl) zM (L:= [(.e,u8 c)]) rfl ?_
  unfold Ka
  by_cases h1:c=32
  ·simp (disch:=first|assumption|omega) only[go_sem,seval];exact hK _ _ ⟨by simp[j8,h1],ab m⟩
  ·by_cases h2:c=9
   ·simp (disch:=first|assumption|omega) only[go_sem,seval];exact hK _ _ ⟨by simp[j8,h2],ab m⟩
   ·by_cases h3:c=10
    ·simp (disch:=first|assumption|omega) only[go_sem,seval];exact hK _ _ ⟨by simp[j8,h3],ab m⟩
    ·by_cases h4:c=13
     ·simp (disch:=first|assumption|omega) only[go_sem,seval];exact hK _ _ ⟨by simp[j8,h4],ab m⟩
     ·simp (disch:=first|assumption|omega) only[go_sem,seval];exact hK _ _ ⟨by simp[j8,h1,h2,h3,h4],ab m⟩
 obtain ⟨v,m',h,rfl,rfl⟩:=h
 exact h
theorem HS (m:NH) (c:Nat):a6 Tryz.prog S0 82 [u8 c] m (.bool (decide (c≠10))) m:=by
 have h:∃v m',a6 Tryz.prog S0 82 [u8 c] m v m'/\v= .bool (decide (c≠10))/\m'=m:=by
  refine WF.ex fun K hK=> ?_
  refine WF.of_wpG (fun _=>rfl) zD (L:= [(.e,u8 c)]) rfl ?_
  unfold KT
  by_cases h1:c=10
  ·simp (disch:=first|assumption|omega) only[go_sem,seval];exact hK _ _ ⟨by simp[h1],ab m⟩
  ·simp (disch:=first|assumption|omega) only[go_sem,seval];exact hK _ _ ⟨by simp[h1],ab m⟩
 obtain ⟨v,m',h,rfl,rfl⟩:=h
 exact h
theorem Cn {p:Nat->Bool} {s:List Nat}:∀(k a:Nat),k=s.length - a->∀h:aA p s a<s.length,p (s[aA p s a])=false:=by
 intro k
 induction k with
 |zero=>intro a hk h;have:=@eT p s a;omega
 |succ k ih=>
  intro a hk h
  have ha:a<s.length:=by omega
  cases hp:p s[a] with
  |false=>have e:=gE ha hp;simp only[e];exact hp
  |true=>have e:=cH ha hp;simp only[e] at h ⊢;exact ih (a+1) (by omega) h
theorem tN {g:Nat} {p:Nat->Bool} (hg:∀m c,a6 Tryz.prog S0 g [u8 c] m (.bool (p c)) m) (m:NH) {s:List Nat} (hs:s.length<=1000000) {a:Nat} (ha:a<=s.length):
 a6 Tryz.prog S0 80 [.str s,ii a,.fn g []] m (ii (aA p s a)) m:=by
 have h:∃v m',a6 Tryz.prog S0 80 [.str s,ii a,.fn g []] m v m'/\v=ii (aA p s a)/\m'=m:=by
  refine WF.ex fun K hK=> ?_
  refine WF.of_wpG (fun _=>rfl) A8 (L:= [(.b .e,.fn g []),(.a .e,ii a),(.e,.str s)]) rfl ?_
  unfold Ji
  simp (disch:=first|assumption|omega) only[go_sem,seval,ab]
  refine W.loop (fun k d=>∃t i,d=⟨t, [],none,m⟩/\NT.get D4.e t=some (.str s)/\NT.get D4.e.a t=some (ii (i:Nat))/\NT.get D4.e.b t=some (.fn g [])/\aA p s i=aA p s a/\i+k=s.length) ?_ (s.length - a) _ ⟨_,a,rfl,by simp only[go_sem,seval],by simp only[go_sem,seval],by simp only[go_sem,seval],rfl,by omega⟩
  rintro k d ⟨t,i,rfl,g1,g2,g3,hr,hik⟩
  apply aM
  unfold zP
  change wp _ _ _ _ ⟨am [] t, [],none,m⟩ _
  by_cases hi:i<s.length
  ·have hb:s[i]? =some s[i]:=List.getElem?_eq_getElem hi
   have hc:=hg m s[i]
   cases hp:p s[i] with
   |true=>
    rw[hp] at hc
    simp (disch:=first|assumption|omega) only[go_sem,seval,g1,g2,g3,hb,hc.wf']
    refine ⟨k - 1,by omega,_,i+1,rfl, ?_, ?_, ?_,by rw[←hr,cH hi hp],by omega⟩
    ·simp (disch:=first|assumption|omega) only[go_sem,seval,g1]
    ·simp (disch:=first|assumption|omega) only[go_sem,seval]<;>rfl
    ·simp (disch:=first|assumption|omega) only[go_sem,seval,g3]
   |false=>
    rw[hp] at hc
    simp (disch:=first|assumption|omega) only[go_sem,seval,g1,g2,g3,hb,hc.wf']
    exact hK _ _ ⟨by rw[←hr,gE hi hp],rfl⟩
  ·simp (disch:=first|assumption|omega) only[go_sem,seval,g1,g2,g3]
   exact hK _ _ ⟨by rw[←hr,fZ (by omega)],rfl⟩
 obtain ⟨v,m',h,rfl,rfl⟩:=h
 exact h
theorem Eb (s:List Nat):∀(k a:Nat),k=s.length - a->bc s a=bc s (aA j8 s a):=by
 intro k
 induction k with
 |zero=>intro a hk;rw[fZ (by omega)]
 |succ k ih=>
  intro a hk
  have ha:a<s.length:=by omega
  cases hp:j8 s[a] with
  |true=>rw[ej ha,Q5 hp,cH ha hp];exact ih (a+1) (by omega)
  |false=>rw[gE ha hp]
theorem LD (m:NH) {s:List Nat} (hs:s.length<=1000000) {a:Nat} (ha:a<=s.length):a6 Tryz.prog S0 64 [.str s,ii a] m (ii (bc s a)) m:=by
 have h:∃v m',a6 Tryz.prog S0 64 [.str s,ii a] m v m'/\v=ii (bc s a)/\m'=m:=by
  refine WF.ex fun K hK=> ?_
  refine WF.of_wpG (fun _=>rfl) Ba (L:= [(.a .e,ii a),(.e,.str s)]) rfl ?_
  unfold KO
  simp (disch:=first|assumption|omega) only[go_sem,seval,ab]
  refine W.loop (fun k d=>∃t i,d=⟨t, [],none,m⟩/\NT.get D4.e t=some (.str s)/\NT.get D4.e.a t=some (ii (i:Nat))/\bc s i=bc s a/\i+k=s.length) ?_ (s.length - a) _ ⟨_,a,rfl,by simp only[go_sem,seval],by simp only[go_sem,seval],rfl,by omega⟩
  rintro k d ⟨t,i,rfl,g1,g2,hr,hik⟩
  apply aM
  unfold AH
  change wp _ _ _ _ ⟨am [] t, [],none,m⟩ _
  have r1:=tN Ik m hs (a:=i) (by omega)
  have hle:=eh (p:=j8) (s:=s) (a:=i) (by omega)
  have hge:=@eT j8 s i
  rw[Eb s _ _ rfl] at hr
  generalize hj:aA j8 s i=j at *
  by_cases hjl:j<s.length
  ·have hb:s[j]? =some s[j]:=List.getElem?_eq_getElem hjl
   have hnb:j8 s[j]=false:=by
    have:=Cn (p:=j8) (s:=s) _ i rfl (by omega)
    simp only[hj] at this;exact this
   by_cases h35:s[j]=35
   ·have r2:=tN HS m hs (a:=j) (by omega)
    have hle2:=eh (p:=fun c=>decide (c≠10)) (s:=s) (a:=j) (by omega)
    have hlt:j+1<=aA (fun c=>decide (c≠10)) s j:=by rw[cH hjl (by simp[h35])];exact eT
    rw[pF hjl h35] at hr
    generalize aA (fun c=>decide (c≠10)) s j=j2 at *
    simp (disch:=first|assumption|omega) only[go_sem,seval,g1,g2,r1.wf',hb,r2.wf']
    refine ⟨s.length - j2,by omega,_,j2,rfl, ?_, ?_,hr,by omega⟩
    ·simp (disch:=first|assumption|omega) only[go_sem,seval,g1]
    ·simp (disch:=first|assumption|omega) only[go_sem,seval]
   ·simp (disch:=first|assumption|omega) only[go_sem,seval,g1,g2,r1.wf',hb]
    exact hK _ _ ⟨by rw[←hr,rl hjl hnb h35],rfl⟩
  ·simp (disch:=first|assumption|omega) only[go_sem,seval,g1,g2,r1.wf']
   exact hK _ _ ⟨by rw[←hr,j6 (by omega)],rfl⟩
 obtain ⟨v,m',h,rfl,rfl⟩:=h
 exact h
abbrev Ga (l:List (List Nat)):List (List NV):=l.map fun s=> [NV.str s]
theorem Hr {m:NH} {v:NV} {l:List (List Nat)} (hv:Sl m v 1 (Ga l)) (hl:l.length<=1000000) (t:List Nat):∃z,a6 Tryz.prog S0 101 [v,.str t] m (ii z) m/\(0<=z↔t∈l):=by
 have h:∃u m',a6 Tryz.prog S0 101 [v,.str t] m u m'/\m'=m/\∃z,u=ii z/\(0<=z↔t∈l):=by
  refine WF.ex fun K hK=> ?_
  refine WF.of_wpG (fun _=>rfl) uC (L:= [(.a .e,.str t),(.e,v)]) rfl ?_
  unfold EP
  have hlen:=hv.len
  rw[List.length_map] at hlen
  simp (disch:=first|assumption|omega) only[go_sem,seval,ab,hlen]
  refine W.loop (fun k d=>∃t' i,d=⟨t', [],none,m⟩/\NT.get D4.e t'=some v/\NT.get D4.e.a t'=some (.str t)/\NT.get D4.e.a.c t'=some (ii l.length)/\NT.get D4.e.a.f t'=some (ii (i:Nat))/\t∉l.take i/\i+k=l.length) ?_ l.length _ ⟨_,0,rfl,by simp only[go_sem,seval],by simp only[go_sem,seval],by simp only[go_sem,seval],by simp only[go_sem,seval]<;>rfl,by simp,by omega⟩
  rintro k d ⟨t',i,rfl,g1,g2,g3,g4,hno,hik⟩
  apply aM
  unfold tZ
  change wp _ _ _ _ ⟨am [] t', [],none,m⟩ _
  by_cases hi:i<l.length
  ·obtain ⟨id,off,w,c,a1,a2,a3,a4,a5⟩:=hv.at i (by simpa using hi)
   rw[List.getElem_map] at a5
   have c0:=cn a5 0 (by omega)
   rw[Nat.add_zero] at c0
   by_cases he:t=l[i]
   ·simp (disch:=first|assumption|omega) only[go_sem,seval,g1,g2,g3,g4,a1,a2,c0,he]
    exact hK _ _ ⟨rfl,_,rfl,fun _=>by rw[he];exact List.getElem_mem hi,fun _=>by omega⟩
   ·simp (disch:=first|assumption|omega) only[go_sem,seval,g1,g2,g3,g4,a1,a2,c0,he]
    refine ⟨k - 1,by omega,_,i+1,rfl, ?_, ?_, ?_, ?_, ?_,by omega⟩
    ·simp (disch:=first|assumption|omega) only[go_sem,seval,g1]
    ·simp (disch:=first|assumption|omega) only[go_sem,seval,g2]
    ·simp (disch:=first|assumption|omega) only[go_sem,seval,g3]
    ·simp (disch:=first|assumption|omega) only[go_sem,seval]<;>rfl
    ·rw[List.take_add_one,List.getElem?_eq_getElem hi]
     simp only[Option.toList_some,List.mem_append,List.mem_singleton,not_or]
     exact ⟨hno,he⟩
  ·simp (disch:=first|assumption|omega) only[go_sem,seval,g1,g2,g3,g4]
   have e:i=l.length:=by omega
   subst e
   rw[List.take_length] at hno
   exact hK _ _ ⟨rfl,_,rfl,fun h=>by omega,fun h=>Q3 h hno⟩
 obtain ⟨v,m',h,rfl,z,rfl,hz⟩:=h
 exact ⟨z,h,hz⟩
theorem pY {m:NH} {v:NV} {l:List (List Nat)} (hv:Sl m v 1 (Ga l)) (hl:l.length<=1000000) (t:List Nat):a6 Tryz.prog S0 85 [v,.str t] m (.bool (decide (t∈l))) m:=by
 have h:∃u m',a6 Tryz.prog S0 85 [v,.str t] m u m'/\u= .bool (decide (t∈l))/\m'=m:=by
  refine WF.ex fun K hK=> ?_
  refine WF.of_wpG (fun _=>rfl) zw (L:= [(.a .e,.str t),(.e,v)]) rfl ?_
  unfold KQ
  obtain ⟨z,hz,hzi⟩:=Hr hv hl t
  by_cases h:t∈l
  ·have:=hzi.mpr h
   simp (disch:=first|assumption|omega) only[go_sem,seval,ab,hz.wf']
   exact hK _ _ ⟨by simp[h],rfl⟩
  ·have:¬0<=z:=fun q=>h (hzi.mp q)
   simp (disch:=first|assumption|omega) only[go_sem,seval,ab,hz.wf']
   exact hK _ _ ⟨by simp[h],rfl⟩
 obtain ⟨v,m',h,rfl,rfl⟩:=h
 exact h
theorem vA (m:NH):∃v m',a6 Tryz.prog S0 86 [] m v m'/\dq m m' v 1 (Ga cA)/\Chg [] m m':=by
 refine WF.ex fun K hK=> ?_
 refine WF.of_wpG (fun _=>rfl) zi (L:= []) rfl ?_
 unfold Kb
 simp (disch:=first|assumption|omega|(simp only[ay]<;>omega)) only[go_sem,seval]
 exact hK _ _ ⟨dq.of (by simp) aD cI (ai (by omega)) rfl rfl rfl,aH rfl⟩
theorem Kv:ah Tryz.prog 115=some (.ext .idxByte):=by kernel_rfl
theorem IT:ah Tryz.prog 102=some (.ext .add64):=by kernel_rfl
theorem Fu (m:NH) (s:List Nat) (hs:s.length<=1000000) {c:Nat} (hc:c<256):a6 Tryz.prog S0 90 [.str s,.str [c]] m (.bool (decide (c∈s))) m:=by
 obtain ⟨z,hz,hzi⟩:=H3 s hc
 have h1:∀m,a6 Tryz.prog S0 115 [.str s,u8 c] m (ii z) m:=fun m=>a6.ext rfl Kv hz
 have h2:∀m,a6 Tryz.prog S0 111 [.str s,u8 c] m (ii z) m:=fun m=>by
  have h:∃u m',a6 Tryz.prog S0 111 [.str s,u8 c] m u m'/\u=ii z/\m'=m:=by
   refine WF.ex fun K hK=> ?_
   refine WF.of_wpG (fun _=>rfl) uQ (L:= [(.a .e,u8 c),(.e,.str s)]) rfl ?_
   unfold D5
   simp (disch:=first|assumption|omega) only[go_sem,seval,ab,(h1 _).wf']
   exact hK _ _ ⟨rfl,rfl⟩
  obtain ⟨v,m',h,rfl,rfl⟩:=h
  exact h
 have h3:∀m,a6 Tryz.prog S0 108 [.str s,.str [c]] m (ii z) m:=fun m=>by
  have h:∃u m',a6 Tryz.prog S0 108 [.str s,.str [c]] m u m'/\u=ii z/\m'=m:=by
   refine WF.ex fun K hK=> ?_
   refine WF.of_wpG (fun _=>rfl) tQ (L:= [(.a .e,.str [c]),(.e,.str s)]) rfl ?_
   unfold FB
   have hb: [c][0]? =some c:=rfl
   have hl1: [c].length=1:=rfl
   by_cases hcs: [c]=s
   ·have:z=0:=by
     subst hcs
     have e:fW .idxByte [.str [c],.int .u8 (.lit (c:Int))]=cond (Nat.ble c 255) (match cond (Nat.beq c c) (some 0) none with|some i=>some (.int .i64 (.lit (.ofNat i)))|none=>some (.int .i64 (.lit (.negSucc 0)))) none:=rfl
     rw[e,Nat.ble_eq_true_of_le (by omega),Nat.beq_refl] at hz
     simp only[cond_true,Option.some.injEq,NV.int.injEq,SI.lit.injEq,true_and] at hz
     exact hz.symm
    subst this
    simp (disch:=first|assumption|omega) only[go_sem,seval,ab,(h2 _).wf',hb,hl1,Q7 hcs]
    exact hK _ _ ⟨rfl,rfl⟩
   have hd:=Q6 hcs
   simp (disch:=first|assumption|omega) only[go_sem,seval,ab,(h2 _).wf',hb,hl1,hd]
   exact hK _ _ ⟨rfl,rfl⟩
  obtain ⟨v,m',h,rfl,rfl⟩:=h
  exact h
 have h4:∀m,a6 Tryz.prog S0 103 [.str s,.str [c]] m (ii z) m:=fun m=>by
  have h:∃u m',a6 Tryz.prog S0 103 [.str s,.str [c]] m u m'/\u=ii z/\m'=m:=by
   refine WF.ex fun K hK=> ?_
   refine WF.of_wpG (fun _=>rfl) tV (L:= [(.a .e,.str [c]),(.e,.str s)]) rfl ?_
   unfold DH
   simp (disch:=first|assumption|omega) only[go_sem,seval,ab,(h3 _).wf']
   exact hK _ _ ⟨rfl,rfl⟩
  obtain ⟨v,m',h,rfl,rfl⟩:=h
  exact h
 have h:∃u m',a6 Tryz.prog S0 90 [.str s,.str [c]] m u m'/\u= .bool (decide (c∈s))/\m'=m:=by
  refine WF.ex fun K hK=> ?_
  refine WF.of_wpG (fun _=>rfl) Am (L:= [(.a .e,.str [c]),(.e,.str s)]) rfl ?_
  unfold K0
  by_cases h:c∈s
  ·have:=hzi.mpr h
   simp (disch:=first|assumption|omega) only[go_sem,seval,ab,(h4 _).wf']
   exact hK _ _ ⟨by simp[h],rfl⟩
  ·have:¬0<=z:=fun q=>h (hzi.mp q)
   simp (disch:=first|assumption|omega) only[go_sem,seval,ab,(h4 _).wf']
   exact hK _ _ ⟨by simp[h],rfl⟩
 obtain ⟨v,m',h,rfl,rfl⟩:=h
 exact h
def mN (s:List Nat):Bool:=decide (1<=s.length)&&decide (s.length<=16)&&(match s with|c::_=>jd c| []=>false)&& !(decide (s∈cA))&&s.all bT
theorem C0 (p:Nat->Bool) (s:List Nat):((s.takeWhile p).length=s.length)↔s.all p=true:=by
 induction s with
 |nil=>simp
 |cons c s ih=>
  cases hc:p c with
  |true=>
   have e1:(c::s).takeWhile p=c::s.takeWhile p:=by simp[List.takeWhile_cons,hc]
   have e2:(c::s).all p=s.all p:=by simp[List.all_cons,hc]
   rw[e1,e2,←ih];simp
  |false=>
   have e1:(c::s).takeWhile p= []:=by simp[List.takeWhile_cons,hc]
   have e2:(c::s).all p=false:=by simp[List.all_cons,hc]
   rw[e1,e2];simp
theorem H0 (p:Nat->Bool) (s:List Nat):(aA p s 0=s.length)↔s.all p=true:=by
 have e:aA p s 0=(s.takeWhile p).length:=by unfold aA;simp
 rw[e];exact C0 p s
theorem LS (m:NH) {s:List Nat} (hs:s.length<=1000000):∃v m',a6 Tryz.prog S0 87 [.str s] m v m'/\v= .bool (mN s)/\Chg [] m m':=by
 refine WF.ex fun K hK=> ?_
 refine WF.of_wpG (fun _=>rfl) Af (L:= [(.e,.str s)]) rfl ?_
 unfold Kn
 cases s with
 |nil=>simp (disch:=first|assumption|omega) only[go_sem,seval];exact hK _ _ ⟨rfl,aH rfl⟩
 |cons c s=>
  have hne:¬(c::s= []):=by simp
  have hlen:(c::s).length=s.length+1:=rfl
  by_cases h1:(c::s).length<=16
  ·have h0:(c::s)[0]? =some c:=rfl
   have hl:=pI m c
   cases h2:jd c with
   |false=>
    rw[h2] at hl
    simp (disch:=first|assumption|omega) only[go_sem,seval,hne,h0,ab,hl.wf',hlen]
    exact hK _ _ ⟨by simp[mN,h2],Chg.refl m⟩
   |true=>
    rw[h2] at hl
    obtain ⟨w,m1,hw,how,hC1⟩:=vA m
    have hc:=pY how.sl (by decide) (c::s)
    by_cases h3:(c::s)∈cA
    ·rw[Q7 h3] at hc
     simp (disch:=first|assumption|omega) only[go_sem,seval,hne,h0,ab,hl.wf',hw.wf',hc.wf',hlen]
     exact hK _ _ ⟨by unfold mN;rw[Q7 h3];simp,hC1⟩
    ·rw[Q6 h3] at hc
     have hr:a6 Tryz.prog S0 80 [.str (c::s),ii 0,.fn 84 []] m1 (ii ((aA bT (c::s) 0:Nat):Int)) m1:=tN lG m1 hs (a:=0) (Nat.zero_le _)
     simp (disch:=first|assumption|omega) only[go_sem,seval,hne,h0,ab,hl.wf',hw.wf',hc.wf',hlen,hr.wf']
     have hr2:=H0 bT (c::s)
     refine hK _ _ ⟨?_,hC1⟩
     unfold mN
     rw[Q6 h3]
     congr 1
     rw[Bool.eq_iff_iff,decide_eq_true_eq]
     simp only[h2,Bool.not_false,Bool.and_true,Bool.and_eq_true,decide_eq_true_eq]
     constructor
     ·intro q;exact ⟨⟨by simp,h1⟩,hr2.mp (by omega)⟩
     ·intro q;have:=hr2.mpr q.2;omega
  ·simp (disch:=first|assumption|omega) only[go_sem,seval,hne,ab,hlen]
   exact hK _ _ ⟨by unfold mN;rw[Q6 h1];simp,Chg.refl m⟩
theorem H7 {a:Int} (h:0<=a) (h':a<18446744073709551616):ee .num .and (.int .u64 (.lit a)) (.int .u64 (.lit 4294967295))=some (.int .u64 (.lit (a % 4294967296))):=by
 obtain ⟨n,rfl⟩:=Rb h
 have:=DE (a:=n) (b:=4294967295) (by omega) (by omega)
 rw[Nat.and_two_pow_sub_one_eq_mod n 32] at this
 exact this
theorem Ha {a:Int} (h:0<=a):ee .num .shr (.int .u64 (.lit a)) (.int .u64 (.lit 32))=some (.int .u64 (.lit (a / 4294967296))):=by
 obtain ⟨n,rfl⟩:=Rb h
 exact CO (a:=n) (n:=32) (by omega)
theorem JZ {A B n:Int} (hA:0<=A) (hA':A<4294967296) (hB:0<=B) (hB':B<4294967296) (hn:n=4294967296*A+B):
 ((A*10 % 18446744073709551616+B*10 % 18446744073709551616 / 4294967296) % 18446744073709551616 / 4294967296 % 18446744073709551616+(A*10 % 18446744073709551616+B*10 % 18446744073709551616 / 4294967296) % 18446744073709551616 % 4294967296 % 18446744073709551616 / 4294967296) % 18446744073709551616=10*n / 18446744073709551616:=by
 rw[Int.emod_eq_of_lt (a:=A*10) (by omega) (by omega),Int.emod_eq_of_lt (a:=B*10) (by omega) (by omega)]
 generalize hu:B*10 / 4294967296=u
 rw[Int.emod_eq_of_lt (a:=A*10+u) (by omega) (by omega)]
 generalize hq:(A*10+u) / 4294967296=q
 generalize hs:(A*10+u) % 4294967296=s
 rw[Int.emod_eq_of_lt (a:=q) (by omega) (by omega),Int.emod_eq_of_lt (a:=s) (by omega) (by omega)]
 rw[Int.emod_eq_of_lt (by omega) (by omega)]
 omega
theorem MP (m:NH) {n:Nat} (hn:n<18446744073709551616):a6 Tryz.prog S0 77 [.int .u64 (.lit (n:Int)),.int .u64 (.lit 10)] m (.tup [.int .u64 (.lit ((10*n / 18446744073709551616:Nat):Int)),.int .u64 (.lit ((10*n % 18446744073709551616:Nat):Int))]) m:=by
 have h:∃v m',a6 Tryz.prog S0 77 [.int .u64 (.lit (n:Int)),.int .u64 (.lit 10)] m v m'/\v=(.tup [.int .u64 (.lit ((10*n / 18446744073709551616:Nat):Int)),.int .u64 (.lit ((10*n % 18446744073709551616:Nat):Int))])/\m'=m:=by
  refine WF.ex fun K hK=> ?_
  refine WF.of_wpG (fun _=>rfl) Bd (L:= [(.a .e,.int .u64 (.lit 10)),(.e,.int .u64 (.lit (n:Int)))]) rfl ?_
  unfold LX
  have e1:(10:Int) % 4294967296=10:=rfl
  have e2:(10:Int) / 4294967296=0:=rfl
  have e3:(0:Int) % 18446744073709551616=0:=rfl
  simp (disch:=first|assumption|omega) only[go_sem,seval,ab,H7,Ha,e1,e2,e3,Int.mul_zero,Int.zero_mul,Int.add_zero,Int.zero_add]
  refine hK _ _ ⟨?_,rfl⟩
  congr 4
  ·have:=JZ (A:=(n:Int) / 4294967296) (B:=(n:Int) % 4294967296) (n:=n) (by omega) (by omega) (by omega) (by omega) (by omega)
   rw[this];omega
  ·congr 2;omega
 obtain ⟨v,m',h,rfl,rfl⟩:=h
 exact h
theorem lQ {k:D4} {v:NV} {L:List (D4×NV)} {t:Tm}:NT.put k v (am L t)=am ((k,v)::L) t:=_root_.id rfl
theorem uj (m:NH) {s:List Nat} (hs:s.length<=1000000) (hd:∀c∈s,cu c=true) {t:Tm} {Q:Out->Dyn->Prop}
 (g1:NT.get D4.e t=some (.str s)) (g2:NT.get D4.e.f t=some (u64 0)) (g3:NT.get D4.e.f.c t=some (ii s.length)) (g4:NT.get D4.e.f.f t=some (ii 0))
 (hbad:eO s 0=none->∀t',NT.get D4.e.b t'=some (u64 0)->NT.get D4.e.c t'=some (.bool false)->Q .ret ⟨am [] t', [],none,m⟩)
 (hok:∀n t',eO s 0=some n->NT.get D4.e.f t'=some (u64 n)->Q (.exit 0) ⟨am [] t', [],none,m⟩):
 W Tryz.prog S0 none rJ.loop ⟨t, [],none,m⟩ Q:=by
 refine W.loop (fun k d=>∃t i n,d=⟨t, [],none,m⟩/\NT.get D4.e t=some (.str s)/\NT.get D4.e.f t=some (u64 n)/\NT.get D4.e.f.c t=some (ii s.length)/\NT.get D4.e.f.f t=some (ii (i:Nat))/\n<18446744073709551616/\eO (s.drop i) n=eO s 0/\i+k=s.length) ?_ s.length _ ⟨_,0,0,rfl,g1,g2,g3,g4,by omega,rfl,by omega⟩
 rintro k d ⟨t,i,n,rfl,g1,g2,g3,g4,hn,hv,hik⟩
 apply aM
 unfold rJ
 change wp _ _ _ _ ⟨am [] t, [],none,m⟩ _
 by_cases hi:i<s.length
 ·have hb:s[i]? =some s[i]:=List.getElem?_eq_getElem hi
  have hdi:=hd s[i] (List.getElem_mem hi)
  unfold cu at hdi
  rw[decide_eq_true_eq] at hdi
  rw[List.drop_eq_getElem_cons hi] at hv
  generalize hc:s[i]=c at hb hdi hv
  have e1:((c:Int) - 48) % 256=((c - 48:Nat):Int):=by omega
  have e2:((c - 48:Nat):Int) % 18446744073709551616=((c - 48:Nat):Int):=by omega
  have hm:=MP m hn
  have ha:a6 Tryz.prog S0 102 [.int .u64 (.lit ((10*n % 18446744073709551616:Nat):Int)),.int .u64 (.lit ((c - 48:Nat):Int)),.int .u64 (.lit 0)] m (.tup [.int .u64 (.lit (((10*n % 18446744073709551616+(c - 48)+0) % 18446744073709551616:Nat):Int)),.int .u64 (.lit (((10*n % 18446744073709551616+(c - 48)+0) / 18446744073709551616:Nat):Int))]) m:=a6.ext rfl IT (Gp (c:=0) (by omega))
  by_cases hlt:10*n+(c - 48)<18446744073709551616
  ·have q4:10*n % 18446744073709551616=10*n:=by omega
   have q1:10*n / 18446744073709551616=0:=by omega
   have q2:(10*n+(c - 48)+0) / 18446744073709551616=0:=by omega
   have q3:(10*n+(c - 48)+0) % 18446744073709551616=10*n+(c - 48):=by omega
   rw[q4] at hm ha
   rw[q2,q3] at ha
   rw[q1] at hm
   simp (disch:=first|assumption|omega) only[go_sem,seval,g1,g2,g3,g4,hb,e1,e2,hm.wf',ha.wf']
   refine ⟨k - 1,by omega,_,i+1,10*n+(c - 48),rfl, ?_, ?_, ?_, ?_,hlt, ?_,by omega⟩
   ·simp (disch:=first|assumption|omega) only[go_sem,seval,g1]
   ·simp (disch:=first|assumption|omega) only[go_sem,seval]
   ·simp (disch:=first|assumption|omega) only[go_sem,seval,g3]
   ·simp (disch:=first|assumption|omega) only[go_sem,seval]<;>rfl
   ·rw[←hv];show _=ite _ _ _;rw[Q5 hlt]
  ·have q1:1<=10*n / 18446744073709551616+(10*n % 18446744073709551616+(c - 48)+0) / 18446744073709551616:=by omega
   have q2:10*n / 18446744073709551616<20:=by omega
   have q3:(10*n % 18446744073709551616+(c - 48)+0) / 18446744073709551616<20:=by omega
   generalize (10*n % 18446744073709551616+(c - 48)+0) / 18446744073709551616=ca at ha q1 q3
   generalize 10*n / 18446744073709551616=hi' at hm q1 q2
   simp (disch:=first|assumption|omega) only[go_sem,seval,g1,g2,g3,g4,hb,e1,e2,hm.wf',ha.wf']
   refine hbad ?_ _ ?_ ?_
   ·rw[←hv];show ite _ _ _=_;rw[Q4 hlt]
   ·simp (disch:=first|assumption|omega) only[go_sem,seval,lQ]<;>rfl
   ·simp (disch:=first|assumption|omega) only[go_sem,seval,lQ]
 ·simp (disch:=first|assumption|omega) only[go_sem,seval,g1,g2,g3,g4]
  refine hok n _ ?_ ?_
  ·rw[←hv,List.drop_eq_nil_of_le (by omega)];rfl
  ·simp (disch:=first|assumption|omega) only[go_sem,seval,lQ,g2]
theorem Dl (m:NH) {s:List Nat} (hs:s.length<=1000000) (hd:∀c∈s,cu c=true):
 ∃v m',a6 Tryz.prog S0 89 [.str s] m v m'/\v=(match ke s with|some n=> .tup [u64 n,.bool true]|none=> .tup [u64 0,.bool false])/\m'=m:=by
 refine WF.ex fun K hK=> ?_
 refine WF.of_wpG (fun _=>rfl) y7 (L:= [(.e,.str s)]) rfl ?_
 unfold L9
 by_cases h1:1<s.length
 ·have h0:s[0]? =some s[0]:=List.getElem?_eq_getElem (by omega)
  by_cases h2:s[0]=48
  ·simp (disch:=first|assumption|omega) only[go_sem,seval,ab,h0,h2]
   exact hK _ _ ⟨by unfold ke;rw[Q5 ⟨h1,by rw[h0,h2]⟩];rfl,rfl⟩
  ·have hN:ke s=eO s 0:=by unfold ke;rw[Q4 (by rw[h0];simp[h2])]
   simp (disch:=first|assumption|omega) only[go_sem,seval,ab,h0,h2]
   refine uj m hs hd ?_ ?_ ?_ ?_ ?_ ?_
   ·simp (disch:=first|assumption|omega) only[go_sem,seval]
   ·simp (disch:=first|assumption|omega) only[go_sem,seval]<;>rfl
   ·simp (disch:=first|assumption|omega) only[go_sem,seval]
   ·simp (disch:=first|assumption|omega) only[go_sem,seval]
   ·intro hv t' g1 g2
    simp (disch:=first|assumption|omega) only[go_sem,seval,g1,g2]
    exact hK _ _ ⟨by rw[hN,hv],rfl⟩
   ·intro n t' hv g1
    simp (disch:=first|assumption|omega) only[go_sem,seval,g1]
    exact hK _ _ ⟨by rw[hN,hv],rfl⟩
 ·have hN:ke s=eO s 0:=by unfold ke;rw[Q4 (fun q=>h1 q.1)]
  simp (disch:=first|assumption|omega) only[go_sem,seval,ab]
  refine uj m hs hd ?_ ?_ ?_ ?_ ?_ ?_
  ·simp (disch:=first|assumption|omega) only[go_sem,seval]
  ·simp (disch:=first|assumption|omega) only[go_sem,seval]<;>rfl
  ·simp (disch:=first|assumption|omega) only[go_sem,seval]
  ·simp (disch:=first|assumption|omega) only[go_sem,seval]
  ·intro hv t' g1 g2
   simp (disch:=first|assumption|omega) only[go_sem,seval,g1,g2]
   exact hK _ _ ⟨by rw[hN,hv],rfl⟩
  ·intro n t' hv g1
   simp (disch:=first|assumption|omega) only[go_sem,seval,g1]
   exact hK _ _ ⟨by rw[hN,hv],rfl⟩
theorem BI {s:List Nat} {a c:Nat} (hb:s[a]? =some c) (hL:jd c=true) (hw:cut s a (aA bT s a)∉cA):mN (cut s a (aA bT s a))=decide ((cut s a (aA bT s a)).length<=16):=by
 have hI:bT c=true:=by unfold bT;rw[hL];rfl
 have hall:(cut s a (aA bT s a)).all bT=true:=by rw[List.all_eq_true];exact jX bT s a
 obtain ⟨l,hl⟩:=xK (p:=bT) hb hI
 unfold mN
 rw[Q6 hw,hall,hl]
 simp[hL]
theorem Ia {p q:Nat->Bool} (hpq:∀c,q c=true->p c=true) (s:List Nat):∀(k a:Nat),k=s.length - a->aA p s a=aA p s (aA q s a):=by
 intro k
 induction k with
 |zero=>intro a hk;rw[fZ (p:=q) (by omega)]
 |succ k ih=>
  intro a hk
  have ha:a<s.length:=by omega
  cases hp:q s[a] with
  |true=>rw[cH (p:=q) ha hp,cH (p:=p) ha (hpq _ hp)];exact ih (a+1) (by omega)
  |false=>rw[gE (p:=q) ha hp]
theorem Hs (m:NH) {s:List Nat} (hs:s.length<=1000000) (h256:∀c∈s,c<256) {a:Nat} (ha:a<s.length):
 ∃v m',a6 Tryz.prog S0 65 [.str s,ii a] m v m'/\(∃(k0:Int) (t0:List Nat) (n0 z:Int),v= .tup [.agg [ii k0,.str t0,.int .u64 (.lit n0),ii a],ii z,.bool (b8 s a).isSome]/\∀k t n e,b8 s a=some (k,t,n,e)->k0=k/\t0=t/\n0=n/\z=(e:Int) - a)/\Chg [] m m':=by
 refine WF.ex fun K hK=> ?_
 refine WF.of_wpG (fun _=>rfl) zR (L:= [(.a .e,ii a),(.e,.str s)]) rfl ?_
 unfold KL
 have hb:s[a]? =some s[a]:=List.getElem?_eq_getElem ha
 generalize hc:s[a]=c at hb
 have hd:∀m,a6 Tryz.prog S0 88 [u8 c] m (.bool (cu c)) m:=fun m=>ry m c
 have hl:∀m,a6 Tryz.prog S0 83 [u8 c] m (.bool (jd c)) m:=fun m=>pI m c
 cases hL:jd c with
 |true=>
  rw[hL] at hl
  have hr:∀m,a6 Tryz.prog S0 80 [.str s,ii a,.fn 84 []] m (ii ((aA bT s a:Nat):Int)) m:=fun m=>tN lG m hs (Nat.le_of_lt ha)
  have ha':a<=aA bT s a:=by unfold aA;omega
  have hz':aA bT s a<=s.length:=eh (Nat.le_of_lt ha)
  simp (disch:=first|assumption|omega|(simp only[ay]<;>omega)) only[go_sem,seval,hb,(hl _).wf',(hr _).wf']
  generalize hM:hp _ 2 m=M
  have hCM:Chg [] m M:=by rw[←hM];exact aH rfl
  have o0:aw M (na m 0):=by rw[←hM];exact ai (by omega)
  have o1:aw M (na m 1):=by rw[←hM];exact ai (by omega)
  have q0:M.get (na m 0)=some (.cells true [.int .i64 (.lit 0),.str [],.int .u64 (.lit 0),.int .i64 (.lit 0)]):=by rw[←hM];simp (disch:=first|assumption|omega|(simp only[ay]<;>omega)) only[go_sem,seval]
  have q1:M.get (na m 1)=some (.cells true [.int .i64 (.lit 1),.str (cut s a (aA bT s a)),.int .u64 (.lit 0),ii a]):=by rw[←hM];simp (disch:=first|assumption|omega|(simp only[ay]<;>omega)) only[go_sem,seval]<;>rfl
  obtain ⟨w,m1,hw,how,hC1⟩:=vA M
  have p0:=(hC1.get o0 (by simp)).trans q0
  have p1:=(hC1.get o1 (by simp)).trans q1
  have ne01:na m 0≠na m 1:=fun h=>Q3 (nZ h) (by omega)
  have ne10:na m 1≠na m 0:=fun h=>Q3 (nZ h) (by omega)
  have O0:=hC1.old o0
  have O1:=hC1.old o1
  have hlc:(cut s a (aA bT s a)).length<=1000000:=by unfold cut;rw[List.length_drop,List.length_take];omega
  have hct:∀t,a6 Tryz.prog S0 85 [w,.str t] m1 (.bool (decide (t∈cA))) m1:=fun t=>pY how.sl (by decide) t
  have hct:=hct (cut s a (aA bT s a))
  have e1:List.drop a (List.take (aA bT s a) s)=cut s a (aA bT s a):=rfl
  by_cases hwd:cut s a (aA bT s a)∈cA
  ·rw[Q7 hwd] at hct
   have T:b8 s a=some (4,cut s a (aA bT s a),0,aA bT s a):=by unfold b8;rw[hb];simp[hL,hwd]
   simp (disch:=first|assumption|omega|(simp only[ay]<;>omega)) only[go_sem,seval,e1,hw.wf',hct.wf,p0,p1,q0,q1,eZ]
   refine hK _ _ ⟨⟨_,_,_,_,by rw[T];rfl, ?_⟩, ?_⟩
   ·intro k t n e he
    rw[T] at he;cases he
    exact ⟨rfl,rfl,rfl,rfl⟩
   ·refine hCM.trans ((hC1.weak (T:= [na m 1,na m 0]) (by simp)).trans (aH rfl) (by simp[aF])) ?_
    simp[aD]
  ·rw[Q6 hwd] at hct
   obtain ⟨nv,m2,hn,rfl,hC2⟩:=LS (hp [] 0 m1) hlc
   have hC2':Chg [] m1 m2:=by rw[ab] at hC2;exact hC2
   have r0:=(hC2'.get O0 (by simp)).trans p0
   have r1:=(hC2'.get O1 (by simp)).trans p1
   have P0:=hC2'.old O0
   have P1:=hC2'.old O1
   simp (disch:=first|assumption|omega|(simp only[ay]<;>omega)) only[go_sem,seval,e1,hw.wf',hct.wf,hn.wf,p0,p1,q0,q1,r0,r1,eZ]
   have hnb:=BI hb hL hwd
   have T:b8 s a=if (cut s a (aA bT s a)).length<=16 then some (1,cut s a (aA bT s a),0,aA bT s a) else none:=by unfold b8;rw[hb];simp[hL,hwd]
   have E:(b8 s a).isSome=mN (cut s a (aA bT s a)):=by rw[T,hnb];by_cases h16:(cut s a (aA bT s a)).length<=16<;>simp[h16]
   refine hK _ _ ⟨⟨_,_,_,_,by rw[E], ?_⟩, ?_⟩
   ·intro k t n e he
    rw[T] at he
    split at he
    ·cases he;exact ⟨rfl,rfl,rfl,rfl⟩
    ·cases he
   ·refine hCM.trans ((hC1.weak (T:= [na m 0]) (by simp)).trans ((hC2'.weak (T:= [na m 0]) (by simp)).trans (aH rfl) (by simp[aF])) (by simp)) ?_
    simp[aD]
 |false=>
  rw[hL] at hl
  cases hD:cu c with
  |true=>
   rw[hD] at hd
   have hr:∀m,a6 Tryz.prog S0 80 [.str s,ii a,.fn 88 []] m (ii ((aA cu s a:Nat):Int)) m:=fun m=>tN ry m hs (Nat.le_of_lt ha)
   have hi:=@lG
   have ha':a<=aA cu s a:=by unfold aA;omega
   have hz':aA cu s a<=s.length:=eh (Nat.le_of_lt ha)
   have e1:List.drop a (List.take (aA cu s a) s)=cut s a (aA cu s a):=rfl
   have hlc:(cut s a (aA cu s a)).length<=1000000:=by unfold cut;rw[List.length_drop,List.length_take];omega
   have hnum:∀m,∃v,a6 Tryz.prog S0 89 [.str (cut s a (aA cu s a))] m v m/\v=(match ke (cut s a (aA cu s a)) with|some n=> .tup [u64 n,.bool true]|none=> .tup [u64 0,.bool false]):=fun m=>by
    obtain ⟨v,m',h,hv,rfl⟩:=Dl m hlc (jX cu s a)
    exact ⟨v,h,hv⟩
   have hrr:=Ia nL s _ a rfl
   cases hn:ke (cut s a (aA cu s a)) with
   |none=>
    rw[hn] at hnum
    have hnum:∀m,a6 Tryz.prog S0 89 [.str (cut s a (aA cu s a))] m (.tup [u64 0,.bool false]) m:=fun m=>by
     obtain ⟨v,h,rfl⟩:=hnum m;exact h
    have T:b8 s a=none:=by unfold b8;rw[hb];simp[hL,hD,hn]
    simp (disch:=first|assumption|omega|(simp only[ay]<;>omega)) only[go_sem,seval,hb,e1,(hl _).wf',(hd _).wf',(hr _).wf',(hnum _).wf',eZ]
    refine hK _ _ ⟨⟨_,_,_,_,by rw[T];rfl, ?_⟩, ?_⟩
    ·intro k t n e he;rw[T] at he;cases he
    ·exact aH rfl
   |some n=>
    rw[hn] at hnum
    have hnum:∀m,a6 Tryz.prog S0 89 [.str (cut s a (aA cu s a))] m (.tup [u64 n,.bool true]) m:=fun m=>by
     obtain ⟨v,h,rfl⟩:=hnum m;exact h
    by_cases he:aA cu s a=s.length
    ·have T:b8 s a=some (2, [],n,aA cu s a):=by unfold b8;rw[hb];simp only[hL,hD,hn];rw[hrr,fZ (p:=bT) (by omega)];simp
     simp (disch:=first|assumption|omega|(simp only[ay]<;>omega)) only[go_sem,seval,hb,e1,(hl _).wf',(hd _).wf',(hr _).wf',(hnum _).wf',eZ]
     refine hK _ _ ⟨⟨_,_,_,_,by rw[T];rfl, ?_⟩, ?_⟩
     ·intro k t n e he';rw[T] at he';cases he'
      exact ⟨rfl,rfl,rfl,rfl⟩
     ·exact aH rfl
    ·have hlt:aA cu s a<s.length:=by omega
     have hbe:s[aA cu s a]? =some s[aA cu s a]:=List.getElem?_eq_getElem hlt
     have hin:∀m,a6 Tryz.prog S0 84 [u8 s[aA cu s a]] m (.bool (bT s[aA cu s a])) m:=fun m=>lG m _
     cases hI:bT s[aA cu s a] with
     |true=>
      rw[hI] at hin
      have hne:aA bT s a≠aA cu s a:=by
       rw[hrr,cH (p:=bT) hlt hI]
       have:=@eT bT s (aA cu s a+1)
       omega
      have T:b8 s a=none:=by
       unfold b8;rw[hb];simp[hL,hD,hn,hne]
      simp (disch:=first|assumption|omega|(simp only[ay]<;>omega)) only[go_sem,seval,hb,hbe,e1,(hl _).wf',(hd _).wf',(hr _).wf',(hnum _).wf',(hin _).wf',eZ,he]
      refine hK _ _ ⟨⟨_,_,_,_,by rw[T];rfl, ?_⟩, ?_⟩
      ·intro k t n e he';rw[T] at he';cases he'
      ·exact aH rfl
     |false=>
      rw[hI] at hin
      have T:b8 s a=some (2, [],n,aA cu s a):=by unfold b8;rw[hb];simp only[hL,hD,hn];rw[hrr,gE (p:=bT) hlt hI];simp
      simp (disch:=first|assumption|omega|(simp only[ay]<;>omega)) only[go_sem,seval,hb,hbe,e1,(hl _).wf',(hd _).wf',(hr _).wf',(hnum _).wf',(hin _).wf',eZ,he]
      refine hK _ _ ⟨⟨_,_,_,_,by rw[T];rfl, ?_⟩, ?_⟩
      ·intro k t n e he';rw[T] at he';cases he'
       exact ⟨rfl,rfl,rfl,rfl⟩
      ·exact aH rfl
  |false=>
   rw[hD] at hd
   have e1:List.drop a (List.take ((a:Int)+1).toNat s)= [c]:=by
    rw[show ((a:Int)+1).toNat=a+1 by omega,List.take_add_one,hb]
    simp only[Option.toList_some]
    rw[List.drop_append_of_le_length (by rw[List.length_take];omega),List.drop_take_self];rfl
   have h5:c<256:=h256 c (by rw[←hc];exact List.getElem_mem _)
   have hh:∀m,a6 Tryz.prog S0 90 [.str ch,.str [c]] m (.bool (decide (c∈ch))) m:=fun m=>Fu m ch (by decide) h5
   have hsl: [123,125,40,41,91,93,59,43,45,42,38,61,60]=ch:=rfl
   have T:b8 s a=if c∈ch then some (3, [c],0,a+1) else none:=by unfold b8;rw[hb];simp[hL,hD]
   have E:(b8 s a).isSome=decide (c∈ch):=by rw[T];by_cases h:c∈ch<;>simp[h]
   simp (disch:=first|assumption|omega|(simp only[ay]<;>omega)) only[go_sem,seval,hb,e1,(hl _).wf',(hd _).wf',hsl,(hh _).wf',eZ]
   refine hK _ _ ⟨⟨_,_,_,_,by rw[E], ?_⟩, ?_⟩
   ·intro k t n e he
    rw[T] at he
    split at he
    ·cases he;exact ⟨rfl,rfl,rfl,by omega⟩
    ·cases he
   ·exact aH rfl
def Ap (s:List Nat) (o:Option Nat):Nat:=match o with|some a=>a|none=>s.length
theorem HB {m:NH} {s:List Nat} (hs:s.length<=1000000) (h256:∀c∈s,c<256) {q bs bw bx wh wr:D4} {w1 w2 w3:Bool} {z0:NV} {T:List D4}
 (hbs:m.get bs=some (.cells w1 [.str s])) (hbw:m.get bw=some (.cells w2 [.ptr wh 0])) (hbx:m.get bx=some (.cells w3 [.ptr wr 0]))
 (hwh:m.get wh=some (.cells true [z0])) (hwr:m.get wr=some (.cells true [.bool false]))
 (obs:aw m bs) (obw:aw m bw) (obx:aw m bx) (owh:aw m wh) (owr:aw m wr)
 (nbs:bs∉wh::wr::T) (nbw:bw∉wh::wr::T) (nbx:bx∉wh::wr::T) (nwr:wr∉wh::T) (nwh:wh∉wr::T)
 (I:List Tok->NH->Prop) (hI0:I [] m) (hI:∀L M M',I L M->Chg (wh::wr::T) m M->Chg [wh,wr] M M'->I L M')
 (hY:∀L (x:Tok) M,L.length<=s.length+1->Chg (wh::wr::T) m M->I L M->∃M',qi Tryz.prog S0 q [.agg x.l] M (.bool true) M'/\Chg (wh::wr::T) m M'/\M'.get wh=M.get wh/\M'.get wr=M.get wr/\I (L++ [x]) M'):
 ∃v m',a6 Tryz.prog S0 63 [.yld q,.ptr bs 0,.ptr bw 0,.ptr bx 0] m v m'/\Chg (wh::wr::T) m m'/\I (bn s).1 m'/\m'.get wh=some (.cells true [ii (Ap s (bn s).2)])/\m'.get wr=some (.cells true [.bool (bn s).2.isSome]):=by
 refine WF.ex fun K hK=> ?_
 refine WF.of_wpG (fun _=>rfl) Ah (L:= [(.c .e,.ptr bx 0),(.b .e,.ptr bw 0),(.a .e,.ptr bs 0),(.e,.yld q)]) rfl ?_
 unfold JM
 have hsk:∀m,∀a,a<=s.length->a6 Tryz.prog S0 64 [.str s,ii a] m (ii ((bc s a:Nat):Int)) m:=fun m a ha=>LD m hs ha
 have hs0:∀m,a6 Tryz.prog S0 64 [.str s,ii 0] m (ii ((bc s 0:Nat):Int)) m:=fun m=>hsk m 0 (by omega)
 rw[ab]
 simp (disch:=first|assumption|omega) only[go_sem,seval,hbs,(hs0 _).wf']
 have hsk0:bc s 0<=s.length:=g9 (Nat.zero_le _)
 refine W.loop (fun k d=>∃t M i L,d=⟨t, [],none,M⟩/\NT.get D4.e t=some (.yld q)/\NT.get D4.e.a t=some (.ptr bs 0)/\NT.get D4.e.b t=some (.ptr bw 0)/\NT.get D4.e.c t=some (.ptr bx 0)/\NT.get D4.e.a.a t=some (ii (i:Nat))/\i<=s.length/\s.length<=i+k/\Chg (wh::wr::T) m M/\I L M/\M.get wr=some (.cells true [.bool false])/\(∃z,M.get wh=some (.cells true [z]))/\bn s=(L++(bR s (k+1) i).1,(bR s (k+1) i).2)) ?_ s.length _
  ⟨_,m,bc s 0, [],rfl,by simp only[go_sem,seval],by simp only[go_sem,seval],by simp only[go_sem,seval],by simp only[go_sem,seval],by simp only[go_sem,seval],hsk0,by omega,(Chg.refl m).weak (by simp),hI0,hwr,⟨_,hwh⟩,rfl⟩
 rintro k d ⟨t,M,i,L,rfl,g1,g2,g3,g4,g5,hi,hik,hC,hL,mr,⟨z,mh⟩,hT⟩
 apply aM
 unfold yY
 change wp _ _ _ _ ⟨am [] t, [],none,M⟩ _
 rw[←ab M]
 have Obs:=hC.old obs
 have Obw:=hC.old obw
 have Obx:=hC.old obx
 have Owh:=hC.old owh
 have Owr:=hC.old owr
 have Gbs:=(hC.get obs nbs).trans hbs
 have Gbw:=(hC.get obw nbw).trans hbw
 have Gbx:=(hC.get obx nbx).trans hbx
 simp only[Q9,not_or] at nbs nbw nbx nwr nwh
 obtain ⟨n1,n2,n3⟩:=nbs
 obtain ⟨n4,n5,n6⟩:=nbw
 obtain ⟨n7,n8,n9⟩:=nbx
 obtain ⟨n10,n11⟩:=nwr
 obtain ⟨n12,n13⟩:=nwh
 have hLl:L.length<=s.length+1:=by
  have h:=jW s (s.length+1) (bc s 0)
  have h2:(bn s).1.length=_:=congrArg (fun x=>x.1.length) hT
  rw[List.length_append] at h2
  have h3:(bn s).1.length<=s.length+1:=h
  omega
 by_cases hlt:i<s.length
 ·obtain ⟨k,rfl⟩:∃k',k=k'+1:=⟨k - 1,by omega⟩
  have hTs:bR s (k+1+1) i=(match b8 s i with
   |none=>([],some i)
   |some (kd,t,n,e)=>(⟨kd,t,n,i⟩::(bR s (k+1) (bc s e)).1,(bR s (k+1) (bc s e)).2)):=by
   rw[bR,Q5 hlt];cases b8 s i<;>rfl
  obtain ⟨v,M2,hr,⟨k0,t0,n0,zz,rfl,htk⟩,hC2⟩:=Hs (hp [(.o wh,.cells true [ii i])] 0 M) hs h256 hlt
  have hM1:Chg [wh] M (hp [(.o wh,.cells true [ii i])] 0 M):=aH rfl
  have gwh:(hp [(AK.o wh,NO.cells true [ii i])] 0 M).get wh=some (.cells true [ii i]):=(bF Owh).trans a7
  have bs2:=(hC2.get (hM1.old Obs) (by simp)).trans ((hM1.get Obs (by simpa using n1)).trans Gbs)
  have bw2:=(hC2.get (hM1.old Obw) (by simp)).trans ((hM1.get Obw (by simpa using n4)).trans Gbw)
  have bx2:=(hC2.get (hM1.old Obx) (by simp)).trans ((hM1.get Obx (by simpa using n7)).trans Gbx)
  have wr2:=(hC2.get (hM1.old Owr) (by simp)).trans ((hM1.get Owr (by simpa using n10)).trans mr)
  have wh2:=(hC2.get (hM1.old Owh) (by simp)).trans gwh
  have obs2:=hC2.old (hM1.old Obs)
  have obw2:=hC2.old (hM1.old Obw)
  have obx2:=hC2.old (hM1.old Obx)
  have owr2:=hC2.old (hM1.old Owr)
  have owh2:=hC2.old (hM1.old Owh)
  have hC3:Chg [wh,wr] M M2:=(hM1.weak (T:= [wh,wr]) (by simp)).trans (hC2.weak (T:= [wh,wr]) (by simp)) fun _ h _=>h
  cases hk:b8 s i with
  |none=>
   rw[hk] at hr
   have hr:a6 Tryz.prog S0 65 [.str s,ii i] (hp [(.o wh,.cells true [ii i])] 0 M) (.tup [.agg [ii k0,.str t0,.int .u64 (.lit n0),ii i],ii zz,.bool false]) M2:=hr
   simp (disch:=first|assumption|omega|(simp only[ay]<;>omega)) only[go_sem,seval,g1,g2,g3,g4,g5,Gbs,Gbw,Gbx,mh,hr.wf,bs2,bw2,bx2,wr2,wh2]
   rw[hTs,hk] at hT
   generalize hMF:hp _ 1 M2=MF
   have hF:Chg [wh,wr] M MF:=hC3.trans (T:= [wr]) (by rw[←hMF];exact aH rfl) (by simp)
   refine hK _ _ ⟨hC.trans hF (by simp), ?_, ?_, ?_⟩
   ·rw[hT];show I (L++ []) _;rw[List.append_nil];exact hI _ _ _ hL hC hF
   ·rw[hT,←hMF];simp (disch:=first|assumption|omega) only[go_sem,seval,wh2]<;>rfl
   ·rw[hT,←hMF];simp (disch:=first|assumption|omega) only[go_sem,seval,wr2]<;>rfl
  |some x=>
   obtain ⟨kd,tx,n,e⟩:=x
   rw[hk] at hr
   obtain ⟨e0,e1,e2,e3⟩:=htk kd tx n e hk
   rw[e0,e1,e2,e3] at hr
   have hr:a6 Tryz.prog S0 65 [.str s,ii i] (hp [(.o wh,.cells true [ii i])] 0 M) (.tup [.agg [ii kd,.str tx,.int .u64 (.lit (n:Int)),ii i],ii ((e:Int) - i),.bool true]) M2:=hr
   simp (disch:=first|assumption|omega|(simp only[ay]<;>omega)) only[go_sem,seval,g1,g2,g3,g4,g5,Gbs,Gbw,Gbx,mh,hr.wf,bs2,bw2,bx2,wr2,wh2]
   generalize hM3:hp _ 1 M2=M3
   have hC4:Chg [] M2 M3:=by rw[←hM3];exact aH rfl
   have hC5:Chg [wh,wr] M M3:=hC3.trans hC4 (by simp)
   obtain ⟨M4,hy,hC6,yh,yr,hI6⟩:=hY L ⟨kd,tx,n,i⟩ M3 hLl (hC.trans hC5 (by simp)) (hI _ _ _ hL hC hC5)
   have hy:qi Tryz.prog S0 q [.agg [ii kd,.str tx,.int .u64 (.lit (n:Int)),ii i]] M3 (.bool true) M4:=hy
   have bs4:=(hC6.get obs (by simp only[Q9,not_or];exact ⟨n1,n2,n3⟩)).trans hbs
   have obs4:=hC6.old obs
   obtain ⟨l1,l2⟩:=wE hk
   have e4:(i:Int)+((e:Int) - i)=e:=by omega
   simp (disch:=first|assumption|omega|(simp only[ay]<;>omega)) only[go_sem,seval,hy.wy,g1,g2,g3,g4,g5,bs4,e4,(hsk _ e l2).wf']
   have wh4:=yh.trans ((hC4.get owh2 (by simp)).trans wh2)
   have wr4:=yr.trans ((hC4.get owr2 (by simp)).trans wr2)
   have hge:e<=bc s e:=oU
   refine ⟨k,by omega,_,M4,bc s e,L++ [⟨kd,tx,n,i⟩],by rw[ab], ?_, ?_, ?_, ?_, ?_,g9 l2,by omega, ?_,hI6,wr4,⟨_,wh4⟩, ?_⟩
   ·simp (disch:=first|assumption|omega) only[go_sem,seval,g1]
   ·simp (disch:=first|assumption|omega) only[go_sem,seval,g2]
   ·simp (disch:=first|assumption|omega) only[go_sem,seval,g3]
   ·simp (disch:=first|assumption|omega) only[go_sem,seval,g4]
   ·simp (disch:=first|assumption|omega) only[go_sem,seval]
   ·exact hC6
   ·rw[hT,hTs,hk];simp
 ·have hTs:bR s (k+1) i=([⟨5, [],0,s.length⟩],none):=by rw[bR,Q4 hlt]
  rw[hTs] at hT
  simp (disch:=first|assumption|omega|(simp only[ay]<;>omega)) only[go_sem,seval,g1,g2,g3,g4,g5,Gbs,Gbw,Gbx,mh]
  generalize hM3:hp _ 0 M=M3
  have hF:Chg [wh,wr] M M3:=by rw[←hM3];exact (aH rfl).weak (by simp[aF])
  have wh3:M3.get wh=some (.cells true [ii s.length]):=by rw[←hM3];simp (config:={maxSteps:=1000000}) (disch:=first|assumption|omega|(apply ai;omega)|(apply ae;assumption)|(simp only[ay]<;>omega)) only[go_sem,seval]
  have wr3:M3.get wr=some (.cells true [.bool false]):=by rw[←hM3];simp (disch:=first|assumption|omega|(simp only[ay]<;>omega)) only[go_sem,seval,mr]
  obtain ⟨M4,hy,hC6,yh,yr,hI6⟩:=hY L ⟨5, [],0,s.length⟩ M3 hLl (hC.trans hF (by simp)) (hI _ _ _ hL hC hF)
  have hy:qi Tryz.prog S0 q [.agg [.int .i64 (.lit 5),.str [],.int .u64 (.lit 0),ii s.length]] M3 (.bool true) M4:=hy
  simp (config:={maxSteps:=1000000}) (disch:=first|assumption|omega|(apply ai;omega)|(apply ae;assumption)|(simp only[ay]<;>omega)) only[go_sem,seval,hy.wy]
  rw[ab]
  refine hK _ _ ⟨hC6, ?_, ?_, ?_⟩
  ·rw[hT];exact hI6
  ·rw[hT];exact yh.trans wh3
  ·rw[hT];exact yr.trans wr3
theorem xq {m M:NH} {q o:D4} {t:Tm} {u:NV} {L:List Tok} (x:Tok) (h1:NT.get D4.e.a.c t=some (.ptr o 0)) (hq:M.get q=some (.loop 0 .none t [D4.e.c.c] cW dn)) (ho:M.get o=some (.cells true [u]))
 (hu:dq m M u 4 (L.map Tok.l)) (hoq:o≠q) (hqo:aw M q) (hoo:aw M o) (hqm:aw m q) (hom:aw m o) (hmM:∀i,aw m i->aw M i) (hl:L.length<=1000000):
 ∃w M',qi Tryz.prog S0 q [.agg x.l] M w M'/\w= .bool true/\Chg (q::o::ids u) M M'/\M'.get q=some (.loop 0 .none t [D4.e.c.c] cW dn)/\∃u',M'.get o=some (.cells true [u'])/\dq m M' u' 4 ((L++ [x]).map Tok.l):=by
 refine WY.ex fun K hK=> ?_
 refine WY.of_wp hq rfl cW.eq_1 dn.eq_1 ?_
 change wp _ _ _ _ ⟨am [(D4.e.c.c,.agg [ii x.k,.str x.t,u64 x.n,ii x.p])] t, [],none,hp [] 0 M⟩ _
 simp (disch:=first|assumption|omega|(simp only[ay]<;>omega)) only[go_sem,seval,h1,hq,ho]
 have hnq:q∉ids u:=fun hi=>hu.new _ hi hqm
 have hno:o∉ids u:=fun hi=>hu.new _ hi hom
 generalize hM1:hp _ 2 M=M1
 have hC1:Chg [q] M M1:=by rw[←hM1];exact aH rfl
 have hn1:M1.get (na M 1)=some (.cells true x.l):=by rw[←hM1];exact cI
 have on1:aw M1 (na M 1):=by rw[←hM1];exact ai (by omega)
 have hq1:M1.get q=some (.loop 1 .none t [D4.e.c.c] cW dn):=by rw[←hM1];exact (bF hqo).trans a7
 have ho1:=(hC1.get hoo (by simpa using hoq)).trans ho
 refine pM (hu.chg hC1 (fun i hi=>by simp;rintro rfl;exact hnq hi)) hn1 on1 rfl (fun i hi=>hC1.old (hmM i hi)) (by simp;omega) (by simp;omega) ?_
 intro u' M2 hu' hC2
 have hq2:=(hC2.get (hC1.old hqo) hnq).trans hq1
 have ho2:=(hC2.get (hC1.old hoo) hno).trans ho1
 have oq:=hC2.old (hC1.old hqo)
 have oo:=hC2.old (hC1.old hoo)
 have hqo':q≠o:=fun e=>hoq e.symm
 simp (disch:=first|assumption|omega|(simp only[ay]<;>omega)) only[go_sem,seval,h1,hq2,ho2,hu'.sl.one]
 have hC3:Chg [q,o] M2 (hp [(.o q,.loop 0 .none t [D4.e.c.c] cW dn),(.o o,.cells true [u'])] 0 M2):=aH rfl
 have nq':q∉ids u':=fun hi=>hu'.new _ hi hqm
 have no':o∉ids u':=fun hi=>hu'.new _ hi hom
 refine hK _ _ ⟨rfl,((hC1.weak (by simp)).trans hC2 ?_).trans hC3 ?_,(bF oq).trans a7,u',(bF oo).trans ((fU hoq).trans a7), ?_⟩
 ·intro i hi _;exact List.mem_cons_of_mem _ (List.mem_cons_of_mem _ hi)
 ·intro i hi _;simp at hi ⊢;rcases hi with rfl|rfl<;>simp
 ·rw[show (L++ [x]).map Tok.l=L.map Tok.l++ [x.l] by simp]
  refine hu'.chg hC3 fun i hi=> ?_
  simp
  exact ⟨fun e=>nq' (e▸hi),fun e=>no' (e▸hi)⟩
theorem yH {m M:NH} {s:List Nat} (hs:s.length<=16384) (h256:∀c∈s,c<256) {t:Tm} {dfs:List Dfr} {o bs bw bx wh wr:D4} {w1 w2 w3:Bool} {z0:NV}
 (h1:NT.get D4.e.a.c t=some (.ptr o 0)) (h2:NT.get D4.e.c.b t=some (.fn 63 [.ptr bs 0,.ptr bw 0,.ptr bx 0])) (ho:M.get o=some (.cells true [.nils])) (hoo:aw M o)
 (hbs:M.get bs=some (.cells w1 [.str s])) (hbw:M.get bw=some (.cells w2 [.ptr wh 0])) (hbx:M.get bx=some (.cells w3 [.ptr wr 0]))
 (hwh:M.get wh=some (.cells true [z0])) (hwr:M.get wr=some (.cells true [.bool false]))
 (obs:aw M bs) (obw:aw M bw) (obx:aw M bx) (owh:aw M wh) (owr:aw M wr)
 (nbs:bs∉ [wh,wr,o]) (nbw:bw∉ [wh,wr,o]) (nbx:bx∉ [wh,wr,o]) (nwr:wr∉ [wh,o]) (nwh:wh∉ [wr,o])
 (hmM:∀i,aw m i->aw M i)
 {Q:Out->Dyn->Prop} (hQ:∀M' u,dq m M' u 4 ((bn s).1.map Tok.l)->M'.get o=some (.cells true [u])->M'.get wh=some (.cells true [ii (Ap s (bn s).2)])->M'.get wr=some (.cells true [.bool (bn s).2.isSome])->
  M'.get (na M 0)=some (.defd true)->aw M' (na M 0)->Chg [o,wh,wr] M M'->(∀i∈ids u,i≠na M 0)->Q .norm ⟨t,.mark (na M 0)::dfs,none,hp [] 0 M'⟩):
 W Tryz.prog S0 none (.rangeFunc (.tmp D4.e.c.b) [D4.e.c.c] cW dn) ⟨t,dfs,none,M⟩ Q:=by
 have key:∀M1,M1=hp [(.n 1,.loop 0 .none t [D4.e.c.c] cW dn),(.n 0,.defd true)] 2 M->W Tryz.prog S0 none (.rangeFunc (.tmp D4.e.c.b) [D4.e.c.c] cW dn) ⟨t,dfs,none,M⟩ Q:=by
  intro M1 hM1
  have hG:Chg [] M M1:=by rw[hM1];exact aH rfl
  have oq:aw M1 (na M 1):=by rw[hM1];exact ai (by omega)
  have om:aw M1 (na M 0):=by rw[hM1];exact ai (by omega)
  have gq:M1.get (na M 1)=some (.loop 0 .none t [D4.e.c.c] cW dn):=by rw[hM1];exact cI
  have gm:M1.get (na M 0)=some (.defd true):=by rw[hM1];exact cI
  have g:∀{id x},aw M id->M.get id=some x->M1.get id=some x:=fun h q=>(hG.get h (by simp)).trans q
  simp only[Q9,Q8,or_false,not_or] at nbs nbw nbx nwr nwh
  have hqw:∀{id},aw M id->id≠na M 1:=fun h=>h.ne 1
  have hqw':∀{id},aw M id->na M 1≠id:=fun h e=>h.ne 1 e.symm
  obtain ⟨v,m',hr,hC,⟨hq,u,hou,hown⟩,hwh',hwr'⟩:=HB (m:=M1) (q:=na M 1) (T:= [o,na M 1]) (by omega) h256 (g obs hbs) (g obw hbw) (g obx hbx) (g owh hwh) (g owr hwr) (hG.old obs) (hG.old obw) (hG.old obx) (hG.old owh) (hG.old owr)
   (by simp only[Q9,Q8,or_false,not_or];exact ⟨nbs.1,nbs.2.1,nbs.2.2,hqw obs⟩)
   (by simp only[Q9,Q8,or_false,not_or];exact ⟨nbw.1,nbw.2.1,nbw.2.2,hqw obw⟩)
   (by simp only[Q9,Q8,or_false,not_or];exact ⟨nbx.1,nbx.2.1,nbx.2.2,hqw obx⟩)
   (by simp only[Q9,Q8,or_false,not_or];exact ⟨nwr.1,nwr.2,hqw owr⟩)
   (by simp only[Q9,Q8,or_false,not_or];exact ⟨nwh.1,nwh.2,hqw owh⟩)
   (fun L N=>N.get (na M 1)=some (.loop 0 .none t [D4.e.c.c] cW dn)/\∃u,N.get o=some (.cells true [u])/\dq M1 N u 4 (L.map Tok.l))
   ⟨gq,.nils,g hoo ho,dq.nil⟩
   (by
    rintro L N N' ⟨hq,u,hou,hown⟩ hC hC'
    refine ⟨(hC'.get (hC.old oq) ?_).trans hq,u,(hC'.get (hC.old (hG.old hoo)) ?_).trans hou,hown.chg hC' ?_⟩
    ·simp only[Q9,Q8,or_false,not_or];exact ⟨hqw' owh,hqw' owr⟩
    ·simp only[Q9,Q8,or_false,not_or];exact ⟨fun e=>nwh.2 e.symm,fun e=>nwr.2 e.symm⟩
    ·intro j hj
     simp only[Q9,Q8,or_false,not_or]
     exact ⟨fun e=>hown.new j hj (e▸hG.old owh),fun e=>hown.new j hj (e▸hG.old owr)⟩)
   (by
    rintro L x N hL hC ⟨hq,u,hou,hown⟩
    obtain ⟨w,M',h3,rfl,h4,h5,u',h6,h7⟩:=xq x h1 hq hou hown (hqw hoo) (hC.old oq) (hC.old (hG.old hoo)) oq (hG.old hoo) (fun i hi=>hC.old hi) (by omega)
    refine ⟨M',h3,hC.trans h4 ?_, ?_, ?_,h5,u',h6,h7⟩
    ·intro i hi hio
     simp only[Q9,Q8,or_false] at hi ⊢
     rcases hi with rfl|rfl|hi
     ·simp
     ·simp
     ·exact Q3 hio (hown.new i hi)
    ·refine h4.get (hC.old (hG.old owh)) ?_
     simp only[Q9,not_or];exact ⟨hqw owh,nwh.2,fun hi=>hown.new _ hi (hG.old owh)⟩
    ·refine h4.get (hC.old (hG.old owr)) ?_
     simp only[Q9,not_or];exact ⟨hqw owr,nwr.2,fun hi=>hown.new _ hi (hG.old owr)⟩)
  have hnm:na M 0∉wh::wr:: [o,na M 1]:=by
   simp only[Q9,Q8,or_false,not_or]
   exact ⟨fun e=>owh.ne 0 e.symm,fun e=>owr.ne 0 e.symm,fun e=>hoo.ne 0 e.symm,fun e=>by have:=nZ e;omega⟩
  refine W.rangeN h2 (hM1▸hr) hq ?_ (hC.old oq)
  have hC2:Chg [na M 1] m' (hp [(AK.o (na M 1),NO.loop 3 Jump.none t [D4.e.c.c] cW dn)] 0 m'):=aH rfl
  rw[←ab (hp [(AK.o (na M 1),NO.loop 3 Jump.none t [D4.e.c.c] cW dn)] 0 m')]
  have g2:∀{id x},aw M id->m'.get id=some x->(hp [(AK.o (na M 1),NO.loop 3 Jump.none t [D4.e.c.c] cW dn)] 0 m').get id=some x:=fun h q=>(hC2.get (hC.old (hG.old h)) (by simpa using hqw h)).trans q
  refine hQ _ u ?_ (g2 hoo hou) (g2 owh hwh') (g2 owr hwr') ((hC2.get (hC.old om) (by simp[iT])).trans ((hC.get om hnm).trans gm)) (hC2.old (hC.old om)) ?_ ?_
  ·exact (hown.chg hC2 fun i hi=>by simp;rintro rfl;exact hown.new _ hi oq).back fun i hi=>hG.old (hmM i hi)
  ·refine ((hG.weak (T:= [o,wh,wr]) (by simp)).trans hC ?_).trans hC2 ?_
   ·intro i hi hio;simp only[Q9,Q8,or_false] at hi ⊢;rcases hi with rfl|rfl|rfl|rfl
    ·simp
    ·simp
    ·simp
    ·exact Q3 hio aD
   ·intro i hi hio;simp at hi;subst hi;exact Q3 hio aD
  ·rintro i hi rfl;exact hown.new _ hi om
 exact key _ rfl
theorem Oi (m:NH) (s:List Nat) (p1 p2:NV) (h1:∃i,p1= .ptr i 0) (h2:∃i,p2= .ptr i 0):a6 Tryz.prog S0 41 [.str s,p1,p2] m (.fn 63 [.ptr (na m 0) 0,.ptr (na m 1) 0,.ptr (na m 2) 0]) (hp [(.n 2,.cells true [p2]),(.n 1,.cells true [p1]),(.n 0,.cells true [.str s])] 3 m):=by
 obtain ⟨i,rfl⟩:=h1
 obtain ⟨j,rfl⟩:=h2
 have h:WF Tryz.prog S0 41 [.str s,.ptr i 0,.ptr j 0] m fun v m'=>v=(.fn 63 [.ptr (na m 0) 0,.ptr (na m 1) 0,.ptr (na m 2) 0])/\m'=(hp [(.n 2,.cells true [.ptr j 0]),(.n 1,.cells true [.ptr i 0]),(.n 0,.cells true [.str s])] 3 m):=by
  refine WF.of_wpG (fun _=>rfl) AC (L:= [(.b .e,.ptr j 0),(.a .e,.ptr i 0),(.e,.str s)]) rfl ?_
  unfold IW
  simp (disch:=first|assumption|omega) only[go_sem,seval]
 obtain ⟨v,m',h1,rfl,rfl⟩:=h.ret
 exact h1
theorem pQ (m:NH) {v:NV} {b:List Nat} (hv:Sl m v 1 (gi b)) (hl:b.length<=1000000) (hb:∀c∈b,c<256):
 ∃r m',a6 Tryz.prog S0 21 [v] m r m'/\(if 16384<b.length then r= .tup [.nils,ii 0,ii 3] else (match (bn b).2 with|some a=>r= .tup [.nils,ii a,ii 2]|none=>∃u,r= .tup [u,ii b.length,ii 0]/\dq m m' u 4 ((bn b).1.map Tok.l)))/\Chg [] m m':=by
 refine WF.ex fun K hK=> ?_
 refine WF.of_wpM (fun _=>rfl) zH (L:= [(.e,v)]) rfl ?_
 unfold L4
 have hlen:=hv.len
 rw[show (gi b).length=b.length by simp] at hlen
 by_cases h1:16384<b.length
 ·simp (disch:=first|assumption|omega) only[go_sem,seval,hlen,ab]
  apply sQ
  simp (disch:=first|assumption|omega) only[go_sem,seval]
  refine hK _ _ ⟨by rw[Q5 h1],Chg.refl m⟩
 ·simp (disch:=first|assumption|omega|(simp only[ay]<;>omega)) only[go_sem,seval,hlen]
  generalize hM:hp _ 3 m=M
  have hC:Chg [] m M:=by rw[←hM];exact aH rfl
  have g0:M.get (na m 0)=some (.cells true [ii 0]):=by rw[←hM];exact cI
  have g1:M.get (na m 1)=some (.cells true [.bool false]):=by rw[←hM];exact cI
  have g2:M.get (na m 2)=some (.cells true [.nils]):=by rw[←hM];exact cI
  have o0:aw M (na m 0):=by rw[←hM];exact ai (by omega)
  have o1:aw M (na m 1):=by rw[←hM];exact ai (by omega)
  have o2:aw M (na m 2):=by rw[←hM];exact ai (by omega)
  have hbt:p9 M v= .val (.str b):=(hv.chg hC fun _ _=>by simp).bts hb
  simp (disch:=first|assumption|omega|(simp only[ay]<;>omega)) only[go_sem,seval,hbt,(Oi M b _ _ ⟨_,rfl⟩ ⟨_,rfl⟩).wf']
  generalize hM2:hp _ 3 M=M2
  have hC2:Chg [] M M2:=by rw[←hM2];exact aH rfl
  have k0:M2.get (na M 0)=some (.cells true [.str b]):=by rw[←hM2];exact cI
  have k1:M2.get (na M 1)=some (.cells true [.ptr (na m 0) 0]):=by rw[←hM2];exact cI
  have k2:M2.get (na M 2)=some (.cells true [.ptr (na m 1) 0]):=by rw[←hM2];exact cI
  have q0:aw M2 (na M 0):=by rw[←hM2];exact ai (by omega)
  have q1:aw M2 (na M 1):=by rw[←hM2];exact ai (by omega)
  have q2:aw M2 (na M 2):=by rw[←hM2];exact ai (by omega)
  have nn:∀{i j},aw M (na m i)->na M j≠na m i:=fun h e=>h.ne _ e.symm
  refine yH (m:=m) (s:=b) (o:=na m 2) (bs:=na M 0) (bw:=na M 1) (bx:=na M 2) (wh:=na m 0) (wr:=na m 1) (by omega) hb ?_ ?_ ((hC2.get o2 (by simp)).trans g2) (hC2.old o2) k0 k1 k2 ((hC2.get o0 (by simp)).trans g0) ((hC2.get o1 (by simp)).trans g1) q0 q1 q2 (hC2.old o0) (hC2.old o1) ?_ ?_ ?_ ?_ ?_ (fun i hi=>hC2.old (hC.old hi)) ?_
  ·simp (disch:=first|assumption|omega) only[go_sem,seval]
  ·simp (disch:=first|assumption|omega) only[go_sem,seval]
  ·simp only[Q9,Q8,or_false,not_or];exact ⟨nn o0,nn o1,nn o2⟩
  ·simp only[Q9,Q8,or_false,not_or];exact ⟨nn o0,nn o1,nn o2⟩
  ·simp only[Q9,Q8,or_false,not_or];exact ⟨nn o0,nn o1,nn o2⟩
  ·simp[iT]
  ·simp[iT]
  intro M' u hown ho hwh hwr hmk omk hC3 hu
  have p0:=hC3.old (hC2.old o0)
  have p1:=hC3.old (hC2.old o1)
  have p2:=hC3.old (hC2.old o2)
  have hCm:Chg [] m M':=((hC.trans hC2 fun _ h _=>h).weak (T:= [na m 2,na m 0,na m 1]) (by simp)).trans hC3 (fun _ h _=>h) |>.weak (by
   intro i hi ho;simp only[Q9,Q8,or_false] at hi;rcases hi with rfl|rfl|rfl<;>exact Q3 ho aD)
  have hCf:∀x,Chg [] m (hp [(.o (na M2 0),x)] 0 M'):=fun x=>hCm.trans (T:= [na M2 0]) (aH rfl) (by
   intro i hi ho;simp only[Q9,Q8,or_false] at hi;subst hi;exact Q3 (hC2.old (hC.old ho)) aD)
  cases he:(bn b).2 with
  |some a=>
   rw[he] at hwh hwr
   have hwh:M'.get (na m 0)=some (.cells true [ii a]):=hwh
   have hwr:M'.get (na m 1)=some (.cells true [.bool true]):=hwr
   simp (disch:=first|assumption|omega) only[go_sem,seval,ho,hwh,hwr,hmk]
   apply sQ
   simp (disch:=first|assumption|omega) only[go_sem,seval]
   refine hK _ _ ⟨by rw[Q4 h1,he],hCf _⟩
  |none=>
   rw[he] at hwh hwr
   have hwh:M'.get (na m 0)=some (.cells true [ii b.length]):=hwh
   have hwr:M'.get (na m 1)=some (.cells true [.bool false]):=hwr
   simp (disch:=first|assumption|omega) only[go_sem,seval,ho,hwh,hwr,hmk,hown.sl.one]
   apply sQ
   simp (disch:=first|assumption|omega) only[go_sem,seval]
   refine hK _ _ ⟨?_,hCf _⟩
   rw[Q4 h1,he]
   exact ⟨u,rfl,hown.chg (aH rfl) fun i hi=>by simpa [aF] using hu i hi⟩
end FR
open Go Nm Go.Proofs
namespace FR
theorem WF.pan {P:Program} {S:cR} {f:Nat} {args:List NV} {m:NH} {E:NV->NH->Prop} (h:WF ⟨P,E⟩ S f args m fun _ _=>False):∃v m',Pc P S f args m v m'/\E v m':=by
 rcases h with ⟨_,_,_,_,h⟩|⟨v,c,m',h1,h2⟩
 ·exact h.elim
 ·exact ⟨v,m',⟨c,h1⟩,h2⟩
structure Rp (m:NH) (r:D4) (u:NV) (L:List Tok) (a:Nat):Prop where
 g:m.get r=some (.cells true [u,ii a])
 o:aw m r
 s:Sl m u 4 (L.map Tok.l)
 n:r∉ids u
 l:L.length<=20000
 k:∀i x,L[i]? =some x->(x.k=5↔i+1=L.length)
 a:a<L.length
 b:∀(i:Nat) (x:Tok),L[i]? =some x->∀c∈x.t,c<256
abbrev Iw (s:Rs):NV:= .ifc 71 (.agg [ii s.e,ii s.b])
def CX (f:Nat) (args:List NV) (m:NH) (T:List D4) (s':Rs) (Φ:NV->NH->Prop):Prop:=∀(E K:NV->NH->Prop),(s'.e≠0->∀m',Chg T m m'->E (Iw s') m')->(s'.e=0->∀v m',Φ v m'->K v m')->WF ⟨Tryz.prog,E⟩ S0 f args m K
section
variable {m m' m0:NH} {r:D4} {u:NV} {L:List Tok} {a:Nat} {x:Tok} {T T':List D4} {s s':Rs}
theorem Rp.chg (h:Rp m r u L a) (hC:Chg T m m') (h1:r∉T) (h2:∀i∈ids u,i∉T):Rp m' r u L a:=
 ⟨(hC.get h.o h1).trans h.g,hC.old h.o,h.s.chg hC h2,h.n,h.l,h.k,h.a,h.b⟩
theorem Rp.grow (h:Rp m r u L a) (hC:Chg [] m m'):Rp m' r u L a:=h.chg hC (by simp) (by simp)
theorem Rp.tok (h:Rp m r u L a):L[a]? =some (av L a):=by
 rw[List.getElem?_eq_getElem h.a,av,List.getElem?_eq_getElem h.a];rfl
theorem Rp.put (h:Rp m r u L a) (h5:(av L a).k≠5) {k:Nat} {M:NH} (hM:hp [(.o r,.cells true [u,ii ((a:Int)+1)])] k m=M):Rp M r u L (a+1)/\Chg [r] m M:=by
 have hC:Chg [r] m M:=bf hM rfl
 refine ⟨⟨?_,hC.old h.o,h.s.chg hC fun i hi q=>h.n (one q▸hi),h.n,h.l,h.k, ?_,h.b⟩,hC⟩
 ·rw[←hM];exact (bF h.o).trans a7
 ·have:=(h.k a _ h.tok).mpr
  have ha:=h.a
  by_cases e:a+1=L.length
  ·exact Q3 (this e) h5
  ·omega
theorem qW (h:Rp m r u L a):∃m',a6 Tryz.prog S0 42 [.ptr r 0] m (.agg (av L a).l) m'/\Chg [] m m':=by
 refine WF.ex1 fun K hK=> ?_
 refine WF.of_wpG (fun _=>rfl) zL (L:= [(.e,.ptr r 0)]) rfl ?_
 unfold J7
 have g:=h.g
 have hlen:=h.s.len
 rw[List.length_map] at hlen
 have ha:=h.a
 have hl:=h.l
 obtain ⟨id,off,wr,cs,a1,a2,a3,a4,a5⟩:=h.s.at a (by simpa using ha)
 rw[List.getElem_map] at a5
 have hx:=h.tok
 have hxe:L[a]=av L a:=by rw[List.getElem?_eq_getElem ha] at hx;exact Option.some.inj hx
 rw[hxe] at a5
 have ho:=h.o
 unfold Tok.l at a5
 simp (disch:=first|assumption|omega|(simp only[ay]<;>omega)) only[go_sem,seval,g,hlen,a1,a2,a5]
 exact hK _ (aH rfl)
theorem Jf (h:Rp m r u L a) (k:Nat) (t:List Nat):∃m',a6 Tryz.prog S0 47 [.ptr r 0,ii k,.str t] m (.bool (decide ((av L a).k=k/\(av L a).t=t))) m'/\Chg [] m m':=by
 refine WF.ex1 fun K hK=> ?_
 refine WF.of_wpG (fun _=>rfl) zB (L:= [(.b .e,.str t),(.a .e,ii k),(.e,.ptr r 0)]) rfl ?_
 unfold Ly
 obtain ⟨m1,r1,hC1⟩:=qW h
 generalize av L a=x at *
 unfold Tok.l at r1
 rw[ab]
 by_cases h1:x.k=k
 ·by_cases h2:x.t=t
  ·rw[Q7 (show x.k=k/\x.t=t from ⟨h1,h2⟩)] at hK
   subst h1 h2
   simp (disch:=first|assumption|omega|(simp only[ay]<;>omega)) only[go_sem,seval,r1.wf]
   exact hK _ (hC1.trans (T:= []) (aH rfl) (by simp))
  ·rw[Q6 (show ¬(x.k=k/\x.t=t) from fun q=>h2 q.2)] at hK
   subst h1
   have h2':decide (x.t=t)=false:=Q6 h2
   simp (disch:=first|assumption|omega|(simp only[ay]<;>omega)) only[go_sem,seval,r1.wf,h2']
   exact hK _ (hC1.trans (T:= []) (aH rfl) (by simp))
 ·rw[Q6 (show ¬(x.k=k/\x.t=t) from fun q=>h1 q.1)] at hK
  simp (disch:=first|assumption|omega|(simp only[ay]<;>omega)) only[go_sem,seval,r1.wf]
  exact hK _ (hC1.trans (T:= []) (aH rfl) (by simp))
theorem fX (h:Rp m r u L s.a) (hs:s.e=0) {k:Nat} (h5:k≠5) {t:List Nat} (hk:eK t=k):∃m',a6 Tryz.prog S0 43 [.ptr r 0,ii k,.str t] m (.bool (au L t s)) m'/\Rp m' r u L (if au L t s=true then aa s else s).a/\Chg [r] m m':=by
 subst hk
 have e:au L t s=decide ((av L s.a).k=eK t/\(av L s.a).t=t):=by
  unfold au;simp[hs]
 rw[e]
 refine WF.ex1 fun K hK=> ?_
 refine WF.of_wpG (fun _=>rfl) zn (L:= [(.b .e,.str t),(.a .e,ii (eK t)),(.e,.ptr r 0)]) rfl ?_
 unfold Kt
 obtain ⟨m1,r1,hC1⟩:=Jf h (eK t) t
 have h1:=h.grow hC1
 have g:=h1.g
 have o:=h1.o
 have hl:=h1.l
 have ha:=h1.a
 rw[ab]
 cases hd:decide ((av L s.a).k=eK t/\(av L s.a).t=t) with
 |false=>
  rw[hd] at r1 hK
  simp (disch:=first|assumption|omega) only[go_sem,seval,r1.wf']
  exact hK _ ⟨h1,hC1.weak (by simp)⟩
 |true=>
  rw[hd] at r1 hK
  simp (disch:=first|assumption|omega|(simp only[ay]<;>omega)) only[go_sem,seval,r1.wf,g]
  generalize hM:hp _ 0 m1=M
  have hk:=(of_decide_eq_true hd).1
  obtain ⟨h2,hC2⟩:=h1.put (by omega) hM
  exact hK _ ⟨h2,(hC1.weak (T:= [r]) (by simp)).trans hC2 fun i hi _=>hi⟩
theorem ij (h:Rp m r u L a) (e:Int):Pc Tryz.prog S0 48 [.ptr r 0,ii e] m (.ifc 71 (.agg [ii e,ii a])) m:=by
 suffices hh:WF ⟨Tryz.prog,fun v m'=>v= .ifc 71 (.agg [ii e,ii a])/\m'=m⟩ S0 48 [.ptr r 0,ii e] m fun _ _=>False by
  obtain ⟨v,m',h1,rfl,rfl⟩:=WF.pan hh
  exact h1
 refine WF.of_wpG (fun _=>rfl) Bb (L:= [(.a .e,ii e),(.e,.ptr r 0)]) rfl ?_
 unfold Jb
 have g:=h.g
 rw[ab]
 simp (disch:=first|assumption|omega|(simp only[ay]<;>omega)) only[go_sem,seval,g]
theorem cl (hs:s.e=0) (e:Nat):aV e s=⟨s.a,e,s.a⟩:=Q5 hs
theorem fB (s:Rs):(aa s).a=s.a+1:=rfl
theorem jC (h:Rp m r u L s.a) (hs:s.e=0) {t:List Nat} (hk:eK t=3):CX 66 [.ptr r 0,.str t] m [r] (aT L t s) fun v m'=>v= .tup []/\Rp m' r u L (aT L t s).a/\Chg [r] m m':=by
 intro E K hE hK
 refine WF.of_wpG (fun _=>rfl) yR (L:= [(.a .e,.str t),(.e,.ptr r 0)]) rfl ?_
 unfold I4
 obtain ⟨m1,r1,h1,hC1⟩:=fX h hs (k:=3) (by omega) hk
 have r1:a6 Tryz.prog S0 43 [.ptr r 0,ii 3,.str t] m (.bool (au L t s)) m1:=r1
 unfold aT at hE hK
 rw[ab]
 cases hb:au L t s with
 |true=>
  rw[hb] at r1 h1
  rw[hb,Q5 rfl] at hK
  simp (disch:=first|assumption|omega) only[go_sem,seval,r1.wf']
  exact hK hs _ _ ⟨rfl,h1,hC1⟩
 |false=>
  rw[hb] at r1 h1
  rw[hb,Q4 Bool.false_ne_true,cl hs] at hE
  rw[Q4 Bool.false_ne_true] at h1
  simp (disch:=first|assumption|omega) only[go_sem,seval,r1.wf',(ij h1 2).wf]
  exact hE (by simp) _ hC1
def gv (L:List Tok) (k:Nat) (s:Rs):Rs:=if (av L s.a).k=k then aa s else aV 2 s
theorem Rp.adv (h:Rp m r u L a) (h5:(av L a).k≠5) (hC:Chg T m m') (hT:∀i∈ids u,i∉T) (g:m'.get r=some (.cells true [u,ii ((a:Int)+1)])):Rp m' r u L (a+1):=by
 refine ⟨g,hC.old h.o,h.s.chg hC hT,h.n,h.l,h.k, ?_,h.b⟩
 have:=(h.k a _ h.tok).mpr
 have ha:=h.a
 by_cases e:a+1=L.length
 ·exact Q3 (this e) h5
 ·omega
theorem nT (h:Rp m r u L s.a) (hs:s.e=0) {k:Nat} (h5:k≠5):CX 45 [.ptr r 0,ii k] m [r] (gv L k s) fun v m'=>v= .agg (av L s.a).l/\Rp m' r u L (gv L k s).a/\Chg [r] m m':=by
 intro E K hE hK
 refine WF.of_wpG (fun _=>rfl) zA (L:= [(.a .e,ii k),(.e,.ptr r 0)]) rfl ?_
 unfold KK
 generalize hm1:hp [(.n 0,.cells true [.int .i64 (.lit 0),.str [],.int .u64 (.lit 0),.int .i64 (.lit 0)])] 1 m=m1
 have hC1:Chg [] m m1:=bf hm1 rfl
 have h1:=h.grow hC1
 obtain ⟨m2,r2,hC2⟩:=qW h1
 have h2:=h1.grow hC2
 have on:aw m2 (na m 0):=hC2.old (bB hm1 (by omega))
 have gn:m2.get (na m 0)=some (.cells true [.int .i64 (.lit 0),.str [],.int .u64 (.lit 0),.int .i64 (.lit 0)]):=(hC2.get (bB hm1 (by omega)) (by simp)).trans (bu hm1)
 have hC12:Chg [] m m2:=hC1.trans hC2 (by simp)
 have g:=h2.g
 have o:=h2.o
 have nn:na m 0≠r:=(h.o.ne 0).symm
 have nn':r≠na m 0:=h.o.ne 0
 have hl:=h.l
 have ha:=h.a
 unfold gv at hE hK
 have tk:=h2
 have adv:=fun {M:NH} {T:List D4} h5 (hC:Chg T m2 M)=>h2.adv (T:=T) (m':=M) h5 hC
 generalize av L s.a=x at *
 unfold Tok.l at r2
 by_cases hk:x.k=k
 ·rw[Q5 hk] at hK
  simp (disch:=first|assumption|omega|(simp only[ay]<;>omega)) only[go_sem,seval,hm1,r2.wf,hk,g,gn]
  generalize hM:hp _ 1 m2=M
  have hC3:Chg [na m 0,r] m2 M:=bf hM rfl
  have gM:M.get r=some (.cells true [u,ii ((s.a:Int)+1)]):=by rw[←hM];simp (disch:=first|assumption|omega) only[go_sem,seval]
  refine hK hs _ _ ⟨by unfold Tok.l;rw[hk],adv (by omega) hC3 (fun i hi q=> ?_) gM,hC12.weak (T:= [r]) (by simp) |>.trans hC3 fun i hi ho=> ?_⟩
  ·rcases List.mem_cons.1 q with rfl|q
   ·exact aD (h.s.old _ hi)
   ·exact h.n (one q▸hi)
  ·rcases List.mem_cons.1 hi with rfl|hi
   ·exact Q3 ho aD
   ·exact hi
 ·rw[Q4 hk,cl hs] at hE
  generalize hm3:hp [(.n 0,.cells true [ii x.k,.str x.t,u64 x.n,ii x.p]),(.n 0,.cells true [.int .i64 (.lit 0),.str [],.int .u64 (.lit 0),.int .i64 (.lit 0)])] 1 m2=m3
  have hC3:Chg [] m2 m3:=bf hm3 rfl
  have g3:m3.get (na m2 0)=some (.cells true [ii x.k,.str x.t,u64 x.n,ii x.p]):=bu hm3
  have h3:=h2.grow hC3
  simp (disch:=first|assumption|omega|(simp only[ay]<;>omega)) only[go_sem,seval,hm1,r2.wf,hk,hm3,g3,(ij h3 2).wf]
  exact hE (by simp) _ (((hC12.trans hC3 (by simp)).weak (T:= [r]) (by simp)))
theorem fJ (hs:s.e=0):(aJ L s).2=gv L 1 s/\((aJ L s).2.e=0->(aJ L s).1=(av L s.a).t):=by
 unfold aJ gv
 by_cases h:(av L s.a).k=1
 ·rw[Q4 (by simp[hs,h]),Q5 h];exact ⟨rfl,fun _=>rfl⟩
 ·rw[Q5 (Or.inr h),Q4 h]
  refine ⟨rfl,fun q=> ?_⟩
  rw[cl hs] at q;simp at q
end
end FR
open Go Nm Go.Proofs
namespace FR
def yP (T:Tok):Nat:=if fk (da T)=true then da T else 0
theorem uY {T:Tok} (h:fk (da T)=false):yP T=0:=Q4 (by rw[h];exact Bool.false_ne_true)
theorem Ea {T:Tok} (h:fk (da T)=true):yP T=da T:=Q5 h
theorem Mu {T:Tok}:yP T=0↔fk (da T)=false:=by
 cases h:fk (da T) with
 |false=>simp[uY h]
 |true=>
  rw[Ea h]
  simp only[Bool.true_eq_false,iff_false]
  intro q;rw[q] at h;exact Q3 h (by decide)
def Nn (f:Nat) (r:D4) (u:NV) (L:List Tok) (E:Rs->Ex×Rs) (d:Nat):Prop:=∀(m:NH) (s:Rs),Rp m r u L s.a->s.e=0->CX f [.ptr r 0,ii d] m [r] (E s).2 fun v m'=>
 (∃w,v= .agg [ii (E s).1.k,u64 (E s).1.n,u8 (E s).1.o,.str (E s).1.s,w,ii (E s).1.depth]/\RE m' (eB m) (E s).1 ((E s).1.l w))/\1<=(E s).1.depth/\(E s).1.depth<=30/\Rp m' r u L (E s).2.a/\Chg [r] m m'
abbrev z6:List NV:= [.int .i64 (.lit 0),.int .u64 (.lit 0),.int .u8 (.lit 0),.str [],.nils,.int .i64 (.lit 0)]
theorem tH {L:List Tok} {w:List Nat} {s:Rs} (h:s.e≠0):aT L w s=s:=(aZ L w s).err h
theorem iA {m0 m m':NH} {T:List D4} {x:Ex} {c:List NV} (h:RE m (eB m0) x c) (hC:Chg T m m') (hT:∀i∈T,aw m0 i):RE m' (eB m0) x c:=h.stays (aE.of hC fun i hi q=>hi (hT i q))
theorem ky {m0 m1 m:NH} {T:List D4} {x:Ex} {c:List NV} (h:RE m (eB m1) x c) (hC:Chg T m0 m1):RE m (eB m0) x c:=h.weak fun i hi q=>hi (hC.old q)
section
variable {m m' m0:NH} {r:D4} {u:NV} {L:List Tok} {a:Nat} {T T':List D4} {s s':Rs}
theorem oh (h:Rp m r u L a):∃m',a6 Tryz.prog S0 110 [.ptr r 0] m (u8 (yP (av L a))) m'/\Chg [] m m':=by
 refine WF.ex1 fun K hK=> ?_
 refine WF.of_wpG (fun _=>rfl) vj (L:= [(.e,.ptr r 0)]) rfl ?_
 unfold EM
 obtain ⟨m1,r1,hC1⟩:=qW h
 have hb:=h.b a _ h.tok
 generalize av L a=x at *
 unfold Tok.l at r1
 have no:yP x=0->∀M,Chg [] m M->K (u8 0) M:=fun e M hM=>by rw[e] at hK;exact hK M hM
 rw[ab]
 by_cases h3:x.k=3
 ·rw[h3] at r1
  match hxt:x.t,hb with
  | [],_=>
   rw[hxt] at r1
   have e:yP x=0:=by unfold yP da;rw[hxt];simp[fk]
   simp (disch:=first|assumption|omega|(simp only[ay]<;>omega)) only[go_sem,seval,r1.wf]
   exact no e _ (hC1.trans (T:= []) (aH rfl) (by simp))
  | [c],hb=>
   rw[hxt] at r1
   have r2:=fun m=>Fu m [43,45,42,38,61,60] (by simp) (hb c (by simp))
   have eo:da x=c:=by unfold da;rw[hxt,Q5 ⟨h3,rfl⟩];rfl
   have ei:fk c=decide (c∈ [43,45,42,38,61,60]):=by unfold fk;congr 1;simp
   cases hd:decide (c∈ [43,45,42,38,61,60]) with
   |true=>
    rw[hd] at r2 ei
    have e:yP x=c:=by rw[Ea (by rw[eo];exact ei),eo]
    rw[e] at hK
    simp (disch:=first|assumption|omega|(simp only[ay]<;>omega)) only[go_sem,seval,r1.wf,(r2 _).wf']
    exact hK _ (hC1.trans (T:= []) (aH rfl) (by simp))
   |false=>
    rw[hd] at r2 ei
    have e:yP x=0:=uY (by rw[eo];exact ei)
    simp (disch:=first|assumption|omega|(simp only[ay]<;>omega)) only[go_sem,seval,r1.wf,(r2 _).wf']
    exact no e _ (hC1.trans (T:= []) (aH rfl) (by simp))
  |c::d::l,_=>
   rw[hxt] at r1
   have e:yP x=0:=uY (by unfold da;rw[hxt,Q4 (by simp)];rfl)
   simp (disch:=first|assumption|omega|(simp only[ay]<;>omega)) only[go_sem,seval,r1.wf]
   exact no e _ (hC1.trans (T:= []) (aH rfl) (by simp))
 ·have e:yP x=0:=uY (by unfold da;rw[Q4 (by simp[h3])];rfl)
  simp (disch:=first|assumption|omega|(simp only[ay]<;>omega)) only[go_sem,seval,r1.wf,h3]
  exact no e _ (hC1.trans (T:= []) (aH rfl) (by simp))
theorem Gb {E:Rs->Ex×Rs} {d:Nat} (hst:∀s,St L s (E s).2) (hd:d<=30) (ih:d<=29->Nn 104 r u L E (d+1)):Nn 109 r u L (bO L E d) d:=by
 intro m s h hs X K hX hK
 refine WF.of_wpG (fun _=>rfl) uH (L:= [(.a .e,ii d),(.e,.ptr r 0)]) rfl ?_
 unfold Dk
 generalize hm1:hp [(.n 0,.cells true z6)] 1 m=m1
 have hm1':=hm1
 unfold z6 at hm1'
 have hC1:Chg [] m m1:=bf hm1 rfl
 have h1:=h.grow hC1
 have o1:aw m1 (na m 0):=bB hm1 (by omega)
 have g1:m1.get (na m 0)=some (.cells true z6):=bu hm1
 have nr:na m 0∉ [r]:=fun q=>h.o.ne 0 (one q).symm
 have hpf:bO L E d s=if s.e≠0 then (zE,s) else if 29<d then (zE,aV 11 s) else if (av L s.a).k=2 then (me (av L s.a).n,aa s) else if (av L s.a).k=1 then (gR (av L s.a).t,aa s)
  else if au L [40] s=true then ((E (aa s)).1,aT L [41] (E (aa s)).2) else (zE,aV 2 s):=rfl
 rw[Q4 (by omega)] at hpf
 by_cases hbr:29<d
 ·rw[Q5 hbr] at hpf
  rw[hpf,cl hs] at hX
  simp (disch:=first|assumption|omega) only[go_sem,seval,hm1',(ij h1 11).wf]
  exact hX (by simp) _ (hC1.weak (by simp))
 rw[Q4 hbr] at hpf
 obtain ⟨m2,r2,h2,hC2⟩:=fX h1 hs (k:=3) (t:= [40]) (by omega) rfl
 have r2:a6 Tryz.prog S0 43 [.ptr r 0,ii 3,.str [40]] m1 (.bool (au L [40] s)) m2:=r2
 have hC12:Chg [r] m m2:=(hC1.weak (T:= [r]) (by simp)).trans hC2 fun i hi _=>hi
 have o2:=hC2.old o1
 have g2:=(hC2.get o1 nr).trans g1
 cases hb:au L [40] s with
 |true=>
  have hk3:(av L s.a).k=3:=(of_decide_eq_true hb).2.1
  rw[hb] at r2 h2
  rw[Q5 rfl] at h2
  rw[Q4 (by omega),Q4 (by omega),Q5 hb] at hpf
  rw[hpf] at hX hK
  simp (disch:=first|assumption|omega) only[go_sem,seval,hm1',r2.wf']
  refine ih (by omega) m2 (aa s) h2 hs X _ (fun he m' hC=> ?_) ?_
  ·have e:=tH (L:=L) (w:= [41]) he
   dsimp only at hX
   rw[e] at hX
   exact hX he m' (hC12.trans hC fun i hi _=>hi)
  rintro he v m3 ⟨⟨w,rfl,hx⟩,hd1,hd2,h3,hC3⟩
  generalize hE2:E (aa s)=q at hX hK hx hd1 hd2 h3 he
  obtain ⟨x,s2⟩:=q
  dsimp only at hX hK hx hd1 hd2 h3 he
  have hC13:=hC12.trans hC3 fun i hi _=>hi
  have o3:=hC3.old o2
  have g3:=(hC3.get o2 nr).trans g2
  have r3:aw m2 r:=h2.o
  rw[←ab m3]
  simp (disch:=first|assumption|omega|(simp only[ay]<;>omega)) only[go_sem,seval]
  generalize hm4:hp _ 1 m3=m4
  have hC4:Chg [] m3 m4:=bf hm4 rfl
  have h4:=h3.grow hC4
  have hC14:=hC13.trans hC4 (by simp)
  have hx4:=iA hx hC4 (by simp)
  refine jC h4 he (t:= [41]) rfl X _ (fun he m' hC=>hX he m' (hC14.trans hC fun i hi _=>hi)) ?_
  rintro he' _ m5 ⟨rfl,h5,hC5⟩
  have hC15:=hC14.trans hC5 fun i hi _=>hi
  have hx5:=iA hx4 hC5 fun i hi=>one hi▸r3
  have nr3:na m3 0∉ [r]:=fun q=>h3.o.ne 0 (one q).symm
  have g4:m4.get (na m3 0)=some (.cells true [ii x.k,u64 x.n,u8 x.o,.str x.s,w,ii x.depth]):=bu hm4
  have o4:aw m4 (na m3 0):=bB hm4 (by omega)
  have g5:=(hC5.get o4 nr3).trans g4
  have o5:=hC5.old (hC4.old o3)
  have f5:=(hC5.get (hC4.old o3) nr).trans ((hC4.get o3 (by simp)).trans g3)
  unfold z6 at f5
  rw[←ab m5]
  simp (disch:=first|assumption|omega|(simp only[ay]<;>omega)) only[go_sem,seval,g5,f5]
  generalize hM:hp _ 0 m5=M
  have hC6:Chg [na m 0] m5 M:=bf hM rfl
  refine hK he' _ _ ⟨⟨w,rfl,ky (iA hx5 hC6 fun i hi=>one hi▸o2) hC12⟩,hd1,hd2,h5.chg hC6 (fun q=>h.o.ne 0 (one q)) fun i hi q=>aD (h.s.old _ (one q▸hi)),hC15.trans hC6 fun i hi ho=> ?_⟩
  rw[one hi] at ho;exact Q3 ho aD
 |false=>
  rw[hb] at r2 h2
  rw[Q4 Bool.false_ne_true] at h2
  obtain ⟨m3,r3,hC3⟩:=qW h2
  have hC13:=hC12.trans hC3 (by simp)
  have h3:=h2.grow hC3
  have o3:=hC3.old o2
  have g3:=(hC3.get o2 (by simp)).trans g2
  unfold z6 at g3
  have gr:=h3.g
  have or:=h3.o
  have hl:=h.l
  have ha:=h.a
  have nn:na m 0≠r:=(h.o.ne 0).symm
  have nn':r≠na m 0:=h.o.ne 0
  have adv:=fun {M:NH} {T:List D4} h5 (hC:Chg T m3 M)=>h3.adv (T:=T) (m':=M) h5 hC
  rw[Q4 (c:=au L [40] s=true) (by rw[hb];exact Bool.false_ne_true)] at hpf
  by_cases hk:(av L s.a).k=2
  ·rw[Q5 hk] at hpf
   rw[hpf] at hK
   generalize av L s.a=x at *
   unfold Tok.l at r3
   rw[hk] at r3
   simp (disch:=first|assumption|omega|(simp only[ay]<;>omega)) only[go_sem,seval,hm1',r2.wf',r3.wf,gr,g3]
   generalize hM:hp _ 1 m3=M
   have hC4:Chg [na m 0,r] m3 M:=bf hM rfl
   have gM:M.get r=some (.cells true [u,ii ((s.a:Int)+1)]):=by rw[←hM];simp (disch:=first|assumption|omega) only[go_sem,seval]
   refine hK hs _ _ ⟨⟨.nils,rfl,DJ _ _ _⟩,by simp[Ex.depth,bo],by simp[Ex.depth,bo],adv (by omega) hC4 (fun i hi q=> ?_) gM,hC13.trans hC4 fun i hi ho=> ?_⟩
   ·rcases List.mem_cons.1 q with rfl|q
    ·exact aD (h.s.old _ hi)
    ·exact h.n (one q▸hi)
   ·rcases List.mem_cons.1 hi with rfl|hi
    ·exact Q3 ho aD
    ·exact hi
  ·rw[Q4 hk] at hpf
   have tx:=fun {M:NH} (h:Rp M r u L s.a)=>nT h hs (k:=1) (by omega)
   have hkf:gv L 1 s=if (av L s.a).k=1 then aa s else aV 2 s:=rfl
   generalize av L s.a=x at *
   unfold Tok.l at r3
   generalize hm4:hp [(.n 0,.cells true [ii x.k,.str x.t,u64 x.n,ii x.p]),(.n 0,.cells true [.int .i64 (.lit 0),.str [],.int .u64 (.lit 0),.int .i64 (.lit 0)])] 1 m3=m4
   have hC4:Chg [] m3 m4:=bf hm4 rfl
   have h4:=h3.grow hC4
   have hC14:=hC13.trans hC4 (by simp)
   have g4:m4.get (na m3 0)=some (.cells true [ii x.k,.str x.t,u64 x.n,ii x.p]):=bu hm4
   simp (disch:=first|assumption|omega|(simp only[ay]<;>omega)) only[go_sem,seval,hm1',r2.wf',r3.wf,hm4,g4,hk]
   refine tx h4 X _ (fun he m' hC=> ?_) ?_
   ·have e1:x.k≠1:=fun q=>by rw[hkf,Q5 q] at he;exact he hs
    rw[Q4 e1] at hpf hkf
    rw[hpf] at hX
    rw[hkf] at he ⊢
    exact hX he m' (hC14.trans hC fun i hi _=>hi)
   rintro he _ m5 ⟨rfl,h5,hC5⟩
   have e1:x.k=1:=by
    rcases Decidable.em (x.k=1) with q|q
    ·exact q
    ·rw[hkf,Q4 q,cl hs] at he;simp at he
   rw[Q5 e1] at hpf hkf
   rw[hpf] at hK
   rw[hkf] at h5
   have hC15:=hC14.trans hC5 fun i hi _=>hi
   have o5:=hC5.old (hC4.old o3)
   have f5:=(hC5.get (hC4.old o3) nr).trans ((hC4.get o3 (by simp)).trans g3)
   rw[←ab m5]
   simp (disch:=first|assumption|omega|(simp only[ay]<;>omega)) only[go_sem,seval,f5,Tok.l]
   generalize hM:hp _ 0 m5=M
   have hC6:Chg [na m 0] m5 M:=bf hM rfl
   refine hK hs _ _ ⟨⟨.nils,rfl,Ab _ _ _⟩,by simp[Ex.depth,bo],by simp[Ex.depth,bo],h5.chg hC6 (fun q=>h.o.ne 0 (one q)) fun i hi q=>aD (h.s.old _ (one q▸hi)),hC15.trans hC6 fun i hi ho=> ?_⟩
   rw[one hi] at ho;exact Q3 ho aD
end
end FR
open Go Nm Go.Proofs
namespace FR
theorem Dh (o:Nat) (x y:Ex):(gQ o x y).depth=1+max x.depth y.depth:=by
 show Ex.depth (.mk 2 0 o [] [x,y])=_
 rw[Ex.depth,bo,bo,bo];omega
section
variable {m m' m0:NH} {r:D4} {u:NV} {L:List Tok} {a:Nat} {T T':List D4} {s s':Rs}
theorem F1 {E:Rs->Ex×Rs} {d:Nat} (hst:∀s,St L s (bO L E d s).2) (hd:d<=30) (hp:Nn 109 r u L (bO L E d) d):Nn 104 r u L (dZ L E d) d:=by
 intro m s h hs X K hX hK
 refine WF.of_wpG (fun _=>rfl) vI (L:= [(.a .e,ii d),(.e,.ptr r 0)]) rfl ?_
 unfold FW
 generalize hm1:Nm.hp [(.n 0,.cells true z6)] 1 m=m1
 have hm1':=hm1
 unfold z6 at hm1'
 have hC1:Chg [] m m1:=bf hm1 rfl
 have h1:=h.grow hC1
 have o1:aw m1 (na m 0):=bB hm1 (by omega)
 have g1:m1.get (na m 0)=some (.cells true z6):=bu hm1
 have nr:na m 0∉ [r]:=fun q=>h.o.ne 0 (one q).symm
 have hC1r:Chg [r] m m1:=hC1.weak (by simp)
 have hxl:dZ L E d s=cJ L (bO L E d) (L.length+1) (bO L E d s).1 (bO L E d s).2:=rfl
 have hs1:=hst s
 generalize bO L E d=P at hp hxl hst hs1
 simp (disch:=first|assumption|omega) only[go_sem,seval,hm1']
 refine hp m1 s h1 hs X _ (fun he m' hC=> ?_) ?_
 ·rw[cJ,Q5 he] at hxl
  rw[hxl] at hX
  exact hX he m' (hC1r.trans hC fun i hi _=>hi)
 rintro he v m2 ⟨⟨w,rfl,hx⟩,hd1,hd2,h2,hC2⟩
 generalize hPs:P s=q at hxl hx hd1 hd2 h2 hs1 he
 obtain ⟨x,s1⟩:=q
 dsimp only at hxl hx hd1 hd2 h2 hs1 he
 generalize hXZ:dZ L E d s=XZ at hxl hX hK
 obtain ⟨Y,Z⟩:=XZ
 have hC12:=hC1r.trans hC2 fun i hi _=>hi
 have o2:=hC2.old o1
 have g2:=(hC2.get o1 nr).trans g1
 generalize hm3:Nm.hp [(.n 0,.cells true [ii x.k,u64 x.n,u8 x.o,.str x.s,w,ii x.depth]),(.n 0,.cells true z6)] 1 m2=m3
 have hm3':=hm3
 unfold z6 at hm3'
 have hC3:Chg [] m2 m3:=bf hm3 rfl
 have h3:=h2.grow hC3
 have hC13:=hC12.trans hC3 (by simp)
 obtain ⟨m4,r4,hC4⟩:=oh h3
 have hC14:=hC13.trans hC4 (by simp)
 have h4:=h3.grow hC4
 have n3:m3.get (na m2 0)=some (.cells true [ii x.k,u64 x.n,u8 x.o,.str x.s,w,ii x.depth]):=bu hm3
 have p3:aw m3 (na m2 0):=bB hm3 (by omega)
 have n4:=(hC4.get p3 (by simp)).trans n3
 have p4:=hC4.old p3
 have nn:na m2 0≠na m 0:=(o2.ne 0).symm
 have nr2:na m2 0∉ [r]:=fun q=>h2.o.ne 0 (one q).symm
 have nu2:∀i∈ids u,i≠na m2 0:=fun i hi=>(h2.s.old i hi).ne 0
 have nm2:¬aw m (na m2 0):=fun q=>aD (hC12.old q)
 have gz4:=(hC4.get (hC3.old o2) (by simp)).trans ((hC3.get o2 (by simp)).trans g2)
 have oz4:=hC4.old (hC3.old o2)
 have hx4:RE m4 (fun i=>¬aw m i/\i≠na m 0/\i≠na m2 0) x (x.l w):=by
  have:=(hx.old.weak (T':=fun i=>¬aw m i/\i≠na m 0/\i≠na m2 0) fun i ⟨q1,q2⟩=>⟨fun q=>q1 (hC1.old q),fun q=>q1 (q▸o1),fun q=>aD (q▸q2)⟩).stays (iM hC3 _)
  exact this.stays (iM hC4 _)
 have horm:=h.o
 have nz:∀i∈ids u,i∈ [na m 0]->False:=fun i hi q=>aD (h.s.old _ (one q▸hi))
 have nm0:¬aw m (na m 0):=aD
 rw[←ab m2]
 simp (disch:=first|assumption|omega|(simp only[ay]<;>omega)) only[go_sem,seval,hm3',r4.wf']
 generalize na m2 0=n1 at *
 generalize na m 0=n0 at *
 clear r4 h3 h2 h1 n3 g2 g1 hC13 hC12 hC4 hC3 hC2 hm3 hm3' hm1' hm1 o1 o2 p3 hC1 hC1r hx hPs
 refine Nm.W.loop (fun f dy=>∃T M x s w,dy=⟨T, [],none,M⟩/\NT.get D4.e T=some (.ptr r 0)/\NT.get D4.e.a T=some (ii d)/\NT.get D4.e.f T=some (.ptr n0 0)/\NT.get D4.e.a.a T=some (.ptr n1 0)/\NT.get D4.e.a.b T=some (u8 (yP (av L s.a)))/\
  Rp M r u L s.a/\s.e=0/\M.get n1=some (.cells true [ii x.k,u64 x.n,u8 x.o,.str x.s,w,ii x.depth])/\RE M (fun i=>¬aw m i/\i≠n0/\i≠n1) x (x.l w)/\1<=x.depth/\x.depth<=30/\aw M n1/\M.get n0=some (.cells true z6)/\aw M n0/\Chg [r] m M/\cJ L P f x s=(Y,Z)/\L.length<f+s.a) ?_ (L.length+1) _
  ⟨_,m4,x,s1,w,rfl,by simp only[go_sem,seval],by simp only[go_sem,seval],by simp only[go_sem,seval],by simp only[go_sem,seval],by simp only[go_sem,seval]<;>rfl,h4,he,n4,hx4,hd1,hd2,p4,gz4,oz4,hC14,hxl.symm,by omega⟩
 clear h4 he n4 hx4 hd1 hd2 p4 gz4 oz4 hC14 hxl hs1
 rintro f dy ⟨T,M,x,s,w,rfl,t1,t2,t3,t4,t5,hI,he,gn,hx,hd1,hd2,on,gz,oz,hC,hE,hf⟩
 apply aM
 unfold u0
 change wp _ _ _ _ ⟨am [] T, [],none,M⟩ _
 have gr:=hI.g
 have or:=hI.o
 have hl:=hI.l
 have ha:=hI.a
 obtain ⟨f,rfl⟩:∃f',f=f'+1:=⟨f - 1,by omega⟩
 rw[cJ,Q4 (by omega)] at hE
 cases hop:fk (da (av L s.a)) with
 |false=>
  rw[Q5 hop] at hE
  injection hE with e1 e2
  subst e1 e2
  rw[uY hop] at t5
  unfold z6 at gz
  rw[←ab M]
  simp (disch:=first|assumption|omega|(simp only[ay]<;>omega)) only[go_sem,seval,t1,t2,t3,t4,t5,gn,gz]
  generalize hM:Nm.hp _ 0 M=M'
  have hC5:Chg [n0] M M':=bf hM rfl
  refine hK he _ _ ⟨⟨w,rfl,(hx.stays (aE.of hC5 fun i hi q=>hi.2.1 (one q))).weak fun i hi=>hi.1⟩,hd1,hd2,hI.chg hC5 (fun q=>nr (by rw[one q];exact List.mem_singleton_self _)) fun i hi q=> ?_,hC.trans hC5 fun i hi ho=> ?_⟩
  ·exact nz i hi q
  ·exact Q3 (one hi▸ho) nm0
 |true=>
  rw[Q4 (by simp[hop])] at hE
  have h0:yP (av L s.a)≠0:=fun q=>by rw[Mu.mp q] at hop;exact Bool.false_ne_true hop
  have h5:(av L s.a).k≠5:=by have:=F3 hop;omega
  rw[←Ea hop] at hE
  generalize yP (av L s.a)=c at *
  rw[←ab M]
  simp (disch:=first|assumption|omega|(simp only[ay]<;>omega)) only[go_sem,seval,t1,t2,t3,t4,t5,gr,h0]
  generalize hM1:Nm.hp _ 0 M=M1
  obtain ⟨h1,hC1⟩:=hI.put h5 hM1
  have hC01:=hC.trans hC1 fun i hi _=>hi
  refine hp M1 (aa s) h1 he X _ (fun he' m' hC'=> ?_) ?_
  ·rw[Q5 he'] at hE
   injection hE with e1 e2
   rw[e2] at he' ⊢
   exact hX he' m' (hC01.trans hC' fun i hi _=>hi)
  rintro he' v M2 ⟨⟨w2,rfl,hy⟩,he1,he2,h2,hC2⟩
  rw[Q4 (by omega)] at hE
  have hst2:=(hst (aa s)).le
  rw[fB] at hst2
  generalize P (aa s)=q at *
  obtain ⟨y,s2⟩:=q
  dsimp only at hE hy he1 he2 h2 he' hst2
  have hC02:=hC01.trans hC2 fun i hi _=>hi
  have on2:=hC2.old (hC1.old on)
  have gn2:=(hC2.get (hC1.old on) nr2).trans ((hC1.get on nr2).trans gn)
  have oz2:=hC2.old (hC1.old oz)
  have gz2:=(hC2.get (hC1.old oz) nr).trans ((hC1.get oz nr).trans gz)
  have tr:∀{A B:NH},Chg [r] A B->aE (fun i=>¬aw m i/\i≠n0/\i≠n1) A B:=fun h=>aE.of h fun i hi q=>hi.1 (one q▸horm)
  have hx2:=(hx.stays (tr hC1)).stays (tr hC2)
  have hy2:RE M2 (fun i=>¬aw m i/\i≠n0/\i≠n1) y (y.l w2):=hy.weak fun i hi=>⟨fun q=>hi (hC01.old q),fun q=>hi (q▸hC1.old oz),fun q=>hi (q▸hC1.old on)⟩
  have odp:=Dh c x y
  rw[←ab M2]
  by_cases h30:(30:Int)<1+max (x.depth:Int) y.depth
  ·rw[Q5 (by rw[odp];omega)] at hE
   cases f with
   |zero=>omega
   |succ f=>
   have hfe:(aV 11 s2).e≠0:=by rw[cl he'];simp
   rw[cJ,Q5 hfe] at hE
   injection hE with e1 e2
   rw[cl he'] at e2
   subst e2
   simp (disch:=first|assumption|omega|(simp only[ay]<;>omega)) only[go_sem,seval,t1,t2,t3,t4,t5,gn2,h30]
   generalize hM3:Nm.hp _ 2 M2=M3
   have hC3:Chg [n1] M2 M3:=bf hM3 rfl
   have h3:=h2.chg hC3 (fun q=>nr2 (by rw[one q];exact List.mem_singleton_self _)) fun i hi q=>nu2 i hi (one q)
   have hC03:=hC02.trans hC3 fun i hi ho=>(nm2 (one hi▸ho)).elim
   simp (disch:=first|assumption|omega) only[go_sem,seval,(ij h3 11).wf]
   exact hX (by simp) _ hC03
  ·rw[Q4 (by rw[odp];omega)] at hE
   simp (disch:=first|assumption|omega|(simp only[ay]<;>omega)) only[go_sem,seval,t1,t2,t3,t4,t5,gn2,h30]
   generalize hM3:Nm.hp _ 2 M2=M3
   have hC3:Chg [n1] M2 M3:=bf hM3 rfl
   have h3:=h2.chg hC3 (fun q=>nr2 (by rw[one q];exact List.mem_singleton_self _)) fun i hi q=>nu2 i hi (one q)
   have hC03:=hC02.trans hC3 fun i hi ho=>(nm2 (one hi▸ho)).elim
   have ed:(1+max (x.depth:Int) y.depth)=(((gQ c x y).depth:Nat):Int):=by rw[odp];omega
   rw[ed] at hM3
   have gn3:M3.get n1=some (.cells true [ii (gQ c x y).k,u64 (gQ c x y).n,u8 (gQ c x y).o,.str (gQ c x y).s,.slc (na M2 1) 0 2 5 2,ii (gQ c x y).depth]):=by rw[←hM3];exact (bF on2).trans a7
   have gs3:M3.get (na M2 1)=some (.cells true (x.l w++y.l w2)):=bu hM3
   have os3:aw M3 (na M2 1):=bB hM3 (by omega)
   have nz':n0∉ [n1]:=fun q=>nn (one q).symm
   obtain ⟨M4,r4,hC4⟩:=oh h3
   have h4:=h3.grow hC4
   have s3:aE (fun i=>¬aw m i/\i≠n0/\i≠n1) M2 M3:=aE.of hC3 fun i hi q=>hi.2.2 (one q)
   have hz3:=IS (o:=c) (hx2.stays s3) (hy2.stays s3) (id:=na M2 1) ⟨fun q=>aD (hC02.old q),fun q=>aD (q▸oz2),fun q=>aD (q▸on2)⟩ gs3 os3
   simp (disch:=first|assumption|omega) only[go_sem,seval,t1,t2,t3,t4,t5,r4.wf']
   exact ⟨f,by omega,_,M4,gQ c x y,s2,_,rfl,by simp only[go_sem,seval,t1],by simp only[go_sem,seval,t2],by simp only[go_sem,seval,t3],by simp only[go_sem,seval,t4],by simp only[go_sem,seval]<;>rfl,h4,he',(hC4.get (hC3.old on2) (by simp)).trans gn3,hz3.stays (iM hC4 _),by omega,by omega,hC4.old (hC3.old on2),(hC4.get (hC3.old oz2) (by simp)).trans ((hC3.get oz2 nz').trans gz2),hC4.old (hC3.old oz2),hC03.trans hC4 (by simp),hE,by omega⟩
end
end FR
open Go Nm Go.Proofs
namespace FR
abbrev z5:List NV:= [.int .i64 (.lit 0),.int .u64 (.lit 0),.int .u8 (.lit 0),.str [],.nils]
section
variable {m m' m0:NH} {r sb:D4} {u:NV} {L:List Tok} {a:Nat} {T T':List D4} {s s':Rs}
theorem GW:∀n,n<=30->Nn 104 r u L (dY L n) (30 - n):=by
 intro n
 induction n with
 |zero=>
  intro _
  have e2:dY L 0=dZ L (fun s=>(zE,s)) 30:=by funext s;rfl
  rw[e2]
  exact F1 (fun s=>fE (fun s=>St.refl _ s) s) (by omega) (Gb (fun s=>St.refl _ s) (by omega) fun h=>by omega)
 |succ n ih=>
  intro hn
  have e:30 - (n+1)=29 - n:=by omega
  have h1:29 - n+1=30 - n:=by omega
  have e2:dY L (n+1)=dZ L (dY L n) (29 - n):=by funext s;rfl
  rw[e,e2]
  exact F1 (fun s=>fE (bi L n) s) (by omega) (Gb (bi L n) (by omega) fun _=>by rw[h1];exact ih (by omega))
def QS (r:D4) (u:NV) (L:List Tok) (m:NH) (q:Ex×Rs) (v:NV) (m':NH):Prop:=(∃w,v= .agg (q.1.l w)/\RE m' (eB m) q.1 (q.1.l w))/\Rp m' r u L q.2.a/\Chg [r] m m'
theorem gC (h:Rp m r u L s.a) (hs:s.e=0):CX 91 [.ptr r 0] m [r] (cD L s).2 (QS r u L m (cD L s)):=by
 intro X K hX hK
 refine WF.of_wpG (fun _=>rfl) AP (L:= [(.e,.ptr r 0)]) rfl ?_
 unfold J0
 generalize hm1:hp [(.n 0,.cells true z5)] 1 m=m1
 have hm1':=hm1
 unfold z5 at hm1'
 have hC1:Chg [] m m1:=bf hm1 rfl
 have h1:=h.grow hC1
 have o1:aw m1 (na m 0):=bB hm1 (by omega)
 have g1:m1.get (na m 0)=some (.cells true z5):=bu hm1
 have nr:na m 0∉ [r]:=fun q=>h.o.ne 0 (one q).symm
 have hC1r:Chg [r] m m1:=hC1.weak (by simp)
 have hx30:=GW (r:=r) (u:=u) (L:=L) 30 (by omega)
 simp (disch:=first|assumption|omega) only[go_sem,seval,hm1']
 have e0:((0:Nat):Int)=0:=rfl
 refine hx30 m1 s h1 hs X _ (fun he m' hC=>hX he m' (hC1r.trans hC fun i hi _=>hi)) ?_
 rintro he v m2 ⟨⟨w,rfl,hx⟩,hd1,hd2,h2,hC2⟩
 unfold QS at hK
 generalize hq:dY L 30 s=q at *
 have hq':cD L s=q:=hq
 rw[hq'] at hK hX
 obtain ⟨x,s1⟩:=q
 dsimp only at *
 have g2:=(hC2.get o1 nr).trans g1
 unfold z5 at g2
 have o2:=hC2.old o1
 rw[←ab m2]
 have hf:O2 0 5 (.agg [ii x.k,u64 x.n,u8 x.o,.str x.s,w,ii x.depth])= .val (.agg (x.l w)):=rfl
 simp (disch:=first|assumption|omega|(simp only[ay]<;>omega)) only[go_sem,seval,g2,hf]
 generalize hM:hp _ 0 m2=M
 have hC3:Chg [na m 0] m2 M:=bf hM rfl
 refine hK he _ _ ⟨⟨w,rfl,ky (iA hx hC3 fun i hi=>one hi▸o1) hC1⟩,h2.chg hC3 (fun q=>h.o.ne 0 (one q)) fun i hi q=>aD (h.s.old _ (one q▸hi)),(hC1r.trans hC2 fun i hi _=>hi).trans hC3 fun i hi ho=> ?_⟩
 rw[one hi] at ho;exact Q3 ho aD
theorem qh {i:D4} (h:i∈ [r]):i∈ [r,sb]:=by rw[one h];simp
theorem Fe {s:Rs} (he:(gv L 1 s).e=0) (hs:s.e=0):(aJ L s).2=gv L 1 s/\(av L s.a).t=(aJ L s).1:=⟨(fJ hs).1,((fJ hs).2 ((fJ hs).1▸he)).symm⟩
theorem sS (h:Rp m r u L s.a) (hs:s.e=0) (hrs:r≠sb) (hsu:sb∉ids u) (ho:aw m sb) {c0 c1 c2 c3:NV} {c:List NV} (hl:c.length=12)
 (hg:m.get sb=some (.cells true (c0::c1::c2::c3::ii 0::u64 0::u8 0:: .str []:: .nils::c))):CX 105 [.ptr r 0,.ptr sb 0] m [r,sb] (aL L s).2.2 fun v m'=>
 v= .tup []/\(∃w,m'.get sb=some (.cells true (c0::c1::c2:: .str (aL L s).1::((aL L s).2.1.l w++c)))/\RE m' (eB m) (aL L s).2.1 ((aL L s).2.1.l w))/\Rp m' r u L (aL L s).2.2.a/\Chg [r,sb] m m':=by
 intro X K hX hK
 refine WF.of_wpG (fun _=>rfl) vo (L:= [(.a .e,.ptr sb 0),(.e,.ptr r 0)]) rfl ?_
 unfold CN
 have sr:sb∉ [r]:=fun q=>hrs (one q).symm
 have hor:=h.o
 unfold aL at hX hK
 rw[ab]
 simp (disch:=first|assumption|omega) only[go_sem,seval]
 refine nT h hs (k:=1) (by omega) X _ (fun he m' hC=> ?_) ?_
 ·have e1:=(fJ (L:=L) hs).1
  rw[Q4 (by rw[au,e1];simp[he])] at hX
  dsimp only at hX
  rw[e1] at hX
  exact hX he _ (hC.weak fun i hi _=>qh hi)
 rintro he _ m1 ⟨rfl,h1,hC1⟩
 obtain ⟨e1,e2⟩:=Fe he hs
 rw[←e1] at h1 he
 unfold Tok.l
 rw[e2]
 generalize aJ L s=q at hX hK h1 he
 obtain ⟨n,s1⟩:=q
 dsimp only at hX hK h1 he
 have hC01:Chg [r,sb] m m1:=hC1.weak fun i hi _=>qh hi
 have g1:=(hC1.get ho sr).trans hg
 have o1:=hC1.old ho
 rw[←ab m1]
 simp (disch:=first|assumption|omega|(simp only[ay]<;>omega)) only[go_sem,seval,g1]
 generalize hM2:hp _ 0 m1=m2
 have hC2:Chg [sb] m1 m2:=bf hM2 rfl
 have us:∀i∈ids u,i∉ [sb]:=fun i hi q=>hsu (one q▸hi)
 have rs:r∉ [sb]:=fun q=>hrs (one q)
 have h2:=h1.chg hC2 rs us
 have hC02:=hC01.trans hC2 fun i hi _=>by rw[one hi];simp
 have g2:m2.get sb=some (.cells true (c0::c1::c2:: .str n::ii 0::u64 0::u8 0:: .str []:: .nils::c)):=EJ o1 hM2
 have o2:=hC2.old o1
 obtain ⟨m3,r3,h3,hC3⟩:=fX h2 he (k:=3) (t:= [91]) (by omega) rfl
 have r3:a6 Tryz.prog S0 43 [.ptr r 0,ii 3,.str [91]] m2 (.bool (au L [91] s1)) m3:=r3
 have hC03:=hC02.trans hC3 fun i hi _=>qh hi
 have g3:=(hC3.get o2 sr).trans g2
 have o3:=hC3.old o2
 cases hb:au L [91] s1 with
 |false=>
  rw[hb] at r3 h3
  rw[Q4 Bool.false_ne_true] at h3
  rw[Q4 (by rw[hb];exact Bool.false_ne_true)] at hK
  simp (disch:=first|assumption|omega) only[go_sem,seval,r3.wf']
  exact hK he _ _ ⟨rfl,⟨.nils,g3,Ax _ _ 0 0 0 []⟩,h3,hC03⟩
 |true=>
  rw[hb] at r3 h3
  rw[Q5 rfl] at h3
  rw[Q5 hb] at hK hX
  simp (disch:=first|assumption|omega) only[go_sem,seval,r3.wf']
  refine gC h3 he X _ (fun he' m' hC=> ?_) ?_
  ·have e:=tH (L:=L) (w:= [93]) he'
   dsimp only at hX
   rw[e] at hX
   exact hX he' m' (hC03.trans hC fun i hi _=>qh hi)
  rintro he' _ m4 ⟨⟨w,rfl,hx⟩,h4,hC4⟩
  generalize hq:cD L (aa s1)=q at hX hK hx h4 he'
  have hq':dY L 30 (aa s1)=q:=hq
  obtain ⟨x,s4⟩:=q
  dsimp only at hX hK hx h4 he'
  have hC04:=hC03.trans hC4 fun i hi _=>qh hi
  have g4:=(hC4.get o3 sr).trans g3
  have o4:=hC4.old o3
  have hxl:(x.l w).length=5:=rfl
  rw[←ab m4]
  simp (disch:=first|assumption|omega|(simp only[ay]<;>omega)) only[go_sem,seval,g4,hxl,hl,Ex.l]
  generalize hM5:hp _ 0 m4=m5
  have hC5:Chg [sb] m4 m5:=bf hM5 rfl
  have h5:=h4.chg hC5 rs us
  have hC05:=hC04.trans hC5 fun i hi _=>by rw[one hi];simp
  have g5:m5.get sb=some (.cells true (c0::c1::c2:: .str n::(x.l w++c))):=EJ o4 hM5
  have o5:=hC5.old o4
  have hx5:=iA (ky hx hC03) hC5 fun i hi=>one hi▸ho
  refine jC h5 he' (t:= [93]) rfl X _ (fun he m' hC=>hX he m' (hC05.trans hC fun i hi _=>qh hi)) ?_
  rintro he'' _ m6 ⟨rfl,h6,hC6⟩
  simp (disch:=first|assumption|omega) only[go_sem,seval]
  exact hK he'' _ _ ⟨rfl,⟨w,(hC6.get o5 sr).trans g5,iA hx5 hC6 fun i hi=>one hi▸hor⟩,h6,hC05.trans hC6 fun i hi _=>qh hi⟩
end
end FR
open Go Nm Go.Proofs
namespace FR
section
variable (L:List Tok)
def OT (p:Int) (s:Rs):Stm×Rs:=(.mk 0 p (aJ L s).1 [] zE (cD L (aJ L s).2).1 zE [] [],(cD L (aJ L s).2).2)
def IH (p:Int) (s:Rs):Stm×Rs:=(.mk 1 p (aJ L s).1 (aL L (aJ L s).2).1 (aL L (aJ L s).2).2.1 zE zE [] [],(aL L (aJ L s).2).2.2)
def FM (p:Int) (s:Rs):Stm×Rs:=(.mk 2 p [] (aL L s).1 (aL L s).2.1 (cD L (aL L s).2.2).1 zE [] [],(cD L (aL L s).2.2).2)
def OS (p:Int) (s:Rs):Stm×Rs:=(.mk 3 p (aJ L s).1 (aL L (aJ L s).2).1 (aL L (aJ L s).2).2.1 (cD L (aL L (aJ L s).2).2.2).1 (cD L (cD L (aL L (aJ L s).2).2.2).2).1 [] [],(cD L (cD L (aL L (aJ L s).2).2.2).2).2)
def Iz (p:Int) (s:Rs):Stm×Rs:=(.mk 5 p [] [] zE (cD L s).1 zE [] [],(cD L s).2)
def oV (p:Int) (s:Rs):Stm×Rs:=
 if au L [115,101,116] s=true then OT L p (aa s)
 else if au L [108,111,97,100] s=true then IH L p (aa s)
 else if au L [115,116,111,114,101] s=true then FM L p (aa s)
 else if au L [99,97,115] s=true then OS L p (aa s)
 else if au L [102,101,110,99,101] s=true then (.mk 4 p [] [] zE zE zE [] [],aa s)
 else if au L [111,117,116] s=true then Iz L p (aa s)
 else (.mk 0 p [] [] zE zE zE [] [],aV 2 s)
end
structure Sx (r sb:D4) (u:NV) (L:List Tok) (m0 m:NH) (s:Rs) (c:List NV):Prop where
 h:Rp m r u L s.a
 e:s.e=0
 g:m.get sb=some (.cells true c)
 o:aw m sb
 C:Chg [r,sb] m0 m
 rs:r≠sb
 su:sb∉ids u
 ob:aw m0 sb
 or:aw m0 r
section
variable {m m' m0:NH} {r sb:D4} {u:NV} {L:List Tok} {a:Nat} {T T':List D4} {s s':Rs} {c c':List NV} {l:List (AK×NO)} {k:Nat}
theorem Sx.sr (h:Sx r sb u L m0 m s c):sb∉ [r]:=fun q=>h.rs (one q).symm
theorem Sx.call (h:Sx r sb u L m0 m s c) (hR:Rp m' r u L s'.a) (e:s'.e=0) (hC:Chg [r] m m'):Sx r sb u L m0 m' s' c:=
 ⟨hR,e,(hC.get h.o h.sr).trans h.g,hC.old h.o,h.C.trans hC fun i hi _=>qh hi,h.rs,h.su,h.ob,h.or⟩
theorem Sx.put (h:Sx r sb u L m0 m s c) (hM:hp ((.o sb,.cells true c')::l) k m=m') (hk:∀i∈aF ((.o sb,.cells true c')::l),i=sb):Sx r sb u L m0 m' s c':=by
 have hC:Chg [sb] m m':=by rw[←hM];exact (pn _ _ _).weak fun i hi _=>by rw[hk i hi];simp
 refine ⟨h.h.chg hC (fun q=>h.rs (one q)) fun i hi q=>h.su (one q▸hi),h.e, ?_,hC.old h.o,h.C.trans hC fun i hi _=>by rw[one hi];simp,h.rs,h.su,h.ob,h.or⟩
 rw[←hM];exact (bF h.o).trans a7
theorem Sx.re1 (h:Sx r sb u L m0 m s c) (h':Sx r sb u L m0 m' s' c') (hC:Chg [r,sb] m m') {x:Ex} {d:List NV} (hx:RE m (eB m0) x d):RE m' (eB m0) x d:=iA hx hC fun i hi=>by
 rcases List.mem_cons.1 hi with rfl|hi
 ·exact h.or
 ·exact one hi▸h.ob
theorem Sx.cr (hC:Chg [r] m m'):Chg [r,sb] m m':=hC.weak fun i hi _=>qh hi
theorem Sx.cs (hM:hp ((.o sb,.cells true c')::l) k m=m') (hk:∀i∈aF ((.o sb,.cells true c')::l),i=sb):Chg [r,sb] m m':=by rw[←hM];exact (pn _ _ _).weak fun i hi _=>by rw[hk i hi];simp
theorem Sx.fe (h:Sx r sb u L m0 m s c) (hC:Chg [r] m m'):Chg [r,sb] m0 m':=h.C.trans hC fun i hi _=>qh hi
theorem Sx.fe2 (h:Sx r sb u L m0 m s c) (hC:Chg [r,sb] m m'):Chg [r,sb] m0 m':=h.C.trans hC fun i hi _=>hi
theorem Sx.new (h:Sx r sb u L m0 m s c) (hC:Chg [r] m m') {x:Ex} {d:List NV} (hx:RE m' (eB m) x d):RE m' (eB m0) x d:=ky hx h.C
theorem Sx.take (h:Sx r sb u L m0 m s c) {k:Nat} (h5:k≠5) {t:List Nat} (hk:eK t=k):∃m',a6 Tryz.prog S0 43 [.ptr r 0,ii k,.str t] m (.bool (au L t s)) m'/\Sx r sb u L m0 m' (if au L t s=true then aa s else s) c:=by
 obtain ⟨m',r1,h1,hC1⟩:=fX h.h h.e h5 hk
 refine ⟨m',r1,h.call h1 ?_ hC1⟩
 split<;>exact h.e
theorem lz (h:Rp m r u L s.a) (hs:s.e=0):CX 45 [.ptr r 0,ii 1] m [r] (aJ L s).2 fun v m'=>(∃(k n p:Nat),v= .agg [ii k,.str (aJ L s).1,u64 n,ii p])/\Rp m' r u L (aJ L s).2.a/\Chg [r] m m':=by
 intro X K hX hK
 refine nT h hs (k:=1) (by omega) X K (fun he m' hC=> ?_) ?_
 ·rw[←(fJ hs).1] at he ⊢
  exact hX he m' hC
 ·rintro he v m' ⟨rfl,h1,hC⟩
  obtain ⟨e1,e2⟩:=Fe he hs
  rw[←e1] at h1 he
  exact hK he _ _ ⟨⟨(av L s.a).k,(av L s.a).n,(av L s.a).p,by rw[←e2];rfl⟩,h1,hC⟩
def Sq (r sb:D4) (u:NV) (L:List Tok) (m:NH) (q:Stm×Rs) (v:NV) (m':NH):Prop:=v= .tup []/\(∃w,m'.get sb=some (.cells true (q.1.l w))/\RS m' (eB m) q.1 (q.1.l w))/\Rp m' r u L q.2.a/\Chg [r,sb] m m'
set_option maxHeartbeats 4000000 in
theorem ET {p:Int} (i0:Sx r sb u L m m s (cQ 0 p)):CX 92 [.ptr r 0,.ptr sb 0] m [r,sb] (oV L p s).2 (Sq r sb u L m (oV L p s)):=by
 intro X K hX hK
 refine WF.of_wpG (fun _=>rfl) As (L:= [(.a .e,.ptr sb 0),(.e,.ptr r 0)]) rfl ?_
 unfold JN
 rw[ab]
 have hX':∀t,St L t (oV L p s).2->t.e≠0->∀m',Chg [r,sb] m m'->X (Iw t) m':=fun t hst he m' hC=>by
  have:=hst.err he;rw[this] at hX;exact hX he m' hC
 have hf:∀{M:NH} {s':Rs} {y:Stm} {w:SV},Sx r sb u L m M s' (y.l w)->RS M (eB m) y (y.l w)->oV L p s=(y,s')->K (.tup []) M:=fun h1 h2 h3=>by
  rw[h3] at hK
  exact hK h1.e _ _ ⟨rfl,⟨_,h1.g,h2⟩,h1.h,h1.C⟩
 have z0:∀M,RE M (eB m) zE (zE.l .nils):=fun M=>gL M _
 clear hX hK
 obtain ⟨m1,r1,i1⟩:=i0.take (k:=4) (t:= [115,101,116]) (by omega) rfl
 have r1:a6 Tryz.prog S0 43 [.ptr r 0,ii 4,.str [115,101,116]] m (.bool (au L [115,101,116] s)) m1:=r1
 unfold oV at hX' hf
 cases b1:au L [115,101,116] s with
 |true=>
  rw[b1] at r1 i1
  rw[Q5 rfl] at i1
  rw[Q5 b1] at hX' hf
  unfold OT at hX' hf
  simp (config:={maxSteps:=1000000}) (disch:=first|assumption|omega|(apply ai;omega)|(apply ae;assumption)|(simp only[ay]<;>omega)) only[go_sem,seval,r1.wf']
  refine lz i1.h i1.e X _ (fun he m' hC=>hX' _ (bi L 30 _) he m' (i1.fe hC)) ?_
  rintro he _ m21 ⟨⟨_,_,_,rfl⟩,h21,hC21⟩
  have i21:=i1.call h21 he hC21
  have g22:=i21.g
  unfold cQ at g22
  have o22:=i21.o
  rw[←ab m21]
  simp (config:={maxSteps:=1000000}) (disch:=first|assumption|omega|(apply ai;omega)|(apply ae;assumption)|(simp only[ay]<;>omega)) only[go_sem,seval,g22]
  generalize hM23:hp _ 0 m21=m23
  have i23:=i21.put hM23 (by simp[aF])
  refine gC i23.h i23.e X _ (fun he m' hC=>hX' _ (St.refl _ _) he m' (i23.fe hC)) ?_
  rintro he2 _ m24 ⟨⟨w,rfl,hx⟩,h24,hC24⟩
  have i24:=i23.call h24 he2 hC24
  have hx:=i23.new hC24 hx
  have g25:=i24.g
  have o25:=i24.o
  rw[←ab m24]
  simp (config:={maxSteps:=1000000}) (disch:=first|assumption|omega|(apply ai;omega)|(apply ae;assumption)|(simp only[ay]<;>omega)) only[go_sem,seval,g25,Ex.l]
  generalize hM26:hp _ 0 m24=m26
  have i26:=i24.put hM26 (by simp[aF])
  have hx:=i24.re1 i26 (Sx.cs hM26 (by simp[aF])) hx
  exact hf (w:=⟨.nils,w,.nils,.nils,.nils⟩) i26 (RS.of (z0 _) hx (z0 _) (kl _ _) (kl _ _)) rfl
 |false=>
 rw[b1] at r1 i1
 rw[Q4 Bool.false_ne_true] at i1
 rw[Q4 (by rw[b1];exact Bool.false_ne_true)] at hX' hf
 obtain ⟨m2,r2,i2⟩:=i1.take (k:=4) (t:= [108,111,97,100]) (by omega) rfl
 have r2:a6 Tryz.prog S0 43 [.ptr r 0,ii 4,.str [108,111,97,100]] m1 (.bool (au L [108,111,97,100] s)) m2:=r2
 cases b2:au L [108,111,97,100] s with
 |true=>
  rw[b2] at r2 i2
  rw[Q5 rfl] at i2
  rw[Q5 b2] at hX' hf
  unfold IH at hX' hf
  simp (config:={maxSteps:=1000000}) (disch:=first|assumption|omega|(apply ai;omega)|(apply ae;assumption)|(simp only[ay]<;>omega)) only[go_sem,seval,r1.wf',r2.wf']
  refine lz i2.h i2.e X _ (fun he m' hC=>hX' _ (cY _) he m' (i2.fe hC)) ?_
  rintro he _ m21 ⟨⟨_,_,_,rfl⟩,h21,hC21⟩
  have i21:=i2.call h21 he hC21
  have g22:=i21.g
  unfold cQ at g22
  have o22:=i21.o
  rw[←ab m21]
  simp (config:={maxSteps:=1000000}) (disch:=first|assumption|omega|(apply ai;omega)|(apply ae;assumption)|(simp only[ay]<;>omega)) only[go_sem,seval,g22,Ex.l]
  generalize hM22:hp _ 0 m21=m22
  have i22:=i21.put hM22 (by simp[aF])
  have gp23:=i22.g
  refine sS i22.h i22.e i22.rs i22.su i22.o (by simp) gp23 X _ (fun he m' hC=>hX' _ (St.refl _ _) he m' (i22.fe2 hC)) ?_
  rintro he _ m23 ⟨rfl,⟨w,G23,hx⟩,h23,hC23⟩
  have i23:Sx r sb u L m m23 _ _:=⟨h23,he,G23,hC23.old i22.o,i22.fe2 hC23,i22.rs,i22.su,i22.ob,i22.or⟩
  have hx:=ky hx i22.C
  simp (config:={maxSteps:=1000000}) (disch:=first|assumption|omega|(apply ai;omega)|(apply ae;assumption)|(simp only[ay]<;>omega)) only[go_sem,seval]
  exact hf (w:=⟨w,.nils,.nils,.nils,.nils⟩) i23 (RS.of hx (z0 _) (z0 _) (kl _ _) (kl _ _)) rfl
 |false=>
 rw[b2] at r2 i2
 rw[Q4 Bool.false_ne_true] at i2
 rw[Q4 (by rw[b2];exact Bool.false_ne_true)] at hX' hf
 obtain ⟨m3,r3,i3⟩:=i2.take (k:=4) (t:= [115,116,111,114,101]) (by omega) rfl
 have r3:a6 Tryz.prog S0 43 [.ptr r 0,ii 4,.str [115,116,111,114,101]] m2 (.bool (au L [115,116,111,114,101] s)) m3:=r3
 cases b3:au L [115,116,111,114,101] s with
 |true=>
  rw[b3] at r3 i3
  rw[Q5 rfl] at i3
  rw[Q5 b3] at hX' hf
  unfold FM at hX' hf
  have g3:=i3.g
  unfold cQ at g3
  have o3:=i3.o
  simp (config:={maxSteps:=1000000}) (disch:=first|assumption|omega|(apply ai;omega)|(apply ae;assumption)|(simp only[ay]<;>omega)) only[go_sem,seval,r1.wf',r2.wf',r3.wf,g3]
  generalize hM22:hp _ 0 m3=m22
  have i22:=i3.put hM22 (by simp[aF])
  have gp23:=i22.g
  refine sS i22.h i22.e i22.rs i22.su i22.o (by simp) gp23 X _ (fun he m' hC=>hX' _ (bi L 30 _) he m' (i22.fe2 hC)) ?_
  rintro he _ m23 ⟨rfl,⟨w,G23,hx⟩,h23,hC23⟩
  have i23:Sx r sb u L m m23 _ _:=⟨h23,he,G23,hC23.old i22.o,i22.fe2 hC23,i22.rs,i22.su,i22.ob,i22.or⟩
  have hx:=ky hx i22.C
  simp (config:={maxSteps:=1000000}) (disch:=first|assumption|omega|(apply ai;omega)|(apply ae;assumption)|(simp only[ay]<;>omega)) only[go_sem,seval]
  refine gC i23.h i23.e X _ (fun he m' hC=>hX' _ (St.refl _ _) he m' (i23.fe hC)) ?_
  rintro he _ m24 ⟨⟨v,rfl,hy⟩,h24,hC24⟩
  have i24:=i23.call h24 he hC24
  have hy:=i23.new hC24 hy
  have hx:=i23.re1 i24 (Sx.cr hC24) hx
  have g25:=i24.g
  have o25:=i24.o
  rw[←ab m24]
  simp (config:={maxSteps:=1000000}) (disch:=first|assumption|omega|(apply ai;omega)|(apply ae;assumption)|(simp only[ay]<;>omega)) only[go_sem,seval,g25,Ex.l]
  generalize hM25:hp _ 0 m24=m25
  have i25:=i24.put hM25 (by simp[aF])
  have hx:=i24.re1 i25 (Sx.cs hM25 (by simp[aF])) hx
  have hy:=i24.re1 i25 (Sx.cs hM25 (by simp[aF])) hy
  exact hf (w:=⟨w,v,.nils,.nils,.nils⟩) i25 (RS.of hx hy (z0 _) (kl _ _) (kl _ _)) rfl
 |false=>
 rw[b3] at r3 i3
 rw[Q4 Bool.false_ne_true] at i3
 rw[Q4 (by rw[b3];exact Bool.false_ne_true)] at hX' hf
 obtain ⟨m4,r4,i4⟩:=i3.take (k:=4) (t:= [99,97,115]) (by omega) rfl
 have r4:a6 Tryz.prog S0 43 [.ptr r 0,ii 4,.str [99,97,115]] m3 (.bool (au L [99,97,115] s)) m4:=r4
 cases b4:au L [99,97,115] s with
 |true=>
  rw[b4] at r4 i4
  rw[Q5 rfl] at i4
  rw[Q5 b4] at hX' hf
  unfold OS at hX' hf
  simp (config:={maxSteps:=1000000}) (disch:=first|assumption|omega|(apply ai;omega)|(apply ae;assumption)|(simp only[ay]<;>omega)) only[go_sem,seval,r1.wf',r2.wf',r3.wf',r4.wf']
  refine lz i4.h i4.e X _ (fun he m' hC=>hX' _ (((cY _).trans (bi L 30 _)).trans (bi L 30 _)) he m' (i4.fe hC)) ?_
  rintro he _ m21 ⟨⟨_,_,_,rfl⟩,h21,hC21⟩
  have i21:=i4.call h21 he hC21
  have g22:=i21.g
  unfold cQ at g22
  have o22:=i21.o
  rw[←ab m21]
  simp (config:={maxSteps:=1000000}) (disch:=first|assumption|omega|(apply ai;omega)|(apply ae;assumption)|(simp only[ay]<;>omega)) only[go_sem,seval,g22,Ex.l]
  generalize hM22:hp _ 0 m21=m22
  have i22:=i21.put hM22 (by simp[aF])
  have gp23:=i22.g
  refine sS i22.h i22.e i22.rs i22.su i22.o (by simp) gp23 X _ (fun he m' hC=>hX' _ ((bi L 30 _).trans (bi L 30 _)) he m' (i22.fe2 hC)) ?_
  rintro he _ m23 ⟨rfl,⟨w,G23,hx⟩,h23,hC23⟩
  have i23:Sx r sb u L m m23 _ _:=⟨h23,he,G23,hC23.old i22.o,i22.fe2 hC23,i22.rs,i22.su,i22.ob,i22.or⟩
  have hx:=ky hx i22.C
  simp (config:={maxSteps:=1000000}) (disch:=first|assumption|omega|(apply ai;omega)|(apply ae;assumption)|(simp only[ay]<;>omega)) only[go_sem,seval]
  refine gC i23.h i23.e X _ (fun he m' hC=>hX' _ (bi L 30 _) he m' (i23.fe hC)) ?_
  rintro he _ m24 ⟨⟨v,rfl,hy⟩,h24,hC24⟩
  have i24:=i23.call h24 he hC24
  have hy:=i23.new hC24 hy
  have hx:=i23.re1 i24 (Sx.cr hC24) hx
  have g25:=i24.g
  have o25:=i24.o
  rw[←ab m24]
  simp (config:={maxSteps:=1000000}) (disch:=first|assumption|omega|(apply ai;omega)|(apply ae;assumption)|(simp only[ay]<;>omega)) only[go_sem,seval,g25,Ex.l]
  generalize hM25:hp _ 0 m24=m25
  have i25:=i24.put hM25 (by simp[aF])
  have hx:=i24.re1 i25 (Sx.cs hM25 (by simp[aF])) hx
  have hy:=i24.re1 i25 (Sx.cs hM25 (by simp[aF])) hy
  refine gC i25.h i25.e X _ (fun he m' hC=>hX' _ (St.refl _ _) he m' (i25.fe hC)) ?_
  rintro he _ m26 ⟨⟨z,rfl,hz⟩,h26,hC26⟩
  have i26:=i25.call h26 he hC26
  have hz:=i25.new hC26 hz
  have hx:=i25.re1 i26 (Sx.cr hC26) hx
  have hy:=i25.re1 i26 (Sx.cr hC26) hy
  have g27:=i26.g
  have o27:=i26.o
  rw[←ab m26]
  simp (config:={maxSteps:=1000000}) (disch:=first|assumption|omega|(apply ai;omega)|(apply ae;assumption)|(simp only[ay]<;>omega)) only[go_sem,seval,g27,Ex.l]
  generalize hM27:hp _ 0 m26=m27
  have i27:=i26.put hM27 (by simp[aF])
  have hx:=i26.re1 i27 (Sx.cs hM27 (by simp[aF])) hx
  have hy:=i26.re1 i27 (Sx.cs hM27 (by simp[aF])) hy
  have hz:=i26.re1 i27 (Sx.cs hM27 (by simp[aF])) hz
  exact hf (w:=⟨w,v,z,.nils,.nils⟩) i27 (RS.of hx hy hz (kl _ _) (kl _ _)) rfl
 |false=>
 rw[b4] at r4 i4
 rw[Q4 Bool.false_ne_true] at i4
 rw[Q4 (by rw[b4];exact Bool.false_ne_true)] at hX' hf
 obtain ⟨m5,r5,i5⟩:=i4.take (k:=4) (t:= [102,101,110,99,101]) (by omega) rfl
 have r5:a6 Tryz.prog S0 43 [.ptr r 0,ii 4,.str [102,101,110,99,101]] m4 (.bool (au L [102,101,110,99,101] s)) m5:=r5
 cases b5:au L [102,101,110,99,101] s with
 |true=>
  rw[b5] at r5 i5
  rw[Q5 rfl] at i5
  rw[Q5 b5] at hX' hf
  have g5:=i5.g
  unfold cQ at g5
  have o5:=i5.o
  simp (config:={maxSteps:=1000000}) (disch:=first|assumption|omega|(apply ai;omega)|(apply ae;assumption)|(simp only[ay]<;>omega)) only[go_sem,seval,r1.wf',r2.wf',r3.wf',r4.wf',r5.wf,g5]
  generalize hM22:hp _ 0 m5=m22
  have i22:=i5.put hM22 (by simp[aF])
  exact hf (w:=⟨.nils,.nils,.nils,.nils,.nils⟩) i22 (RS.of (z0 _) (z0 _) (z0 _) (kl _ _) (kl _ _)) rfl
 |false=>
 rw[b5] at r5 i5
 rw[Q4 Bool.false_ne_true] at i5
 rw[Q4 (by rw[b5];exact Bool.false_ne_true)] at hX' hf
 obtain ⟨m6,r6,i6⟩:=i5.take (k:=4) (t:= [111,117,116]) (by omega) rfl
 have r6:a6 Tryz.prog S0 43 [.ptr r 0,ii 4,.str [111,117,116]] m5 (.bool (au L [111,117,116] s)) m6:=r6
 cases b6:au L [111,117,116] s with
 |true=>
  rw[b6] at r6 i6
  rw[Q5 rfl] at i6
  rw[Q5 b6] at hX' hf
  unfold Iz at hX' hf
  simp (config:={maxSteps:=1000000}) (disch:=first|assumption|omega|(apply ai;omega)|(apply ae;assumption)|(simp only[ay]<;>omega)) only[go_sem,seval,r1.wf',r2.wf',r3.wf',r4.wf',r5.wf',r6.wf']
  refine gC i6.h i6.e X _ (fun he m' hC=>hX' _ (St.refl _ _) he m' (i6.fe hC)) ?_
  rintro he _ m21 ⟨⟨w,rfl,hx⟩,h21,hC21⟩
  have i21:=i6.call h21 he hC21
  have hx:=i6.new hC21 hx
  have g22:=i21.g
  unfold cQ at g22
  have o22:=i21.o
  rw[←ab m21]
  simp (config:={maxSteps:=1000000}) (disch:=first|assumption|omega|(apply ai;omega)|(apply ae;assumption)|(simp only[ay]<;>omega)) only[go_sem,seval,g22,Ex.l]
  generalize hM22:hp _ 0 m21=m22
  have i22:=i21.put hM22 (by simp[aF])
  have hx:=i21.re1 i22 (Sx.cs hM22 (by simp[aF])) hx
  exact hf (w:=⟨.nils,w,.nils,.nils,.nils⟩) i22 (RS.of (z0 _) hx (z0 _) (kl _ _) (kl _ _)) rfl
 |false=>
 rw[b6] at r6 i6
 rw[Q4 Bool.false_ne_true] at i6
 rw[Q4 (by rw[b6];exact Bool.false_ne_true)] at hX' hf
 simp (config:={maxSteps:=1000000}) (disch:=first|assumption|omega|(apply ai;omega)|(apply ae;assumption)|(simp only[ay]<;>omega)) only[go_sem,seval,r1.wf',r2.wf',r3.wf',r4.wf',r5.wf',r6.wf',(ij i6.h 2).wf]
 refine hX' (aV 2 s) (St.refl _ _) (by rw[cl i0.e];simp) _ i6.C |> fun h=> ?_
 rw[cl i0.e] at h
 exact h
end
end FR
open Go Nm Go.Proofs
namespace FR
def QP (r:D4) (u:NV) (L:List Tok) (S:Rs->Stm×Rs) (d:Nat):Prop:=∀(m:NH) (s:Rs),Rp m r u L s.a->s.e=0->CX 67 [.ptr r 0,ii d] m [r] (S s).2 fun v m'=>
 (∃w,v= .agg ((S s).1.l w)/\RS m' (eB m) (S s).1 ((S s).1.l w))/\Rp m' r u L (S s).2.a/\Chg [r] m m'
def Qf (r:D4) (u:NV) (L:List Tok) (B:Rs->List Stm×Rs) (d:Nat):Prop:=∀(m:NH) (s:Rs),Rp m r u L s.a->s.e=0->CX 46 [.ptr r 0,ii d] m [r] (B s).2 fun v m'=>
 (∃C,SS m' (eB m) v (B s).1 C)/\Rp m' r u L (B s).2.a/\Chg [r] m m'
theorem yk {L:List Tok} {s:Rs} (hs:s.e=0):au L [123] s=decide ((av L s.a).k=3/\(av L s.a).t= [123]):=by
 have:eK [123]=3:=rfl
 unfold au;simp[hs,this]
section
variable {m m' m0:NH} {r sb:D4} {u:NV} {L:List Tok} {a:Nat} {T T':List D4} {s s':Rs}
theorem Ft {S:Rs->Stm×Rs} {d:Nat} (hst:∀s,St L s (S s).2) (hpr:∀s,s.e=0->s.a<(S s).2.a∨(S s).2.e≠0) (ih:d<=29->QP r u L S d):Qf r u L (dD L S d) d:=by
 intro m s h hs E K hE hK
 refine WF.of_wpG (fun _=>rfl) zk (L:= [(.a .e,ii d),(.e,.ptr r 0)]) rfl ?_
 unfold Lh
 obtain ⟨m1,r1,hC1⟩:=Jf h 3 [123]
 have r1:a6 Tryz.prog S0 47 [.ptr r 0,ii 3,.str [123]] m (.bool (decide ((av L s.a).k=3/\(av L s.a).t= [123]))) m1:=r1
 have h1:=h.grow hC1
 have c01:Chg [r] m m1:=hC1.weak (by simp)
 have hX:c9 L S (L.length+1) [] (aT L [123] (cp L d s))=((dD L S d s).1,(dD L S d s).2):=rfl
 rw[ab]
 generalize (dD L S d s).1=X at hX hK
 generalize (dD L S d s).2=Z at hX hK hE
 have hstop:∀(f:Nat) (l:List Stm) (t:Rs),t.e≠0->c9 L S f l t=(l,t):=fun f l t ht=>by
  cases f with
  |zero=>rfl
  |succ f=>rw[c9,Q5 ht]
 have go:d<=29->∀(s:Rs),s.e=0->∀(m2:NH),Rp m2 r u L s.a->Chg [r] m m2->c9 L S (L.length+1) [] s=(X,Z)->∀(t:Tm),NT.get D4.e t=some (.ptr r 0)->NT.get D4.e.a t=some (ii d)->NT.get D4.e.a.a t=some .nils->
  ∀Q:Out->Dyn->Prop,(∀t' M v C,NT.get D4.e.a.a t'=some v->Z.e=0->SS M (eB m) v X C->Rp M r u L Z.a->Chg [r] m M->Q (.exit 0) ⟨am [] t', [],none,M⟩)->W ⟨Tryz.prog,E⟩ S0 none rW.loop ⟨t, [],none,m2⟩ Q:=by
  clear hX r1 h1 c01 hC1 hK
  intro hd s hs m2 h2 c02 hX t t1 t2 t3 Q hQ
  refine Nm.W.loop (fun k dy=>∃T M l s v C,dy=⟨T, [],none,M⟩/\NT.get D4.e T=some (.ptr r 0)/\NT.get D4.e.a T=some (ii d)/\NT.get D4.e.a.a T=some v/\Rp M r u L s.a/\s.e=0/\Chg [r] m M/\dq m M v 21 C/\C.length=l.length/\(∀(j:Nat) (x:Stm) (c:List NV),l[j]? =some x->C[j]? =some c->RS M (fun i=>¬aw m i/\i∉ids v) x c)/\c9 L S k l s=(X,Z)/\L.length<k+s.a/\l.length<=s.a) ?_ (L.length+1) _
   ⟨t,m2, [],s,.nils, [],rfl,t1,t2,t3,h2,hs,c02,dq.nil,rfl,by simp,hX,by omega,by simp⟩
  clear t1 t2 t3 hX c02 h2 hs
  rintro k dy ⟨T,M,l,s,v,C,rfl,t1,t2,t3,hI,hs,hC,ho,hcl,hR,hX,hf,hls⟩
  apply aM
  unfold rW
  change wp _ _ _ _ ⟨am [] T, [],none,M⟩ _
  have ha:=hI.a
  have hl:=hI.l
  obtain ⟨f,rfl⟩:∃f',k=f'+1:=⟨k - 1,by omega⟩
  rw[c9,Q4 (by omega)] at hX
  obtain ⟨m3,r3,h3,hC3⟩:=fX hI hs (k:=3) (t:= [125]) (by omega) rfl
  have r3:a6 Tryz.prog S0 43 [.ptr r 0,ii 3,.str [125]] M (.bool (au L [125] s)) m3:=r3
  have c03:=hC.trans hC3 fun i hi _=>hi
  have horm:aw m r:=h.o
  have vr:∀i∈ids v,i∉ [r]:=fun i hi q=>ho.new i hi (one q▸horm)
  have hst3:aE (fun i=>¬aw m i/\i∉ids v) M m3:=aE.of hC3 fun i hi hs=>by
   have hs:=one hs;subst hs;exact hi.1 horm
  have o3:=ho.chg hC3 vr
  cases hb:au L [125] s with
  |true=>
   rw[hb] at r3 h3
   rw[Q5 rfl] at h3
   rw[Q5 hb] at hX
   injection hX with e1 e2
   subst e1 e2
   simp (disch:=first|assumption|omega) only[go_sem,seval,t1,t2,t3,r3.wf']
   exact hQ _ _ v C (by simp only[go_sem,seval,t3]) hs ⟨o3.sl,fun i hi=>o3.new i hi,hcl,fun j x c h1 h2=>((hR j x c h1 h2).stays hst3).weak fun i hi=>hi.1⟩ h3 c03
  |false=>
   rw[hb] at r3 h3
   rw[Q4 Bool.false_ne_true] at h3
   rw[Q4 (by rw[hb];exact Bool.false_ne_true)] at hX
   simp (disch:=first|assumption|omega) only[go_sem,seval,t1,t2,t3,r3.wf']
   refine ih hd m3 s h3 hs E _ (fun he m' hC'=> ?_) ?_
   ·rw[hstop _ _ _ he] at hX
    injection hX with e1 e2
    rw[e2] at he ⊢
    exact hE he m' (c03.trans hC' fun i hi _=>hi)
   rintro he _ m4 ⟨⟨w,rfl,hx4⟩,h4,hC4⟩
   have hpr':=hpr s hs
   generalize S s=q at hX hx4 h4 he hpr'
   obtain ⟨x,s4⟩:=q
   dsimp only at hX hx4 h4 he hpr'
   have c04:=c03.trans hC4 fun i hi _=>hi
   have o4:=o3.chg hC4 vr
   have ha4:=h4.a
   have hxl:(x.l w).length=21:=rfl
   rw[←ab m4]
   simp (disch:=first|assumption|omega|(simp only[ay]<;>omega)) only[go_sem,seval,t1,t2,t3,hxl]
   generalize hm5:hp [(.n 0,.cells true _)] 1 m4=m5
   have hm5:hp [(.n 0,.cells true (x.l w))] 1 m4=m5:=hm5
   have hC5:Chg [] m4 m5:=bf hm5 rfl
   have h5:=h4.grow hC5
   have c05:=c04.trans hC5 (by simp)
   obtain ⟨v',m6,q1,q2,hC6,hF⟩:=(o4.chg hC5 (by simp)).app2 (bytes:=288) (kc:=1) (x:=na m4 0) (cs:=x.l w) (bu hm5) (bB hm5 (by omega)) hxl (fun i hi=>c05.old hi) (by omega) (by omega)
   simp (config:={maxSteps:=1000000}) (disch:=first|assumption|omega|(apply ai;omega)|(apply ae;assumption)|(simp only[ay]<;>omega)) only[go_sem,seval,t1,t2,t3,q1]
   have hC35:Chg [r] m3 m5:=hC4.trans hC5 (by simp)
   refine ⟨f,by omega,_,m6,l++ [x],s4,v',C++ [x.l w],by rfl,by simp only[go_sem,seval,t1],by simp only[go_sem,seval,t2],by simp only[go_sem,seval],h5.chg hC6 (fun q=>ho.new _ q h.o) (fun i hi q=>ho.new i q (h.s.old i hi)),he,c05.trans hC6 fun i hi ho'=>(ho.new i hi ho').elim,q2,by simp[hcl], ?_,hX,by omega,by simp;omega⟩
   have hold:∀(j:Nat) (y:Stm) (c:List NV),l[j]? =some y->C[j]? =some c->RS m6 (fun i=>¬aw m i/\i∉ids v') y c:=fun j y c h1 h2=>by
    have a1:=((hR j y c h1 h2).stays hst3).stays (m':=m5) (aE.of hC35 fun i hi hs=>by
     have hs:=one hs;subst hs;exact hi.1 horm)
    have a2:=a1.old.stays (m':=m6) (aE.of hC6 fun i hi hs=>hi.1.2 hs)
    exact a2.weak fun i hi=>⟨hi.1.1,fun h=>(hF i h).elim hi.1.2 fun q=>q hi.2⟩
   have hnew:RS m6 (fun i=>¬aw m i/\i∉ids v') x (x.l w):=by
    have a1:RS m5 (eB m3) x (x.l w):=hx4.stays (iM hC5 _)
    have a2:=a1.old.stays (m':=m6) (aE.of hC6 fun i hi hs=>hi.1 (o3.sl.old i hs))
    exact a2.weak fun i hi=>⟨fun h=>hi.1 (c03.old h),fun h=>(hF i h).elim (fun q=>hi.1 (o3.sl.old i q)) fun q=>q hi.2⟩
   intro j y c h1 h2
   rcases Nat.lt_or_ge j l.length with h|h
   ·rw[List.getElem?_append_left h] at h1
    rw[List.getElem?_append_left (by omega)] at h2
    exact hold j y c h1 h2
   ·rw[List.getElem?_append_right h] at h1
    rw[List.getElem?_append_right (by omega),hcl] at h2
    cases hj:j - l.length with
    |zero=>rw[hj] at h1 h2;cases h1;cases h2;exact hnew
    |succ n=>rw[hj] at h1;simp at h1
 have hbr:=yk (L:=L) hs
 cases hd:decide ((av L s.a).k=3/\(av L s.a).t= [123]) with
 |false=>
  rw[hd] at r1 hbr
  have e1:cp L d s=s:=by rw[cp,Q4 (fun q=>of_decide_eq_false hd ⟨q.2.2.1,q.2.2.2⟩)]
  have e2:aT L [123] s=aV 2 s:=by rw[aT,hbr,Q4 Bool.false_ne_true]
  rw[e1] at hX
  simp (disch:=first|assumption|omega) only[go_sem,seval,r1.wf']
  refine jC h1 hs (t:= [123]) rfl E _ (fun he m' hC=> ?_) ?_
  ·rw[hstop _ _ _ he] at hX
   injection hX with _ e3
   rw[e3] at he ⊢
   exact hE he m' (c01.trans hC fun i hi _=>hi)
  ·intro he
   rw[e2,cl hs] at he;simp at he
 |true=>
  rw[hd] at r1 hbr
  by_cases h29:29<d
  ·have e1:cp L d s=aV 11 s:=by rw[cp,Q5 ⟨hs,h29,of_decide_eq_true hd⟩]
   have he:(aV 11 s).e≠0:=by rw[cl hs];simp
   rw[e1,tH he,hstop _ _ _ he] at hX
   injection hX with _ e3
   rw[←e3,cl hs] at hE
   simp (disch:=first|assumption|omega) only[go_sem,seval,r1.wf',h29,(ij h1 11).wf]
   exact hE (by simp) _ c01
  ·have e1:cp L d s=s:=by rw[cp,Q4 (fun q=>h29 q.2.1)]
   rw[e1] at hX
   simp (disch:=first|assumption|omega) only[go_sem,seval,r1.wf',h29]
   refine jC h1 hs (t:= [123]) rfl E _ (fun he m' hC=> ?_) ?_
   ·rw[hstop _ _ _ he] at hX
    injection hX with _ e3
    rw[e3] at he ⊢
    exact hE he m' (c01.trans hC fun i hi _=>hi)
   rintro he _ m2 ⟨rfl,h2,hC2⟩
   simp (disch:=first|assumption|omega) only[go_sem,seval]
   refine go (by omega) _ he m2 h2 (c01.trans hC2 fun i hi _=>hi) hX _ (by simp only[go_sem,seval]) (by simp only[go_sem,seval]) (by simp only[go_sem,seval]) _ ?_
   intro t' M v C tv hz hS hR hC
   have hv:=hS.sl.one
   simp (disch:=first|assumption|omega) only[go_sem,seval,tv]
   exact hK hz _ _ ⟨⟨C,hS⟩,hR,hC⟩
end
end FR
open Go Nm Go.Proofs
namespace FR
section
variable {L:List Tok} {B:Rs->List Stm×Rs} {s:Rs}
theorem dM {w w':List Nat} (h:au L w s=true) (hw:w'≠w):au L w' s=false:=Q6 fun q=>hw (q.2.2.symm.trans (of_decide_eq_true h).2.2)
theorem He (h:au L [105,102] s=true):bD L B s=DM L B (av L s.a).p (aa s):=by
 unfold bD
 rw[dM h (by decide),dM h (by decide),dM h (by decide),dM h (by decide),dM h (by decide),dM h (by decide)]
 simp only[Bool.false_eq_true,if_false]
 exact Q5 h
theorem xS (h:au L [119,104,105,108,101] s=true):bD L B s=mt L B (av L s.a).p (aa s):=by
 unfold bD
 rw[dM h (by decide),dM h (by decide),dM h (by decide),dM h (by decide),dM h (by decide),dM h (by decide),dM h (by decide)]
 simp only[Bool.false_eq_true,if_false]
 exact Q5 h
theorem FK (h1:au L [105,102] s=false) (h2:au L [119,104,105,108,101] s=false):bD L B s=lI L (oV L (av L s.a).p s).1 (oV L (av L s.a).p s).2:=by
 unfold bD oV
 rw[Q4 (c:=au L [105,102] s=true) (by rw[h1];exact Bool.false_ne_true),Q4 (c:=au L [119,104,105,108,101] s=true) (by rw[h2];exact Bool.false_ne_true)]
 repeat' split
 all_goals rfl
end
abbrev G6:List NV:= [.int .i64 (.lit 0),.int .i64 (.lit 0),.str [],.str [],.int .i64 (.lit 0),.int .u64 (.lit 0),.int .u8 (.lit 0),.str [],.nils,.int .i64 (.lit 0),.int .u64 (.lit 0),.int .u8 (.lit 0),.str [],.nils,.int .i64 (.lit 0),.int .u64 (.lit 0),.int .u8 (.lit 0),.str [],.nils,.nils,.nils]
theorem jS {m0 m m':NH} {T:List D4} {v:NV} {l:List Stm} {C:List (List NV)} (h:SS m (eB m0) v l C) (hC:Chg T m m') (hT:∀i∈T,aw m0 i):SS m' (eB m0) v l C:=h.stays (aE.of hC fun i hi q=>hi (hT i q))
theorem xk {m0 m1 m:NH} {T:List D4} {v:NV} {l:List Stm} {C:List (List NV)} (h:SS m (eB m1) v l C) (hC:Chg T m0 m1):SS m (eB m0) v l C:=h.weak fun i hi q=>hi (hC.old q)
theorem Bg {m0 m m':NH} {T:List D4} {x:Stm} {c:List NV} (h:RS m (eB m0) x c) (hC:Chg T m m') (hT:∀i∈T,aw m0 i):RS m' (eB m0) x c:=h.stays (aE.of hC fun i hi q=>hi (hT i q))
theorem CP {m0 m1 m:NH} {T:List D4} {x:Stm} {c:List NV} (h:RS m (eB m1) x c) (hC:Chg T m0 m1):RS m (eB m0) x c:=h.weak fun i hi q=>hi (hC.old q)
section
variable {m m' m0:NH} {r sb:D4} {u:NV} {L:List Tok} {a:Nat} {T T':List D4} {s s':Rs} {c c':List NV}
theorem Sx.in2 (h:Sx r sb u L m0 m s c):∀i∈ [r,sb],aw m0 i:=fun i hi=>by
 rcases List.mem_cons.1 hi with rfl|hi
 ·exact h.or
 ·exact one hi▸h.ob
theorem Sx.take3 (h:Sx r sb u L m0 m s c) {k:Nat} (h5:k≠5) {t:List Nat} (hk:eK t=k):∃m',a6 Tryz.prog S0 43 [.ptr r 0,ii k,.str t] m (.bool (au L t s)) m'/\Sx r sb u L m0 m' (if au L t s=true then aa s else s) c/\Chg [r] m m':=by
 obtain ⟨m',r1,h1,hC1⟩:=fX h.h h.e h5 hk
 refine ⟨m',r1,h.call h1 ?_ hC1,hC1⟩
 split<;>exact h.e
set_option maxHeartbeats 4000000 in
theorem MB {B:Rs->List Stm×Rs} {d:Nat} (hd29:d<=29) (hstB:∀s,St L s (B s).2) (ih:Qf r u L B (d+1)):QP r u L (bD L B) d:=by
 intro m s h hs E K hE hK
 refine WF.of_wpG (fun _=>rfl) Aj (L:= [(.a .e,ii d),(.e,.ptr r 0)]) rfl ?_
 unfold Kd
 generalize hm1:hp [(.n 0,.cells true G6)] 1 m=m1
 have hm1':=hm1
 unfold G6 at hm1'
 have hC1:Chg [] m m1:=bf hm1 rfl
 have h1:=h.grow hC1
 have o1:aw m1 (na m 0):=bB hm1 (by omega)
 have g1:m1.get (na m 0)=some (.cells true G6):=bu hm1
 have c01:Chg [r] m m1:=hC1.weak (by simp)
 obtain ⟨m2,r2,hC2⟩:=qW h1
 unfold Tok.l at r2
 have h2:=h1.grow hC2
 have c02:=c01.trans hC2 (by simp)
 have hcast:((d+1:Nat):Int)=(d:Int)+1:=by omega
 simp (disch:=first|assumption|omega|(apply ai;omega)|(apply ae;assumption)|(simp only[ay]<;>omega)) only[go_sem,seval,hm1',r2.wf]
 generalize hm3:hp _ 1 m2=m3
 have hC3:Chg [] m2 m3:=bf hm3 rfl
 have h3:=h2.grow hC3
 have c03:=c02.trans hC3 (by simp)
 have o3:aw m3 (na m 0):=hC3.old (hC2.old o1)
 have g3:m3.get (na m 0)=some (.cells true G6):=(hC3.get (hC2.old o1) (by simp)).trans ((hC2.get o1 (by simp)).trans g1)
 have i3:Sx r (na m2 0) u L m3 m3 s (cQ 0 (av L s.a).p):=⟨h3,hs,bu hm3,bB hm3 (by omega),(Chg.refl m3).weak (by simp),h2.o.ne 0,fun q=>aD (h2.s.old _ q),bB hm3 (by omega),h3.o⟩
 have nm2:¬aw m (na m2 0):=fun q=>aD (c02.old q)
 have nz:na m 0∉ [r,na m2 0]:=by
  simp only[Q9,Q8,or_false,not_or]
  exact ⟨(h.o.ne 0).symm,(hC2.old o1).ne 0⟩
 have hsub:∀i∈ [r,na m2 0],aw m i->i∈ [r]:=fun i hi ho=>by
  rcases List.mem_cons.1 hi with rfl|hi
  ·simp
  ·exact (nm2 (one hi▸ho)).elim
 have hX':∀t,St L t (bD L B s).2->t.e≠0->∀m',Chg [r,na m2 0] m3 m'->E (Iw t) m':=fun t hst he m' hC=>by
  have:=hst.err he;rw[this] at hE;exact hE he m' (c03.trans hC hsub)
 have fin:∀(M:NH) (s':Rs) (x:Stm) (w:SV),Sx r (na m2 0) u L m3 M s' (x.l w)->RS M (eB m3) x (x.l w)->bD L B s=(x,s')->∀M',Chg [na m 0] M M'->K (.agg (x.l w)) M':=by
  intro M s' x w hS hx he M' hC'
  rw[he] at hK
  refine hK hS.e _ _ ⟨⟨w,rfl,CP (Bg hx hC' fun i hi=>one hi▸o3) c03⟩,hS.h.chg hC' (fun q=>h.o.ne 0 (one q)) fun i hi q=>aD (h.s.old _ (one q▸hi)),(c03.trans hS.C hsub).trans hC' fun i hi ho=> ?_⟩
  rw[one hi] at ho;exact Q3 ho aD
 have zof:∀{M:NH} {s':Rs} {c:List NV},Sx r (na m2 0) u L m3 M s' c->M.get (na m 0)=some (.cells true G6)/\aw M (na m 0):=fun hS=>⟨(hS.C.get o3 nz).trans g3,hS.C.old o3⟩
 have z0:∀M,RE M (eB m3) zE (zE.l .nils):=fun M=>gL M _
 clear hm3 hE hK
 generalize na m2 0=sb at i3 hX' fin zof nz hsub
 generalize hpp:((av L s.a).p:Int)=p at i3
 obtain ⟨m4,r4,i4⟩:=i3.take (k:=4) (t:= [105,102]) (by omega) rfl
 have r4:a6 Tryz.prog S0 43 [.ptr r 0,ii 4,.str [105,102]] m3 (.bool (au L [105,102] s)) m4:=r4
 cases b1:au L [105,102] s with
 |true=>
  rw[b1] at r4 i4
  rw[Q5 rfl] at i4
  rw[He b1,hpp] at hX' fin
  simp (disch:=first|assumption|omega|(apply ai;omega)|(apply ae;assumption)|(simp only[ay]<;>omega)) only[go_sem,seval,r4.wf']
  have eif:∀t,DM L B p (aa s)=t->t=if au L [101,108,115,101] (B (cD L (aa s)).2).2=true then (.mk 6 p [] [] zE (cD L (aa s)).1 zE (B (cD L (aa s)).2).1 (B (aa (B (cD L (aa s)).2).2)).1,(B (aa (B (cD L (aa s)).2).2)).2)
   else (.mk 6 p [] [] zE (cD L (aa s)).1 zE (B (cD L (aa s)).2).1 [],(B (cD L (aa s)).2).2):=fun t e=>e.symm
  have sl:∀s1,(cD L (aa s)).2=s1->St L (B s1).2 (DM L B p (aa s)).2:=fun s1 e=>by
   subst e
   rw[eif _ rfl]
   split
   ·rename_i hh;exact (cF hh).trans (hstB _)
   ·exact St.refl _ _
  refine gC i4.h i4.e E _ (fun he m' hC=>hX' _ ((hstB _).trans (sl _ rfl)) he m' (i4.fe hC)) ?_
  rintro he _ m14 ⟨⟨w,rfl,hx⟩,h14,hC14⟩
  have i14:=i4.call h14 he hC14
  have hx:=i4.new hC14 hx
  have g15:=i14.g
  unfold cQ at g15
  have o15:=i14.o
  rw[←ab m14]
  simp (disch:=first|assumption|omega|(apply ai;omega)|(apply ae;assumption)|(simp only[ay]<;>omega)) only[go_sem,seval,g15,Ex.l]
  generalize hM15:hp _ 0 m14=m15
  have i15:=i14.put hM15 (by simp[aF])
  have hx:=i14.re1 i15 (Sx.cs hM15 (by simp[aF])) hx
  rw[←hcast]
  refine ih m15 _ i15.h i15.e E _ (fun he m' hC=>hX' _ (sl _ rfl) he m' (i15.fe hC)) ?_
  rintro he v16 m16 ⟨⟨C16,hb⟩,h16,hC16⟩
  have i16:=i15.call h16 he hC16
  have hx:=i15.re1 i16 (Sx.cr hC16) hx
  have hb:=xk hb i15.C
  have hv16:=hb.sl.one
  have g17:=i16.g
  have o17:=i16.o
  rw[←ab m16]
  simp (disch:=first|assumption|omega|(apply ai;omega)|(apply ae;assumption)|(simp only[ay]<;>omega)) only[go_sem,seval,g17,hv16]
  generalize hM17:hp _ 0 m16=m17
  have i17:=i16.put hM17 (by simp[aF])
  have hC17:=Sx.cs (r:=r) hM17 (by simp[aF])
  have hx:=i16.re1 i17 hC17 hx
  have hb:=jS hb hC17 i16.in2
  obtain ⟨m18,r18,i18,hC18⟩:=i17.take3 (k:=4) (t:= [101,108,115,101]) (by omega) rfl
  have r18:a6 Tryz.prog S0 43 [.ptr r 0,ii 4,.str [101,108,115,101]] m17 (.bool (au L [101,108,115,101] (B (cD L (aa s)).2).2)) m18:=r18
  have hC18:Chg [r,sb] m17 m18:=Sx.cr hC18
  have hx:=i17.re1 i18 hC18 hx
  have hb:=jS hb hC18 i17.in2
  cases b2:au L [101,108,115,101] (B (cD L (aa s)).2).2 with
  |false=>
   rw[b2] at r18 i18
   rw[Q4 Bool.false_ne_true] at i18
   have ef:=eif _ rfl
   rw[Q4 (by rw[b2];exact Bool.false_ne_true)] at ef
   simp (disch:=first|assumption|omega|(apply ai;omega)|(apply ae;assumption)|(simp only[ay]<;>omega)) only[go_sem,seval,r18.wf']
   have ge:=i18.g
   have oe:=i18.o
   obtain ⟨gz,oz⟩:=zof i18
   unfold G6 at gz
   rw[←ab m18]
   simp (disch:=first|assumption|omega|(apply ai;omega)|(apply ae;assumption)|(simp only[ay]<;>omega)) only[go_sem,seval,ge,gz]
   refine fin m18 _ _ ⟨.nils,w,.nils,v16,.nils⟩ i18 (RS.of (z0 _) hx (z0 _) hb (kl _ _)) ef _ ?_
   exact aH rfl
  |true=>
   rw[b2] at r18 i18
   rw[Q5 rfl] at i18
   have ef:=eif _ rfl
   rw[Q5 b2] at ef
   simp (disch:=first|assumption|omega|(apply ai;omega)|(apply ae;assumption)|(simp only[ay]<;>omega)) only[go_sem,seval,r18.wf']
   rw[←hcast]
   refine ih m18 _ i18.h i18.e E _ (fun he m' hC=>hX' _ (by rw[ef];exact St.refl _ _) he m' (i18.fe hC)) ?_
   rintro he v19 m19 ⟨⟨C19,hc⟩,h19,hC19⟩
   have i19:=i18.call h19 he hC19
   have hx:=i18.re1 i19 (Sx.cr hC19) hx
   have hb:=jS hb (Sx.cr (sb:=sb) hC19) i18.in2
   have hc:=xk hc i18.C
   have hv19:=hc.sl.one
   have g20:=i19.g
   have o20:=i19.o
   obtain ⟨gz,oz⟩:=zof i19
   unfold G6 at gz
   have ns:na m 0≠sb:=fun q=>nz (by rw[q];simp)
   rw[←ab m19]
   simp (disch:=first|assumption|omega|(apply ai;omega)|(apply ae;assumption)|(simp only[ay]<;>omega)) only[go_sem,seval,g20,hv19,gz]
   obtain ⟨m20,hM20⟩:∃m20,hp [(.o sb,.cells true ((Stm.mk 6 p [] [] zE (cD L (aa s)).1 zE (B (cD L (aa s)).2).1 (B (aa (B (cD L (aa s)).2).2)).1).l ⟨.nils,w,.nils,v16,v19⟩))] 0 m19=m20:=⟨_,rfl⟩
   have i20:=i19.put hM20 (by simp[aF])
   have hC20:=Sx.cs (r:=r) hM20 (by simp[aF])
   have hx:=i19.re1 i20 hC20 hx
   refine fin m20 _ _ ⟨.nils,w,.nils,v16,v19⟩ i20 (RS.of (z0 _) hx (z0 _) (jS hb hC20 i19.in2) (jS hc hC20 i19.in2)) ef _ ?_
   rw[←oF oz,←hM20]
   exact Chg.put _ _ _
 |false=>
  rw[b1] at r4 i4
  rw[Q4 Bool.false_ne_true] at i4
  obtain ⟨m5,r5,i5⟩:=i4.take (k:=4) (t:= [119,104,105,108,101]) (by omega) rfl
  have r5:a6 Tryz.prog S0 43 [.ptr r 0,ii 4,.str [119,104,105,108,101]] m4 (.bool (au L [119,104,105,108,101] s)) m5:=r5
  cases b2:au L [119,104,105,108,101] s with
  |true=>
   rw[b2] at r5 i5
   rw[Q5 rfl] at i5
   rw[xS b2,hpp] at hX' fin
   unfold mt at hX' fin
   simp (disch:=first|assumption|omega|(apply ai;omega)|(apply ae;assumption)|(simp only[ay]<;>omega)) only[go_sem,seval,r4.wf',r5.wf']
   refine gC i5.h i5.e E _ (fun he m' hC=>hX' _ (hstB _) he m' (i5.fe hC)) ?_
   rintro he _ m14 ⟨⟨w,rfl,hx⟩,h14,hC14⟩
   have i14:=i5.call h14 he hC14
   have hx:=i5.new hC14 hx
   have g15:=i14.g
   unfold cQ at g15
   have o15:=i14.o
   rw[←ab m14]
   simp (disch:=first|assumption|omega|(apply ai;omega)|(apply ae;assumption)|(simp only[ay]<;>omega)) only[go_sem,seval,g15,Ex.l]
   generalize hM15:hp _ 0 m14=m15
   have i15:=i14.put hM15 (by simp[aF])
   have hx:=i14.re1 i15 (Sx.cs hM15 (by simp[aF])) hx
   rw[←hcast]
   refine ih m15 _ i15.h i15.e E _ (fun he m' hC=>hX' _ (St.refl _ _) he m' (i15.fe hC)) ?_
   rintro he v16 m16 ⟨⟨C16,hb⟩,h16,hC16⟩
   have i16:=i15.call h16 he hC16
   have hx:=i15.re1 i16 (Sx.cr hC16) hx
   have hb:=xk hb i15.C
   have hv16:=hb.sl.one
   have g20:=i16.g
   have o20:=i16.o
   obtain ⟨gz,oz⟩:=zof i16
   unfold G6 at gz
   have ns:na m 0≠sb:=fun q=>nz (by rw[q];simp)
   rw[←ab m16]
   simp (disch:=first|assumption|omega|(apply ai;omega)|(apply ae;assumption)|(simp only[ay]<;>omega)) only[go_sem,seval,g20,hv16,gz]
   obtain ⟨m20,hM20⟩:∃m20,hp [(.o sb,.cells true ((Stm.mk 7 p [] [] zE (cD L (aa s)).1 zE (B (cD L (aa s)).2).1 []).l ⟨.nils,w,.nils,v16,.nils⟩))] 0 m16=m20:=⟨_,rfl⟩
   have i20:=i16.put hM20 (by simp[aF])
   have hC20:=Sx.cs (r:=r) hM20 (by simp[aF])
   have hx:=i16.re1 i20 hC20 hx
   refine fin m20 _ _ ⟨.nils,w,.nils,v16,.nils⟩ i20 (RS.of (z0 _) hx (z0 _) (jS hb hC20 i16.in2) (kl _ _)) rfl _ ?_
   rw[←oF oz,←hM20]
   exact Chg.put _ _ _
  |false=>
   rw[b2] at r5 i5
   rw[Q4 Bool.false_ne_true] at i5
   rw[FK b1 b2,hpp] at hX' fin
   unfold lI at hX' fin
   simp (disch:=first|assumption|omega|(apply ai;omega)|(apply ae;assumption)|(simp only[ay]<;>omega)) only[go_sem,seval,r4.wf',r5.wf']
   have i5':Sx r sb u L m5 m5 s (cQ 0 p):=⟨i5.h,i5.e,i5.g,i5.o,(Chg.refl m5).weak (by simp),i5.rs,i5.su,i5.o,i5.h.o⟩
   refine ET i5' E _ (fun he m' hC=>hX' _ (aZ _ _ _) he m' (i5.fe2 hC)) ?_
   rintro he _ m14 ⟨rfl,⟨w,gw,hx⟩,h14,hC14⟩
   have i14:Sx r sb u L m3 m14 (oV L p s).2 ((oV L p s).1.l w):=⟨h14,he,gw,hC14.old i5.o,i5.fe2 hC14,i5.rs,i5.su,i5.ob,i5.or⟩
   have hx:=CP hx i5.C
   generalize oV L p s=q at hX' fin i14 hx
   obtain ⟨x,s1⟩:=q
   dsimp only at hX' fin i14 hx
   simp (disch:=first|assumption|omega|(apply ai;omega)|(apply ae;assumption)|(simp only[ay]<;>omega)) only[go_sem,seval]
   refine jC i14.h i14.e (t:= [59]) rfl E _ (fun he m' hC=>hX' _ (St.refl _ _) he m' (i14.fe hC)) ?_
   rintro he _ m15 ⟨rfl,h15,hC15⟩
   have i15:=i14.call h15 he hC15
   have hx:=Bg hx (Sx.cr (sb:=sb) hC15) i14.in2
   have ge:=i15.g
   have oe:=i15.o
   obtain ⟨gz,oz⟩:=zof i15
   unfold G6 at gz
   rw[←ab m15]
   simp (disch:=first|assumption|omega|(apply ai;omega)|(apply ae;assumption)|(simp only[ay]<;>omega)) only[go_sem,seval,ge,gz]
   refine fin m15 _ x w i15 hx rfl _ ?_
   exact aH rfl
end
end FR
open Go Nm Go.Proofs
namespace FR
section
variable {m m' m0:NH} {r sb:D4} {u:NV} {L:List Tok} {a:Nat} {T T':List D4} {s s':Rs} {c c':List NV}
theorem zC:∀n,n<=30->Qf r u L (bC L n) (30 - n):=by
 intro n
 induction n with
 |zero=>
  intro _
  have e2:bC L 0=dD L (fun s=>(.mk 0 0 [] [] zE zE zE [] [],aV 2 s)) 30:=by funext s;rfl
  rw[e2]
  refine Ft (fun s=>bS _ _ _) (fun s he=>Or.inr ?_) fun h=>by omega
  rw[cl he];simp
 |succ n ih=>
  intro hn
  have e:30 - (n+1)=29 - n:=by omega
  have h1:29 - n+1=30 - n:=by omega
  have e2:bC L (n+1)=dD L (bD L (bC L n)) (29 - n):=by funext s;rfl
  rw[e,e2]
  exact Ft (jO (bN n)) (zY (bN n)) fun h=>MB h (bN n) (by rw[h1];exact ih (by omega))
theorem JQ (h:Rp m r u L s.a) (hs:s.e=0):CX 45 [.ptr r 0,ii 2] m [r] (gv L 2 s) fun v m'=>((av L s.a).k=2/\v= .agg [ii 2,.str (av L s.a).t,u64 (av L s.a).n,ii (av L s.a).p])/\Rp m' r u L (gv L 2 s).a/\Chg [r] m m':=by
 intro X K hX hK
 refine nT h hs (k:=2) (by omega) X K hX ?_
 rintro he v m' ⟨rfl,h1,hC⟩
 have hk:(av L s.a).k=2:=by
  rcases Decidable.em ((av L s.a).k=2) with q|q
  ·exact q
  ·have e:gv L 2 s=aV 2 s:=Q4 q
   rw[e,cl hs] at he;simp at he
 exact hK he _ _ ⟨⟨hk,by show NV.agg (Tok.l _)=_;unfold Tok.l;rw[hk];rfl⟩,h1,hC⟩
theorem LJ (h:Rp m r u L s.a) (hs:s.e=0):CX 44 [.ptr r 0] m [r] (dH L s).2 fun v m'=>v= .agg [.str (dH L s).1.1,ii (dH L s).1.2]/\Rp m' r u L (dH L s).2.a/\Chg [r] m m':=by
 intro E K hE hK
 refine WF.of_wpG (fun _=>rfl) zp (L:= [(.e,.ptr r 0)]) rfl ?_
 unfold Ke
 generalize hm1:hp [(.n 0,.cells true [.str [],.int .i64 (.lit 0)])] 1 m=m1
 have hC1:Chg [] m m1:=bf hm1 rfl
 have h1:=h.grow hC1
 have o1:aw m1 (na m 0):=bB hm1 (by omega)
 have g1:m1.get (na m 0)=some (.cells true [.str [],.int .i64 (.lit 0)]):=bu hm1
 have nr:na m 0∉ [r]:=fun q=>h.o.ne 0 (one q).symm
 have c01:Chg [r] m m1:=hC1.weak (by simp)
 simp (disch:=first|assumption|omega) only[go_sem,seval,hm1]
 have hX':∀t,St L t (dH L s).2->t.e≠0->∀m',Chg [r] m m'->E (Iw t) m':=fun t hst he m' hC=>by
  have:=hst.err he;rw[this] at hE;exact hE he m' hC
 have hs2:St L (aJ L s).2 (dH L s).2:=by
  unfold dH
  split
  ·rename_i q
   split
   ·rename_i h2
    exact (((cF q).trans (gk (kG (by omega)) (bE q).1 (by omega))).trans (aZ _ _ _)).trans (aZ _ _ _)
   ·exact (((cF q).trans (bS _ _ _)).trans (aZ _ _ _)).trans (aZ _ _ _)
  ·exact aZ _ _ _
 clear hE
 refine lz h1 hs E _ (fun he m' hC=>hX' _ hs2 he m' (c01.trans hC fun i hi _=>hi)) ?_
 rintro he _ m2 ⟨⟨_,_,_,rfl⟩,h2,hC2⟩
 have c02:=c01.trans hC2 fun i hi _=>hi
 have o2:=hC2.old o1
 have g2:=(hC2.get o1 nr).trans g1
 unfold dH at hX' hK
 clear hs2
 generalize aJ L s=q at hX' hK h2 he
 obtain ⟨n,s1⟩:=q
 dsimp only at hX' hK h2 he
 generalize hm3:hp [(.n 0,.cells true [.str n,ii 1]),(.n 0,.cells true [.str [],.int .i64 (.lit 0)])] 1 m2=m3
 have hC3:Chg [] m2 m3:=bf hm3 rfl
 have h3:=h2.grow hC3
 have c03:=c02.trans hC3 (by simp)
 have o3:=hC3.old o2
 have g3:=(hC3.get o2 (by simp)).trans g2
 have p3:aw m3 (na m2 0):=bB hm3 (by omega)
 have q3:m3.get (na m2 0)=some (.cells true [.str n,ii 1]):=bu hm3
 have nr2:na m2 0∉ [r]:=fun q=>h2.o.ne 0 (one q).symm
 have nn:na m2 0≠na m 0:=(o2.ne 0).symm
 have nm2:¬aw m (na m2 0):=fun q=>aD (c02.old q)
 have nu2:∀i∈ids u,i∉ [na m2 0]:=fun i hi q=>(h2.s.old i hi).ne 0 (one q)
 obtain ⟨m4,r4,h4,hC4⟩:=fX h3 he (k:=3) (t:= [91]) (by omega) rfl
 have r4:a6 Tryz.prog S0 43 [.ptr r 0,ii 3,.str [91]] m3 (.bool (au L [91] s1)) m4:=r4
 have c04:=c03.trans hC4 fun i hi _=>hi
 have o4:=hC4.old o3
 have g4:=(hC4.get o3 nr).trans g3
 have p4:=hC4.old p3
 have q4:=(hC4.get p3 nr2).trans q3
 have last:∀(M M':NH) (s':Rs) (z:Int),Rp M r u L s'.a->Chg [r] m M->hp [(.o (na m 0),.cells true [.str n,ii z])] 0 M=M'->Rp M' r u L s'.a/\Chg [r] m M':=by
  intro M M' s' z hR hC hM
  have hC':Chg [na m 0] M M':=bf hM rfl
  refine ⟨hR.chg hC' (fun q=>h.o.ne 0 (one q)) fun i hi q=>aD (h.s.old _ (one q▸hi)),hC.trans hC' fun i hi ho=> ?_⟩
  rw[one hi] at ho;exact Q3 ho aD
 rw[←ab m2]
 cases hb:au L [91] s1 with
 |false=>
  rw[hb] at r4 h4
  rw[Q4 Bool.false_ne_true] at h4
  rw[Q4 (by rw[hb];exact Bool.false_ne_true)] at hX' hK
  simp (disch:=first|assumption|omega|(simp only[ay]<;>omega)) only[go_sem,seval,hm3,r4.wf']
  refine jC h4 he (t:= [59]) rfl E _ (fun he m' hC=>hX' _ (St.refl _ _) he m' (c04.trans hC fun i hi _=>hi)) ?_
  rintro he' _ M ⟨rfl,hR,hC⟩
  have gz:=(hC.get o4 nr).trans g4
  have gq:=(hC.get p4 nr2).trans q4
  have oz:=hC.old o4
  rw[←ab M]
  simp (disch:=first|assumption|omega|(simp only[ay]<;>omega)) only[go_sem,seval,gz,gq]
  generalize hM:hp _ 0 M=M'
  obtain ⟨f1,f2⟩:=last M M' _ 1 hR (c04.trans hC fun i hi _=>hi) hM
  exact hK he' _ _ ⟨rfl,f1,f2⟩
 |true=>
  rw[hb] at r4 h4
  rw[Q5 rfl] at h4
  rw[Q5 hb] at hX' hK
  simp (disch:=first|assumption|omega|(simp only[ay]<;>omega)) only[go_sem,seval,hm3,r4.wf']
  refine JQ h4 he E _ (fun he' m' hC=> ?_) ?_
  ·by_cases hk:(av L (aa s1).a).k=2
   ·have e:gv L 2 (aa s1)=aa (aa s1):=Q5 hk
    rw[e] at he';exact Q3 he he'
   ·have e:gv L 2 (aa s1)=aV 2 (aa s1):=Q4 hk
    rw[Q4 hk] at hX'
    rw[e] at he' ⊢
    exact hX' _ ((aZ _ _ _).trans (aZ _ _ _)) he' m' (c04.trans hC fun i hi _=>hi)
  rintro he5 _ m5 ⟨⟨hk,rfl⟩,h5,hC5⟩
  have e:gv L 2 (aa s1)=aa (aa s1):=Q5 hk
  rw[e] at h5 he5
  rw[Q5 hk] at hX' hK
  generalize av L (aa s1).a=y at *
  have c05:=c04.trans hC5 fun i hi _=>hi
  have o5:=hC5.old o4
  have g5:=(hC5.get o4 nr).trans g4
  have p5:=hC5.old p4
  have q5:=(hC5.get p4 nr2).trans q4
  have hz:HH .i64 (.int .u64 (.lit (min (y.n:Int) 1048576)))= .val (ii (bz y)):=by
   rw[FT (by omega) (by omega)]
   have:bz y=min (y.n:Int) 1048576:=by unfold bz;split<;>omega
   rw[this]
  generalize bz y=z at hz hK
  rw[←ab m5]
  simp (disch:=first|assumption|omega|(simp only[ay]<;>omega)) only[go_sem,seval,q5,hz]
  generalize hm6:hp _ 0 m5=m6
  have hC6:Chg [na m2 0] m5 m6:=bf hm6 rfl
  have h6:=h5.chg hC6 (fun q=>h2.o.ne 0 (one q)) nu2
  have c06:=c05.trans hC6 fun i hi ho=>(nm2 (one hi▸ho)).elim
  have nz:na m 0∉ [na m2 0]:=fun q=>nn (one q).symm
  have o6:=hC6.old o5
  have g6:=(hC6.get o5 nz).trans g5
  have p6:=hC6.old p5
  have q6:m6.get (na m2 0)=some (.cells true [.str n,ii z]):=by rw[←hm6];exact (bF p5).trans a7
  refine jC h6 he5 (t:= [93]) rfl E _ (fun he m' hC=>hX' _ (aZ _ _ _) he m' (c06.trans hC fun i hi _=>hi)) ?_
  rintro he7 _ m7 ⟨rfl,h7,hC7⟩
  have c07:=c06.trans hC7 fun i hi _=>hi
  simp (disch:=first|assumption|omega) only[go_sem,seval]
  refine jC h7 he7 (t:= [59]) rfl E _ (fun he m' hC=>hX' _ (St.refl _ _) he m' (c07.trans hC fun i hi _=>hi)) ?_
  rintro he' _ M ⟨rfl,hR,hC⟩
  have gz:=(hC.get (hC7.old o6) nr).trans ((hC7.get o6 nr).trans g6)
  have gq:=(hC.get (hC7.old p6) nr2).trans ((hC7.get p6 nr2).trans q6)
  have oz:=hC.old (hC7.old o6)
  rw[←ab M]
  simp (disch:=first|assumption|omega|(simp only[ay]<;>omega)) only[go_sem,seval,gz,gq]
  generalize hM:hp _ 0 M=M'
  obtain ⟨f1,f2⟩:=last M M' _ z hR (c07.trans hC fun i hi _=>hi) hM
  exact hK he' _ _ ⟨rfl,f1,f2⟩
end
end FR
open Go Nm Go.Proofs
namespace FR
structure Pi (r n0 n1:D4) (u:NV) (L:List Tok) (m M:NH) (a:Nat) (vc vt vr:NV) (C D:List (List NV)):Prop where
 h:Rp M r u L a
 g1:M.get n1=some (.cells true [vc,vt,vr])
 o1:aw M n1
 g0:M.get n0=some (.cells true [.nils,.nils,.nils])
 o0:aw M n0
 c:Chg [r] m M
 pc:dq m M vc 2 C
 pt:dq m M vt 2 D
 len:C.length+D.length<=a
 d:∀i∈ids vc,i∉ids vt/\i≠n0/\i≠n1
 dt:∀i∈ids vt,i≠n0/\i≠n1
 nu:∀i∈ids u,aw m i
 n:r≠n0/\r≠n1/\n0≠n1/\aw m r/\¬aw m n0/\¬aw m n1
section
variable {m m' m0 M:NH} {r s n0 n1:D4} {u vc vt vr:NV} {C D:List (List NV)} {L:List Tok} {a a':Nat} {x:Tok} {T T':List D4} {E:NV->NH->Prop} {P:Ps} {b1 b2:Bool}
theorem Pi.to (h:Pi r n0 n1 u L m M a vc vt vr C D) (hR:Rp m' r u L a') (hC:Chg [r] M m') (ha:a<=a'):Pi r n0 n1 u L m m' a' vc vt vr C D:=by
 have hr:∀{v:NV} {C:List (List NV)},dq m M v 2 C->∀i∈ids v,i∉ [r]:=fun ho i hi q=>ho.new i hi (one q▸h.n.2.2.2.1)
 refine ⟨hR,(hC.get h.o1 fun q=>h.n.2.1 (one q).symm).trans h.g1,hC.old h.o1,(hC.get h.o0 fun q=>h.n.1 (one q).symm).trans h.g0,hC.old h.o0,h.c.trans hC fun i hi _=>hi,h.pc.chg hC (hr h.pc),h.pt.chg hC (hr h.pt),by have:=h.len;omega,h.d,h.dt,h.nu,h.n⟩
theorem Pi.set (h:Pi r n0 n1 u L m M a vc vt vr C D) {l:List (AK×NO)} {k:Nat} {w1 w2 w3:NV} {C' D':List (List NV)} (hM:hp ((.o n1,.cells true [w1,w2,w3])::l) k M=m') (hl:aF l= [])
 (hc:dq m M w1 2 C') (ht:dq m M w2 2 D') (hlen:C'.length+D'.length<=a) (hd:∀i∈ids w1,i∉ids w2/\i≠n0/\i≠n1) (hdt:∀i∈ids w2,i≠n0/\i≠n1):Pi r n0 n1 u L m m' a w1 w2 w3 C' D':=by
 have hC:Chg [n1] M m':=bf hM (by show n1::aF l= [n1];rw[hl])
 refine ⟨h.h.chg hC (fun q=>h.n.2.1 (one q)) fun i hi q=>h.n.2.2.2.2.2 (one q▸h.nu i hi), ?_,hC.old h.o1,(hC.get h.o0 fun q=>h.n.2.2.1 (one q)).trans h.g0,hC.old h.o0,h.c.trans hC fun i hi ho=>(h.n.2.2.2.2.2 (one hi▸ho)).elim,hc.chg hC fun i hi q=>(hd i hi).2.2 (one q),ht.chg hC fun i hi q=>(hdt i hi).2 (one q),hlen,hd,hdt,h.nu,h.n⟩
 rw[←hM];exact (bF h.o1).trans a7
theorem Pi.appC (h:Pi r n0 n1 u L m M a vc vt vr C D) {x:D4} {cs:List NV} (hx:M.get x=some (.cells true cs)) (ox:aw M x) (hcs:cs.length=2) (hlen:C.length+1+D.length<=a):∃v' m6,B5 2 24 M vc (.slc x 0 1 2 1)= .mem v' m6/\m6.get n1=some (.cells true [vc,vt,vr])/\aw m6 n1/\cellsOf v'=some [v']/\Chg (ids vc) M m6/\nq M vc v'/\∀k m7,hp [(.o n1,.cells true [v',vt,vr])] k m6=m7->Pi r n0 n1 u L m m7 a v' vt vr (C++ [cs]) D:=by
 have hl:=h.h.l
 have ha:=h.h.a
 obtain ⟨v',m6,q1,q2,hC6,q3⟩:=h.pc.app2 (bytes:=24) (kc:=1) hx ox hcs (fun i hi=>h.c.old hi) (by omega) (by omega)
 have g1:=(hC6.get h.o1 fun q=>(h.d _ q).2.2 rfl).trans h.g1
 have o1:=hC6.old h.o1
 refine ⟨v',m6,q1,g1,o1,q2.sl.one,hC6,q3,fun k m7 hm7=> ?_⟩
 have hC7:Chg [n1] m6 m7:=bf hm7 rfl
 have n1':n1∉ids vc:=fun q=>(h.d _ q).2.2 rfl
 have hd:∀i∈ids v',i∉ids vt/\i≠n0/\i≠n1:=fun i hi=>(q3 i hi).elim (h.d i) fun hn=>⟨fun q=>hn (h.pt.sl.old i q),fun q=>hn (q▸h.o0),fun q=>hn (q▸h.o1)⟩
 have nu:∀i∈ids u,i∉ [n1]:=fun i hi q=>h.n.2.2.2.2.2 (one q▸h.nu i hi)
 refine ⟨(h.h.chg hC6 (fun q=>h.pc.new _ q h.n.2.2.2.1) fun i hi q=>h.pc.new i q (h.nu i hi)).chg hC7 (fun q=>h.n.2.1 (one q)) nu, ?_,hC7.old o1,(hC7.get (hC6.old h.o0) fun q=>h.n.2.2.1 (one q)).trans ((hC6.get h.o0 fun q=>(h.d _ q).2.1 rfl).trans h.g0),hC7.old (hC6.old h.o0),
  (h.c.trans hC6 fun i hi ho=>(h.pc.new i hi ho).elim).trans hC7 fun i hi ho=>(h.n.2.2.2.2.2 (one hi▸ho)).elim,q2.chg hC7 fun i hi q=>(hd i hi).2.2 (one q),(h.pt.chg hC6 fun i hi q=>(h.d i q).1 hi).chg hC7 fun i hi q=>(h.dt i hi).2 (one q),by simp;omega,hd,h.dt,h.nu,h.n⟩
 rw[←hm7];exact (bF o1).trans a7
theorem Pi.appT (h:Pi r n0 n1 u L m M a vc vt vr C D) {x:D4} {cs:List NV} (hx:M.get x=some (.cells true cs)) (ox:aw M x) (hcs:cs.length=2) (hlen:C.length+1+D.length<=a):∃v' m6,B5 2 40 M vt (.slc x 0 1 2 1)= .mem v' m6/\m6.get n1=some (.cells true [vc,vt,vr])/\aw m6 n1/\cellsOf v'=some [v']/\Chg (ids vt) M m6/\nq M vt v'/\∀k m7,hp [(.o n1,.cells true [vc,v',vr])] k m6=m7->Pi r n0 n1 u L m m7 a vc v' vr C (D++ [cs]):=by
 have hl:=h.h.l
 have ha:=h.h.a
 obtain ⟨v',m6,q1,q2,hC6,q3⟩:=h.pt.app2 (bytes:=40) (kc:=1) hx ox hcs (fun i hi=>h.c.old hi) (by omega) (by omega)
 have g1:=(hC6.get h.o1 fun q=>(h.dt _ q).2 rfl).trans h.g1
 have o1:=hC6.old h.o1
 refine ⟨v',m6,q1,g1,o1,q2.sl.one,hC6,q3,fun k m7 hm7=> ?_⟩
 have hC7:Chg [n1] m6 m7:=bf hm7 rfl
 have hd:∀i∈ids v',i≠n0/\i≠n1:=fun i hi=>(q3 i hi).elim (h.dt i) fun hn=>⟨fun q=>hn (q▸h.o0),fun q=>hn (q▸h.o1)⟩
 have hd':∀i∈ids vc,i∉ids v'/\i≠n0/\i≠n1:=fun i hi=>⟨fun q=>(q3 i q).elim (h.d i hi).1 fun hn=>hn (h.pc.sl.old i hi),(h.d i hi).2⟩
 have nu:∀i∈ids u,i∉ [n1]:=fun i hi q=>h.n.2.2.2.2.2 (one q▸h.nu i hi)
 refine ⟨(h.h.chg hC6 (fun q=>h.pt.new _ q h.n.2.2.2.1) fun i hi q=>h.pt.new i q (h.nu i hi)).chg hC7 (fun q=>h.n.2.1 (one q)) nu, ?_,hC7.old o1,(hC7.get (hC6.old h.o0) fun q=>h.n.2.2.1 (one q)).trans ((hC6.get h.o0 fun q=>(h.dt _ q).1 rfl).trans h.g0),hC7.old (hC6.old h.o0),
  (h.c.trans hC6 fun i hi ho=>(h.pt.new i hi ho).elim).trans hC7 fun i hi ho=>(h.n.2.2.2.2.2 (one hi▸ho)).elim,(h.pc.chg hC6 fun i hi=>(h.d i hi).1).chg hC7 fun i hi q=>(h.d i hi).2.2 (one q),q2.chg hC7 fun i hi q=>(hd i hi).2 (one q),by simp;omega,hd',hd,h.nu,h.n⟩
 rw[←hm7];exact (bF o1).trans a7
abbrev TX (m:NH) (n0 n1:D4) (vc vt:NV):D4->Prop:=fun i=>¬aw m i/\i∉ids vc/\i∉ids vt/\i≠n0/\i≠n1
theorem SS.old {m:NH} {T:D4->Prop} {v:NV} {l:List Stm} {C:List (List NV)} (h:SS m T v l C):SS m (fun i=>T i/\aw m i) v l C:=⟨h.sl,fun i hi=>⟨h.hT i hi,h.sl.old i hi⟩,h.len,fun i x c a b=>(h.R i x c a b).old⟩
structure Tr (m M:NH) (n0 n1:D4) (vc vt vr:NV) (P:Ps) (D:List (List NV)):Prop where
 len:D.length=P.ts.length
 t:∀(j:Nat) (x:List Nat×List Stm) (c:List NV),P.ts[j]? =some x->D[j]? =some c->∃vb B,c= [.str x.1,vb]/\SS M (TX m n0 n1 vc vt) vb x.2 B
 r:∃C,SS M (TX m n0 n1 vc vt) vr P.rc C
theorem Tr.map (h:Tr m M n0 n1 vc vt vr P D) {vc' vt':NV} {cs:List (List Nat×Int)} {rd:Bool} (hf:∀{v:NV} {l:List Stm} {C:List (List NV)},SS M (TX m n0 n1 vc vt) v l C->SS m' (TX m n0 n1 vc' vt') v l C):Tr m m' n0 n1 vc' vt' vr ⟨cs,P.ts,P.rc,rd⟩ D:=
 ⟨h.len,fun j x c a b=>by obtain ⟨vb,B,e,q⟩:=h.t j x c a b;exact ⟨vb,B,e,hf q⟩,let ⟨C,q⟩:=h.r;⟨C,hf q⟩⟩
theorem Tr.to (h:Tr m M n0 n1 vc vt vr P D) (hC:Chg T M m') (hT:∀i∈T,¬TX m n0 n1 vc vt i):Tr m m' n0 n1 vc vt vr P D:=h.map fun q=>q.stays (aE.of hC fun i hi q=>hT i q hi)
theorem xg {f:Nat} {P:Ps} {s:Rs} (h:s.e≠0):aW L f P s=(P,s):=by
 cases f with
 |zero=>rfl
 |succ f=>rw[aW,Q5 h]
theorem Cq {s0:Rs} (h:Rp m r u L s0.a) (hs0:s0.e=0):CX 24 [.ptr r 0] m [r] (aW L (L.length+1) ⟨[], [], [],false⟩ s0).2 fun v m'=>∃vc vt vr,v= .agg [vc,vt,vr]/\RP m' (eB m) ⟨(aW L (L.length+1) ⟨[], [], [],false⟩ s0).1.cs,(aW L (L.length+1) ⟨[], [], [],false⟩ s0).1.ts,(aW L (L.length+1) ⟨[], [], [],false⟩ s0).1.rc⟩ vc vt vr/\Chg [r] m m':=by
 intro E K hE hK
 refine WF.of_wpG (fun _=>rfl) Aa (L:= [(.e,.ptr r 0)]) rfl ?_
 unfold Lp
 generalize hm1:hp [(.n 1,.cells true [.nils,.nils,.nils]),(.n 0,.cells true [.nils,.nils,.nils])] 2 m=m1
 have hC1:Chg [] m m1:=bf hm1 rfl
 have p1:Pi r (na m 0) (na m 1) u L m m1 s0.a .nils .nils .nils [] []:=
  ⟨h.grow hC1,bu hm1,bB hm1 (by omega),bu hm1,bB hm1 (by omega),hC1.weak (by simp),dq.nil,dq.nil,by simp,by simp[ids],by simp[ids],h.s.old,h.o.ne 0,h.o.ne 1,by simp[iT],h.o,aD,aD⟩
 have tr1:Tr m m1 (na m 0) (na m 1) .nils .nils .nils ⟨[], [], [],false⟩ []:=⟨rfl,by simp, [],kl _ _⟩
 generalize hXZ:aW L (L.length+1) ⟨[], [], [],false⟩ s0=XZ at hE hK
 obtain ⟨X,Z⟩:=XZ
 dsimp only at hE hK
 simp (disch:=first|assumption|omega|(apply ai;omega)|(apply ae;assumption)|(simp only[ay]<;>omega)) only[go_sem,seval,hm1]
 clear hm1
 have hz0:na m 0=na m 0:=rfl
 generalize na m 0=n0,na m 1=n1 at p1 tr1 ⊢
 clear hz0
 refine Nm.W.loop (fun k dy=>∃T M s P vc vt vr D,dy=⟨T, [],none,M⟩/\NT.get D4.e T=some (.ptr r 0)/\NT.get D4.e.b T=some (.ptr n0 0)/\NT.get D4.e.c T=some (.ptr n1 0)/\NT.get D4.e.f T=some (.bool P.rd)/\s.e=0/\Pi r n0 n1 u L m M s.a vc vt vr (kF P.cs) D/\Tr m M n0 n1 vc vt vr P D/\aW L k P s=(X,Z)/\L.length<k+s.a) ?_ (L.length+1) _
  ⟨_,m1,s0,⟨[], [], [],false⟩,.nils,.nils,.nils, [],rfl,by simp only[go_sem,seval],by simp only[go_sem,seval],by simp only[go_sem,seval],by simp only[go_sem,seval],hs0,p1,tr1,hXZ,by omega⟩
 clear p1 tr1 hXZ hC1 h hs0
 rintro k dy ⟨T,M,s,P,vc,vt,vr,D,rfl,t1,t2,t3,t4,hs,hI,hT,hX,hf⟩
 apply aM
 unfold A7
 change wp _ _ _ _ ⟨am [] T, [],none,M⟩ _
 have horm:aw m r:=hI.n.2.2.2.1
 have nTr:∀{vc vt:NV},∀i∈ [r],¬TX m n0 n1 vc vt i:=fun i hi q=>q.1 (one hi▸horm)
 have nT1:∀{vc vt:NV},∀i∈ [n1],¬TX m n0 n1 vc vt i:=fun i hi q=>q.2.2.2.2 (one hi)
 have nT0:∀{vc vt:NV},∀i∈ [n0],¬TX m n0 n1 vc vt i:=fun i hi q=>q.2.2.2.1 (one hi)
 have nTz:∀{vc vt:NV},∀i∈([]:List D4),¬TX m n0 n1 vc vt i:=fun i hi=>by simp at hi
 obtain ⟨m2,r2,hC2⟩:=qW hI.h
 have hlt:=hI.h.a
 obtain ⟨f,rfl⟩:∃f',k=f'+1:=⟨k - 1,by omega⟩
 rw[aW,Q4 (by omega)] at hX
 unfold Tok.l at r2
 have i2:=hI.to (hI.h.grow hC2) (hC2.weak (by simp)) (Nat.le_refl _)
 have T2:=hT.to hC2 nTz
 by_cases h5:(av L s.a).k=5
 ·rw[Q5 h5] at hX
  injection hX with e1 e2
  subst e1 e2
  rw[h5] at r2
  have g0:=i2.g0
  have g1:=i2.g1
  have o0:=i2.o0
  have o1:=i2.o1
  simp (disch:=first|assumption|omega|(apply ai;omega)|(apply ae;assumption)|(simp only[ay]<;>omega)) only[go_sem,seval,t1,t2,t3,t4,r2.wf,g1,g0]
  generalize hM:hp _ 0 m2=M'
  have hC':Chg [n0] m2 M':=bf hM rfl
  have T3:=T2.to hC' nT0
  have cc:=i2.pc.chg hC' fun i hi q=>(i2.d i hi).2.1 (one q)
  have ct:=i2.pt.chg hC' fun i hi q=>(i2.dt i hi).1 (one q)
  have wk:∀i,TX m n0 n1 vc vt i->eB m i:=fun i q=>q.1
  refine hK hs _ _ ⟨vc,vt,vr,rfl,⟨cc.sl,fun i hi=>cc.new i hi,⟨D,ct.sl,fun i hi=>ct.new i hi,T3.len,fun j x c a b=> ?_⟩, ?_⟩,i2.c.trans hC' fun i hi ho=>(i2.n.2.2.2.2.1 (one hi▸ho)).elim⟩
  ·obtain ⟨vb,B,e,q⟩:=T3.t j x c a b
   exact ⟨vb,B,e,q.weak wk⟩
  ·obtain ⟨C,q⟩:=T3.r
   exact ⟨C,q.weak wk⟩
 rw[Q4 h5] at hX
 have hend:∀t,(dJ L P s).2=t->t.e≠0->∀M',Chg [r] m M'->E (Iw t) M':=fun t ht he M' hC=>by
  rw[ht,xg he] at hX
  injection hX with _ e2
  rw[e2] at he ⊢
  exact hE he M' hC
 have hC2r:Chg [r] M m2:=hC2.weak (by simp)
 obtain ⟨m3,r3,h3,hC3⟩:=fX i2.h hs (k:=4) (t:= [99,101,108,108]) (by omega) rfl
 have r3:a6 Tryz.prog S0 43 [.ptr r 0,ii 4,.str [99,101,108,108]] m2 (.bool (au L [99,101,108,108] s)) m3:=r3
 have T3:=T2.to hC3 nTr
 cases b1:au L [99,101,108,108] s with
 |true=>
  rw[b1] at r3 h3
  rw[Q5 rfl] at h3
  have i3:Pi r n0 n1 u L m m3 (aa s).a vc vt vr (kF P.cs) D:=i2.to h3 hC3 (by rw[fB];omega)
  have htop:dJ L P s=(⟨P.cs++ [(dH L (aa s)).1],P.ts,P.rc,P.rd⟩,(dH L (aa s)).2):=Q5 b1
  rw[htop] at hX hend
  have hle:=(nK (L:=L) (aa s)).le
  have g1:=i3.g1
  have o1:=i3.o1
  simp (disch:=first|assumption|omega|(apply ai;omega)|(apply ae;assumption)|(simp only[ay]<;>omega)) only[go_sem,seval,t1,t2,t3,t4,r2.wf',h5,r3.wf',g1]
  refine LJ i3.h hs E _ (fun he m' hC=>hend _ rfl he m' (i3.c.trans hC fun i hi _=>hi)) ?_
  rintro he _ m4 ⟨rfl,h4,hC4⟩
  generalize dH L (aa s)=q at hX hend h4 hle he
  obtain ⟨c,s4⟩:=q
  dsimp only at hX hend h4 hle he
  have i4:=i3.to h4 hC4 hle
  have T4:=T3.to hC4 nTr
  have g4:=i4.g1
  have o4:=i4.o1
  have hsm:=i4.pc.sl.same (n:=3)
  rw[←ab m4]
  simp (disch:=first|assumption|omega|(apply ai;omega)|(apply ae;assumption)|(simp only[ay]<;>omega)) only[go_sem,seval,t1,t2,t3,t4,g4,hsm]
  generalize hm5:hp _ 1 m4=m5
  have hC5:Chg [] m4 m5:=bf hm5 rfl
  have i5:Pi r n0 n1 u L m m5 s4.a vc vt vr (kF P.cs) D:=i4.to (i4.h.grow hC5) (hC5.weak (by simp)) (Nat.le_refl _)
  have T5:=T4.to hC5 nTz
  have hlen:(kF P.cs).length+1+D.length<=s4.a:=by have:=i2.len;rw[fB] at hle;omega
  have gx:m5.get (na m4 0)=some (.cells true [.str c.1,ii c.2]):=bu hm5
  obtain ⟨v',m6,q1,g6,o6,hv',hC6,hF6,q2⟩:=i5.appC gx (bB hm5 (by omega)) rfl hlen
  rw[←ab m6] at q1
  simp (disch:=first|assumption|omega|(apply ai;omega)|(apply ae;assumption)|(simp only[ay]<;>omega)) only[go_sem,seval,t1,t2,t3,t4,q1,g6,hv']
  generalize hm7:hp _ 0 m6=m7
  have i7:=q2 _ _ hm7
  have hC7:Chg [n1] m6 m7:=bf hm7 rfl
  have ecs:kF (P.cs++ [c])=kF P.cs++ [[.str c.1,ii c.2]]:=by simp[kF]
  rw[←ecs] at i7
  have T7:Tr m m7 n0 n1 v' vt vr ⟨P.cs++ [c],P.ts,P.rc,P.rd⟩ D:=T5.map fun q=>by
   have a2:=(q.old.stays (m':=m6) (aE.of hC6 fun i hi hs=>hi.1.2.1 hs)).stays (m':=m7) (aE.of hC7 fun i hi hs=>hi.1.2.2.2.2 (one hs))
   exact a2.weak fun i hi=>⟨hi.1.1,fun h=>(hF6 i h).elim hi.1.2.1 fun q=>q hi.2,hi.1.2.2⟩
  exact ⟨f,by omega,_,m7,s4,⟨P.cs++ [c],P.ts,P.rc,P.rd⟩,v',vt,vr,D,by rfl,by simp only[go_sem,seval,t1],by simp only[go_sem,seval,t2],by simp only[go_sem,seval,t3],by simp only[go_sem,seval,t4],he,i7,T7,hX,by rw[fB] at hle;omega⟩
 |false=>
 rw[b1] at r3 h3
 rw[Q4 Bool.false_ne_true] at h3
 have i3:Pi r n0 n1 u L m m3 s.a vc vt vr (kF P.cs) D:=i2.to h3 hC3 (Nat.le_refl _)
 obtain ⟨m4,r4,h4,hC4⟩:=fX i3.h hs (k:=4) (t:= [116,104,114,101,97,100]) (by omega) rfl
 have r4:a6 Tryz.prog S0 43 [.ptr r 0,ii 4,.str [116,104,114,101,97,100]] m3 (.bool (au L [116,104,114,101,97,100] s)) m4:=r4
 have T4:=T3.to hC4 nTr
 cases b2:au L [116,104,114,101,97,100] s with
 |true=>
  rw[b2] at r4 h4
  rw[Q5 rfl] at h4
  have i4:Pi r n0 n1 u L m m4 (aa s).a vc vt vr (kF P.cs) D:=i3.to h4 hC4 (by rw[fB];omega)
  have htop:dJ L P s=(⟨P.cs,P.ts++ [(fD L (aa s)).1],P.rc,P.rd⟩,(fD L (aa s)).2):=(Q4 (by rw[b1];exact Bool.false_ne_true)).trans (Q5 b2)
  rw[htop] at hX hend
  unfold fD at hX hend
  simp (disch:=first|assumption|omega|(apply ai;omega)|(apply ae;assumption)|(simp only[ay]<;>omega)) only[go_sem,seval,t1,t2,t3,t4,r2.wf',h5,r3.wf',r4.wf']
  have hle:=(cw L (aa s)).le
  refine lz i4.h hs E _ (fun he m' hC=>hend _ ((bN 30 _).err he) he m' (i4.c.trans hC fun i hi _=>hi)) ?_
  rintro he _ m5 ⟨⟨_,_,_,rfl⟩,h5',hC5⟩
  generalize aJ L (aa s)=q at hX hend h5' hle he
  obtain ⟨n,s5⟩:=q
  dsimp only at hX hend h5' hle he
  have i5:Pi r n0 n1 u L m m5 s5.a vc vt vr (kF P.cs) D:=i4.to h5' hC5 hle
  have T5:=T4.to hC5 nTr
  have g5:=i5.g1
  have o5:=i5.o1
  simp (disch:=first|assumption|omega|(apply ai;omega)|(apply ae;assumption)|(simp only[ay]<;>omega)) only[go_sem,seval,t1,t2,t3,t4,g5]
  have hle6:=(bN (L:=L) 30 s5).le
  refine zC 30 (by omega) m5 _ i5.h he E _ (fun he m' hC=>hend _ rfl he m' (i5.c.trans hC fun i hi _=>hi)) ?_
  rintro he w m6 ⟨⟨B,hb⟩,h6,hC6⟩
  generalize bC L 30 s5=q at hX hend h6 hle6 he hb
  obtain ⟨b,s6⟩:=q
  dsimp only at hX hend h6 hle6 he hb
  have i6:Pi r n0 n1 u L m m6 s6.a vc vt vr (kF P.cs) D:=i5.to h6 hC6 hle6
  have T6:=T5.to hC6 nTr
  have hb6:SS m6 (TX m n0 n1 vc vt) w b B:=hb.weak fun i hi=>⟨fun q=>hi (i5.c.old q),fun q=>hi (i5.pc.sl.old i q),fun q=>hi (i5.pt.sl.old i q),fun q=>hi (q▸i5.o0),fun q=>hi (q▸i5.o1)⟩
  have g6:=i6.g1
  have o6:=i6.o1
  have hsm:=i6.pt.sl.same (n:=3)
  have hw:=hb.sl.one
  rw[←ab m6]
  simp (disch:=first|assumption|omega|(apply ai;omega)|(apply ae;assumption)|(simp only[ay]<;>omega)) only[go_sem,seval,t1,t2,t3,t4,g6,hsm,hw]
  generalize hm7:hp _ 1 m6=m7
  have hC7:Chg [] m6 m7:=bf hm7 rfl
  have i7:Pi r n0 n1 u L m m7 s6.a vc vt vr (kF P.cs) D:=i6.to (i6.h.grow hC7) (hC7.weak (by simp)) (Nat.le_refl _)
  have T7:=T6.to hC7 nTz
  have hb7:=hb6.stays (iM hC7 _)
  have hlen:(kF P.cs).length+1+D.length<=s6.a:=by have:=i2.len;rw[fB] at hle;omega
  have gx:m7.get (na m6 0)=some (.cells true [.str n,w]):=bu hm7
  obtain ⟨v',m8,q1,g8,o8,hv',hC8,hF8,q2⟩:=i7.appT gx (bB hm7 (by omega)) rfl hlen
  rw[←ab m8] at q1
  simp (disch:=first|assumption|omega|(apply ai;omega)|(apply ae;assumption)|(simp only[ay]<;>omega)) only[go_sem,seval,t1,t2,t3,t4,q1,g8,hv']
  generalize hm9:hp _ 0 m8=m9
  have i9:=q2 _ _ hm9
  have hC9:Chg [n1] m8 m9:=bf hm9 rfl
  have hmv:∀{v:NV} {l:List Stm} {C:List (List NV)},SS m7 (TX m n0 n1 vc vt) v l C->SS m9 (TX m n0 n1 vc v') v l C:=fun q=>by
   have a2:=(q.old.stays (m':=m8) (aE.of hC8 fun i hi hs=>hi.1.2.2.1 hs)).stays (m':=m9) (aE.of hC9 fun i hi hs=>hi.1.2.2.2.2 (one hs))
   exact a2.weak fun i hi=>⟨hi.1.1,hi.1.2.1,fun h=>(hF8 i h).elim hi.1.2.2.1 fun q=>q hi.2,hi.1.2.2.2⟩
  have T9:Tr m m9 n0 n1 vc v' vr ⟨P.cs,P.ts++ [(n,b)],P.rc,P.rd⟩ (D++ [[.str n,w]]):=by
   have T9:=T7.map (cs:=P.cs) (rd:=P.rd) hmv
   refine ⟨by simp[T9.len],fun j x c h1 h2=> ?_,T9.r⟩
   rcases Nat.lt_or_ge j P.ts.length with h|h
   ·dsimp only at h1
    rw[List.getElem?_append_left h] at h1
    rw[List.getElem?_append_left (by rw[T9.len];exact h)] at h2
    exact T9.t j x c h1 h2
   ·dsimp only at h1
    rw[List.getElem?_append_right h] at h1
    rw[List.getElem?_append_right (by rw[T9.len];exact h),T9.len] at h2
    cases hj:j - P.ts.length with
    |zero=>rw[hj] at h1 h2;cases h1;cases h2;exact ⟨w,B,rfl,hmv hb7⟩
    |succ n=>rw[hj] at h1;simp at h1
  exact ⟨f,by omega,_,m9,s6,⟨P.cs,P.ts++ [(n,b)],P.rc,P.rd⟩,vc,v',vr,D++ [[.str n,w]],by rfl,by simp only[go_sem,seval,t1],by simp only[go_sem,seval,t2],by simp only[go_sem,seval,t3],by simp only[go_sem,seval,t4],he,i9,T9,hX,by rw[fB] at hle;omega⟩
 |false=>
 rw[b2] at r4 h4
 rw[Q4 Bool.false_ne_true] at h4
 have i4:Pi r n0 n1 u L m m4 s.a vc vt vr (kF P.cs) D:=i3.to h4 hC4 (Nat.le_refl _)
 have htop:dJ L P s=(⟨P.cs,P.ts,(pK L P.rd s).1,true⟩,(pK L P.rd s).2):=(Q4 (by rw[b1];exact Bool.false_ne_true)).trans (Q4 (by rw[b2];exact Bool.false_ne_true))
 rw[htop] at hX hend
 obtain ⟨m5,r5,hC5⟩:=Jf i4.h 4 cv
 have r5:a6 Tryz.prog S0 47 [.ptr r 0,ii 4,.str [114,101,99,111,118,101,114]] m4 (.bool (decide ((av L s.a).k=4/\(av L s.a).t=cv))) m5:=r5
 have i5:Pi r n0 n1 u L m m5 s.a vc vt vr (kF P.cs) D:=i4.to (i4.h.grow hC5) (hC5.weak (by simp)) (Nat.le_refl _)
 have T5:=T4.to hC5 nTz
 have body:∀{M:NH} {K':NV->NH->Prop},a8 L P.rd s=s->au L cv s=true->Pi r n0 n1 u L m M (aa s).a vc vt vr (kF P.cs) D->Tr m M n0 n1 vc vt vr P D->
  (∀w m8 s7 b,s7.e=0->cellsOf w=some [w]->Pi r n0 n1 u L m m8 s7.a vc vt vr (kF P.cs) D->(∀k m9,hp [(.o n1,.cells true [vc,vt,w])] k m8=m9->Pi r n0 n1 u L m m9 s7.a vc vt w (kF P.cs) D/\Tr m m9 n0 n1 vc vt w ⟨P.cs,P.ts,b,true⟩ D)->aW L f ⟨P.cs,P.ts,b,true⟩ s7=(X,Z)->L.length<f+s7.a->K' w m8)->WF ⟨Tryz.prog,E⟩ S0 46 [.ptr r 0,ii 0] M K':=by
  intro M K' htw hb i6 T6 hK'
  have er:pK L P.rd s=bC L 30 (aa s):=by
   unfold pK aT
   rw[htw,Q5 hb]
  rw[er] at hX hend
  have hle:=(bN (L:=L) 30 (aa s)).le
  refine zC 30 (by omega) M _ i6.h hs E _ (fun he m' hC=>hend _ rfl he m' (i6.c.trans hC fun i hi _=>hi)) ?_
  rintro he w m7 ⟨⟨B,hbb⟩,h7,hC7⟩
  generalize bC L 30 (aa s)=q at hX hend h7 hle he hbb
  obtain ⟨b,s7⟩:=q
  dsimp only at hX hend h7 hle he hbb
  have i7:=i6.to h7 hC7 hle
  have T7:=T6.to hC7 nTr
  have hb7:SS m7 (TX m n0 n1 vc vt) w b B:=hbb.weak fun i hi=>⟨fun q=>hi (i6.c.old q),fun q=>hi (i6.pc.sl.old i q),fun q=>hi (i6.pt.sl.old i q),fun q=>hi (q▸i6.o0),fun q=>hi (q▸i6.o1)⟩
  refine hK' w m7 s7 b he hbb.sl.one i7 (fun k m9 hm9=> ?_) hX (by rw[fB] at hle;omega)
  have hC9:Chg [n1] m7 m9:=bf hm9 rfl
  have T9:=T7.to hC9 nT1
  exact ⟨i7.set hm9 rfl i7.pc i7.pt i7.len i7.d i7.dt,⟨T9.len,T9.t,B,hb7.stays (aE.of hC9 fun i hi q=>nT1 i q hi)⟩⟩
 have nobody:a8 L P.rd s=s->au L cv s=false->∀M',Chg [r] m M'->E (Iw (aV 2 s)) M':=fun htw hb M' hC=>by
  have e:aT L cv (a8 L P.rd s)=aV 2 s:=by
   unfold aT
   rw[htw,Q4 (by rw[hb];exact Bool.false_ne_true)]
  have he:(aV 2 s).e≠0:=by rw[cl hs];simp
  refine hend (aV 2 s) ?_ he M' hC
  show (bC L 30 (aT L cv (a8 L P.rd s))).2=_
  rw[e];exact (bN 30 _).err he
 cases hrd:P.rd with
 |true=>
  rw[hrd] at t4
  cases hd:decide ((av L s.a).k=4/\(av L s.a).t=cv) with
  |true=>
   rw[hd] at r5
   have e:a8 L P.rd s=aV 5 s:=Q5 ⟨hrd,of_decide_eq_true hd⟩
   have he:(aV 5 s).e≠0:=by rw[cl hs];simp
   have hq:(pK L P.rd s).2=aV 5 s:=by
    show (bC L 30 (aT L cv (a8 L P.rd s))).2=_
    rw[e,tH he];exact (bN 30 _).err he
   have:=hend _ hq he
   rw[cl hs] at this
   simp (disch:=first|assumption|omega|(apply ai;omega)|(apply ae;assumption)|(simp only[ay]<;>omega)) only[go_sem,seval,t1,t2,t3,t4,r2.wf',h5,r3.wf',r4.wf',r5.wf',(ij i5.h 5).wf]
   exact this _ i5.c
  |false=>
   rw[hd] at r5
   have e:a8 L P.rd s=s:=Q4 fun q=>of_decide_eq_false hd q.2
   obtain ⟨m6,r6,h6,hC6⟩:=fX i5.h hs (k:=4) (t:=cv) (by omega) rfl
   have r6:a6 Tryz.prog S0 43 [.ptr r 0,ii 4,.str [114,101,99,111,118,101,114]] m5 (.bool (au L cv s)) m6:=r6
   have e2:au L cv s=false:=Q6 fun q=>of_decide_eq_false hd ⟨q.2.1,q.2.2⟩
   rw[e2] at r6 h6
   rw[Q4 Bool.false_ne_true] at h6
   have i6:Pi r n0 n1 u L m m6 s.a vc vt vr (kF P.cs) D:=i5.to h6 hC6 (Nat.le_refl _)
   have:=nobody e e2
   rw[cl hs] at this
   simp (disch:=first|assumption|omega|(apply ai;omega)|(apply ae;assumption)|(simp only[ay]<;>omega)) only[go_sem,seval,t1,t2,t3,t4,r2.wf',h5,r3.wf',r4.wf',r5.wf',r6.wf',(ij i6.h 2).wf]
   exact this _ i6.c
 |false=>
  rw[hrd] at t4
  have e:a8 L P.rd s=s:=Q4 fun q=>by rw[hrd] at q;exact Bool.false_ne_true q.1
  obtain ⟨m6,r6,h6,hC6⟩:=fX i4.h hs (k:=4) (t:=cv) (by omega) rfl
  have r6:a6 Tryz.prog S0 43 [.ptr r 0,ii 4,.str [114,101,99,111,118,101,114]] m4 (.bool (au L cv s)) m6:=r6
  have T6:=T4.to hC6 nTr
  cases b6:au L cv s with
  |true=>
   rw[b6] at r6 h6
   rw[Q5 rfl] at h6
   have i6:Pi r n0 n1 u L m m6 (aa s).a vc vt vr (kF P.cs) D:=i4.to h6 hC6 (by rw[fB];omega)
   simp (disch:=first|assumption|omega|(apply ai;omega)|(apply ae;assumption)|(simp only[ay]<;>omega)) only[go_sem,seval,t1,t2,t3,t4,r2.wf',h5,r3.wf',r4.wf',r6.wf']
   refine body e b6 i6 T6 ?_
   intro w m7 s7 b he hw i7 q2 hX hf
   have g7:=i7.g1
   have o7:=i7.o1
   rw[←ab m7]
   simp (disch:=first|assumption|omega|(apply ai;omega)|(apply ae;assumption)|(simp only[ay]<;>omega)) only[go_sem,seval,t1,t2,t3,t4,g7,hw]
   generalize hm8:hp _ 0 m7=m8
   obtain ⟨i8,T8⟩:=q2 _ _ hm8
   exact ⟨f,by omega,_,m8,s7,⟨P.cs,P.ts,b,true⟩,vc,vt,w,D,by rfl,by simp only[go_sem,seval,t1],by simp only[go_sem,seval,t2],by simp only[go_sem,seval,t3],by simp only[go_sem,seval],he,i8,T8,hX,hf⟩
  |false=>
   rw[b6] at r6 h6
   rw[Q4 Bool.false_ne_true] at h6
   have i6:Pi r n0 n1 u L m m6 s.a vc vt vr (kF P.cs) D:=i4.to h6 hC6 (Nat.le_refl _)
   have:=nobody e b6
   rw[cl hs] at this
   simp (disch:=first|assumption|omega|(apply ai;omega)|(apply ae;assumption)|(simp only[ay]<;>omega)) only[go_sem,seval,t1,t2,t3,t4,r2.wf',h5,r3.wf',r4.wf',r6.wf',(ij i6.h 2).wf]
   exact this _ i6.c
end
end FR
