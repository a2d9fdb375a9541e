/- Contracts of functions that the law LowerMeans reaches, part 3. -/
import Derived.Test.YtcpilcplobihkaaGreatLmU2
set_option linter.unusedSimpArgs false
set_option linter.unusedVariables false
open Go Nm Go.Proofs
namespace FR
variable {p:Prg} {m:NH} {N:D4->Prop} {o' n:Nat} {v:NV} {P:Ex->Prop} {ls:List Lan} {cs:List (List Nat×Int)} {l:List Stm} {a b:Int} {Z:List (List Nat)}
structure GoL (B m0 M:NH) (r b:D4) (H:Hd) (q:Mp) (F0:List D4) (vo rec vl vv:NV) (c:Cd) (t:Lan) (z:Mc) (k o:Nat):Prop where
 st:StO B M r H q vo rec vl z k
 la:LanO B M b vv c t
 dj:∀i∈gd r q vo,i∉jJ b vv
 ol:z.out.length<=o
 ev:EvF F0 (gd r q vo++jJ b vv) m0 M
section
variable {B m m':NH} {r b:D4} {H:Hd} {q:Mp} {vo rec vl vv:NV} {z:Mc} {k o:Nat} {c:Cd} {t:Lan}
theorem JO (s:Sp) (v:List Int) (z:Mc):(fW s v z).2.out.length<=z.out.length+1:=by
 unfold fW
 split
 ·simp
 split
 ·simp
 split
 ·simp
 split<;>simp
theorem Ny (s:Sp):bg 4 (.agg s.l) (.agg s.l)=true:=dH fun w hw=>by
 simp only[Xf,Xe,or_false] at hw
 rcases hw with rfl|rfl|rfl|rfl|rfl|rfl|rfl|rfl|rfl<;>trivial
set_option maxHeartbeats 4000000 in
set_option maxRecDepth 20000 in
theorem R4 (hk:k<=1000000) (ho:o<=1000000) (hsk:t.sk=false) (h:GoL B m m r b H q (gd r q vo++jJ b vv) vo rec vl vv c t z k o):
 ∃m',rT 50 [.ptr r 0,.ptr b 0] m (.bool (lp c.st 20000 t z).1) m'/\∃vo',GoL B m m' r b H q (gd r q vo++jJ b vv) vo' rec vl vv c (lp c.st 20000 t z).2.1 (lp c.st 20000 t z).2.2 (k+1) (o+1):=by
 refine WF.ex1 fun K' hK'=> ?_
 refine WF.of_wpG (fun _=>rfl) Eh (L:= [(.a .e,.ptr b 0),(.e,.ptr r 0)]) rfl ?_
 unfold RB
 generalize hR:lp c.st 20000 t z=R at hK'
 generalize hF0:gd r q vo++jJ b vv=F0 at h hK'
 obtain ⟨a0,v0,sk0,en⟩:=t
 dsimp only at hsk
 subst hsk
 simp only[go_sem,seval,aa]
 refine W.loop (fun f d=>∃T M a v n,d=⟨T, [],none,M⟩/\NT.get D4.e T=some (.ptr r 0)/\NT.get D4.e.a T=some (.ptr b 0)/\NT.get D4.e.a.a T=some (ii (n:Nat))/\GoL B m M r b H q F0 vo rec vl vv c ⟨a,v,false,en⟩ z k o/\n+f=20001/\n<=20000/\lp c.st (20000 - n) ⟨a,v,false,en⟩ z=R) ?_ 20001 _ ⟨_,m,a0,v0,0,rfl,by exact gq rfl,by exact gq rfl,by exact gq rfl,h,by omega,by omega,hR⟩
 clear h hF0 hR
 rintro f d ⟨T,M,a,v,n,rfl,t1,t2,t3,h,hnf,hn,hR⟩
 apply ax
 unfold DU
 change wp _ _ _ _ ⟨ah [] T, [],none,M⟩ _
 have hS:=h.st
 have hL:=h.la
 have ob:=hL.o
 have or:=hS.o
 have g:M.get b=some (.cells true [ii c.V,ii c.lo,c.vs,vv,ii (a:Nat),.bool false,.bool en]):=hL.g
 have gS:=hS.g
 have hls:=hL.ls
 have r1:=Qn hL
 have hrb:r≠b:=fun e=>h.dj r (by simp[gd]) (by rw[e];simp[jJ])
 have hbr:=hrb.symm
 have hLB:∀i∈jJ b vv,¬am B i:=fun i hi=>(hL.old i hi).2
 have hSB:∀i∈gd r q vo,¬am B i:=fun i hi=>(hS.old i hi).2
 by_cases hov:c.st.length<=a
 ·rw[Xd hov] at r1
  simp (disch:=first|assumption|omega|(simp only[aG]<;>omega)) only[go_sem,seval,t1,t2,t3,g,r1.wf]
  generalize hM2:hp _ 0 M=M2
  obtain ⟨hL2,e2⟩:=hL.self (t':=⟨a,v,false,true⟩) (m':=M2) rfl (kR ob hM2) (li hM2 (by simp[aC]))
  have eR:(false,(⟨a,v,false,true⟩:Lan),z)=R:=by rw[←hR];cases 20000 - n<;>rw[lp,Xb hov]
  subst eR
  exact hK' _ ⟨vo,(hS.ev e2 h.dj hLB).more (by omega),hL2,h.dj,Nat.le_succ_of_le h.ol,h.ev.trans (e2.addR _)⟩
 ·rw[Xc hov] at r1
  by_cases h20:n=20000
  ·subst h20
   simp (disch:=first|assumption|omega|(simp only[aG]<;>omega)) only[go_sem,seval,t1,t2,t3,g,r1.wf,gS]
   generalize hMe:hp _ 0 M=Me
   have hMe:Me=((M.put b (.cells true (LA c vv ⟨a,v,true,en⟩))).put r (.cells true [ii H.v0,ii H.l0,H.s0,H.cd,.ptr q.mo 0,vo,rec,vl,.bool true])).put b (.cells true (LA c vv ⟨a,v,true,false⟩)):=by
    rw[←hMe,←aa M,bX ob,bX or,bX ob,aa]
   generalize hMa:M.put b (.cells true (LA c vv ⟨a,v,true,en⟩))=Ma at hMe
   have hMa:Ma=hp [(.o b,.cells true (LA c vv ⟨a,v,true,en⟩))] 0 M:=by rw[←hMa,←bX ob,aa]
   obtain ⟨hLa,ea⟩:=hL.self (t':=⟨a,v,true,en⟩) (m':=Ma) rfl (by rw[hMa];exact (aE ob).trans aq) (by rw[hMa];exact (dg _ _ _).weak (by simp[aC]))
   have hSa:=hS.ev ea h.dj hLB
   have ora:=hSa.o
   generalize hMb:Ma.put r _=Mb at hMe
   have hMb:Mb=hp [(.o r,.cells true [ii H.v0,ii H.l0,H.s0,H.cd,.ptr q.mo 0,vo,rec,vl,.bool true])] 0 Ma:=by rw[←hMb,←bX ora,aa]
   obtain ⟨hSb,eb⟩:=hSa.refit (rec':=rec) (vl':=vl) (ill':=true) (m':=Mb) (by rw[hMb];exact (aE ora).trans aq) (by rw[hMb];exact (dg _ _ _).weak (by simp[aC]))
   have hLb:=hLa.ev eb (fun i hi w=>h.dj i w hi) hSB
   have obb:=hLb.o
   have hMe:Me=hp [(.o b,.cells true (LA c vv ⟨a,v,true,false⟩))] 0 Mb:=by rw[hMe,←bX obb,aa]
   obtain ⟨hLe,ee⟩:=hLb.self (t':=⟨a,v,true,false⟩) (m':=Me) rfl (by rw[hMe];exact (aE obb).trans aq) (by rw[hMe];exact (dg _ _ _).weak (by simp[aC]))
   have eR:(false,(⟨a,v,true,false⟩:Lan),(⟨z.cl,z.out,true⟩:Mc))=R:=by rw[←hR,Nat.sub_self,lp,Xa hov]
   subst eR
   exact hK' _ ⟨vo,(hSb.ev ee h.dj hLB).more (by omega),hLe,h.dj,Nat.le_succ_of_le h.ol,((h.ev.trans (ea.addR _)).trans (eb.addL _)).trans (ee.addR _)⟩
  ·have e20:20000 - n=(19999 - n)+1:=by omega
   rw[e20,lp,Xa hov] at hR
   dsimp only at hR
   have hal:a<c.st.length:=by omega
   have es:KJ c.st a=c.st[a]:=by unfold KJ;rw[List.getElem?_eq_getElem hal];rfl
   rw[es] at hR
   obtain ⟨ids',off,w,cc,a1,a2,a3,a4,a5⟩:=hL.s.at a (by simpa using hal)
   rw[List.getElem_map] at a5
   have hok:=hL.ok _ (List.getElem_mem hal)
   generalize c.st[a]=s at *
   have a2M:=(hL.ch.get a3 (by simp)).trans a2
   have hss:=Ny s
   have hvs:=hL.s.same (n:=3)
   generalize hM1:hp [(.o b,.cells true [ii c.V,ii c.lo,c.vs,vv,ii ((a:Nat)+1:Int),.bool false,.bool en]),(.n 0,.cells true s.l),(.n 0,.cells true [ii 0,ii 0,ii 0,ii 0,ii 0,ii 0,ii 0,iu 0,ib 0])] 1 M=M1
   have gb1:M1.get b=some (.cells true [ii c.V,ii c.lo,c.vs,vv,ii ((a:Nat)+1:Int),.bool false,.bool en]):=kR ob hM1
   have hC1:Chg [b] M M1:=li hM1 (by simp[aC])
   have q1:M1.get (na M 0)=some (.cells true s.l):=bu hM1
   have u1:am M1 (na M 0):=bt hM1 (by omega)
   obtain ⟨hL1,e1⟩:=hL.self (t':=⟨a+1,v,false,en⟩) (m':=M1) rfl gb1 hC1
   have hS1:=hS.ev e1 h.dj hLB
   have eF:=h.ev.trans (e1.addR (gd r q vo))
   have ra:=re hL1 s.a
   have rb:=re hL1 s.b
   have ia:=mE hL1.iv s.a
   have ib':=mE hL1.iv s.b
   dsimp only at ra rb ia ib'
   have hfin:∀{M2:NH} {a':Nat} {v':List Int},LanO B M2 b vv c ⟨a',v',false,en⟩->EvF (jJ b vv) (jJ b vv) M1 M2->GoL B m M2 r b H q F0 vo rec vl vv c ⟨a',v',false,en⟩ z k o:=fun l e=>⟨hS1.ev e h.dj hLB,l,h.dj,h.ol,eF.trans (e.addR _)⟩
   have e19:20000 - (n+1)=19999 - n:=by omega
   by_cases k0:s.k=0
   ·rw[Xa (by unfold bp;omega)] at hR
    simp only[bE,Xb k0] at hR
    obtain ⟨M2,r2,hL2,e2⟩:=nA hL1 s.d hok.1
    simp (disch:=first|assumption|omega|(simp only[aG]<;>omega)) only[go_sem,seval,t1,t2,t3,g,r1.wf,a1,a2M,a5,hss,hvs,hM1,q1,r2.wf']
    exact ⟨f - 1,by omega,_,M2,_,_,n+1,by rfl,by exact gq t1,by exact gq t2,by exact gq rfl,hfin hL2 e2,by omega,by omega,by rw[e19];exact hR⟩
   by_cases k1:s.k=1
   ·rw[Xa (by unfold bp;omega)] at hR
    simp only[bE,Xa k0,Xb k1] at hR
    obtain ⟨M2,r2,hL2,e2⟩:=nA hL1 s.d ia
    simp (disch:=first|assumption|omega|(simp only[aG]<;>omega)) only[go_sem,seval,t1,t2,t3,g,r1.wf,a1,a2M,a5,hss,hvs,hM1,q1,ra.wf',r2.wf']
    exact ⟨f - 1,by omega,_,M2,_,_,n+1,by rfl,by exact gq t1,by exact gq t2,by exact gq rfl,hfin hL2 e2,by omega,by omega,by rw[e19];exact hR⟩
   by_cases k2:s.k=2
   ·rw[Xa (by unfold bp;omega)] at hR
    simp only[bE,Xa k0,Xa k1,Xb k2] at hR
    obtain ⟨so,hso⟩:=Xh hok.2
    rw[hso,Int.toNat_natCast] at hR
    have ro:=Un M1 so ia ib'
    obtain ⟨M2,r2,hL2,e2⟩:=nA hL1 s.d (Kf (o:=so) ia ib')
    simp (disch:=first|assumption|omega|(simp only[aG]<;>omega)) only[go_sem,seval,t1,t2,t3,g,r1.wf,a1,a2M,a5,hss,hvs,hM1,q1,ra.wf',rb.wf',hso,ro.wf',r2.wf']
    exact ⟨f - 1,by omega,_,M2,_,_,n+1,by rfl,by exact gq t1,by exact gq t2,by exact gq rfl,hfin hL2 e2,by omega,by omega,by rw[e19];exact hR⟩
   by_cases k10:s.k=10
   ·rw[Xa (by unfold bp;omega)] at hR
    simp only[bE,Xa k0,Xa k1,Xa k2,Xb k10] at hR
    obtain ⟨M2,r2,hL2,e2⟩:=Hi hL1 s.t
    simp (disch:=first|assumption|omega|(simp only[aG]<;>omega)) only[go_sem,seval,t1,t2,t3,g,r1.wf,a1,a2M,a5,hss,hvs,hM1,q1,r2.wf']
    exact ⟨f - 1,by omega,_,M2,_,_,n+1,by rfl,by exact gq t1,by exact gq t2,by exact gq rfl,hfin hL2 e2,by omega,by omega,by rw[e19];exact hR⟩
   by_cases k11:s.k=11
   ·rw[Xa (by unfold bp;omega)] at hR
    simp only[bE,Xa k0,Xa k1,Xa k2,Xa k10,Xb k11] at hR
    by_cases hz:bw v s.a=0
    ·simp only[Xb hz] at hR
     obtain ⟨M2,r2,hL2,e2⟩:=Hi hL1 s.t
     simp (disch:=first|assumption|omega|(simp only[aG]<;>omega)) only[go_sem,seval,t1,t2,t3,g,r1.wf,a1,a2M,a5,hss,hvs,hM1,q1,ra.wf',hz,r2.wf']
     exact ⟨f - 1,by omega,_,M2,_,_,n+1,by rfl,by exact gq t1,by exact gq t2,by exact gq rfl,hfin hL2 e2,by omega,by omega,by rw[e19];exact hR⟩
    ·simp only[Xa hz] at hR
     have hde:decide (bw v s.a=0)=false:=Xc hz
     simp (disch:=first|assumption|omega|(simp only[aG]<;>omega)) only[go_sem,seval,t1,t2,t3,g,r1.wf,a1,a2M,a5,hss,hvs,hM1,q1,ra.wf',hde]
     exact ⟨f - 1,by omega,_,M1,_,_,n+1,by rfl,by exact gq t1,by exact gq t2,by exact gq rfl,hfin hL1 (EvF.refl M1),by omega,by omega,by rw[e19];exact hR⟩
   by_cases k12:s.k=12
   ·rw[Xa (by unfold bp;omega)] at hR
    simp only[bE,Xa k0,Xa k1,Xa k2,Xa k10,Xa k11,Xb k12] at hR
    have ob1:=hL1.o
    have hlen:=hL1.s.len
    rw[List.length_map] at hlen
    simp (disch:=first|assumption|omega|(simp only[aG]<;>omega)) only[go_sem,seval,t1,t2,t3,g,r1.wf,a1,a2M,a5,hss,hvs,hM1,q1,gb1,hlen]
    generalize hM2:M1.put b _=M2
    have hM2:M2=hp [(.o b,.cells true [ii c.V,ii c.lo,c.vs,vv,ii (c.st.length:Nat),.bool false,.bool en])] 0 M1:=by rw[←hM2,←bX ob1,aa]
    obtain ⟨hL2,e2⟩:=hL1.self (t':=⟨c.st.length,v,false,en⟩) (m':=M2) rfl (by rw[hM2];exact (aE ob1).trans aq) (by rw[hM2];exact (dg _ _ _).weak (by simp[aC]))
    exact ⟨f - 1,by omega,_,M2,_,_,n+1,by rfl,by exact gq t1,by exact gq t2,by exact gq rfl,hfin hL2 e2,by omega,by omega,by rw[e19];exact hR⟩
   by_cases hA:bp s
   ·rw[Xb hA] at hR
    obtain ⟨M2,r2,vo',hA2⟩:=R5 hS1 hL1 h.dj hk (by have:=h.ol;omega) hA
    dsimp only at hA2 r2
    have hkk:s.k=3∨s.k=4∨s.k=5∨s.k=8:=hA
    subst hR
    rcases hkk with hkk|hkk|hkk|hkk
    all_goals
     simp (disch:=first|assumption|omega|(simp only[aG]<;>omega)) only[go_sem,seval,t1,t2,t3,g,r1.wf,a1,a2M,a5,hss,hvs,hM1,q1,r2.wf']
     exact hK' _ ⟨vo',hA2.st,hA2.la,hA2.dj,Nat.le_trans (JO _ _ _) (by have:=h.ol;omega),eF.trans hA2.ev⟩
   ·rw[Xa hA] at hR
    simp only[bE,Xa k0,Xa k1,Xa k2,Xa k10,Xa k11,Xa k12] at hR
    unfold bp at hA
    simp (disch:=first|assumption|omega|(simp only[aG]<;>omega)) only[go_sem,seval,t1,t2,t3,g,r1.wf,a1,a2M,a5,hss,hvs,hM1,q1]
    exact ⟨f - 1,by omega,_,M1,_,_,n+1,by rfl,by exact gq t1,by exact gq t2,by exact gq rfl,hfin hL1 (EvF.refl M1),by omega,by omega,by rw[e19];exact hR⟩
end
structure Lp where
 b:D4
 vv:NV
def Lp.fp (t:Lp):List D4:=jJ t.b t.vv
def SB (p:Prg) (l:List Stm) (vs:NV):Cd:=⟨(bJ p.cs l).v,(locals l).length,vs,(bJ p.cs l).st⟩
def Rr (p:Prg) (B m:NH) (l:List Stm) (t:Lp) (y:Lan):Prop:=∃vs,LanO B m t.b t.vv (SB p l vs) y
def OJ (p:Prg) (ph:Bool) (j:Nat):List Stm:=if ph=true then bL p j else p.r
structure LnsO (p:Prg) (B m:NH) (ph:Bool) (ls:List Lan) (bs:List Lp):Prop where
 ln:bs.length=ls.length
 tb:∀(j:Nat) (t:Lp) (y:Lan),bs[j]? =some t->ls[j]? =some y->Rr p B m (OJ p ph j) t y
 ap:∀(j k:Nat) (t u:Lp),bs[j]? =some t->bs[k]? =some u->j≠k->∀i∈t.fp,i∉u.fp
structure RunS (p:Prg) (B m:NH) (r:D4) (H:Hd) (q:Mp) (x:Rl) (k o:Nat) (vo rec vl:NV) (bs:List Lp):Prop where
 st:StO B m r H q vo rec vl x.z k
 ls:LnsO p B m x.ph x.ls bs
 d0:∀i∈gd r q vo,i∉ids vl/\∀t∈bs,i∉t.fp
 d1:∀i∈ids vl,∀t∈bs,i∉t.fp
 ol:x.z.out.length<=o
 hv:(x.ph=false/\∃t,bs= [t]/\rec= .ptr t.b 0/\vl= .nils)∨(x.ph=true/\rec= .nilp/\aY B m vl 1 (bs.map fun t=> [.ptr t.b 0]))
def dc (r:D4) (q:Mp) (vo vl:NV) (bs:List Lp):List D4:=gd r q vo++(ids vl++(bs.map Lp.fp).flatten)
section
variable {p:Prg} {B m m':NH} {r:D4} {H:Hd} {q:Mp} {x:Rl} {k o:Nat} {vo rec vl:NV} {bs:List Lp}
theorem bZ {i:D4}:i∈dc r q vo vl bs↔i∈gd r q vo∨i∈ids vl∨∃t∈bs,i∈t.fp:=by
 unfold dc
 simp only[List.mem_append,List.mem_flatten,List.mem_map]
 constructor
 ·rintro (h|h|⟨l,⟨t,ht,rfl⟩,h⟩)
  ·exact Or.inl h
  ·exact Or.inr (Or.inl h)
  ·exact Or.inr (Or.inr ⟨t,ht,h⟩)
 ·rintro (h|h|⟨t,ht,h⟩)
  ·exact Or.inl h
  ·exact Or.inr (Or.inl h)
  ·exact Or.inr (Or.inr ⟨_,⟨t,ht,rfl⟩,h⟩)
theorem LnsO.told {ph:Bool} (h:LnsO p B m ph ls bs) {t:Lp} (ht:t∈bs):∀i∈t.fp,am m i/\¬am B i:=by
 obtain ⟨j,hj⟩:=List.mem_iff_getElem?.1 ht
 have hl:=(List.getElem?_eq_some_iff.1 hj).1
 obtain ⟨vs,h1⟩:=h.tb j t (ls[j]'(by rw[←h.ln];exact hl)) hj (List.getElem?_eq_getElem _)
 exact h1.old
theorem LnsO.off {ph:Bool} {S:List D4} (h:LnsO p B m ph ls bs) (hC:Chg S m m') (hS:∀t∈bs,∀i∈t.fp,i∉S) (hB:∀i∈S,¬am B i):LnsO p B m' ph ls bs:=
 ⟨h.ln,fun j t y h1 h2=>by
  obtain ⟨vs,h3⟩:=h.tb j t y h1 h2
  exact ⟨vs,h3.off hC (hS t (List.mem_of_getElem? h1)) hB⟩,h.ap⟩
theorem RunS.vlO (h:RunS p B m r H q x k o vo rec vl bs):∀i∈ids vl,am m i/\¬am B i:=by
 intro i hi
 rcases h.hv with ⟨-,t,-,-,rfl⟩|⟨-,-,h⟩
 ·simp[ids] at hi
 ·exact ⟨h.sl.old i hi,h.new i hi⟩
theorem RunS.all (h:RunS p B m r H q x k o vo rec vl bs):∀i∈dc r q vo vl bs,am m i/\¬am B i:=by
 intro i hi
 rcases bZ.1 hi with hi|hi|⟨t,ht,hi⟩
 ·exact h.st.old i hi
 ·exact h.vlO i hi
 ·exact h.ls.told ht i hi
theorem RunS.off {S:List D4} (h:RunS p B m r H q x k o vo rec vl bs) (hC:Chg S m m') (hS:∀i∈dc r q vo vl bs,i∉S) (hB:∀i∈S,¬am B i):RunS p B m' r H q x k o vo rec vl bs:=
 ⟨h.st.off hC (fun i hi=>hS i (bZ.2 (Or.inl hi))) hB,h.ls.off hC (fun t ht i hi=>hS i (bZ.2 (Or.inr (Or.inr ⟨t,ht,hi⟩)))) hB,h.d0,h.d1,h.ol,h.hv.imp id fun ⟨h1,h2,h3⟩=>⟨h1,h2,h3.chg hC fun i hi=>hS i (bZ.2 (Or.inr (Or.inl hi)))⟩⟩
theorem RunS.grow (h:RunS p B m r H q x k o vo rec vl bs) (hC:Chg [] m m'):RunS p B m' r H q x k o vo rec vl bs:=h.off hC (by simp) (by simp)
theorem RunS.more  {k':Nat} (h:RunS p B m r H q x k o vo rec vl bs) (hk:k<=k') (ho:o<=o'):RunS p B m r H q x k' o' vo rec vl bs:=⟨h.st.more hk,h.ls,h.d0,h.d1,Nat.le_trans h.ol ho,h.hv⟩
theorem RunS.lane (h:RunS p B m r H q x k o vo rec vl bs) {t:Lp} {vs vo':NV} {y:Lan} {z:Mc} {k':Nat} (hn:bs[n]? =some t) (hG:GoL B m m' r t.b H q (gd r q vo++jJ t.b t.vv) vo' rec vl t.vv (SB p (OJ p x.ph n) vs) y z k' o'):
 RunS p B m' r H q ⟨x.ph,x.ls.set n y,z⟩ k' o' vo' rec vl bs/\EvF (dc r q vo vl bs) (dc r q vo' vl bs) m m':=by
 have ht:=List.mem_of_getElem? hn
 have hnl:=(List.getElem?_eq_some_iff.1 hn).1
 have hF:∀i∈gd r q vo++jJ t.b t.vv,¬am B i:=fun i hi=>(List.mem_append.1 hi).elim (fun u=>(h.st.old i u).2) fun u=>(h.ls.told ht i u).2
 have n1:∀i∈ids vl,i∉gd r q vo++jJ t.b t.vv:=fun i hi u=>(List.mem_append.1 u).elim (fun u=>(h.d0 i u).1 hi) (h.d1 i hi t ht)
 have n2:∀(j:Nat) (u:Lp),bs[j]? =some u->j≠n->∀i∈u.fp,i∉gd r q vo++jJ t.b t.vv:=fun j u hj hne i hi w=>(List.mem_append.1 w).elim (fun w=>(h.d0 i w).2 u (List.mem_of_getElem? hj) hi) fun w=>h.ls.ap j n u t hj hn hne i hi w
 have k1:∀i∈ids vl,i∉gd r q vo'++jJ t.b t.vv:=fun i hi=>hG.ev.nin (h.vlO i hi).1 (n1 i hi)
 have k2:∀(j:Nat) (u:Lp),bs[j]? =some u->j≠n->∀i∈u.fp,i∉gd r q vo'++jJ t.b t.vv:=fun j u hj hne i hi=>hG.ev.nin (h.ls.told (List.mem_of_getElem? hj) i hi).1 (n2 j u hj hne i hi)
 refine ⟨⟨hG.st,⟨by simp[h.ls.ln],fun j u w h1 h2=> ?_,h.ls.ap⟩,fun i hi=>⟨fun u=>k1 i u (List.mem_append_left _ hi),fun u hu w=> ?_⟩,h.d1,hG.ol,h.hv.imp id fun ⟨h1,h2,h3⟩=>⟨h1,h2,h3.chg hG.ev.c n1⟩⟩,hG.ev.sup (fun i hi=> ?_) fun j hj=> ?_⟩
 ·by_cases e:j=n
  ·subst e
   rw[hn] at h1;cases h1
   rw[List.getElem?_set_self (by rw[←h.ls.ln];exact hnl)] at h2
   cases h2
   exact ⟨vs,hG.la⟩
  ·rw[List.getElem?_set_ne (fun a=>e a.symm)] at h2
   obtain ⟨vs',h3⟩:=h.ls.tb j u w h1 h2
   exact ⟨vs',h3.ev hG.ev (n2 j u h1 e) hF⟩
 ·obtain ⟨j,hj⟩:=List.mem_iff_getElem?.1 hu
  by_cases e:j=n
  ·subst e;rw[hn] at hj;cases hj;exact hG.dj i hi w
  ·exact k2 j u hj e i w (List.mem_append_left _ hi)
 ·rcases List.mem_append.1 hi with hi|hi
  ·exact bZ.2 (Or.inl hi)
  ·exact bZ.2 (Or.inr (Or.inr ⟨t,ht,hi⟩))
 ·rcases bZ.1 hj with hj|hj|⟨u,hu,hj⟩
  ·exact Or.inr (List.mem_append_left _ hj)
  ·exact Or.inl (bZ.2 (Or.inr (Or.inl hj)))
  ·exact Or.inl (bZ.2 (Or.inr (Or.inr ⟨u,hu,hj⟩)))
theorem pq {α:Type} {l:List α} {a x:α} {j:Nat} (h:(l++ [a])[j]? =some x):(j<l.length/\l[j]? =some x)∨(j=l.length/\x=a):=by
 by_cases hj:j<l.length
 ·rw[List.getElem?_append_left hj] at h;exact Or.inl ⟨hj,h⟩
 ·rw[List.getElem?_append_right (by omega)] at h
  cases e:j - l.length with
  |zero=>rw[e] at h;cases h;exact Or.inr ⟨by omega,rfl⟩
  |succ n=>rw[e] at h;simp at h
theorem RunS.snoc {m1 M3 M4:NH} {z:Mc} {t:Lp} {y:Lan} {vl':NV} (h:RunS p B m r H q ⟨true,ls,z⟩ k o vo .nilp vl bs) (hC1:Chg [] m m1) (hl:Rr p B m1 (bL p ls.length) t y) (hnew:∀i∈t.fp,¬am m i) (hO:aY B M3 vl' 1 (bs.map (fun t=> [NV.ptr t.b 0])++ [[.ptr t.b 0]])) (hC3:Chg (ids vl) m1 M3) (hF3:∀i∈ids vl',i∈ids vl∨¬am m1 i)
 (hM:M4=M3.put r (.cells true [ii H.v0,ii H.l0,H.s0,H.cd,.ptr q.mo 0,vo,.nilp,vl',.bool z.ill])):
 RunS p B M4 r H q ⟨true,ls++ [y],z⟩ k o vo .nilp vl' (bs++ [t])/\EvF (dc r q vo vl bs) (dc r q vo vl' (bs++ [t])) m M4:=by
 have hS1:=h.st.grow hC1
 have hvB:∀i∈ids vl,¬am B i:=fun i hi=>(h.vlO i hi).2
 have hS3:=hS1.off hC3 (fun i hi=>(h.d0 i hi).1) hvB
 have o3:=hS3.o
 have hM:M4=hp [(.o r,.cells true [ii H.v0,ii H.l0,H.s0,H.cd,.ptr q.mo 0,vo,.nilp,vl',.bool z.ill])] 0 M3:=by rw[hM,←bX o3,aa]
 have hC4:Chg [r] M3 M4:=by rw[hM];exact (dg _ _ _).weak (by simp[aC])
 obtain ⟨hS4,e4⟩:=hS3.refit (rec':= .nilp) (vl':=vl') (ill':=z.ill) (m':=M4) (by rw[hM];exact (aE o3).trans aq) hC4
 have hrB:∀i∈ [r],¬am B i:=fun i hi=>by have hi:=one hi;subst hi;exact h.st.nB
 have hrS:r∈gd r q vo:=by simp[gd]
 have hr1:∀t∈bs,∀i∈t.fp,i∉ [r]:=fun u hu i hi w=>by have w:=one w;subst w;exact (h.d0 _ hrS).2 u hu hi
 have hrv:r∉ids vl':=fun w=>(hF3 r w).elim (h.d0 r hrS).1 fun w=>w hS1.o
 have hrt:∀i∈t.fp,i∉ [r]:=fun i hi w=>by have w:=one w;subst w;exact hnew _ hi h.st.o
 have hL4:=((h.ls.off hC1 (by simp) (by simp)).off hC3 (fun u hu i hi w=>h.d1 i w u hu hi) hvB).off hC4 hr1 hrB
 obtain ⟨vs,hl1⟩:=hl
 have hl4:=(hl1.off hC3 (fun i hi w=>hnew i hi (h.vlO i w).1) hvB).off hC4 hrt hrB
 have hto:∀i∈t.fp,am m1 i:=fun i hi=>(hl1.old i hi).1
 have hmem:∀u∈bs++ [t],u∈bs∨u=t:=fun u hu=>by simpa using hu
 have hln:bs.length=ls.length:=h.ls.ln
 refine ⟨⟨hS4,⟨by simp[hln],fun j u w h1 h2=> ?_,fun j l u w h1 h2 hne i hi hw=> ?_⟩,fun i hi=>⟨fun w=> ?_,fun u hu w=> ?_⟩,fun i hi u hu w=> ?_,h.ol,Or.inr ⟨rfl,rfl, ?_⟩⟩,⟨?_,fun j hj=> ?_⟩⟩
 ·rcases pq h1 with ⟨a1,b1⟩|⟨a1,b1⟩<;>rcases pq h2 with ⟨a2,b2⟩|⟨a2,b2⟩
  ·exact hL4.tb j u w b1 b2
  ·omega
  ·omega
  ·subst b1;subst b2;subst a2;exact ⟨vs,hl4⟩
 ·rcases pq h1 with ⟨a1,b1⟩|⟨a1,b1⟩<;>rcases pq h2 with ⟨a2,b2⟩|⟨a2,b2⟩
  ·exact h.ls.ap j l u w b1 b2 hne i hi hw
  ·subst b2;exact hnew i hw (h.ls.told (List.mem_of_getElem? b1) i hi).1
  ·subst b1;exact hnew i hi (h.ls.told (List.mem_of_getElem? b2) i hw).1
  ·omega
 ·exact (hF3 i w).elim (h.d0 i hi).1 fun w=>w (hS1.old i hi).1
 ·rcases hmem u hu with hu|rfl
  ·exact (h.d0 i hi).2 u hu w
  ·exact hnew i w (h.st.old i hi).1
 ·rcases hmem u hu with hu|rfl
  ·exact (hF3 i hi).elim (fun a=>h.d1 i a u hu w) fun a=>a (hC1.old (h.ls.told hu i w).1)
  ·exact (hF3 i hi).elim (fun a=>hnew i w (h.vlO i a).1) fun a=>a (hto i w)
 ·have:=hO.chg hC4 fun i hi w=>by have w:=one w;subst w;exact hrv hi
  rw[List.map_append]
  exact this
 ·refine ((hC1.weak (T:=dc r q vo vl bs) (by simp)).trans hC3 fun i hi _=>bZ.2 (Or.inr (Or.inl hi))).trans hC4 fun i hi _=> ?_
  have hi:=one hi;subst hi;exact bZ.2 (Or.inl hrS)
 ·rcases bZ.1 hj with hj|hj|⟨u,hu,hj2⟩
  ·exact Or.inl (bZ.2 (Or.inl hj))
  ·exact (hF3 j hj).imp (fun a=>bZ.2 (Or.inr (Or.inl a))) fun a b=>a (hC1.old b)
  ·rcases hmem u hu with hu|rfl
   ·exact Or.inl (bZ.2 (Or.inr (Or.inr ⟨u,hu,hj2⟩)))
   ·exact Or.inr (hnew j hj2)
end
structure CdOk (B:NH) (c:Cd):Prop where
 s:Sl B c.vs 9 (Vk c.st)
 v:0<=c.V/\c.V<=400
 ls:c.st.length<=1000000000
 ok:∀s∈c.st,Gx s
structure StU (p:Prg) (B:NH) (H:Hd):Prop where
 r:CdOk B ⟨H.v0,H.l0,H.s0,(bJ p.cs p.r).st⟩
 v0:H.v0=(bJ p.cs p.r).v/\H.l0=(locals p.r).length
 t:∃C,Sl B H.cd 3 C/\C.length=p.ts.length/\∀(j:Nat) (c:List NV),C[j]? =some c->∃vs,c= [ii (bJ p.cs (bL p j)).v,ii (locals (bL p j)).length,vs]/\CdOk B (SB p (bL p j) vs)
 nt:p.ts.length<=4
section
variable {p:Prg} {B m m':NH} {r:D4} {H:Hd} {q:Mp} {x:Rl} {k o:Nat} {vo rec vl:NV} {bs:List Lp} {z:Mc}
theorem Kg (hC:Chg [] B m) {c:Cd} (h:CdOk B c):∃w m',rT 48 [.agg [ii c.V,ii c.lo,c.vs]] m w m'/\∃t:Lp,w= .ptr t.b 0/\LanO B m' t.b t.vv c ⟨0,List.replicate c.V.toNat 0,false,false⟩/\Chg [] m m'/\∀i∈t.fp,¬am m i:=by
 refine WF.ex fun K' hK'=> ?_
 refine WF.of_wpG (fun _=>rfl) Fy (L:= [(.e,.agg [ii c.V,ii c.lo,c.vs])]) rfl ?_
 unfold PP
 obtain ⟨n,hn⟩:=Xh h.v.1
 have hv:=h.v
 have hsa:bg 4 (.agg [ii c.V,ii c.lo,c.vs]) (.agg [ii c.V,ii c.lo,c.vs])=true:=dH fun w hw=>by
  simp only[Xf,Xe,or_false] at hw
  rcases hw with rfl|rfl|rfl
  ·trivial
  ·trivial
  ·exact h.s.flat
 have r1:=Ov (hp [(.n 0,.cells true [ii c.V,ii c.lo,c.vs])] 1 m) (z:=(n:Nat)) (a:=0) (b:=400) ⟨by omega,by omega⟩
 rw[←hn] at r1
 simp (disch:=first|assumption|omega|(simp only[aG]<;>omega)) only[go_sem,seval,r1.wf',hsa]
 generalize hM:hp _ 3 m=M
 have hCm:Chg [] m M:=aR hM rfl
 have g1:M.get (na m 1)=some (.cells true (rep c.V.toNat [iu 0])):=bu hM
 have g2:M.get (na m 2)=some (.cells true [ii c.V,ii c.lo,c.vs,.slc (na m 1) 0 c.V.toNat 1 c.V.toNat,ii 0,.bool false,.bool false]):=bu hM
 have o1:am M (na m 1):=bt hM (by omega)
 have o2:am M (na m 2):=bt hM (by omega)
 have nw:∀j,¬am m (na m j):=fun j w=>aA w
 have nB:∀j,¬am B (na m j):=fun j w=>nw j (hC.old w)
 refine hK' _ _ ⟨⟨na m 2,.slc (na m 1) 0 c.V.toNat 1 c.V.toNat⟩,rfl,⟨g2,o2,nB 2,h.s,aY.of (by simp) (nB 1) g1 o1 (by rw[qB];simp) (by simp) (by simp),by simp[ids,oE],hC.tr hCm,h.ls,fun y hy=> ?_,h.ok⟩,hCm,fun i hi=> ?_⟩
 ·rw[List.mem_replicate] at hy;rw[hy.2];exact Qt
 ·simp only[Lp.fp,jJ,ids,Xf,Xe,or_false] at hi
  rcases hi with rfl|rfl
  ·exact nw 2
  ·exact nw 1
theorem xN (hc:StU p B H) (h:StO B m r H q vo rec vl z k) (ho:z.out.length<=o):
 ∃m',rT 14 [.ptr r 0] m (.tup []) m'/\∃t,RunS p B m' r H q (tn p z) k o vo (.ptr t.b 0) .nils [t]/\EvF (gd r q vo) (dc r q vo .nils [t]) m m':=by
 refine WF.ex1 fun K' hK'=> ?_
 refine WF.of_wpG (fun _=>rfl) EM (L:= [(.e,.ptr r 0)]) rfl ?_
 unfold Se
 have g:=h.g
 have or:=h.o
 obtain ⟨w,m1,r1,t,rfl,hl,hC1,hnew⟩:=Kg h.c hc.r
 have hsa:bg 4 (.agg [ii H.v0,ii H.l0,H.s0]) (.agg [ii H.v0,ii H.l0,H.s0])=true:=dH fun w hw=>by
  simp only[Xf,Xe,or_false] at hw
  rcases hw with rfl|rfl|rfl
  ·trivial
  ·trivial
  ·exact hc.r.s.flat
 have h1:=h.grow hC1
 have o1:=h1.o
 have g1:=h1.g
 dsimp only at r1
 rw[aa]
 simp (disch:=first|assumption|omega|(simp only[aG]<;>omega)) only[go_sem,seval,g,r1.wf,hsa,g1]
 generalize hM:hp _ 0 m1=M
 obtain ⟨hS2,e2⟩:=h1.refit (rec':= .ptr t.b 0) (vl':= .nils) (ill':=z.ill) (m':=M) (kR o1 hM) (li hM (by simp[aC]))
 have hd:∀i∈gd r q vo,i∉t.fp:=fun i hi w=>hnew i w (h.old i hi).1
 have hL2:=hl.ev e2 (fun i hi w=>hd i w hi) fun i hi=>(h.old i hi).2
 refine hK' _ ⟨t,⟨hS2,⟨rfl,fun j u y h1 h2=> ?_,fun j l u w h1 h2 hne=> ?_⟩,fun i hi=>⟨by simp[ids],fun u hu=> ?_⟩,by simp[ids],ho,Or.inl ⟨rfl,t,rfl,rfl,rfl⟩⟩,(e2.pre hC1).c,fun j hj=> ?_⟩
 ·cases j with
  |zero=>
   cases h1;cases h2
   refine ⟨H.s0, ?_⟩
   obtain ⟨e1,e3⟩:=hc.v0
   rw[e1,e3] at hL2
   exact hL2
  |succ j=>simp at h1
 ·cases j with
  |zero=>
   cases l with
   |zero=>exact W9 rfl hne
   |succ l=>simp at h2
  |succ j=>simp at h1
 ·have hu:=List.mem_singleton.1 hu;subst hu;exact hd i hi
 ·rcases bZ.1 hj with hj|hj|⟨u,hu,hj2⟩
  ·exact Or.inl hj
  ·simp[ids] at hj
  ·have hu:=List.mem_singleton.1 hu;subst hu;exact Or.inr (hnew j hj2)
theorem AF (h:RunS p B m r H q x k o vo rec vl bs) (hk:k<=1000000) (ho:o<=1000000) (hn:n<x.ls.length) (hsk:(x.ls[n]).sk=false):
 ∃t,bs[n]? =some t/\∃m',rT 50 [.ptr r 0,.ptr t.b 0] m (.bool (gL p (OJ p x.ph n) x.ls[n] x.z).1) m'/\∃vo',RunS p B m' r H q ⟨x.ph,x.ls.set n (gL p (OJ p x.ph n) x.ls[n] x.z).2.1,(gL p (OJ p x.ph n) x.ls[n] x.z).2.2⟩ (k+1) (o+1) vo' rec vl bs/\EvF (dc r q vo vl bs) (dc r q vo' vl bs) m m':=by
 have hnb:n<bs.length:=by rw[h.ls.ln];exact hn
 have h1:=List.getElem?_eq_getElem hnb
 obtain ⟨vs,hl⟩:=h.ls.tb n _ _ h1 (List.getElem?_eq_getElem hn)
 have hb:=List.mem_of_getElem? h1
 obtain ⟨m',r1,vo',hG⟩:=R4 hk ho hsk ⟨h.st,hl,fun i hi=>(h.d0 i hi).2 _ hb,h.ol,EvF.refl m⟩
 obtain ⟨k1,k2⟩:=h.lane h1 hG
 exact ⟨_,h1,m',r1,vo',k1,k2⟩
set_option maxHeartbeats 1000000 in
theorem LC (hc:StU p B H) (hk:k+1<=1000000) (ho:o+1<=1000000) (h:RunS p B m r H q x k o vo rec vl bs) (hsk:∀y∈x.ls,y.sk=false) (c:Int):
 ∃m',rT 16 [.ptr r 0,ii c] m (.bool (kW p c x).1) m'/\∃vo' rec' vl' bs',RunS p B m' r H q (kW p c x).2 (k+2) (o+2) vo' rec' vl' bs'/\EvF (dc r q vo vl bs) (dc r q vo' vl' bs') m m':=by
 refine WF.ex1 fun K' hK'=> ?_
 refine WF.of_wpG (fun _=>rfl) DS (L:= [(.a .e,ii c),(.e,.ptr r 0)]) rfl ?_
 unfold OT
 obtain ⟨CT,hT,hTn,hTc⟩:=hc.t
 have hnt:=hc.nt
 have hlt:=hT.len
 rw[hTn] at hlt
 have g:=h.st.g
 have ln:=h.ls.ln
 unfold kW at hK'
 obtain ⟨ph,ls,z⟩:=x
 dsimp only at *
 rcases h.hv with ⟨hph,t,rfl,rfl,rfl⟩|⟨hph,rfl,hvl⟩
 ·dsimp only at hph
  subst hph
  obtain ⟨y,rfl⟩:∃y,ls= [y]:=by
   match ls,ln with
   | [y],_=>exact ⟨y,rfl⟩
  obtain ⟨t',ht,m1,r1,vo1,h1,e1⟩:=AF h (by omega) (by omega) (n:=0) (by simp) (hsk y (by simp))
  cases ht
  simp only[List.getElem_cons_zero,List.set_cons_zero,OJ,Bool.false_eq_true,if_false] at r1 h1
  simp only[Bool.false_eq_true,if_false,sg,List.getElem?_cons_zero,Option.getD_some] at hK'
  have g1:=h1.st.g
  dsimp only at g1
  cases hb:(gL p p.r y z).1 with
  |true=>
   simp only[hb,if_true] at hK'
   rw[hb] at r1
   rw[aa]
   simp only[go_sem,seval,g,tp,r1.wf']
   exact hK' _ ⟨vo1,_,_,_,h1.more (by omega) (by omega),e1⟩
  |false=>
   simp only[hb,Bool.false_eq_true,if_false] at hK'
   rw[hb] at r1
   obtain ⟨vs,hl⟩:=h1.ls.tb 0 t (gL p p.r y z).2.1 rfl rfl
   have gl:=hl.g
   simp only[LA,SB] at gl
   cases hs:(gL p p.r y z).2.1.sk with
   |true=>
    simp only[hs,if_true] at hK'
    rw[hs] at gl
    rw[aa]
    simp only[go_sem,seval,g,tp,r1.wf',g1,gl]
    exact hK' _ ⟨vo1,_,_,_,h1.more (by omega) (by omega),e1⟩
   |false=>
    simp only[hs,Bool.false_eq_true,if_false] at hK'
    rw[hs] at gl
    have oM:=h1.st.o
    rw[aa]
    simp (disch:=first|assumption|omega|(simp only[aG]<;>omega)) only[go_sem,seval,g,tp,r1.wf,g1,gl]
    generalize (gL p p.r y z).2.1=y1 at *
    generalize (gL p p.r y z).2.2=z1 at *
    generalize hM2:hp _ 0 m1=M2
    obtain ⟨hS2,e2⟩:=h1.st.refit (rec':= .nilp) (vl':= .nils) (ill':=z1.ill) (m':=M2) (kR oM hM2) (li hM2 (by simp[aC]))
    have eS:EvF (dc r q vo .nils [t]) (dc r q vo1 .nils []) m M2:=by
     refine (e1.trans (e2.sup (fun i hi=>bZ.2 (Or.inl hi)) fun j hj=>Or.inl (bZ.2 (Or.inl hj)))).sup (fun i hi=>hi) fun j hj=> ?_
     rcases bZ.1 hj with hj|hj|⟨u,hu,-⟩
     ·exact Or.inr hj
     ·simp[ids] at hj
     ·simp at hu
    have hq:RunS p B M2 r H q ⟨true, [],z1⟩ (k+1) (o+1) vo1 .nilp .nils []:=⟨hS2,⟨rfl,by simp,by simp⟩,fun i hi=>⟨by simp[ids],by simp⟩,by simp,h1.ol,Or.inr ⟨rfl,rfl,aY.nil⟩⟩
    refine W.loop (fun f d=>∃T M i vl bs,d=⟨T, [],none,M⟩/\NT.get D4.e T=some (.ptr r 0)/\NT.get D4.e.a T=some (ii c)/\NT.get D4.e.a.a T=some (ii (i:Nat))/\i+f=p.ts.length/\RunS p B M r H q ⟨true,(p.ts.take i).map (fun t=>lr p t.2),z1⟩ (k+1) (o+1) vo1 .nilp vl bs/\EvF (dc r q vo .nils [t]) (dc r q vo1 vl bs) m M) ?_ p.ts.length _ ⟨_,M2,0,.nils, [],rfl,by exact gq rfl,by exact gq rfl,by exact gq rfl,by omega,hq,eS⟩
    clear hq eS e1 e2 h1 g g1 gl h r1 hM2 hl hS2
    rintro f d ⟨T,M,i,vl,bs,rfl,t1,t2,t3,hif,h,hE⟩
    apply ax
    unfold Eo
    change wp _ _ _ _ ⟨ah [] T, [],none,M⟩ _
    have g:=h.st.g
    dsimp only at g
    have ln:=h.ls.ln
    simp only[List.length_map,List.length_take] at ln
    by_cases hi:i<p.ts.length
    ·obtain ⟨id,off,wr,cc,a1,a2,a3,a4,a5⟩:=hT.at i (by omega)
     obtain ⟨vs,hcv,hok⟩:=hTc i CT[i] (List.getElem?_eq_getElem (by omega))
     rw[hcv] at a5
     have a2M:=(h.st.c.get a3 (by simp)).trans a2
     obtain ⟨w,m2,r2,t',rfl,hl,hC2,hnew⟩:=Kg h.st.c hok
     have hS2:=h.st.grow hC2
     have g2:=hS2.g
     dsimp only at g2
     have a22:=(hS2.c.get a3 (by simp)).trans a2
     have hvl:aY B M vl 1 (bs.map fun t=> [.ptr t.b 0]):=by
      rcases h.hv with ⟨q1,-⟩|⟨-,-,q1⟩
      ·cases q1
      ·exact q1
     have ht1:=hvl.sl.one
     have htn:=hvl.sl.same (n:=3)
     have hvt:=hT.same (n:=3)
     have hsa:bg 4 (.agg [ii (bJ p.cs (bL p i)).v,ii (locals (bL p i)).length,vs]) (.agg [ii (bJ p.cs (bL p i)).v,ii (locals (bL p i)).length,vs])=true:=dH fun w hw=>by
      simp only[Xf,Xe,or_false] at hw
      rcases hw with rfl|rfl|rfl
      ·trivial
      ·trivial
      ·exact hok.s.flat
     simp only[SB] at r2
     simp (disch:=first|assumption|omega|(simp only[aG]<;>omega)) only[go_sem,seval,t1,t2,t3,g,hlt,a1,a2M,a5,r2.wf,g2,a22,htn,hvt,hsa]
     have hC3:Chg [] m2 (hp [(.n 0,.cells true [.ptr t'.b 0])] 1 m2):=aI rfl
     have hCM3:=hC2.tr hC3
     have h3:=h.grow hCM3
     have hv3:=hvl.chg hCM3 fun _ _=>by simp
     have hS3:=h3.st
     have g3:=hS3.g
     dsimp only at g3
     have a23:=(hS3.c.get a3 (by simp)).trans a2
     refine dp (cs:= [.ptr t'.b 0]) hv3 bI (bN (by omega)) rfl (fun i hi=>hS3.c.old hi) (by simp;omega) (by simp;omega) ?_
     intro vl' M4 hv4 hC4 hF4
     have hrv:r∉ids vl:=fun u=>(h.d0 r (by simp[gd])).1 u
     have g4:=(hC4.get hS3.o hrv).trans g3
     have hC34:Chg [] B M4:=hS3.c.trans hC4 fun i hi ho=>W9 ho (h.vlO i hi).2
     have a24:=(hC34.get a3 (by simp)).trans a2
     have hv1:=hv4.sl.one
     have hlP:Rr p B (hp [(.n 0,.cells true [.ptr t'.b 0])] 1 m2) (bL p ((p.ts.take i).map fun t=>lr p t.2).length) t' (lr p p.ts[i].2):=by
      refine ⟨vs, ?_⟩
      have e1:((p.ts.take i).map fun t=>lr p t.2).length=i:=by simp;omega
      have e2:bL p i=p.ts[i].2:=by unfold bL;rw[List.getElem?_eq_getElem hi];rfl
      rw[e1]
      have:=hl.grow hC3
      rw[e2] at this ⊢
      exact this
     simp (disch:=first|assumption|omega|(simp only[aG]<;>omega)) only[go_sem,seval,aa,g4,a24,a5,hv1,t1,t3]
     generalize hM5:M4.put r _=M5
     obtain ⟨k1,k2⟩:=h.snoc hCM3 hlP hnew hv4 hC4 hF4 hM5.symm
     have et:(p.ts.take i).map (fun t=>lr p t.2)++ [lr p p.ts[i].2]=(p.ts.take (i+1)).map fun t=>lr p t.2:=by rw[List.take_add_one,List.getElem?_eq_getElem hi,List.map_append];rfl
     rw[et] at k1
     exact ⟨f - 1,by omega,_,M5,i+1,vl',_,by rfl,by exact gq t1,by exact gq t2,by exact gq rfl,by omega,k1,hE.trans k2⟩
    ·have e:i=p.ts.length:=by omega
     subst e
     rw[List.take_length] at h
     have hvl:aY B M vl 1 (bs.map fun t=> [.ptr t.b 0]):=by
      rcases h.hv with ⟨q1,-⟩|⟨-,-,q1⟩
      ·cases q1
      ·exact q1
     have ln:bs.length=p.ts.length:=by have:=h.ls.ln;simpa using this
     have hlen:=hvl.sl.len
     rw[List.length_map,ln] at hlen
     unfold yt at hK'
     simp only[List.length_map] at hK'
     by_cases hcc:0<=c/\c<p.ts.length
     ·obtain ⟨n,rfl⟩:=Xh hcc.1
      have hn:n<(p.ts.map fun t=>lr p t.2).length:=by simp;omega
      simp only[Xb hcc,Int.toNat_natCast,List.getElem?_eq_getElem hn,Option.getD_some] at hK'
      obtain ⟨t',ht,m2,r2,vo2,h2,e2⟩:=AF h (by omega) (by omega) hn (by simp[lr])
      simp only[OJ,if_true] at r2 h2
      have hnb:=(List.getElem?_eq_some_iff.1 ht).1
      obtain ⟨id,off,w,cc,a1,a2,a3,a4,a5⟩:=hvl.sl.at n (by simpa using hnb)
      rw[List.getElem_map] at a5
      have c0:cc[off]? =some (.ptr t'.b 0):=by rw[←(List.getElem?_eq_some_iff.1 ht).2];exact aF a5 0 (by omega)
      simp (disch:=first|assumption|omega) only[go_sem,seval,t1,t2,t3,g,hlt,hlen,a1,a2,c0,r2.wf']
      exact hK' _ ⟨vo2,_,_,_,h2.more (by omega) (by omega),hE.trans e2⟩
     ·simp only[Xa hcc] at hK'
      by_cases hc0:c<0
      ·simp (disch:=first|assumption|omega) only[go_sem,seval,t1,t2,t3,g,hlt,hlen]
       exact hK' _ ⟨vo1,_,_,_,h.more (by omega) (by omega),hE⟩
      ·simp (disch:=first|assumption|omega) only[go_sem,seval,t1,t2,t3,g,hlt,hlen]
       exact hK' _ ⟨vo1,_,_,_,h.more (by omega) (by omega),hE⟩
 ·dsimp only at hph
  subst hph
  rw[Xb rfl] at hK'
  have hlen:=hvl.sl.len
  rw[List.length_map,ln] at hlen
  unfold yt at hK'
  by_cases hcc:0<=c/\c<ls.length
  ·obtain ⟨n,rfl⟩:=Xh hcc.1
   have hn:n<ls.length:=by omega
   simp only[Xb hcc,Int.toNat_natCast,List.getElem?_eq_getElem hn,Option.getD_some] at hK'
   obtain ⟨t,ht,m1,r1,vo1,h1,e1⟩:=AF h (by omega) (by omega) hn (hsk _ (List.getElem_mem hn))
   simp only[OJ,if_true] at r1 h1
   have hnb:=(List.getElem?_eq_some_iff.1 ht).1
   obtain ⟨id,off,w,cc,a1,a2,a3,a4,a5⟩:=hvl.sl.at n (by simpa using hnb)
   rw[List.getElem_map] at a5
   have c0:cc[off]? =some (.ptr t.b 0):=by rw[←(List.getElem?_eq_some_iff.1 ht).2];exact aF a5 0 (by omega)
   simp (disch:=first|assumption|omega) only[go_sem,seval,aa,g,sR,hlen,a1,a2,c0,r1.wf']
   exact hK' _ ⟨vo1,_,_,_,h1.more (by omega) (by omega),e1⟩
  ·simp only[Xa hcc] at hK'
   by_cases hc0:c<0
   ·simp (disch:=first|assumption|omega) only[go_sem,seval,aa,g,sR,hlen]
    exact hK' _ ⟨vo,_,_,_,h.more (by omega) (by omega),EvF.refl m⟩
   ·simp (disch:=first|assumption|omega) only[go_sem,seval,aa,g,sR,hlen]
    exact hK' _ ⟨vo,_,_,_,h.more (by omega) (by omega),EvF.refl m⟩
end
section
variable {p:Prg} {B m m':NH} {r:D4} {H:Hd} {q:Mp} {x:Rl} {k o:Nat} {vo rec vl:NV} {bs:List Lp}
theorem OO (hC:Chg [] B m) (hc:StU p B H) (hn:n<=64):∃w m',rT 11 [.agg [ii H.v0,ii H.l0,H.s0],H.cd,ii (n:Nat)] m w m'/\
 ∃r q vo rec vl bs,w= .ptr r 0/\RunS p B m' r H q (tn p ⟨List.replicate n 0, [],false⟩) 0 0 vo rec vl bs/\Chg [] m m'/\∀i∈dc r q vo vl bs,¬am m i:=by
 refine WF.ex fun K' hK'=> ?_
 refine WF.of_wpG (fun _=>rfl) CM (L:= [(.b .e,ii (n:Nat)),(.a .e,H.cd),(.e,.agg [ii H.v0,ii H.l0,H.s0])]) rfl ?_
 unfold PC
 obtain ⟨CT,hT,hTn,hTc⟩:=hc.t
 have hsa:bg 4 (.agg [ii H.v0,ii H.l0,H.s0]) (.agg [ii H.v0,ii H.l0,H.s0])=true:=dH fun w hw=>by
  simp only[Xf,Xe,or_false] at hw
  rcases hw with rfl|rfl|rfl
  ·trivial
  ·trivial
  ·exact hc.r.s.flat
 have hvt:=hT.same (n:=3)
 generalize hM1:hp [(.n 0,.cells true [ii H.v0,ii H.l0,H.s0])] 1 m=M1
 have hC1:Chg [] m M1:=aR hM1 rfl
 have g1:M1.get (na m 0)=some (.cells true [ii H.v0,ii H.l0,H.s0]):=bu hM1
 have o1:am M1 (na m 0):=bt hM1 (by omega)
 obtain ⟨w,M2,r2,q,rfl,hq,hC2,hnew⟩:=H6 (hC.tr hC1) hn
 have g2:=(hC2.get o1 (by simp)).trans g1
 have hCm2:=hC1.tr hC2
 have kcd:=hT.one
 have ks0:=hc.r.s.one
 generalize hM3:hp [(.n 0,.cells true [ii H.v0,ii H.l0,H.s0,H.cd,.ptr q.mo 0,.nils,.nilp,.nils,.bool false])] 1 M2=M3
 have hC3:Chg [] M2 M3:=aR hM3 rfl
 have g3:M3.get (na M2 0)=some (.cells true [ii H.v0,ii H.l0,H.s0,H.cd,.ptr q.mo 0,.nils,.nilp,.nils,.bool false]):=bu hM3
 have o3:am M3 (na M2 0):=bt hM3 (by omega)
 have hCm3:=hCm2.tr hC3
 have nw:¬am m (na M2 0):=fun w=>aA (hCm2.old w)
 have hS3:StO B M3 (na M2 0) H q .nils .nilp .nils ⟨List.replicate n 0, [],false⟩ 0:=⟨g3,o3,fun w=>nw (hC.old w),hq.grow hC3,aY.nil,⟨fun w=>aA (hq.old _ w).1,by simp[ids],by simp[ids]⟩,hC.tr hCm3,fun y hy=>by rw[List.mem_replicate] at hy;rw[hy.2];exact Qt⟩
 obtain ⟨M4,r4,t,hR,e4⟩:=xN (o:=0) hc hS3 (by simp)
 have hnF:∀i∈gd (na M2 0) q .nils,¬am m i:=fun i hi=>by
  rcases List.mem_cons.1 hi with rfl|hi
  ·exact nw
  rcases List.mem_append.1 hi with hi|hi
  ·exact fun w=>hnew i hi (hC1.old w)
  ·simp[ids] at hi
 simp (disch:=first|assumption|omega|(simp only[aG]<;>omega)) only[go_sem,seval,hM1,g1,r2.wf,g2,hsa,hvt,hM3,kcd,ks0,r4.wf']
 exact hK' _ _ ⟨_,q,.nils,_,.nils, [t],rfl,hR,hCm3.trans (e4.c.weak (T:=gd (na M2 0) q .nils) fun i hi _=>hi) (fun i hi w=>W9 w (hnF i hi)),fun i hi w=>(e4.f i hi).elim (fun u=>hnF i u w) fun u=>u (hCm3.old w)⟩
theorem QX (h:RunS p B m r H q x k o vo rec vl bs) (ho:o<=1000000):∃v m',rT 23 [.ptr r 0] m v m'/\aY m m' v 1 (kv x.z.out)/\Chg [] m m':=by
 refine WF.ex fun K' hK'=> ?_
 refine WF.of_wpG (fun _=>rfl) DB (L:= [(.e,.ptr r 0)]) rfl ?_
 unfold Ql
 have g:=h.st.g
 have hol:=h.ol
 rw[aa]
 simp only[go_sem,seval,g]
 rcases pK h.st.ou.sl (by simp;omega) with ⟨e1,e2⟩|⟨v',m1,e1,e2,e3⟩
 ·rw[e1]
  simp only[go_sem,seval]
  exact hK' _ _ ⟨by rw[e2];exact aY.nil,Chg.refl m⟩
 ·rw[e1]
  simp only[go_sem,seval]
  exact hK' _ _ ⟨e2,e3⟩
theorem J0 (h:RunS p B m r H q x k o vo rec vl bs):∃v m',rT 25 [.ptr r 0] m v m'/\aY m m' v 1 (kv x.z.cl)/\Chg [] m m':=by
 refine WF.ex fun K' hK'=> ?_
 refine WF.of_wpG (fun _=>rfl) Du (L:= [(.e,.ptr r 0)]) rfl ?_
 unfold P6
 have g:=h.st.g
 obtain ⟨v,m1,r1,h1,h2⟩:=UP h.st.mo
 simp only[go_sem,seval,aa,g,r1.wf']
 exact hK' _ _ ⟨h1,h2⟩
theorem Kh (h:StO B m r H q vo rec vl x.z k):rT 18 [.ptr r 0] m (.bool x.z.ill) m:=by
 have h:∃w m',rT 18 [.ptr r 0] m w m'/\w= .bool x.z.ill/\m'=m:=by
  refine WF.ex fun K' hK'=> ?_
  refine WF.of_wpG (fun _=>rfl) BZ (L:= [(.e,.ptr r 0)]) rfl ?_
  unfold Rj
  have g:=h.g
  simp only[go_sem,seval,aa,g]
  exact hK' _ _ ⟨rfl,rfl⟩
 obtain ⟨w,m',h,rfl,rfl⟩:=h
 exact h
theorem Mr (h:RunS p B m r H q x k o vo rec vl bs) (hll:x.ls.length<=1000):rT 20 [.ptr r 0] m (.bool (vU x)) m:=by
 have h:∃w m',rT 20 [.ptr r 0] m w m'/\w= .bool (vU x)/\m'=m:=by
  refine WF.ex fun K' hK'=> ?_
  refine WF.of_wpG (fun _=>rfl) EA (L:= [(.e,.ptr r 0)]) rfl ?_
  unfold Q2
  have g:=h.st.g
  have ln:=h.ls.ln
  unfold vU at hK'
  rcases h.hv with ⟨hph,t,rfl,rfl,rfl⟩|⟨hph,rfl,hvl⟩
  ·rw[hph,Bool.false_and] at hK'
   simp only[go_sem,seval,aa]
   refine W.loop (fun f d=>∃t,d=⟨t, [],none,m⟩/\NT.get D4.e t=some (.ptr r 0)/\NT.get D4.e.c t=some (ii 0)) ?_ 0 _ ⟨_,rfl,by exact gq rfl,by exact gq rfl⟩
   rintro f d ⟨t,rfl,t1,t2⟩
   apply ax
   unfold tL
   change wp _ _ _ _ ⟨ah [] t, [],none,m⟩ _
   simp only[go_sem,seval,t1,t2,g,Ok]
   exact hK' _ _ ⟨rfl,rfl⟩
  ·have hlen:=hvl.sl.len
   rw[List.length_map,ln] at hlen
   rw[hph,Bool.true_and] at hK'
   simp only[go_sem,seval,aa]
   refine W.loop (fun f d=>∃t i,d=⟨t, [],none,m⟩/\NT.get D4.e t=some (.ptr r 0)/\NT.get D4.e.c t=some (ii (i:Nat))/\i+f=x.ls.length/\(x.ls.take i).all (fun y=>y.en)=true) ?_ x.ls.length _ ⟨_,0,rfl,by exact gq rfl,by exact gq rfl,by omega,by simp⟩
   rintro f d ⟨t,i,rfl,t1,t2,hif,hA⟩
   apply ax
   unfold tL
   change wp _ _ _ _ ⟨ah [] t, [],none,m⟩ _
   by_cases hi:i<x.ls.length
   ·have hib:i<bs.length:=by omega
    obtain ⟨id,off,w,c,a1,a2,a3,a4,a5⟩:=hvl.sl.at i (by simpa using hib)
    rw[List.getElem_map] at a5
    have c0:c[off]? =some (.ptr bs[i].b 0):=aF a5 0 (by omega)
    obtain ⟨vs,hl⟩:=h.ls.tb i bs[i] x.ls[i] (List.getElem?_eq_getElem hib) (List.getElem?_eq_getElem hi)
    have gl:=hl.g
    simp only[LA,SB] at gl
    have htk:(x.ls.take (i+1)).all (fun y=>y.en)=x.ls[i].en:=by
     rw[List.take_add_one,List.getElem?_eq_getElem hi,List.all_append,hA];simp
    cases hs:x.ls[i].en with
    |true=>
     rw[hs] at gl htk
     simp (disch:=first|assumption|omega) only[go_sem,seval,t1,t2,g,hlen,a1,a2,c0,gl]
     exact ⟨f - 1,by omega,_,i+1,by rfl,by exact gq t1,by exact gq rfl,by omega,htk⟩
    |false=>
     rw[hs] at gl
     have hfa:(x.ls.all fun y=>y.en)=false:=by
      rw[List.all_eq_false];exact ⟨x.ls[i],List.getElem_mem hi,by simp[hs]⟩
     rw[hfa] at hK'
     simp (disch:=first|assumption|omega) only[go_sem,seval,t1,t2,g,hlen,a1,a2,c0,gl]
     exact hK' _ _ ⟨rfl,rfl⟩
   ·rw[List.take_of_length_le (by omega)] at hA
    rw[hA] at hK'
    simp (disch:=first|assumption|omega) only[go_sem,seval,t1,t2,g,hlen,OM]
    exact hK' _ _ ⟨rfl,rfl⟩
 obtain ⟨w,m',h,rfl,rfl⟩:=h
 exact h
end
theorem wh  (hz:bQ l<=400000):(bJ cs l).st.length<=1000000000:=by
 have ok4:=rL (cs:=cs) (ns:=locals l) (l:=l) (k:=1) (qm (by omega))
 have:=ok4.s
 unfold bJ aU
 simp;omega
theorem kh.one  {c:List NV} (h:kh m cs l c N):bg 4 (.agg c) (.agg c)=true/\c.length=3:=by
 obtain ⟨v,rfl,hv,-⟩:=h
 refine ⟨dH fun w hw=> ?_,rfl⟩
 simp only[Xf,Xe,or_false] at hw
 rcases hw with rfl|rfl|rfl
 ·trivial
 ·trivial
 ·exact hv.flat
theorem DA (m:NH) (e:Int):rT 10 [ii e] m (ii e) m:=by
 have h:∃v m',rT 10 [ii e] m v m'/\v=ii e/\m'=m:=by
  refine WF.ex fun K hK=> ?_
  refine WF.of_wpG (fun _=>rfl) ED (L:= [(.e,ii e)]) rfl ?_
  unfold Rc
  simp only[go_sem,seval,aa]
  exact hK _ _ ⟨rfl,rfl⟩
 obtain ⟨v,m',h1,rfl,rfl⟩:=h
 exact h1
def WS (p:Prg):Prop:=(eI p).2=0/\eT p.cs p.r p.ts=false
def yA (p:Prg):Int:=if (eI p).2≠0 then (eI p).2 else if eT p.cs p.r p.ts=true then 3 else 0
def Rf (m:NH) (p:Prg) (a b:Int) (v vl:NV) (N:D4->Prop):Prop:=(WS p/\kh m p.cs p.r [ii a,ii b,v] N/\∃C,CodesC m p.cs p.ts vl C N)∨(¬WS p/\a=0/\b=0/\v= .nils/\vl= .nils)
theorem xo.inv  {m0:NH} {w:NV} (h:xo m0 m p w):∃a b v vl,w= .tup [.agg [ii a,ii b,v],vl,ii (yA p)]/\Rf m p a b v vl (fun i=>¬am m0 i):=by
 unfold xo at h
 unfold yA
 by_cases h1:(eI p).2≠0
 ·rw[Xb h1] at h
  rw[Xb h1]
  exact ⟨0,0,.nils,.nils,h,Or.inr ⟨fun q=>h1 q.1,rfl,rfl,rfl,rfl⟩⟩
 ·rw[Xa h1] at h
  rw[Xa h1]
  by_cases h2:eT p.cs p.r p.ts=true
  ·rw[Xb h2] at h
   rw[Xb h2]
   exact ⟨0,0,.nils,.nils,h,Or.inr ⟨fun q=>(by rw[q.2] at h2;cases h2),rfl,rfl,rfl,rfl⟩⟩
  ·rw[Xa h2] at h
   rw[Xa h2]
   obtain ⟨c,vl,C,rfl,⟨v,rfl,h3⟩,h4⟩:=h
   have e1:(eI p).2=0:=by simpa using h1
   have e2:eT p.cs p.r p.ts=false:=by simpa using h2
   exact ⟨_,_,v,vl,rfl,Or.inl ⟨⟨e1,e2⟩,⟨v,rfl,h3⟩,C,h4⟩⟩
theorem CodesC.chg  {m':NH} {l:List (List Nat×List Stm)} {C:List (List NV)} (h:CodesC m cs l v C N) (hC:Chg [] m m'):CodesC m' cs l v C N:=
 ⟨h.s.chg hC fun _ _=>by simp,h.n,fun j t c a b=>(h.c j t c a b).chg hC (by simp) fun i hi _=>hi⟩
theorem Rf.chg  {m':NH} {vl:NV} (h:Rf m p a b v vl N) (hC:Chg [] m m'):Rf m' p a b v vl N:=by
 rcases h with ⟨h1,h2,C,h3⟩|h
 ·exact Or.inl ⟨h1,h2.chg hC (by simp) fun i hi _=>hi,C,h3.chg hC⟩
 ·exact Or.inr h
theorem Rf.one  {vl:NV} (h:Rf m p a b v vl N):cellsOf v=some [v]/\cellsOf vl=some [vl]:=by
 rcases h with ⟨-,⟨v',e,h2,-⟩,C,h3⟩|⟨-,-,-,rfl,rfl⟩
 ·injection e with _ e;injection e with _ e;injection e with e _
  subst e
  exact ⟨h2.one,h3.s.one⟩
 ·exact ⟨rfl,rfl⟩
mutual
def Stm.ae (P:Ex->Prop):Stm->Prop
 | .mk _ _ _ _ i x y b e=>P i/\P x/\P y/\rV P b/\rV P e
def rV (P:Ex->Prop):List Stm->Prop
 | []=>True
 |s::l=>s.ae P/\rV P l
end
theorem nj :∀{l:List Stm},rV P l↔∀s∈l,s.ae P:=by
 intro l
 induction l with
 |nil=>simp[rV]
 |cons s l ih=>rw[rV,ih];simp
theorem Eg  (h:∀s∈l,∀u∈s.all,P u.i/\P u.x/\P u.y):∀u∈aQ l,P u.i/\P u.x/\P u.y:=by
 induction l with
 |nil=>simp[aQ]
 |cons s l ih=>
  intro u hu
  rw[aQ] at hu
  rcases List.mem_append.1 hu with hu|hu
  ·exact h s (List.mem_cons_self ..) u hu
  ·exact ih (fun t ht=>h t (List.mem_cons_of_mem _ ht)) u hu
theorem Ru :∀s:Stm,s.ae P->∀u∈s.all,P u.i/\P u.x/\P u.y:=by
 apply Stm.ind (P:=fun s=>s.ae P->∀u∈s.all,P u.i/\P u.x/\P u.y)
 intro k a nm ce i x y b e hb he h u hu
 rw[Stm.ae] at h
 rw[Stm.all] at hu
 rcases List.mem_cons.1 hu with rfl|hu
 ·exact ⟨h.1,h.2.1,h.2.2.1⟩
 ·rcases List.mem_append.1 hu with hu|hu
  ·split at hu
   ·exact Eg (fun s hs=>hb s hs (nj.1 h.2.2.2.1 s hs)) u hu
   ·simp at hu
  ·split at hu
   ·exact Eg (fun s hs=>he s hs (nj.1 h.2.2.2.2 s hs)) u hu
   ·simp at hu
structure ReadE (L:List Tok) (P:Ex->Prop):Prop where
 i:∀a,P (FP (aK L a).n)
 z:P zE
 n:∀s,P (s7 s)
 o:∀o x y,P x->P y->P (BK o x y)
section
variable {L:List Tok} {P:Ex->Prop}
theorem pu (h:ReadE L P) {E:Rs->Ex×Rs} {d:Nat} (hE:∀s,P (E s).1):∀s,P (db L E d s).1:=by
 intro s
 unfold db
 split
 ·exact h.z
 split
 ·exact h.z
 split
 ·exact h.i _
 split
 ·exact h.n _
 split
 ·exact hE _
 ·exact h.z
theorem EN (h:ReadE L P) {Q:Rs->Ex×Rs} (hP:∀s,P (Q s).1):∀(f:Nat) (x:Ex) (s:Rs),P x->P (eQ L Q f x s).1:=by
 intro f
 induction f with
 |zero=>intro x s h;exact h
 |succ f ih=>
  intro x s hx
  rw[eQ]
  split
  ·exact hx
  split
  ·exact hx
  split
  ·exact hx
  ·exact ih _ _ (h.o _ _ _ hx (hP _))
theorem Lf (h:ReadE L P):∀(n:Nat) (s:Rs),P (jD L n s).1:=by
 intro n
 induction n with
 |zero=>exact fun s=>EN h (pu h fun s=>h.z) _ _ _ (pu h (fun s=>h.z) s)
 |succ n ih=>exact fun s=>EN h (pu h ih) _ _ _ (pu h ih s)
theorem mf (h:ReadE L P) (s:Rs):P (fa L s).1:=Lf h 30 s
theorem qv (h:ReadE L P) (s:Rs):P (bj L s).2.1:=by
 unfold bj
 split
 ·exact mf h _
 ·exact h.z
theorem LW (h:ReadE L P) {B:Rs->List Stm×Rs} (hB:∀s,rV P (B s).1) (s:Rs):(cU L B s).1.ae P:=by
 have z:=h.z
 have n:rV P []:=by rw[rV];trivial
 unfold cU
 split
 ·show (Stm.mk ..).ae P;rw[Stm.ae];exact ⟨z,mf h _,z,n,n⟩
 split
 ·show (Stm.mk ..).ae P;rw[Stm.ae];exact ⟨qv h _,z,z,n,n⟩
 split
 ·show (Stm.mk ..).ae P;rw[Stm.ae];exact ⟨qv h _,mf h _,z,n,n⟩
 split
 ·show (Stm.mk ..).ae P;rw[Stm.ae];exact ⟨qv h _,mf h _,mf h _,n,n⟩
 split
 ·show (Stm.mk ..).ae P;rw[Stm.ae];exact ⟨z,z,z,n,n⟩
 split
 ·show (Stm.mk ..).ae P;rw[Stm.ae];exact ⟨z,mf h _,z,n,n⟩
 split
 ·unfold Ox
  split
  ·show (Stm.mk ..).ae P;rw[Stm.ae];exact ⟨z,mf h _,z,hB _,hB _⟩
  ·show (Stm.mk ..).ae P;rw[Stm.ae];exact ⟨z,mf h _,z,hB _,n⟩
 split
 ·show (Stm.mk ..).ae P;rw[Stm.ae];exact ⟨z,mf h _,z,hB _,n⟩
 ·show (Stm.mk ..).ae P;rw[Stm.ae];exact ⟨z,z,z,n,n⟩
theorem yb {S:Rs->Stm×Rs} (hS:∀s,(S s).1.ae P):∀(f:Nat) (l:List Stm) (s:Rs),rV P l->rV P (fq L S f l s).1:=by
 intro f
 induction f with
 |zero=>intro l s h;exact h
 |succ f ih=>
  intro l s h
  rw[fq]
  split
  ·exact h
  split
  ·exact h
  ·refine ih _ _ (nj.2 fun t ht=> ?_)
   rcases List.mem_append.1 ht with ht|ht
   ·exact nj.1 h t ht
   ·rw[List.mem_singleton] at ht;subst ht;exact hS _
theorem Fc (h:ReadE L P):∀(n:Nat) (s:Rs),rV P (dQ L n s).1:=by
 intro n
 have n0:rV P []:=by rw[rV];trivial
 induction n with
 |zero=>exact fun s=>yb (fun s=>by rw[Stm.ae];exact ⟨h.z,h.z,h.z,n0,n0⟩) _ _ _ n0
 |succ n ih=>exact fun s=>yb (fun s=>LW h ih s) _ _ _ n0
def Vg (P:Ex->Prop) (Q:Ps):Prop:=(∀t∈Q.ts,rV P t.2)/\rV P Q.rc
theorem RM (h:ReadE L P) {Q:Ps} {s:Rs} (hq:Vg P Q):Vg P (eX L Q s).1:=by
 unfold eX
 split
 ·exact hq
 split
 ·refine ⟨fun t ht=> ?_,hq.2⟩
  rcases List.mem_append.1 ht with ht|ht
  ·exact hq.1 t ht
  ·rw[List.mem_singleton] at ht;subst ht;exact Fc h 30 _
 ·exact ⟨hq.1,Fc h 30 _⟩
theorem LF (h:ReadE L P):∀(f:Nat) (Q:Ps) (s:Rs),Vg P Q->Vg P (cP L f Q s).1:=by
 intro f
 induction f with
 |zero=>intro Q s hq;exact hq
 |succ f ih=>
  intro Q s hq
  rw[cP]
  split
  ·exact hq
  split
  ·exact hq
  ·exact ih _ _ (RM h hq)
end
theorem J9 {b:List Nat} (hP:ReadE (dM b).1 P) (h:(gy b).1=some p):(∀t∈p.ts,rV P t.2)/\rV P p.r:=by
 unfold gy at h
 split at h
 ·cases h
 ·split at h
  ·cases h
  ·split at h
   ·cases h
   ·injection h with h
    subst h
    exact LF hP _ ⟨[], [], [],false⟩ ⟨0,0,0⟩ ⟨by simp,by show rV P [];rw[rV];trivial⟩
theorem Q7:∀(l:List Nat) (n v:Nat),n<18446744073709551616->n8 l n=some v->v<18446744073709551616:=by
 intro l
 induction l with
 |nil=>intro n v hn h;rw[n8] at h;cases h;exact hn
 |cons c l ih=>
  intro n v hn h
  rw[n8] at h
  split at h
  ·exact ih _ _ ‹_› h
  ·cases h
theorem PR {s:List Nat} {a kd e:Nat} {t:List Nat} (h:fS s a=some (kd,t,n,e)):n<18446744073709551616:=by
 unfold fS at h
 cases hb:s[a]? with
 |none=>rw[hb] at h;cases h
 |some c=>
  rw[hb] at h
  dsimp only at h
  split at h
  ·split at h
   ·cases h;omega
   ·split at h
    ·cases h;omega
    ·cases h
  ·split at h
   ·cases hv:FB (cut s a (aW fM s a)) with
    |none=>rw[hv] at h;simp at h
    |some v=>
     rw[hv] at h
     have hvb:v<18446744073709551616:=by
      unfold FB at hv
      split at hv
      ·cases hv
      ·exact Q7 _ _ _ (by omega) hv
     dsimp only at h
     split at h<;>cases h
     exact hvb
   ·split at h
    ·cases h;omega
    ·cases h
theorem ML {s:List Nat}:∀(k a:Nat),∀T∈(dy s k a).1,T.n<18446744073709551616:=by
 intro k
 induction k with
 |zero=>intro a T h;simp[dy] at h
 |succ k ih=>
  intro a T h
  rw[dy] at h
  split at h
  ·cases ht:fS s a with
   |none=>rw[ht] at h;simp at h
   |some q=>
    obtain ⟨kd,t,n,e⟩:=q
    rw[ht] at h
    dsimp only at h
    rcases List.mem_cons.1 h with rfl|h
    ·exact PR ht
    ·exact ih _ T h
  ·rw[List.mem_singleton] at h;subst h;show (0:Nat)<_;omega
theorem U0 (b:List Nat) (a:Nat):(aK (dM b).1 a).n<18446744073709551616:=by
 unfold aK
 cases h:(dM b).1[a]? with
 |none=>show (0:Nat)<_;omega
 |some T=>exact ML _ _ T (List.mem_of_getElem? h)
theorem HC (b:List Nat):ReadE (dM b).1 Wid:=
 ⟨fun a=> .mk (U0 b a) (by simp) (by simp),.mk (by omega) (by simp) (by simp),fun s=> .mk (by omega) (by simp) (by simp),fun o x y hx hy=> .mk (by omega) (by simp) fun z hz=>by
  simp only[Xf,Xe,or_false] at hz
  rcases hz with rfl|rfl
  ·exact hx
  ·exact hy⟩
theorem Li :∀(l:List Stm) (st:SH),lT (aX (lE Z) l st).1.2=0->∀x∈l,x.k=1∨x.k=2∨x.k=3->x.ce∈Z:=by
 intro l
 induction l with
 |nil=>intro st _ x hx;simp at hx
 |cons a l ih=>
  intro st h x hx hk
  rw[aX] at h
  split at h
  ·rename_i h2
   rcases List.mem_cons.1 hx with rfl|hx
   ·unfold lE at h2
    split at h2
    ·cases h2
    ·rename_i q
     refine Classical.byContradiction fun hz=>q ⟨hk,hz⟩
   ·exact ih _ h x hx hk
  ·rename_i h2
   unfold lE at h h2
   split at h
   ·simp[lT] at h
   ·split at h
    ·simp[lT] at h
    ·split at h
     ·simp[lT] at h
     ·rename_i q1 q2 q3
      rw[Xa q1,Xa q2,Xa q3] at h2
      exact W9 rfl h2
theorem LE  {r:List Stm}:∀(L:List (List Stm)),(jy Z r L).2=0->(∀b∈L,lT (fG Z b)=0)/\lT (fG Z r)=0:=by
 intro L
 induction L with
 |nil=>intro h;exact ⟨by simp,h⟩
 |cons b L ih=>
  intro h
  rw[jy] at h
  split at h
  ·exact W9 h ‹_›
  ·rename_i q
   have:=ih h
   refine ⟨fun c hc=> ?_,this.2⟩
   rcases List.mem_cons.1 hc with rfl|hc
   ·simpa using q
   ·exact this.1 c hc
theorem FA:∀(l:List (List Nat×Int)) (seen:List (List Nat)) (w:Int),cM seen w l=0->∀c∈l,1<=c.2/\c.2<=64:=by
 intro l
 induction l with
 |nil=>intro _ _ _ c hc;simp at hc
 |cons a l ih=>
  intro seen w h c hc
  rw[cM] at h
  split at h
  ·cases h
  split at h
  ·cases h
  split at h
  ·cases h
  ·rename_i q1 q2 q3
   rcases List.mem_cons.1 hc with rfl|hc
   ·unfold nH at q2
    simp only[Bool.not_eq_false,decide_eq_true_eq] at q2
    exact ⟨q2.1,q2.2.1⟩
   ·exact ih _ _ h c hc
theorem Te {b:List Nat} (hp:(gy b).1=some p) (hz:∀t∈p.ts,bQ t.2<=400000) (hr:bQ p.r<=400000) (he:(eI p).2=0):PrgOk p:=by
 unfold eI at he
 split at he
 ·exact W9 he ‹_›
 ·rename_i hh
  have hh:kT p=0:=by simpa using hh
  obtain ⟨hb1,hb2⟩:=LE _ he
  unfold kT at hh
  split at hh
  ·cases hh
  ·rename_i h1
   split at hh
   ·exact W9 hh ‹_›
   ·rename_i h2
    have hce:cM [] 0 p.cs=0:=by simpa using h2
    obtain ⟨w1,w2⟩:=J9 (HC b) hp
    have key:∀l:List Stm,rV Wid l->lT (fG (BG p) l)=0->∀s∈l,Gs p.cs s:=fun l hl hE s hs u hu=>by
     have h3:=Li _ _ hE u (qV hs hu)
     refine ⟨fun hk=> ?_,Ru s (nj.1 hl s hs) u hu⟩
     have:=h3 hk
     unfold BG at this
     rcases (ei _ _).1 this with q|q
     ·simp at q
     ·exact q
    exact ⟨⟨by omega,FA _ _ _ hce⟩,hz,hr,fun t ht s hs=>key t.2 (w1 t ht) (hb1 t.2 (List.mem_map_of_mem (f:=fun t:List Nat×List Stm=>t.2) ht)) s hs,fun s hs=>key p.r w2 hb2 s hs,by omega⟩
theorem iy.more  {B:NH} {vc vt vr:NV} {r:D4} {x:Rn} {o:Nat} {F:List D4} (h:iy p B vc vt vr m r x o F) (ho:o<=o'):iy p B vc vt vr m r x o' F:=by
 rcases h with ⟨a,b,c,d,e,f,g,i⟩|⟨a,b,c,d,e,f,g,h,i⟩
 ·exact Or.inl ⟨a,b,c,d,e,f,g.more ho,i⟩
 ·exact Or.inr ⟨a,b,c,d,e,f,g,h.more ho,i⟩
theorem Nd  {T:D4->Prop} {vc vt vr:NV} (h:RP m T p vc vt vr):RP m (fun _=>True) p vc vt vr:=by
 obtain ⟨C,hT⟩:=h.t
 obtain ⟨D,hR⟩:=h.r
 exact ⟨h.c,fun _ _=>trivial,⟨C,hT.sl,fun _ _=>trivial,hT.len,fun i x c a b=>by obtain ⟨vb,E,e,q⟩:=hT.R i x c a b;exact ⟨vb,E,e,SS.weakT (fun _ _=>trivial) q⟩⟩,⟨D,SS.weakT (fun _ _=>trivial) hR⟩⟩
theorem Is (a:Bool):dN .bool .neq (.bool a) (.bool a)=some (.bool false):=by cases a<;>rfl
theorem GO:∀(l:List (List Nat×Int)) (seen:List (List Nat)) (w:Int),w<=64->cM seen w l=0->w+bo l<=64:=by
 intro l
 induction l with
 |nil=>intro seen w h _;rw[bo];omega
 |cons c l ih=>
  intro seen w h hE
  rw[cM] at hE
  split at hE
  ·cases hE
  split at hE
  ·cases hE
  split at hE
  ·cases hE
  ·rename_i q1 q2 q3
   unfold nH at q2
   simp only[Bool.not_eq_false,decide_eq_true_eq] at q2
   have:=ih _ _ (by omega) hE
   rw[bo]
   unfold ju
   omega
theorem sW  (he:(eI p).2=0):bo p.cs<=64/\p.ts.length<=4:=by
 unfold eI at he
 split at he
 ·exact W9 he ‹_›
 ·rename_i hh
  have hh:kT p=0:=by simpa using hh
  unfold kT at hh
  split at hh
  ·cases hh
  ·rename_i h1
   split at hh
   ·exact W9 hh ‹_›
   ·rename_i h2
    have hce:cM [] 0 p.cs=0:=by simpa using h2
    have:=GO _ _ _ (by omega) hce
    exact ⟨by omega,by omega⟩
theorem P3  {M:NH} {vl:NV} (hok:PrgOk p) (hw:∀t∈p.ts,jC t.2) (hwr:jC p.r) (he:(eI p).2=0) (hl:eT p.cs p.r p.ts=false) (h:Rf M p a b v vl N):StU p M ⟨a,b,v,vl⟩:=by
 rcases h with ⟨-,⟨vs,e,h1,-⟩,C,hC⟩|⟨h,-⟩
 ·injection e with e1 e
  injection e with e2 e
  injection e with e3 e
  subst e3
  have ea:a=(bJ p.cs p.r).v:=by injection e1 with _ e1;injection e1
  have eb:b=(locals p.r).length:=by injection e2 with _ e2;injection e2
  unfold eT at hl
  rw[Bool.or_eq_false_iff] at hl
  obtain ⟨l1,l2⟩:=hl
  rw[List.any_eq_false] at l2
  have l1:=of_decide_eq_false l1
  have f1:=(i6 (cs:=p.cs) hwr).lv
  refine ⟨⟨h1,⟨by dsimp only;omega,by dsimp only;omega⟩, ?_,Fp hok.gr⟩,⟨ea,eb⟩,⟨C,hC.s,hC.n,fun j c hj=> ?_⟩,(sW he).2⟩
  ·have:=wh (cs:=p.cs) hok.zr;dsimp only;omega
  ·have hlt:=(List.getElem?_eq_some_iff.1 hj).1
   rw[hC.n] at hlt
   obtain ⟨vs,e,h2,-⟩:=hC.c j p.ts[j] c (List.getElem?_eq_getElem hlt) hj
   have hm:=List.getElem_mem hlt
   have eB:bL p j=p.ts[j].2:=by unfold bL;rw[List.getElem?_eq_getElem hlt];rfl
   have f2:=(i6 (cs:=p.cs) (hw _ hm)).lv
   have l3:=l2 _ hm
   simp only[decide_eq_true_eq] at l3
   rw[eB]
   refine ⟨vs,e,h2,⟨?_, ?_⟩, ?_,Fp (hok.gt _ hm)⟩
   ·show 0<=(bJ p.cs p.ts[j].2).v;omega
   ·show (bJ p.cs p.ts[j].2).v<=400;omega
   ·have:=wh (cs:=p.cs) (hok.zt _ hm);show (bJ p.cs p.ts[j].2).st.length<=_;omega
 ·exact W9 ⟨he,hl⟩ h
structure Tws (p:Prg) (B:NH) (vc vt vr:NV) (M:NH) (r s:D4) (H:Hd) (q:Mp) (x:Rn) (y:Rl) (o:Nat):Prop where
 h:∃F vo rec vl bs,iy p B vc vt vr M r x o F/\RunS p B M s H q y o o vo rec vl bs/\∀i∈F,i∉dc s q vo vl bs
section
variable {p:Prg} {B M M':NH} {vc vt vr:NV} {r s:D4} {H:Hd} {q:Mp} {x:Rn} {y:Rl} {o:Nat}
theorem Tws.grow (h:Tws p B vc vt vr M r s H q x y o) (hC:Chg [] M M'):Tws p B vc vt vr M' r s H q x y o:=by
 obtain ⟨F,vo,rec,vl,bs,h1,h2,h3⟩:=h.h
 exact ⟨F,vo,rec,vl,bs,h1.off hC (by simp) (by simp),h2.grow hC,h3⟩
theorem Tws.more  (h:Tws p B vc vt vr M r s H q x y o) (ho:o<=o'):Tws p B vc vt vr M r s H q x y o':=by
 obtain ⟨F,vo,rec,vl,bs,h1,h2,h3⟩:=h.h
 exact ⟨F,vo,rec,vl,bs,h1.more ho,h2.more ho ho,h3⟩
theorem Tws.step (hc1:RunC p B vc vt vr) (hc2:StU p B H) (ho:o+1<=1000000) (h:Tws p B vc vt vr M r s H q x y o) (hsk:∀t∈y.ls,t.sk=false) (c:Int):
 ∃Ma Mb,rT 15 [.ptr r 0,ii c] M (.bool (ld p c x).1) Ma/\rT 16 [.ptr s 0,ii c] Ma (.bool (kW p c y).1) Mb/\Chg [] B Ma/\Chg [] B Mb/\Tws p B vc vt vr Mb r s H q (ld p c x).2 (kW p c y).2 (o+2):=by
 obtain ⟨F,vo,rec,vl,bs,h1,h2,h3⟩:=h.h
 obtain ⟨Ma,r1,F1,h4,e1⟩:=PK hc1 ho h1 c
 have hF:∀i∈F,¬am B i:=fun i hi=>(h1.all i hi).2
 have h5:=h2.off e1.c (fun i hi w=>h3 i w hi) hF
 obtain ⟨Mb,r2,vo',rec',vl',bs',h6,e2⟩:=LC hc2 ho ho h5 hsk c
 have d1:∀i∈dc s q vo vl bs,i∉F1:=fun i hi=>e1.nin (h2.all i hi).1 fun w=>h3 i w hi
 have hS:∀i∈dc s q vo vl bs,¬am B i:=fun i hi=>(h2.all i hi).2
 have h7:=h4.off e2.c (fun i hi w=>d1 i w hi) hS
 obtain ⟨_,_,_,_,mm,-⟩:=h4.mac
 exact ⟨Ma,Mb,r1,r2,mm.c,mm.c.trans e2.c fun i hi w=>W9 w (hS i hi),F1,vo',rec',vl',bs',h7,h6,fun i hi=>e2.nin (h4.all i hi).1 fun w=>d1 i w hi⟩
theorem Tws.crash (hc1:RunC p B vc vt vr) (hc2:StU p B H) (h:Tws p B vc vt vr M r s H q x y o):
 ∃Ma Mb,rT 13 [.ptr r 0] M (.tup []) Ma/\rT 14 [.ptr s 0] Ma (.tup []) Mb/\Chg [] B Ma/\Chg [] B Mb/\Tws p B vc vt vr Mb r s H q (ry p x.z) (tn p y.z) o:=by
 obtain ⟨F,vo,rec,vl,bs,h1,h2,h3⟩:=h.h
 obtain ⟨Ma,r1,F1,h4,e1⟩:=Ns hc1 h1
 have hF:∀i∈F,¬am B i:=fun i hi=>(h1.all i hi).2
 have h5:=h2.off e1.c (fun i hi w=>h3 i w hi) hF
 obtain ⟨Mb,r2,t,h6,e2⟩:=xN hc2 h5.st h5.ol
 have e2:=e2.sup (G:=dc s q vo vl bs) (G':=dc s q vo .nils [t]) (fun i hi=>bZ.2 (Or.inl hi)) fun j hj=>Or.inr hj
 have d1:∀i∈dc s q vo vl bs,i∉F1:=fun i hi=>e1.nin (h2.all i hi).1 fun w=>h3 i w hi
 have hS:∀i∈dc s q vo vl bs,¬am B i:=fun i hi=>(h2.all i hi).2
 have h7:=h4.off e2.c (fun i hi w=>d1 i w hi) hS
 obtain ⟨_,_,_,_,mm,-⟩:=h4.mac
 exact ⟨Ma,Mb,r1,r2,mm.c,mm.c.trans e2.c fun i hi w=>W9 w (hS i hi),F1,vo,_,.nils, [t],h7,h6,fun i hi=>e2.nin (h4.all i hi).1 fun w=>d1 i w hi⟩
theorem Tws.stucks (h:Tws p B vc vt vr M r s H q x y o):∃A1,rT 17 [.ptr r 0] M (.bool x.z.ill) A1/\rT 18 [.ptr s 0] A1 (.bool y.z.ill) A1/\Chg [] M A1/\Chg [] B A1:=by
 obtain ⟨F,vo,rec,vl,bs,h1,h2,h3⟩:=h.h
 obtain ⟨A1,r1,C1⟩:=Lo h1
 exact ⟨A1,r1,Kh (h2.grow C1).st,C1,h2.st.c.tr C1⟩
theorem Tws.looks (hnt:p.ts.length<=1000) (hcs:CsOk p.cs) (ho:o<=1000000) (h:Tws p B vc vt vr M r s H q x y o) (hS:SimR p x y):
 ∃A1 A2 A3 A4 A5 o1 o2 c1 c2,rT 19 [.ptr r 0] M (.bool (qw x)) A1/\rT 20 [.ptr s 0] A1 (.bool (qw x)) A1/\
  rT 22 [.ptr r 0] A1 o1 A2/\rT 23 [.ptr s 0] A2 o2 A3/\rT 21 [o1,o2] A3 (.bool true) A3/\rT 24 [.ptr r 0] A3 c1 A4/\rT 25 [.ptr s 0] A4 c2 A5/\rT 21 [c1,c2] A5 (.bool true) A5/\Chg [] M A5:=by
 obtain ⟨F,vo,rec,vl,bs,h1,h2,h3⟩:=h.h
 obtain ⟨rec0,vth0,vcl0,vo0,mm,hz,hol,-⟩:=h1.mac
 have hcl:=hz.n
 have hwb:=cV p.cs
 have hcl2:=hcs.len
 have hll:y.ls.length<=1000:=by
  cases hph:x.ph with
  |true=>have:=(hS.t hph).2.1;omega
  |false=>obtain ⟨-,-,t,e,-⟩:=hS.r hph;rw[e];simp
 obtain ⟨A1,r1,C1⟩:=RR h1 hnt
 have k1:=h1.off C1 (by simp) (by simp)
 have l1:=h2.grow C1
 have r2:=Mr l1 hll
 rw[JI hS] at r2
 obtain ⟨o1,A2,r5,w5,C5⟩:=Uy k1 ho
 have k5:=k1.off C5 (by simp) (by simp)
 have l5:=l1.grow C5
 obtain ⟨o2,A3,r6,w6,C6⟩:=QX l5 ho
 have k6:=k5.off C6 (by simp) (by simp)
 have l6:=l5.grow C6
 obtain ⟨c1,A4,r7,w7,C7⟩:=J1 k6 (by omega)
 have l7:=l6.grow C7
 obtain ⟨c2,A5,r8,w8,C8⟩:=J0 l7
 rw[hS.z] at w6 w8
 exact ⟨A1,A2,A3,A4,A5,o1,o2,c1,c2,r1,r2,r5,r6,oS (w5.sl.grew C6) w6.sl (by omega),r7,r8,oS (w7.sl.grew C8) w8.sl (by omega),(((C1.tr C5).tr C6).tr C7).tr C8⟩
theorem SimR.sk (h:SimR p x y):∀t∈y.ls,t.sk=false:=by
 intro t ht
 cases hph:x.ph with
 |true=>
  obtain ⟨h1,h2,h3⟩:=h.t hph
  obtain ⟨j,hj⟩:=List.mem_iff_getElem?.1 ht
  have hl:=(List.getElem?_eq_some_iff.1 hj).1
  exact (h3 j (x.th[j]'(by omega)) t (List.getElem?_eq_getElem _) hj).2.sk
 |false=>
  obtain ⟨-,-,u,e,hu⟩:=h.r hph
  rw[e] at ht
  have:=List.mem_singleton.1 ht;subst this;exact hu.sk
end
set_option maxHeartbeats 1000000 in
theorem lowerMeans (m:NH) (l:List NV) (h:TyA Tryz.prog m [22,23] l):∃m',rT 3 l m (.bool true) m':=by
 obtain ⟨x,r,rfl,h1,h⟩:=h.inv1 (by intro fs q;rw[Tryz.underlying22] at q;simp at q)
 obtain ⟨x2,r2,rfl,h2,h⟩:=h.inv1 (by intro fs q;rw[Tryz.underlying23] at q;simp at q)
 obtain rfl:=h.inv0
 obtain ⟨v,b,hx,hv,hb⟩:=JE h1
 have hxv:v=x:=by simpa using hx.symm
 subst hxv
 obtain ⟨v2,ord,hx2,hv2⟩:=LK h2
 have hxv2:v2=x2:=by simpa using hx2.symm
 subst hxv2
 have hal:∀m,rT 6 [] m (.bool true) m:=fun m=>tF.kept rfl m
 have h:∃v' m',rT 3 [v,v2] m v' m'/\v'= .bool true:=by
  refine WF.ex fun K hK=> ?_
  refine WF.of_wpG (fun _=>rfl) BH (L:= [(.a .e,v2),(.e,v)]) rfl ?_
  unfold WA
  have hv':Sl (hp [] 0 m) v 1 (qF b):=by rw[aa];exact hv
  obtain ⟨w,M1,hr1,⟨vc,vt,vr,rfl,hpp⟩,hC1⟩:=FL hv' hb
  rw[aa] at hC1
  have hlen:=(hv.chg hC1 fun _ _=>by simp).len
  rw[show (qF b).length=b.length by simp] at hlen
  have hlen2:=(hv2.chg hC1 fun _ _=>by simp).len
  rw[List.length_map] at hlen2
  cases hprog:(gy b).1 with
  |none=>
   rw[hprog] at hpp
   obtain ⟨-,-,-,he⟩:=hpp
   have he':((gy b).2.2:Int)≠0:=by omega
   simp (disch:=first|assumption|omega|(simp only[aG]<;>omega)) only[go_sem,seval,(hal _).wf',hr1.wf,he']
   exact hK _ _ rfl
  |some p=>
   rw[hprog] at hpp
   obtain ⟨hpp,he,hs1,hs2⟩:=hpp
   by_cases hlb:1500<b.length
   ·simp (disch:=first|assumption|omega|(simp only[aG]<;>omega)) only[go_sem,seval,(hal _).wf',hr1.wf,he,hlen]
    exact hK _ _ rfl
   by_cases hlo:150<ord.length
   ·simp (disch:=first|assumption|omega|(simp only[aG]<;>omega)) only[go_sem,seval,(hal _).wf',hr1.wf,he,hlen,hlen2]
    exact hK _ _ rfl
   have hcs:p.cs.length<=100000/\p.ts.length<=100000:=by omega
   have hz:∀t∈p.ts,bQ t.2<=400000:=fun t ht=>by
    have:=Nh (List.mem_map_of_mem (f:=fun t:List Nat×List Stm=>bQ t.2) ht)
    omega
   have hzr:bQ p.r<=400000:=by omega
   have hcz:=AO hprog
   have hok:=Te hprog hz hzr
   obtain ⟨hw,hwr⟩:=HR hprog
   obtain ⟨CT0,hT0⟩:=hpp.t
   obtain ⟨CR0,hR0⟩:=hpp.r
   simp (disch:=first|assumption|omega|(simp only[aG]<;>omega)) only[go_sem,seval,(hal _).wf',hr1.wf,he,hlen,hlen2,hpp.c.one,hT0.sl.one,hR0.sl.one]
   generalize hM2:hp _ 1 M1=M2
   have hC2:Chg [] M1 M2:=aR hM2 rfl
   have g2:M2.get (na M1 0)=some (.cells true [vc,vt,vr]):=bu hM2
   have o2:am M2 (na M1 0):=bt hM2 (by omega)
   have hp2:=hpp.stays (kQ hC2 _)
   obtain ⟨w3,M3,hr3,hw3,hC3⟩:=La hp2 (by omega) hcz hz hzr
   obtain ⟨a3,b3,v3,l3,rfl,hP3⟩:=hw3.inv
   have g3:=(hC3.get o2 (by simp)).trans g2
   have o3:=hC3.old o2
   have hp3:=hp2.stays (kQ hC3 _)
   simp (disch:=first|assumption|omega|(simp only[aG]<;>omega)) only[go_sem,seval,hr3.wf,hP3.one.1,g3]
   generalize hM4:hp _ 1 M3=M4
   have hC4:Chg [] M3 M4:=aR hM4 rfl
   have g4:=(hC4.get o3 (by simp)).trans g3
   have o4:=hC4.old o3
   have q4:M4.get (na M3 0)=some (.cells true [ii a3,ii b3,v3]):=bu hM4
   have oq4:am M4 (na M3 0):=bt hM4 (by omega)
   have hp4:=hp3.stays (kQ hC4 _)
   have hP4:=hP3.chg hC4
   have hCm4:=((hC1.tr hC2).tr hC3).tr hC4
   obtain ⟨w5,M5,r5,h5⟩:=S4 (Nd hp4) (Chg.refl M4) hcs hz hzr hok
   unfold Pq at h5
   by_cases hE:(eI p).2≠0
   ·rw[Xb hE] at h5
    obtain ⟨rfl,hC5⟩:=h5
    have eE:yA p=(eI p).2:=by unfold yA;rw[Xb hE]
    by_cases h3:(eI p).2=3
    ·rw[eE,h3]
     simp only[go_sem,seval,r5.wf',(DA _ _).wf',h3]
     exact hK _ _ rfl
    ·rw[eE]
     simp (disch:=first|assumption|omega) only[go_sem,seval,r5.wf',(DA _ _).wf']
     exact hK _ _ rfl
   ·rw[Xa hE] at h5
    obtain ⟨r,F,rfl,hRC,hQ,hC5,hF⟩:=h5
    have hE0:(eI p).2=0:=by simpa using hE
    obtain ⟨hw64,hnt⟩:=sW hE0
    by_cases hL:eT p.cs p.r p.ts=true
    ·have eE:yA p=3:=by unfold yA;rw[Xa hE,Xb hL]
     rw[eE]
     simp only[go_sem,seval,r5.wf',(DA _ _).wf']
     exact hK _ _ rfl
    have eE:yA p=0:=by unfold yA;rw[Xa hE,Xa hL]
    rw[eE]
    have hSU:=P3 (hok hE0) hw hwr hE0 (by simpa using hL) hP4
    have g5:=(hC5.get o4 (by simp)).trans g4
    have q5:=(hC5.get oq4 (by simp)).trans q4
    obtain ⟨M6,r6,hC6⟩:=EU (hp4.c.grew hC5) (by omega)
    have hwb:=cV p.cs
    obtain ⟨n,hn⟩:=Xh hwb.1
    rw[hn] at r6
    obtain ⟨w7,M7,r7,s,q,vo,rec,vl,bs,rfl,hR,hC7,hnew⟩:=OO (H:=⟨a3,b3,v3,l3⟩) (hC5.tr hC6) hSU (n:=n) (by omega)
    dsimp only at r7
    have emc:(⟨List.replicate n 0, [],false⟩:Mc)=Hf p:=by unfold Hf;rw[hn];rfl
    rw[emc] at hR
    have hMk:McOk p.cs (Hf p):=by
     obtain ⟨_,_,_,_,mm,hz,-⟩:=hQ.mac
     exact hz
    have hTw:Tws p M4 vc vt vr M7 r s ⟨a3,b3,v3,l3⟩ q (ry p (Hf p)) (tn p (Hf p)) 0:=⟨F,vo,rec,vl,bs,hQ.off (hC6.tr hC7) (by simp) (by simp),hR,fun i hi w=>hnew i w (hC6.old (hQ.all i hi).1)⟩
    have hSR:=yg (hok hE0) hwr hMk
    have hC47:=(hC5.tr hC6).tr hC7
    have kv3:=hP4.one.1
    have kl3:=hP4.one.2
    have q6:=(hC6.get (hC5.old oq4) (by simp)).trans q5
    have ksa:bg 4 (.agg [ii a3,ii b3,v3]) (.agg [ii a3,ii b3,v3])=true:=dH fun w hw=>by
     simp only[Xf,Xe,or_false] at hw
     rcases hw with rfl|rfl|rfl
     ·trivial
     ·trivial
     ·exact hSU.r.s.flat
    have hOK:=hok hE0
    simp (disch:=first|assumption|omega|(simp only[aG]<;>omega)) only[go_sem,seval,r5.wf',(DA _ _).wf',g5,q5,q6,ksa,r6.wf',r7.wf',kv3,kl3]
    refine W.loop (fun f d=>∃t M i x y,d=⟨t, [],none,M⟩/\NT.get D4.e.b.f t=some (.ptr r 0)/\NT.get D4.e.c.b t=some (.ptr s 0)/\NT.get D4.e.a t=some v2/\NT.get D4.e.c.c t=some (ii (i:Nat))/\i+f=ord.length/\Chg [] M4 M/\Tws p M4 vc vt vr M r s ⟨a3,b3,v3,l3⟩ q x y (2*i)/\SimR p x y/\x.z.ill=false) ?_ ord.length _ ⟨_,M7,0,_,_,rfl,by exact gq rfl,by exact gq rfl,by exact gq rfl,by exact gq rfl,by omega,hC47,hTw,hSR,rfl⟩
    clear hTw hR hQ hF hnew hSR
    rintro f d ⟨t,M,i,x,y,rfl,t1,t2,t3,t4,hif,hC,hT,hS,hill⟩
    apply ax
    unfold Iu
    change wp _ _ _ _ ⟨ah [] t, [],none,M⟩ _
    have hCmM:=hCm4.tr hC
    have hlen4:=(hv2.chg hCmM fun _ _=>by simp).len
    rw[List.length_map] at hlen4
    by_cases hi:i<ord.length
    ·obtain ⟨id,off,wr,c,a1,a2,a3',a4,a5⟩:=hv2.at i (by simpa using hi)
     rw[List.getElem_map] at a5
     have c0:c[off]? =some (ii ord[i]):=aF a5 0 (by omega)
     have a2M:=(hCmM.get a3' (by simp)).trans a2
     have hvs:=hv2.same (n:=3)
     by_cases hc:ord[i]=-1
     ·obtain ⟨Ma,Mb,ra,rb,hCa,hCb,hTb⟩:=hT.crash hRC hSU
      have hSb:=yg hOK hwr hS.zk
      obtain ⟨A1,k1,k2,C1,-⟩:=hTb.stucks
      rw[show (ry p x.z).z.ill=false from hill] at k1
      have ey:y.z=x.z:=hS.z
      rw[ey] at hTb k2
      rw[show (tn p x.z).z.ill=false from hill] at k2
      obtain ⟨A2,A3,A4,A5,A6,o1,o2',c1,c2,j1,j2,j3,j4,j5,j6,j7,j8,C2⟩:=(hTb.grow C1).looks hRC.nt hRC.cs (by omega) hSb
      simp (disch:=first|assumption|omega) only[go_sem,seval,t1,t2,t3,t4,hlen4,a1,a2M,c0,hc,ra.wf',rb.wf',k1.wf',k2.wf',j1.wf',j2.wf',j3.wf',j4.wf',j5.wf',j6.wf',j7.wf',j8.wf',Is]
      exact ⟨f - 1,by omega,_,A6,i+1,_,_,by rfl,by exact gq t1,by exact gq t2,by exact gq t3,by exact gq rfl,by omega,(hCb.tr C1).tr C2,((hTb.grow C1).grow C2).more (by omega),hSb,hill⟩
     ·obtain ⟨Ma,Mb,ra,rb,hCa,hCb,hTb⟩:=hT.step hRC hSU (by omega) hS.sk ord[i]
      obtain ⟨A1,k1,k2,C1,-⟩:=hTb.stucks
      have a2a:=((hCm4.tr hCa).get a3' (by simp)).trans a2
      cases hx:(ld p ord[i] x).2.z.ill with
      |true=>
       rw[hx] at k1
       simp (disch:=first|assumption|omega) only[go_sem,seval,t1,t2,t3,t4,hlen4,a1,a2M,a2a,hvs,c0,ra.wf',rb.wf',k1.wf']
       exact hK _ _ rfl
      |false=>
       rw[hx] at k1
       cases hy:(kW p ord[i] y).2.z.ill with
       |true=>
        rw[hy] at k2
        simp (disch:=first|assumption|omega) only[go_sem,seval,t1,t2,t3,t4,hlen4,a1,a2M,a2a,hvs,c0,ra.wf',rb.wf',k1.wf',k2.wf']
        exact hK _ _ rfl
       |false=>
        rw[hy] at k2
        rcases Jt hOK hw hwr hS hill ord[i] with e|e|⟨e1,hSb⟩
        ·rw[hx] at e;cases e
        ·rw[hy] at e;cases e
        rw[e1] at rb
        obtain ⟨A2,A3,A4,A5,A6,o1,o2',c1,c2,j1,j2,j3,j4,j5,j6,j7,j8,C2⟩:=(hTb.grow C1).looks hRC.nt hRC.cs (by omega) hSb
        simp (disch:=first|assumption|omega) only[go_sem,seval,t1,t2,t3,t4,hlen4,a1,a2M,a2a,hvs,c0,ra.wf',rb.wf',k1.wf',k2.wf',j1.wf',j2.wf',j3.wf',j4.wf',j5.wf',j6.wf',j7.wf',j8.wf',Is]
        exact ⟨f - 1,by omega,_,A6,i+1,_,_,by rfl,by exact gq t1,by exact gq t2,by exact gq t3,by exact gq rfl,by omega,(hCb.tr C1).tr C2,((hTb.grow C1).grow C2).more (by omega),hSb,hx⟩
    ·simp (disch:=first|assumption|omega) only[go_sem,seval,t1,t2,t3,t4,hlen4]
     exact hK _ _ rfl
 obtain ⟨v',m',h,rfl⟩:=h
 exact ⟨m',h⟩
end FR
