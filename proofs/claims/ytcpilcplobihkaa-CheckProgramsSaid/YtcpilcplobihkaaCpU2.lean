/- Contracts of functions that the law CheckPrograms reaches, part 2. -/
import Derived.Test.YtcpilcplobihkaaCpU1
open Go Nm Go.Proofs
namespace FR
set_option linter.unusedSimpArgs false
set_option linter.unusedVariables false
def progL (L:List Tok):Nat->Ps->Rs->Ps×Rs
 |0,P,s=>(P,s)
 |f+1,P,s=>if s.e≠0 then (P,s) else if (nowT L s.a).k=5 then (P,s) else progL L f (topF L P s).1 (topF L P s).2
def progR (b:List Nat):Option Prg×Nat×Nat:=if 16384<b.length then (none,0,3) else match (toks b).2 with
 |some a=>(none,a,2)
 |none=>if (progL (toks b).1 ((toks b).1.length+1) ⟨[], [], [],false⟩ ⟨0,0,0⟩).2.e≠0 then (none,(nowT (toks b).1 (progL (toks b).1 ((toks b).1.length+1) ⟨[], [], [],false⟩ ⟨0,0,0⟩).2.b).p,(progL (toks b).1 ((toks b).1.length+1) ⟨[], [], [],false⟩ ⟨0,0,0⟩).2.e)
  else (some ⟨(progL (toks b).1 ((toks b).1.length+1) ⟨[], [], [],false⟩ ⟨0,0,0⟩).1.cs,(progL (toks b).1 ((toks b).1.length+1) ⟨[], [], [],false⟩ ⟨0,0,0⟩).1.ts,(progL (toks b).1 ((toks b).1.length+1) ⟨[], [], [],false⟩ ⟨0,0,0⟩).1.rc⟩,b.length,0)
section
variable {L:List Tok}
theorem st_cell (s:Rs):St L s (cellF L s).2:=by
 unfold cellF
 split
 ·rename_i h
  have h1:=(st_name L s).trans (st_take h)
  split
  ·rename_i h2
   exact ((h1.trans (st_next (now_lt (by omega)) (takeB_lt h).1 (by omega))).trans (st_want _ _ _)).trans (st_want _ _ _)
  ·exact ((h1.trans (st_fail _ _ _)).trans (st_want _ _ _)).trans (st_want _ _ _)
 ·exact (st_name L s).trans (st_want _ _ _)
theorem st_thread (s:Rs):St L s (threadF L s).2:=(st_name L s).trans (st_body 30 _)
theorem st_twice (q:Bool) (s:Rs):St L s (twiceR L q s):=by unfold twiceR;split;exact st_fail _ _ _;exact St.refl _ _
theorem st_rec (q:Bool) (s:Rs):St L s (recF L q s).2:=((st_twice q s).trans (st_want _ _ _)).trans (st_body 30 _)
theorem st_top (P:Ps) (s:Rs):St L s (topF L P s).2:=by
 unfold topF
 split
 ·exact (st_take ‹_›).trans (st_cell _)
 ·split
  ·exact (st_take ‹_›).trans (st_thread _)
  ·exact st_rec _ _
theorem pr_top (P:Ps) (s:Rs) (he:s.e=0):s.a<(topF L P s).2.a∨(topF L P s).2.e≠0:=by
 unfold topF
 split
 ·left;have:=(st_cell (L:=L) (nextR s)).le;exact this
 ·split
  ·left;have:=(st_thread (L:=L) (nextR s)).le;exact this
  ·have hb:=st_body (L:=L) 30 (wantR L recW (twiceR L P.rd s))
   by_cases h:(wantR L recW (twiceR L P.rd s)).e=0
   ·left
    obtain ⟨h1,h2⟩:=want_sz h
    have h3:=(st_twice (L:=L) P.rd s).le
    have h4:=hb.le
    show s.a<(bodyN L 30 _).2.a
    omega
   ·right;show (bodyN L 30 _).2.e≠0
    rw[hb.err h];exact h
theorem top_len (P:Ps) (s:Rs):(topF L P s).1.cs.length+(topF L P s).1.ts.length<=P.cs.length+P.ts.length+1:=by
 unfold topF
 split
 ·simp;omega
 ·split
  ·simp;omega
  ·dsimp only;omega
theorem st_prog:∀(f:Nat) (P:Ps) (s:Rs),St L s (progL L f P s).2:=by
 intro f
 induction f with
 |zero=>exact fun P s=>St.refl _ _
 |succ f ih=>
  intro P s
  rw[progL]
  split
  ·exact St.refl _ _
  ·split
   ·exact St.refl _ _
   ·exact (st_top P s).trans (ih _ _)
def Ps.sz (P:Ps):Nat:=(P.ts.map fun t=>szB t.2).sum+szB P.rc
theorem sz_top (P:Ps) (s:Rs) (h:(topF L P s).2.e=0) (hrd:P.rd=false->P.rc= []):(topF L P s).1.sz+4*s.a<=P.sz+4*(topF L P s).2.a/\((topF L P s).1.rd=false->(topF L P s).1.rc= []):=by
 unfold topF at h ⊢
 split
 ·have:=(st_cell (L:=L) (nextR s)).le
  have n:(nextR s).a=s.a+1:=rfl
  refine ⟨?_,hrd⟩
  simp only[Ps.sz];omega
 ·rename_i q;rw[if_neg q] at h
  split
  ·rename_i q2;rw[if_pos q2] at h
   have h1:=sz_body (L:=L) 30 (nameR L (nextR s)).2 h
   have h2:=(st_name L (nextR s)).le
   have n:(nextR s).a=s.a+1:=rfl
   refine ⟨?_,hrd⟩
   simp only[Ps.sz,List.map_append,List.map_cons,List.map_nil,List.sum_append,List.sum_cons,List.sum_nil,threadF];omega
  ·rename_i q2;rw[if_neg q2] at h
   have h1:=sz_body (L:=L) 30 _ h
   have h0:=(st_body (L:=L) 30 _).zero h
   obtain ⟨h2,h3⟩:=want_sz h0
   have h4:=(st_twice (L:=L) P.rd s).zero h2
   have h5:(twiceR L P.rd s).a=s.a:=by unfold twiceR;split;unfold failR;split<;>rfl;rfl
   refine ⟨?_,fun h=>by simp at h⟩
   simp only[Ps.sz,recF];omega
theorem sz_prog:∀(f:Nat) (P:Ps) (s:Rs) (a0:Nat),(P.rd=false->P.rc= [])->(s.e=0->P.sz+4*a0<=4*s.a)->(progL L f P s).2.e=0->(progL L f P s).1.sz+4*a0<=4*(progL L f P s).2.a:=by
 intro f
 induction f with
 |zero=>intro P s a0 _ h h2;exact h h2
 |succ f ih=>
  intro P s a0 hrd h
  rw[progL]
  split
  ·intro h2;exact absurd h2 ‹_›
  ·split
   ·intro h2;exact h h2
   ·intro h2
    have h3:=(st_prog (L:=L) f _ _).zero h2
    have h4:=sz_top P s h3 hrd
    refine ih _ _ a0 h4.2 (fun _=> ?_) h2
    have:=h (by omega)
    omega
end
section
variable {m0 mR:NH} {L:List Tok} {vl:NV} {r:D4}
theorem prog_loop (hc:RC m0 L vl r) (h0R:∀i,Old m0 i->Old mR i) {vb:NV} {X:Ps} {Z:Rs} {M:NH} {P:Ps} {s:Rs} {vc vt vr:NV} (h0:Chg [] m0 M) (hp:PD mR M r vl s P vc vt vr) (ha:s.a<=L.length) (hl:P.cs.length+P.ts.length=0) (hE:progL L (L.length+1) P s=(X,Z))
 {o:D4} {t:Tm} (g1:NT.get D4.e t=some vb) (g2:NT.get D4.e.a.f t=some (.ptr r 0)) (g3:NT.get D4.e.b t=some (.ptr o 0)) (g4:NT.get D4.e.a.a t=some vl) {Q:Out->Dyn->Prop}
 (hQ:∀t' M' vc vt vr,NT.get D4.e t'=some vb->NT.get D4.e.a.f t'=some (.ptr r 0)->NT.get D4.e.b t'=some (.ptr o 0)->NT.get D4.e.a.a t'=some vl->PD mR M' r vl Z X vc vt vr->Chg [] m0 M'->Q (.exit 0) ⟨puts [] t', [],none,M'⟩):
 W Try.prog S0 none nf12_l1.loop ⟨t, [],none,M⟩ Q:=by
 refine W.loop (fun k D=>∃t M P s vc vt vr,D=⟨t, [],none,M⟩/\NT.get D4.e t=some vb/\NT.get D4.e.a.f t=some (.ptr r 0)/\NT.get D4.e.b t=some (.ptr o 0)/\NT.get D4.e.a.a t=some vl/\PD mR M r vl s P vc vt vr/\Chg [] m0 M/\s.a<=L.length/\progL L k P s=(X,Z)/\(L.length<k+s.a∨s.e≠0)/\P.cs.length+P.ts.length+k<=L.length+1) ?_ (L.length+1) _ ⟨t,M,P,s,vc,vt,vr,rfl,g1,g2,g3,g4,hp,h0,ha,hE,Or.inl (by omega),by omega⟩
 clear h0 hp ha hl hE g1 g2 g3 g4
 rintro k D ⟨t,M,P,s,vc,vt,vr,rfl,g1,g2,g3,g4,hp,h0,ha,hE,hf,hlk⟩
 apply wp_sound
 unfold nf12_l1
 change wp _ _ _ _ ⟨puts [] t, [],none,M⟩ _
 have hll:=hc.len
 have hdg:=hp.hd.g
 by_cases he:s.e=0
 ·obtain ⟨f,rfl⟩:∃f',k=f'+1:=⟨k - 1,by rcases hf with h|h<;>omega⟩
  rw[progL,if_neg (by omega)] at hE
  obtain ⟨M2,hr2,hC2⟩:=now_r hc h0 hp.hd
  have hp2:=hp.grow hC2
  have h02:=h0.trans hC2 (by simp)
  have hl0:(nowT L s.a).l[0]? =some (ii (nowT L s.a).k):=rfl
  by_cases hk:(nowT L s.a).k=5
  ·rw[if_pos hk] at hE
   injection hE with e1 e2
   subst e1 e2
   simp (config:={maxSteps:=1000000}) (disch:=(first|assumption|omega|exact old_n (by omega)|exact old_hp (by assumption)|(simp only[nmL]<;>omega))) only[go_sem,seval,g1,g2,g3,g4,hdg,hr2.wf',hl0]
   exact hQ _ M2 vc vt vr (by simp only[go_sem,seval,g1]) (by simp only[go_sem,seval,g2]) (by simp only[go_sem,seval,g3]) (by simp only[go_sem,seval,g4]) hp2 h02
  ·rw[if_neg hk] at hE
   simp (config:={maxSteps:=1000000}) (disch:=(first|assumption|omega|exact old_n (by omega)|exact old_hp (by assumption)|(simp only[nmL]<;>omega))) only[go_sem,seval,g1,g2,g3,g4,hdg,hr2.wf',hl0]
   refine WF.use1 (top_r hc h0R h02 hp2 ha (by omega) (by omega)) ?_
   rintro M3 ⟨h03,vc',vt',vr',hp3⟩
   have hpr:=pr_top (L:=L) P s he
   have hlim:=(st_top (L:=L) P s).lim ha
   have hlen:=top_len (L:=L) P s
   simp (config:={maxSteps:=1000000}) (disch:=(first|assumption|omega|exact old_n (by omega)|exact old_hp (by assumption)|(simp only[nmL]<;>omega))) only[go_sem,seval]
   refine ⟨f,by omega,_,M3,_,_,vc',vt',vr',by rfl,by simp only[go_sem,seval,g1],by simp only[go_sem,seval,g2],by simp only[go_sem,seval,g3],by simp only[go_sem,seval,g4],hp3,h03,hlim,hE, ?_,by omega⟩
   rcases hpr with h|h
   ·left;rcases hf with q|q<;>omega
   ·exact Or.inr h
 ·have hde':decide ((s.e:Int)=0)=false:=decide_eq_false (by omega)
  have hE':(P,s)=(X,Z):=by
   cases k with
   |zero=>exact hE
   |succ k=>rw[progL,if_pos he] at hE;exact hE
  injection hE' with e1 e2
  subst e1 e2
  simp (config:={maxSteps:=1000000}) (disch:=(first|assumption|omega|exact old_n (by omega)|exact old_hp (by assumption)|(simp only[nmL]<;>omega))) only[go_sem,seval,g1,g2,g3,g4,hdg,hde']
  exact hQ _ M vc vt vr (by simp only[go_sem,seval,g1]) (by simp only[go_sem,seval,g2]) (by simp only[go_sem,seval,g3]) (by simp only[go_sem,seval,g4]) hp h0
theorem okL_last:∀(l:List Tok) (b:List Nat) (w:Int),okL b w l->∀a,1<=(nowT l a).k->(nowT l a).k<=4->a<l.length - 1:=by
 intro l
 induction l with
 |nil=>intro b w _ a h1;simp[nowT] at h1
 |cons x l ih=>
  intro b w h a h1 h2
  obtain ⟨-,-,-,-,h5,h6⟩:=h
  cases a with
  |zero=>
   have e:nowT (x::l) 0=x:=rfl
   rw[e] at h1 h2
   have:l≠ []:=fun q=>by have:=h5.mpr q;omega
   have:=List.length_pos_iff.mpr this
   simp;omega
  |succ a=>
   have e:nowT (x::l) (a+1)=nowT l a:=by simp[nowT]
   rw[e] at h1 h2
   have:=ih b x.p h6 a h1 h2
   simp;omega
theorem program_r {m:NH} {v:NV} {b:List Nat} (hv:Sl m v 1 (Byt b)) (hb:∀c∈b,c<256):
 ∃w m',Ret Try.prog S0 12 [v] m w m'/\(∃vc vt vr,w= .tup [.agg [vc,vt,vr],ii (progR b).2.1,ii (progR b).2.2]/\(match (progR b).1 with|none=>vc= .nils/\vt= .nils/\vr= .nils/\(progR b).2.2≠0|some p=>RP m' (New m) p vc vt vr/\(progR b).2.2=0/\p.cs.length+p.ts.length<=b.length+2/\(p.ts.map fun t=>szB t.2).sum+szB p.r<=4*(b.length+1)))/\Chg [] m m':=by
 refine WF.ex fun K hK=> ?_
 refine WF.of_wpG (fun _=>rfl) nf12_eq (L:= [(.e,v)]) rfl ?_
 unfold nf12
 have hlen:=hv.len
 rw[show (Byt b).length=b.length by simp] at hlen
 simp (config:={maxSteps:=1000000}) (disch:=(first|assumption|omega|exact old_n (by omega)|exact old_hp (by assumption)|(simp only[nmL]<;>omega))) only[go_sem,seval]
 generalize hM1:hp _ 1 m=M1
 have hC1:Chg [] m M1:=by rw[←hM1];exact hp_of rfl
 have hg1:M1.get (na m 0)=some (.cells true [.nils,.nils,.nils]):=by rw[←hM1];exact h_getN
 have ho1:Old M1 (na m 0):=by rw[←hM1];exact old_n (by omega)
 obtain ⟨w2,M2,hr2,hw2,hC2⟩:=tokens_r M1 (hv.chg hC1 fun _ _=>by simp) hb
 have hg2:=(hC2.get ho1 (by simp)).trans hg1
 have ho2:=hC2.old ho1
 have hC02:=hC1.trans hC2 (by simp)
 unfold progR at hK
 by_cases h16:16384<b.length
 ·rw[if_pos h16] at hw2 hK
  subst hw2
  simp (config:={maxSteps:=1000000}) (disch:=(first|assumption|omega|exact old_n (by omega)|exact old_hp (by assumption)|(simp only[nmL]<;>omega))) only[go_sem,seval,hr2.wf,hg2]
  exact hK _ _ ⟨⟨.nils,.nils,.nils,rfl,rfl,rfl,rfl,by show (3:Nat)≠0;omega⟩,hC02.trans (hp_of rfl) (by simp[oldK,na_old])⟩
 ·rw[if_neg h16] at hw2 hK
  cases ht:(toks b).2 with
  |some a=>
   rw[ht] at hw2 hK
   dsimp only at hw2 hK
   subst hw2
   simp (config:={maxSteps:=1000000}) (disch:=(first|assumption|omega|exact old_n (by omega)|exact old_hp (by assumption)|(simp only[nmL]<;>omega))) only[go_sem,seval,hr2.wf,hg2]
   exact hK _ _ ⟨⟨.nils,.nils,.nils,rfl,rfl,rfl,rfl,by show (2:Nat)≠0;omega⟩,hC02.trans (hp_of rfl) (by simp[oldK,na_old])⟩
  |none=>
   rw[ht] at hw2 hK
   dsimp only at hw2 hK
   obtain ⟨u,rfl,hu⟩:=hw2
   obtain ⟨hok,hne⟩:=toks_ok ht
   have hll:(toks b).1.length<=b.length+1:=toksL_len b (b.length+1) (skipN b 0)
   have hlast:=okL_last _ _ _ hok
   generalize (toks b).1=L at hu hok hne hll hlast hK
   have hlp:=List.length_pos_iff.mpr hne
   simp (config:={maxSteps:=1000000}) (disch:=(first|assumption|omega|exact old_n (by omega)|exact old_hp (by assumption)|(simp only[nmL]<;>omega))) only[go_sem,seval,hr2.wf,hg2,hu.sl.one]
   generalize hM3:hp _ 1 M2=M3
   have hC3:Chg [] M2 M3:=by rw[←hM3];exact hp_of rfl
   have hg3:M3.get (na M2 0)=some (.cells true [u,ii 0,ii 0,ii 0,.bool false,.nils,.nils,.nils]):=by rw[←hM3];exact h_getN
   have ho3:Old M3 (na M2 0):=by rw[←hM3];exact old_n (by omega)
   have hc:RC M2 L u (na M2 0):=⟨hu.sl,by omega,na_old⟩
   have hp0:PD M3 M3 (na M2 0) u ⟨0,0,0⟩ ⟨[], [], [],false⟩ .nils .nils .nils:=⟨⟨hg3,ho3⟩,Own.nil,⟨[],Own.nil,rfl,by simp⟩,⟨[],ss0 _ _⟩,by simp[ids],fun i hi=>hi,ho3⟩
   have hst:=st_prog (L:=L) (L.length+1) ⟨[], [], [],false⟩ ⟨0,0,0⟩
   have hlim:=hst.lim2 hlast (Nat.zero_le _) (Nat.zero_le _)
   have hszp:=sz_prog (L:=L) (L.length+1) ⟨[], [], [],false⟩ ⟨0,0,0⟩ 0 (fun _=>rfl) (fun _=>by simp[Ps.sz,szB])
   have hlenp:(progL L (L.length+1) ⟨[], [], [],false⟩ ⟨0,0,0⟩).1.cs.length+(progL L (L.length+1) ⟨[], [], [],false⟩ ⟨0,0,0⟩).1.ts.length<=L.length+1:=by
    have key:∀(f:Nat) (P:Ps) (s:Rs),(progL L f P s).1.cs.length+(progL L f P s).1.ts.length<=P.cs.length+P.ts.length+f:=by
     intro f
     induction f with
     |zero=>intro P s;exact Nat.le_refl _
     |succ f ih=>
      intro P s
      rw[progL]
      split
      ·dsimp only;omega
      ·split
       ·dsimp only;omega
       ·have h1:=ih (topF L P s).1 (topF L P s).2
        have h2:=top_len (L:=L) P s
        omega
    have:=key (L.length+1) ⟨[], [], [],false⟩ ⟨0,0,0⟩
    simpa using this
   generalize hE:progL L (L.length+1) ⟨[], [], [],false⟩ ⟨0,0,0⟩=q at hK hst hlim hszp hlenp
   obtain ⟨X,Z⟩:=q
   dsimp only at hK hst hlim hszp hlenp
   refine prog_loop hc (fun i hi=>hC3.old hi) (vb:=v) (o:=na m 0) hC3 hp0 (Nat.zero_le _) rfl hE (by simp only[go_sem,seval]) (by simp only[go_sem,seval]) (by simp only[go_sem,seval]) (by simp only[go_sem,seval]) ?_
   intro t' M4 vc vt vr g1 g2 g3 g4 hp4 h04
   have hdg:=hp4.hd.g
   have hdo:=hp4.hd.o
   have hg4:=(h04.get ho2 (by simp)).trans hg2
   have ho4:=h04.old ho2
   have hC04:Chg [] m M4:=hC02.trans h04 (by simp)
   have hlen4:=(hv.chg hC04 fun _ _=>by simp).len
   rw[show (Byt b).length=b.length by simp] at hlen4
   rw[←hp_nil M4]
   by_cases hz:Z.e=0
   ·rw[if_neg (by omega)] at hK
    obtain ⟨CT,t1,t2,t3⟩:=hp4.tt
    obtain ⟨CR,r1⟩:=hp4.rr
    simp (config:={maxSteps:=1000000}) (disch:=(first|assumption|omega|exact old_n (by omega)|exact old_hp (by assumption)|(simp only[nmL]<;>omega))) only[go_sem,seval,g1,g2,g3,g4,hdg,hg4,hlen4,hp4.cc.sl.one,t1.sl.one,r1.sl.one]
    generalize hM5:hp _ 0 M4=M5
    have hC5:Chg [na m 0] M4 M5:=by rw[←hM5];exact hp_of rfl
    have hCm3:Chg [] m M3:=hC02.trans hC3 (by simp)
    have hT:∀i,TP M3 vc vt i->i∉ [na m 0]:=fun i hi h=>by
     simp only[List.mem_cons,List.not_mem_nil,or_false] at h;subst h;exact hi.1 (hC3.old ho2)
    have hT2:∀i,TP M3 vc vt i->New m i:=fun i hi h=>hi.1 (hCm3.old h)
    have nw:∀{w e C},Own M3 M4 w e C->∀i∈ids w,i∉ [na m 0]:=fun hw i hi h=>by
     simp only[List.mem_cons,List.not_mem_nil,or_false] at h;subst h;exact hw.new _ hi (hC3.old ho2)
    have hs0:=hszp hz
    refine hK _ _ ⟨⟨vc,vt,vr,rfl, ?_,rfl, ?_, ?_⟩,hC04.trans hC5 fun i hi ho=>by
     simp only[List.mem_cons,List.not_mem_nil,or_false] at hi;subst hi;exact absurd ho na_old⟩
    ·refine ⟨hp4.cc.sl.chg hC5 (nw hp4.cc),fun i hi h=>hp4.cc.new i hi (hCm3.old h),⟨CT,t1.sl.chg hC5 (nw t1),fun i hi h=>t1.new i hi (hCm3.old h),t2,fun j x c a b'=> ?_⟩,⟨CR,(r1.stays (Stays.of hC5 hT)).weak hT2⟩⟩
     obtain ⟨w,B,e,q⟩:=t3 j x c a b'
     exact ⟨w,B,e,(q.stays (Stays.of hC5 hT)).weak hT2⟩
    ·dsimp only;omega
    ·have:X.sz<=4*(b.length+1):=by omega
     exact this
   ·rw[if_pos hz] at hK
    have hb':Z.b<L.length:=by omega
    have hu4:=hu.sl.chg h04 fun _ _=>by simp
    have huo:=hu.chg h04 fun _ _=>by simp
    obtain ⟨id,off,c,a1,-,aN,a2,a3,a4,a5,-⟩:=huo.at Z.b (by simpa using hb')
    have hid:id≠na m 0:=fun e=>aN (e▸ho1)
    have hid':na m 0≠id:=fun e=>hid e.symm
    rw[List.getElem_map] at a5
    have c3:c[off+3]? =some (ii (L[Z.b]).p):=cell_at a5 3 (by omega)
    have en:nowT L Z.b=L[Z.b]:=by rw[nowT,List.getElem?_eq_getElem hb'];rfl
    rw[en] at hK
    have hde:decide ((Z.e:Int)≠0)=true:=decide_eq_true (by omega)
    have hus:=hu4.same (n:=3)
    have hr0:na M2 0≠na m 0:=fun e=>ho2.ne 0 e.symm
    have hr0':na m 0≠na M2 0:=fun e=>hr0 e.symm
    simp (config:={maxSteps:=1000000}) (disch:=(first|assumption|omega|exact old_n (by omega)|exact old_hp (by assumption)|(simp only[nmL]<;>omega))) only[go_sem,seval,g1,g2,g3,g4,hdg,hg4,hlen4,hde,a1,a2,c3,hus]
    refine hK _ _ ⟨⟨.nils,.nils,.nils,rfl,rfl,rfl,rfl,hz⟩, ?_⟩
    exact chg_hpo hC04 (by simp[oldK,na_old])
end
end FR
open Go Nm Go.Proofs
namespace FR
set_option linter.unusedSimpArgs false
set_option linter.unusedVariables false
end FR
open Go Nm Go.Proofs
namespace FR
set_option linter.unusedSimpArgs false
set_option linter.unusedVariables false
end FR
open Go Nm Go.Proofs
namespace FR
set_option linter.unusedSimpArgs false
set_option linter.unusedVariables false
end FR
open Go Nm Go.Proofs
namespace FR
set_option linter.unusedSimpArgs false
set_option linter.unusedVariables false
theorem wf_b {n:Int} (h:(Lit.int .u8 n).wf=true):0<=n/\n<256:=by
 have h1:IntKind.u8.min=0:=rfl
 have h2:IntKind.u8.max=255:=rfl
 simp only[Lit.wf,Bool.and_eq_true,decide_eq_true_eq,h1,h2] at h
 omega
end FR
open Go Nm Go.Proofs
namespace FR
set_option linter.unusedSimpArgs false
set_option linter.unusedVariables false
end FR
open Go Nm Go.Proofs
namespace FR
set_option linter.unusedSimpArgs false
set_option linter.unusedVariables false
set_option maxRecDepth 100000 in
theorem ty_bytes {m:NH} {l:List NV} (h:Ty Try.prog m 22 l):∃v b,l= [v]/\Sl m v 1 (Byt b)/\∀x∈b,x<256:=by
 obtain ⟨v,C,rfl,hS,hm,hall⟩:=h.inv_slc Try.underlying22
 have key:∀C:List (List NV),(∀c∈C,Ty Try.prog m 5 c)->∃b:List Nat,C=Byt b/\∀x∈b,x<256:=by
  intro C
  induction C with
  |nil=>intro _;exact ⟨[],rfl,by simp⟩
  |cons c C ih=>
   intro h
   obtain ⟨n,rfl,hw⟩:=(h c (List.mem_cons_self ..)).inv_int Try.underlying5
   obtain ⟨l,rfl,g⟩:=ih fun x hx=>h x (List.mem_cons_of_mem _ hx)
   have hn:=wf_b hw
   obtain ⟨k,rfl⟩:=Int.eq_ofNat_of_zero_le hn.1
   exact ⟨k::l,rfl,by intro x hx;rcases List.mem_cons.mp hx with rfl|hx;omega;exact g x hx⟩
 obtain ⟨b,rfl,hf⟩:=key C hall
 exact ⟨v,b,rfl,hS,hf⟩
theorem num11 (m:NH) (e:Int):Ret Try.prog S0 15 [ii e] m (ii e) m:=by
 have h:∃v m',Ret Try.prog S0 15 [ii e] m v m'/\v=ii e/\m'=m:=by
  refine WF.ex fun K hK=> ?_
  refine WF.of_wpG (fun _=>rfl) nf15_eq (L:= [(.e,ii e)]) rfl ?_
  unfold nf15
  simp (config:={maxSteps:=1000000}) (disch:=(first|assumption|omega|exact old_n (by omega)|exact old_hp (by assumption)|(simp only[nmL]<;>omega))) only[go_sem,seval,hp_nil]
  exact hK _ _ ⟨rfl,rfl⟩
 obtain ⟨v,m',h1,rfl,rfl⟩:=h
 exact h1
theorem locals_same {m0 m:NH} {T:D4->Prop} {v:NV} {l:List Stm} {C:List (List NV)} (hS:SS m0 T v l C) (hC0:Chg [] m0 m) (hsz:szB l<=10000000):
 ∃r1 m1,Ret Try.prog S0 17 [v] m r1 m1/\∃r2 m2,Ret Try.prog S0 18 [v] m1 r2 m2/\Chg [] m m1/\Chg [] m m2/\Ret Try.prog S0 16 [r1,r2] m2 (.bool true) m2:=by
 obtain ⟨r1,m1,h1,o1,c1⟩:=locals_p hS hC0 hsz
 obtain ⟨r2,m2,h2,o2,c2⟩:=locals_r hS (hC0.trans c1 (by simp)) hsz
 refine ⟨r1,m1,h1,r2,m2,h2,c1,c1.trans c2 (by simp), ?_⟩
 have hl:(locals l).length<=1000000000:=by
  have h1:=foldN_le ((allL l).flatMap Stm.own) []
  have h2:=(allL_sz l).2
  unfold locals
  simp only[List.length_nil] at h1
  omega
 have:=sameStrings_r (o1.sl.chg c2 fun _ _=>by simp) o2.sl hl
 rwa [decide_eq_true rfl] at this
theorem mem_sum {l:List Nat} {x:Nat} (h:x∈l):x<=l.sum:=by
 induction l with
 |nil=>simp at h
 |cons a l ih=>
  rw[List.sum_cons]
  rcases List.mem_cons.mp h with rfl|h
  ·omega
  ·have:=ih h;omega
theorem checkPrograms (m:NH) (l:List NV) (h:TyA Try.prog m [22] l):∃m',Ret Try.prog S0 3 l m (.bool true) m':=by
 obtain ⟨x,r,rfl,h1,h⟩:=h.inv1 (by intro fs q;rw[Try.underlying22] at q;simp at q)
 obtain rfl:=h.inv0
 obtain ⟨v,b,hx,hv,hb⟩:=ty_bytes h1
 have hxv:v=x:=by simpa using hx.symm
 subst hxv
 have hal:∀m,Ret Try.prog S0 11 [] m (.bool true) m:=fun m=>Ret.kept rfl m
 have h:∃v' m',Ret Try.prog S0 3 [v] m v' m'/\v'= .bool true:=by
  refine WF.ex fun K hK=> ?_
  refine WF.of_wpG (fun _=>rfl) nf3_eq (L:= [(.e,v)]) rfl ?_
  unfold nf3
  have hv':Sl (hp [] 0 m) v 1 (Byt b):=by rw[hp_nil];exact hv
  obtain ⟨w,M1,hr1,⟨vc,vt,vr,rfl,hpp⟩,hC1⟩:=program_r hv' hb
  rw[hp_nil] at hC1
  have hlen:=(hv.chg hC1 fun _ _=>by simp).len
  rw[show (Byt b).length=b.length by simp] at hlen
  cases hprog:(progR b).1 with
  |none=>
   rw[hprog] at hpp
   obtain ⟨-,-,-,he⟩:=hpp
   have he':((progR b).2.2:Int)≠0:=by omega
   simp (config:={maxSteps:=1000000}) (disch:=(first|assumption|omega|exact old_n (by omega)|exact old_hp (by assumption)|(simp only[nmL]<;>omega))) only[go_sem,seval,(hal _).wf',hr1.wf,he']
   exact hK _ _ rfl
  |some p=>
   rw[hprog] at hpp
   obtain ⟨hpp,he,hs1,hs2⟩:=hpp
   by_cases hlb:3000<b.length
   ·simp (config:={maxSteps:=1000000}) (disch:=(first|assumption|omega|exact old_n (by omega)|exact old_hp (by assumption)|(simp only[nmL]<;>omega))) only[go_sem,seval,(hal _).wf',hr1.wf,he,hlen]
    exact hK _ _ rfl
   ·have hcs:p.cs.length<=1000000/\p.ts.length<=1000000:=by omega
    have hz:∀t∈p.ts,szB t.2<=10000000:=fun t ht=>by
     have:=mem_sum (List.mem_map_of_mem (f:=fun t:List Nat×List Stm=>szB t.2) ht)
     omega
    have hzr:szB p.r<=10000000:=by omega
    obtain ⟨CT0,hT0⟩:=hpp.t
    obtain ⟨CR0,hR0⟩:=hpp.r
    simp (config:={maxSteps:=1000000}) (disch:=(first|assumption|omega|exact old_n (by omega)|exact old_hp (by assumption)|(simp only[nmL]<;>omega))) only[go_sem,seval,(hal _).wf',hr1.wf,he,hlen,hpp.c.one,hT0.sl.one,hR0.sl.one]
    generalize hM2:hp _ 1 M1=M2
    have hC2:Chg [] M1 M2:=by rw[←hM2];exact hp_of rfl
    have g2:M2.get (na M1 0)=some (.cells true [vc,vt,vr]):=by rw[←hM2];exact h_getN
    have o2:Old M2 (na M1 0):=by rw[←hM2];exact old_n (by omega)
    have hp2:=hpp.stays (stN hC2 _)
    obtain ⟨M3,hr3,hC3⟩:=chk_p hp2 hcs hz hzr
    have g3:=(hC3.get o2 (by simp)).trans g2
    have o3:=hC3.old o2
    have hp3:=hp2.stays (stN hC3 _)
    obtain ⟨M4,hr4,hC4⟩:=chk_r hp3 hcs hz hzr
    have g4:=(hC4.get o3 (by simp)).trans g3
    have o4:=hC4.old o3
    have hp4:=hp3.stays (stN hC4 _)
    simp (config:={maxSteps:=1000000}) (disch:=(first|assumption|omega|exact old_n (by omega)|exact old_hp (by assumption)|(simp only[nmL]<;>omega))) only[go_sem,seval,hr3.wf',g3,hr4.wf',g4,(num11 _ _).wf']
    have hlt:=hT0.len
    refine W.loop (fun k d=>∃t N i,d=⟨t, [],none,N⟩/\NT.get D4.e.f t=some (.ptr (na M1 0) 0)/\NT.get D4.e.b.c t=some (ii (i:Nat))/\i+k=p.ts.length/\Chg [] M4 N) ?_ p.ts.length _ ⟨_,M4,0,rfl,by simp only[go_sem,seval],by simp only[go_sem,seval]<;>rfl,by omega,Chg.refl M4⟩
    rintro k d ⟨t,N,i,rfl,t1,t2,hik,hC⟩
    apply wp_sound
    unfold nf3_l1
    change wp _ _ _ _ ⟨puts [] t, [],none,N⟩ _
    have gN:=(hC.get o4 (by simp)).trans g4
    have oN:=hC.old o4
    have hpN:=hp4.stays (stN hC _)
    obtain ⟨CT,hT⟩:=hpN.t
    obtain ⟨CR,hR⟩:=hpN.r
    have hlT:=hT.sl.len
    rw[hT.len] at hlT
    by_cases hi:i<p.ts.length
    ·obtain ⟨vb,Bb,id,off,wr,c,hSb,a1,a2,a3,a4,a5⟩:=hT.at i hi
     have c1:c[off+1]? =some vb:=cell_at a5 1 (by omega)
     obtain ⟨u1,N1,hq1,u2,N2,hq2,hD1,hD2,hq3⟩:=locals_same hSb (Chg.refl N) (hz _ (List.getElem_mem hi))
     have gN1:=(hD1.get oN (by simp)).trans gN
     have gN2:=(hD2.get oN (by simp)).trans gN
     have e1:=(hD1.get a3 (by simp)).trans a2
     have e2:=(hD2.get a3 (by simp)).trans a2
     have hvt:=hT.sl.same (n:=3)
     have hvb:=hSb.sl.same (n:=3)
     simp (config:={maxSteps:=1000000}) (disch:=(first|assumption|omega|exact old_n (by omega)|exact old_hp (by assumption)|(simp only[nmL]<;>omega))) only[go_sem,seval,t1,t2,gN,hlT,a1,a2,c1,hq1.wf',hq2.wf',hq3.wf',gN1,gN2,e1,e2,hvt,hvb]
     exact ⟨k - 1,by omega,_,N2,i+1,by rfl,by simp only[go_sem,seval,t1],by simp only[go_sem,seval]<;>rfl,by omega,hC.trans hD2 (by simp)⟩
    ·obtain ⟨u1,N1,hq1,u2,N2,hq2,hD1,hD2,hq3⟩:=locals_same hR (Chg.refl N) hzr
     have gN1:=(hD1.get oN (by simp)).trans gN
     have gN2:=(hD2.get oN (by simp)).trans gN
     have hvb:=hR.sl.same (n:=3)
     simp (config:={maxSteps:=1000000}) (disch:=(first|assumption|omega|exact old_n (by omega)|exact old_hp (by assumption)|(simp only[nmL]<;>omega))) only[go_sem,seval,t1,t2,gN,hlT,hq1.wf',hq2.wf',hq3.wf',gN1,gN2,hvb]
     exact hK _ _ rfl
 obtain ⟨v',m',h,rfl⟩:=h
 exact ⟨m',h⟩
end FR
