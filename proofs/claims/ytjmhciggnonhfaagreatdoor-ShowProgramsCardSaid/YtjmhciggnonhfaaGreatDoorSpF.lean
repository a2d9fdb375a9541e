/- A machine that runs the given program with memory and order of evaluation taken apart, and what it shows of the law ShowPrograms: part 6. -/
import Derived.MakeChecks
import Derived.Lib.LaidTab
import Derived.OpenShut
import Derived.ProofKit
import Derived.ChangeShapes
import Derived.Test.YtjmhciggnonhfaaGreatDoorRows
import Derived.Test.YtjmhciggnonhfaaGreatDoorSpE
set_option linter.unusedSimpArgs false
set_option linter.unusedVariables false
set_option linter.unusedSectionVars false
set_option linter.defProp false
open Go Nm Go.Proofs
namespace FR
section
variable {P:Program} {S:cR}
theorem fw.dfr {x:NOper} {l:List NOper} {t:Tm} {dfs:List Dfr} {ctx:Option NV} {m:NH} {o:Out} {d1:Dyn} {f:Nat} {cap:List NV} (hg:az t x.guard=some true) (hop:af x.op t m= .dfr f cap)
 (h:fw P S none l ⟨aQ x.dst aS t,.call f cap::dfs,ctx,m⟩ o d1):fw P S none (x::l) ⟨t,dfs,ctx,m⟩ o d1:=by
 obtain ⟨n,hn⟩:=h
 refine ⟨n, ?_⟩
 rw[bU,hg,hop]
 exact hn
theorem fw.recov {x:NOper} {l:List NOper} {t:Tm} {dfs:List Dfr} {ctx:Option NV} {m:NH} {o:Out} {d1:Dyn} (hg:az t x.guard=some true) (hop:af x.op t m= .recov)
 (h:fw P S none l ⟨aQ x.dst (ctx.getD .nili) t,dfs,none,m⟩ o d1):fw P S none (x::l) ⟨t,dfs,ctx,m⟩ o d1:=by
 obtain ⟨n,hn⟩:=h
 refine ⟨n, ?_⟩
 rw[bU,hg,hop]
 cases ctx<;>exact hn
theorem Call.of_dfr {f g:Nat} {nf ng:NFun} {args cap:List NV} {m:NH} {o o2:Out} {d d2:Dyn} {p:Option NV} {v:NV} (hs:∀l h,S f l h=none) (hf:ah P f=some (.code nf)) (h:dL P S none nf.body ⟨cN args 0 .leaf, [],none,m⟩ o d) (hd:d.dfs= [.call g cap])
 (hp:(p=none/\(o= .norm∨o= .ret))∨∃v,o= .pan v/\p=some v) (hg:ah P g=some (.code ng)) (h2:dL P S none ng.body ⟨cN cap 0 .leaf, [],p,d.h⟩ o2 d2) (ho2:o2= .norm∨o2= .ret) (hd2:d2.dfs= []) (hc2:d2.ctx=none) (hr2:ng.results= [])
 (hv:cG d2.h d.t nf.results .fail (fun l=> .val (iC l) d.ctx d2.h)= .val v d.ctx d2.h):Call P S f args m (.val v d.ctx d2.h):=by
 obtain ⟨n,hn⟩:=h
 obtain ⟨k,hk⟩:=h2
 have hn:=bY (Nat.le_max_left n k) _ _ _ _ _ hn
 have hk:=bY (Nat.le_max_right n k) _ _ _ _ _ hk
 generalize max n k=q at hn hk
 refine ⟨by simp,q, ?_⟩
 unfold bZ
 rw[hs]
 dsimp only
 rw[hf]
 dsimp only
 have hcall:cL P (ev P S q) 2 g cap p d.h= .val (.tup []) none d2.h:=by
  rw[dx,hg]
  dsimp only
  rw[hk]
  rcases ho2 with rfl|rfl<;>(dsimp only;rw[hd2];show cG d2.h d2.t ng.results .fail (fun l=> .val (iC l) d2.ctx d2.h)=_;rw[hr2,hc2];rfl)
 rw[dx,hf]
 dsimp only
 rw[hn]
 have key:∀(p:Option NV),cL P (ev P S q) 2 g cap p d.h= .val (.tup []) none d2.h->unwind (cL P (ev P S q) 2) (finish nf.results d) d.dfs p d.h= .val v d.ctx d2.h:=by
  intro p hc
  rw[hd]
  show (match cL P (ev P S q) 2 g cap p d.h with| .val _ p h=>finish nf.results d p h|_=>CR.fail)=_
  rw[hc]
  exact hv
 rcases hp with ⟨rfl,rfl|rfl⟩|⟨v',rfl,rfl⟩
 ·exact key _ hcall
 ·exact key _ hcall
 ·exact key _ hcall
end
section
variable {m m' m0:NH} {r s:D4} {u:NV} {L:List Tok} {a a':Nat} {x:Tok} {T T':List D4} {E:NV->NH->Prop}
theorem En (m:NH) (e a:Int):∃m',a6 Tryz.prog S0 23 [.ifc 71 (.agg [ii e,ii a])] m (.agg [ii e,ii a]) m'/\Chg [] m m':=by
 refine WF.ex1 fun K hK=> ?_
 refine WF.of_wpG (fun _=>rfl) zK (L:= [(.e,.ifc 71 (.agg [ii e,ii a]))]) rfl ?_
 unfold Lu
 simp (disch:=first|assumption|omega|(simp only[ay]<;>omega)) only[go_sem,seval]
 exact hK _ (aH rfl)
end
def RW (c:NC) (d:Dyn) (R:Out->Dyn->Prop):Prop:=∃o d',dL Tryz.prog S0 none c d o d'/\R o d'
theorem RW.of_wp {a b:NC} {d:Dyn} {R:Out->Dyn->Prop} (h:wp Tryz.prog S0 none a d (dR (fun d=>RW b d R) R)):RW (.seq a b) d R:=by
 obtain ⟨o,d1,h1,h2⟩:=aM _ _ _ h
 cases o with
 |norm=>obtain ⟨o,d2,h3,h4⟩:=h2;exact ⟨o,d2,dL.seq h1 h3,h4⟩
 |pan v=>exact h2.2.elim
 |ret=>exact ⟨_,_,dL.seq_out h1 (by simp),h2⟩
 |exit i=>exact ⟨_,_,dL.seq_out h1 (by simp),h2⟩
theorem RW.run {a b:NC} {d d1:Dyn} {R:Out->Dyn->Prop} (h1:dL Tryz.prog S0 none a d .norm d1) (h:RW b d1 R):RW (.seq a b) d R:=by
 obtain ⟨o,d2,h3,h4⟩:=h;exact ⟨o,d2,dL.seq h1 h3,h4⟩
theorem RW.pan {a b:NC} {d d1:Dyn} {v:NV} {R:Out->Dyn->Prop} (h1:dL Tryz.prog S0 none a d (.pan v) d1) (h:R (.pan v) d1):RW (.seq a b) d R:=⟨_,_,dL.seq_out h1 (by simp),h⟩
theorem RW.wp {a:NC} {d:Dyn} {R:Out->Dyn->Prop} (h:Nm.wp Tryz.prog S0 none a d R):RW a d R:=by
 obtain ⟨o,d1,h1,h2⟩:=aM _ _ _ h
 cases o with
 |pan v=>exact h2.2.elim
 |_=>exact ⟨_,_,h1,h2⟩
section
variable {m m' m0 M:NH} {r s bl bp ba be:D4} {u:NV} {L:List Tok} {a a':Nat} {x:Tok} {T T':List D4} {E:NV->NH->Prop}
theorem El:RW Cp.body ⟨cN [.ptr bl 0,.ptr bp 0,.ptr ba 0,.ptr be 0] 0 .leaf, [],none,M⟩ fun o d=>(o= .norm∨o= .ret)/\d.dfs= []/\d.ctx=none/\d.h=M:=by
 unfold Cp
 refine RW.run (dL.reg (fw.recov rfl rfl (fw.val rfl rfl (fw.nil _)))) ?_
 apply RW.wp
 change Nm.wp _ _ _ _ ⟨am [(D4.e.f,.nili),(D4.e.a.b,.nili),(.c .e,.ptr be 0),(.b .e,.ptr ba 0),(.a .e,.ptr bp 0),(.e,.ptr bl 0)] .leaf, [],none,M⟩ _
 have hb:ee .ifc .neq .nili .nili=some (.bool false):=rfl
 simp (disch:=first|assumption|omega|(apply ai;omega)|(apply ae;assumption)|(simp only[ay]<;>omega)) only[go_sem,seval,hb]
 simp
theorem FE {e:Int} (ol:aw M bl) (gl:M.get bl=some (.cells true [u])) (op:aw M bp) {p1 p2 p3 w1 w2:NV} (gp:M.get bp=some (.cells true [p1,p2,p3])) (oa:aw M ba) (ga:M.get ba=some (.cells true [w1])) (oe:aw M be) (ge:M.get be=some (.cells true [w2]))
 (hu:Sl M u 4 (L.map Tok.l)) (ha:a<L.length) (hl:L.length<=1000000) {x:Tok} (hx:L[a]? =some x) (n1:bp≠ba) (n2:bp≠be) (n3:ba≠be) (n4:bl≠bp) (n5:bl≠ba) (n6:bl≠be) (hn:∀i∈ids u,i≠bp/\i≠ba/\i≠be):
 RW Cp.body ⟨cN [.ptr bl 0,.ptr bp 0,.ptr ba 0,.ptr be 0] 0 .leaf, [],some (.ifc 71 (.agg [ii e,ii a])),M⟩ fun o d=>(o= .norm∨o= .ret)/\d.dfs= []/\d.ctx=none/\
  d.h.get bp=some (.cells true [.nils,.nils,.nils])/\d.h.get ba=some (.cells true [ii x.p])/\d.h.get be=some (.cells true [ii e])/\Chg [bp,ba,be] M d.h:=by
 unfold Cp
 refine RW.run (dL.reg (fw.recov rfl rfl (fw.val rfl rfl (fw.nil _)))) ?_
 apply RW.wp
 generalize hv:(NV.ifc 71 (.agg [ii e,ii a]))=v
 change Nm.wp _ _ _ _ ⟨am [(D4.e.f,v),(D4.e.a.b,v),(.c .e,.ptr be 0),(.b .e,.ptr ba 0),(.a .e,.ptr bp 0),(.e,.ptr bl 0)] .leaf, [],none,M⟩ _
 have hb:ee .ifc .neq v .nili=some (.bool true):=by rw[←hv];rfl
 obtain ⟨m1,r1,hC1⟩:=En M e a
 rw[hv] at r1
 have ol1:=hC1.old ol
 have op1:=hC1.old op
 have oa1:=hC1.old oa
 have oe1:=hC1.old oe
 have gl1:=(hC1.get ol (by simp)).trans gl
 have gp1:=(hC1.get op (by simp)).trans gp
 have ga1:=(hC1.get oa (by simp)).trans ga
 have ge1:=(hC1.get oe (by simp)).trans ge
 have hu1:=hu.chg hC1 (by simp)
 have hlen:=hu1.len
 rw[List.length_map] at hlen
 obtain ⟨id,off,wr,cs,a1,a2,a3,a4,a5⟩:=hu1.at a (by simpa using ha)
 rw[List.getElem_map] at a5
 have hxe:L[a]=x:=by rw[List.getElem?_eq_getElem ha] at hx;exact Option.some.inj hx
 rw[hxe] at a5
 unfold Tok.l at a5
 have c3:cs[off+3]? =some (ii x.p):=by have:=cn a5 3 (by omega);rw[this];rfl
 have hs:=hu1.same (n:=3)
 have hid:id∈ids u:=by
  rcases hu1.2 with ⟨rfl,h0⟩|⟨i0,o0,kc,w,c,rfl,-⟩
  ·have:=List.map_eq_nil_iff.1 h0
   rw[this] at ha;exact Q3 ha (by simp)
  ·have e1:=Bf (n:=4) (id:=i0) (off:=o0) (e:=4) (kc:=kc) (len:=(L.map Tok.l).length) (ik:= .i64) (z:=(a:Int)) (by omega) (by rw[List.length_map];omega)
   have a1':=e1.symm.trans a1
   cases a1'
   simp[ids]
 obtain ⟨d1,d2,d3⟩:=hn id hid
 have n1':=n1.symm
 have n2':=n2.symm
 have n3':=n3.symm
 have n4':=n4.symm
 have n5':=n5.symm
 have n6':=n6.symm
 have hmin:min (a:Int) ((L.length:Int) - 1)=a:=by omega
 simp (disch:=first|assumption|omega|(simp only[ay]<;>omega)) only[go_sem,seval,hb,r1.wf,gl1,gp1,ga1,ge1,hlen,hmin,a1,a2,c3,hs]
 refine ⟨Or.inl trivial,(hC1.weak (by simp)).trans (aH (S:=_) rfl) fun i hi _=> ?_⟩
 simp[aF] at hi ⊢
 rcases hi with rfl|rfl|rfl<;>simp
end
end FR
open Go Nm Go.Proofs
namespace FR
theorem FO {s:List Nat}:∀(L:List Tok) (w:Int),Mo s w L->∀(i:Nat) (x:Tok),L[i]? =some x->(x.k=5↔i+1=L.length)/\x.p<=s.length/\∀c∈x.t,c∈s
 | [],_,_,i,x,hx=>by simp at hx
 |y::l,w,⟨h1,h2,h3,h4,h5,h6⟩,0,x,hx=>by
  have e:y=x:=by simpa using hx
  subst e
  refine ⟨h5.trans ?_,h2,fun c hc=> ?_⟩
  ·rw[List.length_cons]
   constructor
   ·rintro rfl;rfl
   ·intro q;exact List.eq_nil_of_length_eq_zero (by omega)
  ·rw[←h4] at hc
   exact List.mem_of_mem_take (List.mem_of_mem_drop hc)
 |y::l,w,⟨h1,h2,h3,h4,h5,h6⟩,i+1,x,hx=>by
  obtain ⟨a,b,c⟩:=FO l y.p h6 i x (by simpa using hx)
  refine ⟨a.trans ?_,b,c⟩
  rw[List.length_cons];omega
theorem zh {s:List Nat}:∀(L:List Tok) (w:Int),Mo s w L->L= []∨w+(L.length:Int)<=s.length
 | [],_,_=>Or.inl rfl
 |y::l,w,⟨h1,h2,h3,h4,h5,h6⟩=>by
  refine Or.inr ?_
  rw[List.length_cons]
  rcases zh l y.p h6 with rfl|h
  ·simp;omega
  ·omega
section
variable {m m' m0 M:NH} {r s bl bp ba be:D4} {u:NV} {L:List Tok} {a a':Nat} {x:Tok} {T T':List D4} {E:NV->NH->Prop}
theorem NY {x:NOpd} {t:Tm} {m:NH} {f:Nat} {cap:List NV} (h:ρ t x=some (.fn f cap)):af (.defer x) t m= .dfr f cap:=by
 show wV t x _=_
 rw[bW,h];rfl
structure ProgE (m:NH) (bl bp ba be:D4) (L:List Tok) (X:Ps) (Z:Rs) (n:Nat) (o:Out) (d:Dyn):Prop where
 dfs:d.dfs= [.call 22 [.ptr bl 0,.ptr bp 0,.ptr ba 0,.ptr be 0]]
 ctx:d.ctx=none
 t1:NT.get D4.e.b d.t=some (.ptr bp 0)
 t2:NT.get D4.e.c d.t=some (.ptr ba 0)
 t3:NT.get D4.e.f d.t=some (.ptr be 0)
 c:Chg [] m d.h
 nn:¬aw m bp/\¬aw m ba/\¬aw m be
 h:((o= .norm∨o= .ret)/\Z.e=0/\∃p1 p2 p3,d.h.get bp=some (.cells true [p1,p2,p3])/\RP d.h (eB m) ⟨X.cs,X.ts,X.rc⟩ p1 p2 p3/\d.h.get ba=some (.cells true [ii n])/\d.h.get be=some (.cells true [ii 0]))∨
  (Z.e≠0/\∃(u:NV),o= .pan (Iw Z)/\aw d.h bl/\d.h.get bl=some (.cells true [u])/\aw d.h bp/\(∃p1 p2 p3,d.h.get bp=some (.cells true [p1,p2,p3]))/\aw d.h ba/\(∃w,d.h.get ba=some (.cells true [w]))/\aw d.h be/\(∃w,d.h.get be=some (.cells true [w]))/\Sl d.h u 4 (L.map Tok.l)/\(∀i∈ids u,i≠bp/\i≠ba/\i≠be))
theorem FY {b:List Nat} {bv:NV} (hb:Sl m bv 1 (gi b)) {L:List Tok} (hl:L.length<=20000) (h0:0<L.length) (hk:∀(i:Nat) (x:Tok),L[i]? =some x->(x.k=5↔i+1=L.length)) (hbb:∀(i:Nat) (x:Tok),L[i]? =some x->∀c∈x.t,c<256)
 (hT:∀m,Sl m bv 1 (gi b)->∃u m',a6 Tryz.prog S0 21 [bv] m (.tup [u,ii b.length,ii 0]) m'/\dq m m' u 4 (L.map Tok.l)/\Chg [] m m'):
 ∃bl bp ba be,(bp≠ba/\bp≠be/\ba≠be/\bl≠bp/\bl≠ba/\bl≠be)/\RW Od.body ⟨cN [bv] 0 .leaf, [],none,m⟩ (ProgE m bl bp ba be L (aW L (L.length+1) ⟨[], [], [],false⟩ ⟨0,0,0⟩).1 (aW L (L.length+1) ⟨[], [], [],false⟩ ⟨0,0,0⟩).2 b.length):=by
 generalize hM1:hp [(.n 2,.cells true [.int .i64 (.lit 0)]),(.n 1,.cells true [.int .i64 (.lit 0)]),(.n 0,.cells true [.nils,.nils,.nils])] 3 m=M1
 have hC1:Chg [] m M1:=bf hM1 rfl
 obtain ⟨u,M2,r2,ho,hC2⟩:=hT M1 (hb.chg hC1 (by simp))
 have a0:aw M1 (na m 0):=bB hM1 (by omega)
 have a1:aw M1 (na m 1):=bB hM1 (by omega)
 have a2:aw M1 (na m 2):=bB hM1 (by omega)
 have b0:=hC2.old a0
 have b1:=hC2.old a1
 have b2:=hC2.old a2
 have g0:M2.get (na m 0)=some (.cells true [.nils,.nils,.nils]):=(hC2.get a0 (by simp)).trans (bu hM1)
 have g1:M2.get (na m 1)=some (.cells true [.int .i64 (.lit 0)]):=(hC2.get a1 (by simp)).trans (bu hM1)
 have g2:M2.get (na m 2)=some (.cells true [.int .i64 (.lit 0)]):=(hC2.get a2 (by simp)).trans (bu hM1)
 have n01:na m 0≠na m 1:=by simp[iT]
 have n02:na m 0≠na m 2:=by simp[iT]
 have n12:na m 1≠na m 2:=by simp[iT]
 have n10:=n01.symm
 have n20:=n02.symm
 have n21:=n12.symm
 have l0:=b0.ne 0
 have l1:=b1.ne 0
 have l2:=b2.ne 0
 refine ⟨na M2 0,na m 0,na m 1,na m 2,⟨n01,n02,n12,l0.symm,l1.symm,l2.symm⟩, ?_⟩
 unfold Od
 generalize hR:ProgE m (na M2 0) (na m 0) (na m 1) (na m 2) L (aW L (L.length+1) ⟨[], [], [],false⟩ ⟨0,0,0⟩).1 (aW L (L.length+1) ⟨[], [], [],false⟩ ⟨0,0,0⟩).2 b.length=R
 refine RW.of_wp ?_
 change wp _ _ _ _ ⟨am [(D4.e,bv)] .leaf, [],none,m⟩ _
 rw[←ab m]
 simp (disch:=first|assumption|omega|(apply ai;omega)|(apply ae;assumption)|(simp only[ay]<;>omega)) only[go_sem,seval]
 refine RW.of_wp ?_
 have hu:=ho.sl.one
 simp (disch:=first|assumption|omega|(apply ai;omega)|(apply ae;assumption)|(simp only[ay]<;>omega)) only[go_sem,seval,hM1,r2.wf,g0,g1,g2,hu]
 refine RW.of_wp ?_
 simp (disch:=first|assumption|omega|(apply ai;omega)|(apply ae;assumption)|(simp only[ay]<;>omega)) only[go_sem,seval,g0,g1,g2]
 generalize hM3:hp _ 1 M2=M3
 generalize hTT:am _ NT.leaf=TT
 have q0:NT.get D4.e TT=some bv:=by rw[←hTT];exact gq rfl
 have q1:NT.get D4.e.a.a TT=some (.ptr (na M2 0) 0):=by rw[←hTT];exact gq rfl
 have q2:NT.get D4.e.b TT=some (.ptr (na m 0) 0):=by rw[←hTT];exact gq rfl
 have q3:NT.get D4.e.c TT=some (.ptr (na m 1) 0):=by rw[←hTT];exact gq rfl
 have q4:NT.get D4.e.f TT=some (.ptr (na m 2) 0):=by rw[←hTT];exact gq rfl
 clear hTT
 have hC3:Chg [na m 2,na m 1] M2 M3:=bf hM3 rfl
 have k0:M3.get (na M2 0)=some (.cells true [u]):=bu hM3
 have e0:aw M3 (na M2 0):=bB hM3 (by omega)
 change RW _ ⟨am [] TT, [],none,M3⟩ _
 have hd:ρ (am [(D4.e.f.b,NV.fn 22 [.ptr (na M2 0) 0,.ptr (na m 0) 0,.ptr (na m 1) 0,.ptr (na m 2) 0])] TT) (.tmp D4.e.f.b)=some (NV.fn 22 [.ptr (na M2 0) 0,.ptr (na m 0) 0,.ptr (na m 1) 0,.ptr (na m 2) 0]):=(show NT.get D4.e.f.b _=_ from gq rfl)
 have hf:af (.mkFn 22 [.tmp D4.e.a.a,.tmp D4.e.b,.tmp D4.e.c,.tmp D4.e.f]) (am [] TT) M3= .val (NV.fn 22 [.ptr (na M2 0) 0,.ptr (na m 0) 0,.ptr (na m 1) 0,.ptr (na m 2) 0]):=by (simp (disch:=first|assumption|omega|(apply ai;omega)|(apply ae;assumption)|(simp only[ay]<;>omega)) only[go_sem,seval,q1,q2,q3,q4])
 refine RW.run (d1:=⟨am [(D4.e.f.b,.fn 22 [.ptr (na M2 0) 0,.ptr (na m 0) 0,.ptr (na m 1) 0,.ptr (na m 2) 0])] TT, [.call 22 [.ptr (na M2 0) 0,.ptr (na m 0) 0,.ptr (na m 1) 0,.ptr (na m 2) 0]],none,M3⟩) (dL.reg (fw.val rfl hf (fw.dfr rfl (NY hd) (fw.nil _)))) ?_
 refine RW.of_wp ?_
 rw[←ab M3]
 simp (disch:=first|assumption|omega|(apply ai;omega)|(apply ae;assumption)|(simp only[ay]<;>omega)) only[go_sem,seval,q0,q1,q2,q3,q4,k0,hu]
 generalize hM4:hp _ 1 M3=M4
 generalize hT2:am _ TT=T2
 have t0:NT.get D4.e T2=some bv:=by rw[←hT2];exact gq q0
 have t1:NT.get D4.e.a.b T2=some (.ptr (na M3 0) 0):=by rw[←hT2];exact gq rfl
 have t2:NT.get D4.e.b T2=some (.ptr (na m 0) 0):=by rw[←hT2];exact gq q2
 have t3:NT.get D4.e.c T2=some (.ptr (na m 1) 0):=by rw[←hT2];exact gq q3
 have t4:NT.get D4.e.f T2=some (.ptr (na m 2) 0):=by rw[←hT2];exact gq q4
 clear hT2
 have hC4:Chg [] M3 M4:=bf hM4 rfl
 have nu:∀i∈ids u,¬aw M1 i:=ho.new
 have j0:M3.get (na m 0)=some (.cells true [.nils,.nils,.nils]):=(hC3.get b0 (by simp[iT])).trans g0
 have j1:M3.get (na m 1)=some (.cells true [ii b.length]):=by rw[←hM3];simp (disch:=first|assumption|omega|(apply ai;omega)|(apply ae;assumption)|(simp only[ay]<;>omega)) only[go_sem,seval]
 have j2:M3.get (na m 2)=some (.cells true [ii 0]):=by rw[←hM3];simp (disch:=first|assumption|omega|(apply ai;omega)|(apply ae;assumption)|(simp only[ay]<;>omega)) only[go_sem,seval]
 have hu3:Sl M3 u 4 (L.map Tok.l):=ho.sl.chg hC3 fun i hi q=>by
  simp only[Q9,Q8,or_false] at q
  rcases q with rfl|rfl
  ·exact nu _ hi a2
  ·exact nu _ hi a1
 have rd:Rp M4 (na M3 0) u L (Rs.mk 0 0 0).a:=⟨bu hM4,bB hM4 (by omega),hu3.chg hC4 (by simp),fun q=>aD (hu3.old _ q),hl,hk,h0,hbb⟩
 have z0:=hC3.old b0
 have z1:=hC3.old b1
 have z2:=hC3.old b2
 have s0:∀{i:D4},aw M3 i->i∉ [na M3 0]:=fun hi q=>hi.ne 0 (one q)
 have hW:=Cq rd rfl (fun v m'=>(aW L (L.length+1) ⟨[], [], [],false⟩ ⟨0,0,0⟩).2.e≠0/\v=Iw (aW L (L.length+1) ⟨[], [], [],false⟩ ⟨0,0,0⟩).2/\Chg [na M3 0] M4 m')
  (fun v m'=>(aW L (L.length+1) ⟨[], [], [],false⟩ ⟨0,0,0⟩).2.e=0/\∃vc vt vr,v= .agg [vc,vt,vr]/\RP m' (eB M4) ⟨(aW L (L.length+1) ⟨[], [], [],false⟩ ⟨0,0,0⟩).1.cs,(aW L (L.length+1) ⟨[], [], [],false⟩ ⟨0,0,0⟩).1.ts,(aW L (L.length+1) ⟨[], [], [],false⟩ ⟨0,0,0⟩).1.rc⟩ vc vt vr/\Chg [na M3 0] M4 m')
  (fun h m' hC=>⟨h,rfl,hC⟩) (fun h v m' hv=>⟨h,hv⟩)
 generalize (aW L (L.length+1) ⟨[], [], [],false⟩ ⟨0,0,0⟩).1=X at hW hR
 generalize (aW L (L.length+1) ⟨[], [], [],false⟩ ⟨0,0,0⟩).2=Z at hW hR
 have c03:Chg [] m M3:=(hC1.trans hC2 (by simp)).trans hC3 fun i hi ho=>by
  simp only[Q9,Q8,or_false] at hi
  rcases hi with rfl|rfl<;>exact Q3 ho aD
 have c04:Chg [] m M4:=c03.trans hC4 (by simp)
 have c05:∀{M5},Chg [na M3 0] M4 M5->Chg [] m M5:=fun h=>c04.trans h fun i hi ho=>Q3 (c03.old ho) (by rw[one hi];exact aD)
 have keep:∀M',Chg [na M3 0] M4 M'->M'.get (na M2 0)=some (.cells true [u])/\aw M' (na M2 0)/\M'.get (na m 0)=some (.cells true [.nils,.nils,.nils])/\aw M' (na m 0)/\M'.get (na m 1)=some (.cells true [ii b.length])/\aw M' (na m 1)/\M'.get (na m 2)=some (.cells true [ii 0])/\aw M' (na m 2):=fun M' hC=>
  ⟨(hC.get (hC4.old e0) (s0 e0)).trans ((hC4.get e0 (by simp)).trans k0),hC.old (hC4.old e0),(hC.get (hC4.old z0) (s0 z0)).trans ((hC4.get z0 (by simp)).trans j0),hC.old (hC4.old z0),(hC.get (hC4.old z1) (s0 z1)).trans ((hC4.get z1 (by simp)).trans j1),hC.old (hC4.old z1),(hC.get (hC4.old z2) (s0 z2)).trans ((hC4.get z2 (by simp)).trans j2),hC.old (hC4.old z2)⟩
 rcases hW with ⟨w,c,M5,hc,hz,w1,w2,w3,rfl,hrp,hC5⟩|⟨w,c,M5,hc,hz,rfl,hC5⟩
 ·obtain ⟨x1,x2,x3,x4,x5,x6,x7,x8⟩:=keep M5 hC5
  have r5:a6 Tryz.prog S0 24 [.ptr (na M3 0) 0] M4 (.agg [w1,w2,w3]) M5:=⟨c,hc⟩
  have hlen:=hb.len
  rw[show (gi b).length=b.length by simp] at hlen
  refine RW.wp ?_
  change wp _ _ _ _ ⟨am [] T2,_,none,M4⟩ _
  simp (disch:=first|assumption|omega|(apply ai;omega)|(apply ae;assumption)|(simp only[ay]<;>omega)) only[go_sem,seval,t0,t1,t2,t3,t4,r5.wf,x3,x5,x7,hlen]
  rw[←hR]
  generalize hM6:hp _ _ M5=M6
  have hC6:Chg [na m 0,na m 1,na m 2] M5 M6:=by rw[←hM6];exact (pn _ _ _).weak fun i hi _=>by simp[aF] at hi ⊢;rcases hi with rfl|rfl|rfl<;>simp
  have hin:∀i∈ [na m 0,na m 1,na m 2],aw M4 i/\¬aw m i:=fun i hi=>by
   simp only[Q9,Q8,or_false] at hi
   rcases hi with rfl|rfl|rfl
   ·exact ⟨hC4.old z0,aD⟩
   ·exact ⟨hC4.old z1,aD⟩
   ·exact ⟨hC4.old z2,aD⟩
  have hrp6:RP M6 (eB M4) _ w1 w2 w3:=hrp.stays (aE.of hC6 fun i hi q=>hi (hin i q).1)
  have wk:∀i,eB M4 i->eB m i:=fun i hi q=>hi (c04.old q)
  have hrp7:RP M6 (eB m) _ w1 w2 w3:=⟨hrp6.c,fun i hi=>wk i (hrp6.cT i hi),let ⟨C,q⟩:=hrp6.t;⟨C,q.sl,fun i hi=>wk i (q.hT i hi),q.len,fun j x c a b=>by obtain ⟨vb,B,e,h⟩:=q.R j x c a b;exact ⟨vb,B,e,h.weak wk⟩⟩,let ⟨C,q⟩:=hrp6.r;⟨C,q.weak wk⟩⟩
  refine ⟨rfl,rfl,gq t2,gq t3,gq t4,(c05 hC5).trans hC6 fun i hi ho=>Q3 ho (hin i hi).2,⟨aD,aD,aD⟩,Or.inl ⟨Or.inr rfl,hz,w1,w2,w3, ?_,hrp7, ?_, ?_⟩⟩
  ·rw[←hM6];simp (disch:=first|assumption|omega|(apply ai;omega)|(apply ae;assumption)|(simp only[ay]<;>omega)) only[go_sem,seval]
  ·rw[←hM6];simp (disch:=first|assumption|omega|(apply ai;omega)|(apply ae;assumption)|(simp only[ay]<;>omega)) only[go_sem,seval]
  ·rw[←hM6];simp (disch:=first|assumption|omega|(apply ai;omega)|(apply ae;assumption)|(simp only[ay]<;>omega)) only[go_sem,seval]
 ·obtain ⟨x1,x2,x3,x4,x5,x6,x7,x8⟩:=keep M5 hC5
  have h1:af (.move (.tmp D4.e.a.b)) T2 M4= .val (.ptr (na M3 0) 0):=by
   change af _ (am [] T2) _=_
   simp (disch:=first|assumption|omega|(apply ai;omega)|(apply ae;assumption)|(simp only[ay]<;>omega)) only[go_sem,seval,t1]
  have h2:af (.call (C.F 24) [.tmp D4.e.a.a.b]) (am [(D4.e.a.a.b,.ptr (na M3 0) 0)] T2) M4= .call 24 [.ptr (na M3 0) 0]:=by (simp (disch:=first|assumption|omega|(apply ai;omega)|(apply ae;assumption)|(simp only[ay]<;>omega)) only[go_sem,seval])
  refine RW.pan (d1:=⟨am [(D4.e.a.a.b,.ptr (na M3 0) 0)] T2, [.call 22 [.ptr (na M2 0) 0,.ptr (na m 0) 0,.ptr (na m 1) 0,.ptr (na m 2) 0]],none,M5⟩) (dL.reg (fw.val rfl h1 (fw.callp rfl h2 hc))) ?_
  rw[←hR]
  have hu5:Sl M5 u 4 (L.map Tok.l):=(hu3.chg hC4 (by simp)).chg hC5 fun i hi=>s0 (hu3.old i hi)
  refine ⟨rfl,rfl,gq t2,gq t3,gq t4,c05 hC5,⟨aD,aD,aD⟩,Or.inr ⟨hz,u,rfl,x2,x1,x4,⟨_,_,_,x3⟩,x6,⟨_,x5⟩,x8,⟨_,x7⟩,hu5,fun i hi=> ?_⟩⟩
  exact ⟨fun q=>nu i hi (q▸a0),fun q=>nu i hi (q▸a1),fun q=>nu i hi (q▸a2)⟩
end
end FR
open Go Nm Go.Proofs
namespace FR
section
variable {m m' m0 M:NH} {b:List Nat} {v:NV}
theorem Co (hv:Sl m v 1 (gi b)) (hl:b.length<=1000000) (hb:∀c∈b,c<256):
 ∃w m',a6 Tryz.prog S0 8 [v] m w m'/\(∃vc vt vr,w= .tup [.agg [vc,vt,vr],ii (cC b).2.1,ii (cC b).2.2]/\(match (cC b).1 with|none=>vc= .nils/\vt= .nils/\vr= .nils/\(cC b).2.2≠0|some p=>RP m' (eB m) p vc vt vr/\(cC b).2.2=0))/\Chg [] m m':=by
 have early:∀(a e:Nat),(∀M,Sl M v 1 (gi b)->∃M2,a6 Tryz.prog S0 21 [v] M (.tup [.nils,ii a,ii e]) M2/\Chg [] M M2)->e≠0->cC b=(none,a,e)->_:=fun a e hT he hpe=>(show ∃w m',a6 Tryz.prog S0 8 [v] m w m'/\(∃vc vt vr,w= .tup [.agg [vc,vt,vr],ii (cC b).2.1,ii (cC b).2.2]/\(match (cC b).1 with|none=>vc= .nils/\vt= .nils/\vr= .nils/\(cC b).2.2≠0|some p=>RP m' (eB m) p vc vt vr/\(cC b).2.2=0))/\Chg [] m m' from by
  rw[hpe]
  refine WF.ex fun K hK=> ?_
  refine WF.of_wpG (fun _=>rfl) rz (L:= [(.e,v)]) rfl ?_
  unfold Od
  generalize hM1:hp [(.n 2,.cells true [.int .i64 (.lit 0)]),(.n 1,.cells true [.int .i64 (.lit 0)]),(.n 0,.cells true [.nils,.nils,.nils])] 3 m=M1
  have hC1:Chg [] m M1:=bf hM1 rfl
  obtain ⟨M2,r2,hC2⟩:=hT M1 (hv.chg hC1 (by simp))
  have a0:aw M1 (na m 0):=bB hM1 (by omega)
  have a1:aw M1 (na m 1):=bB hM1 (by omega)
  have a2:aw M1 (na m 2):=bB hM1 (by omega)
  have b0:=hC2.old a0
  have b1:=hC2.old a1
  have b2:=hC2.old a2
  have g0:M2.get (na m 0)=some (.cells true [.nils,.nils,.nils]):=(hC2.get a0 (by simp)).trans (bu hM1)
  have g1:M2.get (na m 1)=some (.cells true [.int .i64 (.lit 0)]):=(hC2.get a1 (by simp)).trans (bu hM1)
  have g2:M2.get (na m 2)=some (.cells true [.int .i64 (.lit 0)]):=(hC2.get a2 (by simp)).trans (bu hM1)
  have n01:na m 0≠na m 1:=by simp[iT]
  have n02:na m 0≠na m 2:=by simp[iT]
  have n12:na m 1≠na m 2:=by simp[iT]
  have n10:=n01.symm
  have n20:=n02.symm
  have n21:=n12.symm
  have he':decide ((e:Int)=0)=false:=Q6 (by omega)
  have he2:decide ((e:Int)≠0)=true:=Q7 (by omega)
  simp (disch:=first|assumption|omega|(apply ai;omega)|(apply ae;assumption)|(simp only[ay]<;>omega)) only[go_sem,seval,hM1,r2.wf,g0,g1,g2,he',he2]
  refine hK _ _ ⟨⟨.nils,.nils,.nils,rfl,rfl,rfl,rfl,he⟩,(hC1.trans hC2 (by simp)).trans (aH rfl) fun i hi ho=> ?_⟩
  simp[aF] at hi
  rcases hi with rfl|rfl|rfl|rfl|rfl<;>exact Q3 ho aD)
 by_cases h16:16384<b.length
 ·refine early 0 3 (fun M hM=> ?_) (by omega) (Q5 h16)
  obtain ⟨w,M2,r2,hw,hC2⟩:=pQ M hM hl hb
  rw[Q5 h16] at hw
  exact ⟨M2,hw▸r2,hC2⟩
 cases ht:(bn b).2 with
 |some a=>
  refine early a 2 (fun M hM=> ?_) (by omega) (by unfold cC;rw[Q4 h16,ht])
  obtain ⟨w,M2,r2,hw,hC2⟩:=pQ M hM hl hb
  rw[Q4 h16,ht] at hw
  have hw:w= .tup [.nils,ii a,ii 2]:=hw
  exact ⟨M2,hw▸r2,hC2⟩
 |none=>
  clear early
  obtain ⟨hok,hne⟩:=A0 ht
  have hat:=FO _ _ hok
  have hlen:=(zh _ _ hok).resolve_left hne
  have hpos:0<(bn b).1.length:=List.length_pos_iff.2 hne
  have hlast:=uR _ _ _ hok
  obtain ⟨bl,bp,ba,be,⟨n1,n2,n3,n4,n5,n6⟩,o,d,hrun,hE⟩:=FY (L:=(bn b).1) hv (by omega) hpos (fun i x hx=>(hat i x hx).1) (fun i x hx c hc=>hb c ((hat i x hx).2.2 c hc)) fun M hM=>by
   obtain ⟨w,M2,r2,hw,hC2⟩:=pQ M hM (by omega) hb
   rw[Q4 (by omega),ht] at hw
   obtain ⟨u,rfl,ho⟩:=hw
   exact ⟨u,M2,r2,ho,hC2⟩
  have hpr:cC b=if (aW (bn b).1 ((bn b).1.length+1) ⟨[], [], [],false⟩ ⟨0,0,0⟩).2.e≠0 then (none,(av (bn b).1 (aW (bn b).1 ((bn b).1.length+1) ⟨[], [], [],false⟩ ⟨0,0,0⟩).2.b).p,(aW (bn b).1 ((bn b).1.length+1) ⟨[], [], [],false⟩ ⟨0,0,0⟩).2.e)
   else (some ⟨(aW (bn b).1 ((bn b).1.length+1) ⟨[], [], [],false⟩ ⟨0,0,0⟩).1.cs,(aW (bn b).1 ((bn b).1.length+1) ⟨[], [], [],false⟩ ⟨0,0,0⟩).1.ts,(aW (bn b).1 ((bn b).1.length+1) ⟨[], [], [],false⟩ ⟨0,0,0⟩).1.rc⟩,b.length,0):=by
   unfold cC;rw[Q4 h16,ht]
  have hst:=tz (L:=(bn b).1) ((bn b).1.length+1) ⟨[], [], [],false⟩ ⟨0,0,0⟩
  have hlim:=hst.lim2 hlast (Nat.zero_le _) (Nat.zero_le _)
  clear hst hlast
  generalize (aW (bn b).1 ((bn b).1.length+1) ⟨[], [], [],false⟩ ⟨0,0,0⟩).1=X at hE hpr
  generalize (aW (bn b).1 ((bn b).1.length+1) ⟨[], [], [],false⟩ ⟨0,0,0⟩).2=Z at hE hpr hlim
  rw[hpr]
  obtain ⟨e1,e2,t1,t2,t3,hC,⟨nb1,nb2,nb3⟩,⟨ho,hz,p1,p2,p3,g1,hrp,g2,g3⟩|⟨hz,u,rfl,o1,g1,o2,⟨w1,w2,w3,g2⟩,o3,⟨w4,g3⟩,o4,⟨w5,g4⟩,hu,hd⟩⟩:=hE
  ·rw[Q4 (by omega)]
   obtain ⟨o2,d2,h2,ho2,hd2,hc2,hh⟩:=El (M:=d.h) (bl:=bl) (bp:=bp) (ba:=ba) (be:=be)
   have hrd:qf (am [] d.t) d2.h [.cellN D4.e.b 3,.cell1 D4.e.c,.cell1 D4.e.f] (fun l=>l= [.agg [p1,p2,p3],ii b.length,ii 0]):=by
    rw[hh]
    simp (disch:=first|assumption|omega|(apply ai;omega)|(apply ae;assumption)|(simp only[ay]<;>omega)) only[go_sem,seval,t1,t2,t3,g1,g2,g3]
   obtain ⟨l,q1,q2⟩:=pr _ _ (fun l=>CR.val (iC l) d.ctx d2.h) hrd
   subst q2
   refine ⟨_,d2.h,⟨_,Call.of_dfr (fun _ _=>rfl) rz hrun e1 (Or.inl ⟨rfl,ho⟩) sx h2 ho2 hd2 hc2 rfl q1⟩,⟨p1,p2,p3,rfl, ?_,rfl⟩, ?_⟩
   ·rw[hh];exact hrp
   ·rw[hh];exact hC
  ·rw[Q5 hz]
   have hzb:Z.b<(bn b).1.length:=by omega
   have hx:=List.getElem?_eq_getElem hzb
   have en:av (bn b).1 Z.b=(bn b).1[Z.b]:=by rw[av,hx];rfl
   rw[en]
   obtain ⟨o2',d2,h2,ho2,hd2,hc2,k1,k2,k3,hCd⟩:=FE (M:=d.h) (L:=(bn b).1) (e:=Z.e) (a:=Z.b) o1 g1 o2 g2 o3 g3 o4 g4 hu hzb (by omega) hx n1 n2 n3 n4 n5 n6 hd
   have hrd:qf (am [] d.t) d2.h [.cellN D4.e.b 3,.cell1 D4.e.c,.cell1 D4.e.f] (fun l=>l= [.agg [.nils,.nils,.nils],ii (bn b).1[Z.b].p,ii Z.e]):=by
    simp (disch:=first|assumption|omega|(apply ai;omega)|(apply ae;assumption)|(simp only[ay]<;>omega)) only[go_sem,seval,t1,t2,t3,k1,k2,k3]
   obtain ⟨l,q1,q2⟩:=pr _ _ (fun l=>CR.val (iC l) d.ctx d2.h) hrd
   subst q2
   refine ⟨_,d2.h,⟨_,Call.of_dfr (fun _ _=>rfl) rz hrun e1 (Or.inr ⟨_,rfl,rfl⟩) sx h2 ho2 hd2 hc2 rfl q1⟩,⟨.nils,.nils,.nils,rfl,rfl,rfl,rfl,hz⟩,hC.trans hCd fun i hi ho=> ?_⟩
   simp only[Q9,Q8,or_false] at hi
   rcases hi with rfl|rfl|rfl
   ·exact Q3 ho nb1
   ·exact Q3 ho nb2
   ·exact Q3 ho nb3
end
end FR
open Go Nm Go.Proofs
namespace FR
theorem PX {n:Int} (h:(Lit.int .u8 n).wf=true):0<=n/\n<256:=by
 have h1:IntKind.u8.min=0:=rfl
 have h2:IntKind.u8.max=255:=rfl
 simp only[Lit.wf,Bool.and_eq_true,decide_eq_true_eq,h1,h2] at h
 omega
set_option maxRecDepth 100000 in
theorem Dt {m:NH} {l:List NV} (h:Ty Tryz.prog m 22 l):∃v b,l= [v]/\Sl m v 1 (gi b)/\∀x∈b,x<256:=by
 obtain ⟨v,C,rfl,hS,hm,hall⟩:=h.inv_slc Tryz.underlying22
 have key:∀C:List (List NV),(∀c∈C,Ty Tryz.prog m 5 c)->∃b:List Nat,C=gi b/\∀x∈b,x<256:=by
  intro C
  induction C with
  |nil=>intro _;exact ⟨[],rfl,by simp⟩
  |cons c C ih=>
   intro h
   obtain ⟨n,rfl,hw⟩:=(h c (List.mem_cons_self ..)).inv_int Tryz.underlying5
   obtain ⟨l,rfl,g⟩:=ih fun x hx=>h x (List.mem_cons_of_mem _ hx)
   have hn:=PX hw
   obtain ⟨k,rfl⟩:=Rb hn.1
   exact ⟨k::l,rfl,by intro x hx;rcases List.mem_cons.mp hx with rfl|hx;omega;exact g x hx⟩
 obtain ⟨b,rfl,hf⟩:=key C hall
 exact ⟨v,b,rfl,hS,hf⟩
theorem H1 {l:List Nat} {x:Nat} (h:x∈l):x<=l.sum:=by
 induction l with
 |nil=>simp at h
 |cons a l ih=>
  rw[List.sum_cons]
  rcases List.mem_cons.mp h with rfl|h
  ·omega
  ·have:=ih h;omega
theorem Ms {m:NH} {s:List Nat} (h:s.length<=1099511627776):∃v m',GC m (.str s)= .mem v m'/\Sl m' v 1 (gi s)/\Chg [] m m':=by
 refine ⟨_,_,IP h, ?_,Chg.add m _⟩
 have hl:(gi s).flatten.length=(gi s).length*1:=Nm.b7 fun y hy=>by
  obtain ⟨c,-,rfl⟩:=List.mem_map.1 hy;rfl
 have hb:(gi s).length=s.length:=List.length_map _
 refine ⟨fun y hy=>by obtain ⟨c,-,rfl⟩:=List.mem_map.1 hy;rfl,Or.inr ⟨m.next,0,s.length,false,_,by rw[hb],NH.get_add_same m _,bh m _,by rw[hl];omega,by rw[List.drop_zero,←hl,List.take_length]⟩⟩
theorem Ol (m:NH) (e:Int):a6 Tryz.prog S0 9 [ii e] m (ii e) m:=by
 have h:∃w m',a6 Tryz.prog S0 9 [ii e] m w m'/\w=ii e/\m'=m:=by
  refine WF.ex fun K' hK'=> ?_
  refine WF.of_wpG (fun _=>rfl) Fz (L:= [(.e,ii e)]) rfl ?_
  unfold QL
  simp (config:={maxSteps:=1000000}) (disch:=first|assumption|omega|(apply ai;omega)|(apply ae;assumption)|(simp only[ay]<;>omega)) only[go_sem,seval]
  exact hK' _ _ ⟨rfl,by first|rfl|exact ab _⟩
 obtain ⟨w,m',h,rfl,rfl⟩:=h
 exact h
set_option maxHeartbeats 4000000 in
theorem sL (m:NH) (l:List NV) (hb:Tb m) (h:TyA Tryz.prog m [22] l):∃m',a6 Tryz.prog S0 3 l m (.bool true) m':=by
 obtain ⟨x,r,rfl,h1,h⟩:=h.inv1 (by intro fs q;rw[Tryz.underlying22] at q;simp at q)
 obtain rfl:=h.inv0
 obtain ⟨v,b,hx,hv,hbb⟩:=Dt h1
 have hxv:v=x:=by simpa using hx.symm
 subst hxv
 have hal:∀m,a6 Tryz.prog S0 4 [] m (.bool true) m:=fun m=>a6.kept rfl m
 have h:∃v' m',a6 Tryz.prog S0 3 [v] m v' m'/\v'= .bool true:=by
  refine WF.ex fun K hK=> ?_
  refine WF.of_wpG (fun _=>rfl) wT (L:= [(.e,v)]) rfl ?_
  unfold Qa
  have hv':Sl (hp [] 0 m) v 1 (gi b):=by rw[ab];exact hv
  obtain ⟨w,M1,hr1,⟨vc,vt,vr,rfl,hpp⟩,hC1⟩:=CH hv' hbb
  rw[ab] at hC1
  have hlen:=(hv.chg hC1 fun _ _=>by simp).len
  rw[show (gi b).length=b.length by simp] at hlen
  cases hprog:(cC b).1 with
  |none=>
   rw[hprog] at hpp
   obtain ⟨rfl,rfl,rfl,he⟩:=hpp
   have he':((cC b).2.2:Int)≠0:=by omega
   simp (config:={maxSteps:=1000000}) (disch:=first|assumption|omega|(apply ai;omega)|(apply ae;assumption)|(simp only[ay]<;>omega)) only[go_sem,seval,(hal _).wf',hr1.wf,he']
   exact hK _ _ rfl
  |some p=>
   rw[hprog] at hpp
   obtain ⟨hpp,he,hs1,hs2⟩:=hpp
   obtain ⟨CT0,hT0⟩:=hpp.t
   obtain ⟨CR0,hR0⟩:=hpp.r
   by_cases hlb:1500<b.length
   ·simp (config:={maxSteps:=1000000}) (disch:=first|assumption|omega|(apply ai;omega)|(apply ae;assumption)|(simp only[ay]<;>omega)) only[go_sem,seval,(hal _).wf',hr1.wf,he,hlen,hpp.c.one,hT0.sl.one,hR0.sl.one]
    exact hK _ _ rfl
   obtain ⟨hg,-⟩:=zl (b:=b) (p:=p) (a:=(cC b).2.1) (e:=(cC b).2.2) (by rw[←hprog])
   have hsz:=KE hg (N:=b.length+2) hs1 (by omega)
   have hz:∀t∈p.ts,fF t.2<=1000000000:=fun t ht=>by
    have:=H1 (List.mem_map_of_mem (f:=fun t:List Nat×List Stm=>fF t.2) ht)
    omega
   simp (config:={maxSteps:=1000000}) (disch:=first|assumption|omega|(apply ai;omega)|(apply ae;assumption)|(simp only[ay]<;>omega)) only[go_sem,seval,(hal _).wf',hr1.wf,he,hlen,hpp.c.one,hT0.sl.one,hR0.sl.one]
   generalize hM2:hp _ 1 M1=M2
   have hC2:Chg [] M1 M2:=bf hM2 rfl
   have g2:M2.get (na M1 0)=some (.cells true [vc,vt,vr]):=bu hM2
   have o2:aw M2 (na M1 0):=bB hM2 (by omega)
   have hp2:=hpp.stays (iM hC2 _)
   have hb2:=(hb.chg hC1).chg hC2
   obtain ⟨M3,r3,hC3⟩:=qX hg (by omega) hb2 hp2
   have g3:=(hC3.get o2 (by simp)).trans g2
   have o3:=hC3.old o2
   have hp3:=hp2.stays (iM hC3 _)
   obtain ⟨M4,r4,hC4⟩:=Hj hg (by omega) hp3 (iM (Chg.refl M3) _)
   have g4:=(hC4.get o3 (by simp)).trans g3
   have o4:=hC4.old o3
   have hp4:=hp3.stays (iM hC4 _)
   have hb4:=(hb2.chg hC3).chg hC4
   have hss:decide (jh p≠jh p)=false:=Q6 (by simp)
   by_cases hlong:16384<(jh p).length
   ·simp (config:={maxSteps:=1000000}) (disch:=first|assumption|omega|(apply ai;omega)|(apply ae;assumption)|(simp only[ay]<;>omega)) only[go_sem,seval,r3.wf',g3,r4.wf',hss]
    exact hK _ _ rfl
   obtain ⟨q,hq,hqe⟩:=B8 hg (by omega)
   have hgq:GP q:=(zl hq).1
   have hqs:=F5 hqe
   obtain ⟨v5,M5,q5,s5,hC5⟩:=Ms (m:=M4) (s:=jh p) (by omega)
   obtain ⟨w6,M6,r6,⟨uc,ut,ur,e6,hpq⟩,hC6⟩:=Co s5 (by omega) (N3 hg)
   rw[hq] at e6 hpq
   subst e6
   dsimp only at hpq r6
   obtain ⟨hpq,-⟩:=hpq
   have hC56:=hC5.trans hC6 (by simp)
   have g6:=(hC56.get o4 (by simp)).trans g4
   have o6:=hC56.old o4
   have hp6:=hp4.stays (iM hC56 _)
   have hb6:=hb4.chg hC56
   obtain ⟨DT0,dT0⟩:=hpq.t
   obtain ⟨DR0,dR0⟩:=hpq.r
   simp (config:={maxSteps:=1000000}) (disch:=first|assumption|omega|(apply ai;omega)|(apply ae;assumption)|(simp only[ay]<;>omega)) only[go_sem,seval,r3.wf',g3,r4.wf',hss,q5,r6.wf,hpq.c.one,dT0.sl.one,dR0.sl.one,(Ol _ _).wf',g6]
   generalize hM7:hp _ 1 M6=M7
   have hC7:Chg [] M6 M7:=bf hM7 rfl
   have g7:M7.get (na M1 0)=some (.cells true [vc,vt,vr]):=(hC7.get o6 (by simp)).trans g6
   have k7:M7.get (na M6 0)=some (.cells true [uc,ut,ur]):=bu hM7
   have j7:aw M7 (na M6 0):=bB hM7 (by omega)
   have hp7:=hp6.stays (iM hC7 _)
   have hq7:=hpq.stays (iM hC7 _)
   have hb7:=hb6.chg hC7
   obtain ⟨M8,r8,hC8⟩:=IX hg hqe hp7 (iM (Chg.refl M7) _) hq7 (iM (Chg.refl M7) _) hz (by omega) (by omega) (by omega)
   have k8:=(hC8.get j7 (by simp)).trans k7
   have hq8:=hq7.stays (iM hC8 _)
   have hb8:=hb7.chg hC8
   obtain ⟨M9,r9,hC9⟩:=qX hgq (by rw[hqs];omega) hb8 hq8
   rw[hqs] at r9
   simp (config:={maxSteps:=1000000}) (disch:=first|assumption|omega|(apply ai;omega)|(apply ae;assumption)|(simp only[ay]<;>omega)) only[go_sem,seval,r8.wf',k8,r9.wf']
   exact hK _ _ rfl
 obtain ⟨v',m',h,rfl⟩:=h
 exact ⟨m',h⟩
end FR
open Go Nm Go.Proofs Go.RowKit Go.Shelf Go.ChangeShapes
open Go.Proofs.YtjmhciggnonhfaaGreatDoor
namespace FR
noncomputable def M1:NH:=G0.put (D4.of 0) (.cells false pN)
theorem Ht:Tryz.prog.globalNamed "internal/strconv.uint64pow10" =some 0:=by kernel_rfl
theorem IC:Tryz.prog.globalNamed "math/bits.deBruijn64tab" =some 3:=by kernel_rfl
theorem QA:(Tryz.prog.globals[0]?).map (·.type)=some 144:=by kernel_rfl
theorem Pz:Tryz.prog.cellsOf 144=20:=by kernel_rfl
theorem Q2:Tryz.prog.cellsOf 39=1:=by kernel_rfl
theorem HJ:(Rows.laid_internal_strconv_uint64pow10:DataW Unit)=Lib.tabData .u64 Lib.pow10Tab:=by rfl
theorem mixed:Tryz.prog.follows .mixedOrders=true:=by kernel_rfl
theorem kept:uo code S1 200000 4 [] (.bool true)=true:=by kernel_rfl
theorem OA:Al Tryz.prog [22,5]=true:=by kernel_rfl
theorem DX (ρ:Ren) (h72:ρ.t 72=55) (h5:ρ.t 5=5):Builder.Extra Tryz.prog ρ where
 sizeBuilder:=by rw[h72];kernel_rfl
 liesBuilder:=by rw[h72];kernel_rfl
 t5:=by rw[h5];exact Tryz.underlying5
 a5:=by rw[h5];exact Tryz.isAgg5
 z5:=by rw[h5];exact Tryz.sizeOf5
 v5:=by rw[h5];exact Tryz.zeroValue5
 infoByte:=by rw[h5];kernel_rfl
 cellsByte:=by rw[h5];kernel_rfl
 sizeByte:=by rw[h5];kernel_rfl
 neB5:=by rw[h72,h5];decide
set_option maxRecDepth 100000 in
theorem QX:gO Tryz.prog S1:=
 kY (kY (kY (kY (kY Gc (Ll (g:=0) (by decide) rfl Ht))
  (HZ (L:=Tryz.laysM171) rfl (g:=0) (by decide) rfl Ht))
  (LH Tryz.lays105 (DX _ rfl rfl)))
  (Kz (T:=57) Tryz.lays169 (DX _ rfl rfl) (by kernel_rfl) (by kernel_rfl) (enters_of Tryz.func18 (by kernel_rfl) rfl)))
  (ON (T:=57) {Tryz.lays105 with} (DX _ rfl rfl) ⟨by kernel_rfl,by decide⟩ (by kernel_rfl) (by kernel_rfl) (enters_of Tryz.func35 (by kernel_rfl) rfl))
theorem Ov:gO Tryz.prog S0:=GR mixed Tryz.codeOk QX (GI.kept kept)
theorem Fm {W:World} {cs:Array Value} {fuel:Nat} {p:List MemPlace} (hv:W.var? Tryz.prog "internal/strconv.uint64pow10" =some cs)
 (hd:DataW.trod (fun _=>()) Tryz.prog W 0 (fun _=>true) false fuel 144 cs.toList=some (Rows.laid_internal_strconv_uint64pow10,p)) {ι:aU} {m:NH} (h:Ro Tryz.prog W ι m):Ro Tryz.prog W ι (m.put (D4.of 0) (.cells false pN)):=by
 rw[HJ] at hd
 have hc:=Lib.cells_of_tab Tryz.underlying144 Tryz.underlying39 Q2 Pz hd
 unfold World.var? at hv
 rw[Ht] at hv
 simp only[Option.bind_some] at hv
 split at hv
 ·rename_i cur T fz hb
  cases hv
  refine h.lay (g:=0) (by decide) hb (by rw[←Array.length_toList,hc];simp[Lib.pow10Tab_length];rfl) ?_ ?_
  ·rw[hc,rm]
   generalize Lib.pow10Tab=zs
   induction zs with
   |nil=>exact .nil
   |cons z zs ih=>exact .cons _ _ _ _ (.int _ _) ih
  ·rw[hc]
   intro v hv
   obtain ⟨z,_,rfl⟩:=List.mem_map.1 hv
   rfl
 ·cases hv
theorem Kw {W:World} (hL:laidMetH Tryz.prog Rows.showProgramsRow.laid W):(∃ι,Ro Tryz.prog W ι M1)/\∃(b:Nat) (cur:Array Value) (T:TypeId) (fz:Nat×Nat),W.heap[b]? =some (.cells cur T fz):=by
 rw[MakeChecks.laidMetH_plain _ _ _ (by kernel_rfl)] at hL
 obtain ⟨ps,⟨g0,t0,cs0,f0,p0,q0,_,_,_,_,⟨g1,t1,cs1,f1,p1,q1,hg1,_,hv1,_,⟨g2,t2,cs2,f2,p2,q2,hg2,ht2,hv2,hd2,_,_⟩,_⟩,_⟩,_,_⟩:=hL
 obtain rfl:=Option.some.inj (Ht.symm.trans hg2)
 obtain rfl:=Option.some.inj (QA.symm.trans ht2)
 have hn:NG<=W.heap.size/\∃(b:Nat) (cur:Array Value) (T:TypeId) (fz:Nat×Nat),W.heap[b]? =some (.cells cur T fz):=by
  unfold World.var? at hv1
  obtain rfl:=Option.some.inj (IC.symm.trans hg1)
  rw[IC] at hv1
  simp only[Option.bind_some] at hv1
  split at hv1
  ·rename_i hb;exact ⟨(Array.getElem?_eq_some_iff.1 hb).1,_,_,_,_,hb⟩
  ·cases hv1
 exact ⟨⟨_,Fm hv2 hd2 (Ro.nil Tryz.prog W hn.1)⟩,hn.2⟩
theorem Mm {m:NH} (h:Chg [] M1 m):Tb m:=by
 have hb:Tb M1:=⟨by kernel_rfl,by show (D4.of 0).toNat<(D4.of 4).toNat;decide⟩
 exact hb.chg h
set_option maxRecDepth 100000 in
theorem showProgramsC {W:World} (hL:laidMetH Tryz.prog Rows.showProgramsRow.laid W) (hs:W.ShapedOpen Tryz.prog) {H:Type} {enc:TypeId×Value->H} {args:List Value} {ds:List (DataW H)} {ps:List MemPlace}
 (h:DataW.TrodAll enc Tryz.prog W 0 (fun _=>true) true [22] args ds ps) {base:Nat} (hval:∀(j:Nat) t v, [22][j]? =some t->args[j]? =some v->Value.okWide Tryz.prog W .any base t v):
 Calls Tryz.prog 3 args.toArray W fun e W'=>e= .returned (.bool true)/\Below W.heap.size W W':=by
 obtain ⟨⟨ι,hR⟩,hne⟩:=Kw hL
 exact xz mixed Tryz.codeOk Ov OA wT (fun _=>rfl) (by decide) (fun m l hC hT=>sL m l (Mm hC) hT) hR hne h hval
end FR
