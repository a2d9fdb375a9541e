/- WholeSparing on the given program: part 4. -/
import Derived.Test.YtmgpgdahniehnaaGreatWsC
set_option linter.unusedSimpArgs false
set_option linter.unusedVariables false
set_option linter.unusedSectionVars false
set_option linter.defProp false
open Go Nm Go.Proofs
namespace FR
variable {m m' m0 M mc:NH} {s w b:List Nat} {a k d e f n:Nat} {v vc vs u:NV} {c cap:List NV} {T:D4->Prop} {t:Tm} {p:Nat->Bool} {x:Ex} {r mo oc q o:D4} {X:Ms} {C:List (List NV)} {S:List D4} {Z ns:List (List Nat)} {d1:Dyn} {R Q:Out->Dyn->Prop} {lo:Int} {dfs:List Dfr} {ctx:Option NV}
def HK (cs:List (List Nat×Int)) (z:Int):Int:=if 0<=z then ((cs[z.toNat]?).map (·.2)).getD 1 else 1
def Uv (i mk ba:Int) (X:Ms):Int×Ms:=
 let X2:=cR mk X
 let X3:=En 38 i X.v X2
 let X4:=cR 8 X3
 let X5:=En 42 X2.v X3.v X4
 let X6:=cR ba X5
 (X6.v,En 43 X4.v X5.v X6)
def cC (cs:List (List Nat×Int)) (ns:List (List Nat)) (s:Stm) (X:Ms):Int×Ms:=
 Uv (s.i.lw ns X).1 ((HK cs (gH (cs.map (·.1)) s.ce) - 1) % 18446744073709551616) (atC cs (gH (cs.map (·.1)) s.ce) % 18446744073709551616) (s.i.lw ns X).2
def lN (cs:List (List Nat×Int)) (s:Stm):Int:=max 0 (gH (cs.map (·.1)) s.ce)
theorem QS {i sz a:Int} (h:X.ok (k+6)):(Uv i sz a X).2.ok k:=
 tJ (gv (tJ (gv (tJ (gv h _) _ _ _) _) _ _ _) _) _ _ _
theorem mF {cs:List (List Nat×Int)} {s:Stm} (h:X.ok (k+6+s.i.sz)):(cC cs ns s X).2.ok k:=QS (eB _ h)
theorem JZ (z:Int):yY .u64 (.int .i64 (.lit z))= .val (iu (z % 18446744073709551616)):=Fh
theorem J8  {B:NH} {s:Stm} {w:SV} {vn:NV} {cs:List (List Nat×Int)} (hR:RE B T s.i (s.i.l w.vi)) (hc:Sl B vc 2 (jx cs)) (hcz:cs.length<=1000000) (hn:Sl B vn 1 (db ns)) (hsz:ns.length<=1000000) (h:MK B m r vc vn lo vs X) (hk:X.ok (k+6+s.i.sz)) (hzb:∀(n:Nat) (z:Int) {h:n<cs.length},cs[n].2=z->-9223372036854775808<=z - 1/\z - 1<9223372036854775808):
 ∃m',rT 322 [.ptr r 0,.agg (s.l w)] m (.tup [ii (cC cs ns s X).1,ii (lN cs s)]) m'/\∃vs',MK B m' r vc vn lo vs' (cC cs ns s X).2/\Ev r vs vs' m m':=by
 refine WF.ex1 λK hK=> ?_
 refine WF.of_wpG (λ_=>rfl) zo (L:= [(.a .e,.agg (s.l w)),(.e,.ptr r 0)]) rfl ?_
 unfold Pb
 generalize hM1:hp [(.n 0,.cells true (s.l w))] 1 m=M1
 have hC1:Chg [] m M1:=az hM1 rfl
 have hg1:M1.get (na m 0)=some (.cells true (s.l w)):=aI hM1
 have ho1:ap M1 (na m 0):=aL hM1 (by omega)
 have k1:=h.grow hC1
 obtain⟨nr1,ns1⟩:=h.new 0
 obtain⟨M2,hf,hC2⟩:∃M2,rT 355 [vc,.str s.ce] M1 (ii (gH (cs.map (·.1)) s.ce)) M2/\Chg [] M1 M2:=XG (hc.chg k1.c λ_ _=>by simp) hcz s.ce
 have hg2:=(hC2.get ho1 (by simp)).trans hg1
 have ho2:=hC2.old ho1
 have k2:=k1.grow hC2
 have g1:=k1.g
 have g2:=k2.g
 have hcs:=hc.same (n:=3)
 have hsl:(s.l w).length=21:=rfl
 have lt:=TL (l:=cs.map (·.1)) (x:=s.ce)
 rw[aa0] at lt
 unfold cC lN at hK
 generalize gH (cs.map (·.1)) s.ce=ce at hf lt hK
 generalize hsize:HK cs ce=sz at hK
 generalize hmk:(sz - 1) % 18446744073709551616=mk at hK
 generalize hba:atC cs ce % 18446744073709551616=ba at hK
 obtain⟨m3,r3,v3,k3,e3⟩:=ij s.i hR hn hsz k2 (k:=k+6) hk
 have ok3:=eB s.i (ns:=ns) (X:=X) (k:=k+6) hk
 generalize hlw:s.i.lw ns X=q at r3 k3 ok3 hK
 obtain⟨iv,X3⟩:=q
 dsimp only at r3 k3 ok3 hK
 obtain⟨m4,r4,v4,k4,e4⟩:=pn k3 mk (k:=k+5) ok3
 have ok4:=gv ok3 mk
 obtain⟨m5,r5,v5,k5,e5⟩:=H4 k4 38 iv X3.v (k:=k+4) ok4
 have ok5:=tJ ok4 38 iv X3.v
 obtain⟨m6,r6,v6,k6,e6⟩:=pn k5 8 (k:=k+3) ok5
 have ok6:=gv ok5 8
 obtain⟨m7,r7,v7,k7,e7⟩:=H4 k6 42 (cR mk X3).v (En 38 iv X3.v (cR mk X3)).v (k:=k+2) ok6
 have ok7:=tJ ok6 42 (cR mk X3).v (En 38 iv X3.v (cR mk X3)).v
 have g7:=k7.g
 obtain⟨m8,r8,hC8⟩:=ack (hc.chg k7.c λ_ _=>by simp) hcz ce
 have k8:=k7.grow hC8
 have g8:=k8.g
 obtain⟨m9,r9,v9,k9,e9⟩:=pn k8 ba (k:=k+1) ok7
 have ok9:=gv ok7 ba
 obtain⟨m0,r0,v0,k0,e0⟩:=H4 k9 43 (cR 8 (En 38 iv X3.v (cR mk X3))).v (En 42 (cR mk X3).v (En 38 iv X3.v (cR mk X3)).v (cR 8 (En 38 iv X3.v (cR mk X3)))).v (k:=k) ok9
 have hE:Ev r vs v0 m m0:=Ev.pre (hC1.tr hC2) (e3.trans (e4.trans (e5.trans (e6.trans (e7.trans (Ev.pre hC8 (e9.trans e0)))))))
 by_cases hce:ce<0
 ·have hs1:sz=1:=by rw[←hsize];unfold HK;rw[adE (by omega)]
  subst hs1
  obtain rfl:mk=0:=by rw[←hmk];rfl
  have hm:max 0 ce=0:=by omega
  rw[hm] at hK
  simp (disch:=omega) only[go_sem,seval,hM1,hg1,g1,hf.wf',hg2,g2,hcs,r3.wf',r4.wf',r5.wf',r6.wf',r7.wf',g7,r8.wf',r9.wf',r0.wf',JZ,hm,hba]
  exact hK _ ⟨v0,k0,hE⟩
 ·obtain⟨n,rfl⟩:=adL (by omega:0<=ce)
  have hnl:n<cs.length:=by omega
  obtain⟨id,off,wr,c,a1,a2,a3,a4,a5⟩:=hc.at n (by simpa using hnl)
  rw[aa4] at a5
  have c1:c[off+1]? =some (ii cs[n].2):=bm a5 1 (by omega)
  have hs1:cs[n].2=sz:=by rw[←hsize];unfold HK;rw[adF (by omega),ac8,List.getElem?_eq_getElem hnl];rfl
  rw[hs1] at c1
  have a2':=(k2.c.get a3 (by simp)).trans a2
  have hm:max 0 (n:Int)=n:=by omega
  rw[hm] at hK
  obtain⟨hz1,hz2⟩:-9223372036854775808<=sz - 1/\sz - 1<9223372036854775808:=hzb _ _ hs1
  simp (disch:=omega) only[go_sem,seval,hM1,hg1,g1,hf.wf',hg2,g2,hcs,a1,a2',c1,r3.wf',r4.wf',r5.wf',r6.wf',r7.wf',g7,r8.wf',r9.wf',r0.wf',JZ,hm,hmk,hba]
  exact hK _ ⟨v0,k0,hE⟩
def j8 (n:Int) (X:Ms):Ms:=⟨X.st,X.v,X.lb+n⟩
def bi (k a t:Int):Sp:=⟨k,0,a,0,0,t,0,0,0⟩
mutual
def Stm.lw (cs:List (List Nat×Int)) (ns:List (List Nat)):Stm->Ms->Ms
 | .mk k a nm ce i x y b e,X=>
  if k=0 then bR ⟨1,mT ns nm,(x.lw ns X).1,0,0,0,0,0,0⟩ (x.lw ns X).2
  else if k=1 then bR ⟨3,mT ns nm,(cC cs ns (.mk k a nm ce i x y b e) X).1,0,0,0,lN cs (.mk k a nm ce i x y b e),0,0⟩ (cC cs ns (.mk k a nm ce i x y b e) X).2
  else if k=2 then bR ⟨4,0,(cC cs ns (.mk k a nm ce i x y b e) X).1,(x.lw ns (cC cs ns (.mk k a nm ce i x y b e) X).2).1,0,0,lN cs (.mk k a nm ce i x y b e),0,0⟩ (x.lw ns (cC cs ns (.mk k a nm ce i x y b e) X).2).2
  else if k=3 then bR ⟨5,mT ns nm,(cC cs ns (.mk k a nm ce i x y b e) X).1,(x.lw ns (cC cs ns (.mk k a nm ce i x y b e) X).2).1,(y.lw ns (x.lw ns (cC cs ns (.mk k a nm ce i x y b e) X).2).2).1,0,lN cs (.mk k a nm ce i x y b e),0,0⟩ (y.lw ns (x.lw ns (cC cs ns (.mk k a nm ce i x y b e) X).2).2).2
  else if k=4 then bR (bi 13 0 0) X
  else if k=5 then bR (bi 8 (x.lw ns X).1 0) (x.lw ns X).2
  else if k=6 then bR (bi 9 0 (X.lb+1)) (pu cs ns e (bR (bi 9 0 X.lb) (bR (bi 10 0 (X.lb+1)) (pu cs ns b (bR (bi 11 (x.lw ns (j8 2 X)).1 X.lb) (x.lw ns (j8 2 X)).2)))))
  else if k=7 then bR (bi 9 0 (X.lb+1)) (bR (bi 10 0 X.lb) (pu cs ns b (bR (bi 11 (x.lw ns (bR (bi 9 0 X.lb) (j8 2 X))).1 (X.lb+1)) (x.lw ns (bR (bi 9 0 X.lb) (j8 2 X))).2)))
  else X
def pu (cs:List (List Nat×Int)) (ns:List (List Nat)):List Stm->Ms->Ms
 | [],X=>X
 |s::l,X=>pu cs ns l (s.lw cs ns X)
end
theorem uU  (h:X.ok (k+2)):(j8 2 X).ok k:=⟨by have:=h.s;simp only[j8];omega,h.v0,by have:=h.v;simp only[j8];omega,by have:=h.l0;simp only[j8];omega,by have:=h.l;simp only[j8];omega⟩
section
variable {cs:List (List Nat×Int)} {ns:List (List Nat)}
theorem nk {l:List Stm} (h:∀s∈l,∀{X:Ms} {k:Nat},X.ok (k+16*s.sz)->(s.lw cs ns X).ok k):∀{X:Ms} {k:Nat},X.ok (k+16*dC l)->(pu cs ns l X).ok k:=by
 induction l with
 |nil=>intro X k q;rw[pu];exact q.weak (by omega)
 |cons s l ih=>
  intro X k q
  rw[dC] at q
  rw[pu]
  exact ih (λy hy=>h y (aa8 _ hy)) (h s (ab2 ..) (q.weak (by omega)))
theorem O9:∀(s:Stm) {X:Ms} {k:Nat},X.ok (k+16*s.sz)->(s.lw cs ns X).ok k:=by
 apply Stm.ind (P:=λs=>∀{X:Ms} {k:Nat},X.ok (k+16*s.sz)->(s.lw cs ns X).ok k)
 intro k a nm ce i x y b e hb he X q h
 rw[Stm.sz] at h
 rw[Stm.lw]
 have hB:∀{X:Ms} {k:Nat},X.ok (k+16*dC b)->(pu cs ns b X).ok k:=nk hb
 have hE:∀{X:Ms} {k:Nat},X.ok (k+16*dC e)->(pu cs ns e X).ok k:=nk he
 split
 ·exact cO (eB x (h.weak (by omega))) _
 split
 ·exact cO (mF (h.weak (by simp only[Stm.i];omega))) _
 split
 ·exact cO (eB x (mF (h.weak (by simp only[Stm.i];omega)))) _
 split
 ·exact cO (eB y (eB x (mF (h.weak (by simp only[Stm.i];omega))))) _
 split
 ·exact cO (h.weak (by omega)) _
 split
 ·exact cO (eB x (h.weak (by omega))) _
 split
 ·exact cO (hE (cO (cO (hB (cO (eB x (uU (h.weak (by omega)))) _)) _) _)) _
 split
 ·exact cO (cO (hB (cO (eB x (cO (uU (h.weak (by omega))) _)) _)) _) _
 ·exact h.weak (by omega)
theorem u7 {l:List Stm} (h:X.ok (k+16*dC l)):(pu cs ns l X).ok k:=nk (λs _=>O9 s) h
end
structure Cx (B:NH) (vc vn:NV) (cs:List (List Nat×Int)) (ns:List (List Nat)):Prop where
 c:Sl B vc 2 (jx cs)
 cl:cs.length<=1000000
 z:∀(n:Nat) (z:Int) {h:n<cs.length},cs[n].2=z->-9223372036854775808<=z - 1/\z - 1<9223372036854775808
 n:Sl B vn 1 (db ns)
 nl:ns.length<=1000000
structure Kp (m:NH) (r:D4) (vs:NV) (t:D4) (c:List NV):Prop where
 g:m.get t=some (.cells true c)
 o:ap m t
 nr:t≠r
 ns:t∉ids vs
theorem Kp.next  {t:D4} {vs':NV} (h:Kp m r vs t c) (e:Ev r vs vs' m m'):Kp m' r vs' t c:=⟨(e.get h.o h.nr h.ns).trans h.g,e.c.old h.o,h.nr,e.nin h.o h.ns⟩
theorem Kp.grow  {t:D4} (h:Kp m r vs t c) (e:Chg [] m m'):Kp m' r vs t c:=⟨(e.get h.o (by simp)).trans h.g,e.old h.o,h.nr,h.ns⟩
theorem MK.off  {B:NH} {vn:NV} (h:MK B m r vc vn lo vs X) (hC:Chg S m m') (hS:∀i∈S,i≠r/\i∉ids vs/\¬ap B i):MK B m' r vc vn lo vs X:=
 ⟨(hC.get h.o λq=>(hS _ q).1 rfl).trans h.g,hC.old h.o,h.nB,h.s.chg hC λi hi q=>(hS i q).2.1 hi,h.n,h.c.trans hC λi hi ho=>adD ho (hS i hi).2.2⟩
theorem Ev.off  {m'':NH} {vs':NV} (h:Ev r vs vs' m m') (hC:Chg S m' m'') (hS:∀i∈S,¬ap m i):Ev r vs vs' m m'':=⟨h.c.trans hC λi hi ho=>adD ho (hS i hi),h.f⟩
def QV (f:Nat) (cs:List (List Nat×Int)) (ns:List (List Nat)) (l:List Stm):Prop:=∀{B m:NH} {T:D4->Prop} {v vc vn vs:NV} {C:List (List NV)} {r:D4} {lo:Int} {X:Ms} {k:Nat},SS B T v l C->Cx B vc vn cs ns->MK B m r vc vn lo vs X->X.ok (k+16*dC l)->
 ∃m',rT f [.ptr r 0,v] m (.tup []) m'/\∃vs',MK B m' r vc vn lo vs' (pu cs ns l X)/\Ev r vs vs' m m'
def LwS (f:Nat) (cs:List (List Nat×Int)) (ns:List (List Nat)) (s:Stm):Prop:=∀{B m:NH} {T:D4->Prop} {w:SV} {vc vn vs:NV} {r:D4} {lo:Int} {X:Ms} {k:Nat},SP B T s w->Cx B vc vn cs ns->MK B m r vc vn lo vs X->X.ok (k+16*s.sz)->
 ∃m',rT f [.ptr r 0,.agg (s.l w)] m (.tup []) m'/\∃vs',MK B m' r vc vn lo vs' (s.lw cs ns X)/\Ev r vs vs' m m'
section
variable {cs:List (List Nat×Int)} {ns:List (List Nat)}
theorem Cn  {B:NH} {vn:NV} (h:MK B m r vc vn lo vs X) (hk:X.ok (k+2)):∃m',rT 323 [.ptr r 0] m (.tup [ii X.lb,ii (X.lb+1)]) m'/\∃vs',MK B m' r vc vn lo vs' (j8 2 X)/\Ev r vs vs' m m':=by
 refine WF.ex1 λK hK=> ?_
 refine WF.of_wpG (λ_=>rfl) yn (L:= [(.e,.ptr r 0)]) rfl ?_
 unfold LZ
 have hg:=h.g
 have ho:=h.o
 have hl:=hk.l
 have hl0:=hk.l0
 have e1:X.lb+2 - 2=X.lb:=by omega
 have e2:X.lb+2 - 1=X.lb+1:=by omega
 simp (disch:=first|omega|(simp only[aA]<;>omega)) only[go_sem,seval,hg,e1,e2]
 generalize hM3:hp _ 0 m=M3
 have hC3:Chg [r] m M3:=az hM3 rfl
 refine hK _ ⟨vs,⟨?_,hC3.old ho,h.nB,h.s.chg hC3 λi hi q=>h.n (by simp at q;exact q▸hi),h.n, ?_⟩,⟨hC3.weak (by simp),λj hj=>Or.inl hj⟩⟩
 ·rw[←hM3];exact (aO ho).trans aC
 ·refine h.c.trans hC3 λi hi q=> ?_
  have hi:=one hi;subst hi;exact adD q h.nB
theorem Mb {s:Stm} (h123:s.k=1∨s.k=2∨s.k=3):LwS 277 cs ns s:=by
 intro B m T w vc vn vs r lo X k hS hx h hk
 refine WF.ex1 λK hK=> ?_
 refine WF.of_wpG (λ_=>rfl) xQ (L:= [(.a .e,.agg (s.l w)),(.e,.ptr r 0)]) rfl ?_
 unfold P3
 generalize hM1:hp [(.n 0,.cells true (s.l w))] 1 m=M1
 have hC1:Chg [] m M1:=az hM1 rfl
 have p1:Kp M1 r vs (na m 0) (s.l w):=⟨by rw[←hM1];exact bt,by rw[←hM1];exact aq (by omega),(h.new 0).1,(h.new 0).2⟩
 have k1:=h.grow hC1
 have hsl:(s.l w).length=21:=rfl
 have hg1:=p1.g
 have hsz:s.sz=1+s.i.sz+s.x.sz+s.y.sz+dC s.b+dC s.e:=by cases s;rfl
 have hlw:s.lw cs ns X=(if s.k=1 then bR ⟨3,mT ns s.nm,(cC cs ns s X).1,0,0,0,lN cs s,0,0⟩ (cC cs ns s X).2
  else if s.k=2 then bR ⟨4,0,(cC cs ns s X).1,(s.x.lw ns (cC cs ns s X).2).1,0,0,lN cs s,0,0⟩ (s.x.lw ns (cC cs ns s X).2).2
  else bR ⟨5,mT ns s.nm,(cC cs ns s X).1,(s.x.lw ns (cC cs ns s X).2).1,(s.y.lw ns (s.x.lw ns (cC cs ns s X).2).2).1,0,lN cs s,0,0⟩ (s.y.lw ns (s.x.lw ns (cC cs ns s X).2).2).2):=by
  obtain⟨k,a,nm,ce,i,x,y,b,e⟩:=s
  simp only[Stm.k] at h123
  rw[Stm.lw,adE (by omega)]
  simp only[Stm.k,Stm.nm,Stm.x,Stm.y]
  by_cases h1:k=1
  ·rw[adF h1];exact (adF h1).symm
  ·rw[adE h1]
   by_cases h2:k=2
   ·rw[adF h2];exact ((adE h1).trans (adF h2)).symm
   ·rw[adE h2,adF (by omega)];exact ((adE h1).trans (adE h2)).symm
 rw[hlw] at hK
 have hS':RE B T s.i (s.i.l w.vi):=hS.i
 obtain⟨m2,r2,v2,k2,e2⟩:=J8 (w:=w) (s:=s) hS' hx.c hx.cl hx.n hx.nl k1 (k:=k+1+s.x.sz+s.y.sz) (hk.weak (by omega)) hx.z
 have ok2:=mF (cs:=cs) (ns:=ns) (s:=s) (X:=X) (k:=k+1+s.x.sz+s.y.sz) (hk.weak (by omega))
 have p2:=p1.next e2
 generalize cC cs ns s X=q at r2 k2 ok2 hK
 generalize lN cs s=ce at r2 hK
 obtain⟨pa,X2⟩:=q
 dsimp only at r2 k2 ok2 hK
 generalize hM3:hp [(.n 0,.cells true [ii 0,ii 0,ii pa,ii 0,ii 0,ii 0,ii ce,iu 0,ib 0]),(.n 0,.cells true [ii 0,ii 0,ii 0,ii 0,ii 0,ii 0,ii 0,iu 0,ib 0])] 1 m2=M3
 have hC3:Chg [] m2 M3:=az hM3 rfl
 have q3:Kp M3 r v2 (na m2 0) [ii 0,ii 0,ii pa,ii 0,ii 0,ii 0,ii ce,iu 0,ib 0]:=⟨by rw[←hM3];exact bt,by rw[←hM3];exact aq (by omega),(k2.new 0).1,(k2.new 0).2⟩
 have k3:=k2.grow hC3
 have p3:=p2.grow hC3
 have hg3:=p3.g
 have e3:Ev r vs v2 m M3:=(Ev.pre hC1 e2).trans (Ev.grow hC3)
 have hq3:=q3.g
 have hqo:=q3.o
 have hoB:∀{i},ap B i->ap m2 i:=λho=>k2.c.old ho
 have hom:∀{i},ap m i->ap m2 i:=λho=>e2.c.old (hC1.old ho)
 rcases h123 with h1|h1|h1
 ·rw[adF h1] at hK
  have r4:=pv k3 hx.n hx.nl s.nm
  simp (disch:=first|omega|(simp only[aA]<;>omega)) only[go_sem,seval,hM1,hg1,r2.wf,hM3,hg3,r4.wf,hq3]
  generalize hM4:hp _ 0 M3=M4
  have hC4:Chg [na m2 0] M3 M4:=Qz hM4 (by simp[bj])
  have k4:=k3.off hC4 λi hi=>by
   have hi:=one hi;subst hi;exact⟨q3.nr,q3.ns,λho=>ak (hoB ho)⟩
  obtain⟨m5,r5,v5,k5,e5⟩:=fm k4 ⟨3,mT ns s.nm,pa,0,0,0,ce,0,0⟩ (by have:=ok2.s;omega)
  simp (disch:=first|omega|(simp only[aA]<;>omega)) only[go_sem,seval,r5.wf']
  refine hK _ ⟨v5,k5,(e3.off hC4 λi hi ho=> ?_).trans e5⟩
  have hi:=one hi;subst hi;exact ak (hom ho)
 ·rw[adE (by omega),adF h1] at hK
  obtain⟨m4,r4,v4,k4,e4⟩:=ij s.x hS.x hx.n hx.nl k3 (k:=k+1+s.y.sz) (ok2.weak (by omega))
  have ok4:=eB s.x (ns:=ns) (X:=X2) (k:=k+1+s.y.sz) (ok2.weak (by omega))
  have q4:=q3.next e4
  have hq4:=q4.g
  have hqo4:=q4.o
  simp (disch:=first|omega|(simp only[aA]<;>omega)) only[go_sem,seval,hM1,hg1,r2.wf,hM3,hg3,r4.wf,hq4]
  generalize hM4:hp _ 0 m4=M4
  have hC4:Chg [na m2 0] m4 M4:=Qz hM4 (by simp[bj])
  have k5:=k4.off hC4 λi hi=>by
   have hi:=one hi;subst hi;exact⟨q4.nr,q4.ns,λho=>ak (hoB ho)⟩
  obtain⟨m6,r6,v6,k6,e6⟩:=fm k5 ⟨4,0,pa,(s.x.lw ns X2).1,0,0,ce,0,0⟩ (by have:=ok4.s;omega)
  simp (disch:=first|omega|(simp only[aA]<;>omega)) only[go_sem,seval,r6.wf']
  refine hK _ ⟨v6,k6,((e3.trans e4).off hC4 λi hi ho=> ?_).trans e6⟩
  have hi:=one hi;subst hi;exact ak (hom ho)
 ·rw[adE (by omega),adE (by omega)] at hK
  have r3:=pv k3 hx.n hx.nl s.nm
  obtain⟨m4,r4,v4,k4,e4⟩:=ij s.x hS.x hx.n hx.nl k3 (k:=k+1+s.y.sz) (ok2.weak (by omega))
  have ok4:=eB s.x (ns:=ns) (X:=X2) (k:=k+1+s.y.sz) (ok2.weak (by omega))
  have q4:=q3.next e4
  have p4:=p3.next e4
  have hq4:=q4.g
  have hg4:=p4.g
  have hqo4:=q4.o
  have hsx:=wt hS.x
  have hpo4:=p4.o
  have hne:na m 0≠na m2 0:=p2.o.ne 0
  simp (disch:=first|omega|(simp only[aA]<;>omega)) only[go_sem,seval,hM1,hg1,r2.wf,hM3,hg3,r3.wf',r4.wf,hq4,hg4,hsx]
  generalize hM4:hp _ 0 m4=M4
  have hC4:Chg [na m2 0] m4 M4:=Qz hM4 (by simp[bj])
  have k5:=k4.off hC4 λi hi=>by
   have hi:=one hi;subst hi;exact⟨q4.nr,q4.ns,λho=>ak (hoB ho)⟩
  have q5:Kp M4 r v4 (na m2 0) [ii 5,ii (mT ns s.nm),ii pa,ii (s.x.lw ns X2).1,ii 0,ii 0,ii ce,iu 0,ib 0]:=⟨by rw[←hM4];exact (aO q4.o).trans aC,hC4.old q4.o,q4.nr,q4.ns⟩
  obtain⟨m6,r6,v6,k6,e6⟩:=ij s.y hS.y hx.n hx.nl k5 (k:=k+1) ok4
  have ok6:=eB s.y (ns:=ns) (X:=(s.x.lw ns X2).2) (k:=k+1) ok4
  have q6:=q5.next e6
  have hq6:=q6.g
  have hqo6:=q6.o
  simp (disch:=first|omega|(simp only[aA]<;>omega)) only[go_sem,seval,r6.wf,hq6]
  generalize hM7:hp _ 0 m6=M7
  have hC7:Chg [na m2 0] m6 M7:=Qz hM7 (by simp[bj])
  have k7:=k6.off hC7 λi hi=>by
   have hi:=one hi;subst hi;exact⟨q6.nr,q6.ns,λho=>ak (hoB ho)⟩
  obtain⟨m8,r8,v8,k8,e8⟩:=fm k7 ⟨5,mT ns s.nm,pa,(s.x.lw ns X2).1,(s.y.lw ns (s.x.lw ns X2).2).1,0,ce,0,0⟩ (by have:=ok6.s;omega)
  simp (disch:=first|assumption|omega|(apply aq;omega)|(apply au;assumption)|(simp only[aA]<;>omega)) only[go_sem,seval,r8.wf']
  have hno:∀i∈ [na m2 0],¬ap m i:=λi hi ho=>by
   have hi:=one hi;subst hi;exact ak (hom ho)
  exact hK _ ⟨v8,k8,((((e3.trans e4).off hC4 hno).trans e6).off hC7 hno).trans e8⟩
end
section
variable {cs:List (List Nat×Int)} {ns:List (List Nat)}
theorem Fl (s:Stm):s.sz=1+s.i.sz+s.x.sz+s.y.sz+dC s.b+dC s.e:=by cases s;rfl
theorem lw6 {s:Stm} (h:s.k=6) (X:Ms):s.lw cs ns X=bR (bi 9 0 (X.lb+1)) (pu cs ns s.e (bR (bi 9 0 X.lb) (bR (bi 10 0 (X.lb+1)) (pu cs ns s.b (bR (bi 11 (s.x.lw ns (j8 2 X)).1 X.lb) (s.x.lw ns (j8 2 X)).2))))):=by
 obtain⟨k,a,nm,ce,i,x,y,b,e⟩:=s
 obtain rfl:k=6:=h
 rw[Stm.lw];rfl
theorem lw7 {s:Stm} (h:s.k=7) (X:Ms):s.lw cs ns X=bR (bi 9 0 (X.lb+1)) (bR (bi 10 0 X.lb) (pu cs ns s.b (bR (bi 11 (s.x.lw ns (bR (bi 9 0 X.lb) (j8 2 X))).1 (X.lb+1)) (s.x.lw ns (bR (bi 9 0 X.lb) (j8 2 X))).2))):=by
 obtain⟨k,a,nm,ce,i,x,y,b,e⟩:=s
 obtain rfl:k=7:=h
 rw[Stm.lw];rfl
theorem lw0 {s:Stm} (h:s.k=0) (X:Ms):s.lw cs ns X=bR ⟨1,mT ns s.nm,(s.x.lw ns X).1,0,0,0,0,0,0⟩ (s.x.lw ns X).2:=by
 obtain⟨k,a,nm,ce,i,x,y,b,e⟩:=s
 obtain rfl:k=0:=h
 rw[Stm.lw];rfl
theorem lw4 {s:Stm} (h:s.k=4) (X:Ms):s.lw cs ns X=bR (bi 13 0 0) X:=by
 obtain⟨k,a,nm,ce,i,x,y,b,e⟩:=s
 obtain rfl:k=4:=h
 rw[Stm.lw];rfl
theorem lw5 {s:Stm} (h:s.k=5) (X:Ms):s.lw cs ns X=bR (bi 8 (s.x.lw ns X).1 0) (s.x.lw ns X).2:=by
 obtain⟨k,a,nm,ce,i,x,y,b,e⟩:=s
 obtain rfl:k=5:=h
 rw[Stm.lw];rfl
theorem lw9 {s:Stm} (h:s.k<0∨7<s.k) (X:Ms):s.lw cs ns X=X:=by
 obtain⟨k,a,nm,ce,i,x,y,b,e⟩:=s
 simp only[Stm.k] at h
 rw[Stm.lw,adE (by omega),adE (by omega),adE (by omega),adE (by omega),adE (by omega),adE (by omega),adE (by omega),adE (by omega)]
theorem Oy {s:Stm} (h6:s.k=6) (hb:QV 211 cs ns s.b) (he:QV 211 cs ns s.e):LwS 278 cs ns s:=by
 intro B m T w vc vn vs r lo X k hS hx h hk
 refine WF.ex1 λK hK=> ?_
 refine WF.of_wpG (λ_=>rfl) zj (L:= [(.a .e,.agg (s.l w)),(.e,.ptr r 0)]) rfl ?_
 unfold Nj
 generalize hM1:hp [(.n 0,.cells true (s.l w))] 1 m=M1
 have hC1:Chg [] m M1:=az hM1 rfl
 have p1:Kp M1 r vs (na m 0) (s.l w):=⟨by rw[←hM1];exact bt,by rw[←hM1];exact aq (by omega),(h.new 0).1,(h.new 0).2⟩
 have k1:=h.grow hC1
 have hsl:(s.l w).length=21:=rfl
 rw[Fl] at hk
 rw[lw6 h6] at hK
 obtain⟨m2,r2,v2,k2,e2⟩:=Cn k1 (k:=k+14+s.x.sz+16*dC s.b+16*dC s.e) (hk.weak (by omega))
 have ok2:=uU (X:=X) (k:=k+14+s.x.sz+16*dC s.b+16*dC s.e) (hk.weak (by omega))
 have p2:=p1.next e2
 have g2:=p2.g
 obtain⟨m3,r3,v3,k3,e3⟩:=ij s.x hS.x hx.n hx.nl k2 (k:=k+14+16*dC s.b+16*dC s.e) (ok2.weak (by omega))
 have ok3:=eB s.x (ns:=ns) (X:=j8 2 X) (k:=k+14+16*dC s.b+16*dC s.e) (ok2.weak (by omega))
 have p3:=p2.next e3
 generalize s.x.lw ns (j8 2 X)=q at r3 k3 ok3 hK
 obtain⟨xv,X3⟩:=q
 dsimp only at r3 k3 ok3 hK
 obtain⟨m4,r4,v4,k4,e4⟩:=fm k3 (bi 11 xv X.lb) (by have:=ok3.s;omega)
 have ok4:=cO (k:=k+13+16*dC s.b+16*dC s.e) (ok3.weak (by omega)) (bi 11 xv X.lb)
 have p4:=p3.next e4
 have g4:=p4.g
 obtain⟨CB,hSB⟩:=hS.b
 obtain⟨CE,hSE⟩:=hS.e
 obtain⟨m5,r5,v5,k5,e5⟩:=hb hSB hx k4 (k:=k+13+16*dC s.e) (ok4.weak (by omega))
 have ok5:=u7 (cs:=cs) (ns:=ns) (l:=s.b) (k:=k+13+16*dC s.e) (ok4.weak (by omega))
 have p5:=p4.next e5
 generalize pu cs ns s.b (bR (bi 11 xv X.lb) X3)=X5 at k5 ok5 hK
 obtain⟨m6,r6,v6,k6,e6⟩:=fm k5 (bi 10 0 (X.lb+1)) (by have:=ok5.s;omega)
 have ok6:=cO (k:=k+12+16*dC s.e) (ok5.weak (by omega)) (bi 10 0 (X.lb+1))
 have p6:=p5.next e6
 obtain⟨m7,r7,v7,k7,e7⟩:=fm k6 (bi 9 0 X.lb) (by have:=ok6.s;omega)
 have ok7:=cO (k:=k+11+16*dC s.e) (ok6.weak (by omega)) (bi 9 0 X.lb)
 have p7:=p6.next e7
 have g7:=p7.g
 obtain⟨m8,r8,v8,k8,e8⟩:=he hSE hx k7 (k:=k+11) (ok7.weak (by omega))
 have ok8:=u7 (cs:=cs) (ns:=ns) (l:=s.e) (k:=k+11) (ok7.weak (by omega))
 generalize pu cs ns s.e (bR (bi 9 0 X.lb) (bR (bi 10 0 (X.lb+1)) X5))=X8 at k8 ok8 hK
 obtain⟨m9,r9,v9,k9,e9⟩:=fm k8 (bi 9 0 (X.lb+1)) (by have:=ok8.s;omega)
 unfold bi at r4 r6 r7 r9
 simp (disch:=first|omega|(simp only[aA]<;>omega)) only[go_sem,seval,hM1,r2.wf',g2,r3.wf',r4.wf',g4,r5.wf',r6.wf',r7.wf',g7,r8.wf',r9.wf']
 exact hK _ ⟨v9,k9,Ev.pre hC1 (e2.trans (e3.trans (e4.trans (e5.trans (e6.trans (e7.trans (e8.trans e9)))))))⟩
theorem XH {s:Stm} (h7:s.k=7) (hb:QV 211 cs ns s.b):LwS 279 cs ns s:=by
 intro B m T w vc vn vs r lo X k hS hx h hk
 refine WF.ex1 λK hK=> ?_
 refine WF.of_wpG (λ_=>rfl) yv (L:= [(.a .e,.agg (s.l w)),(.e,.ptr r 0)]) rfl ?_
 unfold LY
 generalize hM1:hp [(.n 0,.cells true (s.l w))] 1 m=M1
 have hC1:Chg [] m M1:=az hM1 rfl
 have p1:Kp M1 r vs (na m 0) (s.l w):=⟨by rw[←hM1];exact bt,by rw[←hM1];exact aq (by omega),(h.new 0).1,(h.new 0).2⟩
 have k1:=h.grow hC1
 have hsl:(s.l w).length=21:=rfl
 rw[Fl] at hk
 rw[lw7 h7] at hK
 obtain⟨m2,r2,v2,k2,e2⟩:=Cn k1 (k:=k+14+s.x.sz+16*dC s.b) (hk.weak (by omega))
 have ok2:=uU (X:=X) (k:=k+14+s.x.sz+16*dC s.b) (hk.weak (by omega))
 have p2:=p1.next e2
 obtain⟨m3,r3,v3,k3,e3⟩:=fm k2 (bi 9 0 X.lb) (by have:=ok2.s;omega)
 have ok3:=cO (k:=k+13+s.x.sz+16*dC s.b) (ok2.weak (by omega)) (bi 9 0 X.lb)
 have p3:=p2.next e3
 have g3:=p3.g
 obtain⟨m4,r4,v4,k4,e4⟩:=ij s.x hS.x hx.n hx.nl k3 (k:=k+13+16*dC s.b) (ok3.weak (by omega))
 have ok4:=eB s.x (ns:=ns) (k:=k+13+16*dC s.b) (ok3.weak (by omega))
 have p4:=p3.next e4
 generalize s.x.lw ns (bR (bi 9 0 X.lb) (j8 2 X))=q at r4 k4 ok4 hK
 obtain⟨xv,X4⟩:=q
 dsimp only at r4 k4 ok4 hK
 obtain⟨m5,r5,v5,k5,e5⟩:=fm k4 (bi 11 xv (X.lb+1)) (by have:=ok4.s;omega)
 have ok5:=cO (k:=k+12+16*dC s.b) (ok4.weak (by omega)) (bi 11 xv (X.lb+1))
 have p5:=p4.next e5
 have g5:=p5.g
 obtain⟨CB,hSB⟩:=hS.b
 obtain⟨m6,r6,v6,k6,e6⟩:=hb hSB hx k5 (k:=k+12) (ok5.weak (by omega))
 have ok6:=u7 (cs:=cs) (ns:=ns) (l:=s.b) (k:=k+12) (ok5.weak (by omega))
 generalize pu cs ns s.b (bR (bi 11 xv (X.lb+1)) X4)=X6 at k6 ok6 hK
 obtain⟨m7,r7,v7,k7,e7⟩:=fm k6 (bi 10 0 X.lb) (by have:=ok6.s;omega)
 have ok7:=cO (k:=k+11) (ok6.weak (by omega)) (bi 10 0 X.lb)
 obtain⟨m8,r8,v8,k8,e8⟩:=fm k7 (bi 9 0 (X.lb+1)) (by have:=ok7.s;omega)
 unfold bi at r3 r5 r7 r8
 simp (disch:=first|omega|(simp only[aA]<;>omega)) only[go_sem,seval,hM1,r2.wf',r3.wf',g3,r4.wf',r5.wf',g5,r6.wf',r7.wf',r8.wf']
 exact hK _ ⟨v8,k8,Ev.pre hC1 (e2.trans (e3.trans (e4.trans (e5.trans (e6.trans (e7.trans e8))))))⟩
theorem nQ {l:List Stm} (ih:∀x∈l,QV 211 cs ns x.b/\QV 211 cs ns x.e):QV 211 cs ns l:=by
 intro B m T v vc vn vs C r lo X k hSS hx h hk
 refine WF.ex1 λK hK=> ?_
 refine WF.of_wpG (λ_=>rfl) AX (L:= [(.a .e,v),(.e,.ptr r 0)]) rfl ?_
 unfold LF
 have hlen:=(hSS.stays (sw h.c T)).sl.len
 rw[hSS.len] at hlen
 have hll:=GZ l
 have hls:=hk.s
 simp only[go_sem,seval,hlen,aa]
 refine W.loop (λj d=>∃t M i vs' X',d=⟨t, [],none,M⟩/\NT.get D4.e t=some (.ptr r 0)/\NT.get D4.e.a.b t=some v/\NT.get D4.e.a.c t=some (ii l.length)/\NT.get D4.e.a.f t=some (ii (i:Nat))/\i+j=l.length/\MK B M r vc vn lo vs' X'/\Ev r vs vs' m M/\X'.ok (k+16*dC (l.drop i))/\pu cs ns (l.drop i) X'=pu cs ns l X) ?_ l.length _ ⟨_,m,0,vs,X,rfl,by exact gq rfl,by exact gq rfl,by exact gq rfl,by exact gq rfl,by omega,h,Ev.grow (Chg.refl m),hk,rfl⟩
 rintro j d ⟨t,M,i,vs1,X1,rfl,g1,g2,g3,g4,hij,k1,e1,ok1,hL⟩
 apply av
 unfold zA
 change wp _ _ _ _ ⟨puts [] t, [],none,M⟩ _
 rw[←aa M]
 by_cases hi:i<l.length
 ·obtain⟨w,hCi,hRi,hSi⟩:=Zt hSS i hi
  obtain⟨id,off,wr,c,a1,a2,a3,a4,a5⟩:=Vt hSS i hi hCi
  have a2':=(k1.c.get a3 (by simp)).trans a2
  rw[ab8 hi,dC] at ok1
  rw[ab8 hi,pu] at hL
  have ihi:=ih _ (aa9 hi)
  generalize l[i]=s at hRi hSi a5 ok1 hL ihi
  have hsz:=Fl s
  have hsl:(s.l w).length=21:=rfl
  generalize hM2:hp [(.n 0,.cells true (s.l w)),(.n 0,.cells true [ii 0,ii 0,.str [],.str [],ii 0,iu 0,ib 0,.str [],.nils,ii 0,iu 0,ib 0,.str [],.nils,ii 0,iu 0,ib 0,.str [],.nils,.nils,.nils])] 1 M=M2
  have hC2:Chg [] M M2:=az hM2 rfl
  have p2:Kp M2 r vs1 (na M 0) (s.l w):=⟨by rw[←hM2];exact bt,by rw[←hM2];exact aq (by omega),(k1.new 0).1,(k1.new 0).2⟩
  have k2:=k1.grow hC2
  have gg:=p2.g
  have oks:=O9 (cs:=cs) (ns:=ns) s (X:=X1) (k:=k+16*dC (l.drop (i+1))) (ok1.weak (by omega))
  have fin:∀{t':Tm} {M':NH} {vs':NV},MK B M' r vc vn lo vs' (s.lw cs ns X1)->Ev r vs1 vs' M2 M'->NT.get D4.e t'=some (.ptr r 0)->NT.get D4.e.a.b t'=some v->NT.get D4.e.a.c t'=some (ii l.length)->NT.get D4.e.a.f t'=some (ii (i+1:Nat))->∃j'<j,∃t M i vs' X',(⟨t', [],none,M'⟩:Dyn)=⟨t, [],none,M⟩/\NT.get D4.e t=some (.ptr r 0)/\NT.get D4.e.a.b t=some v/\NT.get D4.e.a.c t=some (ii l.length)/\NT.get D4.e.a.f t=some (ii (i:Nat))/\i+j'=l.length/\MK B M r vc vn lo vs' X'/\Ev r vs vs' m M/\X'.ok (k+16*dC (l.drop i))/\pu cs ns (l.drop i) X'=pu cs ns l X:=
   λhk' he' q1 q2 q3 q4=>⟨j - 1,by omega,_,_,i+1,_,_,rfl,q1,q2,q3,q4,by omega,hk',e1.trans (Ev.pre hC2 he'),oks,hL⟩
  by_cases h0:s.k=0
  ·rw[lw0 h0] at fin
   obtain⟨m3,r3,v3,k3,e3⟩:=ij s.x hSi.x hx.n hx.nl k2 (k:=0) (ok1.weak (by omega))
   have r4:=pv k3 hx.n hx.nl s.nm
   have p3:=p2.next e3
   have g5:=p3.g
   obtain⟨m5,r5,v5,k5,e5⟩:=fm k3 ⟨1,mT ns s.nm,(s.x.lw ns X1).1,0,0,0,0,0,0⟩ (by have:=(eB s.x (ns:=ns) (X:=X1) (k:=0) (ok1.weak (by omega))).s;omega)
   simp (disch:=first|omega|(simp only[aA]<;>omega)) only[go_sem,seval,g1,g2,g3,g4,a1,a2',a5,hM2,gg,r3.wf',g5,r4.wf',r5.wf',wt hSi.x]
   exact fin k5 (e3.trans e5) (by exact gq g1) (by exact gq g2) (by exact gq g3) (by exact gq rfl<;>rfl)
  by_cases h123:s.k=1∨s.k=2∨s.k=3
  ·obtain⟨m3,r3,v3,k3,e3⟩:=Mb h123 hSi hx k2 (k:=0) (ok1.weak (by omega))
   rcases h123 with h1|h1|h1
   ·simp (disch:=first|omega|(simp only[aA]<;>omega)) only[go_sem,seval,g1,g2,g3,g4,a1,a2',a5,hM2,gg,r3.wf']
    exact fin k3 e3 (by exact gq g1) (by exact gq g2) (by exact gq g3) (by exact gq rfl<;>rfl)
   ·simp (disch:=first|omega|(simp only[aA]<;>omega)) only[go_sem,seval,g1,g2,g3,g4,a1,a2',a5,hM2,gg,r3.wf']
    exact fin k3 e3 (by exact gq g1) (by exact gq g2) (by exact gq g3) (by exact gq rfl<;>rfl)
   ·simp (disch:=first|omega|(simp only[aA]<;>omega)) only[go_sem,seval,g1,g2,g3,g4,a1,a2',a5,hM2,gg,r3.wf']
    exact fin k3 e3 (by exact gq g1) (by exact gq g2) (by exact gq g3) (by exact gq rfl<;>rfl)
  by_cases h4:s.k=4
  ·rw[lw4 h4] at fin
   obtain⟨m3,r3,v3,k3,e3⟩:=fm k2 (bi 13 0 0) (by have:=ok1.s;omega)
   unfold bi at r3
   simp (disch:=first|omega|(simp only[aA]<;>omega)) only[go_sem,seval,g1,g2,g3,g4,a1,a2',a5,hM2,gg,r3.wf']
   exact fin k3 e3 (by exact gq g1) (by exact gq g2) (by exact gq g3) (by exact gq rfl<;>rfl)
  by_cases h5:s.k=5
  ·rw[lw5 h5] at fin
   obtain⟨m3,r3,v3,k3,e3⟩:=ij s.x hSi.x hx.n hx.nl k2 (k:=0) (ok1.weak (by omega))
   obtain⟨m5,r5,v5,k5,e5⟩:=fm k3 (bi 8 (s.x.lw ns X1).1 0) (by have:=(eB s.x (ns:=ns) (X:=X1) (k:=0) (ok1.weak (by omega))).s;omega)
   unfold bi at r5
   simp (disch:=first|omega|(simp only[aA]<;>omega)) only[go_sem,seval,g1,g2,g3,g4,a1,a2',a5,hM2,gg,r3.wf',r5.wf']
   exact fin k5 (e3.trans e5) (by exact gq g1) (by exact gq g2) (by exact gq g3) (by exact gq rfl<;>rfl)
  by_cases h6:s.k=6
  ·obtain⟨m3,r3,v3,k3,e3⟩:=Oy h6 ihi.1 ihi.2 hSi hx k2 (k:=0) (ok1.weak (by omega))
   simp (disch:=first|omega|(simp only[aA]<;>omega)) only[go_sem,seval,g1,g2,g3,g4,a1,a2',a5,hM2,gg,r3.wf']
   exact fin k3 e3 (by exact gq g1) (by exact gq g2) (by exact gq g3) (by exact gq rfl<;>rfl)
  by_cases h7:s.k=7
  ·obtain⟨m3,r3,v3,k3,e3⟩:=XH h7 ihi.1 hSi hx k2 (k:=0) (ok1.weak (by omega))
   simp (disch:=first|omega|(simp only[aA]<;>omega)) only[go_sem,seval,g1,g2,g3,g4,a1,a2',a5,hM2,gg,r3.wf']
   exact fin k3 e3 (by exact gq g1) (by exact gq g2) (by exact gq g3) (by exact gq rfl<;>rfl)
  ·rw[lw9 (by omega)] at fin
   simp (disch:=first|omega|(simp only[aA]<;>omega)) only[go_sem,seval,g2,g3,g4,a1,a2',a5,hM2,gg]
   exact fin k2 (Ev.grow (Chg.refl M2)) (by exact gq g1) (by exact gq g2) (by exact gq g3) (by exact gq rfl<;>rfl)
 ·simp (disch:=omega) only[go_sem,seval,g3,g4]
  rw[ad0 (by omega),pu] at hL
  rw[hL] at k1
  rw[aa]
  exact hK _ ⟨vs1,k1,e1⟩
theorem Rc:∀l:List Stm,QV 211 cs ns l:=by
 have key:∀x:Stm,QV 211 cs ns x.b/\QV 211 cs ns x.e:=by
  apply Stm.ind
  intro k a nm ce i x y b e hb he
  exact⟨nQ hb,nQ he⟩
 exact λl=>nQ λx _=>key x
end
section
variable {cs:List (List Nat×Int)} {ns:List (List Nat)}
end
structure Wk (ck:D4) (B m0:NH) (vc u:NV) (L:List (List Nat)) (e a:Int) (N:NH):Prop where
 g:N.get ck=some (.cells true [vc,u,ii e,ii a])
 o:ap N ck
 w:aQ B N u 1 (db L)
 n:ck∉ids u
 c:Chg [] m0 N
 b:∀i,ap B i->ap N i
def e6 (Z:List (List Nat)) (e:Int) (mine:List (List Nat)):Int:=if e=0/\∃n∈mine,n∈Z then 6 else e
section
variable {ck:D4} {B m0:NH} {vc:NV} {cs:List (List Nat×Int)}
theorem Wk.grow  {L:List (List Nat)} {e a:Int} {N N':NH} (h:Wk ck B m0 vc u L e a N) (hC:Chg [] N N'):Wk ck B m0 vc u L e a N':=
 ⟨(hC.get h.o (by simp)).trans h.g,hC.old h.o,h.w.chg hC λ_ _=>by simp,h.n,h.c.tr hC,λi hi=>hC.old (h.b i hi)⟩
theorem Wk.set  {L:List (List Nat)} {e a e' a':Int} {N N':NH} (h:Wk ck B m0 vc u L e a N) (hk:¬ap m0 ck) (hN:hp [(.o ck,.cells true [vc,u,ii e',ii a'])] 0 N=N'):Wk ck B m0 vc u L e' a' N'/\Chg [ck] N N':=by
 have hC:Chg [ck] N N':=az hN rfl
 refine⟨⟨?_,hC.old h.o,h.w.chg hC λi hi=>by simp;rintro rfl;exact h.n hi,h.n,h.c.trans hC λi hi ho=> ?_,λi hi=>hC.old (h.b i hi)⟩,hC⟩
 ·rw[←hN];exact (aO h.o).trans aC
 ·have hi:=one hi;subst hi;exact adD ho hk
end
theorem Ho  (hc:m.get oc=some (.cells true [.map mo])) (hm:m.get mo=some (.map (ir Z))) (s:List Nat):rT 208 [.str s,.ptr oc 0] m (.bool (decide (s∈Z))) m:=by
 have h:∃r m',rT 208 [.str s,.ptr oc 0] m r m'/\r= .bool (decide (s∈Z))/\m'=m:=by
  refine WF.ex λK hK=> ?_
  refine WF.of_wpG (λ_=>rfl) CJ (L:= [(.a .e,.ptr oc 0),(.e,.str s)]) rfl ?_
  unfold Ka
  simp only[go_sem,seval,hc,hm,aa]
  exact hK _ _ ⟨rfl,rfl⟩
 obtain⟨r,m',h1,rfl,rfl⟩:=h
 exact h1
theorem ZB  {l:List (List Nat)} (hv:Sl m v 1 (db l)) (hc:m.get oc=some (.cells true [.map mo])) (hm:m.get mo=some (.map (ir Z))) (hsz:l.length<=1099511627776):
 ∃r m',rT 273 [v,.fn 208 [.ptr oc 0]] m r m'/\(∃z:Int,r=ii z/\(0<=z↔∃n∈l,n∈Z))/\m'=m:=by
 refine WF.ex λK hK=> ?_
 refine WF.of_wpG (λ_=>rfl) BF (L:= [(.a .e,.fn 208 [.ptr oc 0]),(.e,v)]) rfl ?_
 unfold Mt
 have hlen:=hv.len
 rw[aa0] at hlen
 simp only[go_sem,seval,hlen,aa]
 refine W.loop (λk d=>∃t i,d=⟨t, [],none,m⟩/\NT.get D4.e t=some v/\NT.get D4.e.a t=some (.fn 208 [.ptr oc 0])/\NT.get D4.e.a.c t=some (ii l.length)/\NT.get D4.e.a.f t=some (ii (i:Nat))/\i+k=l.length/\∀j (hj:j<i) (hl:j<l.length),l[j]∉Z) ?_ l.length _ ⟨_,0,rfl,by exact gq rfl,by exact gq rfl,by exact gq rfl,by exact gq rfl,by omega,by simp⟩
 rintro k d ⟨t,i,rfl,g1,g2,g3,g4,hik,hn⟩
 apply av
 unfold Di
 change wp _ _ _ _ ⟨puts [] t, [],none,m⟩ _
 by_cases hi:i<l.length
 ·obtain⟨id,off,wr,c,a1,a2,a3,a4,a5⟩:=hv.at i (by simpa using hi)
  rw[aa4] at a5
  have c0:c[off]? =some (.str l[i]):=bm a5 0 (by omega)
  by_cases hin:l[i]∈Z
  ·have hp:=Ho hc hm l[i]
   rw[adH hin] at hp
   simp (disch:=omega) only[go_sem,seval,g1,g2,g3,g4,a1,a2,c0,hp.wf']
   exact hK _ _ ⟨⟨i,rfl,λ_=>⟨l[i],aa9 hi,hin⟩,λ_=>by omega⟩,rfl⟩
  ·have hp:=Ho hc hm l[i]
   rw[adG hin] at hp
   simp (disch:=omega) only[go_sem,seval,g1,g2,g3,g4,a1,a2,c0,hp.wf']
   refine⟨k - 1,by omega,_,i+1,by rfl,by exact gq g1,by exact gq g2,by exact gq g3,by exact gq rfl,by omega,λj hj hl=> ?_⟩
   rcases ac2 j i with q|q
   ·exact hn j q hl
   ·obtain rfl:j=i:=by omega
    exact hin
 ·simp (disch:=omega) only[go_sem,seval,g3,g4]
  refine hK _ _ ⟨⟨-1,rfl,λh=>by omega,λ⟨n,h1,h2⟩=> ?_⟩,rfl⟩
  obtain⟨j,hj,rfl⟩:=List.getElem_of_mem h1
  exact adD h2 (hn j (by omega) hj)
theorem HY  {l:List (List Nat)} (hv:Sl m v 1 (db l)) (hc:m.get oc=some (.cells true [.map mo])) (hm:m.get mo=some (.map (ir Z))) (hsz:l.length<=1099511627776):
 rT 207 [v,.fn 208 [.ptr oc 0]] m (.bool (decide (∃n∈l,n∈Z))) m:=by
 have h:∃r m',rT 207 [v,.fn 208 [.ptr oc 0]] m r m'/\r= .bool (decide (∃n∈l,n∈Z))/\m'=m:=by
  refine WF.ex λK hK=> ?_
  refine WF.of_wpG (λ_=>rfl) xu (L:= [(.a .e,.fn 208 [.ptr oc 0]),(.e,v)]) rfl ?_
  unfold Ot
  obtain⟨r,m',hr,⟨z,rfl,hz⟩,rfl⟩:=ZB hv hc hm hsz
  simp only[go_sem,seval,aa,hr.wf']
  refine hK _ _ ⟨?_,rfl⟩
  simp only[hz]
 obtain⟨r,m',h1,rfl,rfl⟩:=h
 exact h1
abbrev YP:=(List (List Nat)×Nat)×Option (Int×Int)
def DG (Z:List (List Nat)) (st:YP) (x:Stm):YP×Bool:=
 if (x.k=1∨x.k=2∨x.k=3)/\x.ce∉Z then ((st.1,some (x.a,4)),false)
 else if ∃n∈x.own,n∈Z then ((st.1,some (x.a,6)),false)
 else if 12<(x.own.foldl dg st.1.1).length then (((x.own.foldl dg st.1.1,st.1.2+x.own.length),some (x.a,3)),false)
 else (((x.own.foldl dg st.1.1,st.1.2+x.own.length),none),true)
def BdA (st:YP) (x:Stm):Prop:=st.2=none/\x.sz<=100000000/\st.1.2+x.own.length<=100000000
def XX:Option (Int×Int)->Int|some (a,_)=>a|none=>0
def Un:Option (Int×Int)->Int|some (_,e)=>e|none=>0
def ZX:Option (Int×Int)->Nat|some _=>2|none=>0
def lpJ:Option (Int×Int)->Jump|some _=> .ret|none=> .none
def BdΦ (q o b er:D4) (t:Tm) (M1:NH) (st:YP) (F:List D4) (N:NH):Prop:=∃u,F=q::o::b::er::ids u/\Chg [q,o,b,er] M1 N/\N.get q=some (.loop (ZX st.2) (lpJ st.2) t [D4.e.b.c] dL eq)/\N.get o=some (.cells true [u])/\N.get b=some (.cells true [ii (XX st.2)])/\N.get er=some (.cells true [ii (Un st.2)])/\aQ M1 N u 1 (db st.1.1)/\st.1.1.length<=st.1.2
structure BdO (q o b er oc mo:D4) (M1:NH):Prop where
 qo:q≠o
 qb:q≠b
 qe:q≠er
 ob:o≠b
 oe:o≠er
 be:b≠er
 oq:ap M1 q
 oo:ap M1 o
 ol:ap M1 b
 om:ap M1 er
 og:ap M1 oc
 od:ap M1 mo
 cc:oc∉ [q,o,b,er]
 cd:mo∉ [q,o,b,er]
theorem BS  {b er:D4} {M1 M':NH} {L:List (List Nat)} {r:Option (Int×Int)} (hO:BdO q o b er oc mo M1) (hC:Chg [q,o,b,er] M1 M) (hC':Chg [q,o,b,er] M M') (hq:M'.get q=some (.loop (ZX r) (lpJ r) t [D4.e.b.c] dL eq)) (ho:M'.get o=some (.cells true [u])) (hb:M'.get b=some (.cells true [ii (XX r)])) (he:M'.get er=some (.cells true [ii (Un r)])) (hu:aQ M1 M u 1 (db L)) (hl:L.length<=n):
 BdΦ q o b er t M1 ((L,n),r) (q::o::b::er::ids u) M':=by
 refine⟨u,rfl,hC.trans hC' λ_ h _=>h,hq,ho,hb,he,hu.chg hC' λi hi=> ?_,hl⟩
 have hn:=hu.new i hi
 simp only[adJ,adI,or_false,not_or]
 exact⟨λe=>hn (e▸hO.oq),λe=>hn (e▸hO.oo),λe=>hn (e▸hO.ol),λe=>hn (e▸hO.om)⟩
theorem Q7  {M1:NH} {b er:D4} (hO:BdO q o b er oc mo M1) (h1:NT.get D4.e.c t=some (.ptr oc 0)) (h2:NT.get D4.e.f t=some (.ptr b 0)) (h3:NT.get D4.e.a.a t=some (.ptr er 0)) (h4:NT.get D4.e.a.b t=some (.ptr o 0)) (hc:M1.get oc=some (.cells true [.map mo])) (hm:M1.get mo=some (.map (ir Z)))
 (h0:∀S,Chg [q,o,b,er] M1 S->Chg [] m0 S):Ylds q m0 T BdA (DG Z) (BdΦ q o b er t M1):=by
 refine⟨?_, ?_, ?_, ?_⟩
 ·rintro s F N ⟨u,rfl,hC,-⟩;exact h0 _ hC
 ·rintro s F N ⟨u,rfl,hC,hq,ho,hb,he,hu,hl⟩ i hi
  simp only[adJ] at hi
  rcases hi with rfl|rfl|rfl|rfl|hi
  ·exact hC.old hO.oq
  ·exact hC.old hO.oo
  ·exact hC.old hO.ol
  ·exact hC.old hO.om
  ·exact hu.sl.old i hi
 ·rintro s F N N' ⟨u,rfl,hC,hq,ho,hb,he,hu,hl⟩ hC'
  exact⟨u,rfl,hC.tr hC',(hC'.get (hC.old hO.oq) (by simp)).trans hq,(hC'.get (hC.old hO.oo) (by simp)).trans ho,(hC'.get (hC.old hO.ol) (by simp)).trans hb,(hC'.get (hC.old hO.om) (by simp)).trans he,hu.chg hC' λ_ _=>by simp,hl⟩
 ·rintro⟨⟨L,n⟩,r⟩ F N x c ⟨u,rfl,hC,hq,ho,hb,he,hu,hl⟩ hR ⟨hA0,hA1,hA2⟩
  cases hA0
  have hq:N.get q=some (.loop 0 .none t [D4.e.b.c] dL eq):=hq
  have hb:N.get b=some (.cells true [ii 0]):=hb
  have he:N.get er=some (.cells true [ii 0]):=he
  obtain⟨w,rfl,hP⟩:=hR.inv'
  refine WY.ex1 λK hK=> ?_
  refine WY.of_wp hq rfl dL.eq_1 eq.eq_1 ?_
  change wp _ _ _ _ ⟨puts [(D4.e.b.c,.agg (x.l w))] t, [],none,hp [] 0 N⟩ _
  have hl21:(x.l w).length=21:=rfl
  have hl21':(x.l w).take 21=x.l w:=rfl
  have oq:=hC.old hO.oq
  have oo:=hC.old hO.oo
  have ob:=hC.old hO.ol
  have oe:=hC.old hO.om
  have qo:=hO.qo
  have qo':=hO.qo.symm
  have qb:=hO.qb
  have qb':=hO.qb.symm
  have qe:=hO.qe
  have qe':=hO.qe.symm
  have obn:=hO.ob
  have obn':=hO.ob.symm
  have oen:=hO.oe
  have oen':=hO.oe.symm
  have ben:=hO.be
  have ben':=hO.be.symm
  have hcN:=(hC.get hO.og hO.cc).trans hc
  have hmN:=(hC.get hO.od hO.cd).trans hm
  have occ:=hC.old hO.og
  have omo:=hC.old hO.od
  simp (disch:=first|omega|(simp only[aA]<;>omega)) only[go_sem,seval,hq,hl21']
  generalize hM2:hp _ 1 N=M2
  have hC2:Chg [q] N M2:=az hM2 rfl
  have hcq:oc≠q:=λe=>hO.cc (by simp[e])
  have hmq:mo≠q:=λe=>hO.cd (by simp[e])
  have q2:M2.get q=some (.loop 1 .none t [D4.e.b.c] dL eq):=nF oq hM2
  have o2:M2.get o=some (.cells true [u]):=(hC2.get oo (by simpa using qo')).trans ho
  have e2:=(hC2.get oe (by simpa using qe')).trans he
  have b2:=(hC2.get ob (by simpa using qb')).trans hb
  have c2:=(hC2.get occ (by simpa using hcq)).trans hcN
  have d2:=(hC2.get omo (by simpa using hmq)).trans hmN
  have x2:M2.get (na N 0)=some (.cells true (x.l w)):=aI hM2
  have ox2:ap M2 (na N 0):=aL hM2 (by omega)
  have hC02:Chg [] m0 M2:=h0 _ (hC.trans (hC2.weak (T:= [q,o,b,er]) (by simp)) λ_ h _=>h)
  refine WF.use (G3 hR hC02 hA1) ?_
  rintro v3 M3 ⟨hv3,hC3⟩
  have hC23:=hC2.tr hC3
  have q3:=(hC3.get (hC2.old oq) (by simp)).trans q2
  have o3:=(hC3.get (hC2.old oo) (by simp)).trans o2
  have x3:=(hC3.get ox2 (by simp)).trans x2
  have hqu:q∉ids u:=λh=>hu.new _ h hO.oq
  have hou:o∉ids u:=λh=>hu.new _ h hO.oo
  have hbu:b∉ids u:=λh=>hu.new _ h hO.ol
  have heu:er∉ids u:=λh=>hu.new _ h hO.om
  have hu3:aQ M1 M3 u 1 (db L):=hu.chg hC23 λi hi=>by simp;rintro rfl;exact hqu hi
  have hus:aU 4 u u=true:=hu.sl.same
  have ox3:=hC3.old ox2
  simp (disch:=first|omega|(simp only[aA]<;>omega)) only[go_sem,seval,x3,hl21']
  refine WF.use1 (xK M3 [1,2,3] rfl rfl (by decide)) ?_
  intro M4 hC4
  have t3:(x.l w)[3]? =some (.str x.ce):=rfl
  have t1:(x.l w)[1]? =some (ii x.a):=rfl
  have oq3:=hC3.old (hC2.old oq)
  have q4:=(hC4.get oq3 (by simp)).trans q3
  have oq4:=hC4.old oq3
  have oo3:=hC3.old (hC2.old oo)
  have o4:=(hC4.get oo3 (by simp)).trans o3
  have oo4:=hC4.old oo3
  have hC24:=hC3.tr hC4
  have b4:=(hC24.get (hC2.old ob) (by simp)).trans b2
  have ob4:=hC24.old (hC2.old ob)
  have e4:=(hC24.get (hC2.old oe) (by simp)).trans e2
  have oe4:=hC24.old (hC2.old oe)
  have c4:=(hC24.get (hC2.old occ) (by simp)).trans c2
  have d4:=(hC24.get (hC2.old omo) (by simp)).trans d2
  have x4:=(hC4.get ox3 (by simp)).trans x3
  have ox4:=hC4.old ox3
  have hx1:na N 0≠b:=λe=>ob.ne 0 e.symm
  have hx2:na N 0≠er:=λe=>oe.ne 0 e.symm
  have hx3:na N 0≠q:=λe=>oq.ne 0 e.symm
  have hx4:na N 0≠o:=λe=>oo.ne 0 e.symm
  have hL:L.length<=n:=hl
  have hA2':n+x.own.length<=100000000:=hA2
  have hu4:aQ M1 M4 u 1 (db L):=hu3.chg hC4 λ_ _=>by simp
  have hv4:=hv3.chg hC4 λ_ _=>by simp
  have hN4:Chg [q] N M4:=hC23.tr hC4
  have hM14:Chg [q,o,b,er] M1 M4:=hC.trans (hN4.weak (T:= [q,o,b,er]) (by simp)) λ_ h _=>h
  have hxu:na N 0∉ids u:=λh=>(hu.sl.old _ h).ne 0 rfl
  have stop:∀e:Int,DG Z ((L,n),none) x=(((L,n),some (x.a,e)),false)->K (.bool false) (hp [(.o q,.loop 2 .ret t [D4.e.b.c] dL eq),(.o er,.cells true [ii e]),(.o b,.cells true [ii x.a])] 0 M4):=by
   intro e hf
   rw[hf] at hK
   generalize hM5:hp _ 0 M4=M5
   have hC5:Chg [q,er,b] M4 M5:=az hM5 rfl
   have hC5':Chg [q,o,b,er] M4 M5:=hC5.weak (by simp)
   refine hK M5 ⟨_,BS hO hM14 hC5' ?_ ?_ ?_ ?_ hu4 hl, ?_,λi hi=>Or.inl hi⟩
   ·rw[←hM5];exact (aO oq4).trans aC
   ·exact (hC5.get oo4 (by simp[qo',oen,obn])).trans o4
   ·rw[←hM5];exact (aO ob4).trans ((bf qb').trans ((bf ben).trans aC))
   ·rw[←hM5];exact (aO oe4).trans ((bf qe').trans aC)
   ·exact (hN4.weak (T:=q::o::b::er::ids u) (by simp)).trans hC5' (λi h _=>by simp at h ⊢;rcases h with h|h|h|h<;>simp[h])
  by_cases hk:x.k=1∨x.k=2∨x.k=3
  ·rw[adH (by simpa using hk:x.k∈ [1,2,3])]
   by_cases hz:x.ce∈Z
   ·have hz':decide (x.ce∈Z)=true:=adH hz
    have hnz:¬((x.k=1∨x.k=2∨x.k=3)/\x.ce∉Z):=λh=>h.2 hz
    by_cases hn:∃n∈x.own,n∈Z
    ·have cof:=HY hv4.sl c4 d4 (by omega)
     rw[adH hn] at cof
     simp only[go_sem,seval,h1,x4,c4,d4,t3,hz']
     refine WF.use1H ⟨M4,cof,rfl⟩ ?_
     rintro _ rfl
     simp (disch:=first|omega|(simp only[aA]<;>omega)) only[go_sem,seval,h2,h3,q4,x4,b4,e4,t1]
     exact stop 6 (by unfold DG;rw[adE hnz,adF hn])
    ·have cof:=HY hv4.sl c4 d4 (by omega)
     rw[adG hn] at cof
     simp only[go_sem,seval,h1,h4,o4,x4,c4,d4,t3,hz',cof.wf']
     refine WF.use (GO hu4 hv4.sl (λi hi hiu=>hv4.new i hi (hC2.old (hu.sl.old i hiu))) (λi hi=>hC4.old (hC3.old (hC2.old (hC.old hi)))) (by show L.length+x.own.length<=_;omega)) ?_
     rintro v5 M5 ⟨hv5,hC5,hF5⟩
     have hq5:=(hC5.get oq4 hqu).trans q4
     have hoq5:=hC5.old oq4
     have ho5:=(hC5.get oo4 hou).trans o4
     have hoo5:=hC5.old oo4
     have hb5:=(hC5.get ob4 hbu).trans b4
     have hob5:=hC5.old ob4
     have he5:=(hC5.get oe4 heu).trans e4
     have hoe5:=hC5.old oe4
     have hx5:=(hC5.get ox4 hxu).trans x4
     have hox5:=hC5.old ox4
     have hlen5:=hv5.sl.len
     rw[aa0] at hlen5
     have hfl:=jL x.own L
     rw[←aa M5]
     have hM15:Chg [q,o,b,er] M1 M5:=hM14.trans hC5 λi hi ho=>adD ho (hu.new i hi)
     have hN5:Chg (q::o::b::er::ids u) N M5:=(hN4.weak (T:=q::o::b::er::ids u) (by simp)).trans hC5 λi h _=>by simp[h]
     have hF:∀i∈q::o::b::er::ids v5,i∈q::o::b::er::ids u∨¬ap N i:=by
      intro i hi
      simp only[adJ] at hi ⊢
      rcases hi with rfl|rfl|rfl|rfl|hi
      ·simp
      ·simp
      ·simp
      ·simp
      ·rcases hF5 i hi with h|h
       ·exact Or.inl (Or.inr (Or.inr (Or.inr (Or.inr h))))
       ·exact Or.inr λho=>h (hN4.old ho)
     by_cases h12:12<(x.own.foldl dg L).length
     ·have hf:DG Z ((L,n),none) x=(((x.own.foldl dg L,n+x.own.length),some (x.a,3)),false):=by unfold DG;rw[adE hnz,adE hn,adF h12]
      rw[hf] at hK
      simp (disch:=first|omega|(simp only[aA]<;>omega)) only[go_sem,seval,h2,h3,h4,hq5,ho5,hx5,hb5,he5,t1,hv5.sl.one,hlen5]
      generalize hM6:hp _ 0 M5=M6
      have hC6:Chg [q,er,b,o] M5 M6:=az hM6 rfl
      have hC6':Chg [q,o,b,er] M5 M6:=hC6.weak (by simp)
      refine hK M6 ⟨_,BS hO hM15 hC6' ?_ ?_ ?_ ?_ hv5 (by show _<=n+_;have:L.length<=n:=hl;omega),hN5.trans hC6' (λi h _=>by simp at h ⊢;rcases h with h|h|h|h<;>simp[h]),hF⟩
      ·rw[←hM6];exact (aO hoq5).trans aC
      ·rw[←hM6];exact (aO hoo5).trans ((bf qo').trans ((bf oen).trans ((bf obn).trans aC)))
      ·rw[←hM6];exact (aO hob5).trans ((bf qb').trans ((bf ben).trans aC))
      ·rw[←hM6];exact (aO hoe5).trans ((bf qe').trans aC)
     ·have hf:DG Z ((L,n),none) x=(((x.own.foldl dg L,n+x.own.length),none),true):=by unfold DG;rw[adE hnz,adE hn,adE h12]
      rw[hf] at hK
      simp (disch:=first|omega|(simp only[aA]<;>omega)) only[go_sem,seval,h4,hq5,ho5,hv5.sl.one,hlen5]
      generalize hM6:hp _ 0 M5=M6
      have hC6:Chg [q,o] M5 M6:=az hM6 rfl
      have hC6':Chg [q,o,b,er] M5 M6:=hC6.weak (by simp)
      refine hK M6 ⟨_,BS hO hM15 hC6' ?_ ?_ ?_ ?_ hv5 (by show _<=n+_;have:L.length<=n:=hl;omega),hN5.trans hC6' (λi h _=>by simp at h ⊢;rcases h with h|h|h|h<;>simp[h]),hF⟩
      ·rw[←hM6];exact (aO hoq5).trans aC
      ·rw[←hM6];exact (aO hoo5).trans ((bf qo').trans aC)
      ·exact (hC6.get hob5 (by simp[qb',obn'])).trans hb5
      ·exact (hC6.get hoe5 (by simp[qe',oen'])).trans he5
   ·have hz':decide (x.ce∈Z)=false:=adG hz
    rw[←aa M4]
    simp (disch:=first|omega|(simp only[aA]<;>omega)) only[go_sem,seval,h1,h2,h3,q4,x4,c4,d4,b4,e4,t3,t1,hz']
    exact stop 4 (by unfold DG;rw[adF ⟨hk,hz⟩])
  ·rw[adG (by simpa using hk:x.k∉ [1,2,3])]
   have hnz:¬((x.k=1∨x.k=2∨x.k=3)/\x.ce∉Z):=λh=>hk h.1
   by_cases hn:∃n∈x.own,n∈Z
   ·have cof:=HY hv4.sl c4 d4 (by omega)
    rw[adH hn] at cof
    simp only[go_sem,seval,h1]
    refine WF.use1H ⟨M4,cof,rfl⟩ ?_
    rintro _ rfl
    simp (disch:=first|omega|(simp only[aA]<;>omega)) only[go_sem,seval,h2,h3,q4,x4,b4,e4,t1]
    exact stop 6 (by unfold DG;rw[adE hnz,adF hn])
   ·have cof:=HY hv4.sl c4 d4 (by omega)
    rw[adG hn] at cof
    simp only[go_sem,seval,h1,h4,o4,cof.wf']
    refine WF.use (GO hu4 hv4.sl (λi hi hiu=>hv4.new i hi (hC2.old (hu.sl.old i hiu))) (λi hi=>hC4.old (hC3.old (hC2.old (hC.old hi)))) (by show L.length+x.own.length<=_;omega)) ?_
    rintro v5 M5 ⟨hv5,hC5,hF5⟩
    have hq5:=(hC5.get oq4 hqu).trans q4
    have hoq5:=hC5.old oq4
    have ho5:=(hC5.get oo4 hou).trans o4
    have hoo5:=hC5.old oo4
    have hb5:=(hC5.get ob4 hbu).trans b4
    have hob5:=hC5.old ob4
    have he5:=(hC5.get oe4 heu).trans e4
    have hoe5:=hC5.old oe4
    have hx5:=(hC5.get ox4 hxu).trans x4
    have hox5:=hC5.old ox4
    have hlen5:=hv5.sl.len
    rw[aa0] at hlen5
    have hfl:=jL x.own L
    rw[←aa M5]
    have hM15:Chg [q,o,b,er] M1 M5:=hM14.trans hC5 λi hi ho=>adD ho (hu.new i hi)
    have hN5:Chg (q::o::b::er::ids u) N M5:=(hN4.weak (T:=q::o::b::er::ids u) (by simp)).trans hC5 λi h _=>by simp[h]
    have hF:∀i∈q::o::b::er::ids v5,i∈q::o::b::er::ids u∨¬ap N i:=by
     intro i hi
     simp only[adJ] at hi ⊢
     rcases hi with rfl|rfl|rfl|rfl|hi
     ·simp
     ·simp
     ·simp
     ·simp
     ·rcases hF5 i hi with h|h
      ·exact Or.inl (Or.inr (Or.inr (Or.inr (Or.inr h))))
      ·exact Or.inr λho=>h (hN4.old ho)
    by_cases h12:12<(x.own.foldl dg L).length
    ·have hf:DG Z ((L,n),none) x=(((x.own.foldl dg L,n+x.own.length),some (x.a,3)),false):=by unfold DG;rw[adE hnz,adE hn,adF h12]
     rw[hf] at hK
     simp (disch:=first|omega|(simp only[aA]<;>omega)) only[go_sem,seval,h2,h3,h4,hq5,ho5,hx5,hb5,he5,t1,hv5.sl.one,hlen5]
     generalize hM6:hp _ 0 M5=M6
     have hC6:Chg [q,er,b,o] M5 M6:=az hM6 rfl
     have hC6':Chg [q,o,b,er] M5 M6:=hC6.weak (by simp)
     refine hK M6 ⟨_,BS hO hM15 hC6' ?_ ?_ ?_ ?_ hv5 (by show _<=n+_;have:L.length<=n:=hl;omega),hN5.trans hC6' (λi h _=>by simp at h ⊢;rcases h with h|h|h|h<;>simp[h]),hF⟩
     ·rw[←hM6];exact (aO hoq5).trans aC
     ·rw[←hM6];exact (aO hoo5).trans ((bf qo').trans ((bf oen).trans ((bf obn).trans aC)))
     ·rw[←hM6];exact (aO hob5).trans ((bf qb').trans ((bf ben).trans aC))
     ·rw[←hM6];exact (aO hoe5).trans ((bf qe').trans aC)
    ·have hf:DG Z ((L,n),none) x=(((x.own.foldl dg L,n+x.own.length),none),true):=by unfold DG;rw[adE hnz,adE hn,adE h12]
     rw[hf] at hK
     simp (disch:=first|omega|(simp only[aA]<;>omega)) only[go_sem,seval,h4,hq5,ho5,hv5.sl.one,hlen5]
     generalize hM6:hp _ 0 M5=M6
     have hC6:Chg [q,o] M5 M6:=az hM6 rfl
     have hC6':Chg [q,o,b,er] M5 M6:=hC6.weak (by simp)
     refine hK M6 ⟨_,BS hO hM15 hC6' ?_ ?_ ?_ ?_ hv5 (by show _<=n+_;have:L.length<=n:=hl;omega),hN5.trans hC6' (λi h _=>by simp at h ⊢;rcases h with h|h|h|h<;>simp[h]),hF⟩
     ·rw[←hM6];exact (aO hoq5).trans aC
     ·rw[←hM6];exact (aO hoo5).trans ((bf qo').trans aC)
     ·exact (hC6.get hob5 (by simp[qb',obn'])).trans hb5
     ·exact (hC6.get hoe5 (by simp[qe',oen'])).trans he5
section
variable {ck:D4} {B m0:NH} {vc:NV} {cs:List (List Nat×Int)} {T:D4->Prop}
end
section
variable {ck:D4} {B m0:NH} {vc:NV} {cs:List (List Nat×Int)} {T:D4->Prop}
end
theorem ZN  (l:List Stm):∀st:YP,st.2=none->(∀x∈l,x.sz<=100000000)->st.1.2+(l.flatMap Stm.own).length<=100000000->Al BdA (DG Z) l st:=by
 induction l with
 |nil=>intro st _ _ _;trivial
 |cons x l ih=>
  intro st h0 h1 h2
  rw[List.flatMap_cons,aa5] at h2
  refine⟨⟨h0,h1 x (ab2 ..),by omega⟩,λh=> ?_⟩
  have e:(DG Z st x).1=((x.own.foldl dg st.1.1,st.1.2+x.own.length),none):=by
   unfold DG at h ⊢
   split at h
   ·cases h
   ·split at h
    ·cases h
    ·split at h
     ·cases h
     ·rename_i a b c;rw[adE a,adE b,adE c]
  rw[e]
  exact ih _ rfl (λy hy=>h1 y (aa8 _ hy)) (by show st.1.2+_+_<=_;omega)
def kW (Z:List (List Nat)) (l:List Stm):Option (Int×Int):=(bD (DG Z) (ch l) (([],0),none)).1.2
theorem Uz  {l:List Stm} (hS:SS m0 T v l C) (hC0:Chg [] m0 m) (hm:m.get mo=some (.map (ir Z))) (hmo:ap m mo) (hsz:dC l<=10000000):
 ∃m',rT 130 [v,.map mo] m (.tup [ii (XX (kW Z l)),ii (Un (kW Z l))]) m'/\Chg [] m m':=by
 refine WF.ex1 λK hK=> ?_
 refine WF.of_wpM (λ_=>rfl) xr (L:= [(.a .e,.map mo),(.e,v)]) rfl ?_
 unfold Kb
 simp only[go_sem,seval,(TO _ hS.sl.one).wf']
 generalize hM0:hp _ 4 m=M0
 have hC1:Chg [] m M0:=az hM0 rfl
 have gc0:M0.get (na m 0)=some (.cells true [.map mo]):=aI hM0
 have gb0:M0.get (na m 1)=some (.cells true [ii 0]):=aI hM0
 have ge0:M0.get (na m 2)=some (.cells true [ii 0]):=aI hM0
 have go0:M0.get (na m 3)=some (.cells true [.nils]):=aI hM0
 have oc0:ap M0 (na m 0):=aL hM0 (by omega)
 have ob0:ap M0 (na m 1):=aL hM0 (by omega)
 have oe0:ap M0 (na m 2):=aL hM0 (by omega)
 have oo0:ap M0 (na m 3):=aL hM0 (by omega)
 have gm0:=(hC1.get hmo (by simp)).trans hm
 have om0:=hC1.old hmo
 generalize hM:hp [(.n 0,.cells true [v])] 1 M0=M
 have hC2:Chg [] M0 M:=az hM rfl
 have gz:M.get (na M0 0)=some (.cells true [v]):=aI hM
 have oz:ap M (na M0 0):=aL hM (by omega)
 have hCm:Chg [] m M:=hC1.tr hC2
 generalize ht:puts [(D4.e.b.b,NV.fn 269 [NV.ptr (na M0 0) 0]),(D4.e.b.a,v),(D4.e.a.b,NV.ptr (na m 3) 0),(D4.e.a.a,NV.ptr (na m 2) 0),(D4.e.f,NV.ptr (na m 1) 0),(D4.e.c,NV.ptr (na m 0) 0),(D4.e.a,NV.map mo),(D4.e,v)] NT.leaf=t
 have g1:NT.get D4.e.c t=some (.ptr (na m 0) 0):=by rw[←ht];simp only[go_sem,seval]
 have g2:NT.get D4.e.b.b t=some (.fn 269 [.ptr (na M0 0) 0]):=by rw[←ht];simp only[go_sem,seval]
 have g3:NT.get D4.e.f t=some (.ptr (na m 1) 0):=by rw[←ht];simp only[go_sem,seval]
 have g4:NT.get D4.e.a.a t=some (.ptr (na m 2) 0):=by rw[←ht];simp only[go_sem,seval]
 have g5:NT.get D4.e.a.b t=some (.ptr (na m 3) 0):=by rw[←ht];simp only[go_sem,seval]
 clear ht
 generalize hM1:hp [(.n 1,.loop 0 .none t [D4.e.b.c] dL eq),(.n 0,.defd true)] 2 M=M1
 have hG:Chg [] M M1:=az hM1 rfl
 have oq:ap M1 (na M 1):=aL hM1 (by omega)
 have om:ap M1 (na M 0):=aL hM1 (by omega)
 have gq:M1.get (na M 1)=some (.loop 0 .none t [D4.e.b.c] dL eq):=aI hM1
 have gm:M1.get (na M 0)=some (.defd true):=aI hM1
 have hG2:Chg [] M0 M1:=hC2.tr hG
 have hCm1:Chg [] m M1:=hCm.tr hG
 have n01:∀{i:D4} {k:Nat},ap M0 i->i≠na M k:=λh=>(hC2.old h).ne _
 have nm:∀{j k:Nat},j≠k->na m j≠na m k:=λh e=>h (fp e)
 have hO:BdO (na M 1) (na m 3) (na m 1) (na m 2) (na m 0) mo M1:=by
  refine⟨(n01 oo0).symm,(n01 ob0).symm,(n01 oe0).symm,nm (by omega),nm (by omega),nm (by omega),oq,hG2.old oo0,hG2.old ob0,hG2.old oe0,hG2.old oc0,hG2.old om0, ?_, ?_⟩
  ·simp only[adJ,adI,or_false,not_or]
   exact⟨n01 oc0,nm (by omega),nm (by omega),nm (by omega)⟩
  ·simp only[adJ,adI,or_false,not_or]
   exact⟨n01 om0,hmo.ne 3,hmo.ne 1,hmo.ne 2⟩
 have h0:∀S,Chg [na M 1,na m 3,na m 1,na m 2] M1 S->Chg [] m0 S:=λS h=>(hC0.tr hCm1).trans h λi hi ho=>by
  simp only[adJ,adI,or_false] at hi
  rcases hi with rfl|rfl|rfl|rfl
  ·exact adD (hCm.old (hC0.old ho)) ak
  ·exact adD (hC0.old ho) ak
  ·exact adD (hC0.old ho) ak
  ·exact adD (hC0.old ho) ak
 have hY:=Q7 (T:=T) hO g1 g3 g4 g5 ((hG2.get oc0 (by simp)).trans gc0) ((hG2.get om0 (by simp)).trans gm0) h0
 obtain⟨hA1,hA2⟩:=wn l
 obtain⟨m',hr,F',⟨u,rfl,hC3,hq3,ho3,hb3,he3,hu3,-⟩,hC4,-⟩:=Qi hY (s:=(([],0),none)) (F:= [na M 1,na m 3,na m 1,na m 2]) (id:=na M0 0) ((hG.get oz (by simp)).trans gz) hS ⟨.nils,rfl,(Chg.refl M1).weak (by simp),gq,(hG2.get oo0 (by simp)).trans go0,(hG2.get ob0 (by simp)).trans gb0,(hG2.get oe0 (by simp)).trans ge0,aQ.nil,by simp⟩ (ZN _ _ rfl (λx hx=>by have:=hA1 x hx;omega) (by show 0+_<=_;omega)) (by omega)
 change m'.get _=some (.loop (ZX (kW Z l)) (lpJ (kW Z l)) _ _ _ _) at hq3
 change m'.get _=some (.cells true [ii (XX (kW Z l))]) at hb3
 change m'.get _=some (.cells true [ii (Un (kW Z l))]) at he3
 have hst:ZX (kW Z l)≠1:=by cases kW Z l<;>simp[ZX]
 refine W.rangeJ g2 (hM1▸hr) hq3 hst ?_ (hC3.old oq)
 have gm3:m'.get (na M 0)=some (.defd true):=(hC3.get om (by
  simp only[adJ,adI,or_false,not_or]
  exact⟨λe=>by have:=fp e;omega,λe=>n01 oo0 e.symm,λe=>n01 ob0 e.symm,λe=>n01 oe0 e.symm⟩)).trans gm
 have om3:=hC3.old om
 have ob3:=hC3.old (hG2.old ob0)
 have oe3:=hC3.old (hG2.old oe0)
 have hne:na M 0≠na M 1:=λe=>by have:=fp e;omega
 have n1:na m 1≠na M 1:=n01 ob0
 have n1':na m 1≠na M 0:=n01 ob0
 have n2:na m 2≠na M 1:=n01 oe0
 have n2':na m 2≠na M 0:=n01 oe0
 have n3:na m 1≠na m 2:=nm (by omega)
 have n3':na m 2≠na m 1:=nm (by omega)
 have fin:∀{S:List D4} {Me:NH},Chg S m' Me->(∀i∈S,i∈ [na M 1,na M 0,na m 1,na m 2])->Chg [] m Me:=by
  intro S Me hCe hS
  refine ((hCm1.weak (T:= [na M 1,na m 3,na m 1,na m 2,na M 0]) (by simp)).trans hC3 λi h _=>by simp at h ⊢;rcases h with h|h|h|h<;>simp[h]).trans hCe (λi h _=>by have:=hS i h;simp at this ⊢;rcases this with h|h|h|h<;>simp[h]) |>.weak λi hi ho=> ?_
  simp only[adJ,adI,or_false] at hi
  rcases hi with rfl|rfl|rfl|rfl|rfl
  ·exact adD (hCm.old ho) ak
  ·exact adD ho ak
  ·exact adD ho ak
  ·exact adD ho ak
  ·exact adD (hCm.old ho) ak
 have n1s:=n1'.symm
 have n2s:=n2'.symm
 have n1t:=n1.symm
 have n2t:=n2.symm
 have hne':=hne.symm
 cases hb:kW Z l with
 |none=>
  rw[hb] at hb3 he3 hK
  change jX _ _ (FI .none) ⟨puts [] t,_,_,_⟩
  simp (disch:=first|omega|(simp only[aA]<;>omega)) only[go_sem,seval,FI,g3,g4,gm3,hb3,he3]
  refine nP ?_
  rw[EP]
  simp (disch:=omega) only[go_sem,seval,g3,g4,hb3,he3]
  refine hK _ ?_
  generalize hMe:hp _ 0 m'=Me
  have hCe:Chg [na M 0,na m 2,na m 1,na M 1] m' Me:=az hMe rfl
  exact fin hCe (by simp)
 |some z=>
  obtain⟨za,ze⟩:=z
  rw[hb] at hb3 he3 hK
  change jX _ _ (FI .ret) ⟨puts [] t,_,_,_⟩
  simp (disch:=omega) only[go_sem,seval,FI,gm3]
  refine nP ?_
  rw[EP]
  simp (disch:=omega) only[go_sem,seval,g3,g4,hb3,he3]
  refine hK _ ?_
  generalize hMe:hp _ 0 m'=Me
  have hCe:Chg [na M 0,na M 1] m' Me:=az hMe rfl
  exact fin hCe (by simp)
def tq (Z:List (List Nat)) (r:List Stm):List (List Stm)->Int×Int
 | []=>(XX (kW Z r),Un (kW Z r))
 |b::l=>if Un (kW Z b)≠0 then (XX (kW Z b),Un (kW Z b)) else tq Z r l
def aaf (p:Prg):List (List Nat):=(p.cs.map (·.1)).foldl dg []
def uS (p:Prg):Int×Int:=if BZ p≠0 then (0,BZ p) else tq (aaf p) p.r (p.ts.map (·.2))
theorem TQ  {p:Prg} {vt vr:NV} (h:RP m T p vc vt vr) (hs:p.cs.length<=1000000/\p.ts.length<=1000000) (hz:∀t∈p.ts,dC t.2<=10000000) (hr:dC p.r<=10000000):
 ∃m',rT 75 [.agg [vc,vt,vr]] m (.tup [ii (uS p).1,ii (uS p).2]) m'/\Chg [] m m':=by
 refine WF.ex1 λK hK=> ?_
 refine WF.of_wpG (λ_=>rfl) GV (L:= [(.e,.agg [vc,vt,vr])]) rfl ?_
 unfold WA
 obtain⟨hcs,hts⟩:=hs
 obtain⟨Ct,hT⟩:=h.t
 obtain⟨Cr,hR⟩:=h.r
 have hlc:=h.c.len
 rw[aa0] at hlc
 have hlt:=hT.sl.len
 rw[hT.len] at hlt
 generalize hM0:hp [(.n 0,.cells true [vc,vt,vr])] 1 m=M0
 have hC0:Chg [] m M0:=az hM0 rfl
 have g0:M0.get (na m 0)=some (.cells true [vc,vt,vr]):=aI hM0
 have o0:ap M0 (na m 0):=aL hM0 (by omega)
 obtain⟨M1,hr1,hC1⟩:=Vy (h.stays (sw hC0 T)) ⟨hcs,hts⟩
 have g1:=(hC1.get o0 (by simp)).trans g0
 have o1:=hC1.old o0
 have hC01:Chg [] m M1:=hC0.tr hC1
 unfold uS at hK
 by_cases h0:BZ p=0
 ·rw[h0] at hr1
  rw[adE (by simp[h0])] at hK
  simp (disch:=first|omega|(simp only[aA]<;>omega)) only[go_sem,seval,hM0,g0,hr1.wf,g1,hlc]
  generalize hM2:hp _ 1 M1=M2
  have hC2:Chg [] M1 M2:=az hM2 rfl
  have gm2:M2.get (na M1 0)=some (.map (ir [])):=aI hM2
  have om2:ap M2 (na M1 0):=aL hM2 (by omega)
  have hC02:=hC01.tr hC2
  have g2:=(hC2.get o1 (by simp)).trans g1
  have o2:=hC2.old o1
  have hnm:na m 0≠na M1 0:=o1.ne 0
  refine W.loop (λk d=>∃t M i,d=⟨t, [],none,M⟩/\NT.get D4.e.a t=some (.ptr (na m 0) 0)/\NT.get D4.e.a.a t=some (.map (na M1 0))/\NT.get D4.e.f.c t=some vc/\NT.get D4.e.f.f t=some (ii p.cs.length)/\NT.get D4.e.a.a.a t=some (ii (i:Nat))/\i+k=p.cs.length/\M.get (na M1 0)=some (.map (ir (((p.cs.map (·.1)).take i).foldl dg [])))/\Chg [na M1 0] M2 M) ?_ p.cs.length _ ⟨_,M2,0,rfl,by exact gq rfl,by exact gq rfl,by exact gq rfl,by exact gq rfl,by exact gq rfl,by omega,gm2,(Chg.refl M2).weak (by simp)⟩
  rintro k d ⟨t,M,i,rfl,a1,a2,a3,a4,a5,hik,gm,hC⟩
  apply av
  unfold uu
  change wp _ _ _ _ ⟨puts [] t, [],none,M⟩ _
  have omM:=hC.old om2
  have gM:=(hC.get o2 (by simpa using hnm)).trans g2
  have oM:=hC.old o2
  have hC0M:Chg [] m M:=hC02.trans hC λi hi ho=>by
   have hi:=one hi;subst hi;exact adD (hC01.old ho) ak
  rw[←aa M]
  by_cases hi:i<p.cs.length
  ·obtain⟨id,off,wr,c,b1,b2,b3,b4,b5⟩:=h.c.at i (by simpa using hi)
   rw[aa4] at b5
   have b2':=(hC0M.get b3 (by simp)).trans b2
   have b3':=hC0M.old b3
   have htk:(p.cs.map (·.1)).take (i+1)=(p.cs.map (·.1)).take i++ [p.cs[i].1]:=by
    rw[ab7,List.getElem?_map,List.getElem?_eq_getElem hi];rfl
   simp (disch:=first|omega|(simp only[aA]<;>omega)) only[go_sem,seval,a2,a3,a4,a5,b1,b2',b5,gm]
   generalize hM3:hp _ 1 M=M3
   have hC3:Chg [na M1 0] M M3:=az hM3 rfl
   refine⟨k - 1,by omega,_,M3,i+1,by rfl,by exact gq a1,by exact gq a2,by exact gq a3,by exact gq a4,by exact gq rfl,by omega, ?_,hC.trans hC3 λ_ h _=>h⟩
   rw[htk,List.foldl_append,←hM3]
   exact (aO omM).trans aC
  ·rw[ac9 (by simp;omega)] at gm
   simp (disch:=omega) only[go_sem,seval,a1,a4,a5,gM,hlt,aa]
   generalize hZ:aaf p=Z at hK
   rw[show (p.cs.map (·.1)).foldl dg []=Z from hZ] at gm
   refine W.loop (λk d=>∃t N i,d=⟨t, [],none,N⟩/\NT.get D4.e.a t=some (.ptr (na m 0) 0)/\NT.get D4.e.a.a t=some (.map (na M1 0))/\NT.get D4.e.a.c.b t=some vt/\NT.get D4.e.a.c.c t=some (ii p.ts.length)/\NT.get D4.e.a.c.f t=some (ii (i:Nat))/\i+k=p.ts.length/\tq Z p.r ((p.ts.map (·.2)).drop i)=tq Z p.r (p.ts.map (·.2))/\Chg [] M N) ?_ p.ts.length _ ⟨_,M,0,rfl,by exact gq a1,by exact gq a2,by exact gq rfl,by exact gq rfl,by exact gq rfl,by omega,rfl,Chg.refl M⟩
   clear a1 a2 a3 a4 a5 hik
   rintro k d ⟨t,N,i,rfl,a1,a2,a3,a4,a5,hik,hE,hC⟩
   apply av
   unfold G5
   change wp _ _ _ _ ⟨puts [] t, [],none,N⟩ _
   have gN:=(hC.get oM (by simp)).trans gM
   have hC0N:=hC0M.tr hC
   have gmN:=(hC.get omM (by simp)).trans gm
   have omN:=hC.old omM
   rw[←aa N]
   by_cases hi:i<p.ts.length
   ·obtain⟨vb,B,id,off,wr,c,hSb,b1,b2,b3,b4,b5⟩:=hT.at i hi
    have b2':=(hC0N.get b3 (by simp)).trans b2
    have b3':=hC0N.old b3
    have hzi:=hz _ (aa9 hi)
    rw[ab8 (by simpa using hi),aa4,tq] at hE
    simp (disch:=first|omega|(simp only[aA]<;>omega)) only[go_sem,seval,a2,a3,a4,a5,b1,b2',b5]
    generalize hN1:hp _ 1 N=N1
    have hC1':Chg [] N N1:=az hN1 rfl
    obtain⟨N2,hr2,hC2'⟩:=Uz hSb (hC0N.tr hC1') ((hC1'.get omN (by simp)).trans gmN) (hC1'.old omN) hzi
    have hCN2:=hC1'.tr hC2'
    by_cases he:Un (kW Z p.ts[i].2)=0
    ·rw[adE (by simp[he])] at hE
     rw[he] at hr2
     simp (disch:=first|assumption|omega|(apply aq;omega)|(apply au;assumption)|(simp only[aA]<;>omega)) only[go_sem,seval,hr2.wf',a5]
     exact⟨k - 1,by omega,_,N2,i+1,by rfl,by exact gq a1,by exact gq a2,by exact gq a3,by exact gq a4,by exact gq rfl,by omega,hE,hC.tr hCN2⟩
    ·rw[adF he] at hE
     rw[←hE] at hK
     simp (disch:=first|assumption|omega|(apply aq;omega)|(apply au;assumption)|(simp only[aA]<;>omega)) only[go_sem,seval,hr2.wf']
     exact hK _ (hC0N.tr hCN2)
   ·rw[ad0 (by simp;omega),tq] at hE
    rw[←hE] at hK
    obtain⟨N2,hr2,hC2'⟩:=Uz hR hC0N gmN omN hr
    simp (disch:=omega) only[go_sem,seval,a1,a2,a4,a5,gN,aa,hr2.wf']
    exact hK _ (hC0N.tr hC2')
 ·rw[adF h0] at hK
  simp (disch:=first|omega|(simp only[aA]<;>omega)) only[go_sem,seval,hM0,g0,hr1.wf']
  exact hK _ hC01
def Fo (c:Nat):Bool:=decide (97<=c/\c<=122)
def ip (c:Nat):Bool:=decide (48<=c/\c<=57)
def eI (c:Nat):Bool:=Fo c||ip c||decide (c=95)
def sL (c:Nat):Bool:=decide (c=32∨c=9∨c=10∨c=13)
def aW (p:Nat->Bool) (s:List Nat) (a:Nat):Nat:=a+((s.drop a).takeWhile p).length
theorem dI  (h:a<s.length) (hp:p s[a]=true):aW p s a=aW p s (a+1):=by
 unfold aW
 rw[ab8 h,List.takeWhile_cons,adF hp,ab4]
 omega
theorem kA  (h:a<s.length) (hp:p s[a]=false):aW p s a=a:=by
 unfold aW
 rw[ab8 h,List.takeWhile_cons,adE (by simp[hp])];rfl
theorem jF  (h:s.length<=a):aW p s a=a:=by
 unfold aW
 rw[af6 h];rfl
theorem km {p:Nat->Bool} {s:List Nat} {a:Nat}:a<=aW p s a:=by unfold aW;omega
theorem js  (h:a<=s.length):aW p s a<=s.length:=by
 unfold aW
 have:=(List.takeWhile_sublist (l:=s.drop a) p).length_le
 rw[ac6] at this;omega
def FG:Bool->List Nat->Nat
 |_, []=>0
 |false,c::l=>if sL c then 1+FG false l else if c=35 then 1+FG true l else 0
 |true,c::l=>if c=10 then 1+FG false l else 1+FG true l
def bF (s:List Nat) (a:Nat):Nat:=a+FG false (s.drop a)
theorem Vl:∀(l:List Nat) (q:Bool),FG q l<=l.length:=by
 intro l
 induction l with
 |nil=>intro q;cases q<;>exact aa2 0
 |cons c l ih=>
  intro q
  have h1:=ih false
  have h2:=ih true
  cases q with
  |false=>
   show (if sL c then 1+FG false l else if c=35 then 1+FG true l else 0)<=l.length+1
   split
   ·omega
   ·split<;>omega
  |true=>
   show (if c=10 then 1+FG false l else 1+FG true l)<=l.length+1
   split<;>omega
def oP (s:List Nat) (a:Nat):Nat:=a+FG true (s.drop a)
theorem iU  (h:a<s.length):bF s a=if sL s[a] then bF s (a+1) else if s[a]=35 then oP s (a+1) else a:=by
 unfold bF oP
 rw[ab8 h]
 show a+(if sL s[a] then 1+FG false (s.drop (a+1)) else if s[a]=35 then 1+FG true (s.drop (a+1)) else 0)=_
 split
 ·omega
 ·split<;>omega
theorem qT  (h:a<s.length):oP s a=if s[a]=10 then bF s (a+1) else oP s (a+1):=by
 unfold bF oP
 rw[ab8 h]
 show a+(if s[a]=10 then 1+FG false (s.drop (a+1)) else 1+FG true (s.drop (a+1)))=_
 split<;>omega
theorem tA  (h:s.length<=a):bF s a=a:=by
 unfold bF;rw[af6 h];rfl
theorem IK  (h:s.length<=a):oP s a=a:=by
 unfold oP;rw[af6 h];rfl
theorem mw  (h:a<=s.length):bF s a<=s.length:=by
 have:=Vl (s.drop a) false
 rw[ac6] at this
 unfold bF;omega
theorem AO :a<=bF s a:=by unfold bF;omega
theorem QP (s:List Nat):∀(k a:Nat),k=s.length - a->oP s a=bF s (aW (λc=>decide (c≠10)) s a):=by
 intro k
 induction k with
 |zero=>intro a hk;rw[jF (by omega),IK (by omega),tA (by omega)]
 |succ k ih=>
  intro a hk
  have ha:a<s.length:=by omega
  by_cases h:s[a]=10
  ·rw[kA ha (by simp[h]),qT ha,adF h,iU ha,adF (by simp[sL,h])]
  ·rw[dI ha (by simp[h]),qT ha,adE h];exact ih (a+1) (by omega)
theorem Fk  (h:a<s.length) (hs:s[a]=35):bF s a=bF s (aW (λc=>decide (c≠10)) s a):=by
 rw[dI h (by simp[hs]),iU h,adE (by simp[sL,hs]),adF hs,QP s _ _ rfl]
theorem IC  (h:a<s.length) (hb:sL s[a]=false) (hs:s[a]≠35):bF s a=a:=by
 rw[iU h,adE (by simp[hb]),adE hs]
def lm:List (List Nat):= [[99,101,108,108], [116,104,114,101,97,100], [114,101,99,111,118,101,114], [115,101,116], [108,111,97,100], [115,116,111,114,101], [99,97,115], [102,101,110,99,101], [111,117,116], [105,102], [101,108,115,101], [119,104,105,108,101]]
def De:List Nat->Nat->Option Nat
 | [],n=>some n
 |c::l,n=>if 10*n+(c - 48)<18446744073709551616 then De l (10*n+(c - 48)) else none
def vC (s:List Nat):Option Nat:=if 1<s.length/\s[0]? =some 48 then none else De s 0
def jZ:List Nat:= [123,125,40,41,91,93,59,43,45,42,38,61,60]
def cut (s:List Nat) (a e:Nat):List Nat:=(s.take e).drop a
def eG (s:List Nat) (a:Nat):Option (Nat×List Nat×Nat×Nat):=
 match s[a]? with
 |none=>none
 |some c=>
  if Fo c then (if cut s a (aW eI s a)∈lm then some (4,cut s a (aW eI s a),0,aW eI s a) else if (cut s a (aW eI s a)).length<=16 then some (1,cut s a (aW eI s a),0,aW eI s a) else none)
  else if ip c then (match vC (cut s a (aW ip s a)) with|some n=>if aW eI s a=aW ip s a then some (2, [],n,aW ip s a) else none|none=>none)
  else if c∈jZ then some (3, [c],0,a+1) else none
theorem gG {a n d:Int} {t:List Nat}:aU 4 (.agg [.int .i64 (.lit a),.str t,.int .u64 (.lit n),.int .i64 (.lit d)]) (.agg [.int .i64 (.lit a),.str t,.int .u64 (.lit n),.int .i64 (.lit d)])=true:=by
 refine qK ?_
 intro v hv
 simp only[adJ,adI,or_false] at hv
 rcases hv with rfl|rfl|rfl|rfl<;>trivial
theorem Ht (p:Nat->Bool) (s:List Nat) (a:Nat):cut s a (aW p s a)=(s.drop a).takeWhile p:=by
 unfold cut aW
 rw[List.drop_take,Nat.add_sub_cancel_left]
 exact (List.prefix_iff_eq_take.mp (List.takeWhile_prefix p)).symm
theorem U0  {c:Nat} (hb:s[a]? =some c) (hp:p c=true):∃l,cut s a (aW p s a)=c::l:=by
 rw[Ht]
 obtain⟨ha,hc⟩:=List.getElem?_eq_some_iff.mp hb
 rw[ab8 ha,hc,List.takeWhile_cons,hp]
 exact⟨_,rfl⟩
theorem GB (p:Nat->Bool) (l:List Nat):∀c∈l.takeWhile p,p c=true:=by
 induction l with
 |nil=>intro c h;simp at h
 |cons x l ih=>
  intro c h
  rw[List.takeWhile_cons] at h
  split at h
  ·rcases aa1.mp h with rfl|h
   ·assumption
   ·exact ih c h
  ·simp at h
theorem tL (p:Nat->Bool) (s:List Nat) (a:Nat):∀c∈cut s a (aW p s a),p c=true:=by rw[Ht];exact GB p _
theorem S4 (c:Nat) (h:ip c=true):eI c=true:=by unfold eI;rw[h];simp
structure Tok where
 k:Nat
 t:List Nat
 n:Nat
 p:Nat
variable {L:List Tok}
def Tok.l (x:Tok):List NV:= [ii x.k,.str x.t,u64 x.n,ii x.p]
def dV (s:List Nat):Nat->Nat->List Tok×Option Nat
 |0,_=>([],none)
 |k+1,a=>if a<s.length then (match eG s a with
  |none=>([],some a)
  |some (kd,t,n,e)=>(⟨kd,t,n,a⟩::(dV s k (bF s e)).1,(dV s k (bF s e)).2)) else ([⟨5, [],0,s.length⟩],none)
def bG (s:List Nat):List Tok×Option Nat:=dV s (s.length+1) (bF s 0)
theorem Qe  {c:Nat} (hb:s[a]? =some c) (hp:p c=true):a<aW p s a:=by
 obtain⟨ha,hc⟩:=List.getElem?_eq_some_iff.mp hb
 rw[dI ha (by rw[hc];exact hp)]
 exact km
theorem JT  {kd:Nat} {t:List Nat} (h:eG s a=some (kd,t,n,e)):a<e/\e<=s.length:=by
 unfold eG at h
 cases hb:s[a]? with
 |none=>rw[hb] at h;cases h
 |some c=>
  rw[hb] at h
  obtain⟨ha,hc⟩:=List.getElem?_eq_some_iff.mp hb
  dsimp only at h
  have g1:Fo c=true->a<aW eI s a:=λq=>Qe hb (by unfold eI;rw[q];rfl)
  have g2:ip c=true->a<aW ip s a:=λq=>Qe hb q
  have l1:=js (p:=eI) (s:=s) (a:=a) (by omega)
  have l2:=js (p:=ip) (s:=s) (a:=a) (by omega)
  split at h
  ·rename_i hL
   split at h
   ·cases h;exact⟨g1 hL,l1⟩
   ·split at h
    ·cases h;exact⟨g1 hL,l1⟩
    ·cases h
  ·split at h
   ·rename_i hD
    split at h
    ·split at h
     ·cases h;exact⟨g2 hD,l2⟩
     ·cases h
    ·cases h
   ·split at h
    ·cases h;exact⟨by omega,by omega⟩
    ·cases h
theorem Iq (s:List Nat):∀(k a:Nat),(dV s k a).1.length<=k:=by
 intro k
 induction k with
 |zero=>intro a;simp[dV]
 |succ k ih=>
  intro a
  unfold dV
  split
  ·split
   ·simp
   ·rename_i kd t n e _
    have:=ih (bF s e)
    simp only[ab4];omega
  ·simp
def XS (s:List Nat):Int->List Tok->Prop
 |_, []=>True
 |w,x::l=>w<x.p/\x.p<=s.length/\x.t.length<=s.length - x.p/\cut s x.p (x.p+x.t.length)=x.t/\(x.k=5↔l= [])/\XS s x.p l
theorem HR  (h:e<=s.length):(cut s a e).length=e - a:=by unfold cut;rw[ac6,aa7];omega
theorem vM (s:List Nat) (a:Nat):cut s a a= []:=by unfold cut;exact List.drop_take_self
theorem Ts  (h:e<=s.length) (h':a<=e):cut s a (a+(cut s a e).length)=cut s a e:=by rw[HR h,Nat.add_sub_cancel' h']
theorem Sz  {c:Nat} (hb:s[a]? =some c):cut s a (a+1)= [c]:=by
 obtain⟨ha,hc⟩:=List.getElem?_eq_some_iff.mp hb
 unfold cut
 rw[ab7,hb]
 simp only[ae6]
 rw[List.drop_append_of_le_length (by rw[aa7];omega),List.drop_take_self];rfl
theorem Xw  {kd:Nat} {t:List Nat} (h:eG s a=some (kd,t,n,e)):kd≠5/\t.length<=s.length - a/\cut s a (a+t.length)=t:=by
 unfold eG at h
 cases hb:s[a]? with
 |none=>rw[hb] at h;cases h
 |some c=>
  rw[hb] at h
  obtain⟨ha,hc⟩:=List.getElem?_eq_some_iff.mp hb
  dsimp only at h
  have l1:=js (p:=eI) (s:=s) (a:=a) (by omega)
  have l2:=km (p:=eI) (s:=s) (a:=a)
  have c1:=Ts l1 l2
  have c2:=HR (a:=a) l1
  split at h
  ·split at h
   ·cases h;exact⟨by omega,by omega,c1⟩
   ·split at h
    ·cases h;exact⟨by omega,by omega,c1⟩
    ·cases h
  ·split at h
   ·split at h
    ·split at h
     ·cases h;exact⟨by omega,by simp,vM s a⟩
     ·cases h
    ·cases h
   ·split at h
    ·cases h;exact⟨by omega,by simp;omega,Sz hb⟩
    ·cases h
theorem Ly (s:List Nat):∀(k a:Nat) (w:Int),s.length<=a+k->a<=s.length->w<a->(dV s (k+1) a).2=none->XS s w (dV s (k+1) a).1/\(dV s (k+1) a).1≠ []:=by
 intro k
 induction k with
 |zero=>
  intro a w h1 h2 h3 h4
  rw[dV,adE (by omega)]
  exact⟨⟨by simp;omega,aa2 _,by simp,vM s _,by simp,trivial⟩,by simp⟩
 |succ k ih=>
  intro a w h1 h2 h3 h4
  by_cases ha:a<s.length
  ·rw[dV,adF ha] at h4 ⊢
   cases hk:eG s a with
   |none=>rw[hk] at h4;cases h4
   |some x=>
    obtain⟨kd,t,n,e⟩:=x
    rw[hk] at h4
    obtain⟨e1,e2⟩:=JT hk
    obtain⟨t1,t2,t3⟩:=Xw hk
    have g1:e<=bF s e:=AO
    obtain⟨i1,i2⟩:=ih (bF s e) a (by omega) (mw e2) (by omega) h4
    exact⟨⟨h3,by simp;omega,t2,t3,⟨λq=>adD q t1,λq=>adD q i2⟩,i1⟩,by simp⟩
  ·rw[dV,adE ha]
   exact⟨⟨by simp;omega,aa2 _,by simp,vM s _,by simp,trivial⟩,by simp⟩
theorem Q6  (h:(bG s).2=none):XS s (-1) (bG s).1/\(bG s).1≠ []:=by
 have:=mw (s:=s) (a:=0) (Nat.zero_le _)
 exact Ly s s.length (bF s 0) (-1) (by omega) this (by omega) h
structure Rs where
 (a e b:Nat)
variable {B:Rs->List Stm×Rs} {E:Rs->Ex×Rs}
def aM (L:List Tok) (a:Nat):Tok:=(L[a]?).getD ⟨0, [],0,0⟩
def bL (e:Nat) (s:Rs):Rs:=if s.e=0 then ⟨s.a,e,s.a⟩ else s
def ay (s:Rs):Rs:=⟨s.a+1,s.e,s.b⟩
def iR:List Nat->Nat
 |c::_=>if Fo c then 4 else 3
 | []=>3
def aJ (L:List Tok) (w:List Nat) (s:Rs):Bool:=decide (s.e=0/\(aM L s.a).k=iR w/\(aM L s.a).t=w)
def cV (L:List Tok) (w:List Nat) (s:Rs):Rs:=if aJ L w s then ay s else bL 2 s
def aX (L:List Tok) (s:Rs):List Nat×Rs:=if s.e≠0∨(aM L s.a).k≠1 then ([],bL 2 s) else ((aM L s.a).t,ay s)
structure RD (m:NH) (r:D4) (vl:NV) (s:Rs) (rest:List NV):Prop where
 g:m.get r=some (.cells true (vl::ii s.a::ii s.e::ii s.b::rest))
 o:ap m r
structure RC (m0:NH) (L:List Tok) (vl:NV) (r:D4):Prop where
 sl:Sl m0 vl 4 (L.map Tok.l)
 len:L.length<=20000
 no:¬ap m0 r
theorem RD.chg  {vl:NV} {s:Rs} {rest:List NV} (h:RD m r vl s rest) (hC:Chg S m m') (hr:r∉S):RD m' r vl s rest:=⟨(hC.get h.o hr).trans h.g,hC.old h.o⟩
theorem RC.chg  {vl:NV} (h:RC m0 L vl r) (h0:Chg [] m0 m) (hC:Chg [r] m m'):Chg [] m0 m':=h0.trans hC λi hi ho=>by
 have hi:=one hi;subst hi;exact adD ho h.no
theorem pY  {s:Rs} (h:aJ L w s=true):s.e=0/\s.a<L.length:=by
 obtain⟨h1,h2,h3⟩:=of_decide_eq_true h
 refine⟨h1, ?_⟩
 rcases ac2 s.a L.length with q|q
 ·exact q
 ·rw[aM,List.getElem?_eq_none q] at h2
  have:iR w≠0:=by unfold iR;split;split<;>omega;omega
  exact adD h2.symm this
section
variable {m0 m:NH} {L:List Tok} {vl:NV} {r:D4} {s:Rs} {rest:List NV}
end
abbrev Qu (n:Nat):Ex:= .mk 0 n 0 [] []
abbrev Hg (s:List Nat):Ex:= .mk 1 0 0 s []
abbrev JL (o:Nat) (x y:Ex):Ex:= .mk 2 0 o [] [x,y]
mutual
def Ex.depth:Ex->Nat
 | .mk _ _ _ _ ks=>ja ks+1
def ja:List Ex->Nat
 | []=>0
 |x::xs=>max x.depth (ja xs)
end
section
variable (L:List Tok)
def iI (E:Rs->Ex×Rs) (d:Nat) (s:Rs):Ex×Rs:=
 if s.e≠0 then (zE,s) else if 29<d then (zE,bL 11 s) else if (aM L s.a).k=2 then (Qu (aM L s.a).n,ay s) else if (aM L s.a).k=1 then (Hg (aM L s.a).t,ay s)
 else if aJ L [40] s=true then ((E (ay s)).1,cV L [41] (E (ay s)).2) else (zE,bL 2 s)
def iQ (T:Tok):Nat:=if T.k=3/\T.t.length=1 then T.t.headD 0 else 0
def oX (o:Nat):Bool:=decide (o=43∨o=45∨o=42∨o=38∨o=61∨o=60)
def ma (P:Rs->Ex×Rs):Nat->Ex->Rs->Ex×Rs
 |0,x,s=>(x,s)
 |f+1,x,s=>if s.e≠0 then (x,s) else if oX (iQ (aM L s.a))=false then (x,s) else
  if (P (ay s)).2.e≠0 then (x,(P (ay s)).2) else
   ma P f (JL (iQ (aM L s.a)) x (P (ay s)).1) (if 30<(JL (iQ (aM L s.a)) x (P (ay s)).1).depth then bL 11 (P (ay s)).2 else (P (ay s)).2)
def oE (E:Rs->Ex×Rs) (d:Nat) (s:Rs):Ex×Rs:=ma L (iI L E d) (L.length+1) (iI L E d s).1 (iI L E d s).2
def lI:Nat->Rs->Ex×Rs
 |0,s=>oE L (λs=>(zE,s)) 30 s
 |n+1,s=>oE L (lI n) (29 - n) s
end
structure St (L:List Tok) (s s':Rs):Prop where
 le:s.a<=s'.a
 lim:s.a<=L.length->s'.a<=L.length
 err:s.e≠0->s'=s
 lim2:∀{N:Nat},(∀a,1<=(aM L a).k->(aM L a).k<=4->a<N)->s.a<=N->s.b<=N->s'.a<=N/\s'.b<=N
theorem St.refl (L:List Tok) (s:Rs):St L s s:=⟨aa2 _,λh=>h,λ_=>rfl,λ_ h1 h2=>⟨h1,h2⟩⟩
theorem St.trans  {a b c:Rs} (h:St L a b) (h':St L b c):St L a c:=⟨ab9 h.le h'.le,λq=>h'.lim (h.lim q),λq=>by have:=h.err q;subst this;exact h'.err q,λhN h1 h2=>let ⟨q1,q2⟩:=h.lim2 hN h1 h2;h'.lim2 hN q1 q2⟩
theorem dP (L:List Tok) (e:Nat) (s:Rs):St L s (bL e s):=by
 unfold bL
 split
 ·exact⟨aa2 _,λh=>h,λh=>adD ‹_› h,λ_ h1 _=>⟨h1,h1⟩⟩
 ·exact St.refl L s
theorem jn  {s:Rs} (h:s.a<L.length) (he:s.e=0) (hk:1<=(aM L s.a).k/\(aM L s.a).k<=4):St L s (ay s):=⟨Nat.le_succ _,λ_=>h,λq=>adD he q,λhN _ h2=>⟨hN _ hk.1 hk.2,h2⟩⟩
theorem dO  {s:Rs} (h:aJ L w s=true):St L s (ay s):=by
 obtain⟨h1,h2,h3⟩:=of_decide_eq_true h
 refine jn (pY h).2 h1 ?_
 rw[h2]
 unfold iR
 split
 ·split<;>omega
 ·omega
theorem mV  (h:(aM L a).k≠0):a<L.length:=by
 rcases ac2 a L.length with q|q
 ·exact q
 ·rw[aM,List.getElem?_eq_none q] at h;exact adD rfl h
theorem bT (L:List Tok) (w:List Nat) (s:Rs):St L s (cV L w s):=by
 unfold cV
 split
 ·rename_i h;exact dO h
 ·exact dP _ _ _
theorem fN (L:List Tok) (s:Rs):St L s (aX L s).2:=by
 unfold aX
 split
 ·exact dP _ _ _
 ·rename_i h
  exact jn (mV (by omega)) (by omega) (by omega)
theorem pJ  (hE:∀s,St L s (E s).2) (s:Rs):St L s (iI L E d s).2:=by
 unfold iI
 split
 ·exact St.refl _ _
 ·split
  ·exact dP _ _ _
  ·split
   ·exact jn (mV (by omega)) (by omega) (by omega)
   ·split
    ·exact jn (mV (by omega)) (by omega) (by omega)
    ·split
     ·rename_i h;exact ((dO h).trans (hE _)).trans (bT _ _ _)
     ·exact dP _ _ _
theorem QH  (h:oX (iQ (aM L a))=true):a<L.length:=by
 refine mV λq=> ?_
 unfold iQ at h
 rw[adE (by omega)] at h
 exact adD h (by decide)
theorem Oh  (h:oX (iQ (aM L a))=true):1<=(aM L a).k/\(aM L a).k<=4:=by
 unfold iQ at h
 by_cases q:(aM L a).k=3/\(aM L a).t.length=1
 ·omega
 ·rw[adE q] at h;exact adD h (by decide)
theorem me  {P:Rs->Ex×Rs} (hP:∀s,St L s (P s).2):∀(f:Nat) (x:Ex) (s:Rs),St L s (ma L P f x s).2:=by
 intro f
 induction f with
 |zero=>intro x s;exact St.refl _ _
 |succ f ih=>
  intro x s
  rw[ma]
  split
  ·exact St.refl _ _
  ·split
   ·exact St.refl _ _
   ·rename_i h1 h2
    have h3:=(jn (QH (by simpa using h2)) (by omega:s.e=0) (Oh (by simpa using h2))).trans (hP (ay s))
    split
    ·exact h3
    ·refine (h3.trans ?_).trans (ih _ _)
     split
     ·exact dP _ _ _
     ·exact St.refl _ _
theorem zH  (hE:∀s,St L s (E s).2) (s:Rs):St L s (oE L E d s).2:=(pJ hE s).trans (me (pJ hE) _ _ _)
theorem dY (L:List Tok):∀(n:Nat) (s:Rs),St L s (lI L n s).2:=by
 intro n
 induction n with
 |zero=>exact λs=>zH (λs=>St.refl _ s) s
 |succ n ih=>exact λs=>zH ih s
abbrev gQ (m:NH):D4->Prop:=λi=>¬ap m i
theorem RE.chg  (h:RE m (gQ mc) x c) (hC:Chg S m m') (hS:∀i∈S,ap mc i):RE m' (gQ mc) x c:=h.stays (bz.of hC λi hi hs=>hi (hS i hs))
theorem RS.chg  {x:Stm} (h:RS m (gQ mc) x c) (hC:Chg S m m') (hS:∀i∈S,ap mc i):RS m' (gQ mc) x c:=h.stays (bz.of hC λi hi hs=>hi (hS i hs))
theorem RE.new  {mb:NH} (h:RE m (gQ mc) x c) (hC:∀i,ap mb i->ap mc i):RE m (gQ mb) x c:=h.weak λi hi ho=>hi (hC i ho)
theorem RS.new  {mb:NH} {x:Stm} (h:RS m (gQ mc) x c) (hC:∀i,ap mb i->ap mc i):RS m (gQ mb) x c:=h.weak λi hi ho=>hi (hC i ho)
theorem V9 (m:NH) (T:D4->Prop) (n:Nat):RE m T (Qu n) ((Qu n).l .nils):=re0 m T 0 n 0 []
theorem S2 (m:NH) (T:D4->Prop) (s:List Nat):RE m T (Hg s) ((Hg s).l .nils):=re0 m T 1 0 0 s
section
variable {m0:NH} {L:List Tok} {vl:NV} {r:D4} {rest:List NV} {E:Rs->Ex×Rs}
end
theorem RE.old  (h:RE m T x c):RE m (λi=>T i/\ap m i) x c:=by
 induction h with
 |mk hv hT hl h ih=>exact .mk hv (λi hi=>⟨hT i hi,hv.old i hi⟩) hl ih
theorem RS.old  {x:Stm} (h:RS m T x c):RS m (λi=>T i/\ap m i) x c:=by
 induction h with
 |mk hi hx hy hb hbT hbl hbR he heT hel heR ih1 ih2=>exact .mk hi.old hx.old hy.old hb (λi q=>⟨hbT i q,hb.old i q⟩) hbl ih1 he (λi q=>⟨heT i q,he.old i q⟩) hel ih2
theorem Y3  {o:Nat} {y:Ex} {cx cy:List NV} (hx:RE m T x cx) (hy:RE m T y cy) {id:D4} (hT:T id) (hg:m.get id=some (.cells true (cx++cy))) (ho:ap m id):RE m T (JL o x y) ((JL o x y).l (.slc id 0 2 5 2)):=by
 refine .mk (C:= [cx,cy]) ⟨?_,Or.inr ⟨id,0,2,true,_,rfl,hg,ho, ?_, ?_⟩⟩ (by intro i hi;simp[ids] at hi;subst hi;exact hT) rfl ?_
 ·intro c hc;simp at hc;rcases hc with rfl|rfl
  ·exact hx.len
  ·exact hy.len
 ·simp[hx.len,hy.len]
 ·simp[hx.len]
  rw[ac9 (by simp[hx.len,hy.len])]
 ·intro i z c h1 h2
  match i with
  |0=>cases h1;cases h2;exact hx
  |1=>cases h1;cases h2;exact hy
  |i+2=>simp at h1
section
variable {m0:NH} {L:List Tok} {vl:NV} {r:D4} {rest:List NV}
end
section
variable {m0:NH} {L:List Tok} {vl:NV} {r:D4} {rest:List NV}
end
section
variable (L:List Tok)
abbrev eC (s:Rs):Ex×Rs:=lI L 30 s
def br (s:Rs):List Nat×Ex×Rs:=if aJ L [91] (aX L s).2=true then ((aX L s).1,(eC L (ay (aX L s).2)).1,cV L [93] (eC L (ay (aX L s).2)).2) else ((aX L s).1,zE,(aX L s).2)
def nG (x:Stm) (s:Rs):Stm×Rs:=(x,cV L [59] s)
def Xo (p:Int) (s:Rs):Stm×Rs:=nG L (.mk 0 p (aX L s).1 [] zE (eC L (aX L s).2).1 zE [] []) (eC L (aX L s).2).2
def KA (p:Int) (s:Rs):Stm×Rs:=nG L (.mk 1 p (aX L s).1 (br L (aX L s).2).1 (br L (aX L s).2).2.1 zE zE [] []) (br L (aX L s).2).2.2
def Fg (p:Int) (s:Rs):Stm×Rs:=nG L (.mk 2 p [] (br L s).1 (br L s).2.1 (eC L (br L s).2.2).1 zE [] []) (eC L (br L s).2.2).2
def UH (p:Int) (s:Rs):Stm×Rs:=nG L (.mk 3 p (aX L s).1 (br L (aX L s).2).1 (br L (aX L s).2).2.1 (eC L (br L (aX L s).2).2.2).1 (eC L (eC L (br L (aX L s).2).2.2).2).1 [] []) (eC L (eC L (br L (aX L s).2).2.2).2).2
def Wb (p:Int) (s:Rs):Stm×Rs:=nG L (.mk 5 p [] [] zE (eC L s).1 zE [] []) (eC L s).2
def XO (B:Rs->List Stm×Rs) (p:Int) (s:Rs):Stm×Rs:=
 if aJ L [101,108,115,101] (B (eC L s).2).2=true then (.mk 6 p [] [] zE (eC L s).1 zE (B (eC L s).2).1 (B (ay (B (eC L s).2).2)).1,(B (ay (B (eC L s).2).2)).2)
 else (.mk 6 p [] [] zE (eC L s).1 zE (B (eC L s).2).1 [],(B (eC L s).2).2)
def uW (B:Rs->List Stm×Rs) (p:Int) (s:Rs):Stm×Rs:=(.mk 7 p [] [] zE (eC L s).1 zE (B (eC L s).2).1 [],(B (eC L s).2).2)
def fD (B:Rs->List Stm×Rs) (s:Rs):Stm×Rs:=
 if aJ L [115,101,116] s=true then Xo L (aM L s.a).p (ay s)
 else if aJ L [108,111,97,100] s=true then KA L (aM L s.a).p (ay s)
 else if aJ L [115,116,111,114,101] s=true then Fg L (aM L s.a).p (ay s)
 else if aJ L [99,97,115] s=true then UH L (aM L s.a).p (ay s)
 else if aJ L [102,101,110,99,101] s=true then nG L (.mk 4 (aM L s.a).p [] [] zE zE zE [] []) (ay s)
 else if aJ L [111,117,116] s=true then Wb L (aM L s.a).p (ay s)
 else if aJ L [105,102] s=true then XO L B (aM L s.a).p (ay s)
 else if aJ L [119,104,105,108,101] s=true then uW L B (aM L s.a).p (ay s)
 else nG L (.mk 0 (aM L s.a).p [] [] zE zE zE [] []) (bL 2 s)
def kG (S:Rs->Stm×Rs):Nat->List Stm->Rs->List Stm×Rs
 |0,l,s=>(l,s)
 |f+1,l,s=>if s.e≠0 then (l,s) else if aJ L [125] s=true then (l,ay s) else kG S f (l++ [(S s).1]) (S s).2
def kF (d:Nat) (s:Rs):Rs:=if s.e=0/\29<d/\(aM L s.a).k=3/\(aM L s.a).t= [123] then bL 11 s else s
def kI (S:Rs->Stm×Rs) (d:Nat) (s:Rs):List Stm×Rs:=kG L S (L.length+1) [] (cV L [123] (kF L d s))
def gV:Nat->Rs->List Stm×Rs
 |0,s=>kI L (λs=>(.mk 0 0 [] [] zE zE zE [] [],bL 2 s)) 30 s
 |n+1,s=>kI L (fD L (gV n)) (29 - n) s
end
section
variable {m0:NH} {L:List Tok} {vl:NV} {r:D4} {rest:List NV}
theorem jN (s:Rs):St L s (br L s).2.2:=by
 unfold br
 split
 ·rename_i h;exact (((fN L s).trans (dO h)).trans (dY L 30 _)).trans (bT _ _ _)
 ·exact fN L s
end
section
variable {m0:NH} {L:List Tok} {vl:NV} {r:D4} {rest:List NV}
theorem S7 (d:Nat) (s:Rs):St L s (kF L d s):=by
 unfold kF
 split
 ·exact dP _ _ _
 ·exact St.refl _ _
end
structure SC (m:NH) (r b1 b2:D4) (vl:NV) (rest z:List NV) (M:NH) (s:Rs) (c:List NV):Prop where
 hd:RD M r vl s rest
 g2:M.get b2=some (.cells true c)
 o2:ap M b2
 g1:M.get b1=some (.cells true z)
 o1:ap M b1
 hC:Chg [r] m M
section
variable {m0:NH} {L:List Tok} {vl:NV} {r b1 b2:D4} {rest z:List NV} {m M M':NH} {s s':Rs} {c c':List NV} {l:List (AK×NO)} {k:Nat}
theorem SC.call (h:SC m r b1 b2 vl rest z M s c) (h1:b1≠r) (h2:b2≠r) (hC:Chg [r] M M') (hd:RD M' r vl s' rest):SC m r b1 b2 vl rest z M' s' c:=
 ⟨hd,(hC.get h.o2 (by simpa using h2)).trans h.g2,hC.old h.o2,(hC.get h.o1 (by simpa using h1)).trans h.g1,hC.old h.o1,h.hC.trans hC λ_ h _=>h⟩
theorem SC.grow (h:SC m r b1 b2 vl rest z M s c) (hC:Chg [] M M'):SC m r b1 b2 vl rest z M' s c:=
 ⟨h.hd.chg hC (by simp),(hC.get h.o2 (by simp)).trans h.g2,hC.old h.o2,(hC.get h.o1 (by simp)).trans h.g1,hC.old h.o1,h.hC.tr hC⟩
theorem SC.put (h:SC m r b1 b2 vl rest z M s c) (h2:b2≠r) (h12:b1≠b2) (hn:¬ap m b2) (hl:∀i∈bj l,i=b2):SC m r b1 b2 vl rest z (hp ((.o b2,.cells true c')::l) k M) s c':=by
 have hC:Chg [b2] M (hp ((.o b2,.cells true c')::l) k M):=(aw rfl).weak λi hi _=>by
  simp only[bj,adJ] at hi ⊢
  rcases hi with rfl|hi
  ·exact Or.inl rfl
  ·exact Or.inl (hl i hi)
 exact⟨h.hd.chg hC (by simpa using h2.symm),(aO h.o2).trans aC,hC.old h.o2,(hC.get h.o1 (by simpa using h12)).trans h.g1,hC.old h.o1,h.hC.trans hC λi hi ho=>by
  have hi:=one hi;subst hi;exact adD ho hn⟩
theorem SS.weak  {T':D4->Prop} (hT':∀i,T i->T' i) {l:List Stm} (h:SS m T v l C):SS m T' v l C:=⟨h.sl,λi hi=>hT' i (h.hT i hi),h.len,λi x c a b=>(h.R i x c a b).weak hT'⟩
theorem GF (m:NH) (T:D4->Prop):SS m T .nils [] []:=⟨Sl.nil,by simp[ids],rfl,by simp⟩
theorem RS.of  {k a:Int} {nm ce:List Nat} {i y:Ex} {b e:List Stm} {ui ux uy vb ve:NV} (hi:RE m T i (i.l ui)) (hx:RE m T x (x.l ux)) (hy:RE m T y (y.l uy)) {B E:List (List NV)} (hb:SS m T vb b B) (he:SS m T ve e E):
 RS m T (.mk k a nm ce i x y b e) ((Stm.mk k a nm ce i x y b e).l ⟨ui,ux,uy,vb,ve⟩):= .mk hi hx hy hb.sl hb.hT hb.len hb.R he.sl he.hT he.len he.R
theorem aas (m:NH) (T:D4->Prop):RE m T zE (zE.l .nils):=re0 m T 0 0 0 []
abbrev qu (k p:Int):List NV:= [ii k,ii p,.str [],.str [],ii 0,u64 0,u8 0,.str [],.nils,ii 0,u64 0,u8 0,.str [],.nils,ii 0,u64 0,u8 0,.str [],.nils,.nils,.nils]
end
section
variable {m0:NH} {L:List Tok} {vl:NV} {r:D4} {rest:List NV}
end
section
variable {L:List Tok}
theorem rV (s:Rs):St L s (eC L s).2:=dY L 30 s
theorem lz {x:Stm} {s s':Rs} (h:St L s s'):St L s (nG L x s').2:=h.trans (bT _ _ _)
theorem WW (p:Int) (s:Rs):St L s (Xo L p s).2:=lz ((fN L s).trans (rV _))
theorem SZ (p:Int) (s:Rs):St L s (KA L p s).2:=lz ((fN L s).trans (jN _))
theorem KT (p:Int) (s:Rs):St L s (Fg L p s).2:=lz ((jN s).trans (rV _))
theorem U4 (p:Int) (s:Rs):St L s (UH L p s).2:=lz ((((fN L s).trans (jN _)).trans (rV _)).trans (rV _))
theorem Xn (p:Int) (s:Rs):St L s (Wb L p s).2:=lz (rV _)
theorem ZE  (hB:∀s,St L s (B s).2) (p:Int) (s:Rs):St L s (XO L B p s).2:=by
 unfold XO
 have h:=(rV (L:=L) s).trans (hB _)
 split
 ·rename_i q;exact (h.trans (dO q)).trans (hB _)
 ·exact h
theorem NN  (hB:∀s,St L s (B s).2) (p:Int) (s:Rs):St L s (uW L B p s).2:=(rV s).trans (hB _)
theorem zN  (hB:∀s,St L s (B s).2) (s:Rs):(∃t,St L s t/\St L t (fD L B s).2/\(s.e=0->s.a<t.a∨t.e≠0)):=by
 have y:∀{w:List Nat},aJ L w s=true->St L s (ay s):=λh=>dO h
 have n:s.a<(ay s).a:=Nat.lt_succ_self _
 unfold fD
 split
 ·exact⟨ay s,y ‹_›,WW _ _,λ_=>Or.inl n⟩
 ·split
  ·exact⟨ay s,y ‹_›,SZ _ _,λ_=>Or.inl n⟩
  ·split
   ·exact⟨ay s,y ‹_›,KT _ _,λ_=>Or.inl n⟩
   ·split
    ·exact⟨ay s,y ‹_›,U4 _ _,λ_=>Or.inl n⟩
    ·split
     ·exact⟨ay s,y ‹_›,lz (St.refl _ _),λ_=>Or.inl n⟩
     ·split
      ·exact⟨ay s,y ‹_›,Xn _ _,λ_=>Or.inl n⟩
      ·split
       ·exact⟨ay s,y ‹_›,ZE hB _ _,λ_=>Or.inl n⟩
       ·split
        ·exact⟨ay s,y ‹_›,NN hB _ _,λ_=>Or.inl n⟩
        ·refine⟨bL 2 s,dP _ _ _,lz (St.refl _ _),λh=>Or.inr ?_⟩
         rw[bL,adF h];show (2:Nat)≠0;omega
theorem HP  (hB:∀s,St L s (B s).2) (s:Rs):St L s (fD L B s).2:=by
 obtain⟨t,h1,h2,-⟩:=zN hB s
 exact h1.trans h2
theorem SJ  (hB:∀s,St L s (B s).2) (s:Rs) (he:s.e=0):s.a<(fD L B s).2.a∨(fD L B s).2.e≠0:=by
 obtain⟨t,h1,h2,h3⟩:=zN hB s
 rcases h3 he with q|q
 ·left;have:=h2.le;omega
 ·right;rw[h2.err q];exact q
theorem Md {S:Rs->Stm×Rs} (hS:∀s,St L s (S s).2):∀(f:Nat) (l:List Stm) (s:Rs),St L s (kG L S f l s).2:=by
 intro f
 induction f with
 |zero=>exact λl s=>St.refl _ _
 |succ f ih=>
  intro l s
  rw[kG]
  split
  ·exact St.refl _ _
  ·split
   ·exact dO ‹_›
   ·exact (hS s).trans (ih _ _)
theorem yo {S:Rs->Stm×Rs} (hS:∀s,St L s (S s).2) (d:Nat) (s:Rs):St L s (kI L S d s).2:=((S7 d s).trans (bT _ _ _)).trans (Md hS _ _ _)
theorem eR:∀(n:Nat) (s:Rs),St L s (gV L n s).2:=by
 intro n
 induction n with
 |zero=>exact λs=>yo (λs=>dP _ _ _) _ s
 |succ n ih=>exact λs=>yo (HP ih) _ s
end
section
variable {m0:NH} {L:List Tok} {vl:NV} {r:D4} {rest:List NV}
end
structure Ps where
 cs:List (List Nat×Int)
 ts:List (List Nat×List Stm)
 rc:List Stm
 rd:Bool
section
variable (L:List Tok)
def b9 (T:Tok):Int:=if T.n<1048576 then T.n else 1048576
def fE (s:Rs):(List Nat×Int)×Rs:=
 if aJ L [91] (aX L s).2=true then
  if (aM L (ay (aX L s).2).a).k=2 then (((aX L s).1,b9 (aM L (ay (aX L s).2).a)),cV L [59] (cV L [93] (ay (ay (aX L s).2))))
  else (((aX L s).1,1),cV L [59] (cV L [93] (bL 2 (ay (aX L s).2))))
 else (((aX L s).1,1),cV L [59] (aX L s).2)
def kj (s:Rs):(List Nat×List Stm)×Rs:=(((aX L s).1,(gV L 30 (aX L s).2).1),(gV L 30 (aX L s).2).2)
abbrev kC:List Nat:= [114,101,99,111,118,101,114]
def fV (rec:Bool) (s:Rs):Rs:=if rec=true/\(aM L s.a).k=4/\(aM L s.a).t=kC then bL 5 s else s
def z8 (rec:Bool) (s:Rs):List Stm×Rs:=gV L 30 (cV L kC (fV L rec s))
def sU (P:Ps) (s:Rs):Ps×Rs:=
 if aJ L [99,101,108,108] s=true then (⟨P.cs++ [(fE L (ay s)).1],P.ts,P.rc,P.rd⟩,(fE L (ay s)).2)
 else if aJ L [116,104,114,101,97,100] s=true then (⟨P.cs,P.ts++ [(kj L (ay s)).1],P.rc,P.rd⟩,(kj L (ay s)).2)
 else (⟨P.cs,P.ts,(z8 L P.rd s).1,true⟩,(z8 L P.rd s).2)
end
abbrev TP (mR:NH) (vc vt:NV):D4->Prop:=λi=>¬ap mR i/\i∉ids vc/\i∉ids vt
structure PD (mR M:NH) (r:D4) (vl:NV) (s:Rs) (P:Ps) (vc vt vr:NV):Prop where
 hd:RD M r vl s [.bool P.rd,vc,vt,vr]
 cc:aQ mR M vc 2 (jx P.cs)
 tt:∃C,aQ mR M vt 2 C/\C.length=P.ts.length/\∀(j:Nat) (x:List Nat×List Stm) (c:List NV),P.ts[j]? =some x->C[j]? =some c->∃vb B,c= [.str x.1,vb]/\SS M (TP mR vc vt) vb x.2 B
 rr:∃C,SS M (TP mR vc vt) vr P.rc C
 dd:∀i∈ids vc,i∉ids vt
 oo:∀i,ap mR i->ap M i
 oR:ap mR r
section
variable {m0 mR:NH} {L:List Tok} {vl vc vt vr:NV} {r:D4} {M M':NH} {s s':Rs} {P:Ps}
theorem PD.call (h:PD mR M r vl s P vc vt vr) (hC:Chg [r] M M') (hd:RD M' r vl s' [.bool P.rd,vc,vt,vr]):PD mR M' r vl s' P vc vt vr:=by
 have hn:∀{v e C},aQ mR M v e C->∀i∈ids v,i∉ [r]:=λhv i hi hs=>by
  have hs:=one hs;subst hs;exact hv.new _ hi h.oR
 have hst:bz (TP mR vc vt) M M':=bz.of hC λi hi hs=>by
  have hs:=one hs;subst hs;exact hi.1 h.oR
 obtain⟨C,t1,t2,t3⟩:=h.tt
 obtain⟨D,r1⟩:=h.rr
 exact⟨hd,h.cc.chg hC (hn h.cc),⟨C,t1.chg hC (hn t1),t2,λj x c a b=>by obtain⟨vb,B,e,q⟩:=t3 j x c a b;exact⟨vb,B,e,q.stays hst⟩⟩,⟨D,r1.stays hst⟩,h.dd,λi hi=>hC.old (h.oo i hi),h.oR⟩
theorem PD.grow (h:PD mR M r vl s P vc vt vr) (hC:Chg [] M M'):PD mR M' r vl s P vc vt vr:=h.call (hC.weak (by simp)) (h.hd.chg hC (by simp))
end
section
variable {mR:NH} {vl vc vt vr:NV} {r:D4} {M:NH} {s:Rs} {P:Ps}
end
section
variable {m0 mR:NH} {L:List Tok} {vl vc vt vr:NV} {r:D4}
end
def bu (L:List Tok):Nat->Ps->Rs->Ps×Rs
 |0,P,s=>(P,s)
 |f+1,P,s=>if s.e≠0 then (P,s) else if (aM L s.a).k=5 then (P,s) else bu L f (sU L P s).1 (sU L P s).2
def eg (b:List Nat):Option Prg×Nat×Nat:=if 16384<b.length then (none,0,3) else match (bG b).2 with
 |some a=>(none,a,2)
 |none=>if (bu (bG b).1 ((bG b).1.length+1) ⟨[], [], [],false⟩ ⟨0,0,0⟩).2.e≠0 then (none,(aM (bG b).1 (bu (bG b).1 ((bG b).1.length+1) ⟨[], [], [],false⟩ ⟨0,0,0⟩).2.b).p,(bu (bG b).1 ((bG b).1.length+1) ⟨[], [], [],false⟩ ⟨0,0,0⟩).2.e)
  else (some ⟨(bu (bG b).1 ((bG b).1.length+1) ⟨[], [], [],false⟩ ⟨0,0,0⟩).1.cs,(bu (bG b).1 ((bG b).1.length+1) ⟨[], [], [],false⟩ ⟨0,0,0⟩).1.ts,(bu (bG b).1 ((bG b).1.length+1) ⟨[], [], [],false⟩ ⟨0,0,0⟩).1.rc⟩,b.length,0)
section
variable {L:List Tok}
theorem Hq (s:Rs):St L s (fE L s).2:=by
 unfold fE
 split
 ·rename_i h
  have h1:=(fN L s).trans (dO h)
  split
  ·rename_i h2
   exact ((h1.trans (jn (mV (by omega)) (pY h).1 (by omega))).trans (bT _ _ _)).trans (bT _ _ _)
  ·exact ((h1.trans (dP _ _ _)).trans (bT _ _ _)).trans (bT _ _ _)
 ·exact (fN L s).trans (bT _ _ _)
theorem JC (s:Rs):St L s (kj L s).2:=(fN L s).trans (eR 30 _)
theorem Pp (q:Bool) (s:Rs):St L s (fV L q s):=by unfold fV;split;exact dP _ _ _;exact St.refl _ _
theorem U3 (q:Bool) (s:Rs):St L s (z8 L q s).2:=((Pp q s).trans (bT _ _ _)).trans (eR 30 _)
theorem Xk (P:Ps) (s:Rs):St L s (sU L P s).2:=by
 unfold sU
 split
 ·exact (dO ‹_›).trans (Hq _)
 ·split
  ·exact (dO ‹_›).trans (JC _)
  ·exact U3 _ _
theorem Sv:∀(f:Nat) (P:Ps) (s:Rs),St L s (bu L f P s).2:=by
 intro f
 induction f with
 |zero=>exact λP s=>St.refl _ _
 |succ f ih=>
  intro P s
  rw[bu]
  split
  ·exact St.refl _ _
  ·split
   ·exact St.refl _ _
   ·exact (Xk P s).trans (ih _ _)
end
section
variable {m0 mR:NH} {L:List Tok} {vl:NV} {r:D4}
theorem PM:∀(l:List Tok) (b:List Nat) (w:Int),XS b w l->∀a,1<=(aM l a).k->(aM l a).k<=4->a<l.length - 1:=by
 intro l
 induction l with
 |nil=>intro b w _ a h1;simp[aM] at h1
 |cons x l ih=>
  intro b w h a h1 h2
  obtain⟨-,-,-,-,h5,h6⟩:=h
  cases a with
  |zero=>
   have e:aM (x::l) 0=x:=rfl
   rw[e] at h1 h2
   have:l≠ []:=λq=>by have:=h5.mpr q;omega
   have:=List.length_pos_iff.mpr this
   simp;omega
  |succ a=>
   have e:aM (x::l) (a+1)=aM l a:=by simp[aM]
   rw[e] at h1 h2
   have:=ih b x.p h6 a h1 h2
   simp;omega
end
section
variable {L:List Tok}
theorem J9 {P:Ps} {s:Rs} (h:∀c∈P.cs,0<=c.2/\c.2<=1048576):∀c∈(sU L P s).1.cs,0<=c.2/\c.2<=1048576:=by
 intro c
 unfold sU
 split
 ·intro hc
  rcases aa6.1 hc with hc|hc
  ·exact h c hc
  ·rw[ac0] at hc
   subst hc
   unfold fE b9
   split
   ·split
    ·dsimp only;split<;>omega
    ·dsimp only;omega
   ·dsimp only;omega
 ·split
  ·exact h c
  ·exact h c
theorem Iz:∀(f:Nat) (P:Ps) (s:Rs),(∀c∈P.cs,0<=c.2/\c.2<=1048576)->∀c∈(bu L f P s).1.cs,0<=c.2/\c.2<=1048576:=by
 intro f
 induction f with
 |zero=>intro P s h;exact h
 |succ f ih=>
  intro P s h
  rw[bu]
  split
  ·exact h
  ·split
   ·exact h
   ·exact ih _ _ (J9 h)
end
theorem FP  {p:Prg} (h:(eg b).1=some p):∀c∈p.cs,0<=c.2/\c.2<=1048576:=by
 unfold eg at h
 split at h
 ·cases h
 ·split at h
  ·cases h
  ·split at h
   ·cases h
   ·injection h with h
    subst h
    exact Iz _ _ _ (by simp)
def eh (cs:List (List Nat×Int)) (l:List Stm):Ms:=bR (bi 12 0 0) (pu cs (locals l) l ⟨[],(locals l).length,0⟩)
abbrev mm (l:List Sp):List (List NV):=l.map Sp.l
theorem tT (l:List Stm):(locals l).length<=2*dC l:=by
 have h1:=jL ((ch l).flatMap Stm.own) []
 have h2:=(wn l).2
 unfold locals
 simp only[af0] at h1
 omega
theorem DV {l:List Stm} (hz:dC l<=400000):(⟨[],(locals l).length,0⟩:Ms).ok (1+16*dC l):=by
 have:=tT l
 exact⟨by simp;omega,by dsimp only;omega,by dsimp only;omega,by dsimp only;omega,by dsimp only;omega⟩
theorem MZ  {B B':NH} {t:D4} (h:aQ B' m v e C) (hC:Chg [t] m m') (ht:ap B' t) (hb:∀i,ap B i->ap B' i):aQ B m' v e C:=
 (h.chg hC λi hi q=>by
  have q:=one q;subst q;exact h.new _ hi ht).back hb
theorem MM  {l:List Stm} {cs:List (List Nat×Int)} (hS:SS m T v l C) (hc:Sl m vc 2 (jx cs)) (hcl:cs.length<=1000000) (hcz:∀c∈cs,0<=c.2/\c.2<=1048576) (hz:dC l<=400000):
 ∃w m',rT 131 [v,vc] m w m'/\(∃vs,w= .agg [ii (eh cs l).v,ii (locals l).length,vs]/\aQ m m' vs 9 (mm (eh cs l).st))/\Chg [] m m':=by
 refine WF.ex λK hK=> ?_
 refine WF.of_wpG (λ_=>rfl) Eh (L:= [(.a .e,vc),(.e,v)]) rfl ?_
 unfold Nw
 generalize hM1:hp [(.n 0,.cells true [ii 0,ii 0,.nils])] 1 m=M1
 have hC1:Chg [] m M1:=az hM1 rfl
 have g1:M1.get (na m 0)=some (.cells true [ii 0,ii 0,.nils]):=aI hM1
 have o1:ap M1 (na m 0):=aL hM1 (by omega)
 obtain⟨vn,m2,r2,hn,hC2⟩:=MS (hS.stays (sw hC1 T)) (Chg.refl M1) (by omega)
 have o2:=hC2.old o1
 have g2:=(hC2.get o1 (by simp)).trans g1
 have hCm2:=hC1.tr hC2
 have hnl:=hn.sl.len
 have hns:=hn.sl.one
 rw[aa0] at hnl
 have hle:=tT l
 have hx:Cx m2 vc vn cs (locals l):=⟨hc.chg hCm2 λ_ _=>by simp,hcl,λn z h e=>by have:=hcz _ (aa9 h);omega,hn.sl,by omega⟩
 have hvc:=hx.c.one
 simp (disch:=first|omega|(simp only[aA]<;>omega)) only[go_sem,seval,hM1,r2.wf,hnl,hns,hvc]
 generalize hM3:hp _ 1 m2=M3
 have hC3:Chg [] m2 M3:=az hM3 rfl
 have g3:M3.get (na m2 0)=some (.cells true [vc,vn,ii (locals l).length,ii (locals l).length,.nils,ii 0]):=aI hM3
 have k3:MK m2 M3 (na m2 0) vc vn (locals l).length .nils ⟨[],(locals l).length,0⟩:=⟨g3,by rw[←hM3];exact aq (by omega),ak,aQ.nil,by simp[ids],hC3⟩
 obtain⟨m4,r4,v4,k4,e4⟩:=Rc l (hS.stays (sw hCm2 T)) hx k3 (k:=1) (DV hz)
 have ok4:=u7 (cs:=cs) (ns:=locals l) (l:=l) (k:=1) (DV hz)
 obtain⟨m5,r5,v5,k5,e5⟩:=fm k4 (bi 12 0 0) (by have:=ok4.s;omega)
 change MK m2 m5 (na m2 0) vc vn _ v5 (eh cs l) at k5
 unfold bi at r5
 have g5:=k5.g
 have h5:=k5.s.sl.one
 have o5:=k5.c.old o2
 have g50:=(k5.c.get o2 (by simp)).trans g2
 rw[←aa m5] at r5
 rw[aa] at r5
 simp (disch:=first|omega|(simp only[aA]<;>omega)) only[go_sem,seval,r4.wf',r5.wf,g5,g50]
 refine hK _ _ ⟨⟨v5,rfl, ?_⟩, ?_⟩
 ·generalize hM6:hp _ 0 m5=M6
  exact MZ k5.s (by rw[←hM6];exact aw rfl) o2 λi hi=>hCm2.old hi
 ·refine (hCm2.trans k5.c (by simp)).trans (aw rfl) λi hi ho=> ?_
  simp only[bj,adJ,adI,or_false] at hi;subst hi;exact adD ho ak
def iB (cs:List (List Nat×Int)) (r:List Stm) (l:List (List Nat×List Stm)):Bool:=decide (400<(eh cs r).v)||l.any λt=>decide (400<(eh cs t.2).v)
theorem Jm {cs:List (List Nat×Int)} {r:List Stm} {l:List (List Nat×List Stm)} {i:Nat} (hi:i<l.length):iB cs r (l.take (i+1))=(iB cs r (l.take i)||decide (400<(eh cs l[i].2).v)):=by
 unfold iB
 rw[ab7,List.getElem?_eq_getElem hi,List.any_append]
 simp[Bool.or_assoc]
def kh (m:NH) (cs:List (List Nat×Int)) (l:List Stm) (c:List NV) (N:D4->Prop):Prop:=∃vs,c= [ii (eh cs l).v,ii (locals l).length,vs]/\Sl m vs 9 (mm (eh cs l).st)/\∀i∈ids vs,N i
structure CodesC (m:NH) (cs:List (List Nat×Int)) (l:List (List Nat×List Stm)) (vl:NV) (C:List (List NV)) (N:D4->Prop):Prop where
 s:Sl m vl 3 C
 n:C.length=l.length
 c:∀(j:Nat) (t:List Nat×List Stm) (c:List NV),l[j]? =some t->C[j]? =some c->kh m cs t.2 c N
def Lp (m0 m:NH) (p:Prg) (w:NV):Prop:=
 if (uS p).2≠0 then w= .tup [.agg [ii 0,ii 0,.nils],.nils,ii (uS p).2]
 else if iB p.cs p.r p.ts=true then w= .tup [.agg [ii 0,ii 0,.nils],.nils,ii 3]
 else ∃c vl C,w= .tup [.agg c,vl,ii 0]/\kh m p.cs p.r c (λi=>¬ap m0 i)/\CodesC m p.cs p.ts vl C (λi=>¬ap m0 i)
theorem kh.chg  {cs:List (List Nat×Int)} {l:List Stm} {N N':D4->Prop} (h:kh m cs l c N) (hC:Chg S m m') (hS:∀i,N i->ap m i->i∉S) (hN:∀i,N i->ap m i->N' i):kh m' cs l c N':=by
 obtain⟨vs,e,h1,h2⟩:=h
 exact⟨vs,e,h1.chg hC λi hi=>hS i (h2 i hi) (h1.old i hi),λi hi=>hN i (h2 i hi) (h1.old i hi)⟩
theorem Sn  {p:Prg} {vt vr:NV} (h:RP m T p vc vt vr) (hs:p.cs.length<=1000000/\p.ts.length<=1000000) (hcz:∀c∈p.cs,0<=c.2/\c.2<=1048576) (hz:∀t∈p.ts,dC t.2<=400000) (hr:dC p.r<=400000):
 ∃w m',rT 76 [.agg [vc,vt,vr]] m w m'/\Lp m m' p w/\Chg [] m m':=by
 refine WF.ex λK hK=> ?_
 refine WF.of_wpG (λ_=>rfl) HB (L:= [(.e,.agg [vc,vt,vr])]) rfl ?_
 unfold Xi
 obtain⟨hcs,hts⟩:=hs
 generalize hM1:hp [(.n 1,.cells true [ii 0,ii 0,.nils]),(.n 0,.cells true [vc,vt,vr])] 2 m=M1
 have hC1:Chg [] m M1:=az hM1 rfl
 have g10:M1.get (na m 0)=some (.cells true [vc,vt,vr]):=aI hM1
 have g11:M1.get (na m 1)=some (.cells true [ii 0,ii 0,.nils]):=aI hM1
 have o10:ap M1 (na m 0):=aL hM1 (by omega)
 have o11:ap M1 (na m 1):=aL hM1 (by omega)
 have h1:=h.stays (sw hC1 T)
 obtain⟨m2,r2,hC2⟩:=TQ h1 ⟨hcs,hts⟩ (λt ht=>by have:=hz t ht;omega) (by omega)
 have g20:=(hC2.get o10 (by simp)).trans g10
 have g21:=(hC2.get o11 (by simp)).trans g11
 have o20:=hC2.old o10
 have o21:=hC2.old o11
 have hCm2:=hC1.tr hC2
 have h2:=h1.stays (sw hC2 T)
 unfold Lp at hK
 by_cases hE:(uS p).2≠0
 ·simp only[adF hE] at hK
  rw[←aa m2] at g20
  simp (disch:=first|omega|(simp only[aA]<;>omega)) only[go_sem,seval,hM1,g10,r2.wf,g21]
  refine hK _ _ ⟨rfl,hCm2.trans (aw rfl) λi hi ho=> ?_⟩
  simp only[bj,adJ,adI,or_false] at hi;subst hi;exact adD ho ak
 ·simp only[adE hE] at hK
  have hE0:(uS p).2=0:=by simpa using hE
  rw[hE0] at r2
  obtain⟨CT,hT⟩:=h2.t
  obtain⟨CR,hR⟩:=h2.r
  obtain⟨w3,m3,r3,⟨vs3,rfl,hv3⟩,hC3⟩:=MM hR h2.c hcs hcz hr
  have hlt:=hT.sl.len
  rw[hT.len] at hlt
  have g30:=(hC3.get o20 (by simp)).trans g20
  have g31:=(hC3.get o21 (by simp)).trans g21
  have o30:=hC3.old o20
  have o31:=hC3.old o21
  have hd3:decide (400<(eh p.cs p.r).v)=iB p.cs p.r (p.ts.take 0):=by simp[iB]
  simp (disch:=first|omega|(simp only[aA]<;>omega)) only[go_sem,seval,hM1,g10,r2.wf',g20,r3.wf,hlt,g30,hd3]
  generalize hM4:hp _ 1 m3=M4
  have hC4:Chg [] m3 M4:=az hM4 rfl
  have g42:M4.get (na m3 0)=some (.cells true [ii (eh p.cs p.r).v,ii (locals p.r).length,vs3]):=aI hM4
  have o42:ap M4 (na m3 0):=aL hM4 (by omega)
  have g40:=(hC4.get o30 (by simp)).trans g30
  have g41:=(hC4.get o31 (by simp)).trans g31
  have o40:=hC4.old o30
  have o41:=hC4.old o31
  have hCm3:=hCm2.tr hC3
  have hCm4:=hCm3.tr hC4
  have hS3:kh M4 p.cs p.r [ii (eh p.cs p.r).v,ii (locals p.r).length,vs3] (λi=>¬ap m i/\ap M4 i/\i≠na m 1):=by
   have h0:=hv3.chg hC4 λ_ _=>by simp
   refine⟨vs3,rfl,h0.sl,λi hi=>⟨λho=>hv3.new i hi (hCm2.old ho),h0.sl.old i hi,λe=>hv3.new i hi (e▸o21)⟩⟩
  have hn3:na m3 0≠na m 1:=λe=>ak (e▸o31)
  refine W.loop (λk d=>∃t M i vl C,d=⟨t, [],none,M⟩/\NT.get D4.e.a t=some (.ptr (na m 0) 0)/\NT.get D4.e.b t=some (.ptr (na m 1) 0)/\NT.get D4.e.a.c t=some (.ptr (na m3 0) 0)/\NT.get D4.e.a.f t=some (.bool (iB p.cs p.r (p.ts.take i)))/\NT.get D4.e.b.a t=some vl/\NT.get D4.e.a.c.c t=some vt/\NT.get D4.e.a.c.f t=some (ii p.ts.length)/\NT.get D4.e.a.f.a t=some (ii (i:Nat))/\i+k=p.ts.length/\aQ M4 M vl 3 C/\C.length=i/\(∀(j:Nat) (t:List Nat×List Stm) (c:List NV),j<i->p.ts[j]? =some t->C[j]? =some c->kh M p.cs t.2 c (λi=>¬ap M4 i/\i∉ids vl))/\Chg [] M4 M) ?_ p.ts.length _ ⟨_,M4,0,.nils, [],rfl,by exact gq rfl,by exact gq rfl,by exact gq rfl,by exact gq rfl,by exact gq rfl,by exact gq rfl,by exact gq rfl,by exact gq rfl<;>rfl,by omega,aQ.nil,rfl,by simp,Chg.refl M4⟩
  rintro k d ⟨t,M,i,vl,C,rfl,t1,t2,t3,t4,t5,t6,t7,t8,hik,hvl,hCl,hcd,hC⟩
  apply av
  unfold GT
  change wp _ _ _ _ ⟨puts [] t, [],none,M⟩ _
  have g0:=(hC.get o40 (by simp)).trans g40
  have g1:=(hC.get o41 (by simp)).trans g41
  have gs:=(hC.get o42 (by simp)).trans g42
  have o0:=hC.old o40
  have o1:=hC.old o41
  have os:=hC.old o42
  have hCM:=hCm4.tr hC
  have hvl1:=hvl.sl.one
  rw[←aa M]
  by_cases hi:i<p.ts.length
  ·obtain⟨vb,Bb,id,off,wr,c,hSb,a1,a2,a3,a4,a5⟩:=hT.at i hi
   have hC2M:Chg [] m2 M:=(hC3.tr hC4).tr hC
   have a2':=(hC2M.get a3 (by simp)).trans a2
   have hth: [NV.str p.ts[i].1,vb].length=2:=rfl
   generalize hM5:hp [(.n 0,.cells true [.str p.ts[i].1,vb]),(.n 0,.cells true [.str [],.nils])] 1 M=M5
   have hC5:Chg [] M M5:=az hM5 rfl
   have g5:M5.get (na M 0)=some (.cells true [.str p.ts[i].1,vb]):=aI hM5
   have o5n:ap M5 (na M 0):=aL hM5 (by omega)
   have g50:=(hC5.get o0 (by simp)).trans g0
   obtain⟨w6,m6,r6,⟨vs6,rfl,hv6⟩,hC6⟩:=MM ((hSb.stays (sw hC2M T)).stays (sw hC5 T)) ((h2.c.chg hC2M λ_ _=>by simp).chg hC5 λ_ _=>by simp) hcs hcz (hz _ (aa9 hi))
   have hsucc:=Jm (cs:=p.cs) (r:=p.r) hi
   have hC56:=hC5.tr hC6
   skip
   generalize hbq:iB p.cs p.r (p.ts.take i)=bq at t4 hsucc
   have fin:∀{t':Tm} {M' vl'},aQ M4 M' vl' 3 (C++ [[ii (eh p.cs p.ts[i].2).v,ii (locals p.ts[i].2).length,vs6]])->Chg (na M 0::ids vl) m6 M'->(∀j∈ids vl',j∈ids vl∨¬ap m6 j)->NT.get D4.e.a t'=some (.ptr (na m 0) 0)->NT.get D4.e.b t'=some (.ptr (na m 1) 0)->NT.get D4.e.a.c t'=some (.ptr (na m3 0) 0)->NT.get D4.e.a.f t'=some (.bool (iB p.cs p.r (p.ts.take (i+1))))->NT.get D4.e.b.a t'=some vl'->NT.get D4.e.a.c.c t'=some vt->NT.get D4.e.a.c.f t'=some (ii p.ts.length)->NT.get D4.e.a.f.a t'=some (ii (i+1:Nat))->∃k'<k,∃t M i vl C,(⟨t', [],none,M'⟩:Dyn)=⟨t, [],none,M⟩/\NT.get D4.e.a t=some (.ptr (na m 0) 0)/\NT.get D4.e.b t=some (.ptr (na m 1) 0)/\NT.get D4.e.a.c t=some (.ptr (na m3 0) 0)/\NT.get D4.e.a.f t=some (.bool (iB p.cs p.r (p.ts.take i)))/\NT.get D4.e.b.a t=some vl/\NT.get D4.e.a.c.c t=some vt/\NT.get D4.e.a.c.f t=some (ii p.ts.length)/\NT.get D4.e.a.f.a t=some (ii (i:Nat))/\i+k'=p.ts.length/\aQ M4 M vl 3 C/\C.length=i/\(∀(j:Nat) (t:List Nat×List Stm) (c:List NV),j<i->p.ts[j]? =some t->C[j]? =some c->kh M p.cs t.2 c (λi=>¬ap M4 i/\i∉ids vl))/\Chg [] M4 M:=by
    intro t' M' vl' q1 q2 q3 q4 q5 q6 q7 q8 q9 q10 q11
    have hvo:=hvl.sl.old
    have hC6M:Chg (ids vl) M M':=(hC56.weak (T:=ids vl) (by simp)).trans q2 λi hi ho=>(aa1.1 hi).elim (λe=>adD (e▸ho) ak) λq=>q
    refine⟨k - 1,by omega,_,_,i+1,_,_,rfl,q4,q5,q6,q7,q8,q9,q10,q11,by omega,q1,by simp[hCl],λj tt cc hj h1 h2=> ?_,hC.trans hC6M λi hi ho=>adD ho (hvl.new i hi)⟩
    rcases ac2 j i with hji|hji
    ·rw[List.getElem?_append_left (by omega)] at h2
     exact (hcd j tt cc hji h1 h2).chg hC6M (λi hi _=>hi.2) λi hi ho=>⟨hi.1,λq=>(q3 i q).elim hi.2 λq=>q (hC56.old ho)⟩
    ·obtain rfl:j=i:=by omega
     rw[List.getElem?_append_right (by omega),hCl,Nat.sub_self,List.getElem?_cons_zero] at h2
     rw[List.getElem?_eq_getElem hi] at h1
     injection h1 with h1
     injection h2 with h2
     subst h1 h2
     have hnv:∀i∈ids vs6,i∉ids vl:=λi hi q=>hv6.new i hi (hC5.old (hvo i q))
     have hnv':∀i∈ids vs6,i∉na M 0::ids vl:=λi hi q=>(aa1.1 q).elim (λe=>hv6.new i hi (e▸o5n)) (hnv i hi)
     exact⟨vs6,rfl,hv6.sl.chg q2 hnv',λi hi=>⟨λho=>hv6.new i hi (hC5.old (hC.old ho)),λq=>(q3 i q).elim (hnv i hi) λq=>q (hv6.sl.old i hi)⟩⟩
   cases bq with
   |true=>
    simp (disch:=first|omega|(simp only[aA]<;>omega)) only[go_sem,seval,t1,t4,t5,t6,t7,t8,a1,a2',a5,hM5,g5,g50,r6.wf]
    generalize hM7:hp _ 2 m6=M7
    have hC7:Chg [] m6 M7:=az hM7 rfl
    have g7:M7.get (na m6 1)=some (.cells true [ii (eh p.cs p.ts[i].2).v,ii (locals p.ts[i].2).length,vs6]):=aI hM7
    have o7:ap M7 (na m6 1):=aL hM7 (by omega)
    refine gh ((hvl.chg hC56 λ_ _=>by simp).chg hC7 λ_ _=>by simp) g7 o7 rfl (λi hi=>hC7.old (hC56.old (hC.old hi))) (by omega) (by omega) ?_
    intro vl2 M8 hw hCw8 hFw8
    have hCw:Chg (na M 0::ids vl) m6 M8:=(hC7.weak (T:=na M 0::ids vl) (by simp)).trans hCw8 λi hi _=>aa8 _ hi
    have hFw:∀j∈ids vl2,j∈ids vl∨¬ap m6 j:=λj hj=>(hFw8 j hj).imp (λq=>q) λq ho=>q (hC7.old ho)
    simp (disch:=omega) only[go_sem,seval,t8,]
    exact fin hw hCw hFw (by exact gq t1) (by exact gq t2) (by exact gq t3) (by simp only[go_sem,seval,t4,hsucc,Bool.true_or]) (by exact gq rfl) (by exact gq t6) (by exact gq t7) (by exact gq rfl<;>rfl)
   |false=>
    simp (disch:=first|omega|(simp only[aA]<;>omega)) only[go_sem,seval,t1,t4,t5,t6,t7,t8,a1,a2',a5,hM5,g5,g50,r6.wf]
    generalize hM7:hp _ 2 m6=M7
    have hC7:Chg [] m6 M7:=az hM7 rfl
    have g7:M7.get (na m6 1)=some (.cells true [ii (eh p.cs p.ts[i].2).v,ii (locals p.ts[i].2).length,vs6]):=aI hM7
    have o7:ap M7 (na m6 1):=aL hM7 (by omega)
    refine gh ((hvl.chg hC56 λ_ _=>by simp).chg hC7 λ_ _=>by simp) g7 o7 rfl (λi hi=>hC7.old (hC56.old (hC.old hi))) (by omega) (by omega) ?_
    intro vl2 M8 hw hCw8 hFw8
    have hCw:Chg (na M 0::ids vl) m6 M8:=(hC7.weak (T:=na M 0::ids vl) (by simp)).trans hCw8 λi hi _=>aa8 _ hi
    have hFw:∀j∈ids vl2,j∈ids vl∨¬ap m6 j:=λj hj=>(hFw8 j hj).imp (λq=>q) λq ho=>q (hC7.old ho)
    simp (disch:=omega) only[go_sem,seval,t8,]
    exact fin hw hCw hFw (by exact gq t1) (by exact gq t2) (by exact gq t3) (by simp only[go_sem,seval,t4,hsucc,Bool.false_or]) (by exact gq rfl) (by exact gq t6) (by exact gq t7) (by exact gq rfl<;>rfl)
  ·have hi':i=p.ts.length:=by omega
   rw[hi',ae1] at t4
   have hcc:CodesC M p.cs p.ts vl C (λi=>¬ap M4 i):=⟨hvl.sl,by omega,λj tt cc h1 h2=>by
    have hj:j<p.ts.length:=by
     rcases ac2 j p.ts.length with q|q
     ·exact q
     ·rw[List.getElem?_eq_none q] at h1;cases h1
    exact (hcd j tt cc (by omega) h1 h2).chg (Chg.refl M) (by simp) λi hi _=>hi.1⟩
   cases hbq:iB p.cs p.r p.ts with
   |true=>
    rw[hbq] at t4
    simp only[adF hbq] at hK
    simp (disch:=first|omega|(simp only[aA]<;>omega)) only[go_sem,seval,t2,t4,t7,t8,g1]
    refine hK _ _ ⟨rfl,hCM.trans (aw rfl) λi hi ho=> ?_⟩
    simp only[bj,adJ,adI,or_false] at hi;subst hi;exact adD ho ak
   |false=>
    rw[hbq] at t4
    simp only[hbq] at hK
    simp (disch:=first|omega|(simp only[aA]<;>omega)) only[go_sem,seval,t2,t3,t4,t5,t7,t8,g1,gs]
    generalize hMz:hp _ 0 M=Mz
    have hCz:Chg [na m 1] M Mz:=az hMz rfl
    refine hK _ _ ⟨⟨_,vl,C,rfl, ?_, ?_⟩,hCM.trans hCz λi hi ho=> ?_⟩
    ·exact (hS3.chg hC (by simp) (N':=λi=>¬ap m i/\i≠na m 1) λi hi _=>⟨hi.1,hi.2.2⟩).chg hCz (λi hi _=>by simpa using hi.2) λi hi _=>hi.1
    ·have hnn:∀i,¬ap M4 i->i≠na m 1:=λi hi e=>hi (e▸o41)
     exact⟨hvl.sl.chg hCz λi hi q=>hnn i (hvl.new i hi) (by simpa using q),hcc.n,λj tt cc h1 h2=>(hcc.c j tt cc h1 h2).chg hCz (λi hi _=>by simpa using hnn i hi) λi hi _ ho=>hi (hCm4.old ho)⟩
    ·have hi:=one hi;subst hi;exact adD ho ak
theorem sa (m:NH) (c:Nat):rT 309 [u8 c] m (.bool (Fo c)) m:=by
 have h:∃v m',rT 309 [u8 c] m v m'/\v= .bool (Fo c)/\m'=m:=by
  refine WF.ex λK hK=> ?_
  refine WF.of_wpG (λ_=>rfl) zS (L:= [(.e,u8 c)]) rfl ?_
  unfold Mk
  by_cases h1:97<=c
  ·by_cases h2:c<=122
   ·simp (disch:=omega) only[go_sem,seval]
    exact hK _ _ ⟨by simp[Fo,h1,h2],aa m⟩
   ·simp (disch:=omega) only[go_sem,seval]
    exact hK _ _ ⟨by simp[Fo,h2],aa m⟩
  ·simp (disch:=omega) only[go_sem,seval]
   exact hK _ _ ⟨by simp[Fo,h1],aa m⟩
 obtain⟨v,m',h,rfl,rfl⟩:=h
 exact h
theorem wY (m:NH) (c:Nat):rT 313 [u8 c] m (.bool (ip c)) m:=by
 have h:∃v m',rT 313 [u8 c] m v m'/\v= .bool (ip c)/\m'=m:=by
  refine WF.ex λK hK=> ?_
  refine WF.of_wpG (λ_=>rfl) Df (L:= [(.e,u8 c)]) rfl ?_
  unfold Qk
  by_cases h1:48<=c
  ·by_cases h2:c<=57
   ·simp (disch:=omega) only[go_sem,seval]
    exact hK _ _ ⟨by simp[ip,h1,h2],aa m⟩
   ·simp (disch:=omega) only[go_sem,seval]
    exact hK _ _ ⟨by simp[ip,h2],aa m⟩
  ·simp (disch:=omega) only[go_sem,seval]
   exact hK _ _ ⟨by simp[ip,h1],aa m⟩
 obtain⟨v,m',h,rfl,rfl⟩:=h
 exact h
theorem lR (m:NH) (c:Nat):rT 310 [u8 c] m (.bool (eI c)) m:=by
 have h:∃v m',rT 310 [u8 c] m v m'/\v= .bool (eI c)/\m'=m:=by
  refine WF.ex λK hK=> ?_
  refine WF.of_wpG (λ_=>rfl) xX (L:= [(.e,u8 c)]) rfl ?_
  unfold Pv
  have a1:=sa m c
  have a2:=wY m c
  cases h1:Fo c with
  |true=>
   rw[h1] at a1
   simp only[go_sem,seval,aa,a1.wf']
   exact hK _ _ ⟨by simp[eI,h1],rfl⟩
  |false=>
   rw[h1] at a1
   cases h2:ip c with
   |true=>
    rw[h2] at a2
    simp only[go_sem,seval,aa,a1.wf',a2.wf']
    exact hK _ _ ⟨by simp[eI,h2],rfl⟩
   |false=>
    rw[h2] at a2
    by_cases h3:c=95
    ·simp only[go_sem,seval,aa,a1.wf',a2.wf']
     exact hK _ _ ⟨by simp[eI,h3],rfl⟩
    ·simp (disch:=omega) only[go_sem,seval,aa,a1.wf',a2.wf']
     exact hK _ _ ⟨by simp[eI,h1,h2,h3],rfl⟩
 obtain⟨v,m',h,rfl,rfl⟩:=h
 exact h
theorem Tl (m:NH) (c:Nat):rT 307 [u8 c] m (.bool (sL c)) m:=by
 have h:∃v m',rT 307 [u8 c] m v m'/\v= .bool (sL c)/\m'=m:=by
  refine WF.ex λK hK=> ?_
  refine WF.of_wpG (λ_=>rfl) BE (L:= [(.e,u8 c)]) rfl ?_
  unfold JY
  by_cases h1:c=32
  ·simp (disch:=omega) only[go_sem,seval];exact hK _ _ ⟨by simp[sL,h1],aa m⟩
  ·by_cases h2:c=9
   ·simp (disch:=omega) only[go_sem,seval];exact hK _ _ ⟨by simp[sL,h2],aa m⟩
   ·by_cases h3:c=10
    ·simp (disch:=omega) only[go_sem,seval];exact hK _ _ ⟨by simp[sL,h3],aa m⟩
    ·by_cases h4:c=13
     ·simp (disch:=omega) only[go_sem,seval];exact hK _ _ ⟨by simp[sL,h4],aa m⟩
     ·simp (disch:=omega) only[go_sem,seval];exact hK _ _ ⟨by simp[sL,h1,h2,h3,h4],aa m⟩
 obtain⟨v,m',h,rfl,rfl⟩:=h
 exact h
theorem SB (m:NH) (c:Nat):rT 308 [u8 c] m (.bool (decide (c≠10))) m:=by
 have h:∃v m',rT 308 [u8 c] m v m'/\v= .bool (decide (c≠10))/\m'=m:=by
  refine WF.ex λK hK=> ?_
  refine WF.of_wpG (λ_=>rfl) yV (L:= [(.e,u8 c)]) rfl ?_
  unfold J2
  by_cases h1:c=10
  ·simp only[go_sem,seval];exact hK _ _ ⟨by simp[h1],aa m⟩
  ·simp (disch:=omega) only[go_sem,seval];exact hK _ _ ⟨by simp[h1],aa m⟩
 obtain⟨v,m',h,rfl,rfl⟩:=h
 exact h
theorem Ij :∀(k a:Nat),k=s.length - a->∀h:aW p s a<s.length,p (s[aW p s a])=false:=by
 intro k
 induction k with
 |zero=>intro a hk h;have:=@km p s a;omega
 |succ k ih=>
  intro a hk h
  have ha:a<s.length:=by omega
  cases hp:p s[a] with
  |false=>have e:=kA ha hp;simp only[e];exact hp
  |true=>have e:=dI ha hp;simp only[e] at h ⊢;exact ih (a+1) (by omega) h
theorem zF {g:Nat} (hg:∀m c,rT g [u8 c] m (.bool (p c)) m) (m:NH) (hs:s.length<=1000000) (ha:a<=s.length):
 rT 306 [.str s,ii a,.fn g []] m (ii (aW p s a)) m:=by
 have h:∃v m',rT 306 [.str s,ii a,.fn g []] m v m'/\v=ii (aW p s a)/\m'=m:=by
  refine WF.ex λK hK=> ?_
  refine WF.of_wpG (λ_=>rfl) DT (L:= [(.b .e,.fn g []),(.a .e,ii a),(.e,.str s)]) rfl ?_
  unfold Kl
  simp only[go_sem,seval,aa]
  refine W.loop (λk d=>∃t i,d=⟨t, [],none,m⟩/\NT.get D4.e t=some (.str s)/\NT.get D4.e.a t=some (ii (i:Nat))/\NT.get D4.e.b t=some (.fn g [])/\aW p s i=aW p s a/\i+k=s.length) ?_ (s.length - a) _ ⟨_,a,rfl,by exact gq rfl,by exact gq rfl,by exact gq rfl,rfl,by omega⟩
  rintro k d ⟨t,i,rfl,g1,g2,g3,hr,hik⟩
  apply av
  unfold Db
  change wp _ _ _ _ ⟨puts [] t, [],none,m⟩ _
  by_cases hi:i<s.length
  ·have hb:s[i]? =some s[i]:=List.getElem?_eq_getElem hi
   have hc:=hg m s[i]
   cases hp:p s[i] with
   |true=>
    rw[hp] at hc
    simp (disch:=omega) only[go_sem,seval,g1,g2,g3,hb,hc.wf']
    refine⟨k - 1,by omega,_,i+1,rfl, ?_, ?_, ?_,by rw[←hr,dI hi hp],by omega⟩
    ·simp only[go_sem,seval,g1]
    ·simp only[go_sem,seval]<;>rfl
    ·simp only[go_sem,seval,g3]
   |false=>
    rw[hp] at hc
    simp (disch:=omega) only[go_sem,seval,g1,g2,g3,hb,hc.wf']
    exact hK _ _ ⟨by rw[←hr,kA hi hp],rfl⟩
  ·simp (disch:=omega) only[go_sem,seval,g1,g2]
   exact hK _ _ ⟨by rw[←hr,jF (by omega)],rfl⟩
 obtain⟨v,m',h,rfl,rfl⟩:=h
 exact h
theorem KY (s:List Nat):∀(k a:Nat),k=s.length - a->bF s a=bF s (aW sL s a):=by
 intro k
 induction k with
 |zero=>intro a hk;rw[jF (by omega)]
 |succ k ih=>
  intro a hk
  have ha:a<s.length:=by omega
  cases hp:sL s[a] with
  |true=>rw[iU ha,adF hp,dI ha hp];exact ih (a+1) (by omega)
  |false=>rw[kA ha hp]
theorem Vn (m:NH) (hs:s.length<=1000000) (ha:a<=s.length):rT 265 [.str s,ii a] m (ii (bF s a)) m:=by
 have h:∃v m',rT 265 [.str s,ii a] m v m'/\v=ii (bF s a)/\m'=m:=by
  refine WF.ex λK hK=> ?_
  refine WF.of_wpG (λ_=>rfl) yP (L:= [(.a .e,ii a),(.e,.str s)]) rfl ?_
  unfold LJ
  simp only[go_sem,seval,aa]
  refine W.loop (λk d=>∃t i,d=⟨t, [],none,m⟩/\NT.get D4.e t=some (.str s)/\NT.get D4.e.a t=some (ii (i:Nat))/\bF s i=bF s a/\i+k=s.length) ?_ (s.length - a) _ ⟨_,a,rfl,by exact gq rfl,by exact gq rfl,rfl,by omega⟩
  rintro k d ⟨t,i,rfl,g1,g2,hr,hik⟩
  apply av
  unfold DX
  change wp _ _ _ _ ⟨puts [] t, [],none,m⟩ _
  have r1:=zF Tl m hs (a:=i) (by omega)
  have hle:=js (p:=sL) (s:=s) (a:=i) (by omega)
  have hge:=@km sL s i
  rw[KY s _ _ rfl] at hr
  generalize hj:aW sL s i=j at *
  by_cases hjl:j<s.length
  ·have hb:s[j]? =some s[j]:=List.getElem?_eq_getElem hjl
   have hnb:sL s[j]=false:=by
    have:=Ij (p:=sL) (s:=s) _ i rfl (by omega)
    simp only[hj] at this;exact this
   by_cases h35:s[j]=35
   ·have r2:=zF SB m hs (a:=j) (by omega)
    have hle2:=js (p:=λc=>decide (c≠10)) (s:=s) (a:=j) (by omega)
    have hlt:j+1<=aW (λc=>decide (c≠10)) s j:=by rw[dI hjl (by simp[h35])];exact km
    rw[Fk hjl h35] at hr
    generalize aW (λc=>decide (c≠10)) s j=j2 at *
    simp (disch:=omega) only[go_sem,seval,g1,g2,r1.wf',hb,r2.wf']
    refine⟨s.length - j2,by omega,_,j2,rfl, ?_, ?_,hr,by omega⟩
    ·simp only[go_sem,seval,g1]
    ·simp only[go_sem,seval]
   ·simp (disch:=omega) only[go_sem,seval,g1,g2,r1.wf',hb]
    exact hK _ _ ⟨by rw[←hr,IC hjl hnb h35],rfl⟩
  ·simp (disch:=omega) only[go_sem,seval,g1,g2,r1.wf']
   exact hK _ _ ⟨by rw[←hr,tA (by omega)],rfl⟩
 obtain⟨v,m',h,rfl,rfl⟩:=h
 exact h
abbrev KF (l:List (List Nat)):List (List NV):=l.map λs=> [NV.str s]
theorem SA  {l:List (List Nat)} (hv:Sl m v 1 (KF l)) (hl:l.length<=1000000) (t:List Nat):∃z,rT 319 [v,.str t] m (ii z) m/\(0<=z↔t∈l):=by
 have h:∃u m',rT 319 [v,.str t] m u m'/\m'=m/\∃z,u=ii z/\(0<=z↔t∈l):=by
  refine WF.ex λK hK=> ?_
  refine WF.of_wpG (λ_=>rfl) p8 (L:= [(.a .e,.str t),(.e,v)]) rfl ?_
  unfold GW
  have hlen:=hv.len
  rw[aa0] at hlen
  simp only[go_sem,seval,aa,hlen]
  refine W.loop (λk d=>∃t' i,d=⟨t', [],none,m⟩/\NT.get D4.e t'=some v/\NT.get D4.e.a t'=some (.str t)/\NT.get D4.e.a.c t'=some (ii l.length)/\NT.get D4.e.a.f t'=some (ii (i:Nat))/\t∉l.take i/\i+k=l.length) ?_ l.length _ ⟨_,0,rfl,by exact gq rfl,by exact gq rfl,by exact gq rfl,by exact gq rfl,by simp,by omega⟩
  rintro k d ⟨t',i,rfl,g1,g2,g3,g4,hno,hik⟩
  apply av
  unfold qG
  change wp _ _ _ _ ⟨puts [] t', [],none,m⟩ _
  by_cases hi:i<l.length
  ·obtain⟨id,off,w,c,a1,a2,a3,a4,a5⟩:=hv.at i (by simpa using hi)
   rw[aa4] at a5
   have c0:=bm a5 0 (by omega)
   rw[ad7] at c0
   by_cases he:t=l[i]
   ·simp (disch:=omega) only[go_sem,seval,g1,g2,g3,g4,a1,a2,c0,he]
    exact hK _ _ ⟨rfl,_,rfl,λ_=>by rw[he];exact aa9 hi,λ_=>by omega⟩
   ·simp (disch:=omega) only[go_sem,seval,g1,g2,g3,g4,a1,a2,c0,he]
    refine⟨k - 1,by omega,_,i+1,rfl, ?_, ?_, ?_, ?_, ?_,by omega⟩
    ·simp only[go_sem,seval,g1]
    ·simp only[go_sem,seval,g2]
    ·simp only[go_sem,seval,g3]
    ·simp only[go_sem,seval]<;>rfl
    ·rw[ab7,List.getElem?_eq_getElem hi]
     simp only[ae6,aa6,ac0,not_or]
     exact⟨hno,he⟩
  ·simp (disch:=omega) only[go_sem,seval,g3,g4]
   have e:i=l.length:=by omega
   subst e
   rw[ae1] at hno
   exact hK _ _ ⟨rfl,_,rfl,λh=>by omega,λh=>adD h hno⟩
 obtain⟨v,m',h,rfl,z,rfl,hz⟩:=h
 exact⟨z,h,hz⟩
theorem qP  {l:List (List Nat)} (hv:Sl m v 1 (KF l)) (hl:l.length<=1000000) (t:List Nat):rT 274 [v,.str t] m (.bool (decide (t∈l))) m:=by
 have h:∃u m',rT 274 [v,.str t] m u m'/\u= .bool (decide (t∈l))/\m'=m:=by
  refine WF.ex λK hK=> ?_
  refine WF.of_wpG (λ_=>rfl) sm (L:= [(.a .e,.str t),(.e,v)]) rfl ?_
  unfold Hz
  obtain⟨z,hz,hzi⟩:=SA hv hl t
  by_cases h:t∈l
  ·have:=hzi.mpr h
   simp (disch:=omega) only[go_sem,seval,aa,hz.wf']
   exact hK _ _ ⟨by simp[h],rfl⟩
  ·have:¬0<=z:=λq=>h (hzi.mp q)
   simp (disch:=omega) only[go_sem,seval,aa,hz.wf']
   exact hK _ _ ⟨by simp[h],rfl⟩
 obtain⟨v,m',h,rfl,rfl⟩:=h
 exact h
theorem zB (m:NH):∃v m',rT 311 [] m v m'/\aQ m m' v 1 (KF lm)/\Chg [] m m':=by
 refine WF.ex λK hK=> ?_
 refine WF.of_wpG (λ_=>rfl) BH (L:= []) rfl ?_
 unfold O4
 simp (disch:=first|omega|(simp only[aA]<;>omega)) only[go_sem,seval]
 exact hK _ _ ⟨aQ.of (by simp) ak bt (aq (by omega)) rfl rfl rfl,aw rfl⟩
theorem Ws:af af8 384=some (.ext .idxByte):=by kernel_rfl
theorem We:af af8 350=some (.ext .add64):=by kernel_rfl
theorem K8 (m:NH) (s:List Nat) (hs:s.length<=1000000) {c:Nat} (hc:c<256):rT 315 [.str s,.str [c]] m (.bool (decide (c∈s))) m:=by
 obtain⟨z,hz,hzi⟩:=QI s hc
 have h1:∀m,rT 384 [.str s,u8 c] m (ii z) m:=λm=>pE.ext rfl Ws hz
 have h2:∀m,rT 379 [.str s,u8 c] m (ii z) m:=λm=>by
  have h:∃u m',rT 379 [.str s,u8 c] m u m'/\u=ii z/\m'=m:=by
   refine WF.ex λK hK=> ?_
   refine WF.of_wpG (λ_=>rfl) DI (L:= [(.a .e,u8 c),(.e,.str s)]) rfl ?_
   unfold Kq
   simp only[go_sem,seval,aa,(h1 _).wf']
   exact hK _ _ ⟨rfl,rfl⟩
  obtain⟨v,m',h,rfl,rfl⟩:=h
  exact h
 have h3:∀m,rT 369 [.str s,.str [c]] m (ii z) m:=λm=>by
  have h:∃u m',rT 369 [.str s,.str [c]] m u m'/\u=ii z/\m'=m:=by
   refine WF.ex λK hK=> ?_
   refine WF.of_wpG (λ_=>rfl) zg (L:= [(.a .e,.str [c]),(.e,.str s)]) rfl ?_
   unfold LX
   have hb: [c][0]? =some c:=rfl
   have hl1: [c].length=1:=rfl
   by_cases hcs: [c]=s
   ·have:z=0:=by
     subst hcs
     have e:gI .idxByte [.str [c],.int .u8 (.lit (c:Int))]=cond (Nat.ble c 255) (match cond (Nat.beq c c) (some 0) none with|some i=>some (.int .i64 (.lit (.ofNat i)))|none=>some (.int .i64 (.lit (.negSucc 0)))) none:=rfl
     rw[e,ab0 (by omega),Nat.beq_refl] at hz
     simp only[cond_true,Option.some.injEq,NV.int.injEq,SI.lit.injEq,true_and] at hz
     exact hz.symm
    subst this
    simp only[go_sem,seval,aa,hl1,adH hcs]
    exact hK _ _ ⟨rfl,rfl⟩
   have hd:=adG hcs
   simp only[go_sem,seval,aa,(h2 _).wf',hb,hl1,hd]
   exact hK _ _ ⟨rfl,rfl⟩
  obtain⟨v,m',h,rfl,rfl⟩:=h
  exact h
 have h4:∀m,rT 351 [.str s,.str [c]] m (ii z) m:=λm=>by
  have h:∃u m',rT 351 [.str s,.str [c]] m u m'/\u=ii z/\m'=m:=by
   refine WF.ex λK hK=> ?_
   refine WF.of_wpG (λ_=>rfl) Da (L:= [(.a .e,.str [c]),(.e,.str s)]) rfl ?_
   unfold KN
   simp only[go_sem,seval,aa,(h3 _).wf']
   exact hK _ _ ⟨rfl,rfl⟩
  obtain⟨v,m',h,rfl,rfl⟩:=h
  exact h
 have h:∃u m',rT 315 [.str s,.str [c]] m u m'/\u= .bool (decide (c∈s))/\m'=m:=by
  refine WF.ex λK hK=> ?_
  refine WF.of_wpG (λ_=>rfl) y8 (L:= [(.a .e,.str [c]),(.e,.str s)]) rfl ?_
  unfold J6
  by_cases h:c∈s
  ·have:=hzi.mpr h
   simp (disch:=omega) only[go_sem,seval,aa,(h4 _).wf']
   exact hK _ _ ⟨by simp[h],rfl⟩
  ·have:¬0<=z:=λq=>h (hzi.mp q)
   simp (disch:=omega) only[go_sem,seval,aa,(h4 _).wf']
   exact hK _ _ ⟨by simp[h],rfl⟩
 obtain⟨v,m',h,rfl,rfl⟩:=h
 exact h
def oL (s:List Nat):Bool:=decide (1<=s.length)&&decide (s.length<=16)&&(match s with|c::_=>Fo c| []=>false)&& !(decide (s∈lm))&&s.all eI
theorem Kh (p:Nat->Bool) (s:List Nat):((s.takeWhile p).length=s.length)↔s.all p=true:=by
 induction s with
 |nil=>simp
 |cons c s ih=>
  cases hc:p c with
  |true=>
   have e1:(c::s).takeWhile p=c::s.takeWhile p:=by simp[hc]
   have e2:(c::s).all p=s.all p:=by simp[List.all_cons,hc]
   rw[e1,e2,←ih];simp
  |false=>
   have e1:(c::s).takeWhile p= []:=by simp[hc]
   have e2:(c::s).all p=false:=by simp[List.all_cons,hc]
   rw[e1,e2];simp
theorem QT (p:Nat->Bool) (s:List Nat):(aW p s 0=s.length)↔s.all p=true:=by
 have e:aW p s 0=(s.takeWhile p).length:=by unfold aW;simp
 rw[e];exact Kh p s
theorem Xy (m:NH) (hs:s.length<=1000000):∃v m',rT 312 [.str s] m v m'/\v= .bool (oL s)/\Chg [] m m':=by
 refine WF.ex λK hK=> ?_
 refine WF.of_wpG (λ_=>rfl) zT (L:= [(.e,.str s)]) rfl ?_
 unfold N5
 cases s with
 |nil=>simp only[go_sem,seval];exact hK _ _ ⟨rfl,aw rfl⟩
 |cons c s=>
  have hne:¬(c::s= []):=by simp
  have hlen:(c::s).length=s.length+1:=rfl
  by_cases h1:(c::s).length<=16
  ·have h0:(c::s)[0]? =some c:=rfl
   have hl:=sa m c
   cases h2:Fo c with
   |false=>
    rw[h2] at hl
    simp (disch:=omega) only[go_sem,seval,hne,h0,aa,hl.wf',hlen]
    exact hK _ _ ⟨by simp[oL,h2],Chg.refl m⟩
   |true=>
    rw[h2] at hl
    obtain⟨w,m1,hw,how,hC1⟩:=zB m
    have hc:=qP how.sl (by decide) (c::s)
    by_cases h3:(c::s)∈lm
    ·rw[adH h3] at hc
     simp (disch:=omega) only[go_sem,seval,hne,h0,aa,hl.wf',hw.wf',hc.wf',hlen]
     exact hK _ _ ⟨by unfold oL;rw[adH h3];simp,hC1⟩
    ·rw[adG h3] at hc
     have hr:rT 306 [.str (c::s),ii 0,.fn 310 []] m1 (ii ((aW eI (c::s) 0:Nat):Int)) m1:=zF lR m1 hs (a:=0) (Nat.zero_le _)
     simp (disch:=omega) only[go_sem,seval,hne,h0,aa,hl.wf',hw.wf',hc.wf',hlen,hr.wf']
     have hr2:=QT eI (c::s)
     refine hK _ _ ⟨?_,hC1⟩
     unfold oL
     rw[adG h3]
     congr 1
     rw[ad5,decide_eq_true_eq]
     simp only[h2,Bool.not_false,Bool.and_true,ab6,decide_eq_true_eq]
     constructor
     ·intro q;exact⟨⟨by simp,h1⟩,hr2.mp (by omega)⟩
     ·intro q;have:=hr2.mpr q.2;omega
  ·simp (disch:=omega) only[go_sem,seval,hne,aa,hlen]
   exact hK _ _ ⟨by unfold oL;rw[adG h1];simp,Chg.refl m⟩
theorem Tq {a:Int} (h:0<=a) (h':a<18446744073709551616):bH .num .and (.int .u64 (.lit a)) (.int .u64 (.lit 4294967295))=some (.int .u64 (.lit (a % 4294967296))):=by
 obtain⟨n,rfl⟩:=adL h
 have:=GI (a:=n) (b:=4294967295) (by omega) (by omega)
 rw[Nat.and_two_pow_sub_one_eq_mod n 32] at this
 exact this
theorem SQ {a:Int} (h:0<=a):bH .num .shr (.int .u64 (.lit a)) (.int .u64 (.lit 32))=some (.int .u64 (.lit (a / 4294967296))):=by
 obtain⟨n,rfl⟩:=adL h
 exact ul (a:=n) (n:=32) (by omega)
theorem V0 {A B n:Int} (hA:0<=A) (hA':A<4294967296) (hB:0<=B) (hB':B<4294967296) (hn:n=4294967296*A+B):
 ((A*10 % 18446744073709551616+B*10 % 18446744073709551616 / 4294967296) % 18446744073709551616 / 4294967296 % 18446744073709551616+(A*10 % 18446744073709551616+B*10 % 18446744073709551616 / 4294967296) % 18446744073709551616 % 4294967296 % 18446744073709551616 / 4294967296) % 18446744073709551616=10*n / 18446744073709551616:=by
 rw[af1 (a:=A*10) (by omega) (by omega),af1 (a:=B*10) (by omega) (by omega)]
 generalize hu:B*10 / 4294967296=u
 rw[af1 (a:=A*10+u) (by omega) (by omega)]
 generalize hq:(A*10+u) / 4294967296=q
 generalize hs:(A*10+u) % 4294967296=s
 rw[af1 (a:=q) (by omega) (by omega),af1 (a:=s) (by omega) (by omega)]
 rw[af1 (by omega) (by omega)]
 omega
theorem ZR (m:NH) (hn:n<18446744073709551616):rT 349 [.int .u64 (.lit (n:Int)),.int .u64 (.lit 10)] m (.tup [.int .u64 (.lit ((10*n / 18446744073709551616:Nat):Int)),.int .u64 (.lit ((10*n % 18446744073709551616:Nat):Int))]) m:=by
 have h:∃v m',rT 349 [.int .u64 (.lit (n:Int)),.int .u64 (.lit 10)] m v m'/\v=(.tup [.int .u64 (.lit ((10*n / 18446744073709551616:Nat):Int)),.int .u64 (.lit ((10*n % 18446744073709551616:Nat):Int))])/\m'=m:=by
  refine WF.ex λK hK=> ?_
  refine WF.of_wpG (λ_=>rfl) BL (L:= [(.a .e,.int .u64 (.lit 10)),(.e,.int .u64 (.lit (n:Int)))]) rfl ?_
  unfold PJ
  have e1:(10:Int) % 4294967296=10:=rfl
  have e2:(10:Int) / 4294967296=0:=rfl
  have e3:(0:Int) % 18446744073709551616=0:=rfl
  simp (disch:=omega) only[go_sem,seval,aa,Tq,SQ,e1,e2,e3,Int.mul_zero,Int.add_zero,Int.zero_add]
  refine hK _ _ ⟨?_,rfl⟩
  congr 4
  ·have:=V0 (A:=(n:Int) / 4294967296) (B:=(n:Int) % 4294967296) (n:=n) (by omega) (by omega) (by omega) (by omega) (by omega)
   rw[this];omega
  ·congr 2;omega
 obtain⟨v,m',h,rfl,rfl⟩:=h
 exact h
theorem iN {k:D4} {L:List (D4×NV)}:NT.put k v (puts L t)=puts ((k,v)::L) t:=_root_.id rfl
theorem xM (m:NH) (hs:s.length<=1000000) (hd:∀c∈s,ip c=true)
 (g1:NT.get D4.e t=some (.str s)) (g2:NT.get D4.e.f t=some (u64 0)) (g3:NT.get D4.e.f.c t=some (ii s.length)) (g4:NT.get D4.e.f.f t=some (ii 0))
 (hbad:De s 0=none->∀t',NT.get D4.e.b t'=some (u64 0)->NT.get D4.e.c t'=some (.bool false)->Q .ret ⟨puts [] t', [],none,m⟩)
 (hok:∀n t',De s 0=some n->NT.get D4.e.f t'=some (u64 n)->Q (.exit 0) ⟨puts [] t', [],none,m⟩):
 W af8 S0 none qp.loop ⟨t, [],none,m⟩ Q:=by
 refine W.loop (λk d=>∃t i n,d=⟨t, [],none,m⟩/\NT.get D4.e t=some (.str s)/\NT.get D4.e.f t=some (u64 n)/\NT.get D4.e.f.c t=some (ii s.length)/\NT.get D4.e.f.f t=some (ii (i:Nat))/\n<18446744073709551616/\De (s.drop i) n=De s 0/\i+k=s.length) ?_ s.length _ ⟨_,0,0,rfl,g1,g2,g3,g4,by omega,rfl,by omega⟩
 rintro k d ⟨t,i,n,rfl,g1,g2,g3,g4,hn,hv,hik⟩
 apply av
 unfold qp
 change wp _ _ _ _ ⟨puts [] t, [],none,m⟩ _
 by_cases hi:i<s.length
 ·have hb:s[i]? =some s[i]:=List.getElem?_eq_getElem hi
  have hdi:=hd s[i] (aa9 hi)
  unfold ip at hdi
  rw[decide_eq_true_eq] at hdi
  rw[ab8 hi] at hv
  generalize hc:s[i]=c at hb hdi hv
  have e1:((c:Int) - 48) % 256=((c - 48:Nat):Int):=by omega
  have e2:((c - 48:Nat):Int) % 18446744073709551616=((c - 48:Nat):Int):=by omega
  have hm:=ZR m hn
  have ha:rT 350 [.int .u64 (.lit ((10*n % 18446744073709551616:Nat):Int)),.int .u64 (.lit ((c - 48:Nat):Int)),.int .u64 (.lit 0)] m (.tup [.int .u64 (.lit (((10*n % 18446744073709551616+(c - 48)+0) % 18446744073709551616:Nat):Int)),.int .u64 (.lit (((10*n % 18446744073709551616+(c - 48)+0) / 18446744073709551616:Nat):Int))]) m:=pE.ext rfl We (Q4 (c:=0) (by omega))
  by_cases hlt:10*n+(c - 48)<18446744073709551616
  ·have q4:10*n % 18446744073709551616=10*n:=by omega
   have q1:10*n / 18446744073709551616=0:=by omega
   have q2:(10*n+(c - 48)+0) / 18446744073709551616=0:=by omega
   have q3:(10*n+(c - 48)+0) % 18446744073709551616=10*n+(c - 48):=by omega
   rw[q4] at hm ha
   rw[q2,q3] at ha
   rw[q1] at hm
   simp (disch:=omega) only[go_sem,seval,g1,g2,g3,g4,hb,e1,e2,hm.wf',ha.wf']
   refine⟨k - 1,by omega,_,i+1,10*n+(c - 48),rfl, ?_, ?_, ?_, ?_,hlt, ?_,by omega⟩
   ·simp only[go_sem,seval,g1]
   ·simp only[go_sem,seval]
   ·simp only[go_sem,seval,g3]
   ·simp only[go_sem,seval]<;>rfl
   ·rw[←hv];show _=ite _ _ _;rw[adF hlt]
  ·have q1:1<=10*n / 18446744073709551616+(10*n % 18446744073709551616+(c - 48)+0) / 18446744073709551616:=by omega
   have q2:10*n / 18446744073709551616<20:=by omega
   have q3:(10*n % 18446744073709551616+(c - 48)+0) / 18446744073709551616<20:=by omega
   generalize (10*n % 18446744073709551616+(c - 48)+0) / 18446744073709551616=ca at ha q1 q3
   generalize 10*n / 18446744073709551616=hi' at hm q1 q2
   simp (disch:=omega) only[go_sem,seval,g1,g2,g3,g4,hb,e1,e2,hm.wf',ha.wf']
   refine hbad ?_ _ ?_ ?_
   ·rw[←hv];show ite _ _ _=_;rw[adE hlt]
   ·simp only[go_sem,seval,iN]<;>rfl
   ·simp only[go_sem,seval,iN]
 ·simp (disch:=omega) only[go_sem,seval,g3,g4]
  refine hok n _ ?_ ?_
  ·rw[←hv,af6 (by omega)];rfl
  ·simp only[go_sem,seval,iN,g2]
theorem L0 (m:NH) (hs:s.length<=1000000) (hd:∀c∈s,ip c=true):
 ∃v m',rT 314 [.str s] m v m'/\v=(match vC s with|some n=> .tup [u64 n,.bool true]|none=> .tup [u64 0,.bool false])/\m'=m:=by
 refine WF.ex λK hK=> ?_
 refine WF.of_wpG (λ_=>rfl) zq (L:= [(.e,.str s)]) rfl ?_
 unfold OQ
 by_cases h1:1<s.length
 ·have h0:s[0]? =some s[0]:=List.getElem?_eq_getElem (by omega)
  by_cases h2:s[0]=48
  ·simp (disch:=omega) only[go_sem,seval,aa,h0,h2]
   exact hK _ _ ⟨by unfold vC;rw[adF ⟨h1,by rw[h0,h2]⟩];rfl,rfl⟩
  ·have hN:vC s=De s 0:=by unfold vC;rw[adE (by rw[h0];simp[h2])]
   simp (disch:=omega) only[go_sem,seval,aa,h0]
   refine xM m hs hd ?_ ?_ ?_ ?_ ?_ ?_
   ·simp only[go_sem,seval]
   ·simp only[go_sem,seval]<;>rfl
   ·simp only[go_sem,seval]
   ·simp only[go_sem,seval]
   ·intro hv t' g1 g2
    simp only[go_sem,seval,g1,g2]
    exact hK _ _ ⟨by rw[hN,hv],rfl⟩
   ·intro n t' hv g1
    simp only[go_sem,seval,g1]
    exact hK _ _ ⟨by rw[hN,hv],rfl⟩
 ·have hN:vC s=De s 0:=by unfold vC;rw[adE (λq=>h1 q.1)]
  simp (disch:=omega) only[go_sem,seval,aa]
  refine xM m hs hd ?_ ?_ ?_ ?_ ?_ ?_
  ·simp only[go_sem,seval]
  ·simp only[go_sem,seval]<;>rfl
  ·simp only[go_sem,seval]
  ·simp only[go_sem,seval]
  ·intro hv t' g1 g2
   simp only[go_sem,seval,g1,g2]
   exact hK _ _ ⟨by rw[hN,hv],rfl⟩
  ·intro n t' hv g1
   simp only[go_sem,seval,g1]
   exact hK _ _ ⟨by rw[hN,hv],rfl⟩
theorem I9  {c:Nat} (hb:s[a]? =some c) (hL:Fo c=true) (hw:cut s a (aW eI s a)∉lm):oL (cut s a (aW eI s a))=decide ((cut s a (aW eI s a)).length<=16):=by
 have hI:eI c=true:=by unfold eI;rw[hL];rfl
 have hall:(cut s a (aW eI s a)).all eI=true:=by rw[ae8];exact tL eI s a
 obtain⟨l,hl⟩:=U0 (p:=eI) hb hI
 unfold oL
 rw[adG hw,hall,hl]
 simp[hL]
theorem RQ  {q:Nat->Bool} (hpq:∀c,q c=true->p c=true) (s:List Nat):∀(k a:Nat),k=s.length - a->aW p s a=aW p s (aW q s a):=by
 intro k
 induction k with
 |zero=>intro a hk;rw[jF (p:=q) (by omega)]
 |succ k ih=>
  intro a hk
  have ha:a<s.length:=by omega
  cases hp:q s[a] with
  |true=>rw[dI (p:=q) ha hp,dI (p:=p) ha (hpq _ hp)];exact ih (a+1) (by omega)
  |false=>rw[kA (p:=q) ha hp]
theorem Tb (m:NH) (hs:s.length<=1000000) (h256:∀c∈s,c<256) (ha:a<s.length):
 ∃v m',rT 266 [.str s,ii a] m v m'/\(∃(k0:Int) (t0:List Nat) (n0 z:Int),v= .tup [.agg [ii k0,.str t0,.int .u64 (.lit n0),ii a],ii z,.bool (eG s a).isSome]/\∀k t n e,eG s a=some (k,t,n,e)->k0=k/\t0=t/\n0=n/\z=(e:Int) - a)/\Chg [] m m':=by
 refine WF.ex λK hK=> ?_
 refine WF.of_wpG (λ_=>rfl) yL (L:= [(.a .e,ii a),(.e,.str s)]) rfl ?_
 unfold K3
 have hb:s[a]? =some s[a]:=List.getElem?_eq_getElem ha
 generalize hc:s[a]=c at hb
 have hd:∀m,rT 313 [u8 c] m (.bool (ip c)) m:=λm=>wY m c
 have hl:∀m,rT 309 [u8 c] m (.bool (Fo c)) m:=λm=>sa m c
 cases hL:Fo c with
 |true=>
  rw[hL] at hl
  have hr:∀m,rT 306 [.str s,ii a,.fn 310 []] m (ii ((aW eI s a:Nat):Int)) m:=λm=>zF lR m hs (Nat.le_of_lt ha)
  have ha':a<=aW eI s a:=by unfold aW;omega
  have hz':aW eI s a<=s.length:=js (Nat.le_of_lt ha)
  simp (disch:=first|omega|(simp only[aA]<;>omega)) only[go_sem,seval,hb,(hl _).wf',(hr _).wf']
  generalize hM:hp _ 2 m=M
  have hCM:Chg [] m M:=by rw[←hM];exact aw rfl
  have o0:ap M (na m 0):=by rw[←hM];exact aq (by omega)
  have o1:ap M (na m 1):=by rw[←hM];exact aq (by omega)
  have q0:M.get (na m 0)=some (.cells true [.int .i64 (.lit 0),.str [],.int .u64 (.lit 0),.int .i64 (.lit 0)]):=by rw[←hM];simp (disch:=first|omega|(simp only[aA]<;>omega)) only[go_sem,seval]
  have q1:M.get (na m 1)=some (.cells true [.int .i64 (.lit 1),.str (cut s a (aW eI s a)),.int .u64 (.lit 0),ii a]):=by rw[←hM];simp (disch:=first|omega|(simp only[aA]<;>omega)) only[go_sem,seval]<;>rfl
  obtain⟨w,m1,hw,how,hC1⟩:=zB M
  have p0:=(hC1.get o0 (by simp)).trans q0
  have p1:=(hC1.get o1 (by simp)).trans q1
  have ne01:na m 0≠na m 1:=λh=>adD (fp h) (by omega)
  have ne10:na m 1≠na m 0:=λh=>adD (fp h) (by omega)
  have O0:=hC1.old o0
  have O1:=hC1.old o1
  have hlc:(cut s a (aW eI s a)).length<=1000000:=by unfold cut;rw[ac6,aa7];omega
  have hct:∀t,rT 274 [w,.str t] m1 (.bool (decide (t∈lm))) m1:=λt=>qP how.sl (by decide) t
  have hct:=hct (cut s a (aW eI s a))
  have e1:List.drop a (List.take (aW eI s a) s)=cut s a (aW eI s a):=rfl
  by_cases hwd:cut s a (aW eI s a)∈lm
  ·rw[adH hwd] at hct
   have T:eG s a=some (4,cut s a (aW eI s a),0,aW eI s a):=by unfold eG;rw[hb];simp[hL,hwd]
   simp (disch:=first|omega|(simp only[aA]<;>omega)) only[go_sem,seval,e1,hw.wf',hct.wf,p0,p1,gG]
   refine hK _ _ ⟨⟨_,_,_,_,by rw[T];rfl, ?_⟩, ?_⟩
   ·intro k t n e he
    rw[T] at he;cases he
    exact⟨rfl,rfl,rfl,rfl⟩
   ·refine hCM.trans ((hC1.weak (T:= [na m 1,na m 0]) (by simp)).trans (aw rfl) (by simp[bj])) ?_
    simp[ak]
  ·rw[adG hwd] at hct
   obtain⟨nv,m2,hn,rfl,hC2⟩:=Xy (hp [] 0 m1) hlc
   have hC2':Chg [] m1 m2:=by rw[aa] at hC2;exact hC2
   have r0:=(hC2'.get O0 (by simp)).trans p0
   have r1:=(hC2'.get O1 (by simp)).trans p1
   have P0:=hC2'.old O0
   have P1:=hC2'.old O1
   simp (disch:=first|omega|(simp only[aA]<;>omega)) only[go_sem,seval,e1,hw.wf',hct.wf,hn.wf,p1,r0,r1,gG]
   have hnb:=I9 hb hL hwd
   have T:eG s a=if (cut s a (aW eI s a)).length<=16 then some (1,cut s a (aW eI s a),0,aW eI s a) else none:=by unfold eG;rw[hb];simp[hL,hwd]
   have E:(eG s a).isSome=oL (cut s a (aW eI s a)):=by rw[T,hnb];by_cases h16:(cut s a (aW eI s a)).length<=16<;>simp[h16]
   refine hK _ _ ⟨⟨_,_,_,_,by rw[E], ?_⟩, ?_⟩
   ·intro k t n e he
    rw[T] at he
    split at he
    ·cases he;exact⟨rfl,rfl,rfl,rfl⟩
    ·cases he
   ·refine hCM.trans ((hC1.weak (T:= [na m 0]) (by simp)).trans ((hC2'.weak (T:= [na m 0]) (by simp)).trans (aw rfl) (by simp[bj])) (by simp)) ?_
    simp[ak]
 |false=>
  rw[hL] at hl
  cases hD:ip c with
  |true=>
   rw[hD] at hd
   have hr:∀m,rT 306 [.str s,ii a,.fn 313 []] m (ii ((aW ip s a:Nat):Int)) m:=λm=>zF wY m hs (Nat.le_of_lt ha)
   have ha':a<=aW ip s a:=by unfold aW;omega
   have hz':aW ip s a<=s.length:=js (Nat.le_of_lt ha)
   have e1:List.drop a (List.take (aW ip s a) s)=cut s a (aW ip s a):=rfl
   have hlc:(cut s a (aW ip s a)).length<=1000000:=by unfold cut;rw[ac6,aa7];omega
   have hnum:∀m,∃v,rT 314 [.str (cut s a (aW ip s a))] m v m/\v=(match vC (cut s a (aW ip s a)) with|some n=> .tup [u64 n,.bool true]|none=> .tup [u64 0,.bool false]):=λm=>by
    obtain⟨v,m',h,hv,rfl⟩:=L0 m hlc (tL ip s a)
    exact⟨v,h,hv⟩
   have hrr:=RQ S4 s _ a rfl
   cases hn:vC (cut s a (aW ip s a)) with
   |none=>
    rw[hn] at hnum
    have hnum:∀m,rT 314 [.str (cut s a (aW ip s a))] m (.tup [u64 0,.bool false]) m:=λm=>by
     obtain⟨v,h,rfl⟩:=hnum m;exact h
    have T:eG s a=none:=by unfold eG;rw[hb];simp[hL,hD,hn]
    simp (disch:=first|omega|(simp only[aA]<;>omega)) only[go_sem,seval,hb,e1,(hl _).wf',(hd _).wf',(hr _).wf',(hnum _).wf',gG]
    refine hK _ _ ⟨⟨_,_,_,_,by rw[T];rfl, ?_⟩, ?_⟩
    ·intro k t n e he;rw[T] at he;cases he
    ·exact aw rfl
   |some n=>
    rw[hn] at hnum
    have hnum:∀m,rT 314 [.str (cut s a (aW ip s a))] m (.tup [u64 n,.bool true]) m:=λm=>by
     obtain⟨v,h,rfl⟩:=hnum m;exact h
    by_cases he:aW ip s a=s.length
    ·have T:eG s a=some (2, [],n,aW ip s a):=by unfold eG;rw[hb];simp only[hL,hD,hn];rw[hrr,jF (p:=eI) (by omega)];simp
     simp (disch:=first|omega|(simp only[aA]<;>omega)) only[go_sem,seval,hb,e1,(hl _).wf',(hd _).wf',(hr _).wf',(hnum _).wf',gG]
     refine hK _ _ ⟨⟨_,_,_,_,by rw[T];rfl, ?_⟩, ?_⟩
     ·intro k t n e he';rw[T] at he';cases he'
      exact⟨rfl,rfl,rfl,rfl⟩
     ·exact aw rfl
    ·have hlt:aW ip s a<s.length:=by omega
     have hbe:s[aW ip s a]? =some s[aW ip s a]:=List.getElem?_eq_getElem hlt
     have hin:∀m,rT 310 [u8 s[aW ip s a]] m (.bool (eI s[aW ip s a])) m:=λm=>lR m _
     cases hI:eI s[aW ip s a] with
     |true=>
      rw[hI] at hin
      have hne:aW eI s a≠aW ip s a:=by
       rw[hrr,dI (p:=eI) hlt hI]
       have:=@km eI s (aW ip s a+1)
       omega
      have T:eG s a=none:=by
       unfold eG;rw[hb];simp[hL,hD,hn,hne]
      simp (disch:=first|omega|(simp only[aA]<;>omega)) only[go_sem,seval,hb,hbe,e1,(hl _).wf',(hd _).wf',(hr _).wf',(hnum _).wf',(hin _).wf',gG]
      refine hK _ _ ⟨⟨_,_,_,_,by rw[T];rfl, ?_⟩, ?_⟩
      ·intro k t n e he';rw[T] at he';cases he'
      ·exact aw rfl
     |false=>
      rw[hI] at hin
      have T:eG s a=some (2, [],n,aW ip s a):=by unfold eG;rw[hb];simp only[hL,hD,hn];rw[hrr,kA (p:=eI) hlt hI];simp
      simp (disch:=first|omega|(simp only[aA]<;>omega)) only[go_sem,seval,hb,hbe,e1,(hl _).wf',(hd _).wf',(hr _).wf',(hnum _).wf',(hin _).wf',gG]
      refine hK _ _ ⟨⟨_,_,_,_,by rw[T];rfl, ?_⟩, ?_⟩
      ·intro k t n e he';rw[T] at he';cases he'
       exact⟨rfl,rfl,rfl,rfl⟩
      ·exact aw rfl
  |false=>
   rw[hD] at hd
   have e1:List.drop a (List.take ((a:Int)+1).toNat s)= [c]:=by
    rw[show ((a:Int)+1).toNat=a+1 by omega,ab7,hb]
    simp only[ae6]
    rw[List.drop_append_of_le_length (by rw[aa7];omega),List.drop_take_self];rfl
   have h5:c<256:=h256 c (by rw[←hc];exact aa9 _)
   have hh:∀m,rT 315 [.str jZ,.str [c]] m (.bool (decide (c∈jZ))) m:=λm=>K8 m jZ (by decide) h5
   have hsl: [123,125,40,41,91,93,59,43,45,42,38,61,60]=jZ:=rfl
   have T:eG s a=if c∈jZ then some (3, [c],0,a+1) else none:=by unfold eG;rw[hb];simp[hL,hD]
   have E:(eG s a).isSome=decide (c∈jZ):=by rw[T];by_cases h:c∈jZ<;>simp[h]
   simp (disch:=first|omega|(simp only[aA]<;>omega)) only[go_sem,seval,hb,e1,(hl _).wf',(hd _).wf',hsl,(hh _).wf',gG]
   refine hK _ _ ⟨⟨_,_,_,_,by rw[E], ?_⟩, ?_⟩
   ·intro k t n e he
    rw[T] at he
    split at he
    ·cases he;exact⟨rfl,rfl,rfl,by omega⟩
    ·cases he
   ·exact aw rfl
def HO (s:List Nat) (o:Option Nat):Nat:=match o with|some a=>a|none=>s.length
theorem SU  (hs:s.length<=1000000) (h256:∀c∈s,c<256) {bs bw bx wh wr:D4} {w1 w2 w3:Bool} {z0:NV} {T:List D4}
 (hbs:m.get bs=some (.cells w1 [.str s])) (hbw:m.get bw=some (.cells w2 [.ptr wh 0])) (hbx:m.get bx=some (.cells w3 [.ptr wr 0]))
 (hwh:m.get wh=some (.cells true [z0])) (hwr:m.get wr=some (.cells true [.bool false]))
 (obs:ap m bs) (obw:ap m bw) (obx:ap m bx) (owh:ap m wh) (owr:ap m wr)
 (nbs:bs∉wh::wr::T) (nbw:bw∉wh::wr::T) (nbx:bx∉wh::wr::T) (nwr:wr∉wh::T) (nwh:wh∉wr::T)
 (I:List Tok->NH->Prop) (hI0:I [] m) (hI:∀L M M',I L M->Chg (wh::wr::T) m M->Chg [wh,wr] M M'->I L M')
 (hY:∀L (x:Tok) M,L.length<=s.length+1->Chg (wh::wr::T) m M->I L M->∃M',mH af8 S0 q [.agg x.l] M (.bool true) M'/\Chg (wh::wr::T) m M'/\M'.get wh=M.get wh/\M'.get wr=M.get wr/\I (L++ [x]) M'):
 ∃v m',rT 264 [.yld q,.ptr bs 0,.ptr bw 0,.ptr bx 0] m v m'/\Chg (wh::wr::T) m m'/\I (bG s).1 m'/\m'.get wh=some (.cells true [ii (HO s (bG s).2)])/\m'.get wr=some (.cells true [.bool (bG s).2.isSome]):=by
 refine WF.ex λK hK=> ?_
 refine WF.of_wpG (λ_=>rfl) yF (L:= [(.c .e,.ptr bx 0),(.b .e,.ptr bw 0),(.a .e,.ptr bs 0),(.e,.yld q)]) rfl ?_
 unfold KJ
 have hsk:∀m,∀a,a<=s.length->rT 265 [.str s,ii a] m (ii ((bF s a:Nat):Int)) m:=λm a ha=>Vn m hs ha
 have hs0:∀m,rT 265 [.str s,ii 0] m (ii ((bF s 0:Nat):Int)) m:=λm=>hsk m 0 (by omega)
 rw[aa]
 simp only[go_sem,seval,hbs,(hs0 _).wf']
 have hsk0:bF s 0<=s.length:=mw (Nat.zero_le _)
 refine W.loop (λk d=>∃t M i L,d=⟨t, [],none,M⟩/\NT.get D4.e t=some (.yld q)/\NT.get D4.e.a t=some (.ptr bs 0)/\NT.get D4.e.b t=some (.ptr bw 0)/\NT.get D4.e.c t=some (.ptr bx 0)/\NT.get D4.e.a.a t=some (ii (i:Nat))/\i<=s.length/\s.length<=i+k/\Chg (wh::wr::T) m M/\I L M/\M.get wr=some (.cells true [.bool false])/\(∃z,M.get wh=some (.cells true [z]))/\bG s=(L++(dV s (k+1) i).1,(dV s (k+1) i).2)) ?_ s.length _
  ⟨_,m,bF s 0, [],rfl,by exact gq rfl,by exact gq rfl,by exact gq rfl,by exact gq rfl,by exact gq rfl,hsk0,by omega,(Chg.refl m).weak (by simp),hI0,hwr,⟨_,hwh⟩,rfl⟩
 rintro k d ⟨t,M,i,L,rfl,g1,g2,g3,g4,g5,hi,hik,hC,hL,mr,⟨z,mh⟩,hT⟩
 apply av
 unfold Dd
 change wp _ _ _ _ ⟨puts [] t, [],none,M⟩ _
 rw[←aa M]
 have Obs:=hC.old obs
 have Obw:=hC.old obw
 have Obx:=hC.old obx
 have Owh:=hC.old owh
 have Owr:=hC.old owr
 have Gbs:=(hC.get obs nbs).trans hbs
 have Gbw:=(hC.get obw nbw).trans hbw
 have Gbx:=(hC.get obx nbx).trans hbx
 simp only[adJ,not_or] at nbs nbw nbx nwr nwh
 obtain⟨n1,n2,n3⟩:=nbs
 obtain⟨n4,n5,n6⟩:=nbw
 obtain⟨n7,n8,n9⟩:=nbx
 obtain⟨n10,n11⟩:=nwr
 obtain⟨n12,n13⟩:=nwh
 have hLl:L.length<=s.length+1:=by
  have h:=Iq s (s.length+1) (bF s 0)
  have h2:(bG s).1.length=_:=congrArg (λx=>x.1.length) hT
  rw[aa5] at h2
  have h3:(bG s).1.length<=s.length+1:=h
  omega
 by_cases hlt:i<s.length
 ·obtain⟨k,rfl⟩:∃k',k=k'+1:=⟨k - 1,by omega⟩
  have hTs:dV s (k+1+1) i=(match eG s i with
   |none=>([],some i)
   |some (kd,t,n,e)=>(⟨kd,t,n,i⟩::(dV s (k+1) (bF s e)).1,(dV s (k+1) (bF s e)).2)):=by
   rw[dV,adF hlt]<;>cases eG s i<;>rfl
  obtain⟨v,M2,hr,⟨k0,t0,n0,zz,rfl,htk⟩,hC2⟩:=Tb (hp [(.o wh,.cells true [ii i])] 0 M) hs h256 hlt
  have hM1:Chg [wh] M (hp [(.o wh,.cells true [ii i])] 0 M):=aw rfl
  have gwh:(hp [(AK.o wh,NO.cells true [ii i])] 0 M).get wh=some (.cells true [ii i]):=(aO Owh).trans aC
  have bs2:=(hC2.get (hM1.old Obs) (by simp)).trans ((hM1.get Obs (by simpa using n1)).trans Gbs)
  have bw2:=(hC2.get (hM1.old Obw) (by simp)).trans ((hM1.get Obw (by simpa using n4)).trans Gbw)
  have bx2:=(hC2.get (hM1.old Obx) (by simp)).trans ((hM1.get Obx (by simpa using n7)).trans Gbx)
  have wr2:=(hC2.get (hM1.old Owr) (by simp)).trans ((hM1.get Owr (by simpa using n10)).trans mr)
  have wh2:=(hC2.get (hM1.old Owh) (by simp)).trans gwh
  have obs2:=hC2.old (hM1.old Obs)
  have obw2:=hC2.old (hM1.old Obw)
  have obx2:=hC2.old (hM1.old Obx)
  have owr2:=hC2.old (hM1.old Owr)
  have owh2:=hC2.old (hM1.old Owh)
  have hC3:Chg [wh,wr] M M2:=(hM1.weak (T:= [wh,wr]) (by simp)).trans (hC2.weak (T:= [wh,wr]) (by simp)) λ_ h _=>h
  cases hk:eG s i with
  |none=>
   rw[hk] at hr
   have hr:rT 266 [.str s,ii i] (hp [(.o wh,.cells true [ii i])] 0 M) (.tup [.agg [ii k0,.str t0,.int .u64 (.lit n0),ii i],ii zz,.bool false]) M2:=hr
   simp (disch:=first|omega|(simp only[aA]<;>omega)) only[go_sem,seval,g2,g3,g4,g5,Gbs,Gbw,mh,hr.wf,bx2,wr2]
   rw[hTs,hk] at hT
   generalize hMF:hp _ 1 M2=MF
   have hF:Chg [wh,wr] M MF:=hC3.trans (T:= [wr]) (by rw[←hMF];exact aw rfl) (by simp)
   refine hK _ _ ⟨hC.trans (hF) (by simp), ?_, ?_, ?_⟩
   ·rw[hT];show I (L++ []) _;rw[ac7];exact hI _ _ _ hL hC hF
   ·rw[hT,←hMF];simp (disch:=omega) only[go_sem,seval,wh2]<;>rfl
   ·rw[hT,←hMF];simp (disch:=omega) only[go_sem,seval,wr2]<;>rfl
  |some x=>
   obtain⟨kd,tx,n,e⟩:=x
   rw[hk] at hr
   obtain⟨e0,e1,e2,e3⟩:=htk kd tx n e hk
   rw[e0,e1,e2,e3] at hr
   have hr:rT 266 [.str s,ii i] (hp [(.o wh,.cells true [ii i])] 0 M) (.tup [.agg [ii kd,.str tx,.int .u64 (.lit (n:Int)),ii i],ii ((e:Int) - i),.bool true]) M2:=hr
   simp (disch:=first|omega|(simp only[aA]<;>omega)) only[go_sem,seval,g1,g2,g3,g5,Gbs,Gbw,mh,hr.wf]
   generalize hM3:hp _ 1 M2=M3
   have hC4:Chg [] M2 M3:=by rw[←hM3];exact aw rfl
   have hC5:Chg [wh,wr] M M3:=hC3.tr hC4
   obtain⟨M4,hy,hC6,yh,yr,hI6⟩:=hY L ⟨kd,tx,n,i⟩ M3 hLl (hC.trans (hC5) (by simp)) (hI _ _ _ hL hC hC5)
   have hy:mH af8 S0 q [.agg [ii kd,.str tx,.int .u64 (.lit (n:Int)),ii i]] M3 (.bool true) M4:=hy
   have bs4:=(hC6.get obs (by simp only[adJ,not_or];exact⟨n1,n2,n3⟩)).trans hbs
   have obs4:=hC6.old obs
   obtain⟨l1,l2⟩:=JT hk
   have e4:(i:Int)+((e:Int) - i)=e:=by omega
   simp (disch:=first|omega|(simp only[aA]<;>omega)) only[go_sem,seval,hy.wy,g2,g5,bs4,e4,(hsk _ e l2).wf']
   have wh4:=yh.trans ((hC4.get owh2 (by simp)).trans wh2)
   have wr4:=yr.trans ((hC4.get owr2 (by simp)).trans wr2)
   have hge:e<=bF s e:=AO
   refine⟨k,by omega,_,M4,bF s e,L++ [⟨kd,tx,n,i⟩],by rw[aa], ?_, ?_, ?_, ?_, ?_,mw l2,by omega, ?_,hI6,wr4,⟨_,wh4⟩, ?_⟩
   ·simp only[go_sem,seval,g1]
   ·simp only[go_sem,seval,g2]
   ·simp only[go_sem,seval,g3]
   ·simp only[go_sem,seval,g4]
   ·simp only[go_sem,seval]
   ·exact hC6
   ·rw[hT,hTs,hk];simp
 ·have hTs:dV s (k+1) i=([⟨5, [],0,s.length⟩],none):=by rw[dV,adE hlt]
  rw[hTs] at hT
  simp (disch:=first|omega|(simp only[aA]<;>omega)) only[go_sem,seval,g1,g2,g3,g5,Gbs,Gbw,mh]
  generalize hM3:hp _ 0 M=M3
  have hF:Chg [wh,wr] M M3:=by rw[←hM3];exact (aw rfl).weak (by simp[bj])
  have wh3:M3.get wh=some (.cells true [ii s.length]):=by rw[←hM3];simp (disch:=first|assumption|omega|(apply aq;omega)|(apply au;assumption)|(simp only[aA]<;>omega)) only[go_sem,seval]
  have wr3:M3.get wr=some (.cells true [.bool false]):=by rw[←hM3];simp (disch:=first|omega|(simp only[aA]<;>omega)) only[go_sem,seval,mr]
  obtain⟨M4,hy,hC6,yh,yr,hI6⟩:=hY L ⟨5, [],0,s.length⟩ M3 hLl (hC.trans (hF) (by simp)) (hI _ _ _ hL hC hF)
  have hy:mH af8 S0 q [.agg [.int .i64 (.lit 5),.str [],.int .u64 (.lit 0),ii s.length]] M3 (.bool true) M4:=hy
  simp (disch:=first|assumption|omega|(apply aq;omega)|(apply au;assumption)|(simp only[aA]<;>omega)) only[go_sem,seval,hy.wy]
  rw[aa]
  refine hK _ _ ⟨hC6, ?_, ?_, ?_⟩
  ·rw[hT];exact hI6
  ·rw[hT];exact yh.trans wh3
  ·rw[hT];exact yr.trans wr3
theorem FN  (x:Tok) (h1:NT.get D4.e.a.c t=some (.ptr o 0)) (hq:M.get q=some (.loop 0 .none t [D4.e.c.c] cw cI)) (ho:M.get o=some (.cells true [u]))
 (hu:aQ m M u 4 (L.map Tok.l)) (hoq:o≠q) (hqo:ap M q) (hoo:ap M o) (hqm:ap m q) (hom:ap m o) (hmM:∀i,ap m i->ap M i) (hl:L.length<=1000000):
 ∃w M',mH af8 S0 q [.agg x.l] M w M'/\w= .bool true/\Chg (q::o::ids u) M M'/\M'.get q=some (.loop 0 .none t [D4.e.c.c] cw cI)/\∃u',M'.get o=some (.cells true [u'])/\aQ m M' u' 4 ((L++ [x]).map Tok.l):=by
 refine WY.ex λK hK=> ?_
 refine WY.of_wp hq rfl cw.eq_1 cI.eq_1 ?_
 change wp _ _ _ _ ⟨puts [(D4.e.c.c,.agg [ii x.k,.str x.t,u64 x.n,ii x.p])] t, [],none,hp [] 0 M⟩ _
 simp (disch:=first|omega|(simp only[aA]<;>omega)) only[go_sem,seval,h1,hq,ho]
 have hnq:q∉ids u:=λhi=>hu.new _ hi hqm
 have hno:o∉ids u:=λhi=>hu.new _ hi hom
 generalize hM1:hp _ 2 M=M1
 have hC1:Chg [q] M M1:=by rw[←hM1];exact aw rfl
 have hn1:M1.get (na M 1)=some (.cells true x.l):=by rw[←hM1];exact bt
 have on1:ap M1 (na M 1):=by rw[←hM1];exact aq (by omega)
 have hq1:M1.get q=some (.loop 1 .none t [D4.e.c.c] cw cI):=by rw[←hM1];exact (aO hqo).trans aC
 have ho1:=(hC1.get hoo (by simpa using hoq)).trans ho
 refine MC (hu.chg hC1 (λi hi=>by simp;rintro rfl;exact hnq hi)) hn1 on1 rfl (λi hi=>hC1.old (hmM i hi)) (by simp;omega) (by simp;omega) ?_
 intro u' M2 hu' hC2
 have hq2:=(hC2.get (hC1.old hqo) hnq).trans hq1
 have ho2:=(hC2.get (hC1.old hoo) hno).trans ho1
 have oq:=hC2.old (hC1.old hqo)
 have oo:=hC2.old (hC1.old hoo)
 have hqo':q≠o:=λe=>hoq e.symm
 simp (disch:=first|omega|(simp only[aA]<;>omega)) only[go_sem,seval,h1,hq2,ho2,hu'.sl.one]
 have hC3:Chg [q,o] M2 (hp [(.o q,.loop 0 .none t [D4.e.c.c] cw cI),(.o o,.cells true [u'])] 0 M2):=aw rfl
 have nq':q∉ids u':=λhi=>hu'.new _ hi hqm
 have no':o∉ids u':=λhi=>hu'.new _ hi hom
 refine hK _ _ ⟨rfl,((hC1.weak (by simp)).trans hC2 ?_).trans hC3 ?_,(aO oq).trans aC,u',(aO oo).trans ((bf hoq).trans aC), ?_⟩
 ·intro i hi _;exact aa8 _ (aa8 _ hi)
 ·intro i hi _;simp at hi ⊢;rcases hi with rfl|rfl<;>simp
 ·rw[show (L++ [x]).map Tok.l=L.map Tok.l++ [x.l] by simp]
  refine hu'.chg hC3 λi hi=> ?_
  simp
  exact⟨λe=>nq' (e▸hi),λe=>no' (e▸hi)⟩
theorem EZ  (hs:s.length<=16384) (h256:∀c∈s,c<256) {bs bw bx wh wr:D4} {w1 w2 w3:Bool} {z0:NV}
 (h1:NT.get D4.e.a.c t=some (.ptr o 0)) (h2:NT.get D4.e.c.b t=some (.fn 264 [.ptr bs 0,.ptr bw 0,.ptr bx 0])) (ho:M.get o=some (.cells true [.nils])) (hoo:ap M o)
 (hbs:M.get bs=some (.cells w1 [.str s])) (hbw:M.get bw=some (.cells w2 [.ptr wh 0])) (hbx:M.get bx=some (.cells w3 [.ptr wr 0]))
 (hwh:M.get wh=some (.cells true [z0])) (hwr:M.get wr=some (.cells true [.bool false]))
 (obs:ap M bs) (obw:ap M bw) (obx:ap M bx) (owh:ap M wh) (owr:ap M wr)
 (nbs:bs∉ [wh,wr,o]) (nbw:bw∉ [wh,wr,o]) (nbx:bx∉ [wh,wr,o]) (nwr:wr∉ [wh,o]) (nwh:wh∉ [wr,o])
 (hmM:∀i,ap m i->ap M i) (hQ:∀M' u,aQ m M' u 4 ((bG s).1.map Tok.l)->M'.get o=some (.cells true [u])->M'.get wh=some (.cells true [ii (HO s (bG s).2)])->M'.get wr=some (.cells true [.bool (bG s).2.isSome])->
  M'.get (na M 0)=some (.defd true)->ap M' (na M 0)->Chg [o,wh,wr] M M'->(∀i∈ids u,i≠na M 0)->Q .norm ⟨t,.mark (na M 0)::dfs,none,hp [] 0 M'⟩):
 W af8 S0 none (.rangeFunc (.tmp D4.e.c.b) [D4.e.c.c] cw cI) ⟨t,dfs,none,M⟩ Q:=by
 have key:∀M1,M1=hp [(.n 1,.loop 0 .none t [D4.e.c.c] cw cI),(.n 0,.defd true)] 2 M->W af8 S0 none (.rangeFunc (.tmp D4.e.c.b) [D4.e.c.c] cw cI) ⟨t,dfs,none,M⟩ Q:=by
  intro M1 hM1
  have hG:Chg [] M M1:=by rw[hM1];exact aw rfl
  have oq:ap M1 (na M 1):=by rw[hM1];exact aq (by omega)
  have om:ap M1 (na M 0):=by rw[hM1];exact aq (by omega)
  have gq:M1.get (na M 1)=some (.loop 0 .none t [D4.e.c.c] cw cI):=by rw[hM1];exact bt
  have gm:M1.get (na M 0)=some (.defd true):=by rw[hM1];exact bt
  have g:∀{id x},ap M id->M.get id=some x->M1.get id=some x:=λh q=>(hG.get h (by simp)).trans q
  simp only[adJ,adI,or_false,not_or] at nbs nbw nbx nwr nwh
  have hqw:∀{id},ap M id->id≠na M 1:=λh=>h.ne 1
  have hqw':∀{id},ap M id->na M 1≠id:=λh e=>h.ne 1 e.symm
  obtain⟨v,m',hr,hC,⟨hq,u,hou,hown⟩,hwh',hwr'⟩:=SU (m:=M1) (q:=na M 1) (T:= [o,na M 1]) (by omega) h256 (g obs hbs) (g obw hbw) (g obx hbx) (g owh hwh) (g owr hwr) (hG.old obs) (hG.old obw) (hG.old obx) (hG.old owh) (hG.old owr)
   (by simp only[adJ,adI,or_false,not_or];exact⟨nbs.1,nbs.2.1,nbs.2.2,hqw obs⟩)
   (by simp only[adJ,adI,or_false,not_or];exact⟨nbw.1,nbw.2.1,nbw.2.2,hqw obw⟩)
   (by simp only[adJ,adI,or_false,not_or];exact⟨nbx.1,nbx.2.1,nbx.2.2,hqw obx⟩)
   (by simp only[adJ,adI,or_false,not_or];exact⟨nwr.1,nwr.2,hqw owr⟩)
   (by simp only[adJ,adI,or_false,not_or];exact⟨nwh.1,nwh.2,hqw owh⟩)
   (λL N=>N.get (na M 1)=some (.loop 0 .none t [D4.e.c.c] cw cI)/\∃u,N.get o=some (.cells true [u])/\aQ M1 N u 4 (L.map Tok.l))
   ⟨gq,.nils,g hoo ho,aQ.nil⟩
   (by
    rintro L N N' ⟨hq,u,hou,hown⟩ hC hC'
    refine⟨(hC'.get (hC.old oq) ?_).trans hq,u,(hC'.get (hC.old (hG.old hoo)) ?_).trans hou,hown.chg hC' ?_⟩
    ·simp only[adJ,adI,or_false,not_or];exact⟨hqw' owh,hqw' owr⟩
    ·simp only[adJ,adI,or_false,not_or];exact⟨λe=>nwh.2 e.symm,λe=>nwr.2 e.symm⟩
    ·intro j hj
     simp only[adJ,adI,or_false,not_or]
     exact⟨λe=>hown.new j hj (e▸hG.old owh),λe=>hown.new j hj (e▸hG.old owr)⟩)
   (by
    rintro L x N hL hC ⟨hq,u,hou,hown⟩
    obtain⟨w,M',h3,rfl,h4,h5,u',h6,h7⟩:=FN x h1 hq hou hown (hqw hoo) (hC.old oq) (hC.old (hG.old hoo)) oq (hG.old hoo) (λi hi=>hC.old hi) (by omega)
    refine⟨M',h3,hC.trans h4 ?_, ?_, ?_,h5,u',h6,h7⟩
    ·intro i hi hio
     simp only[adJ,adI,or_false] at hi ⊢
     rcases hi with rfl|rfl|hi
     ·simp
     ·simp
     ·exact adD hio (hown.new i hi)
    ·refine h4.get (hC.old (hG.old owh)) ?_
     simp only[adJ,not_or];exact⟨hqw owh,nwh.2,λhi=>hown.new _ hi (hG.old owh)⟩
    ·refine h4.get (hC.old (hG.old owr)) ?_
     simp only[adJ,not_or];exact⟨hqw owr,nwr.2,λhi=>hown.new _ hi (hG.old owr)⟩)
  have hnm:na M 0∉wh::wr:: [o,na M 1]:=by
   simp only[adJ,adI,or_false,not_or]
   exact⟨λe=>owh.ne 0 e.symm,λe=>owr.ne 0 e.symm,λe=>hoo.ne 0 e.symm,λe=>by have:=fp e;omega⟩
  refine W.rangeN h2 (hM1▸hr) hq ?_ (hC.old oq)
  have hC2:Chg [na M 1] m' (hp [(AK.o (na M 1),NO.loop 3 Jump.none t [D4.e.c.c] cw cI)] 0 m'):=aw rfl
  rw[←aa (hp [(AK.o (na M 1),NO.loop 3 Jump.none t [D4.e.c.c] cw cI)] 0 m')]
  have g2:∀{id x},ap M id->m'.get id=some x->(hp [(AK.o (na M 1),NO.loop 3 Jump.none t [D4.e.c.c] cw cI)] 0 m').get id=some x:=λh q=>(hC2.get (hC.old (hG.old h)) (by simpa using hqw h)).trans q
  refine hQ _ u ?_ (g2 hoo hou) (g2 owh hwh') (g2 owr hwr') ((hC2.get (hC.old om) (by simp[cn])).trans ((hC.get om hnm).trans gm)) (hC2.old (hC.old om)) ?_ ?_
  ·exact (hown.chg hC2 λi hi=>by simp;rintro rfl;exact hown.new _ hi oq).back λi hi=>hG.old (hmM i hi)
  ·refine ((hG.weak (T:= [o,wh,wr]) (by simp)).trans hC ?_).trans hC2 ?_
   ·intro i hi hio;simp only[adJ,adI,or_false] at hi ⊢;rcases hi with rfl|rfl|rfl|rfl
    ·simp
    ·simp
    ·simp
    ·exact adD hio ak
   ·intro i hi hio;simp at hi;subst hi;exact adD hio ak
  ·rintro i hi rfl;exact hown.new _ hi om
 exact key _ rfl
theorem Zz (m:NH) (s:List Nat) (p1 p2:NV) (h1:∃i,p1= .ptr i 0) (h2:∃i,p2= .ptr i 0):rT 194 [.str s,p1,p2] m (.fn 264 [.ptr (na m 0) 0,.ptr (na m 1) 0,.ptr (na m 2) 0]) (hp [(.n 2,.cells true [p2]),(.n 1,.cells true [p1]),(.n 0,.cells true [.str s])] 3 m):=by
 obtain⟨i,rfl⟩:=h1
 obtain⟨j,rfl⟩:=h2
 have h:WF af8 S0 194 [.str s,.ptr i 0,.ptr j 0] m λv m'=>v=(.fn 264 [.ptr (na m 0) 0,.ptr (na m 1) 0,.ptr (na m 2) 0])/\m'=(hp [(.n 2,.cells true [.ptr j 0]),(.n 1,.cells true [.ptr i 0]),(.n 0,.cells true [.str s])] 3 m):=by
  refine WF.of_wpG (λ_=>rfl) Ch (L:= [(.b .e,.ptr j 0),(.a .e,.ptr i 0),(.e,.str s)]) rfl ?_
  unfold OL
  simp only[go_sem,seval]
 obtain⟨v,m',h1,rfl,rfl⟩:=h.ret
 exact h1
theorem qg (m:NH) (hv:Sl m v 1 (up b)) (hl:b.length<=1000000) (hb:∀c∈b,c<256):
 ∃r m',rT 125 [v] m r m'/\(if 16384<b.length then r= .tup [.nils,ii 0,ii 3] else (match (bG b).2 with|some a=>r= .tup [.nils,ii a,ii 2]|none=>∃u,r= .tup [u,ii b.length,ii 0]/\aQ m m' u 4 ((bG b).1.map Tok.l)))/\Chg [] m m':=by
 refine WF.ex λK hK=> ?_
 refine WF.of_wpM (λ_=>rfl) Dv (L:= [(.e,v)]) rfl ?_
 unfold LU
 have hlen:=hv.len
 rw[show (up b).length=b.length by simp] at hlen
 by_cases h1:16384<b.length
 ·simp (disch:=omega) only[go_sem,seval,hlen,aa]
  apply nP
  simp only[go_sem,seval]
  refine hK _ _ ⟨by rw[adF h1],Chg.refl m⟩
 ·simp (disch:=first|omega|(simp only[aA]<;>omega)) only[go_sem,seval,hlen]
  generalize hM:hp _ 3 m=M
  have hC:Chg [] m M:=by rw[←hM];exact aw rfl
  have g0:M.get (na m 0)=some (.cells true [ii 0]):=by rw[←hM];exact bt
  have g1:M.get (na m 1)=some (.cells true [.bool false]):=by rw[←hM];exact bt
  have g2:M.get (na m 2)=some (.cells true [.nils]):=by rw[←hM];exact bt
  have o0:ap M (na m 0):=by rw[←hM];exact aq (by omega)
  have o1:ap M (na m 1):=by rw[←hM];exact aq (by omega)
  have o2:ap M (na m 2):=by rw[←hM];exact aq (by omega)
  have hbt:Rb M v= .val (.str b):=(hv.chg hC λ_ _=>by simp).bts hb
  simp (disch:=first|omega|(simp only[aA]<;>omega)) only[go_sem,seval,hbt,(Zz M b _ _ ⟨_,rfl⟩ ⟨_,rfl⟩).wf']
  generalize hM2:hp _ 3 M=M2
  have hC2:Chg [] M M2:=by rw[←hM2];exact aw rfl
  have k0:M2.get (na M 0)=some (.cells true [.str b]):=by rw[←hM2];exact bt
  have k1:M2.get (na M 1)=some (.cells true [.ptr (na m 0) 0]):=by rw[←hM2];exact bt
  have k2:M2.get (na M 2)=some (.cells true [.ptr (na m 1) 0]):=by rw[←hM2];exact bt
  have q0:ap M2 (na M 0):=by rw[←hM2];exact aq (by omega)
  have q1:ap M2 (na M 1):=by rw[←hM2];exact aq (by omega)
  have q2:ap M2 (na M 2):=by rw[←hM2];exact aq (by omega)
  have nn:∀{i j},ap M (na m i)->na M j≠na m i:=λh e=>h.ne _ e.symm
  refine EZ (m:=m) (s:=b) (o:=na m 2) (bs:=na M 0) (bw:=na M 1) (bx:=na M 2) (wh:=na m 0) (wr:=na m 1) (by omega) hb ?_ ?_ ((hC2.get o2 (by simp)).trans g2) (hC2.old o2) k0 k1 k2 ((hC2.get o0 (by simp)).trans g0) ((hC2.get o1 (by simp)).trans g1) q0 q1 q2 (hC2.old o0) (hC2.old o1) ?_ ?_ ?_ ?_ ?_ (λi hi=>hC2.old (hC.old hi)) ?_
  ·simp only[go_sem,seval]
  ·simp only[go_sem,seval]
  ·simp only[adJ,adI,or_false,not_or];exact⟨nn o0,nn o1,nn o2⟩
  ·simp only[adJ,adI,or_false,not_or];exact⟨nn o0,nn o1,nn o2⟩
  ·simp only[adJ,adI,or_false,not_or];exact⟨nn o0,nn o1,nn o2⟩
  ·simp[cn]
  ·simp[cn]
  intro M' u hown ho hwh hwr hmk omk hC3 hu
  have p0:=hC3.old (hC2.old o0)
  have p1:=hC3.old (hC2.old o1)
  have p2:=hC3.old (hC2.old o2)
  have hCm:Chg [] m M':=((hC.trans hC2 λ_ h _=>h).weak (T:= [na m 2,na m 0,na m 1]) (by simp)).trans hC3 (λ_ h _=>h) |>.weak (by
   intro i hi ho;simp only[adJ,adI,or_false] at hi;rcases hi with rfl|rfl|rfl<;>exact adD ho ak)
  have hCf:∀x,Chg [] m (hp [(.o (na M2 0),x)] 0 M'):=λx=>hCm.trans (T:= [na M2 0]) (aw rfl) (by
   intro i hi ho;simp only[adJ,adI,or_false] at hi;subst hi;exact adD (hC2.old (hC.old ho)) ak)
  cases he:(bG b).2 with
  |some a=>
   rw[he] at hwh hwr
   have hwh:M'.get (na m 0)=some (.cells true [ii a]):=hwh
   have hwr:M'.get (na m 1)=some (.cells true [.bool true]):=hwr
   simp only[go_sem,seval,hwh,hwr,hmk]
   apply nP
   simp (disch:=omega) only[go_sem,seval]
   refine hK _ _ ⟨by rw[adE h1,he],hCf _⟩
  |none=>
   rw[he] at hwh hwr
   have hwh:M'.get (na m 0)=some (.cells true [ii b.length]):=hwh
   have hwr:M'.get (na m 1)=some (.cells true [.bool false]):=hwr
   simp only[go_sem,seval,ho,hwh,hwr,hmk]
   apply nP
   simp (disch:=omega) only[go_sem,seval]
   refine hK _ _ ⟨?_,hCf _⟩
   rw[adE h1,he]
   exact⟨u,rfl,hown.chg (aw rfl) λi hi=>by simpa [bj] using hu i hi⟩
theorem WF.pan {P:Program} {S:cE} {args:List NV} {E:NV->NH->Prop} (h:WF ⟨P,E⟩ S f args m λ_ _=>False):∃v m',Pan P S f args m v m'/\E v m':=by
 rcases h with⟨_,_,_,_,h⟩|⟨v,c,m',h1,h2⟩
 ·exact h.elim
 ·exact⟨v,m',⟨c,h1⟩,h2⟩
structure Rp (m:NH) (r:D4) (u:NV) (L:List Tok) (a:Nat):Prop where
 g:m.get r=some (.cells true [u,ii a])
 o:ap m r
 s:Sl m u 4 (L.map Tok.l)
 n:r∉ids u
 l:L.length<=20000
 k:∀i x,L[i]? =some x->(x.k=5↔i+1=L.length)
 a:a<L.length
 b:∀(i:Nat) (x:Tok),L[i]? =some x->∀c∈x.t,c<256
abbrev UA (s:Rs):NV:= .ifc 205 (.agg [ii s.e,ii s.b])
def CX (f:Nat) (args:List NV) (m:NH) (T:List D4) (s':Rs) (Φ:NV->NH->Prop):Prop:=∀(E K:NV->NH->Prop),(s'.e≠0->∀m',Chg T m m'->E (UA s') m')->(s'.e=0->∀v m',Φ v m'->K v m')->WF ⟨af8,E⟩ S0 f args m K
section
variable {m m' m0:NH} {r:D4} {u:NV} {L:List Tok} {a:Nat} {x:Tok} {T T':List D4} {s s':Rs}
theorem Rp.chg (h:Rp m r u L a) (hC:Chg T m m') (h1:r∉T) (h2:∀i∈ids u,i∉T):Rp m' r u L a:=
 ⟨(hC.get h.o h1).trans h.g,hC.old h.o,h.s.chg hC h2,h.n,h.l,h.k,h.a,h.b⟩
theorem Rp.grow (h:Rp m r u L a) (hC:Chg [] m m'):Rp m' r u L a:=h.chg hC (by simp) (by simp)
theorem Rp.tok (h:Rp m r u L a):L[a]? =some (aM L a):=by
 rw[List.getElem?_eq_getElem h.a,aM,List.getElem?_eq_getElem h.a];rfl
theorem Rp.put (h:Rp m r u L a) (h5:(aM L a).k≠5) (hM:hp [(.o r,.cells true [u,ii ((a:Int)+1)])] k m=M):Rp M r u L (a+1)/\Chg [r] m M:=by
 have hC:Chg [r] m M:=az hM rfl
 refine⟨⟨?_,hC.old h.o,h.s.chg hC λi hi q=>h.n (one q▸hi),h.n,h.l,h.k, ?_,h.b⟩,hC⟩
 ·rw[←hM];exact (aO h.o).trans aC
 ·have:=(h.k a _ h.tok).mpr
  have ha:=h.a
  by_cases e:a+1=L.length
  ·exact adD (this e) h5
  ·omega
theorem tM (h:Rp m r u L a):∃m',rT 195 [.ptr r 0] m (.agg (aM L a).l) m'/\Chg [] m m':=by
 refine WF.ex1 λK hK=> ?_
 refine WF.of_wpG (λ_=>rfl) CU (L:= [(.e,.ptr r 0)]) rfl ?_
 unfold Lh
 have g:=h.g
 have hlen:=h.s.len
 rw[aa0] at hlen
 have ha:=h.a
 obtain⟨id,off,wr,cs,a1,a2,a3,a4,a5⟩:=h.s.at a (by simpa using ha)
 rw[aa4] at a5
 have hx:=h.tok
 have hxe:L[a]=aM L a:=by rw[List.getElem?_eq_getElem ha] at hx;exact Option.some.inj hx
 rw[hxe] at a5
 have ho:=h.o
 unfold Tok.l at a5
 simp (disch:=first|omega|(simp only[aA]<;>omega)) only[go_sem,seval,g,hlen,a1,a2,a5]
 exact hK _ (aw rfl)
theorem UR (h:Rp m r u L a) (k:Nat) (t:List Nat):∃m',rT 200 [.ptr r 0,ii k,.str t] m (.bool (decide ((aM L a).k=k/\(aM L a).t=t))) m'/\Chg [] m m':=by
 refine WF.ex1 λK hK=> ?_
 refine WF.of_wpG (λ_=>rfl) Dc (L:= [(.b .e,.str t),(.a .e,ii k),(.e,.ptr r 0)]) rfl ?_
 unfold NI
 obtain⟨m1,r1,hC1⟩:=tM h
 generalize aM L a=x at *
 unfold Tok.l at r1
 rw[aa]
 by_cases h1:x.k=k
 ·by_cases h2:x.t=t
  ·rw[adH (show x.k=k/\x.t=t from⟨h1,h2⟩)] at hK
   subst h1 h2
   simp (disch:=first|omega|(simp only[aA]<;>omega)) only[go_sem,seval,r1.wf]
   exact hK _ (hC1.trans (T:= []) (aw rfl) (by simp))
  ·rw[adG (show ¬(x.k=k/\x.t=t) from λq=>h2 q.2)] at hK
   subst h1
   have h2':decide (x.t=t)=false:=adG h2
   simp (disch:=first|omega|(simp only[aA]<;>omega)) only[go_sem,seval,r1.wf,h2']
   exact hK _ (hC1.trans (T:= []) (aw rfl) (by simp))
 ·rw[adG (show ¬(x.k=k/\x.t=t) from λq=>h1 q.1)] at hK
  simp (disch:=first|omega|(simp only[aA]<;>omega)) only[go_sem,seval,r1.wf]
  exact hK _ (hC1.trans (T:= []) (aw rfl) (by simp))
theorem gc (h:Rp m r u L s.a) (hs:s.e=0) (h5:k≠5) {t:List Nat} (hk:iR t=k):∃m',rT 196 [.ptr r 0,ii k,.str t] m (.bool (aJ L t s)) m'/\Rp m' r u L (if aJ L t s=true then ay s else s).a/\Chg [r] m m':=by
 subst hk
 have e:aJ L t s=decide ((aM L s.a).k=iR t/\(aM L s.a).t=t):=by
  unfold aJ;simp[hs]
 rw[e]
 refine WF.ex1 λK hK=> ?_
 refine WF.of_wpG (λ_=>rfl) BY (L:= [(.b .e,.str t),(.a .e,ii (iR t)),(.e,.ptr r 0)]) rfl ?_
 unfold Pu
 obtain⟨m1,r1,hC1⟩:=UR h (iR t) t
 have h1:=h.grow hC1
 have g:=h1.g
 have o:=h1.o
 have hl:=h1.l
 have ha:=h1.a
 rw[aa]
 cases hd:decide ((aM L s.a).k=iR t/\(aM L s.a).t=t) with
 |false=>
  rw[hd] at r1 hK
  simp only[go_sem,seval,r1.wf']
  exact hK _ ⟨h1,hC1.weak (by simp)⟩
 |true=>
  rw[hd] at r1 hK
  simp (disch:=first|omega|(simp only[aA]<;>omega)) only[go_sem,seval,r1.wf,g]
  generalize hM:hp _ 0 m1=M
  have hk:=(of_decide_eq_true hd).1
  obtain⟨h2,hC2⟩:=h1.put (by omega) hM
  exact hK _ ⟨h2,(hC1.weak (T:= [r]) (by simp)).trans hC2 λi hi _=>hi⟩
theorem jd (h:Rp m r u L a) (e:Int):Pan af8 S0 201 [.ptr r 0,ii e] m (.ifc 205 (.agg [ii e,ii a])) m:=by
 suffices hh:WF ⟨af8,λv m'=>v= .ifc 205 (.agg [ii e,ii a])/\m'=m⟩ S0 201 [.ptr r 0,ii e] m λ_ _=>False by
  obtain⟨v,m',h1,rfl,rfl⟩:=WF.pan hh
  exact h1
 refine WF.of_wpG (λ_=>rfl) yB (L:= [(.a .e,ii e),(.e,.ptr r 0)]) rfl ?_
 unfold JP
 have g:=h.g
 rw[aa]
 simp (disch:=first|omega|(simp only[aA]<;>omega)) only[go_sem,seval,g]
theorem cj (hs:s.e=0) (e:Nat):bL e s=⟨s.a,e,s.a⟩:=adF hs
theorem fJ (s:Rs):(ay s).a=s.a+1:=rfl
theorem jI (h:Rp m r u L s.a) (hs:s.e=0) {t:List Nat} (hk:iR t=3):CX 267 [.ptr r 0,.str t] m [r] (cV L t s) λv m'=>v= .tup []/\Rp m' r u L (cV L t s).a/\Chg [r] m m':=by
 intro E K hE hK
 refine WF.of_wpG (λ_=>rfl) CA (L:= [(.a .e,.str t),(.e,.ptr r 0)]) rfl ?_
 unfold Mp
 obtain⟨m1,r1,h1,hC1⟩:=gc h hs (k:=3) (by omega) hk
 have r1:rT 196 [.ptr r 0,ii 3,.str t] m (.bool (aJ L t s)) m1:=r1
 unfold cV at hE hK
 rw[aa]
 cases hb:aJ L t s with
 |true=>
  rw[hb] at r1 h1
  rw[hb,adF rfl] at hK
  simp only[go_sem,seval,r1.wf']
  exact hK hs _ _ ⟨rfl,h1,hC1⟩
 |false=>
  rw[hb] at r1 h1
  rw[hb,adE aa3,cj hs] at hE
  rw[adE aa3] at h1
  simp only[go_sem,seval,r1.wf',(jd h1 2).wf]
  exact hE (by simp) _ hC1
def ic (L:List Tok) (k:Nat) (s:Rs):Rs:=if (aM L s.a).k=k then ay s else bL 2 s
theorem Rp.adv (h:Rp m r u L a) (h5:(aM L a).k≠5) (hC:Chg T m m') (hT:∀i∈ids u,i∉T) (g:m'.get r=some (.cells true [u,ii ((a:Int)+1)])):Rp m' r u L (a+1):=by
 refine⟨g,hC.old h.o,h.s.chg hC hT,h.n,h.l,h.k, ?_,h.b⟩
 have:=(h.k a _ h.tok).mpr
 have ha:=h.a
 by_cases e:a+1=L.length
 ·exact adD (this e) h5
 ·omega
theorem pB (h:Rp m r u L s.a) (hs:s.e=0) (h5:k≠5):CX 198 [.ptr r 0,ii k] m [r] (ic L k s) λv m'=>v= .agg (aM L s.a).l/\Rp m' r u L (ic L k s).a/\Chg [r] m m':=by
 intro E K hE hK
 refine WF.of_wpG (λ_=>rfl) CI (L:= [(.a .e,ii k),(.e,.ptr r 0)]) rfl ?_
 unfold LM
 generalize hm1:hp [(.n 0,.cells true [.int .i64 (.lit 0),.str [],.int .u64 (.lit 0),.int .i64 (.lit 0)])] 1 m=m1
 have hC1:Chg [] m m1:=az hm1 rfl
 have h1:=h.grow hC1
 obtain⟨m2,r2,hC2⟩:=tM h1
 have h2:=h1.grow hC2
 have on:ap m2 (na m 0):=hC2.old (aL hm1 (by omega))
 have gn:m2.get (na m 0)=some (.cells true [.int .i64 (.lit 0),.str [],.int .u64 (.lit 0),.int .i64 (.lit 0)]):=(hC2.get (aL hm1 (by omega)) (by simp)).trans (aI hm1)
 have hC12:Chg [] m m2:=hC1.tr hC2
 have g:=h2.g
 have o:=h2.o
 have nn:na m 0≠r:=(h.o.ne 0).symm
 have nn':r≠na m 0:=h.o.ne 0
 have hl:=h.l
 have ha:=h.a
 unfold ic at hE hK
 have adv:=fun {M:NH} {T:List D4} h5 (hC:Chg T m2 M)=>h2.adv (T:=T) (m':=M) h5 hC
 generalize aM L s.a=x at *
 unfold Tok.l at r2
 by_cases hk:x.k=k
 ·rw[adF hk] at hK
  simp (disch:=first|omega|(simp only[aA]<;>omega)) only[go_sem,seval,hm1,r2.wf,hk,g,gn]
  generalize hM:hp _ 1 m2=M
  have hC3:Chg [na m 0,r] m2 M:=az hM rfl
  have gM:M.get r=some (.cells true [u,ii ((s.a:Int)+1)]):=by rw[←hM];simp (disch:=omega) only[go_sem,seval]
  refine hK hs _ _ ⟨by unfold Tok.l;rw[hk],adv (by omega) hC3 (λi hi q=> ?_) gM,hC12.weak (T:= [r]) (by simp) |>.trans hC3 λi hi ho=> ?_⟩
  ·rcases aa1.1 q with rfl|q
   ·exact ak (h.s.old _ hi)
   ·exact h.n (one q▸hi)
  ·rcases aa1.1 hi with rfl|hi
   ·exact adD ho ak
   ·exact hi
 ·rw[adE hk,cj hs] at hE
  generalize hm3:hp [(.n 0,.cells true [ii x.k,.str x.t,u64 x.n,ii x.p]),(.n 0,.cells true [.int .i64 (.lit 0),.str [],.int .u64 (.lit 0),.int .i64 (.lit 0)])] 1 m2=m3
  have hC3:Chg [] m2 m3:=az hm3 rfl
  have g3:m3.get (na m2 0)=some (.cells true [ii x.k,.str x.t,u64 x.n,ii x.p]):=aI hm3
  have h3:=h2.grow hC3
  simp (disch:=first|omega|(simp only[aA]<;>omega)) only[go_sem,seval,hm1,r2.wf,hm3,g3,(jd h3 2).wf]
  exact hE (by simp) _ (((hC12.tr hC3).weak (T:= [r]) (by simp)))
theorem gL (hs:s.e=0):(aX L s).2=ic L 1 s/\((aX L s).2.e=0->(aX L s).1=(aM L s.a).t):=by
 unfold aX ic
 by_cases h:(aM L s.a).k=1
 ·rw[adE (by simp[hs,h]),adF h];exact⟨rfl,λ_=>rfl⟩
 ·rw[adF (Or.inr h),adE h]
  refine⟨rfl,λq=> ?_⟩
  rw[cj hs] at q;simp at q
end
def Hu (T:Tok):Nat:=if oX (iQ T)=true then iQ T else 0
theorem AL {T:Tok} (h:oX (iQ T)=false):Hu T=0:=adE (by rw[h];exact aa3)
theorem Ou {T:Tok} (h:oX (iQ T)=true):Hu T=iQ T:=adF h
theorem YK {T:Tok}:Hu T=0↔oX (iQ T)=false:=by
 cases h:oX (iQ T) with
 |false=>simp[AL h]
 |true=>
  rw[Ou h]
  simp only[Bool.true_eq_false,iff_false]
  intro q;rw[q] at h;exact adD h (by decide)
def Zx (f:Nat) (r:D4) (u:NV) (L:List Tok) (E:Rs->Ex×Rs) (d:Nat):Prop:=∀(m:NH) (s:Rs),Rp m r u L s.a->s.e=0->CX f [.ptr r 0,ii d] m [r] (E s).2 λv m'=>
 (∃w,v= .agg [ii (E s).1.k,u64 (E s).1.n,u8 (E s).1.o,.str (E s).1.s,w,ii (E s).1.depth]/\RE m' (gQ m) (E s).1 ((E s).1.l w))/\1<=(E s).1.depth/\(E s).1.depth<=30/\Rp m' r u L (E s).2.a/\Chg [r] m m'
abbrev z6:List NV:= [.int .i64 (.lit 0),.int .u64 (.lit 0),.int .u8 (.lit 0),.str [],.nils,.int .i64 (.lit 0)]
theorem wS  {s:Rs} (h:s.e≠0):cV L w s=s:=(bT L w s).err h
theorem ji  {T:List D4} (h:RE m (gQ m0) x c) (hC:Chg T m m') (hT:∀i∈T,ap m0 i):RE m' (gQ m0) x c:=h.stays (bz.of hC λi hi q=>hi (hT i q))
theorem lu  {m1:NH} {T:List D4} (h:RE m (gQ m1) x c) (hC:Chg T m0 m1):RE m (gQ m0) x c:=h.weak λi hi q=>hi (hC.old q)
section
variable {m m' m0:NH} {r:D4} {u:NV} {L:List Tok} {a:Nat} {T T':List D4} {s s':Rs}
theorem rF (h:Rp m r u L a):∃m',rT 371 [.ptr r 0] m (u8 (Hu (aM L a))) m'/\Chg [] m m':=by
 refine WF.ex1 λK hK=> ?_
 refine WF.of_wpG (λ_=>rfl) AR (L:= [(.e,.ptr r 0)]) rfl ?_
 unfold LS
 obtain⟨m1,r1,hC1⟩:=tM h
 have hb:=h.b a _ h.tok
 generalize aM L a=x at *
 unfold Tok.l at r1
 have no:Hu x=0->∀M,Chg [] m M->K (u8 0) M:=λe M hM=>by rw[e] at hK;exact hK M hM
 rw[aa]
 by_cases h3:x.k=3
 ·rw[h3] at r1
  match hxt:x.t,hb with
  | [],_=>
   rw[hxt] at r1
   have e:Hu x=0:=by unfold Hu iQ;rw[hxt];simp[oX]
   simp (disch:=first|omega|(simp only[aA]<;>omega)) only[go_sem,seval,r1.wf]
   exact no e _ (hC1.trans (T:= []) (aw rfl) (by simp))
  | [c],hb=>
   rw[hxt] at r1
   have r2:=λm=>K8 m [43,45,42,38,61,60] (by simp) (hb c (by simp))
   have eo:iQ x=c:=by unfold iQ;rw[hxt,adF ⟨h3,rfl⟩];rfl
   have ei:oX c=decide (c∈ [43,45,42,38,61,60]):=by unfold oX;congr 1;simp
   cases hd:decide (c∈ [43,45,42,38,61,60]) with
   |true=>
    rw[hd] at r2 ei
    have e:Hu x=c:=by rw[Ou (by rw[eo];exact ei),eo]
    rw[e] at hK
    simp (disch:=first|omega|(simp only[aA]<;>omega)) only[go_sem,seval,r1.wf,(r2 _).wf']
    exact hK _ (hC1.trans (T:= []) (aw rfl) (by simp))
   |false=>
    rw[hd] at r2 ei
    have e:Hu x=0:=AL (by rw[eo];exact ei)
    simp (disch:=first|omega|(simp only[aA]<;>omega)) only[go_sem,seval,r1.wf,(r2 _).wf']
    exact no e _ (hC1.trans (T:= []) (aw rfl) (by simp))
  |c::d::l,_=>
   rw[hxt] at r1
   have e:Hu x=0:=AL (by unfold iQ;rw[hxt,adE (by simp)];rfl)
   simp (disch:=first|omega|(simp only[aA]<;>omega)) only[go_sem,seval,r1.wf]
   exact no e _ (hC1.trans (T:= []) (aw rfl) (by simp))
 ·have e:Hu x=0:=AL (by unfold iQ;rw[adE (by simp[h3])];rfl)
  simp (disch:=first|omega|(simp only[aA]<;>omega)) only[go_sem,seval,r1.wf]
  exact no e _ (hC1.trans (T:= []) (aw rfl) (by simp))
theorem LC  (hst:∀s,St L s (E s).2) (hd:d<=30) (ih:d<=29->Zx 352 r u L E (d+1)):Zx 370 r u L (iI L E d) d:=by
 intro m s h hs X K hX hK
 refine WF.of_wpG (λ_=>rfl) BM (L:= [(.a .e,ii d),(.e,.ptr r 0)]) rfl ?_
 unfold LH
 generalize hm1:hp [(.n 0,.cells true z6)] 1 m=m1
 have hm1':=hm1
 unfold z6 at hm1'
 have hC1:Chg [] m m1:=az hm1 rfl
 have h1:=h.grow hC1
 have o1:ap m1 (na m 0):=aL hm1 (by omega)
 have g1:m1.get (na m 0)=some (.cells true z6):=aI hm1
 have nr:na m 0∉ [r]:=λq=>h.o.ne 0 (one q).symm
 have hpf:iI L E d s=if s.e≠0 then (zE,s) else if 29<d then (zE,bL 11 s) else if (aM L s.a).k=2 then (Qu (aM L s.a).n,ay s) else if (aM L s.a).k=1 then (Hg (aM L s.a).t,ay s)
  else if aJ L [40] s=true then ((E (ay s)).1,cV L [41] (E (ay s)).2) else (zE,bL 2 s):=rfl
 rw[adE (by omega)] at hpf
 by_cases hbr:29<d
 ·rw[adF hbr] at hpf
  rw[hpf,cj hs] at hX
  simp (disch:=omega) only[go_sem,seval,hm1',(jd h1 11).wf]
  exact hX (by simp) _ (hC1.weak (by simp))
 rw[adE hbr] at hpf
 obtain⟨m2,r2,h2,hC2⟩:=gc h1 hs (k:=3) (t:= [40]) (by omega) rfl
 have r2:rT 196 [.ptr r 0,ii 3,.str [40]] m1 (.bool (aJ L [40] s)) m2:=r2
 have hC12:Chg [r] m m2:=(hC1.weak (T:= [r]) (by simp)).trans hC2 λi hi _=>hi
 have o2:=hC2.old o1
 have g2:=(hC2.get o1 nr).trans g1
 cases hb:aJ L [40] s with
 |true=>
  have hk3:(aM L s.a).k=3:=(of_decide_eq_true hb).2.1
  rw[hb] at r2 h2
  rw[adF rfl] at h2
  rw[adE (by omega),adE (by omega),adF hb] at hpf
  rw[hpf] at hX hK
  simp (disch:=omega) only[go_sem,seval,hm1',r2.wf']
  refine ih (by omega) m2 (ay s) h2 hs X _ (λhe m' hC=> ?_) ?_
  ·have e:=wS (L:=L) (w:= [41]) he
   dsimp only at hX
   rw[e] at hX
   exact hX he m' (hC12.trans hC λi hi _=>hi)
  rintro he v m3 ⟨⟨w,rfl,hx⟩,hd1,hd2,h3,hC3⟩
  generalize hE2:E (ay s)=q at hX hK hx hd1 hd2 h3 he
  obtain⟨x,s2⟩:=q
  dsimp only at hX hK hx hd1 hd2 h3 he
  have hC13:=hC12.trans hC3 λi hi _=>hi
  have o3:=hC3.old o2
  have g3:=(hC3.get o2 nr).trans g2
  have r3:ap m2 r:=h2.o
  rw[←aa m3]
  simp (disch:=first|omega|(simp only[aA]<;>omega)) only[go_sem,seval]
  generalize hm4:hp _ 1 m3=m4
  have hC4:Chg [] m3 m4:=az hm4 rfl
  have h4:=h3.grow hC4
  have hC14:=hC13.tr hC4
  have hx4:=ji hx hC4 (by simp)
  refine jI h4 he (t:= [41]) rfl X _ (λhe m' hC=>hX he m' (hC14.trans hC λi hi _=>hi)) ?_
  rintro he' _ m5 ⟨rfl,h5,hC5⟩
  have hC15:=hC14.trans hC5 λi hi _=>hi
  have hx5:=ji hx4 hC5 λi hi=>one hi▸r3
  have nr3:na m3 0∉ [r]:=λq=>h3.o.ne 0 (one q).symm
  have g4:m4.get (na m3 0)=some (.cells true [ii x.k,u64 x.n,u8 x.o,.str x.s,w,ii x.depth]):=aI hm4
  have o4:ap m4 (na m3 0):=aL hm4 (by omega)
  have g5:=(hC5.get o4 nr3).trans g4
  have o5:=hC5.old (hC4.old o3)
  have f5:=(hC5.get (hC4.old o3) nr).trans ((hC4.get o3 (by simp)).trans g3)
  unfold z6 at f5
  rw[←aa m5]
  simp (disch:=first|omega|(simp only[aA]<;>omega)) only[go_sem,seval,g5,f5]
  generalize hM:hp _ 0 m5=M
  have hC6:Chg [na m 0] m5 M:=az hM rfl
  refine hK he' _ _ ⟨⟨w,rfl,lu (ji hx5 hC6 λi hi=>one hi▸o2) hC12⟩,hd1,hd2,h5.chg hC6 (λq=>h.o.ne 0 (one q)) λi hi q=>ak (h.s.old _ (one q▸hi)),hC15.trans hC6 λi hi ho=> ?_⟩
  rw[one hi] at ho;exact adD ho ak
 |false=>
  rw[hb] at r2 h2
  rw[adE aa3] at h2
  obtain⟨m3,r3,hC3⟩:=tM h2
  have hC13:=hC12.tr hC3
  have h3:=h2.grow hC3
  have o3:=hC3.old o2
  have g3:=(hC3.get o2 (by simp)).trans g2
  unfold z6 at g3
  have gr:=h3.g
  have or:=h3.o
  have hl:=h.l
  have ha:=h.a
  have nn:na m 0≠r:=(h.o.ne 0).symm
  have nn':r≠na m 0:=h.o.ne 0
  have adv:=fun {M:NH} {T:List D4} h5 (hC:Chg T m3 M)=>h3.adv (T:=T) (m':=M) h5 hC
  rw[adE (c:=aJ L [40] s=true) (by rw[hb];exact aa3)] at hpf
  by_cases hk:(aM L s.a).k=2
  ·rw[adF hk] at hpf
   rw[hpf] at hK
   generalize aM L s.a=x at *
   unfold Tok.l at r3
   rw[hk] at r3
   simp (disch:=first|omega|(simp only[aA]<;>omega)) only[go_sem,seval,hm1',r2.wf',r3.wf,gr,g3]
   generalize hM:hp _ 1 m3=M
   have hC4:Chg [na m 0,r] m3 M:=az hM rfl
   have gM:M.get r=some (.cells true [u,ii ((s.a:Int)+1)]):=by rw[←hM];simp (disch:=omega) only[go_sem,seval]
   refine hK hs _ _ ⟨⟨.nils,rfl,V9 _ _ _⟩,by simp[Ex.depth,ja],by simp[Ex.depth,ja],adv (by omega) hC4 (λi hi q=> ?_) gM,hC13.trans hC4 λi hi ho=> ?_⟩
   ·rcases aa1.1 q with rfl|q
    ·exact ak (h.s.old _ hi)
    ·exact h.n (one q▸hi)
   ·rcases aa1.1 hi with rfl|hi
    ·exact adD ho ak
    ·exact hi
  ·rw[adE hk] at hpf
   have tx:=fun {M:NH} (h:Rp M r u L s.a)=>pB h hs (k:=1) (by omega)
   have hkf:ic L 1 s=if (aM L s.a).k=1 then ay s else bL 2 s:=rfl
   generalize aM L s.a=x at *
   unfold Tok.l at r3
   generalize hm4:hp [(.n 0,.cells true [ii x.k,.str x.t,u64 x.n,ii x.p]),(.n 0,.cells true [.int .i64 (.lit 0),.str [],.int .u64 (.lit 0),.int .i64 (.lit 0)])] 1 m3=m4
   have hC4:Chg [] m3 m4:=az hm4 rfl
   have h4:=h3.grow hC4
   have hC14:=hC13.tr hC4
   have g4:m4.get (na m3 0)=some (.cells true [ii x.k,.str x.t,u64 x.n,ii x.p]):=aI hm4
   simp (disch:=first|omega|(simp only[aA]<;>omega)) only[go_sem,seval,hm1',r2.wf',r3.wf,hm4,g4]
   refine tx h4 X _ (λhe m' hC=> ?_) ?_
   ·have e1:x.k≠1:=λq=>by rw[hkf,adF q] at he;exact he hs
    rw[adE e1] at hpf hkf
    rw[hpf] at hX
    rw[hkf] at he ⊢
    exact hX he m' (hC14.trans hC λi hi _=>hi)
   rintro he _ m5 ⟨rfl,h5,hC5⟩
   have e1:x.k=1:=by
    rcases Decidable.em (x.k=1) with q|q
    ·exact q
    ·rw[hkf,adE q,cj hs] at he;simp at he
   rw[adF e1] at hpf hkf
   rw[hpf] at hK
   rw[hkf] at h5
   have hC15:=hC14.trans hC5 λi hi _=>hi
   have o5:=hC5.old (hC4.old o3)
   have f5:=(hC5.get (hC4.old o3) nr).trans ((hC4.get o3 (by simp)).trans g3)
   rw[←aa m5]
   simp (disch:=first|omega|(simp only[aA]<;>omega)) only[go_sem,seval,f5,Tok.l]
   generalize hM:hp _ 0 m5=M
   have hC6:Chg [na m 0] m5 M:=az hM rfl
   refine hK hs _ _ ⟨⟨.nils,rfl,S2 _ _ _⟩,by simp[Ex.depth,ja],by simp[Ex.depth,ja],h5.chg hC6 (λq=>h.o.ne 0 (one q)) λi hi q=>ak (h.s.old _ (one q▸hi)),hC15.trans hC6 λi hi ho=> ?_⟩
   rw[one hi] at ho;exact adD ho ak
end
theorem KW (o:Nat) (x y:Ex):(JL o x y).depth=1+max x.depth y.depth:=by
 show Ex.depth (.mk 2 0 o [] [x,y])=_
 rw[Ex.depth,ja,ja,ja];omega
section
variable {m m' m0:NH} {r:D4} {u:NV} {L:List Tok} {a:Nat} {T T':List D4} {s s':Rs}
theorem Lv  (hst:∀s,St L s (iI L E d s).2) (hd:d<=30) (hp:Zx 370 r u L (iI L E d) d):Zx 352 r u L (oE L E d) d:=by
 intro m s h hs X K hX hK
 refine WF.of_wpG (λ_=>rfl) Cq (L:= [(.a .e,ii d),(.e,.ptr r 0)]) rfl ?_
 unfold Ld
 generalize hm1:Nm.hp [(.n 0,.cells true z6)] 1 m=m1
 have hm1':=hm1
 unfold z6 at hm1'
 have hC1:Chg [] m m1:=az hm1 rfl
 have h1:=h.grow hC1
 have o1:ap m1 (na m 0):=aL hm1 (by omega)
 have g1:m1.get (na m 0)=some (.cells true z6):=aI hm1
 have nr:na m 0∉ [r]:=λq=>h.o.ne 0 (one q).symm
 have hC1r:Chg [r] m m1:=hC1.weak (by simp)
 have hxl:oE L E d s=ma L (iI L E d) (L.length+1) (iI L E d s).1 (iI L E d s).2:=rfl
 have hs1:=hst s
 generalize iI L E d=P at hp hxl hst hs1
 simp only[go_sem,seval,hm1']
 refine hp m1 s h1 hs X _ (λhe m' hC=> ?_) ?_
 ·rw[ma,adF he] at hxl
  rw[hxl] at hX
  exact hX he m' (hC1r.trans hC λi hi _=>hi)
 rintro he v m2 ⟨⟨w,rfl,hx⟩,hd1,hd2,h2,hC2⟩
 generalize hPs:P s=q at hxl hx hd1 hd2 h2 hs1 he
 obtain⟨x,s1⟩:=q
 dsimp only at hxl hx hd1 hd2 h2 hs1 he
 generalize hXZ:oE L E d s=XZ at hxl hX hK
 obtain⟨Y,Z⟩:=XZ
 have hC12:=hC1r.trans hC2 λi hi _=>hi
 have o2:=hC2.old o1
 have g2:=(hC2.get o1 nr).trans g1
 generalize hm3:Nm.hp [(.n 0,.cells true [ii x.k,u64 x.n,u8 x.o,.str x.s,w,ii x.depth]),(.n 0,.cells true z6)] 1 m2=m3
 have hm3':=hm3
 unfold z6 at hm3'
 have hC3:Chg [] m2 m3:=az hm3 rfl
 have h3:=h2.grow hC3
 have hC13:=hC12.tr hC3
 obtain⟨m4,r4,hC4⟩:=rF h3
 have hC14:=hC13.tr hC4
 have h4:=h3.grow hC4
 have n3:m3.get (na m2 0)=some (.cells true [ii x.k,u64 x.n,u8 x.o,.str x.s,w,ii x.depth]):=aI hm3
 have p3:ap m3 (na m2 0):=aL hm3 (by omega)
 have n4:=(hC4.get p3 (by simp)).trans n3
 have p4:=hC4.old p3
 have nn:na m2 0≠na m 0:=(o2.ne 0).symm
 have nr2:na m2 0∉ [r]:=λq=>h2.o.ne 0 (one q).symm
 have nu2:∀i∈ids u,i≠na m2 0:=λi hi=>(h2.s.old i hi).ne 0
 have nm2:¬ap m (na m2 0):=λq=>ak (hC12.old q)
 have gz4:=(hC4.get (hC3.old o2) (by simp)).trans ((hC3.get o2 (by simp)).trans g2)
 have oz4:=hC4.old (hC3.old o2)
 have hx4:RE m4 (λi=>¬ap m i/\i≠na m 0/\i≠na m2 0) x (x.l w):=by
  have:=(hx.old.weak (T':=λi=>¬ap m i/\i≠na m 0/\i≠na m2 0) λi ⟨q1,q2⟩=>⟨λq=>q1 (hC1.old q),λq=>q1 (q▸o1),λq=>ak (q▸q2)⟩).stays (sw hC3 _)
  exact this.stays (sw hC4 _)
 have horm:=h.o
 have nz:∀i∈ids u,i∈ [na m 0]->False:=λi hi q=>ak (h.s.old _ (one q▸hi))
 have nm0:¬ap m (na m 0):=ak
 rw[←aa m2]
 simp (disch:=first|omega|(simp only[aA]<;>omega)) only[go_sem,seval,hm3',r4.wf']
 generalize na m2 0=n1 at *
 generalize na m 0=n0 at *
 clear r4 h3 h2 h1 n3 g2 g1 hC13 hC12 hC4 hC3 hC2 hm3 hm3' hm1' hm1 o1 o2 p3 hC1 hC1r hx hPs
 refine Nm.W.loop (λf dy=>∃T M x s w,dy=⟨T, [],none,M⟩/\NT.get D4.e T=some (.ptr r 0)/\NT.get D4.e.a T=some (ii d)/\NT.get D4.e.f T=some (.ptr n0 0)/\NT.get D4.e.a.a T=some (.ptr n1 0)/\NT.get D4.e.a.b T=some (u8 (Hu (aM L s.a)))/\
  Rp M r u L s.a/\s.e=0/\M.get n1=some (.cells true [ii x.k,u64 x.n,u8 x.o,.str x.s,w,ii x.depth])/\RE M (λi=>¬ap m i/\i≠n0/\i≠n1) x (x.l w)/\1<=x.depth/\x.depth<=30/\ap M n1/\M.get n0=some (.cells true z6)/\ap M n0/\Chg [r] m M/\ma L P f x s=(Y,Z)/\L.length<f+s.a) ?_ (L.length+1) _
  ⟨_,m4,x,s1,w,rfl,by exact gq rfl,by exact gq rfl,by exact gq rfl,by exact gq rfl,by exact gq rfl,h4,he,n4,hx4,hd1,hd2,p4,gz4,oz4,hC14,hxl.symm,by omega⟩
 clear h4 he n4 hx4 hd1 hd2 p4 gz4 oz4 hC14 hxl hs1
 rintro f dy ⟨T,M,x,s,w,rfl,t1,t2,t3,t4,t5,hI,he,gn,hx,hd1,hd2,on,gz,oz,hC,hE,hf⟩
 apply av
 unfold BR
 change wp _ _ _ _ ⟨puts [] T, [],none,M⟩ _
 have gr:=hI.g
 have or:=hI.o
 have hl:=hI.l
 have ha:=hI.a
 obtain⟨f,rfl⟩:∃f',f=f'+1:=⟨f - 1,by omega⟩
 rw[ma,adE (by omega)] at hE
 cases hop:oX (iQ (aM L s.a)) with
 |false=>
  rw[adF hop] at hE
  injection hE with e1 e2
  subst e1 e2
  rw[AL hop] at t5
  unfold z6 at gz
  rw[←aa M]
  simp (disch:=first|omega|(simp only[aA]<;>omega)) only[go_sem,seval,t3,t4,t5,gn,gz]
  generalize hM:Nm.hp _ 0 M=M'
  have hC5:Chg [n0] M M':=az hM rfl
  refine hK he _ _ ⟨⟨w,rfl,(hx.stays (bz.of hC5 λi hi q=>hi.2.1 (one q))).weak λi hi=>hi.1⟩,hd1,hd2,hI.chg hC5 (λq=>nr (by rw[one q];exact List.mem_singleton_self _)) λi hi q=> ?_,hC.trans hC5 λi hi ho=> ?_⟩
  ·exact nz i hi q
  ·exact adD (one hi▸ho) nm0
 |true=>
  rw[adE (by simp[hop])] at hE
  have h0:Hu (aM L s.a)≠0:=λq=>by rw[YK.mp q] at hop;exact aa3 hop
  have h5:(aM L s.a).k≠5:=by have:=Oh hop;omega
  rw[←Ou hop] at hE
  generalize Hu (aM L s.a)=c at *
  rw[←aa M]
  simp (disch:=first|omega|(simp only[aA]<;>omega)) only[go_sem,seval,t1,t2,t5,gr]
  generalize hM1:Nm.hp _ 0 M=M1
  obtain⟨h1,hC1⟩:=hI.put h5 hM1
  have hC01:=hC.trans hC1 λi hi _=>hi
  refine hp M1 (ay s) h1 he X _ (λhe' m' hC'=> ?_) ?_
  ·rw[adF he'] at hE
   injection hE with e1 e2
   rw[e2] at he' ⊢
   exact hX he' m' (hC01.trans hC' λi hi _=>hi)
  rintro he' v M2 ⟨⟨w2,rfl,hy⟩,he1,he2,h2,hC2⟩
  rw[adE (by omega)] at hE
  have hst2:=(hst (ay s)).le
  rw[fJ] at hst2
  generalize P (ay s)=q at *
  obtain⟨y,s2⟩:=q
  dsimp only at hE hy he1 he2 h2 he' hst2
  have hC02:=hC01.trans hC2 λi hi _=>hi
  have on2:=hC2.old (hC1.old on)
  have gn2:=(hC2.get (hC1.old on) nr2).trans ((hC1.get on nr2).trans gn)
  have oz2:=hC2.old (hC1.old oz)
  have gz2:=(hC2.get (hC1.old oz) nr).trans ((hC1.get oz nr).trans gz)
  have tr:∀{A B:NH},Chg [r] A B->bz (λi=>¬ap m i/\i≠n0/\i≠n1) A B:=λh=>bz.of h λi hi q=>hi.1 (one q▸horm)
  have hx2:=(hx.stays (tr hC1)).stays (tr hC2)
  have hy2:RE M2 (λi=>¬ap m i/\i≠n0/\i≠n1) y (y.l w2):=hy.weak λi hi=>⟨λq=>hi (hC01.old q),λq=>hi (q▸hC1.old oz),λq=>hi (q▸hC1.old on)⟩
  have odp:=KW c x y
  rw[←aa M2]
  by_cases h30:(30:Int)<1+max (x.depth:Int) y.depth
  ·rw[adF (by rw[odp];omega)] at hE
   cases f with
   |zero=>omega
   |succ f=>
   have hfe:(bL 11 s2).e≠0:=by rw[cj he'];simp
   rw[ma,adF hfe] at hE
   injection hE with e1 e2
   rw[cj he'] at e2
   subst e2
   simp (disch:=first|omega|(simp only[aA]<;>omega)) only[go_sem,seval,t1,t4,t5,gn2,h30]
   generalize hM3:Nm.hp _ 2 M2=M3
   have hC3:Chg [n1] M2 M3:=az hM3 rfl
   have h3:=h2.chg hC3 (λq=>nr2 (by rw[one q];exact List.mem_singleton_self _)) λi hi q=>nu2 i hi (one q)
   have hC03:=hC02.trans hC3 λi hi ho=>(nm2 (one hi▸ho)).elim
   simp only[go_sem,seval,(jd h3 11).wf]
   exact hX (by simp) _ hC03
  ·rw[adE (by rw[odp];omega)] at hE
   simp (disch:=first|omega|(simp only[aA]<;>omega)) only[go_sem,seval,t1,t4,t5,gn2,h30]
   generalize hM3:Nm.hp _ 2 M2=M3
   have hC3:Chg [n1] M2 M3:=az hM3 rfl
   have h3:=h2.chg hC3 (λq=>nr2 (by rw[one q];exact List.mem_singleton_self _)) λi hi q=>nu2 i hi (one q)
   have hC03:=hC02.trans hC3 λi hi ho=>(nm2 (one hi▸ho)).elim
   have ed:(1+max (x.depth:Int) y.depth)=(((JL c x y).depth:Nat):Int):=by rw[odp];omega
   rw[ed] at hM3
   have gn3:M3.get n1=some (.cells true [ii (JL c x y).k,u64 (JL c x y).n,u8 (JL c x y).o,.str (JL c x y).s,.slc (na M2 1) 0 2 5 2,ii (JL c x y).depth]):=by rw[←hM3];exact (aO on2).trans aC
   have gs3:M3.get (na M2 1)=some (.cells true (x.l w++y.l w2)):=aI hM3
   have os3:ap M3 (na M2 1):=aL hM3 (by omega)
   have nz':n0∉ [n1]:=λq=>nn (one q).symm
   obtain⟨M4,r4,hC4⟩:=rF h3
   have h4:=h3.grow hC4
   have s3:bz (λi=>¬ap m i/\i≠n0/\i≠n1) M2 M3:=bz.of hC3 λi hi q=>hi.2.2 (one q)
   have hz3:=Y3 (o:=c) (hx2.stays s3) (hy2.stays s3) (id:=na M2 1) ⟨λq=>ak (hC02.old q),λq=>ak (q▸oz2),λq=>ak (q▸on2)⟩ gs3 os3
   simp only[go_sem,seval,r4.wf']
   exact⟨f,by omega,_,M4,JL c x y,s2,_,rfl,by exact gq t1,by exact gq t2,by exact gq t3,by exact gq t4,by exact gq rfl,h4,he',(hC4.get (hC3.old on2) (by simp)).trans gn3,hz3.stays (sw hC4 _),by omega,by omega,hC4.old (hC3.old on2),(hC4.get (hC3.old oz2) (by simp)).trans ((hC3.get oz2 nz').trans gz2),hC4.old (hC3.old oz2),hC03.tr hC4,hE,by omega⟩
end
abbrev z5:List NV:= [.int .i64 (.lit 0),.int .u64 (.lit 0),.int .u8 (.lit 0),.str [],.nils]
section
variable {m m' m0:NH} {r sb:D4} {u:NV} {L:List Tok} {a:Nat} {T T':List D4} {s s':Rs}
theorem QX:∀n,n<=30->Zx 352 r u L (lI L n) (30 - n):=by
 intro n
 induction n with
 |zero=>
  intro _
  have e2:lI L 0=oE L (λs=>(zE,s)) 30:=by funext s;rfl
  rw[e2]
  exact Lv (λs=>pJ (λs=>St.refl _ s) s) (by omega) (LC (λs=>St.refl _ s) (by omega) λh=>by omega)
 |succ n ih=>
  intro hn
  have e:30 - (n+1)=29 - n:=by omega
  have h1:29 - n+1=30 - n:=by omega
  have e2:lI L (n+1)=oE L (lI L n) (29 - n):=by funext s;rfl
  rw[e,e2]
  exact Lv (λs=>pJ (dY L n) s) (by omega) (LC (dY L n) (by omega) λ_=>by rw[h1];exact ih (by omega))
def VaQ (r:D4) (u:NV) (L:List Tok) (m:NH) (q:Ex×Rs) (v:NV) (m':NH):Prop:=(∃w,v= .agg (q.1.l w)/\RE m' (gQ m) q.1 (q.1.l w))/\Rp m' r u L q.2.a/\Chg [r] m m'
theorem gX (h:Rp m r u L s.a) (hs:s.e=0):CX 316 [.ptr r 0] m [r] (eC L s).2 (VaQ r u L m (eC L s)):=by
 intro X K hX hK
 refine WF.of_wpG (λ_=>rfl) yk (L:= [(.e,.ptr r 0)]) rfl ?_
 unfold Mq
 generalize hm1:hp [(.n 0,.cells true z5)] 1 m=m1
 have hm1':=hm1
 unfold z5 at hm1'
 have hC1:Chg [] m m1:=az hm1 rfl
 have h1:=h.grow hC1
 have o1:ap m1 (na m 0):=aL hm1 (by omega)
 have g1:m1.get (na m 0)=some (.cells true z5):=aI hm1
 have nr:na m 0∉ [r]:=λq=>h.o.ne 0 (one q).symm
 have hC1r:Chg [r] m m1:=hC1.weak (by simp)
 have hx30:=QX (r:=r) (u:=u) (L:=L) 30 (by omega)
 simp only[go_sem,seval,hm1']
 refine hx30 m1 s h1 hs X _ (λhe m' hC=>hX he m' (hC1r.trans hC λi hi _=>hi)) ?_
 rintro he v m2 ⟨⟨w,rfl,hx⟩,hd1,hd2,h2,hC2⟩
 unfold VaQ at hK
 generalize hq:lI L 30 s=q at *
 have hq':eC L s=q:=hq
 rw[hq'] at hK hX
 obtain⟨x,s1⟩:=q
 dsimp only at *
 have g2:=(hC2.get o1 nr).trans g1
 unfold z5 at g2
 have o2:=hC2.old o1
 rw[←aa m2]
 have hf:Zc 0 5 (.agg [ii x.k,u64 x.n,u8 x.o,.str x.s,w,ii x.depth])= .val (.agg (x.l w)):=rfl
 simp (disch:=first|omega|(simp only[aA]<;>omega)) only[go_sem,seval,g2,hf]
 generalize hM:hp _ 0 m2=M
 have hC3:Chg [na m 0] m2 M:=az hM rfl
 refine hK he _ _ ⟨⟨w,rfl,lu (ji hx hC3 λi hi=>one hi▸o1) hC1⟩,h2.chg hC3 (λq=>h.o.ne 0 (one q)) λi hi q=>ak (h.s.old _ (one q▸hi)),(hC1r.trans hC2 λi hi _=>hi).trans hC3 λi hi ho=> ?_⟩
 rw[one hi] at ho;exact adD ho ak
theorem sW {i:D4} (h:i∈ [r]):i∈ [r,sb]:=by rw[one h];simp
theorem LO {s:Rs} (he:(ic L 1 s).e=0) (hs:s.e=0):(aX L s).2=ic L 1 s/\(aM L s.a).t=(aX L s).1:=⟨(gL hs).1,((gL hs).2 ((gL hs).1▸he)).symm⟩
theorem uE (h:Rp m r u L s.a) (hs:s.e=0) (hrs:r≠sb) (hsu:sb∉ids u) (ho:ap m sb) {c0 c1 c2 c3:NV} (hl:c.length=12)
 (hg:m.get sb=some (.cells true (c0::c1::c2::c3::ii 0::u64 0::u8 0:: .str []:: .nils::c))):CX 353 [.ptr r 0,.ptr sb 0] m [r,sb] (br L s).2.2 λv m'=>
 v= .tup []/\(∃w,m'.get sb=some (.cells true (c0::c1::c2:: .str (br L s).1::((br L s).2.1.l w++c)))/\RE m' (gQ m) (br L s).2.1 ((br L s).2.1.l w))/\Rp m' r u L (br L s).2.2.a/\Chg [r,sb] m m':=by
 intro X K hX hK
 refine WF.of_wpG (λ_=>rfl) xN (L:= [(.a .e,.ptr sb 0),(.e,.ptr r 0)]) rfl ?_
 unfold Nh
 have sr:sb∉ [r]:=λq=>hrs (one q).symm
 have hor:=h.o
 unfold br at hX hK
 rw[aa]
 simp only[go_sem,seval]
 refine pB h hs (k:=1) (by omega) X _ (λhe m' hC=> ?_) ?_
 ·have e1:=(gL (L:=L) hs).1
  rw[adE (by rw[aJ,e1];simp[he])] at hX
  dsimp only at hX
  rw[e1] at hX
  exact hX he _ (hC.weak λi hi _=>sW hi)
 rintro he _ m1 ⟨rfl,h1,hC1⟩
 obtain⟨e1,e2⟩:=LO he hs
 rw[←e1] at h1 he
 unfold Tok.l
 rw[e2]
 generalize aX L s=q at hX hK h1 he
 obtain⟨n,s1⟩:=q
 dsimp only at hX hK h1 he
 have hC01:Chg [r,sb] m m1:=hC1.weak λi hi _=>sW hi
 have g1:=(hC1.get ho sr).trans hg
 have o1:=hC1.old ho
 rw[←aa m1]
 simp (disch:=first|omega|(simp only[aA]<;>omega)) only[go_sem,seval,g1]
 generalize hM2:hp _ 0 m1=m2
 have hC2:Chg [sb] m1 m2:=az hM2 rfl
 have us:∀i∈ids u,i∉ [sb]:=λi hi q=>hsu (one q▸hi)
 have rs:r∉ [sb]:=λq=>hrs (one q)
 have h2:=h1.chg hC2 rs us
 have hC02:=hC01.trans hC2 λi hi _=>by rw[one hi];simp
 have g2:m2.get sb=some (.cells true (c0::c1::c2:: .str n::ii 0::u64 0::u8 0:: .str []:: .nils::c)):=nF o1 hM2
 have o2:=hC2.old o1
 obtain⟨m3,r3,h3,hC3⟩:=gc h2 he (k:=3) (t:= [91]) (by omega) rfl
 have r3:rT 196 [.ptr r 0,ii 3,.str [91]] m2 (.bool (aJ L [91] s1)) m3:=r3
 have hC03:=hC02.trans hC3 λi hi _=>sW hi
 have g3:=(hC3.get o2 sr).trans g2
 have o3:=hC3.old o2
 cases hb:aJ L [91] s1 with
 |false=>
  rw[hb] at r3 h3
  rw[adE aa3] at h3
  rw[adE (by rw[hb];exact aa3)] at hK
  simp only[go_sem,seval,r3.wf']
  exact hK he _ _ ⟨rfl,⟨.nils,g3,re0 _ _ 0 0 0 []⟩,h3,hC03⟩
 |true=>
  rw[hb] at r3 h3
  rw[adF rfl] at h3
  rw[adF hb] at hK hX
  simp only[go_sem,seval,r3.wf']
  refine gX h3 he X _ (λhe' m' hC=> ?_) ?_
  ·have e:=wS (L:=L) (w:= [93]) he'
   dsimp only at hX
   rw[e] at hX
   exact hX he' m' (hC03.trans hC λi hi _=>sW hi)
  rintro he' _ m4 ⟨⟨w,rfl,hx⟩,h4,hC4⟩
  generalize hq:eC L (ay s1)=q at hX hK hx h4 he'
  have hq':lI L 30 (ay s1)=q:=hq
  obtain⟨x,s4⟩:=q
  dsimp only at hX hK hx h4 he'
  have hC04:=hC03.trans hC4 λi hi _=>sW hi
  have g4:=(hC4.get o3 sr).trans g3
  have o4:=hC4.old o3
  have hxl:(x.l w).length=5:=rfl
  rw[←aa m4]
  simp (disch:=first|omega|(simp only[aA]<;>omega)) only[go_sem,seval,g4,Ex.l]
  generalize hM5:hp _ 0 m4=m5
  have hC5:Chg [sb] m4 m5:=az hM5 rfl
  have h5:=h4.chg hC5 rs us
  have hC05:=hC04.trans hC5 λi hi _=>by rw[one hi];simp
  have g5:m5.get sb=some (.cells true (c0::c1::c2:: .str n::(x.l w++c))):=nF o4 hM5
  have o5:=hC5.old o4
  have hx5:=ji (lu hx hC03) hC5 λi hi=>one hi▸ho
  refine jI h5 he' (t:= [93]) rfl X _ (λhe m' hC=>hX he m' (hC05.trans hC λi hi _=>sW hi)) ?_
  rintro he'' _ m6 ⟨rfl,h6,hC6⟩
  simp only[go_sem,seval]
  exact hK he'' _ _ ⟨rfl,⟨w,(hC6.get o5 sr).trans g5,ji hx5 hC6 λi hi=>one hi▸hor⟩,h6,hC05.trans hC6 λi hi _=>sW hi⟩
end
section
variable (L:List Tok)
def UM (p:Int) (s:Rs):Stm×Rs:=(.mk 0 p (aX L s).1 [] zE (eC L (aX L s).2).1 zE [] [],(eC L (aX L s).2).2)
def OP (p:Int) (s:Rs):Stm×Rs:=(.mk 1 p (aX L s).1 (br L (aX L s).2).1 (br L (aX L s).2).2.1 zE zE [] [],(br L (aX L s).2).2.2)
def EY (p:Int) (s:Rs):Stm×Rs:=(.mk 2 p [] (br L s).1 (br L s).2.1 (eC L (br L s).2.2).1 zE [] [],(eC L (br L s).2.2).2)
def Vg (p:Int) (s:Rs):Stm×Rs:=(.mk 3 p (aX L s).1 (br L (aX L s).2).1 (br L (aX L s).2).2.1 (eC L (br L (aX L s).2).2.2).1 (eC L (eC L (br L (aX L s).2).2.2).2).1 [] [],(eC L (eC L (br L (aX L s).2).2.2).2).2)
def Pf (p:Int) (s:Rs):Stm×Rs:=(.mk 5 p [] [] zE (eC L s).1 zE [] [],(eC L s).2)
def ra (p:Int) (s:Rs):Stm×Rs:=
 if aJ L [115,101,116] s=true then UM L p (ay s)
 else if aJ L [108,111,97,100] s=true then OP L p (ay s)
 else if aJ L [115,116,111,114,101] s=true then EY L p (ay s)
 else if aJ L [99,97,115] s=true then Vg L p (ay s)
 else if aJ L [102,101,110,99,101] s=true then (.mk 4 p [] [] zE zE zE [] [],ay s)
 else if aJ L [111,117,116] s=true then Pf L p (ay s)
 else (.mk 0 p [] [] zE zE zE [] [],bL 2 s)
end
structure Sx (r sb:D4) (u:NV) (L:List Tok) (m0 m:NH) (s:Rs) (c:List NV):Prop where
 h:Rp m r u L s.a
 e:s.e=0
 g:m.get sb=some (.cells true c)
 o:ap m sb
 C:Chg [r,sb] m0 m
 rs:r≠sb
 su:sb∉ids u
 ob:ap m0 sb
 or:ap m0 r
section
variable {m m' m0:NH} {r sb:D4} {u:NV} {L:List Tok} {a:Nat} {T T':List D4} {s s':Rs} {c c':List NV} {l:List (AK×NO)} {k:Nat}
theorem Sx.sr (h:Sx r sb u L m0 m s c):sb∉ [r]:=λq=>h.rs (one q).symm
theorem Sx.call (h:Sx r sb u L m0 m s c) (hR:Rp m' r u L s'.a) (e:s'.e=0) (hC:Chg [r] m m'):Sx r sb u L m0 m' s' c:=
 ⟨hR,e,(hC.get h.o h.sr).trans h.g,hC.old h.o,h.C.trans hC λi hi _=>sW hi,h.rs,h.su,h.ob,h.or⟩
theorem Sx.put (h:Sx r sb u L m0 m s c) (hM:hp ((.o sb,.cells true c')::l) k m=m') (hk:∀i∈bj ((.o sb,.cells true c')::l),i=sb):Sx r sb u L m0 m' s c':=by
 have hC:Chg [sb] m m':=by rw[←hM];exact (fA _ _ _).weak λi hi _=>by rw[hk i hi];simp
 refine⟨h.h.chg hC (λq=>h.rs (one q)) λi hi q=>h.su (one q▸hi),h.e, ?_,hC.old h.o,h.C.trans hC λi hi _=>by rw[one hi];simp,h.rs,h.su,h.ob,h.or⟩
 rw[←hM];exact (aO h.o).trans aC
theorem Sx.re1 (h:Sx r sb u L m0 m s c) (h':Sx r sb u L m0 m' s' c') (hC:Chg [r,sb] m m') {d:List NV} (hx:RE m (gQ m0) x d):RE m' (gQ m0) x d:=ji hx hC λi hi=>by
 rcases aa1.1 hi with rfl|hi
 ·exact h.or
 ·exact one hi▸h.ob
theorem Sx.cr (hC:Chg [r] m m'):Chg [r,sb] m m':=hC.weak λi hi _=>sW hi
theorem Sx.cs (hM:hp ((.o sb,.cells true c')::l) k m=m') (hk:∀i∈bj ((.o sb,.cells true c')::l),i=sb):Chg [r,sb] m m':=by rw[←hM];exact (fA _ _ _).weak λi hi _=>by rw[hk i hi];simp
theorem Sx.fe (h:Sx r sb u L m0 m s c) (hC:Chg [r] m m'):Chg [r,sb] m0 m':=h.C.trans hC λi hi _=>sW hi
theorem Sx.fe2 (h:Sx r sb u L m0 m s c) (hC:Chg [r,sb] m m'):Chg [r,sb] m0 m':=h.C.trans hC λi hi _=>hi
theorem Sx.new (h:Sx r sb u L m0 m s c) (hC:Chg [r] m m') {d:List NV} (hx:RE m' (gQ m) x d):RE m' (gQ m0) x d:=lu hx h.C
theorem Sx.take (h:Sx r sb u L m0 m s c) (h5:k≠5) {t:List Nat} (hk:iR t=k):∃m',rT 196 [.ptr r 0,ii k,.str t] m (.bool (aJ L t s)) m'/\Sx r sb u L m0 m' (if aJ L t s=true then ay s else s) c:=by
 obtain⟨m',r1,h1,hC1⟩:=gc h.h h.e h5 hk
 refine⟨m',r1,h.call h1 ?_ hC1⟩
 split<;>exact h.e
theorem lZ (h:Rp m r u L s.a) (hs:s.e=0):CX 198 [.ptr r 0,ii 1] m [r] (aX L s).2 λv m'=>(∃(k n p:Nat),v= .agg [ii k,.str (aX L s).1,u64 n,ii p])/\Rp m' r u L (aX L s).2.a/\Chg [r] m m':=by
 intro X K hX hK
 refine pB h hs (k:=1) (by omega) X K (λhe m' hC=> ?_) ?_
 ·rw[←(gL hs).1] at he ⊢
  exact hX he m' hC
 ·rintro he v m' ⟨rfl,h1,hC⟩
  obtain⟨e1,e2⟩:=LO he hs
  rw[←e1] at h1 he
  exact hK he _ _ ⟨⟨(aM L s.a).k,(aM L s.a).n,(aM L s.a).p,by rw[←e2];rfl⟩,h1,hC⟩
def Sq (r sb:D4) (u:NV) (L:List Tok) (m:NH) (q:Stm×Rs) (v:NV) (m':NH):Prop:=v= .tup []/\(∃w,m'.get sb=some (.cells true (q.1.l w))/\RS m' (gQ m) q.1 (q.1.l w))/\Rp m' r u L q.2.a/\Chg [r,sb] m m'
set_option maxHeartbeats 4000000 in
theorem L6 {p:Int} (i0:Sx r sb u L m m s (qu 0 p)):CX 317 [.ptr r 0,.ptr sb 0] m [r,sb] (ra L p s).2 (Sq r sb u L m (ra L p s)):=by
 intro X K hX hK
 refine WF.of_wpG (λ_=>rfl) AV (L:= [(.a .e,.ptr sb 0),(.e,.ptr r 0)]) rfl ?_
 unfold Kd
 rw[aa]
 have hX':∀t,St L t (ra L p s).2->t.e≠0->∀m',Chg [r,sb] m m'->X (UA t) m':=λt hst he m' hC=>by
  have:=hst.err he;rw[this] at hX;exact hX he m' hC
 have hf:∀{M:NH} {s':Rs} {y:Stm} {w:SV},Sx r sb u L m M s' (y.l w)->RS M (gQ m) y (y.l w)->ra L p s=(y,s')->K (.tup []) M:=λh1 h2 h3=>by
  rw[h3] at hK
  exact hK h1.e _ _ ⟨rfl,⟨_,h1.g,h2⟩,h1.h,h1.C⟩
 have z0:∀M,RE M (gQ m) zE (zE.l .nils):=λM=>aas M _
 clear hX hK
 obtain⟨m1,r1,i1⟩:=i0.take (k:=4) (t:= [115,101,116]) (by omega) rfl
 have r1:rT 196 [.ptr r 0,ii 4,.str [115,101,116]] m (.bool (aJ L [115,101,116] s)) m1:=r1
 unfold ra at hX' hf
 cases b1:aJ L [115,101,116] s with
 |true=>
  rw[b1] at r1 i1
  rw[adF rfl] at i1
  rw[adF b1] at hX' hf
  unfold UM at hX' hf
  simp (disch:=first|assumption|omega|(apply aq;omega)|(apply au;assumption)|(simp only[aA]<;>omega)) only[go_sem,seval,r1.wf']
  refine lZ i1.h i1.e X _ (λhe m' hC=>hX' _ (dY L 30 _) he m' (i1.fe hC)) ?_
  rintro he _ m21 ⟨⟨_,_,_,rfl⟩,h21,hC21⟩
  have i21:=i1.call h21 he hC21
  have g22:=i21.g
  unfold qu at g22
  have o22:=i21.o
  rw[←aa m21]
  simp (disch:=first|assumption|omega|(apply aq;omega)|(apply au;assumption)|(simp only[aA]<;>omega)) only[go_sem,seval,g22]
  generalize hM23:hp _ 0 m21=m23
  have i23:=i21.put hM23 (by simp[bj])
  refine gX i23.h i23.e X _ (λhe m' hC=>hX' _ (St.refl _ _) he m' (i23.fe hC)) ?_
  rintro he2 _ m24 ⟨⟨w,rfl,hx⟩,h24,hC24⟩
  have i24:=i23.call h24 he2 hC24
  have hx:=i23.new hC24 hx
  have g25:=i24.g
  have o25:=i24.o
  rw[←aa m24]
  simp (disch:=first|assumption|omega|(apply aq;omega)|(apply au;assumption)|(simp only[aA]<;>omega)) only[go_sem,seval,g25,Ex.l]
  generalize hM26:hp _ 0 m24=m26
  have i26:=i24.put hM26 (by simp[bj])
  have hx:=i24.re1 i26 (Sx.cs hM26 (by simp[bj])) hx
  exact hf (w:=⟨.nils,w,.nils,.nils,.nils⟩) i26 (RS.of (z0 _) hx (z0 _) (GF _ _) (GF _ _)) rfl
 |false=>
 rw[b1] at r1 i1
 rw[adE aa3] at i1
 rw[adE (by rw[b1];exact aa3)] at hX' hf
 obtain⟨m2,r2,i2⟩:=i1.take (k:=4) (t:= [108,111,97,100]) (by omega) rfl
 have r2:rT 196 [.ptr r 0,ii 4,.str [108,111,97,100]] m1 (.bool (aJ L [108,111,97,100] s)) m2:=r2
 cases b2:aJ L [108,111,97,100] s with
 |true=>
  rw[b2] at r2 i2
  rw[adF rfl] at i2
  rw[adF b2] at hX' hf
  unfold OP at hX' hf
  simp (disch:=first|assumption|omega|(apply aq;omega)|(apply au;assumption)|(simp only[aA]<;>omega)) only[go_sem,seval,r1.wf',r2.wf']
  refine lZ i2.h i2.e X _ (λhe m' hC=>hX' _ (jN _) he m' (i2.fe hC)) ?_
  rintro he _ m21 ⟨⟨_,_,_,rfl⟩,h21,hC21⟩
  have i21:=i2.call h21 he hC21
  have g22:=i21.g
  unfold qu at g22
  have o22:=i21.o
  rw[←aa m21]
  simp (disch:=first|assumption|omega|(apply aq;omega)|(apply au;assumption)|(simp only[aA]<;>omega)) only[go_sem,seval,g22]
  generalize hM22:hp _ 0 m21=m22
  have i22:=i21.put hM22 (by simp[bj])
  have gp23:=i22.g
  refine uE i22.h i22.e i22.rs i22.su i22.o (by simp) gp23 X _ (λhe m' hC=>hX' _ (St.refl _ _) he m' (i22.fe2 hC)) ?_
  rintro he _ m23 ⟨rfl,⟨w,G23,hx⟩,h23,hC23⟩
  have i23:Sx r sb u L m m23 _ _:=⟨h23,he,G23,hC23.old i22.o,i22.fe2 hC23,i22.rs,i22.su,i22.ob,i22.or⟩
  have hx:=lu hx i22.C
  simp (disch:=first|assumption|omega|(apply aq;omega)|(apply au;assumption)|(simp only[aA]<;>omega)) only[go_sem,seval]
  exact hf (w:=⟨w,.nils,.nils,.nils,.nils⟩) i23 (RS.of hx (z0 _) (z0 _) (GF _ _) (GF _ _)) rfl
 |false=>
 rw[b2] at r2 i2
 rw[adE aa3] at i2
 rw[adE (by rw[b2];exact aa3)] at hX' hf
 obtain⟨m3,r3,i3⟩:=i2.take (k:=4) (t:= [115,116,111,114,101]) (by omega) rfl
 have r3:rT 196 [.ptr r 0,ii 4,.str [115,116,111,114,101]] m2 (.bool (aJ L [115,116,111,114,101] s)) m3:=r3
 cases b3:aJ L [115,116,111,114,101] s with
 |true=>
  rw[b3] at r3 i3
  rw[adF rfl] at i3
  rw[adF b3] at hX' hf
  unfold EY at hX' hf
  have g3:=i3.g
  unfold qu at g3
  have o3:=i3.o
  simp (disch:=first|assumption|omega|(apply aq;omega)|(apply au;assumption)|(simp only[aA]<;>omega)) only[go_sem,seval,r1.wf',r2.wf',r3.wf,g3]
  generalize hM22:hp _ 0 m3=m22
  have i22:=i3.put hM22 (by simp[bj])
  have gp23:=i22.g
  refine uE i22.h i22.e i22.rs i22.su i22.o (by simp) gp23 X _ (λhe m' hC=>hX' _ (dY L 30 _) he m' (i22.fe2 hC)) ?_
  rintro he _ m23 ⟨rfl,⟨w,G23,hx⟩,h23,hC23⟩
  have i23:Sx r sb u L m m23 _ _:=⟨h23,he,G23,hC23.old i22.o,i22.fe2 hC23,i22.rs,i22.su,i22.ob,i22.or⟩
  have hx:=lu hx i22.C
  simp (disch:=first|assumption|omega|(apply aq;omega)|(apply au;assumption)|(simp only[aA]<;>omega)) only[go_sem,seval]
  refine gX i23.h i23.e X _ (λhe m' hC=>hX' _ (St.refl _ _) he m' (i23.fe hC)) ?_
  rintro he _ m24 ⟨⟨v,rfl,hy⟩,h24,hC24⟩
  have i24:=i23.call h24 he hC24
  have hy:=i23.new hC24 hy
  have hx:=i23.re1 i24 (Sx.cr hC24) hx
  have g25:=i24.g
  have o25:=i24.o
  rw[←aa m24]
  simp (disch:=first|assumption|omega|(apply aq;omega)|(apply au;assumption)|(simp only[aA]<;>omega)) only[go_sem,seval,g25,Ex.l]
  generalize hM25:hp _ 0 m24=m25
  have i25:=i24.put hM25 (by simp[bj])
  have hx:=i24.re1 i25 (Sx.cs hM25 (by simp[bj])) hx
  have hy:=i24.re1 i25 (Sx.cs hM25 (by simp[bj])) hy
  exact hf (w:=⟨w,v,.nils,.nils,.nils⟩) i25 (RS.of hx hy (z0 _) (GF _ _) (GF _ _)) rfl
 |false=>
 rw[b3] at r3 i3
 rw[adE aa3] at i3
 rw[adE (by rw[b3];exact aa3)] at hX' hf
 obtain⟨m4,r4,i4⟩:=i3.take (k:=4) (t:= [99,97,115]) (by omega) rfl
 have r4:rT 196 [.ptr r 0,ii 4,.str [99,97,115]] m3 (.bool (aJ L [99,97,115] s)) m4:=r4
 cases b4:aJ L [99,97,115] s with
 |true=>
  rw[b4] at r4 i4
  rw[adF rfl] at i4
  rw[adF b4] at hX' hf
  unfold Vg at hX' hf
  simp (disch:=first|assumption|omega|(apply aq;omega)|(apply au;assumption)|(simp only[aA]<;>omega)) only[go_sem,seval,r1.wf',r2.wf',r3.wf',r4.wf']
  refine lZ i4.h i4.e X _ (λhe m' hC=>hX' _ (((jN _).trans (dY L 30 _)).trans (dY L 30 _)) he m' (i4.fe hC)) ?_
  rintro he _ m21 ⟨⟨_,_,_,rfl⟩,h21,hC21⟩
  have i21:=i4.call h21 he hC21
  have g22:=i21.g
  unfold qu at g22
  have o22:=i21.o
  rw[←aa m21]
  simp (disch:=first|assumption|omega|(apply aq;omega)|(apply au;assumption)|(simp only[aA]<;>omega)) only[go_sem,seval,g22]
  generalize hM22:hp _ 0 m21=m22
  have i22:=i21.put hM22 (by simp[bj])
  have gp23:=i22.g
  refine uE i22.h i22.e i22.rs i22.su i22.o (by simp) gp23 X _ (λhe m' hC=>hX' _ ((dY L 30 _).trans (dY L 30 _)) he m' (i22.fe2 hC)) ?_
  rintro he _ m23 ⟨rfl,⟨w,G23,hx⟩,h23,hC23⟩
  have i23:Sx r sb u L m m23 _ _:=⟨h23,he,G23,hC23.old i22.o,i22.fe2 hC23,i22.rs,i22.su,i22.ob,i22.or⟩
  have hx:=lu hx i22.C
  simp (disch:=first|assumption|omega|(apply aq;omega)|(apply au;assumption)|(simp only[aA]<;>omega)) only[go_sem,seval]
  refine gX i23.h i23.e X _ (λhe m' hC=>hX' _ (dY L 30 _) he m' (i23.fe hC)) ?_
  rintro he _ m24 ⟨⟨v,rfl,hy⟩,h24,hC24⟩
  have i24:=i23.call h24 he hC24
  have hy:=i23.new hC24 hy
  have hx:=i23.re1 i24 (Sx.cr hC24) hx
  have g25:=i24.g
  have o25:=i24.o
  rw[←aa m24]
  simp (disch:=first|assumption|omega|(apply aq;omega)|(apply au;assumption)|(simp only[aA]<;>omega)) only[go_sem,seval,g25,Ex.l]
  generalize hM25:hp _ 0 m24=m25
  have i25:=i24.put hM25 (by simp[bj])
  have hx:=i24.re1 i25 (Sx.cs hM25 (by simp[bj])) hx
  have hy:=i24.re1 i25 (Sx.cs hM25 (by simp[bj])) hy
  refine gX i25.h i25.e X _ (λhe m' hC=>hX' _ (St.refl _ _) he m' (i25.fe hC)) ?_
  rintro he _ m26 ⟨⟨z,rfl,hz⟩,h26,hC26⟩
  have i26:=i25.call h26 he hC26
  have hz:=i25.new hC26 hz
  have hx:=i25.re1 i26 (Sx.cr hC26) hx
  have hy:=i25.re1 i26 (Sx.cr hC26) hy
  have g27:=i26.g
  have o27:=i26.o
  rw[←aa m26]
  simp (disch:=first|assumption|omega|(apply aq;omega)|(apply au;assumption)|(simp only[aA]<;>omega)) only[go_sem,seval,g27,Ex.l]
  generalize hM27:hp _ 0 m26=m27
  have i27:=i26.put hM27 (by simp[bj])
  have hx:=i26.re1 i27 (Sx.cs hM27 (by simp[bj])) hx
  have hy:=i26.re1 i27 (Sx.cs hM27 (by simp[bj])) hy
  have hz:=i26.re1 i27 (Sx.cs hM27 (by simp[bj])) hz
  exact hf (w:=⟨w,v,z,.nils,.nils⟩) i27 (RS.of hx hy hz (GF _ _) (GF _ _)) rfl
 |false=>
 rw[b4] at r4 i4
 rw[adE aa3] at i4
 rw[adE (by rw[b4];exact aa3)] at hX' hf
 obtain⟨m5,r5,i5⟩:=i4.take (k:=4) (t:= [102,101,110,99,101]) (by omega) rfl
 have r5:rT 196 [.ptr r 0,ii 4,.str [102,101,110,99,101]] m4 (.bool (aJ L [102,101,110,99,101] s)) m5:=r5
 cases b5:aJ L [102,101,110,99,101] s with
 |true=>
  rw[b5] at r5 i5
  rw[adF rfl] at i5
  rw[adF b5] at hX' hf
  have g5:=i5.g
  unfold qu at g5
  have o5:=i5.o
  simp (disch:=first|assumption|omega|(apply aq;omega)|(apply au;assumption)|(simp only[aA]<;>omega)) only[go_sem,seval,r1.wf',r2.wf',r3.wf',r4.wf',r5.wf,g5]
  generalize hM22:hp _ 0 m5=m22
  have i22:=i5.put hM22 (by simp[bj])
  exact hf (w:=⟨.nils,.nils,.nils,.nils,.nils⟩) i22 (RS.of (z0 _) (z0 _) (z0 _) (GF _ _) (GF _ _)) rfl
 |false=>
 rw[b5] at r5 i5
 rw[adE aa3] at i5
 rw[adE (by rw[b5];exact aa3)] at hX' hf
 obtain⟨m6,r6,i6⟩:=i5.take (k:=4) (t:= [111,117,116]) (by omega) rfl
 have r6:rT 196 [.ptr r 0,ii 4,.str [111,117,116]] m5 (.bool (aJ L [111,117,116] s)) m6:=r6
 cases b6:aJ L [111,117,116] s with
 |true=>
  rw[b6] at r6 i6
  rw[adF rfl] at i6
  rw[adF b6] at hX' hf
  unfold Pf at hX' hf
  simp (disch:=first|assumption|omega|(apply aq;omega)|(apply au;assumption)|(simp only[aA]<;>omega)) only[go_sem,seval,r1.wf',r2.wf',r3.wf',r4.wf',r5.wf',r6.wf']
  refine gX i6.h i6.e X _ (λhe m' hC=>hX' _ (St.refl _ _) he m' (i6.fe hC)) ?_
  rintro he _ m21 ⟨⟨w,rfl,hx⟩,h21,hC21⟩
  have i21:=i6.call h21 he hC21
  have hx:=i6.new hC21 hx
  have g22:=i21.g
  unfold qu at g22
  have o22:=i21.o
  rw[←aa m21]
  simp (disch:=first|assumption|omega|(apply aq;omega)|(apply au;assumption)|(simp only[aA]<;>omega)) only[go_sem,seval,g22,Ex.l]
  generalize hM22:hp _ 0 m21=m22
  have i22:=i21.put hM22 (by simp[bj])
  have hx:=i21.re1 i22 (Sx.cs hM22 (by simp[bj])) hx
  exact hf (w:=⟨.nils,w,.nils,.nils,.nils⟩) i22 (RS.of (z0 _) hx (z0 _) (GF _ _) (GF _ _)) rfl
 |false=>
 rw[b6] at r6 i6
 rw[adE aa3] at i6
 rw[adE (by rw[b6];exact aa3)] at hX' hf
 simp (disch:=first|assumption|omega|(apply aq;omega)|(apply au;assumption)|(simp only[aA]<;>omega)) only[go_sem,seval,r1.wf',r2.wf',r3.wf',r4.wf',r5.wf',r6.wf',(jd i6.h 2).wf]
 refine hX' (bL 2 s) (St.refl _ _) (by rw[cj i0.e];simp) _ i6.C |> λh=> ?_
 rw[cj i0.e] at h
 exact h
end
def StX (r:D4) (u:NV) (L:List Tok) (S:Rs->Stm×Rs) (d:Nat):Prop:=∀(m:NH) (s:Rs),Rp m r u L s.a->s.e=0->CX 268 [.ptr r 0,ii d] m [r] (S s).2 λv m'=>
 (∃w,v= .agg ((S s).1.l w)/\RS m' (gQ m) (S s).1 ((S s).1.l w))/\Rp m' r u L (S s).2.a/\Chg [r] m m'
def BdX (r:D4) (u:NV) (L:List Tok) (B:Rs->List Stm×Rs) (d:Nat):Prop:=∀(m:NH) (s:Rs),Rp m r u L s.a->s.e=0->CX 199 [.ptr r 0,ii d] m [r] (B s).2 λv m'=>
 (∃C,SS m' (gQ m) v (B s).1 C)/\Rp m' r u L (B s).2.a/\Chg [r] m m'
theorem Fw  {s:Rs} (hs:s.e=0):aJ L [123] s=decide ((aM L s.a).k=3/\(aM L s.a).t= [123]):=by
 have:iR [123]=3:=rfl
 unfold aJ;simp[hs,this]
section
variable {m m' m0:NH} {r sb:D4} {u:NV} {L:List Tok} {a:Nat} {T T':List D4} {s s':Rs}
theorem P8 {S:Rs->Stm×Rs} (hst:∀s,St L s (S s).2) (hpr:∀s,s.e=0->s.a<(S s).2.a∨(S s).2.e≠0) (ih:d<=29->StX r u L S d):BdX r u L (kI L S d) d:=by
 intro m s h hs E K hE hK
 refine WF.of_wpG (λ_=>rfl) z9 (L:= [(.a .e,ii d),(.e,.ptr r 0)]) rfl ?_
 unfold Pr
 obtain⟨m1,r1,hC1⟩:=UR h 3 [123]
 have r1:rT 200 [.ptr r 0,ii 3,.str [123]] m (.bool (decide ((aM L s.a).k=3/\(aM L s.a).t= [123]))) m1:=r1
 have h1:=h.grow hC1
 have c01:Chg [r] m m1:=hC1.weak (by simp)
 have hX:kG L S (L.length+1) [] (cV L [123] (kF L d s))=((kI L S d s).1,(kI L S d s).2):=rfl
 rw[aa]
 generalize (kI L S d s).1=X at hX hK
 generalize (kI L S d s).2=Z at hX hK hE
 have hstop:∀(f:Nat) (l:List Stm) (t:Rs),t.e≠0->kG L S f l t=(l,t):=λf l t ht=>by
  cases f with
  |zero=>rfl
  |succ f=>rw[kG,adF ht]
 have go:d<=29->∀(s:Rs),s.e=0->∀(m2:NH),Rp m2 r u L s.a->Chg [r] m m2->kG L S (L.length+1) [] s=(X,Z)->∀(t:Tm),NT.get D4.e t=some (.ptr r 0)->NT.get D4.e.a t=some (ii d)->NT.get D4.e.a.a t=some .nils->
  ∀Q:Out->Dyn->Prop,(∀t' M v C,NT.get D4.e.a.a t'=some v->Z.e=0->SS M (gQ m) v X C->Rp M r u L Z.a->Chg [r] m M->Q (.exit 0) ⟨puts [] t', [],none,M⟩)->W ⟨af8,E⟩ S0 none qB.loop ⟨t, [],none,m2⟩ Q:=by
  clear hX r1 h1 c01 hC1 hK
  intro hd s hs m2 h2 c02 hX t t1 t2 t3 Q hQ
  refine Nm.W.loop (λk dy=>∃T M l s v C,dy=⟨T, [],none,M⟩/\NT.get D4.e T=some (.ptr r 0)/\NT.get D4.e.a T=some (ii d)/\NT.get D4.e.a.a T=some v/\Rp M r u L s.a/\s.e=0/\Chg [r] m M/\aQ m M v 21 C/\C.length=l.length/\(∀(j:Nat) (x:Stm) (c:List NV),l[j]? =some x->C[j]? =some c->RS M (λi=>¬ap m i/\i∉ids v) x c)/\kG L S k l s=(X,Z)/\L.length<k+s.a/\l.length<=s.a) ?_ (L.length+1) _
   ⟨t,m2, [],s,.nils, [],rfl,t1,t2,t3,h2,hs,c02,aQ.nil,rfl,by simp,hX,by omega,by simp⟩
  clear t1 t2 t3 hX c02 h2 hs
  rintro k dy ⟨T,M,l,s,v,C,rfl,t1,t2,t3,hI,hs,hC,ho,hcl,hR,hX,hf,hls⟩
  apply av
  unfold qB
  change wp _ _ _ _ ⟨puts [] T, [],none,M⟩ _
  have ha:=hI.a
  have hl:=hI.l
  obtain⟨f,rfl⟩:∃f',k=f'+1:=⟨k - 1,by omega⟩
  rw[kG,adE (by omega)] at hX
  obtain⟨m3,r3,h3,hC3⟩:=gc hI hs (k:=3) (t:= [125]) (by omega) rfl
  have r3:rT 196 [.ptr r 0,ii 3,.str [125]] M (.bool (aJ L [125] s)) m3:=r3
  have c03:=hC.trans hC3 λi hi _=>hi
  have horm:ap m r:=h.o
  have vr:∀i∈ids v,i∉ [r]:=λi hi q=>ho.new i hi (one q▸horm)
  have hst3:bz (λi=>¬ap m i/\i∉ids v) M m3:=bz.of hC3 λi hi hs=>by
   have hs:=one hs;subst hs;exact hi.1 horm
  have o3:=ho.chg hC3 vr
  cases hb:aJ L [125] s with
  |true=>
   rw[hb] at r3 h3
   rw[adF rfl] at h3
   rw[adF hb] at hX
   injection hX with e1 e2
   subst e1 e2
   simp only[go_sem,seval,t1,r3.wf']
   exact hQ _ _ v C (by simp only[go_sem,seval,t3]) hs ⟨o3.sl,λi hi=>o3.new i hi,hcl,λj x c h1 h2=>((hR j x c h1 h2).stays hst3).weak λi hi=>hi.1⟩ h3 c03
  |false=>
   rw[hb] at r3 h3
   rw[adE aa3] at h3
   rw[adE (by rw[hb];exact aa3)] at hX
   simp only[go_sem,seval,t1,t2,t3,r3.wf']
   refine ih hd m3 s h3 hs E _ (λhe m' hC'=> ?_) ?_
   ·rw[hstop _ _ _ he] at hX
    injection hX with e1 e2
    rw[e2] at he ⊢
    exact hE he m' (c03.trans hC' λi hi _=>hi)
   rintro he _ m4 ⟨⟨w,rfl,hx4⟩,h4,hC4⟩
   have hpr':=hpr s hs
   generalize S s=q at hX hx4 h4 he hpr'
   obtain⟨x,s4⟩:=q
   dsimp only at hX hx4 h4 he hpr'
   have c04:=c03.trans hC4 λi hi _=>hi
   have o4:=o3.chg hC4 vr
   have hxl:(x.l w).length=21:=rfl
   rw[←aa m4]
   simp (disch:=first|omega|(simp only[aA]<;>omega)) only[go_sem,seval]
   generalize hm5:hp [(.n 0,.cells true _)] 1 m4=m5
   have hm5:hp [(.n 0,.cells true (x.l w))] 1 m4=m5:=hm5
   have hC5:Chg [] m4 m5:=az hm5 rfl
   have h5:=h4.grow hC5
   have c05:=c04.tr hC5
   obtain⟨v',m6,q1,q2,hC6,hF⟩:=(o4.chg hC5 (by simp)).app2 (bytes:=288) (kc:=1) (x:=na m4 0) (cs:=x.l w) (aI hm5) (aL hm5 (by omega)) hxl (λi hi=>c05.old hi) (by omega) (by omega)
   simp (disch:=first|assumption|omega|(apply aq;omega)|(apply au;assumption)|(simp only[aA]<;>omega)) only[go_sem,seval,q1]
   have hC35:Chg [r] m3 m5:=hC4.tr hC5
   refine⟨f,by omega,_,m6,l++ [x],s4,v',C++ [x.l w],by rfl,by simp only[go_sem,seval,t1],by simp only[go_sem,seval,t2],by simp only[go_sem,seval],h5.chg hC6 (λq=>ho.new _ q h.o) (λi hi q=>ho.new i q (h.s.old i hi)),he,c05.trans hC6 λi hi ho'=>(ho.new i hi ho').elim,q2,by simp[hcl], ?_,hX,by omega,by simp;omega⟩
   have hold:∀(j:Nat) (y:Stm) (c:List NV),l[j]? =some y->C[j]? =some c->RS m6 (λi=>¬ap m i/\i∉ids v') y c:=λj y c h1 h2=>by
    have a1:=((hR j y c h1 h2).stays hst3).stays (m':=m5) (bz.of hC35 λi hi hs=>by
     have hs:=one hs;subst hs;exact hi.1 horm)
    have a2:=a1.old.stays (m':=m6) (bz.of hC6 λi hi hs=>hi.1.2 hs)
    exact a2.weak λi hi=>⟨hi.1.1,λh=>(hF i h).elim hi.1.2 λq=>q hi.2⟩
   have hnew:RS m6 (λi=>¬ap m i/\i∉ids v') x (x.l w):=by
    have a1:RS m5 (gQ m3) x (x.l w):=hx4.stays (sw hC5 _)
    have a2:=a1.old.stays (m':=m6) (bz.of hC6 λi hi hs=>hi.1 (o3.sl.old i hs))
    exact a2.weak λi hi=>⟨λh=>hi.1 (c03.old h),λh=>(hF i h).elim (λq=>hi.1 (o3.sl.old i q)) λq=>q hi.2⟩
   intro j y c h1 h2
   rcases ac2 j l.length with h|h
   ·rw[List.getElem?_append_left h] at h1
    rw[List.getElem?_append_left (by omega)] at h2
    exact hold j y c h1 h2
   ·rw[List.getElem?_append_right h] at h1
    rw[List.getElem?_append_right (by omega),hcl] at h2
    cases hj:j - l.length with
    |zero=>rw[hj] at h1 h2;cases h1;cases h2;exact hnew
    |succ n=>rw[hj] at h1;simp at h1
 have hbr:=Fw (L:=L) hs
 cases hd:decide ((aM L s.a).k=3/\(aM L s.a).t= [123]) with
 |false=>
  rw[hd] at r1 hbr
  have e1:kF L d s=s:=by rw[kF,adE (λq=>of_decide_eq_false hd ⟨q.2.2.1,q.2.2.2⟩)]
  have e2:cV L [123] s=bL 2 s:=by rw[cV,hbr,adE aa3]
  rw[e1] at hX
  simp only[go_sem,seval,r1.wf']
  refine jI h1 hs (t:= [123]) rfl E _ (λhe m' hC=> ?_) ?_
  ·rw[hstop _ _ _ he] at hX
   injection hX with _ e3
   rw[e3] at he ⊢
   exact hE he m' (c01.trans hC λi hi _=>hi)
  ·intro he
   rw[e2,cj hs] at he;simp at he
 |true=>
  rw[hd] at r1 hbr
  by_cases h29:29<d
  ·have e1:kF L d s=bL 11 s:=by rw[kF,adF ⟨hs,h29,of_decide_eq_true hd⟩]
   have he:(bL 11 s).e≠0:=by rw[cj hs];simp
   rw[e1,wS he,hstop _ _ _ he] at hX
   injection hX with _ e3
   rw[←e3,cj hs] at hE
   simp (disch:=omega) only[go_sem,seval,r1.wf',(jd h1 11).wf]
   exact hE (by simp) _ c01
  ·have e1:kF L d s=s:=by rw[kF,adE (λq=>h29 q.2.1)]
   rw[e1] at hX
   simp (disch:=omega) only[go_sem,seval,r1.wf']
   refine jI h1 hs (t:= [123]) rfl E _ (λhe m' hC=> ?_) ?_
   ·rw[hstop _ _ _ he] at hX
    injection hX with _ e3
    rw[e3] at he ⊢
    exact hE he m' (c01.trans hC λi hi _=>hi)
   rintro he _ m2 ⟨rfl,h2,hC2⟩
   simp only[go_sem,seval]
   refine go (by omega) _ he m2 h2 (c01.trans hC2 λi hi _=>hi) hX _ (by simp only[go_sem,seval]) (by simp only[go_sem,seval]) (by simp only[go_sem,seval]) _ ?_
   intro t' M v C tv hz hS hR hC
   simp only[go_sem,seval,tv]
   exact hK hz _ _ ⟨⟨C,hS⟩,hR,hC⟩
end
section
variable {L:List Tok} {B:Rs->List Stm×Rs} {s:Rs}
theorem dv  {w':List Nat} (h:aJ L w s=true) (hw:w'≠w):aJ L w' s=false:=adG λq=>hw (q.2.2.symm.trans (of_decide_eq_true h).2.2)
theorem Tu (h:aJ L [105,102] s=true):fD L B s=XO L B (aM L s.a).p (ay s):=by
 unfold fD
 rw[dv h (by decide),dv h (by decide),dv h (by decide),dv h (by decide),dv h (by decide),dv h (by decide)]
 simp only[Bool.false_eq_true,if_false]
 exact adF h
theorem GE (h:aJ L [119,104,105,108,101] s=true):fD L B s=uW L B (aM L s.a).p (ay s):=by
 unfold fD
 rw[dv h (by decide),dv h (by decide),dv h (by decide),dv h (by decide),dv h (by decide),dv h (by decide),dv h (by decide)]
 simp only[Bool.false_eq_true,if_false]
 exact adF h
theorem PP (h1:aJ L [105,102] s=false) (h2:aJ L [119,104,105,108,101] s=false):fD L B s=nG L (ra L (aM L s.a).p s).1 (ra L (aM L s.a).p s).2:=by
 have hd:∀{p:Prop} [Decidable p] {a b:Stm×Rs},nG L (if p then a else b).1 (if p then a else b).2=if p then nG L a.1 a.2 else nG L b.1 b.2:=by intro p _ a b;split<;>rfl
 simp only[fD,ra,h1,h2,Bool.false_eq_true,if_false,hd]
 simp only[Xo,KA,Fg,UH,Wb,UM,OP,EY,Vg,Pf]
end
abbrev Qy:List NV:= [.int .i64 (.lit 0),.int .i64 (.lit 0),.str [],.str [],.int .i64 (.lit 0),.int .u64 (.lit 0),.int .u8 (.lit 0),.str [],.nils,.int .i64 (.lit 0),.int .u64 (.lit 0),.int .u8 (.lit 0),.str [],.nils,.int .i64 (.lit 0),.int .u64 (.lit 0),.int .u8 (.lit 0),.str [],.nils,.nils,.nils]
theorem kz  {T:List D4} {l:List Stm} (h:SS m (gQ m0) v l C) (hC:Chg T m m') (hT:∀i∈T,ap m0 i):SS m' (gQ m0) v l C:=h.stays (bz.of hC λi hi q=>hi (hT i q))
theorem EQ  {m1:NH} {T:List D4} {l:List Stm} (h:SS m (gQ m1) v l C) (hC:Chg T m0 m1):SS m (gQ m0) v l C:=h.weak λi hi q=>hi (hC.old q)
theorem H2  {T:List D4} {x:Stm} (h:RS m (gQ m0) x c) (hC:Chg T m m') (hT:∀i∈T,ap m0 i):RS m' (gQ m0) x c:=h.stays (bz.of hC λi hi q=>hi (hT i q))
theorem MX  {m1:NH} {T:List D4} {x:Stm} (h:RS m (gQ m1) x c) (hC:Chg T m0 m1):RS m (gQ m0) x c:=h.weak λi hi q=>hi (hC.old q)
section
variable {m m' m0:NH} {r sb:D4} {u:NV} {L:List Tok} {a:Nat} {T T':List D4} {s s':Rs} {c c':List NV}
theorem Sx.in2 (h:Sx r sb u L m0 m s c):∀i∈ [r,sb],ap m0 i:=λi hi=>by
 rcases aa1.1 hi with rfl|hi
 ·exact h.or
 ·exact one hi▸h.ob
theorem Sx.take3 (h:Sx r sb u L m0 m s c) (h5:k≠5) {t:List Nat} (hk:iR t=k):∃m',rT 196 [.ptr r 0,ii k,.str t] m (.bool (aJ L t s)) m'/\Sx r sb u L m0 m' (if aJ L t s=true then ay s else s) c/\Chg [r] m m':=by
 obtain⟨m',r1,h1,hC1⟩:=gc h.h h.e h5 hk
 refine⟨m',r1,h.call h1 ?_ hC1,hC1⟩
 split<;>exact h.e
set_option maxHeartbeats 4000000 in
theorem YL  (hd29:d<=29) (hstB:∀s,St L s (B s).2) (ih:BdX r u L B (d+1)):StX r u L (fD L B) d:=by
 intro m s h hs E K hE hK
 refine WF.of_wpG (λ_=>rfl) xE (L:= [(.a .e,ii d),(.e,.ptr r 0)]) rfl ?_
 unfold MN
 generalize hm1:hp [(.n 0,.cells true Qy)] 1 m=m1
 have hm1':=hm1
 unfold Qy at hm1'
 have hC1:Chg [] m m1:=az hm1 rfl
 have h1:=h.grow hC1
 have o1:ap m1 (na m 0):=aL hm1 (by omega)
 have g1:m1.get (na m 0)=some (.cells true Qy):=aI hm1
 have c01:Chg [r] m m1:=hC1.weak (by simp)
 obtain⟨m2,r2,hC2⟩:=tM h1
 unfold Tok.l at r2
 have h2:=h1.grow hC2
 have c02:=c01.tr hC2
 have hcast:((d+1:Nat):Int)=(d:Int)+1:=by omega
 simp (disch:=first|assumption|omega|(apply aq;omega)|(apply au;assumption)|(simp only[aA]<;>omega)) only[go_sem,seval,hm1',r2.wf]
 generalize hm3:hp _ 1 m2=m3
 have hC3:Chg [] m2 m3:=az hm3 rfl
 have h3:=h2.grow hC3
 have c03:=c02.tr hC3
 have o3:ap m3 (na m 0):=hC3.old (hC2.old o1)
 have g3:m3.get (na m 0)=some (.cells true Qy):=(hC3.get (hC2.old o1) (by simp)).trans ((hC2.get o1 (by simp)).trans g1)
 have i3:Sx r (na m2 0) u L m3 m3 s (qu 0 (aM L s.a).p):=⟨h3,hs,aI hm3,aL hm3 (by omega),(Chg.refl m3).weak (by simp),h2.o.ne 0,λq=>ak (h2.s.old _ q),aL hm3 (by omega),h3.o⟩
 have nm2:¬ap m (na m2 0):=λq=>ak (c02.old q)
 have nz:na m 0∉ [r,na m2 0]:=by
  simp only[adJ,adI,or_false,not_or]
  exact⟨(h.o.ne 0).symm,(hC2.old o1).ne 0⟩
 have hsub:∀i∈ [r,na m2 0],ap m i->i∈ [r]:=λi hi ho=>by
  rcases aa1.1 hi with rfl|hi
  ·simp
  ·exact (nm2 (one hi▸ho)).elim
 have hX':∀t,St L t (fD L B s).2->t.e≠0->∀m',Chg [r,na m2 0] m3 m'->E (UA t) m':=λt hst he m' hC=>by
  have:=hst.err he;rw[this] at hE;exact hE he m' (c03.trans hC hsub)
 have fin:∀(M:NH) (s':Rs) (x:Stm) (w:SV),Sx r (na m2 0) u L m3 M s' (x.l w)->RS M (gQ m3) x (x.l w)->fD L B s=(x,s')->∀M',Chg [na m 0] M M'->K (.agg (x.l w)) M':=by
  intro M s' x w hS hx he M' hC'
  rw[he] at hK
  refine hK hS.e _ _ ⟨⟨w,rfl,MX (H2 hx hC' λi hi=>one hi▸o3) c03⟩,hS.h.chg hC' (λq=>h.o.ne 0 (one q)) λi hi q=>ak (h.s.old _ (one q▸hi)),(c03.trans hS.C hsub).trans hC' λi hi ho=> ?_⟩
  rw[one hi] at ho;exact adD ho ak
 have zof:∀{M:NH} {s':Rs} {c:List NV},Sx r (na m2 0) u L m3 M s' c->M.get (na m 0)=some (.cells true Qy)/\ap M (na m 0):=λhS=>⟨(hS.C.get o3 nz).trans g3,hS.C.old o3⟩
 have z0:∀M,RE M (gQ m3) zE (zE.l .nils):=λM=>aas M _
 clear hm3 hE hK
 generalize na m2 0=sb at i3 hX' fin zof nz hsub
 generalize hpp:((aM L s.a).p:Int)=p at i3
 obtain⟨m4,r4,i4⟩:=i3.take (k:=4) (t:= [105,102]) (by omega) rfl
 have r4:rT 196 [.ptr r 0,ii 4,.str [105,102]] m3 (.bool (aJ L [105,102] s)) m4:=r4
 cases b1:aJ L [105,102] s with
 |true=>
  rw[b1] at r4 i4
  rw[adF rfl] at i4
  rw[Tu b1,hpp] at hX' fin
  simp (disch:=first|assumption|omega|(apply aq;omega)|(apply au;assumption)|(simp only[aA]<;>omega)) only[go_sem,seval,r4.wf']
  have eif:∀t,XO L B p (ay s)=t->t=if aJ L [101,108,115,101] (B (eC L (ay s)).2).2=true then (.mk 6 p [] [] zE (eC L (ay s)).1 zE (B (eC L (ay s)).2).1 (B (ay (B (eC L (ay s)).2).2)).1,(B (ay (B (eC L (ay s)).2).2)).2)
   else (.mk 6 p [] [] zE (eC L (ay s)).1 zE (B (eC L (ay s)).2).1 [],(B (eC L (ay s)).2).2):=λt e=>e.symm
  have sl:∀s1,(eC L (ay s)).2=s1->St L (B s1).2 (XO L B p (ay s)).2:=λs1 e=>by
   subst e
   rw[eif _ rfl]
   split
   ·rename_i hh;exact (dO hh).trans (hstB _)
   ·exact St.refl _ _
  refine gX i4.h i4.e E _ (λhe m' hC=>hX' _ ((hstB _).trans (sl _ rfl)) he m' (i4.fe hC)) ?_
  rintro he _ m14 ⟨⟨w,rfl,hx⟩,h14,hC14⟩
  have i14:=i4.call h14 he hC14
  have hx:=i4.new hC14 hx
  have g15:=i14.g
  unfold qu at g15
  have o15:=i14.o
  rw[←aa m14]
  simp (disch:=first|assumption|omega|(apply aq;omega)|(apply au;assumption)|(simp only[aA]<;>omega)) only[go_sem,seval,g15,Ex.l]
  generalize hM15:hp _ 0 m14=m15
  have i15:=i14.put hM15 (by simp[bj])
  have hx:=i14.re1 i15 (Sx.cs hM15 (by simp[bj])) hx
  rw[←hcast]
  refine ih m15 _ i15.h i15.e E _ (λhe m' hC=>hX' _ (sl _ rfl) he m' (i15.fe hC)) ?_
  rintro he v16 m16 ⟨⟨C16,hb⟩,h16,hC16⟩
  have i16:=i15.call h16 he hC16
  have hx:=i15.re1 i16 (Sx.cr hC16) hx
  have hb:=EQ hb i15.C
  have hv16:=hb.sl.one
  have g17:=i16.g
  have o17:=i16.o
  rw[←aa m16]
  simp (disch:=first|assumption|omega|(apply aq;omega)|(apply au;assumption)|(simp only[aA]<;>omega)) only[go_sem,seval,g17,hv16]
  generalize hM17:hp _ 0 m16=m17
  have i17:=i16.put hM17 (by simp[bj])
  have hC17:=Sx.cs (r:=r) hM17 (by simp[bj])
  have hx:=i16.re1 i17 hC17 hx
  have hb:=kz hb hC17 i16.in2
  obtain⟨m18,r18,i18,hC18⟩:=i17.take3 (k:=4) (t:= [101,108,115,101]) (by omega) rfl
  have r18:rT 196 [.ptr r 0,ii 4,.str [101,108,115,101]] m17 (.bool (aJ L [101,108,115,101] (B (eC L (ay s)).2).2)) m18:=r18
  have hC18:Chg [r,sb] m17 m18:=Sx.cr hC18
  have hx:=i17.re1 i18 hC18 hx
  have hb:=kz hb hC18 i17.in2
  cases b2:aJ L [101,108,115,101] (B (eC L (ay s)).2).2 with
  |false=>
   rw[b2] at r18 i18
   rw[adE aa3] at i18
   have ef:=eif _ rfl
   rw[adE (by rw[b2];exact aa3)] at ef
   simp (disch:=first|assumption|omega|(apply aq;omega)|(apply au;assumption)|(simp only[aA]<;>omega)) only[go_sem,seval,r18.wf']
   have ge:=i18.g
   have oe:=i18.o
   obtain⟨gz,oz⟩:=zof i18
   unfold Qy at gz
   rw[←aa m18]
   simp (disch:=first|assumption|omega|(apply aq;omega)|(apply au;assumption)|(simp only[aA]<;>omega)) only[go_sem,seval,ge,gz]
   refine fin m18 _ _ ⟨.nils,w,.nils,v16,.nils⟩ i18 (RS.of (z0 _) hx (z0 _) hb (GF _ _)) ef _ ?_
   exact aw rfl
  |true=>
   rw[b2] at r18 i18
   rw[adF rfl] at i18
   have ef:=eif _ rfl
   rw[adF b2] at ef
   simp (disch:=first|assumption|omega|(apply aq;omega)|(apply au;assumption)|(simp only[aA]<;>omega)) only[go_sem,seval,r18.wf']
   rw[←hcast]
   refine ih m18 _ i18.h i18.e E _ (λhe m' hC=>hX' _ (by rw[ef];exact St.refl _ _) he m' (i18.fe hC)) ?_
   rintro he v19 m19 ⟨⟨C19,hc⟩,h19,hC19⟩
   have i19:=i18.call h19 he hC19
   have hx:=i18.re1 i19 (Sx.cr hC19) hx
   have hb:=kz hb (Sx.cr (sb:=sb) hC19) i18.in2
   have hc:=EQ hc i18.C
   have hv19:=hc.sl.one
   have g20:=i19.g
   have o20:=i19.o
   obtain⟨gz,oz⟩:=zof i19
   unfold Qy at gz
   have ns:na m 0≠sb:=λq=>nz (by rw[q];simp)
   rw[←aa m19]
   simp (disch:=first|assumption|omega|(apply aq;omega)|(apply au;assumption)|(simp only[aA]<;>omega)) only[go_sem,seval,g20,hv19,gz]
   obtain⟨m20,hM20⟩:∃m20,hp [(.o sb,.cells true ((Stm.mk 6 p [] [] zE (eC L (ay s)).1 zE (B (eC L (ay s)).2).1 (B (ay (B (eC L (ay s)).2).2)).1).l ⟨.nils,w,.nils,v16,v19⟩))] 0 m19=m20:=⟨_,rfl⟩
   have i20:=i19.put hM20 (by simp[bj])
   have hC20:=Sx.cs (r:=r) hM20 (by simp[bj])
   have hx:=i19.re1 i20 hC20 hx
   refine fin m20 _ _ ⟨.nils,w,.nils,v16,v19⟩ i20 (RS.of (z0 _) hx (z0 _) (kz hb hC20 i19.in2) (kz hc hC20 i19.in2)) ef _ ?_
   rw[←fy oz,←hM20]
   exact Chg.put _ _ _
 |false=>
  rw[b1] at r4 i4
  rw[adE aa3] at i4
  obtain⟨m5,r5,i5⟩:=i4.take (k:=4) (t:= [119,104,105,108,101]) (by omega) rfl
  have r5:rT 196 [.ptr r 0,ii 4,.str [119,104,105,108,101]] m4 (.bool (aJ L [119,104,105,108,101] s)) m5:=r5
  cases b2:aJ L [119,104,105,108,101] s with
  |true=>
   rw[b2] at r5 i5
   rw[adF rfl] at i5
   rw[GE b2,hpp] at hX' fin
   unfold uW at hX' fin
   simp (disch:=first|assumption|omega|(apply aq;omega)|(apply au;assumption)|(simp only[aA]<;>omega)) only[go_sem,seval,r4.wf',r5.wf']
   refine gX i5.h i5.e E _ (λhe m' hC=>hX' _ (hstB _) he m' (i5.fe hC)) ?_
   rintro he _ m14 ⟨⟨w,rfl,hx⟩,h14,hC14⟩
   have i14:=i5.call h14 he hC14
   have hx:=i5.new hC14 hx
   have g15:=i14.g
   unfold qu at g15
   have o15:=i14.o
   rw[←aa m14]
   simp (disch:=first|assumption|omega|(apply aq;omega)|(apply au;assumption)|(simp only[aA]<;>omega)) only[go_sem,seval,g15,Ex.l]
   generalize hM15:hp _ 0 m14=m15
   have i15:=i14.put hM15 (by simp[bj])
   have hx:=i14.re1 i15 (Sx.cs hM15 (by simp[bj])) hx
   rw[←hcast]
   refine ih m15 _ i15.h i15.e E _ (λhe m' hC=>hX' _ (St.refl _ _) he m' (i15.fe hC)) ?_
   rintro he v16 m16 ⟨⟨C16,hb⟩,h16,hC16⟩
   have i16:=i15.call h16 he hC16
   have hx:=i15.re1 i16 (Sx.cr hC16) hx
   have hb:=EQ hb i15.C
   have hv16:=hb.sl.one
   have g20:=i16.g
   have o20:=i16.o
   obtain⟨gz,oz⟩:=zof i16
   unfold Qy at gz
   have ns:na m 0≠sb:=λq=>nz (by rw[q];simp)
   rw[←aa m16]
   simp (disch:=first|assumption|omega|(apply aq;omega)|(apply au;assumption)|(simp only[aA]<;>omega)) only[go_sem,seval,g20,hv16,gz]
   obtain⟨m20,hM20⟩:∃m20,hp [(.o sb,.cells true ((Stm.mk 7 p [] [] zE (eC L (ay s)).1 zE (B (eC L (ay s)).2).1 []).l ⟨.nils,w,.nils,v16,.nils⟩))] 0 m16=m20:=⟨_,rfl⟩
   have i20:=i16.put hM20 (by simp[bj])
   have hC20:=Sx.cs (r:=r) hM20 (by simp[bj])
   have hx:=i16.re1 i20 hC20 hx
   refine fin m20 _ _ ⟨.nils,w,.nils,v16,.nils⟩ i20 (RS.of (z0 _) hx (z0 _) (kz hb hC20 i16.in2) (GF _ _)) rfl _ ?_
   rw[←fy oz,←hM20]
   exact Chg.put _ _ _
  |false=>
   rw[b2] at r5 i5
   rw[adE aa3] at i5
   rw[PP b1 b2,hpp] at hX' fin
   unfold nG at hX' fin
   simp (disch:=first|assumption|omega|(apply aq;omega)|(apply au;assumption)|(simp only[aA]<;>omega)) only[go_sem,seval,r4.wf',r5.wf']
   have i5':Sx r sb u L m5 m5 s (qu 0 p):=⟨i5.h,i5.e,i5.g,i5.o,(Chg.refl m5).weak (by simp),i5.rs,i5.su,i5.o,i5.h.o⟩
   refine L6 i5' E _ (λhe m' hC=>hX' _ (bT _ _ _) he m' (i5.fe2 hC)) ?_
   rintro he _ m14 ⟨rfl,⟨w,gw,hx⟩,h14,hC14⟩
   have i14:Sx r sb u L m3 m14 (ra L p s).2 ((ra L p s).1.l w):=⟨h14,he,gw,hC14.old i5.o,i5.fe2 hC14,i5.rs,i5.su,i5.ob,i5.or⟩
   have hx:=MX hx i5.C
   generalize ra L p s=q at hX' fin i14 hx
   obtain⟨x,s1⟩:=q
   dsimp only at hX' fin i14 hx
   simp (disch:=first|assumption|omega|(apply aq;omega)|(apply au;assumption)|(simp only[aA]<;>omega)) only[go_sem,seval]
   refine jI i14.h i14.e (t:= [59]) rfl E _ (λhe m' hC=>hX' _ (St.refl _ _) he m' (i14.fe hC)) ?_
   rintro he _ m15 ⟨rfl,h15,hC15⟩
   have i15:=i14.call h15 he hC15
   have hx:=H2 hx (Sx.cr (sb:=sb) hC15) i14.in2
   have ge:=i15.g
   have oe:=i15.o
   obtain⟨gz,oz⟩:=zof i15
   unfold Qy at gz
   rw[←aa m15]
   simp (disch:=first|assumption|omega|(apply aq;omega)|(apply au;assumption)|(simp only[aA]<;>omega)) only[go_sem,seval,ge,gz]
   refine fin m15 _ x w i15 hx rfl _ ?_
   exact aw rfl
end
section
variable {m m' m0:NH} {r sb:D4} {u:NV} {L:List Tok} {a:Nat} {T T':List D4} {s s':Rs} {c c':List NV}
theorem Hk:∀n,n<=30->BdX r u L (gV L n) (30 - n):=by
 intro n
 induction n with
 |zero=>
  intro _
  have e2:gV L 0=kI L (λs=>(.mk 0 0 [] [] zE zE zE [] [],bL 2 s)) 30:=by funext s;rfl
  rw[e2]
  refine P8 (λs=>dP _ _ _) (λs he=>Or.inr ?_) λh=>by omega
  rw[cj he];simp
 |succ n ih=>
  intro hn
  have e:30 - (n+1)=29 - n:=by omega
  have h1:29 - n+1=30 - n:=by omega
  have e2:gV L (n+1)=kI L (fD L (gV L n)) (29 - n):=by funext s;rfl
  rw[e,e2]
  exact P8 (HP (eR n)) (SJ (eR n)) λh=>YL h (eR n) (by rw[h1];exact ih (by omega))
theorem VQ (h:Rp m r u L s.a) (hs:s.e=0):CX 198 [.ptr r 0,ii 2] m [r] (ic L 2 s) λv m'=>((aM L s.a).k=2/\v= .agg [ii 2,.str (aM L s.a).t,u64 (aM L s.a).n,ii (aM L s.a).p])/\Rp m' r u L (ic L 2 s).a/\Chg [r] m m':=by
 intro X K hX hK
 refine pB h hs (k:=2) (by omega) X K hX ?_
 rintro he v m' ⟨rfl,h1,hC⟩
 have hk:(aM L s.a).k=2:=by
  rcases Decidable.em ((aM L s.a).k=2) with q|q
  ·exact q
  ·have e:ic L 2 s=bL 2 s:=adE q
   rw[e,cj hs] at he;simp at he
 exact hK he _ _ ⟨⟨hk,by show NV.agg (Tok.l _)=_;unfold Tok.l;rw[hk];rfl⟩,h1,hC⟩
theorem V1 (h:Rp m r u L s.a) (hs:s.e=0):CX 197 [.ptr r 0] m [r] (fE L s).2 λv m'=>v= .agg [.str (fE L s).1.1,ii (fE L s).1.2]/\Rp m' r u L (fE L s).2.a/\Chg [r] m m':=by
 intro E K hE hK
 refine WF.of_wpG (λ_=>rfl) Eg (L:= [(.e,.ptr r 0)]) rfl ?_
 unfold Ls
 generalize hm1:hp [(.n 0,.cells true [.str [],.int .i64 (.lit 0)])] 1 m=m1
 have hC1:Chg [] m m1:=az hm1 rfl
 have h1:=h.grow hC1
 have o1:ap m1 (na m 0):=aL hm1 (by omega)
 have g1:m1.get (na m 0)=some (.cells true [.str [],.int .i64 (.lit 0)]):=aI hm1
 have nr:na m 0∉ [r]:=λq=>h.o.ne 0 (one q).symm
 have c01:Chg [r] m m1:=hC1.weak (by simp)
 simp only[go_sem,seval,hm1]
 have hX':∀t,St L t (fE L s).2->t.e≠0->∀m',Chg [r] m m'->E (UA t) m':=λt hst he m' hC=>by
  have:=hst.err he;rw[this] at hE;exact hE he m' hC
 have hs2:St L (aX L s).2 (fE L s).2:=by
  unfold fE
  split
  ·rename_i q
   split
   ·rename_i h2
    exact (((dO q).trans (jn (mV (by omega)) (pY q).1 (by omega))).trans (bT _ _ _)).trans (bT _ _ _)
   ·exact (((dO q).trans (dP _ _ _)).trans (bT _ _ _)).trans (bT _ _ _)
  ·exact bT _ _ _
 clear hE
 refine lZ h1 hs E _ (λhe m' hC=>hX' _ hs2 he m' (c01.trans hC λi hi _=>hi)) ?_
 rintro he _ m2 ⟨⟨_,_,_,rfl⟩,h2,hC2⟩
 have c02:=c01.trans hC2 λi hi _=>hi
 have o2:=hC2.old o1
 have g2:=(hC2.get o1 nr).trans g1
 unfold fE at hX' hK
 clear hs2
 generalize aX L s=q at hX' hK h2 he
 obtain⟨n,s1⟩:=q
 dsimp only at hX' hK h2 he
 generalize hm3:hp [(.n 0,.cells true [.str n,ii 1]),(.n 0,.cells true [.str [],.int .i64 (.lit 0)])] 1 m2=m3
 have hC3:Chg [] m2 m3:=az hm3 rfl
 have h3:=h2.grow hC3
 have c03:=c02.tr hC3
 have o3:=hC3.old o2
 have g3:=(hC3.get o2 (by simp)).trans g2
 have p3:ap m3 (na m2 0):=aL hm3 (by omega)
 have q3:m3.get (na m2 0)=some (.cells true [.str n,ii 1]):=aI hm3
 have nr2:na m2 0∉ [r]:=λq=>h2.o.ne 0 (one q).symm
 have nn:na m2 0≠na m 0:=(o2.ne 0).symm
 have nm2:¬ap m (na m2 0):=λq=>ak (c02.old q)
 have nu2:∀i∈ids u,i∉ [na m2 0]:=λi hi q=>(h2.s.old i hi).ne 0 (one q)
 obtain⟨m4,r4,h4,hC4⟩:=gc h3 he (k:=3) (t:= [91]) (by omega) rfl
 have r4:rT 196 [.ptr r 0,ii 3,.str [91]] m3 (.bool (aJ L [91] s1)) m4:=r4
 have c04:=c03.trans hC4 λi hi _=>hi
 have o4:=hC4.old o3
 have g4:=(hC4.get o3 nr).trans g3
 have p4:=hC4.old p3
 have q4:=(hC4.get p3 nr2).trans q3
 have last:∀(M M':NH) (s':Rs) (z:Int),Rp M r u L s'.a->Chg [r] m M->hp [(.o (na m 0),.cells true [.str n,ii z])] 0 M=M'->Rp M' r u L s'.a/\Chg [r] m M':=by
  intro M M' s' z hR hC hM
  have hC':Chg [na m 0] M M':=az hM rfl
  refine⟨hR.chg hC' (λq=>h.o.ne 0 (one q)) λi hi q=>ak (h.s.old _ (one q▸hi)),hC.trans hC' λi hi ho=> ?_⟩
  rw[one hi] at ho;exact adD ho ak
 rw[←aa m2]
 cases hb:aJ L [91] s1 with
 |false=>
  rw[hb] at r4 h4
  rw[adE aa3] at h4
  rw[adE (by rw[hb];exact aa3)] at hX' hK
  simp (disch:=first|omega|(simp only[aA]<;>omega)) only[go_sem,seval,hm3,r4.wf']
  refine jI h4 he (t:= [59]) rfl E _ (λhe m' hC=>hX' _ (St.refl _ _) he m' (c04.trans hC λi hi _=>hi)) ?_
  rintro he' _ M ⟨rfl,hR,hC⟩
  have gz:=(hC.get o4 nr).trans g4
  have gq:=(hC.get p4 nr2).trans q4
  have oz:=hC.old o4
  rw[←aa M]
  simp (disch:=first|omega|(simp only[aA]<;>omega)) only[go_sem,seval,gz,gq]
  generalize hM:hp _ 0 M=M'
  obtain⟨f1,f2⟩:=last M M' _ 1 hR (c04.trans hC λi hi _=>hi) hM
  exact hK he' _ _ ⟨rfl,f1,f2⟩
 |true=>
  rw[hb] at r4 h4
  rw[adF rfl] at h4
  rw[adF hb] at hX' hK
  simp (disch:=first|omega|(simp only[aA]<;>omega)) only[go_sem,seval,hm3,r4.wf']
  refine VQ h4 he E _ (λhe' m' hC=> ?_) ?_
  ·by_cases hk:(aM L (ay s1).a).k=2
   ·have e:ic L 2 (ay s1)=ay (ay s1):=adF hk
    rw[e] at he';exact adD he he'
   ·have e:ic L 2 (ay s1)=bL 2 (ay s1):=adE hk
    rw[adE hk] at hX'
    rw[e] at he' ⊢
    exact hX' _ ((bT _ _ _).trans (bT _ _ _)) he' m' (c04.trans hC λi hi _=>hi)
  rintro he5 _ m5 ⟨⟨hk,rfl⟩,h5,hC5⟩
  have e:ic L 2 (ay s1)=ay (ay s1):=adF hk
  rw[e] at h5 he5
  rw[adF hk] at hX' hK
  generalize aM L (ay s1).a=y at *
  have c05:=c04.trans hC5 λi hi _=>hi
  have o5:=hC5.old o4
  have g5:=(hC5.get o4 nr).trans g4
  have p5:=hC5.old p4
  have q5:=(hC5.get p4 nr2).trans q4
  have hz:yY .i64 (.int .u64 (.lit (min (y.n:Int) 1048576)))= .val (ii (b9 y)):=by
   rw[Pn (by omega) (by omega)]
   have:b9 y=min (y.n:Int) 1048576:=by unfold b9;split<;>omega
   rw[this]
  generalize b9 y=z at hz hK
  rw[←aa m5]
  simp (disch:=first|omega|(simp only[aA]<;>omega)) only[go_sem,seval,q5,hz]
  generalize hm6:hp _ 0 m5=m6
  have hC6:Chg [na m2 0] m5 m6:=az hm6 rfl
  have h6:=h5.chg hC6 (λq=>h2.o.ne 0 (one q)) nu2
  have c06:=c05.trans hC6 λi hi ho=>(nm2 (one hi▸ho)).elim
  have nz:na m 0∉ [na m2 0]:=λq=>nn (one q).symm
  have o6:=hC6.old o5
  have g6:=(hC6.get o5 nz).trans g5
  have p6:=hC6.old p5
  have q6:m6.get (na m2 0)=some (.cells true [.str n,ii z]):=by rw[←hm6];exact (aO p5).trans aC
  refine jI h6 he5 (t:= [93]) rfl E _ (λhe m' hC=>hX' _ (bT _ _ _) he m' (c06.trans hC λi hi _=>hi)) ?_
  rintro he7 _ m7 ⟨rfl,h7,hC7⟩
  have c07:=c06.trans hC7 λi hi _=>hi
  simp only[go_sem,seval]
  refine jI h7 he7 (t:= [59]) rfl E _ (λhe m' hC=>hX' _ (St.refl _ _) he m' (c07.trans hC λi hi _=>hi)) ?_
  rintro he' _ M ⟨rfl,hR,hC⟩
  have gz:=(hC.get (hC7.old o6) nr).trans ((hC7.get o6 nr).trans g6)
  have gq:=(hC.get (hC7.old p6) nr2).trans ((hC7.get p6 nr2).trans q6)
  have oz:=hC.old (hC7.old o6)
  rw[←aa M]
  simp (disch:=first|omega|(simp only[aA]<;>omega)) only[go_sem,seval,gz,gq]
  generalize hM:hp _ 0 M=M'
  obtain⟨f1,f2⟩:=last M M' _ z hR (c07.trans hC λi hi _=>hi) hM
  exact hK he' _ _ ⟨rfl,f1,f2⟩
end
structure Pi (r n0 n1:D4) (u:NV) (L:List Tok) (m M:NH) (a:Nat) (vc vt vr:NV) (C D:List (List NV)):Prop where
 h:Rp M r u L a
 g1:M.get n1=some (.cells true [vc,vt,vr])
 o1:ap M n1
 g0:M.get n0=some (.cells true [.nils,.nils,.nils])
 o0:ap M n0
 c:Chg [r] m M
 pc:aQ m M vc 2 C
 pt:aQ m M vt 2 D
 len:C.length+D.length<=a
 d:∀i∈ids vc,i∉ids vt/\i≠n0/\i≠n1
 dt:∀i∈ids vt,i≠n0/\i≠n1
 nu:∀i∈ids u,ap m i
 n:r≠n0/\r≠n1/\n0≠n1/\ap m r/\¬ap m n0/\¬ap m n1
section
variable {m m' m0 M:NH} {r s n0 n1:D4} {u vc vt vr:NV} {C D:List (List NV)} {L:List Tok} {a a':Nat} {x:Tok} {T T':List D4} {E:NV->NH->Prop} {P:Ps} {b1 b2:Bool}
theorem Pi.to (h:Pi r n0 n1 u L m M a vc vt vr C D) (hR:Rp m' r u L a') (hC:Chg [r] M m') (ha:a<=a'):Pi r n0 n1 u L m m' a' vc vt vr C D:=by
 have hr:∀{v:NV} {C:List (List NV)},aQ m M v 2 C->∀i∈ids v,i∉ [r]:=λho i hi q=>ho.new i hi (one q▸h.n.2.2.2.1)
 refine⟨hR,(hC.get h.o1 λq=>h.n.2.1 (one q).symm).trans h.g1,hC.old h.o1,(hC.get h.o0 λq=>h.n.1 (one q).symm).trans h.g0,hC.old h.o0,h.c.trans hC λi hi _=>hi,h.pc.chg hC (hr h.pc),h.pt.chg hC (hr h.pt),by have:=h.len;omega,h.d,h.dt,h.nu,h.n⟩
theorem Pi.set (h:Pi r n0 n1 u L m M a vc vt vr C D) {l:List (AK×NO)} {w1 w2 w3:NV} {C' D':List (List NV)} (hM:hp ((.o n1,.cells true [w1,w2,w3])::l) k M=m') (hl:bj l= [])
 (hc:aQ m M w1 2 C') (ht:aQ m M w2 2 D') (hlen:C'.length+D'.length<=a) (hd:∀i∈ids w1,i∉ids w2/\i≠n0/\i≠n1) (hdt:∀i∈ids w2,i≠n0/\i≠n1):Pi r n0 n1 u L m m' a w1 w2 w3 C' D':=by
 have hC:Chg [n1] M m':=az hM (by show n1::bj l= [n1];rw[hl])
 refine⟨h.h.chg hC (λq=>h.n.2.1 (one q)) λi hi q=>h.n.2.2.2.2.2 (one q▸h.nu i hi), ?_,hC.old h.o1,(hC.get h.o0 λq=>h.n.2.2.1 (one q)).trans h.g0,hC.old h.o0,h.c.trans hC λi hi ho=>(h.n.2.2.2.2.2 (one hi▸ho)).elim,hc.chg hC λi hi q=>(hd i hi).2.2 (one q),ht.chg hC λi hi q=>(hdt i hi).2 (one q),hlen,hd,hdt,h.nu,h.n⟩
 rw[←hM];exact (aO h.o1).trans aC
theorem Pi.appC (h:Pi r n0 n1 u L m M a vc vt vr C D) {x:D4} {cs:List NV} (hx:M.get x=some (.cells true cs)) (ox:ap M x) (hcs:cs.length=2) (hlen:C.length+1+D.length<=a):∃v' m6,GP 2 24 M vc (.slc x 0 1 2 1)= .mem v' m6/\m6.get n1=some (.cells true [vc,vt,vr])/\ap m6 n1/\cellsOf v'=some [v']/\Chg (ids vc) M m6/\iO M vc v'/\∀k m7,hp [(.o n1,.cells true [v',vt,vr])] k m6=m7->Pi r n0 n1 u L m m7 a v' vt vr (C++ [cs]) D:=by
 have hl:=h.h.l
 have ha:=h.h.a
 obtain⟨v',m6,q1,q2,hC6,q3⟩:=h.pc.app2 (bytes:=24) (kc:=1) hx ox hcs (λi hi=>h.c.old hi) (by omega) (by omega)
 have g1:=(hC6.get h.o1 λq=>(h.d _ q).2.2 rfl).trans h.g1
 have o1:=hC6.old h.o1
 refine⟨v',m6,q1,g1,o1,q2.sl.one,hC6,q3,λk m7 hm7=> ?_⟩
 have hC7:Chg [n1] m6 m7:=az hm7 rfl
 have hd:∀i∈ids v',i∉ids vt/\i≠n0/\i≠n1:=λi hi=>(q3 i hi).elim (h.d i) λhn=>⟨λq=>hn (h.pt.sl.old i q),λq=>hn (q▸h.o0),λq=>hn (q▸h.o1)⟩
 have nu:∀i∈ids u,i∉ [n1]:=λi hi q=>h.n.2.2.2.2.2 (one q▸h.nu i hi)
 refine⟨(h.h.chg hC6 (λq=>h.pc.new _ q h.n.2.2.2.1) λi hi q=>h.pc.new i q (h.nu i hi)).chg hC7 (λq=>h.n.2.1 (one q)) nu, ?_,hC7.old o1,(hC7.get (hC6.old h.o0) λq=>h.n.2.2.1 (one q)).trans ((hC6.get h.o0 λq=>(h.d _ q).2.1 rfl).trans h.g0),hC7.old (hC6.old h.o0),
  (h.c.trans hC6 λi hi ho=>(h.pc.new i hi ho).elim).trans hC7 λi hi ho=>(h.n.2.2.2.2.2 (one hi▸ho)).elim,q2.chg hC7 λi hi q=>(hd i hi).2.2 (one q),(h.pt.chg hC6 λi hi q=>(h.d i q).1 hi).chg hC7 λi hi q=>(h.dt i hi).2 (one q),by simp;omega,hd,h.dt,h.nu,h.n⟩
 rw[←hm7];exact (aO o1).trans aC
theorem Pi.appT (h:Pi r n0 n1 u L m M a vc vt vr C D) {x:D4} {cs:List NV} (hx:M.get x=some (.cells true cs)) (ox:ap M x) (hcs:cs.length=2) (hlen:C.length+1+D.length<=a):∃v' m6,GP 2 40 M vt (.slc x 0 1 2 1)= .mem v' m6/\m6.get n1=some (.cells true [vc,vt,vr])/\ap m6 n1/\cellsOf v'=some [v']/\Chg (ids vt) M m6/\iO M vt v'/\∀k m7,hp [(.o n1,.cells true [vc,v',vr])] k m6=m7->Pi r n0 n1 u L m m7 a vc v' vr C (D++ [cs]):=by
 have hl:=h.h.l
 have ha:=h.h.a
 obtain⟨v',m6,q1,q2,hC6,q3⟩:=h.pt.app2 (bytes:=40) (kc:=1) hx ox hcs (λi hi=>h.c.old hi) (by omega) (by omega)
 have g1:=(hC6.get h.o1 λq=>(h.dt _ q).2 rfl).trans h.g1
 have o1:=hC6.old h.o1
 refine⟨v',m6,q1,g1,o1,q2.sl.one,hC6,q3,λk m7 hm7=> ?_⟩
 have hC7:Chg [n1] m6 m7:=az hm7 rfl
 have hd:∀i∈ids v',i≠n0/\i≠n1:=λi hi=>(q3 i hi).elim (h.dt i) λhn=>⟨λq=>hn (q▸h.o0),λq=>hn (q▸h.o1)⟩
 have hd':∀i∈ids vc,i∉ids v'/\i≠n0/\i≠n1:=λi hi=>⟨λq=>(q3 i q).elim (h.d i hi).1 λhn=>hn (h.pc.sl.old i hi),(h.d i hi).2⟩
 have nu:∀i∈ids u,i∉ [n1]:=λi hi q=>h.n.2.2.2.2.2 (one q▸h.nu i hi)
 refine⟨(h.h.chg hC6 (λq=>h.pt.new _ q h.n.2.2.2.1) λi hi q=>h.pt.new i q (h.nu i hi)).chg hC7 (λq=>h.n.2.1 (one q)) nu, ?_,hC7.old o1,(hC7.get (hC6.old h.o0) λq=>h.n.2.2.1 (one q)).trans ((hC6.get h.o0 λq=>(h.dt _ q).1 rfl).trans h.g0),hC7.old (hC6.old h.o0),
  (h.c.trans hC6 λi hi ho=>(h.pt.new i hi ho).elim).trans hC7 λi hi ho=>(h.n.2.2.2.2.2 (one hi▸ho)).elim,(h.pc.chg hC6 λi hi=>(h.d i hi).1).chg hC7 λi hi q=>(h.d i hi).2.2 (one q),q2.chg hC7 λi hi q=>(hd i hi).2 (one q),by simp;omega,hd',hd,h.nu,h.n⟩
 rw[←hm7];exact (aO o1).trans aC
abbrev TX (m:NH) (n0 n1:D4) (vc vt:NV):D4->Prop:=λi=>¬ap m i/\i∉ids vc/\i∉ids vt/\i≠n0/\i≠n1
theorem SS.old  {Tz:D4->Prop} {l:List Stm} (h:SS m Tz v l C):SS m (λi=>Tz i/\ap m i) v l C:=⟨h.sl,λi hi=>⟨h.hT i hi,h.sl.old i hi⟩,h.len,λi x c a b=>(h.R i x c a b).old⟩
structure Tr (m M:NH) (n0 n1:D4) (vc vt vr:NV) (P:Ps) (D:List (List NV)):Prop where
 len:D.length=P.ts.length
 t:∀(j:Nat) (x:List Nat×List Stm) (c:List NV),P.ts[j]? =some x->D[j]? =some c->∃vb B,c= [.str x.1,vb]/\SS M (TX m n0 n1 vc vt) vb x.2 B
 r:∃C,SS M (TX m n0 n1 vc vt) vr P.rc C
theorem Tr.map (h:Tr m M n0 n1 vc vt vr P D) {vc' vt':NV} {cs:List (List Nat×Int)} {rd:Bool} (hf:∀{v:NV} {l:List Stm} {C:List (List NV)},SS M (TX m n0 n1 vc vt) v l C->SS m' (TX m n0 n1 vc' vt') v l C):Tr m m' n0 n1 vc' vt' vr ⟨cs,P.ts,P.rc,rd⟩ D:=
 ⟨h.len,λj x c a b=>by obtain⟨vb,B,e,q⟩:=h.t j x c a b;exact⟨vb,B,e,hf q⟩,let ⟨C,q⟩:=h.r;⟨C,hf q⟩⟩
theorem Tr.to (h:Tr m M n0 n1 vc vt vr P D) (hC:Chg T M m') (hT:∀i∈T,¬TX m n0 n1 vc vt i):Tr m m' n0 n1 vc vt vr P D:=h.map λq=>q.stays (bz.of hC λi hi q=>hT i q hi)
theorem FE  {P:Ps} {s:Rs} (h:s.e≠0):bu L f P s=(P,s):=by
 cases f with
 |zero=>rfl
 |succ f=>rw[bu,adF h]
theorem IN {s0:Rs} (h:Rp m r u L s0.a) (hs0:s0.e=0):CX 128 [.ptr r 0] m [r] (bu L (L.length+1) ⟨[], [], [],false⟩ s0).2 λv m'=>∃vc vt vr,v= .agg [vc,vt,vr]/\RP m' (gQ m) ⟨(bu L (L.length+1) ⟨[], [], [],false⟩ s0).1.cs,(bu L (L.length+1) ⟨[], [], [],false⟩ s0).1.ts,(bu L (L.length+1) ⟨[], [], [],false⟩ s0).1.rc⟩ vc vt vr/\Chg [r] m m':=by
 intro E K hE hK
 refine WF.of_wpG (λ_=>rfl) yE (L:= [(.e,.ptr r 0)]) rfl ?_
 unfold Li
 generalize hm1:hp [(.n 1,.cells true [.nils,.nils,.nils]),(.n 0,.cells true [.nils,.nils,.nils])] 2 m=m1
 have hC1:Chg [] m m1:=az hm1 rfl
 have p1:Pi r (na m 0) (na m 1) u L m m1 s0.a .nils .nils .nils [] []:=
  ⟨h.grow hC1,aI hm1,aL hm1 (by omega),aI hm1,aL hm1 (by omega),hC1.weak (by simp),aQ.nil,aQ.nil,by simp,by simp[ids],by simp[ids],h.s.old,h.o.ne 0,h.o.ne 1,by simp[cn],h.o,ak,ak⟩
 have tr1:Tr m m1 (na m 0) (na m 1) .nils .nils .nils ⟨[], [], [],false⟩ []:=⟨rfl,by simp, [],GF _ _⟩
 generalize hXZ:bu L (L.length+1) ⟨[], [], [],false⟩ s0=XZ at hE hK
 obtain⟨X,Z⟩:=XZ
 dsimp only at hE hK
 simp (disch:=first|assumption|omega|(apply aq;omega)|(apply au;assumption)|(simp only[aA]<;>omega)) only[go_sem,seval,hm1]
 clear hm1
 have hz0:na m 0=na m 0:=rfl
 generalize na m 0=n0,na m 1=n1 at p1 tr1 ⊢
 clear hz0
 refine Nm.W.loop (λk dy=>∃T M s P vc vt vr D,dy=⟨T, [],none,M⟩/\NT.get D4.e T=some (.ptr r 0)/\NT.get D4.e.b T=some (.ptr n0 0)/\NT.get D4.e.c T=some (.ptr n1 0)/\NT.get D4.e.f T=some (.bool P.rd)/\s.e=0/\Pi r n0 n1 u L m M s.a vc vt vr (jx P.cs) D/\Tr m M n0 n1 vc vt vr P D/\bu L k P s=(X,Z)/\L.length<k+s.a) ?_ (L.length+1) _
  ⟨_,m1,s0,⟨[], [], [],false⟩,.nils,.nils,.nils, [],rfl,by exact gq rfl,by exact gq rfl,by exact gq rfl,by exact gq rfl,hs0,p1,tr1,hXZ,by omega⟩
 clear p1 tr1 hXZ hC1 h hs0
 rintro k dy ⟨T,M,s,P,vc,vt,vr,D,rfl,t1,t2,t3,t4,hs,hI,hT,hX,hf⟩
 apply av
 unfold AH
 change wp _ _ _ _ ⟨puts [] T, [],none,M⟩ _
 have horm:ap m r:=hI.n.2.2.2.1
 have nTr:∀{vc vt:NV},∀i∈ [r],¬TX m n0 n1 vc vt i:=λi hi q=>q.1 (one hi▸horm)
 have nT1:∀{vc vt:NV},∀i∈ [n1],¬TX m n0 n1 vc vt i:=λi hi q=>q.2.2.2.2 (one hi)
 have nT0:∀{vc vt:NV},∀i∈ [n0],¬TX m n0 n1 vc vt i:=λi hi q=>q.2.2.2.1 (one hi)
 have nTz:∀{vc vt:NV},∀i∈([]:List D4),¬TX m n0 n1 vc vt i:=λi hi=>by simp at hi
 obtain⟨m2,r2,hC2⟩:=tM hI.h
 have hlt:=hI.h.a
 obtain⟨f,rfl⟩:∃f',k=f'+1:=⟨k - 1,by omega⟩
 rw[bu,adE (by omega)] at hX
 unfold Tok.l at r2
 have i2:=hI.to (hI.h.grow hC2) (hC2.weak (by simp)) (aa2 _)
 have T2:=hT.to hC2 nTz
 by_cases h5:(aM L s.a).k=5
 ·rw[adF h5] at hX
  injection hX with e1 e2
  subst e1 e2
  rw[h5] at r2
  have g0:=i2.g0
  have g1:=i2.g1
  have o0:=i2.o0
  have o1:=i2.o1
  simp (disch:=first|assumption|omega|(apply aq;omega)|(apply au;assumption)|(simp only[aA]<;>omega)) only[go_sem,seval,t1,t2,t3,r2.wf,g1,g0]
  generalize hM:hp _ 0 m2=M'
  have hC':Chg [n0] m2 M':=az hM rfl
  have T3:=T2.to hC' nT0
  have cc:=i2.pc.chg hC' λi hi q=>(i2.d i hi).2.1 (one q)
  have ct:=i2.pt.chg hC' λi hi q=>(i2.dt i hi).1 (one q)
  have wk:∀i,TX m n0 n1 vc vt i->gQ m i:=λi q=>q.1
  refine hK hs _ _ ⟨vc,vt,vr,rfl,⟨cc.sl,λi hi=>cc.new i hi,⟨D,ct.sl,λi hi=>ct.new i hi,T3.len,λj x c a b=> ?_⟩, ?_⟩,i2.c.trans hC' λi hi ho=>(i2.n.2.2.2.2.1 (one hi▸ho)).elim⟩
  ·obtain⟨vb,B,e,q⟩:=T3.t j x c a b
   exact⟨vb,B,e,q.weak wk⟩
  ·obtain⟨C,q⟩:=T3.r
   exact⟨C,q.weak wk⟩
 rw[adE h5] at hX
 have hend:∀t,(sU L P s).2=t->t.e≠0->∀M',Chg [r] m M'->E (UA t) M':=λt ht he M' hC=>by
  rw[ht,FE he] at hX
  injection hX with _ e2
  rw[e2] at he ⊢
  exact hE he M' hC
 have hC2r:Chg [r] M m2:=hC2.weak (by simp)
 obtain⟨m3,r3,h3,hC3⟩:=gc i2.h hs (k:=4) (t:= [99,101,108,108]) (by omega) rfl
 have r3:rT 196 [.ptr r 0,ii 4,.str [99,101,108,108]] m2 (.bool (aJ L [99,101,108,108] s)) m3:=r3
 have T3:=T2.to hC3 nTr
 cases b1:aJ L [99,101,108,108] s with
 |true=>
  rw[b1] at r3 h3
  rw[adF rfl] at h3
  have i3:Pi r n0 n1 u L m m3 (ay s).a vc vt vr (jx P.cs) D:=i2.to h3 hC3 (by rw[fJ];omega)
  have htop:sU L P s=(⟨P.cs++ [(fE L (ay s)).1],P.ts,P.rc,P.rd⟩,(fE L (ay s)).2):=adF b1
  rw[htop] at hX hend
  have hle:=(Hq (L:=L) (ay s)).le
  have g1:=i3.g1
  simp (disch:=first|assumption|omega|(apply aq;omega)|(apply au;assumption)|(simp only[aA]<;>omega)) only[go_sem,seval,t1,t3,r2.wf',r3.wf',g1]
  refine V1 i3.h hs E _ (λhe m' hC=>hend _ rfl he m' (i3.c.trans hC λi hi _=>hi)) ?_
  rintro he _ m4 ⟨rfl,h4,hC4⟩
  generalize fE L (ay s)=q at hX hend h4 hle he
  obtain⟨c,s4⟩:=q
  dsimp only at hX hend h4 hle he
  have i4:=i3.to h4 hC4 hle
  have T4:=T3.to hC4 nTr
  have g4:=i4.g1
  have o4:=i4.o1
  have hsm:=i4.pc.sl.same (n:=3)
  rw[←aa m4]
  simp (disch:=first|assumption|omega|(apply aq;omega)|(apply au;assumption)|(simp only[aA]<;>omega)) only[go_sem,seval,g4,hsm]
  generalize hm5:hp _ 1 m4=m5
  have hC5:Chg [] m4 m5:=az hm5 rfl
  have i5:Pi r n0 n1 u L m m5 s4.a vc vt vr (jx P.cs) D:=i4.to (i4.h.grow hC5) (hC5.weak (by simp)) (aa2 _)
  have T5:=T4.to hC5 nTz
  have hlen:(jx P.cs).length+1+D.length<=s4.a:=by have:=i2.len;rw[fJ] at hle;omega
  have gx:m5.get (na m4 0)=some (.cells true [.str c.1,ii c.2]):=aI hm5
  obtain⟨v',m6,q1,g6,o6,hv',hC6,hF6,q2⟩:=i5.appC gx (aL hm5 (by omega)) rfl hlen
  rw[←aa m6] at q1
  simp (disch:=first|assumption|omega|(apply aq;omega)|(apply au;assumption)|(simp only[aA]<;>omega)) only[go_sem,seval,t3,q1,g6,hv']
  generalize hm7:hp _ 0 m6=m7
  have i7:=q2 _ _ hm7
  have hC7:Chg [n1] m6 m7:=az hm7 rfl
  have ecs:jx (P.cs++ [c])=jx P.cs++ [[.str c.1,ii c.2]]:=by simp[jx]
  rw[←ecs] at i7
  have T7:Tr m m7 n0 n1 v' vt vr ⟨P.cs++ [c],P.ts,P.rc,P.rd⟩ D:=T5.map λq=>by
   have a2:=(q.old.stays (m':=m6) (bz.of hC6 λi hi hs=>hi.1.2.1 hs)).stays (m':=m7) (bz.of hC7 λi hi hs=>hi.1.2.2.2.2 (one hs))
   exact a2.weak λi hi=>⟨hi.1.1,λh=>(hF6 i h).elim hi.1.2.1 λq=>q hi.2,hi.1.2.2⟩
  exact⟨f,by omega,_,m7,s4,⟨P.cs++ [c],P.ts,P.rc,P.rd⟩,v',vt,vr,D,by rfl,by exact gq t1,by exact gq t2,by exact gq t3,by exact gq t4,he,i7,T7,hX,by rw[fJ] at hle;omega⟩
 |false=>
 rw[b1] at r3 h3
 rw[adE aa3] at h3
 have i3:Pi r n0 n1 u L m m3 s.a vc vt vr (jx P.cs) D:=i2.to h3 hC3 (aa2 _)
 obtain⟨m4,r4,h4,hC4⟩:=gc i3.h hs (k:=4) (t:= [116,104,114,101,97,100]) (by omega) rfl
 have r4:rT 196 [.ptr r 0,ii 4,.str [116,104,114,101,97,100]] m3 (.bool (aJ L [116,104,114,101,97,100] s)) m4:=r4
 have T4:=T3.to hC4 nTr
 cases b2:aJ L [116,104,114,101,97,100] s with
 |true=>
  rw[b2] at r4 h4
  rw[adF rfl] at h4
  have i4:Pi r n0 n1 u L m m4 (ay s).a vc vt vr (jx P.cs) D:=i3.to h4 hC4 (by rw[fJ];omega)
  have htop:sU L P s=(⟨P.cs,P.ts++ [(kj L (ay s)).1],P.rc,P.rd⟩,(kj L (ay s)).2):=(adE (by rw[b1];exact aa3)).trans (adF b2)
  rw[htop] at hX hend
  unfold kj at hX hend
  simp (disch:=first|assumption|omega|(apply aq;omega)|(apply au;assumption)|(simp only[aA]<;>omega)) only[go_sem,seval,t1,r2.wf',r3.wf',r4.wf']
  have hle:=(fN L (ay s)).le
  refine lZ i4.h hs E _ (λhe m' hC=>hend _ ((eR 30 _).err he) he m' (i4.c.trans hC λi hi _=>hi)) ?_
  rintro he _ m5 ⟨⟨_,_,_,rfl⟩,h5',hC5⟩
  generalize aX L (ay s)=q at hX hend h5' hle he
  obtain⟨n,s5⟩:=q
  dsimp only at hX hend h5' hle he
  have i5:Pi r n0 n1 u L m m5 s5.a vc vt vr (jx P.cs) D:=i4.to h5' hC5 hle
  have T5:=T4.to hC5 nTr
  have g5:=i5.g1
  have o5:=i5.o1
  simp (disch:=first|assumption|omega|(apply aq;omega)|(apply au;assumption)|(simp only[aA]<;>omega)) only[go_sem,seval,t1,t3,g5]
  have hle6:=(eR (L:=L) 30 s5).le
  refine Hk 30 (by omega) m5 _ i5.h he E _ (λhe m' hC=>hend _ rfl he m' (i5.c.trans hC λi hi _=>hi)) ?_
  rintro he w m6 ⟨⟨B,hb⟩,h6,hC6⟩
  generalize gV L 30 s5=q at hX hend h6 hle6 he hb
  obtain⟨b,s6⟩:=q
  dsimp only at hX hend h6 hle6 he hb
  have i6:Pi r n0 n1 u L m m6 s6.a vc vt vr (jx P.cs) D:=i5.to h6 hC6 hle6
  have T6:=T5.to hC6 nTr
  have hb6:SS m6 (TX m n0 n1 vc vt) w b B:=hb.weak λi hi=>⟨λq=>hi (i5.c.old q),λq=>hi (i5.pc.sl.old i q),λq=>hi (i5.pt.sl.old i q),λq=>hi (q▸i5.o0),λq=>hi (q▸i5.o1)⟩
  have g6:=i6.g1
  have o6:=i6.o1
  have hsm:=i6.pt.sl.same (n:=3)
  have hw:=hb.sl.one
  rw[←aa m6]
  simp (disch:=first|assumption|omega|(apply aq;omega)|(apply au;assumption)|(simp only[aA]<;>omega)) only[go_sem,seval,g6,hsm,hw]
  generalize hm7:hp _ 1 m6=m7
  have hC7:Chg [] m6 m7:=az hm7 rfl
  have i7:Pi r n0 n1 u L m m7 s6.a vc vt vr (jx P.cs) D:=i6.to (i6.h.grow hC7) (hC7.weak (by simp)) (aa2 _)
  have T7:=T6.to hC7 nTz
  have hb7:=hb6.stays (sw hC7 _)
  have hlen:(jx P.cs).length+1+D.length<=s6.a:=by have:=i2.len;rw[fJ] at hle;omega
  have gx:m7.get (na m6 0)=some (.cells true [.str n,w]):=aI hm7
  obtain⟨v',m8,q1,g8,o8,hv',hC8,hF8,q2⟩:=i7.appT gx (aL hm7 (by omega)) rfl hlen
  rw[←aa m8] at q1
  simp (disch:=first|assumption|omega|(apply aq;omega)|(apply au;assumption)|(simp only[aA]<;>omega)) only[go_sem,seval,t3,q1,g8,hv']
  generalize hm9:hp _ 0 m8=m9
  have i9:=q2 _ _ hm9
  have hC9:Chg [n1] m8 m9:=az hm9 rfl
  have hmv:∀{v:NV} {l:List Stm} {C:List (List NV)},SS m7 (TX m n0 n1 vc vt) v l C->SS m9 (TX m n0 n1 vc v') v l C:=λq=>by
   have a2:=(q.old.stays (m':=m8) (bz.of hC8 λi hi hs=>hi.1.2.2.1 hs)).stays (m':=m9) (bz.of hC9 λi hi hs=>hi.1.2.2.2.2 (one hs))
   exact a2.weak λi hi=>⟨hi.1.1,hi.1.2.1,λh=>(hF8 i h).elim hi.1.2.2.1 λq=>q hi.2,hi.1.2.2.2⟩
  have T9:Tr m m9 n0 n1 vc v' vr ⟨P.cs,P.ts++ [(n,b)],P.rc,P.rd⟩ (D++ [[.str n,w]]):=by
   have T9:=T7.map (cs:=P.cs) (rd:=P.rd) hmv
   refine⟨by simp[T9.len],λj x c h1 h2=> ?_,T9.r⟩
   rcases ac2 j P.ts.length with h|h
   ·dsimp only at h1
    rw[List.getElem?_append_left h] at h1
    rw[List.getElem?_append_left (by rw[T9.len];exact h)] at h2
    exact T9.t j x c h1 h2
   ·dsimp only at h1
    rw[List.getElem?_append_right h] at h1
    rw[List.getElem?_append_right (by rw[T9.len];exact h),T9.len] at h2
    cases hj:j - P.ts.length with
    |zero=>rw[hj] at h1 h2;cases h1;cases h2;exact⟨w,B,rfl,hmv hb7⟩
    |succ n=>rw[hj] at h1;simp at h1
  exact⟨f,by omega,_,m9,s6,⟨P.cs,P.ts++ [(n,b)],P.rc,P.rd⟩,vc,v',vr,D++ [[.str n,w]],by rfl,by exact gq t1,by exact gq t2,by exact gq t3,by exact gq t4,he,i9,T9,hX,by rw[fJ] at hle;omega⟩
 |false=>
 rw[b2] at r4 h4
 rw[adE aa3] at h4
 have i4:Pi r n0 n1 u L m m4 s.a vc vt vr (jx P.cs) D:=i3.to h4 hC4 (aa2 _)
 have htop:sU L P s=(⟨P.cs,P.ts,(z8 L P.rd s).1,true⟩,(z8 L P.rd s).2):=(adE (by rw[b1];exact aa3)).trans (adE (by rw[b2];exact aa3))
 rw[htop] at hX hend
 obtain⟨m5,r5,hC5⟩:=UR i4.h 4 kC
 have r5:rT 200 [.ptr r 0,ii 4,.str [114,101,99,111,118,101,114]] m4 (.bool (decide ((aM L s.a).k=4/\(aM L s.a).t=kC))) m5:=r5
 have i5:Pi r n0 n1 u L m m5 s.a vc vt vr (jx P.cs) D:=i4.to (i4.h.grow hC5) (hC5.weak (by simp)) (aa2 _)
 have T5:=T4.to hC5 nTz
 have body:∀{M:NH} {K':NV->NH->Prop},fV L P.rd s=s->aJ L kC s=true->Pi r n0 n1 u L m M (ay s).a vc vt vr (jx P.cs) D->Tr m M n0 n1 vc vt vr P D->
  (∀w m8 s7 b,s7.e=0->cellsOf w=some [w]->Pi r n0 n1 u L m m8 s7.a vc vt vr (jx P.cs) D->(∀k m9,hp [(.o n1,.cells true [vc,vt,w])] k m8=m9->Pi r n0 n1 u L m m9 s7.a vc vt w (jx P.cs) D/\Tr m m9 n0 n1 vc vt w ⟨P.cs,P.ts,b,true⟩ D)->bu L f ⟨P.cs,P.ts,b,true⟩ s7=(X,Z)->L.length<f+s7.a->K' w m8)->WF ⟨af8,E⟩ S0 199 [.ptr r 0,ii 0] M K':=by
  intro M K' htw hb i6 T6 hK'
  have er:z8 L P.rd s=gV L 30 (ay s):=by
   unfold z8 cV
   rw[htw,adF hb]
  rw[er] at hX hend
  have hle:=(eR (L:=L) 30 (ay s)).le
  refine Hk 30 (by omega) M _ i6.h hs E _ (λhe m' hC=>hend _ rfl he m' (i6.c.trans hC λi hi _=>hi)) ?_
  rintro he w m7 ⟨⟨B,hbb⟩,h7,hC7⟩
  generalize gV L 30 (ay s)=q at hX hend h7 hle he hbb
  obtain⟨b,s7⟩:=q
  dsimp only at hX hend h7 hle he hbb
  have i7:=i6.to h7 hC7 hle
  have T7:=T6.to hC7 nTr
  have hb7:SS m7 (TX m n0 n1 vc vt) w b B:=hbb.weak λi hi=>⟨λq=>hi (i6.c.old q),λq=>hi (i6.pc.sl.old i q),λq=>hi (i6.pt.sl.old i q),λq=>hi (q▸i6.o0),λq=>hi (q▸i6.o1)⟩
  refine hK' w m7 s7 b he hbb.sl.one i7 (λk m9 hm9=> ?_) hX (by rw[fJ] at hle;omega)
  have hC9:Chg [n1] m7 m9:=az hm9 rfl
  have T9:=T7.to hC9 nT1
  exact⟨i7.set hm9 rfl i7.pc i7.pt i7.len i7.d i7.dt,⟨T9.len,T9.t,B,hb7.stays (bz.of hC9 λi hi q=>nT1 i q hi)⟩⟩
 have nobody:fV L P.rd s=s->aJ L kC s=false->∀M',Chg [r] m M'->E (UA (bL 2 s)) M':=λhtw hb M' hC=>by
  have e:cV L kC (fV L P.rd s)=bL 2 s:=by
   unfold cV
   rw[htw,adE (by rw[hb];exact aa3)]
  have he:(bL 2 s).e≠0:=by rw[cj hs];simp
  refine hend (bL 2 s) ?_ he M' hC
  show (gV L 30 (cV L kC (fV L P.rd s))).2=_
  rw[e];exact (eR 30 _).err he
 cases hrd:P.rd with
 |true=>
  rw[hrd] at t4
  cases hd:decide ((aM L s.a).k=4/\(aM L s.a).t=kC) with
  |true=>
   rw[hd] at r5
   have e:fV L P.rd s=bL 5 s:=adF ⟨hrd,of_decide_eq_true hd⟩
   have he:(bL 5 s).e≠0:=by rw[cj hs];simp
   have hq:(z8 L P.rd s).2=bL 5 s:=by
    show (gV L 30 (cV L kC (fV L P.rd s))).2=_
    rw[e,wS he];exact (eR 30 _).err he
   have:=hend _ hq he
   rw[cj hs] at this
   simp (disch:=first|assumption|omega|(apply aq;omega)|(apply au;assumption)|(simp only[aA]<;>omega)) only[go_sem,seval,t1,t4,r2.wf',r3.wf',r4.wf',r5.wf',(jd i5.h 5).wf]
   exact this _ i5.c
  |false=>
   rw[hd] at r5
   have e:fV L P.rd s=s:=adE λq=>of_decide_eq_false hd q.2
   obtain⟨m6,r6,h6,hC6⟩:=gc i5.h hs (k:=4) (t:=kC) (by omega) rfl
   have r6:rT 196 [.ptr r 0,ii 4,.str [114,101,99,111,118,101,114]] m5 (.bool (aJ L kC s)) m6:=r6
   have e2:aJ L kC s=false:=adG λq=>of_decide_eq_false hd ⟨q.2.1,q.2.2⟩
   rw[e2] at r6 h6
   rw[adE aa3] at h6
   have i6:Pi r n0 n1 u L m m6 s.a vc vt vr (jx P.cs) D:=i5.to h6 hC6 (aa2 _)
   have:=nobody e e2
   rw[cj hs] at this
   simp (disch:=first|assumption|omega|(apply aq;omega)|(apply au;assumption)|(simp only[aA]<;>omega)) only[go_sem,seval,t1,t4,r2.wf',r3.wf',r4.wf',r5.wf',r6.wf',(jd i6.h 2).wf]
   exact this _ i6.c
 |false=>
  rw[hrd] at t4
  have e:fV L P.rd s=s:=adE λq=>by rw[hrd] at q;exact aa3 q.1
  obtain⟨m6,r6,h6,hC6⟩:=gc i4.h hs (k:=4) (t:=kC) (by omega) rfl
  have r6:rT 196 [.ptr r 0,ii 4,.str [114,101,99,111,118,101,114]] m4 (.bool (aJ L kC s)) m6:=r6
  have T6:=T4.to hC6 nTr
  cases b6:aJ L kC s with
  |true=>
   rw[b6] at r6 h6
   rw[adF rfl] at h6
   have i6:Pi r n0 n1 u L m m6 (ay s).a vc vt vr (jx P.cs) D:=i4.to h6 hC6 (by rw[fJ];omega)
   simp (disch:=first|assumption|omega|(apply aq;omega)|(apply au;assumption)|(simp only[aA]<;>omega)) only[go_sem,seval,t1,t4,r2.wf',r3.wf',r4.wf',r6.wf']
   refine body e b6 i6 T6 ?_
   intro w m7 s7 b he hw i7 q2 hX hf
   have g7:=i7.g1
   have o7:=i7.o1
   rw[←aa m7]
   simp (disch:=first|assumption|omega|(apply aq;omega)|(apply au;assumption)|(simp only[aA]<;>omega)) only[go_sem,seval,t3,g7,hw]
   generalize hm8:hp _ 0 m7=m8
   obtain⟨i8,T8⟩:=q2 _ _ hm8
   exact⟨f,by omega,_,m8,s7,⟨P.cs,P.ts,b,true⟩,vc,vt,w,D,by rfl,by exact gq t1,by exact gq t2,by exact gq t3,by exact gq rfl,he,i8,T8,hX,hf⟩
  |false=>
   rw[b6] at r6 h6
   rw[adE aa3] at h6
   have i6:Pi r n0 n1 u L m m6 s.a vc vt vr (jx P.cs) D:=i4.to h6 hC6 (aa2 _)
   have:=nobody e b6
   rw[cj hs] at this
   simp (disch:=first|assumption|omega|(apply aq;omega)|(apply au;assumption)|(simp only[aA]<;>omega)) only[go_sem,seval,t1,t4,r2.wf',r3.wf',r4.wf',r6.wf',(jd i6.h 2).wf]
   exact this _ i6.c
end
section
variable {P:Program} {S:cE}
theorem fM.dfr {x:NOper} {l:List NOper} {o:Out} (hg:aF t x.guard=some true) (hop:ai x.op t m= .dfr f cap)
 (h:fM P S none l ⟨aN x.dst aK t,.call f cap::dfs,ctx,m⟩ o d1):fM P S none (x::l) ⟨t,dfs,ctx,m⟩ o d1:=by
 obtain⟨n,hn⟩:=h
 refine⟨n, ?_⟩
 rw[bP,hg,hop]
 exact hn
theorem fM.recov {x:NOper} {l:List NOper} {o:Out} (hg:aF t x.guard=some true) (hop:ai x.op t m= .recov)
 (h:fM P S none l ⟨aN x.dst (ctx.getD .nili) t,dfs,none,m⟩ o d1):fM P S none (x::l) ⟨t,dfs,ctx,m⟩ o d1:=by
 obtain⟨n,hn⟩:=h
 refine⟨n, ?_⟩
 rw[bP,hg,hop]
 cases ctx<;>exact hn
theorem Call.of_dfr  {g:Nat} {nf ng:NFun} {args:List NV} {o o2:Out} {d d2:Dyn} {p:Option NV} (hs:∀l h,S f l h=none) (hf:af P f=some (.code nf)) (h:dp P S none nf.body ⟨cJ args 0 .leaf, [],none,m⟩ o d) (hd:d.dfs= [.call g cap])
 (hp:(p=none/\(o= .norm∨o= .ret))∨∃v,o= .pan v/\p=some v) (hg:af P g=some (.code ng)) (h2:dp P S none ng.body ⟨cJ cap 0 .leaf, [],p,d.h⟩ o2 d2) (ho2:o2= .norm∨o2= .ret) (hd2:d2.dfs= []) (hc2:d2.ctx=none) (hr2:ng.results= [])
 (hv:cD d2.h d.t nf.results .fail (λl=> .val (gS l) d.ctx d2.h)= .val v d.ctx d2.h):Call P S f args m (.val v d.ctx d2.h):=by
 obtain⟨n,hn⟩:=h
 obtain⟨k,hk⟩:=h2
 have hn:=bU (ad9 n k) _ _ _ _ _ hn
 have hk:=bU (ae0 n k) _ _ _ _ _ hk
 generalize max n k=q at hn hk
 refine⟨by simp,q, ?_⟩
 unfold bZ
 rw[hs]
 dsimp only
 rw[hf]
 dsimp only
 have hcall:cP P (ev P S q) 2 g cap p d.h= .val (.tup []) none d2.h:=by
  rw[dj,hg]
  dsimp only
  rw[hk]
  rcases ho2 with rfl|rfl<;>(dsimp only;rw[hd2];show cD d2.h d2.t ng.results .fail (λl=> .val (gS l) d2.ctx d2.h)=_;rw[hr2,hc2];rfl)
 rw[dj,hf]
 dsimp only
 rw[hn]
 have key:∀(p:Option NV),cP P (ev P S q) 2 g cap p d.h= .val (.tup []) none d2.h->unwind (cP P (ev P S q) 2) (finish nf.results d) d.dfs p d.h= .val v d.ctx d2.h:=by
  intro p hc
  rw[hd]
  show (match cP P (ev P S q) 2 g cap p d.h with| .val _ p h=>finish nf.results d p h|_=>CR.fail)=_
  rw[hc]
  exact hv
 rcases hp with⟨rfl,rfl|rfl⟩|⟨v',rfl,rfl⟩
 ·exact key _ hcall
 ·exact key _ hcall
 ·exact key _ hcall
end
section
variable {m m' m0:NH} {r s:D4} {u:NV} {L:List Tok} {a a':Nat} {x:Tok} {T T':List D4} {E:NV->NH->Prop}
theorem LP (m:NH) (e a:Int):∃m',rT 127 [.ifc 205 (.agg [ii e,ii a])] m (.agg [ii e,ii a]) m'/\Chg [] m m':=by
 refine WF.ex1 λK hK=> ?_
 refine WF.of_wpG (λ_=>rfl) AG (L:= [(.e,.ifc 205 (.agg [ii e,ii a]))]) rfl ?_
 unfold Qm
 simp (disch:=first|omega|(simp only[aA]<;>omega)) only[go_sem,seval]
 exact hK _ (aw rfl)
end
def RW (c:NC) (d:Dyn) (R:Out->Dyn->Prop):Prop:=∃o d',dp af8 S0 none c d o d'/\R o d'
theorem RW.of_wp {a b:NC} {d:Dyn} (h:wp af8 S0 none a d (ld (λd=>RW b d R) R)):RW (.seq a b) d R:=by
 obtain⟨o,d1,h1,h2⟩:=av _ _ _ h
 cases o with
 |norm=>obtain⟨o,d2,h3,h4⟩:=h2;exact⟨o,d2,dp.seq h1 h3,h4⟩
 |pan v=>exact h2.2.elim
 |ret=>exact⟨_,_,dp.seq_out h1 (by simp),h2⟩
 |exit i=>exact⟨_,_,dp.seq_out h1 (by simp),h2⟩
theorem RW.run {a b:NC} {d:Dyn} (h1:dp af8 S0 none a d .norm d1) (h:RW b d1 R):RW (.seq a b) d R:=by
 obtain⟨o,d2,h3,h4⟩:=h;exact⟨o,d2,dp.seq h1 h3,h4⟩
theorem RW.pan {a b:NC} {d:Dyn} (h1:dp af8 S0 none a d (.pan v) d1) (h:R (.pan v) d1):RW (.seq a b) d R:=⟨_,_,dp.seq_out h1 (by simp),h⟩
theorem RW.wp {a:NC} {d:Dyn} (h:Nm.wp af8 S0 none a d R):RW a d R:=by
 obtain⟨o,d1,h1,h2⟩:=av _ _ _ h
 cases o with
 |pan v=>exact h2.2.elim
 |_=>exact⟨_,_,h1,h2⟩
section
variable {m m' m0 M:NH} {r s bl bp ba be:D4} {u:NV} {L:List Tok} {a a':Nat} {x:Tok} {T T':List D4} {E:NV->NH->Prop}
theorem LV:RW tY.body ⟨cJ [.ptr bl 0,.ptr bp 0,.ptr ba 0,.ptr be 0] 0 .leaf, [],none,M⟩ λo d=>(o= .norm∨o= .ret)/\d.dfs= []/\d.ctx=none/\d.h=M:=by
 unfold tY
 refine RW.run (dp.reg (fM.recov rfl rfl (fM.val rfl rfl (fM.nil _)))) ?_
 apply RW.wp
 change Nm.wp _ _ _ _ ⟨puts [(D4.e.f,.nili),(D4.e.a.b,.nili),(.c .e,.ptr be 0),(.b .e,.ptr ba 0),(.a .e,.ptr bp 0),(.e,.ptr bl 0)] .leaf, [],none,M⟩ _
 have hb:bH .ifc .neq .nili .nili=some (.bool false):=rfl
 simp (disch:=first|assumption|omega|(apply aq;omega)|(apply au;assumption)|(simp only[aA]<;>omega)) only[go_sem,seval,hb]
 simp
theorem LN {e:Int} (ol:ap M bl) (gl:M.get bl=some (.cells true [u])) (op:ap M bp) {p1 p2 p3 w1 w2:NV} (gp:M.get bp=some (.cells true [p1,p2,p3])) (oa:ap M ba) (ga:M.get ba=some (.cells true [w1])) (oe:ap M be) (ge:M.get be=some (.cells true [w2]))
 (hu:Sl M u 4 (L.map Tok.l)) (ha:a<L.length) (hl:L.length<=1000000) {x:Tok} (hx:L[a]? =some x) (n1:bp≠ba) (n2:bp≠be) (n3:ba≠be) (n4:bl≠bp) (n5:bl≠ba) (n6:bl≠be) (hn:∀i∈ids u,i≠bp/\i≠ba/\i≠be):
 RW tY.body ⟨cJ [.ptr bl 0,.ptr bp 0,.ptr ba 0,.ptr be 0] 0 .leaf, [],some (.ifc 205 (.agg [ii e,ii a])),M⟩ λo d=>(o= .norm∨o= .ret)/\d.dfs= []/\d.ctx=none/\
  d.h.get bp=some (.cells true [.nils,.nils,.nils])/\d.h.get ba=some (.cells true [ii x.p])/\d.h.get be=some (.cells true [ii e])/\Chg [bp,ba,be] M d.h:=by
 unfold tY
 refine RW.run (dp.reg (fM.recov rfl rfl (fM.val rfl rfl (fM.nil _)))) ?_
 apply RW.wp
 generalize hv:(NV.ifc 205 (.agg [ii e,ii a]))=v
 change Nm.wp _ _ _ _ ⟨puts [(D4.e.f,v),(D4.e.a.b,v),(.c .e,.ptr be 0),(.b .e,.ptr ba 0),(.a .e,.ptr bp 0),(.e,.ptr bl 0)] .leaf, [],none,M⟩ _
 have hb:bH .ifc .neq v .nili=some (.bool true):=by rw[←hv];rfl
 obtain⟨m1,r1,hC1⟩:=LP M e a
 rw[hv] at r1
 have ol1:=hC1.old ol
 have op1:=hC1.old op
 have oa1:=hC1.old oa
 have oe1:=hC1.old oe
 have gl1:=(hC1.get ol (by simp)).trans gl
 have gp1:=(hC1.get op (by simp)).trans gp
 have ga1:=(hC1.get oa (by simp)).trans ga
 have ge1:=(hC1.get oe (by simp)).trans ge
 have hu1:=hu.chg hC1 (by simp)
 have hlen:=hu1.len
 rw[aa0] at hlen
 obtain⟨id,off,wr,cs,a1,a2,a3,a4,a5⟩:=hu1.at a (by simpa using ha)
 rw[aa4] at a5
 have hxe:L[a]=x:=by rw[List.getElem?_eq_getElem ha] at hx;exact Option.some.inj hx
 rw[hxe] at a5
 unfold Tok.l at a5
 have c3:cs[off+3]? =some (ii x.p):=by have:=bm a5 3 (by omega);rw[this];rfl
 have hs:=hu1.same (n:=3)
 have hid:id∈ids u:=by
  rcases hu1.2 with⟨rfl,h0⟩|⟨i0,o0,kc,w,c,rfl,-⟩
  ·have:=List.map_eq_nil_iff.1 h0
   rw[this] at ha;exact adD ha (by simp)
  ·have e1:=HF (n:=4) (id:=i0) (off:=o0) (e:=4) (kc:=kc) (len:=(L.map Tok.l).length) (ik:= .i64) (z:=(a:Int)) (by omega) (by rw[aa0];omega)
   have a1':=e1.symm.trans a1
   cases a1'
   simp[ids]
 obtain⟨d1,d2,d3⟩:=hn id hid
 have n1':=n1.symm
 have n2':=n2.symm
 have n3':=n3.symm
 have n4':=n4.symm
 have n5':=n5.symm
 have n6':=n6.symm
 have hmin:min (a:Int) ((L.length:Int) - 1)=a:=by omega
 simp (disch:=first|omega|(simp only[aA]<;>omega)) only[go_sem,seval,hb,r1.wf,gl1,gp1,ga1,ge1,hlen,hmin,a1,a2,c3,hs]
 refine⟨Or.inl trivial,(hC1.weak (by simp)).trans (aw (S:=_) rfl) λi hi _=> ?_⟩
 simp[bj] at hi ⊢
 rcases hi with rfl|rfl|rfl<;>simp
end
theorem JV :∀(L:List Tok) (w:Int),XS s w L->∀(i:Nat) (x:Tok),L[i]? =some x->(x.k=5↔i+1=L.length)/\x.p<=s.length/\∀c∈x.t,c∈s
 | [],_,_,i,x,hx=>by simp at hx
 |y::l,w,⟨h1,h2,h3,h4,h5,h6⟩,0,x,hx=>by
  have e:y=x:=by simpa using hx
  subst e
  refine⟨h5.trans ?_,h2,λc hc=> ?_⟩
  ·rw[ab4]
   constructor
   ·rintro rfl;rfl
   ·intro q;exact List.eq_nil_of_length_eq_zero (by omega)
  ·rw[←h4] at hc
   exact af5 (List.mem_of_mem_drop hc)
 |y::l,w,⟨h1,h2,h3,h4,h5,h6⟩,i+1,x,hx=>by
  obtain⟨a,b,c⟩:=JV l y.p h6 i x (by simpa using hx)
  refine⟨a.trans ?_,b,c⟩
  rw[ab4];omega
theorem G2 :∀(L:List Tok) (w:Int),XS s w L->L= []∨w+(L.length:Int)<=s.length
 | [],_,_=>Or.inl rfl
 |y::l,w,⟨h1,h2,h3,h4,h5,h6⟩=>by
  refine Or.inr ?_
  rw[ab4]
  rcases G2 l y.p h6 with rfl|h
  ·simp;omega
  ·omega
section
variable {m m' m0 M:NH} {r s bl bp ba be:D4} {u:NV} {L:List Tok} {a a':Nat} {x:Tok} {T T':List D4} {E:NV->NH->Prop}
theorem Z0 {x:NOpd} (h:ρ t x=some (.fn f cap)):ai (.defer x) t m= .dfr f cap:=by
 show wV t x _=_
 rw[bC,h];rfl
structure ProgE (m:NH) (bl bp ba be:D4) (L:List Tok) (X:Ps) (Z:Rs) (n:Nat) (o:Out) (d:Dyn):Prop where
 dfs:d.dfs= [.call 126 [.ptr bl 0,.ptr bp 0,.ptr ba 0,.ptr be 0]]
 ctx:d.ctx=none
 t1:NT.get D4.e.b d.t=some (.ptr bp 0)
 t2:NT.get D4.e.c d.t=some (.ptr ba 0)
 t3:NT.get D4.e.f d.t=some (.ptr be 0)
 c:Chg [] m d.h
 nn:¬ap m bp/\¬ap m ba/\¬ap m be
 h:((o= .norm∨o= .ret)/\Z.e=0/\∃p1 p2 p3,d.h.get bp=some (.cells true [p1,p2,p3])/\RP d.h (gQ m) ⟨X.cs,X.ts,X.rc⟩ p1 p2 p3/\d.h.get ba=some (.cells true [ii n])/\d.h.get be=some (.cells true [ii 0]))∨
  (Z.e≠0/\∃(u:NV),o= .pan (UA Z)/\ap d.h bl/\d.h.get bl=some (.cells true [u])/\ap d.h bp/\(∃p1 p2 p3,d.h.get bp=some (.cells true [p1,p2,p3]))/\ap d.h ba/\(∃w,d.h.get ba=some (.cells true [w]))/\ap d.h be/\(∃w,d.h.get be=some (.cells true [w]))/\Sl d.h u 4 (L.map Tok.l)/\(∀i∈ids u,i≠bp/\i≠ba/\i≠be))
theorem L8  {bv:NV} (hb:Sl m bv 1 (up b)) (hl:L.length<=20000) (h0:0<L.length) (hk:∀(i:Nat) (x:Tok),L[i]? =some x->(x.k=5↔i+1=L.length)) (hbb:∀(i:Nat) (x:Tok),L[i]? =some x->∀c∈x.t,c<256)
 (hT:∀m,Sl m bv 1 (up b)->∃u m',rT 125 [bv] m (.tup [u,ii b.length,ii 0]) m'/\aQ m m' u 4 (L.map Tok.l)/\Chg [] m m'):
 ∃bl bp ba be,(bp≠ba/\bp≠be/\ba≠be/\bl≠bp/\bl≠ba/\bl≠be)/\RW Lk.body ⟨cJ [bv] 0 .leaf, [],none,m⟩ (ProgE m bl bp ba be L (bu L (L.length+1) ⟨[], [], [],false⟩ ⟨0,0,0⟩).1 (bu L (L.length+1) ⟨[], [], [],false⟩ ⟨0,0,0⟩).2 b.length):=by
 generalize hM1:hp [(.n 2,.cells true [.int .i64 (.lit 0)]),(.n 1,.cells true [.int .i64 (.lit 0)]),(.n 0,.cells true [.nils,.nils,.nils])] 3 m=M1
 have hC1:Chg [] m M1:=az hM1 rfl
 obtain⟨u,M2,r2,ho,hC2⟩:=hT M1 (hb.chg hC1 (by simp))
 have a0:ap M1 (na m 0):=aL hM1 (by omega)
 have a1:ap M1 (na m 1):=aL hM1 (by omega)
 have a2:ap M1 (na m 2):=aL hM1 (by omega)
 have b0:=hC2.old a0
 have b1:=hC2.old a1
 have b2:=hC2.old a2
 have g0:M2.get (na m 0)=some (.cells true [.nils,.nils,.nils]):=(hC2.get a0 (by simp)).trans (aI hM1)
 have g1:M2.get (na m 1)=some (.cells true [.int .i64 (.lit 0)]):=(hC2.get a1 (by simp)).trans (aI hM1)
 have g2:M2.get (na m 2)=some (.cells true [.int .i64 (.lit 0)]):=(hC2.get a2 (by simp)).trans (aI hM1)
 have n01:na m 0≠na m 1:=by simp[cn]
 have n02:na m 0≠na m 2:=by simp[cn]
 have n12:na m 1≠na m 2:=by simp[cn]
 have n10:=n01.symm
 have n20:=n02.symm
 have n21:=n12.symm
 have l0:=b0.ne 0
 have l1:=b1.ne 0
 have l2:=b2.ne 0
 refine⟨na M2 0,na m 0,na m 1,na m 2,⟨n01,n02,n12,l0.symm,l1.symm,l2.symm⟩, ?_⟩
 unfold Lk
 generalize hR:ProgE m (na M2 0) (na m 0) (na m 1) (na m 2) L (bu L (L.length+1) ⟨[], [], [],false⟩ ⟨0,0,0⟩).1 (bu L (L.length+1) ⟨[], [], [],false⟩ ⟨0,0,0⟩).2 b.length=R
 refine RW.of_wp ?_
 change wp _ _ _ _ ⟨puts [(D4.e,bv)] .leaf, [],none,m⟩ _
 rw[←aa m]
 simp (disch:=first|assumption|omega|(apply aq;omega)|(apply au;assumption)|(simp only[aA]<;>omega)) only[go_sem,seval]
 refine RW.of_wp ?_
 have hu:=ho.sl.one
 simp (disch:=first|assumption|omega|(apply aq;omega)|(apply au;assumption)|(simp only[aA]<;>omega)) only[go_sem,seval,hM1,r2.wf,g1,g2,hu]
 refine RW.of_wp ?_
 simp (disch:=first|assumption|omega|(apply aq;omega)|(apply au;assumption)|(simp only[aA]<;>omega)) only[go_sem,seval,g2]
 generalize hM3:hp _ 1 M2=M3
 generalize hTT:puts _ NT.leaf=TT
 have q0:NT.get D4.e TT=some bv:=by rw[←hTT];exact gq rfl
 have q1:NT.get D4.e.a.a TT=some (.ptr (na M2 0) 0):=by rw[←hTT];exact gq rfl
 have q2:NT.get D4.e.b TT=some (.ptr (na m 0) 0):=by rw[←hTT];exact gq rfl
 have q3:NT.get D4.e.c TT=some (.ptr (na m 1) 0):=by rw[←hTT];exact gq rfl
 have q4:NT.get D4.e.f TT=some (.ptr (na m 2) 0):=by rw[←hTT];exact gq rfl
 clear hTT
 have hC3:Chg [na m 2,na m 1] M2 M3:=az hM3 rfl
 have k0:M3.get (na M2 0)=some (.cells true [u]):=aI hM3
 have e0:ap M3 (na M2 0):=aL hM3 (by omega)
 change RW _ ⟨puts [] TT, [],none,M3⟩ _
 have hd:ρ (puts [(D4.e.f.b,NV.fn 126 [.ptr (na M2 0) 0,.ptr (na m 0) 0,.ptr (na m 1) 0,.ptr (na m 2) 0])] TT) (.tmp D4.e.f.b)=some (NV.fn 126 [.ptr (na M2 0) 0,.ptr (na m 0) 0,.ptr (na m 1) 0,.ptr (na m 2) 0]):=(show NT.get D4.e.f.b _=_ from gq rfl)
 have hf:ai (.mkFn 126 [.tmp D4.e.a.a,.tmp D4.e.b,.tmp D4.e.c,.tmp D4.e.f]) (puts [] TT) M3= .val (NV.fn 126 [.ptr (na M2 0) 0,.ptr (na m 0) 0,.ptr (na m 1) 0,.ptr (na m 2) 0]):=by (simp (disch:=first|assumption|omega|(apply aq;omega)|(apply au;assumption)|(simp only[aA]<;>omega)) only[go_sem,seval,q1,q2,q3,q4])
 refine RW.run (d1:=⟨puts [(D4.e.f.b,.fn 126 [.ptr (na M2 0) 0,.ptr (na m 0) 0,.ptr (na m 1) 0,.ptr (na m 2) 0])] TT, [.call 126 [.ptr (na M2 0) 0,.ptr (na m 0) 0,.ptr (na m 1) 0,.ptr (na m 2) 0]],none,M3⟩) (dp.reg (fM.val rfl hf (fM.dfr rfl (Z0 hd) (fM.nil _)))) ?_
 refine RW.of_wp ?_
 rw[←aa M3]
 simp (disch:=first|assumption|omega|(apply aq;omega)|(apply au;assumption)|(simp only[aA]<;>omega)) only[go_sem,seval,q1,k0,hu]
 generalize hM4:hp _ 1 M3=M4
 generalize hT2:puts _ TT=T2
 have t0:NT.get D4.e T2=some bv:=by rw[←hT2];exact gq q0
 have t1:NT.get D4.e.a.b T2=some (.ptr (na M3 0) 0):=by rw[←hT2];exact gq rfl
 have t2:NT.get D4.e.b T2=some (.ptr (na m 0) 0):=by rw[←hT2];exact gq q2
 have t3:NT.get D4.e.c T2=some (.ptr (na m 1) 0):=by rw[←hT2];exact gq q3
 have t4:NT.get D4.e.f T2=some (.ptr (na m 2) 0):=by rw[←hT2];exact gq q4
 clear hT2
 have hC4:Chg [] M3 M4:=az hM4 rfl
 have nu:∀i∈ids u,¬ap M1 i:=ho.new
 have j0:M3.get (na m 0)=some (.cells true [.nils,.nils,.nils]):=(hC3.get b0 (by simp[cn])).trans g0
 have j1:M3.get (na m 1)=some (.cells true [ii b.length]):=by rw[←hM3];simp (disch:=first|assumption|omega|(apply aq;omega)|(apply au;assumption)|(simp only[aA]<;>omega)) only[go_sem,seval]
 have j2:M3.get (na m 2)=some (.cells true [ii 0]):=by rw[←hM3];simp (disch:=first|assumption|omega|(apply aq;omega)|(apply au;assumption)|(simp only[aA]<;>omega)) only[go_sem,seval]
 have hu3:Sl M3 u 4 (L.map Tok.l):=ho.sl.chg hC3 λi hi q=>by
  simp only[adJ,adI,or_false] at q
  rcases q with rfl|rfl
  ·exact nu _ hi a2
  ·exact nu _ hi a1
 have rd:Rp M4 (na M3 0) u L (Rs.mk 0 0 0).a:=⟨aI hM4,aL hM4 (by omega),hu3.chg hC4 (by simp),λq=>ak (hu3.old _ q),hl,hk,h0,hbb⟩
 have z0:=hC3.old b0
 have z1:=hC3.old b1
 have z2:=hC3.old b2
 have s0:∀{i:D4},ap M3 i->i∉ [na M3 0]:=λhi q=>hi.ne 0 (one q)
 have hW:=IN rd rfl (λv m'=>(bu L (L.length+1) ⟨[], [], [],false⟩ ⟨0,0,0⟩).2.e≠0/\v=UA (bu L (L.length+1) ⟨[], [], [],false⟩ ⟨0,0,0⟩).2/\Chg [na M3 0] M4 m')
  (λv m'=>(bu L (L.length+1) ⟨[], [], [],false⟩ ⟨0,0,0⟩).2.e=0/\∃vc vt vr,v= .agg [vc,vt,vr]/\RP m' (gQ M4) ⟨(bu L (L.length+1) ⟨[], [], [],false⟩ ⟨0,0,0⟩).1.cs,(bu L (L.length+1) ⟨[], [], [],false⟩ ⟨0,0,0⟩).1.ts,(bu L (L.length+1) ⟨[], [], [],false⟩ ⟨0,0,0⟩).1.rc⟩ vc vt vr/\Chg [na M3 0] M4 m')
  (λh m' hC=>⟨h,rfl,hC⟩) (λh v m' hv=>⟨h,hv⟩)
 generalize (bu L (L.length+1) ⟨[], [], [],false⟩ ⟨0,0,0⟩).1=X at hW hR
 generalize (bu L (L.length+1) ⟨[], [], [],false⟩ ⟨0,0,0⟩).2=Z at hW hR
 have c03:Chg [] m M3:=(hC1.tr hC2).trans hC3 λi hi ho=>by
  simp only[adJ,adI,or_false] at hi
  rcases hi with rfl|rfl<;>exact adD ho ak
 have c04:Chg [] m M4:=c03.tr hC4
 have c05:∀{M5},Chg [na M3 0] M4 M5->Chg [] m M5:=λh=>c04.trans h λi hi ho=>adD (c03.old ho) (by rw[one hi];exact ak)
 have keep:∀M',Chg [na M3 0] M4 M'->M'.get (na M2 0)=some (.cells true [u])/\ap M' (na M2 0)/\M'.get (na m 0)=some (.cells true [.nils,.nils,.nils])/\ap M' (na m 0)/\M'.get (na m 1)=some (.cells true [ii b.length])/\ap M' (na m 1)/\M'.get (na m 2)=some (.cells true [ii 0])/\ap M' (na m 2):=λM' hC=>
  ⟨(hC.get (hC4.old e0) (s0 e0)).trans ((hC4.get e0 (by simp)).trans k0),hC.old (hC4.old e0),(hC.get (hC4.old z0) (s0 z0)).trans ((hC4.get z0 (by simp)).trans j0),hC.old (hC4.old z0),(hC.get (hC4.old z1) (s0 z1)).trans ((hC4.get z1 (by simp)).trans j1),hC.old (hC4.old z1),(hC.get (hC4.old z2) (s0 z2)).trans ((hC4.get z2 (by simp)).trans j2),hC.old (hC4.old z2)⟩
 rcases hW with⟨w,c,M5,hc,hz,w1,w2,w3,rfl,hrp,hC5⟩|⟨w,c,M5,hc,hz,rfl,hC5⟩
 ·obtain⟨x1,x2,x3,x4,x5,x6,x7,x8⟩:=keep M5 hC5
  have r5:rT 128 [.ptr (na M3 0) 0] M4 (.agg [w1,w2,w3]) M5:=⟨c,hc⟩
  have hlen:=hb.len
  rw[show (up b).length=b.length by simp] at hlen
  refine RW.wp ?_
  change wp _ _ _ _ ⟨puts [] T2,_,none,M4⟩ _
  simp (disch:=first|assumption|omega|(apply aq;omega)|(apply au;assumption)|(simp only[aA]<;>omega)) only[go_sem,seval,t0,t1,t2,t3,t4,r5.wf,x3,x5,x7,hlen]
  rw[←hR]
  generalize hM6:hp _ _ M5=M6
  have hC6:Chg [na m 0,na m 1,na m 2] M5 M6:=by rw[←hM6];exact (fA _ _ _).weak λi hi _=>by simp[bj] at hi ⊢;rcases hi with rfl|rfl|rfl<;>simp
  have hin:∀i∈ [na m 0,na m 1,na m 2],ap M4 i/\¬ap m i:=λi hi=>by
   simp only[adJ,adI,or_false] at hi
   rcases hi with rfl|rfl|rfl
   ·exact⟨hC4.old z0,ak⟩
   ·exact⟨hC4.old z1,ak⟩
   ·exact⟨hC4.old z2,ak⟩
  have hrp6:RP M6 (gQ M4) _ w1 w2 w3:=hrp.stays (bz.of hC6 λi hi q=>hi (hin i q).1)
  have wk:∀i,gQ M4 i->gQ m i:=λi hi q=>hi (c04.old q)
  have hrp7:RP M6 (gQ m) _ w1 w2 w3:=⟨hrp6.c,λi hi=>wk i (hrp6.cT i hi),let ⟨C,q⟩:=hrp6.t;⟨C,q.sl,λi hi=>wk i (q.hT i hi),q.len,λj x c a b=>by obtain⟨vb,B,e,h⟩:=q.R j x c a b;exact⟨vb,B,e,h.weak wk⟩⟩,let ⟨C,q⟩:=hrp6.r;⟨C,q.weak wk⟩⟩
  refine⟨rfl,rfl,gq t2,gq t3,gq t4,(c05 hC5).trans hC6 λi hi ho=>adD ho (hin i hi).2,⟨ak,ak,ak⟩,Or.inl ⟨Or.inr rfl,hz,w1,w2,w3, ?_,hrp7, ?_, ?_⟩⟩
  ·rw[←hM6];simp (disch:=first|assumption|omega|(apply aq;omega)|(apply au;assumption)|(simp only[aA]<;>omega)) only[go_sem,seval]
  ·rw[←hM6];simp (disch:=first|assumption|omega|(apply aq;omega)|(apply au;assumption)|(simp only[aA]<;>omega)) only[go_sem,seval]
  ·rw[←hM6];simp (disch:=first|assumption|omega|(apply aq;omega)|(apply au;assumption)|(simp only[aA]<;>omega)) only[go_sem,seval]
 ·obtain⟨x1,x2,x3,x4,x5,x6,x7,x8⟩:=keep M5 hC5
  have h1:ai (.move (.tmp D4.e.a.b)) T2 M4= .val (.ptr (na M3 0) 0):=by
   change ai _ (puts [] T2) _=_
   simp (disch:=first|assumption|omega|(apply aq;omega)|(apply au;assumption)|(simp only[aA]<;>omega)) only[go_sem,seval,t1]
  have h2:ai (.call (C.F 128) [.tmp D4.e.a.a.b]) (puts [(D4.e.a.a.b,.ptr (na M3 0) 0)] T2) M4= .call 128 [.ptr (na M3 0) 0]:=by (simp (disch:=first|assumption|omega|(apply aq;omega)|(apply au;assumption)|(simp only[aA]<;>omega)) only[go_sem,seval])
  refine RW.pan (d1:=⟨puts [(D4.e.a.a.b,.ptr (na M3 0) 0)] T2, [.call 126 [.ptr (na M2 0) 0,.ptr (na m 0) 0,.ptr (na m 1) 0,.ptr (na m 2) 0]],none,M5⟩) (dp.reg (fM.val rfl h1 (fM.callp rfl h2 hc))) ?_
  rw[←hR]
  have hu5:Sl M5 u 4 (L.map Tok.l):=(hu3.chg hC4 (by simp)).chg hC5 λi hi=>s0 (hu3.old i hi)
  refine⟨rfl,rfl,gq t2,gq t3,gq t4,c05 hC5,⟨ak,ak,ak⟩,Or.inr ⟨hz,u,rfl,x2,x1,x4,⟨_,_,_,x3⟩,x6,⟨_,x5⟩,x8,⟨_,x7⟩,hu5,λi hi=> ?_⟩⟩
  exact⟨λq=>nu i hi (q▸a0),λq=>nu i hi (q▸a1),λq=>nu i hi (q▸a2)⟩
end
end FR
