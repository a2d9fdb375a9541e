/- Contracts of functions that the law JudgeOrders reaches, part 1. -/
import Derived.Test.YtcpilcplobihkaaJoU0
set_option linter.unusedSimpArgs false
set_option linter.unusedVariables false
open Go Nm Go.Proofs
namespace FR
structure Rn where
 ph:Bool
 rc:Bd
 th:List Bd
 z:Mc
def dk (p:Prg) (j:Nat):List Stm:=((p.ts[j]?).map (·.2)).getD []
noncomputable def BK (p:Prg) (c:Int) (x:Rn):Bool×Rn:=
 if 0<=c/\c<x.th.length then ((bV p.cs (locals (dk p c.toNat)) ((x.th[c.toNat]?).getD (fU [])) x.z).1,⟨true,x.rc,x.th.set c.toNat (bV p.cs (locals (dk p c.toNat)) ((x.th[c.toNat]?).getD (fU [])) x.z).2.1,(bV p.cs (locals (dk p c.toNat)) ((x.th[c.toNat]?).getD (fU [])) x.z).2.2⟩)
 else (false,⟨true,x.rc,x.th,x.z⟩)
noncomputable def jH (p:Prg) (c:Int) (x:Rn):Bool×Rn:=
 if x.ph=true then BK p c x
 else if (bV p.cs (locals p.r) x.rc x.z).1=true then (true,⟨false,(bV p.cs (locals p.r) x.rc x.z).2.1,x.th,(bV p.cs (locals p.r) x.rc x.z).2.2⟩)
 else if (bV p.cs (locals p.r) x.rc x.z).2.1.s=2 then (false,⟨false,(bV p.cs (locals p.r) x.rc x.z).2.1,x.th,(bV p.cs (locals p.r) x.rc x.z).2.2⟩)
 else BK p c ⟨true,(bV p.cs (locals p.r) x.rc x.z).2.1,x.th,(bV p.cs (locals p.r) x.rc x.z).2.2⟩
def lu (p:Prg) (z:Mc):Rn:=⟨false,fU p.r,p.ts.map fun t=>fU t.2,z⟩
structure Bl where
 b:D4
 (pl nm vv:NV)
def Bl.fp (q:Bl):List D4:=bU q.b q.pl q.nm q.vv
structure RunG (f:NV->NV->Bool->List NV) (mk:NV->NV->NV->Int->List NV) (p:Prg) (B m:NH) (r:D4) (x:Rn) (o:Nat) (vcl vo vth:NV) (q:Bl) (bs:List Bl):Prop where
 mc:Mac f B m r vcl vo x.z
 rb:Bod mk B m q.b q.pl q.nm q.vv (locals p.r) x.rc
 rk:BdOk p.cs (locals p.r) x.rc
 tv:aV B m vth 1 (bs.map fun t=> [.ptr t.b 0])
 ln:bs.length=p.ts.length/\x.th.length=p.ts.length
 tb:∀(j:Nat) (t:Bl) (y:Bd),bs[j]? =some t->x.th[j]? =some y->Bod mk B m t.b t.pl t.nm t.vv (locals (dk p j)) y/\BdOk p.cs (locals (dk p j)) y
 d0:∀i∈bE r vcl vo,i∉ids vth/\i∉q.fp/\∀t∈bs,i∉t.fp
 d1:∀i∈ids vth,i∉q.fp/\∀t∈bs,i∉t.fp
 d2:∀i∈q.fp,∀t∈bs,i∉t.fp
 d3:∀(j k:Nat) (t u:Bl),bs[j]? =some t->bs[k]? =some u->j≠k->∀i∈t.fp,i∉u.fp
 zk:McOk p.cs x.z
 ol:x.z.out.length<=o
abbrev iF (p:Prg) (B:NH) (vc vt vr:NV) (m:NH) (r:D4) (x:Rn) (o:Nat) (vcl vo vth:NV) (q:Bl) (bs:List Bl):Prop:=RunG (fP vc vt vr (.ptr q.b 0) vth x.ph) pD p B m r x o vcl vo vth q bs
structure RunC (p:Prg) (B:NH) (vc vt vr:NV):Prop where
 rp:RP B (fun _=>True) p vc vt vr
 cs:CsOk p.cs
 zt:∀t∈p.ts,cz t.2<=400000
 zr:cz p.r<=400000
 gt:∀t∈p.ts,∀s∈t.2,Gs p.cs s
 gr:∀s∈p.r,Gs p.cs s
 nt:p.ts.length<=1000
section
variable {f:NV->NV->Bool->List NV} {mk:NV->NV->NV->Int->List NV} {p:Prg} {B m m':NH} {vc vt vr vcl vo vth:NV} {r:D4} {x:Rn} {o:Nat} {q:Bl} {bs:List Bl}
def RunG.foot (r:D4) (vcl vo vth:NV) (q:Bl) (bs:List Bl):List D4:=bE r vcl vo++(ids vth++(q.fp++(bs.map Bl.fp).flatten))
theorem RunG.thr (h:RunG f mk p B m r x o vcl vo vth q bs) {t:Bl} (ht:t∈bs):∃(j:Nat) (y:Bd),bs[j]? =some t/\x.th[j]? =some y:=by
 obtain ⟨j,hj,rfl⟩:=List.mem_iff_getElem.1 ht
 exact ⟨j,x.th[j]'(by rw[h.ln.2,←h.ln.1];exact hj),List.getElem?_eq_getElem hj,List.getElem?_eq_getElem _⟩
theorem RunG.told (h:RunG f mk p B m r x o vcl vo vth q bs) {t:Bl} (ht:t∈bs):∀i∈t.fp,ak m i/\¬ak B i:=by
 obtain ⟨j,y,h1,h2⟩:=h.thr ht
 exact (h.tb j t y h1 h2).1.old
theorem RunG.recov (h:RunG f mk p B m r x o vcl vo vth q bs) {vo' pl':NV} {y:Bd} {z:Mc} {o':Nat} (hG:ct f mk B m m' p.cs (locals p.r) r q.b (bE r vcl vo++q.fp) vcl vo' pl' q.nm q.vv y z o'):
 RunG f mk p B m' r ⟨x.ph,y,x.th,z⟩ o' vcl vo' vth ⟨q.b,pl',q.nm,q.vv⟩ bs:=by
 have hF:∀i∈bE r vcl vo++q.fp,¬ak B i:=fun i hi=>(List.mem_append.1 hi).elim (fun u=>(h.mc.old i u).2) fun u=>(h.rb.old i u).2
 have n1:∀i∈ids vth,i∉bE r vcl vo++q.fp:=fun i hi u=>(List.mem_append.1 u).elim (fun u=>(h.d0 i u).1 hi) (h.d1 i hi).1
 have n2:∀t∈bs,∀i∈t.fp,i∉bE r vcl vo++q.fp:=fun t ht i hi u=>(List.mem_append.1 u).elim (fun u=>(h.d0 i u).2.2 t ht hi) fun u=>h.d2 i u t ht hi
 have k1:∀i∈ids vth,i∉bE r vcl vo'++bU q.b pl' q.nm q.vv:=fun i hi=>hG.ev.nin (h.tv.sl.old i hi) (n1 i hi)
 have k2:∀t∈bs,∀i∈t.fp,i∉bE r vcl vo'++bU q.b pl' q.nm q.vv:=fun t ht i hi=>hG.ev.nin (h.told ht i hi).1 (n2 t ht i hi)
 refine ⟨hG.mc,hG.bd,hG.bk,h.tv.chg hG.ev.c n1,h.ln,fun j t y h1 h2=> ?_,fun i hi=>⟨fun u=>k1 i u (List.mem_append_left _ hi),hG.dj i hi,fun t ht u=>k2 t ht i u (List.mem_append_left _ hi)⟩,fun i hi=>⟨fun u=>k1 i hi (List.mem_append_right _ u),(h.d1 i hi).2⟩,fun i hi t ht u=>k2 t ht i u (List.mem_append_right _ hi),h.d3,hG.zk,hG.ol⟩
 obtain ⟨u1,u2⟩:=h.tb j t y h1 h2
 exact ⟨u1.ev hG.ev (n2 t (List.mem_of_getElem? h1)) hF,u2⟩
theorem RunG.thread (h:RunG f mk p B m r x o vcl vo vth q bs) {k:Nat} {t:Bl} (hk:bs[k]? =some t) {vo' pl':NV} {y:Bd} {z:Mc} {o':Nat} (hG:ct f mk B m m' p.cs (locals (dk p k)) r t.b (bE r vcl vo++t.fp) vcl vo' pl' t.nm t.vv y z o'):
 RunG f mk p B m' r ⟨x.ph,x.rc,x.th.set k y,z⟩ o' vcl vo' vth q (bs.set k ⟨t.b,pl',t.nm,t.vv⟩):=by
 have ht:=List.mem_of_getElem? hk
 have hkl:=(List.getElem?_eq_some_iff.1 hk).1
 have hF:∀i∈bE r vcl vo++t.fp,¬ak B i:=fun i hi=>(List.mem_append.1 hi).elim (fun u=>(h.mc.old i u).2) fun u=>(h.told ht i u).2
 have n1:∀i∈ids vth,i∉bE r vcl vo++t.fp:=fun i hi u=>(List.mem_append.1 u).elim (fun u=>(h.d0 i u).1 hi) ((h.d1 i hi).2 t ht)
 have n2:∀i∈q.fp,i∉bE r vcl vo++t.fp:=fun i hi u=>(List.mem_append.1 u).elim (fun u=>(h.d0 i u).2.1 hi) fun u=>h.d2 i hi t ht u
 have n3:∀(j:Nat) (u:Bl),bs[j]? =some u->j≠k->∀i∈u.fp,i∉bE r vcl vo++t.fp:=fun j u hj hne i hi w=>(List.mem_append.1 w).elim (fun w=>(h.d0 i w).2.2 u (List.mem_of_getElem? hj) hi) fun w=>h.d3 j k u t hj hk hne i hi w
 have k1:∀i∈ids vth,i∉bE r vcl vo'++bU t.b pl' t.nm t.vv:=fun i hi=>hG.ev.nin (h.tv.sl.old i hi) (n1 i hi)
 have k2:∀i∈q.fp,i∉bE r vcl vo'++bU t.b pl' t.nm t.vv:=fun i hi=>hG.ev.nin (h.rb.old i hi).1 (n2 i hi)
 have k3:∀(j:Nat) (u:Bl),bs[j]? =some u->j≠k->∀i∈u.fp,i∉bE r vcl vo'++bU t.b pl' t.nm t.vv:=fun j u hj hne i hi=>hG.ev.nin (h.told (List.mem_of_getElem? hj) i hi).1 (n3 j u hj hne i hi)
 have hset:∀(j:Nat) (u:Bl),(bs.set k ⟨t.b,pl',t.nm,t.vv⟩)[j]? =some u->(j=k/\u=⟨t.b,pl',t.nm,t.vv⟩)∨(j≠k/\bs[j]? =some u):=fun j u hj=>by
  by_cases e:j=k
  ·subst e;rw[List.getElem?_set_self hkl] at hj;cases hj;exact Or.inl ⟨rfl,rfl⟩
  ·rw[List.getElem?_set_ne (fun a=>e a.symm)] at hj;exact Or.inr ⟨e,hj⟩
 have hmem:∀u∈bs.set k ⟨t.b,pl',t.nm,t.vv⟩,u=⟨t.b,pl',t.nm,t.vv⟩∨∃j,j≠k/\bs[j]? =some u:=fun u hu=>by
  obtain ⟨j,hj⟩:=List.mem_iff_getElem?.1 hu
  rcases hset j u hj with ⟨-,e⟩|⟨e1,e2⟩
  ·exact Or.inl e
  ·exact Or.inr ⟨j,e1,e2⟩
 refine ⟨hG.mc,h.rb.ev hG.ev n2 hF,h.rk, ?_,by simp[h.ln],fun j u w h1 h2=> ?_,fun i hi=>⟨fun u=>k1 i u (List.mem_append_left _ hi),fun u=>k2 i u (List.mem_append_left _ hi),fun u hu w=> ?_⟩,fun i hi=>⟨(h.d1 i hi).1,fun u hu w=> ?_⟩,fun i hi u hu w=> ?_,fun j l u w h1 h2 hne i hi hw=> ?_,hG.zk,hG.ol⟩
 ·have:=h.tv.chg hG.ev.c n1
  have e:(bs.set k ⟨t.b,pl',t.nm,t.vv⟩).map (fun t=> [NV.ptr t.b 0])=bs.map fun t=> [NV.ptr t.b 0]:=by
   rw[List.map_set]
   apply List.ext_getElem?
   intro j
   by_cases e:j=k
   ·subst e;rw[List.getElem?_set_self (by simpa using hkl),List.getElem?_map,hk];rfl
   ·rw[List.getElem?_set_ne (fun a=>e a.symm)]
  rw[e];exact this
 ·rcases hset j u h1 with ⟨e,rfl⟩|⟨e,h1⟩
  ·subst e
   rw[List.getElem?_set_self (by rw[h.ln.2,←h.ln.1];exact hkl)] at h2
   cases h2
   exact ⟨hG.bd,hG.bk⟩
  ·rw[List.getElem?_set_ne (fun a=>e a.symm)] at h2
   obtain ⟨u1,u2⟩:=h.tb j u w h1 h2
   exact ⟨u1.ev hG.ev (n3 j u h1 e) hF,u2⟩
 ·rcases hmem u hu with rfl|⟨j,e1,e2⟩
  ·exact hG.dj i hi w
  ·exact k3 j u e2 e1 i w (List.mem_append_left _ hi)
 ·rcases hmem u hu with rfl|⟨j,e1,e2⟩
  ·exact k1 i hi (List.mem_append_right _ w)
  ·exact (h.d1 i hi).2 u (List.mem_of_getElem? e2) w
 ·rcases hmem u hu with rfl|⟨j,e1,e2⟩
  ·exact k2 i hi (List.mem_append_right _ w)
  ·exact h.d2 i hi u (List.mem_of_getElem? e2) w
 ·rcases hset j u h1 with ⟨e,rfl⟩|⟨e,h1⟩
  ·rcases hset l w h2 with ⟨e',-⟩|⟨e',h2⟩
   ·omega
   ·exact k3 l w h2 e' i hw (List.mem_append_right _ hi)
  ·rcases hset l w h2 with ⟨e',rfl⟩|⟨e',h2⟩
   ·exact k3 j u h1 e i hi (List.mem_append_right _ hw)
   ·exact h.d3 j l u w h1 h2 hne i hi hw
theorem RunG.grow (h:RunG f mk p B m r x o vcl vo vth q bs) (hC:Chg [] m m'):RunG f mk p B m' r x o vcl vo vth q bs:=
 ⟨h.mc.grow hC,h.rb.grow hC,h.rk,h.tv.chg hC fun _ _=>by simp,h.ln,fun j t y h1 h2=>⟨(h.tb j t y h1 h2).1.grow hC,(h.tb j t y h1 h2).2⟩,h.d0,h.d1,h.d2,h.d3,h.zk,h.ol⟩
theorem EvF.sup {F F' G G':List D4} (h:EvF F F' m m') (h1:∀i∈F,i∈G) (h2:∀j∈G',j∈G∨j∈F'):EvF G G' m m':=
 ⟨h.c.weak fun i hi _=>h1 i hi,fun j hj=>(h2 j hj).elim Or.inl fun q=>(h.f j q).imp (h1 j) id⟩
theorem RunG.evR {pl' vo' nm' vv':NV} {b':D4} (h:EvF (bE r vcl vo++q.fp) (bE r vcl vo'++bU b' pl' nm' vv') m m'):EvF (RunG.foot r vcl vo vth q bs) (RunG.foot r vcl vo' vth ⟨b',pl',nm',vv'⟩ bs) m m':=by
 refine h.sup (fun i hi=> ?_) fun j hj=> ?_
 ·simp only[RunG.foot,List.mem_append] at hi ⊢
  rcases hi with hi|hi
  ·exact Or.inl hi
  ·exact Or.inr (Or.inr (Or.inl hi))
 ·simp only[RunG.foot,List.mem_append] at hj ⊢
  rcases hj with hj|hj|hj|hj
  ·exact Or.inr (Or.inl hj)
  ·exact Or.inl (Or.inr (Or.inl hj))
  ·exact Or.inr (Or.inr hj)
  ·exact Or.inl (Or.inr (Or.inr (Or.inr hj)))
theorem RunG.evT {pl' vo' nm' vv':NV} {b':D4} {k:Nat} {t:Bl} (hk:bs[k]? =some t) (h:EvF (bE r vcl vo++t.fp) (bE r vcl vo'++bU b' pl' nm' vv') m m'):EvF (RunG.foot r vcl vo vth q bs) (RunG.foot r vcl vo' vth q (bs.set k ⟨b',pl',nm',vv'⟩)) m m':=by
 refine h.sup (fun i hi=> ?_) fun j hj=> ?_
 ·simp only[RunG.foot,List.mem_append] at hi ⊢
  rcases hi with hi|hi
  ·exact Or.inl hi
  ·exact Or.inr (Or.inr (Or.inr (List.mem_flatten.2 ⟨_,List.mem_map_of_mem (List.mem_of_getElem? hk),hi⟩)))
 ·simp only[RunG.foot,List.mem_append] at hj ⊢
  rcases hj with hj|hj|hj|hj
  ·exact Or.inr (Or.inl hj)
  ·exact Or.inl (Or.inr (Or.inl hj))
  ·exact Or.inl (Or.inr (Or.inr (Or.inl hj)))
  ·obtain ⟨l,hl,hj⟩:=List.mem_flatten.1 hj
   obtain ⟨u,hu,rfl⟩:=List.mem_map.1 hl
   rcases List.mem_or_eq_of_mem_set hu with hu|rfl
   ·exact Or.inl (Or.inr (Or.inr (Or.inr (List.mem_flatten.2 ⟨_,List.mem_map_of_mem hu,hj⟩))))
   ·exact Or.inr (Or.inr hj)
theorem RunG.evM (h:EvF (bE r vcl vo) (bE r vcl vo) m m'):EvF (RunG.foot r vcl vo vth q bs) (RunG.foot r vcl vo vth q bs) m m':=
 h.sup (fun i hi=>by simp only[RunG.foot,List.mem_append];exact Or.inl hi) fun j hj=>Or.inl hj
theorem RunG.all (h:RunG f mk p B m r x o vcl vo vth q bs):∀i∈RunG.foot r vcl vo vth q bs,ak m i/\¬ak B i:=by
 intro i hi
 simp only[RunG.foot,List.mem_append] at hi
 rcases hi with hi|hi|hi|hi
 ·exact h.mc.old i hi
 ·exact ⟨h.tv.sl.old i hi,h.tv.new i hi⟩
 ·exact h.rb.old i hi
 ·obtain ⟨l,hl,hj⟩:=List.mem_flatten.1 hi
  obtain ⟨u,hu,rfl⟩:=List.mem_map.1 hl
  exact h.told hu i hj
theorem RunG.evS {t:Bl} {vth':NV} (hC:Chg [] m m') {m'':NH} (hC2:Chg (r::ids vth) m' m'') (hvn:∀i∈ids vth',i∈ids vth∨¬ak m' i) (hnew:∀i∈t.fp,¬ak m i):EvF (RunG.foot r vcl vo vth q bs) (RunG.foot r vcl vo vth' q (bs++ [t])) m m'':=by
 refine ⟨(hC.weak (T:=RunG.foot r vcl vo vth q bs) (by simp)).trans hC2 fun i hi _=> ?_,fun j hj=> ?_⟩
 ·simp only[RunG.foot,List.mem_append]
  rcases List.mem_cons.1 hi with rfl|hi
  ·exact Or.inl (by simp[bE])
  ·exact Or.inr (Or.inl hi)
 ·simp only[RunG.foot,List.mem_append,List.map_append,List.flatten_append,List.map_cons,List.map_nil,List.flatten_cons,List.flatten_nil,List.append_nil] at hj ⊢
  rcases hj with hj|hj|hj|hj|hj
  ·exact Or.inl (Or.inl hj)
  ·exact (hvn j hj).imp (fun q=>Or.inr (Or.inl q)) fun q w=>q (hC.old w)
  ·exact Or.inl (Or.inr (Or.inr (Or.inl hj)))
  ·exact Or.inl (Or.inr (Or.inr (Or.inr hj)))
  ·exact Or.inr (hnew j hj)
theorem RunG.ev0 {m'':NH} (hC:Chg [] m m') (e:EvF (bE r vcl vo) (bE r vcl vo) m' m'') (hnew:∀i∈q.fp,¬ak m i):EvF (bE r vcl vo) (RunG.foot r vcl vo .nils q []) m m'':=by
 refine ⟨(e.pre hC).c,fun j hj=> ?_⟩
 simp only[RunG.foot,List.mem_append,ids,List.map_nil,List.flatten_nil,Qs,or_false,false_or] at hj
 exact hj.imp id (hnew j)
theorem RunG.off {S:List D4} (h:RunG f mk p B m r x o vcl vo vth q bs) (hC:Chg S m m') (hS:∀i∈RunG.foot r vcl vo vth q bs,i∉S) (hB:∀i∈S,¬ak B i):RunG f mk p B m' r x o vcl vo vth q bs:=by
 have k1:∀i∈bE r vcl vo,i∉S:=fun i hi=>hS i (by simp only[RunG.foot,List.mem_append];exact Or.inl hi)
 have k2:∀i∈ids vth,i∉S:=fun i hi=>hS i (by simp only[RunG.foot,List.mem_append];exact Or.inr (Or.inl hi))
 have k3:∀i∈q.fp,i∉S:=fun i hi=>hS i (by simp only[RunG.foot,List.mem_append];exact Or.inr (Or.inr (Or.inl hi)))
 have k4:∀t∈bs,∀i∈t.fp,i∉S:=fun t ht i hi=>hS i (by simp only[RunG.foot,List.mem_append];exact Or.inr (Or.inr (Or.inr (List.mem_flatten.2 ⟨_,List.mem_map_of_mem ht,hi⟩))))
 exact ⟨h.mc.off hC k1 hB,h.rb.off hC k3 hB,h.rk,h.tv.chg hC k2,h.ln,fun j t y h1 h2=>⟨(h.tb j t y h1 h2).1.off hC (k4 t (List.mem_of_getElem? h1)) hB,(h.tb j t y h1 h2).2⟩,h.d0,h.d1,h.d2,h.d3,h.zk,h.ol⟩
end
theorem Oe {cs:List (List Nat×Int)} {ns:List (List Nat)}:∀(k:Nat) (x:Bd) (z:Mc),(qX cs ns k x z).1=false->(qX cs ns k x z).2.1.s≠0:=by
 intro k
 induction k with
 |zero=>
  intro x z h
  rw[qX] at h ⊢
  split<;>simp
 |succ k ih=>
  intro x z h
  rw[qX] at h ⊢
  split
  ·simp
  ·rename_i y K hT
   simp only[hT] at h
   split
   ·rename_i hA;rw[Qp hA] at h;cases h
   ·rename_i hA;rw[Qo hA] at h;exact ih _ _ h
theorem rP {cs:List (List Nat×Int)} {ns:List (List Nat)} {x:Bd} {z:Mc} (h:(bV cs ns x z).1=false):(bV cs ns x z).2.1.s≠0:=by
 unfold bV at h ⊢
 split
 ·rename_i hs;rw[Qp hs] at h;exact Oe _ _ _ h
 ·assumption
section
variable {f f':NV->NV->Bool->List NV} {mk:NV->NV->NV->Int->List NV} {p:Prg} {B m m':NH} {vc vt vr vcl vo vth:NV} {r:D4} {x:Rn} {o:Nat} {q:Bl} {bs:List Bl}
theorem Mac.refit {z:Mc} (h:Mac f B m r vcl vo z) (hg:m'.get r=some (.cells true (f' vcl vo z.ill))) (hC:Chg [r] m m'):Mac f' B m' r vcl vo z/\EvF (bE r vcl vo) (bE r vcl vo) m m':=by
 have hn:∀{v:NV},r∉ids v->∀i∈ids v,i∉ [r]:=fun hb i hi q=>by have q:=one q;subst q;exact hb hi
 exact ⟨⟨hg,hC.old h.o,h.nB,h.cl.chg hC (hn h.d.1),h.ou.chg hC (hn h.d.2.1),h.d,h.c.trans hC fun i hi ho=>by have hi:=one hi;subst hi;exact Qn ho h.nB⟩,hC.weak fun i hi _=>by have hi:=one hi;subst hi;simp[bE],fun j hj=>Or.inl hj⟩
theorem RunG.start (h:RunG f mk p B m r x o vcl vo vth q bs) (ph:Bool) (hg:m'.get r=some (.cells true (f' vcl vo x.z.ill))) (hC:Chg [r] m m'):RunG f' mk p B m' r ⟨ph,x.rc,x.th,x.z⟩ o vcl vo vth q bs/\EvF (RunG.foot r vcl vo vth q bs) (RunG.foot r vcl vo vth q bs) m m':=by
 obtain ⟨h1,h2⟩:=h.mc.refit (f':=f') hg hC
 have hF:∀i∈bE r vcl vo,¬ak B i:=fun i hi=>(h.mc.old i hi).2
 exact ⟨⟨h1,h.rb.ev h2 (fun i hi u=>(h.d0 i u).2.1 hi) hF,h.rk,h.tv.chg h2.c fun i hi u=>(h.d0 i u).1 hi,h.ln,fun j t y a b=>⟨(h.tb j t y a b).1.ev h2 (fun i hi u=>(h.d0 i u).2.2 t (List.mem_of_getElem? a) hi) hF,(h.tb j t y a b).2⟩,h.d0,h.d1,h.d2,h.d3,h.zk,h.ol⟩,RunG.evM h2⟩
theorem RunG.goR (h:RunG f mk p B m r x o vcl vo vth q bs):ct f mk B m m p.cs (locals p.r) r q.b (bE r vcl vo++q.fp) vcl vo q.pl q.nm q.vv x.rc x.z o:=
 ⟨h.mc,h.rb,fun i hi=>(h.d0 i hi).2.1,h.rk,h.zk,h.ol,EvF.refl m⟩
theorem RunG.goT (h:RunG f mk p B m r x o vcl vo vth q bs) {k:Nat} {t:Bl} {y:Bd} (h1:bs[k]? =some t) (h2:x.th[k]? =some y):ct f mk B m m p.cs (locals (dk p k)) r t.b (bE r vcl vo++t.fp) vcl vo t.pl t.nm t.vv y x.z o:=
 ⟨h.mc,(h.tb k t y h1 h2).1,fun i hi=>(h.d0 i hi).2.2 t (List.mem_of_getElem? h1),(h.tb k t y h1 h2).2,h.zk,h.ol,EvF.refl m⟩
theorem DE (hc:RunC p B vc vt vr) (ho:o<=1000000) (h:iF p B vc vt vr m r x o vcl vo vth q bs) {k:Nat} (hk:k<x.th.length):
 ∃t,bs[k]? =some t/\(∃id off w c,fV 1 vth (ii (k:Nat))= .val (.ptr id off)/\m.get id=some (.cells w c)/\c[off]? =some (.ptr t.b 0))/\∃m',bc Try.prog S0 74 [.ptr r 0,.ptr t.b 0] m (ii (if (bV p.cs (locals (dk p k)) ((x.th[k]?).getD (fU [])) x.z).1=true then 0 else (bV p.cs (locals (dk p k)) ((x.th[k]?).getD (fU [])) x.z).2.1.s)) m'/\∃vo' bs',iF p B vc vt vr m' r ⟨x.ph,x.rc,x.th.set k (bV p.cs (locals (dk p k)) ((x.th[k]?).getD (fU [])) x.z).2.1,(bV p.cs (locals (dk p k)) ((x.th[k]?).getD (fU [])) x.z).2.2⟩ (o+1) vcl vo' vth q bs'/\EvF (RunG.foot r vcl vo vth q bs) (RunG.foot r vcl vo' vth q bs') m m':=by
 have hkb:k<bs.length:=by rw[h.ln.1,←h.ln.2];exact hk
 have h1:=List.getElem?_eq_getElem hkb
 have h2:=List.getElem?_eq_getElem hk
 obtain ⟨id,off,w,c,a1,a2,a3,a4,a5⟩:=h.tv.sl.at k (by simpa using hkb)
 rw[List.getElem_map] at a5
 rw[h2]
 simp only[Option.getD_some]
 obtain ⟨m1,r1,vo',pl',hG⟩:=HY hc.rp.c hc.cs ho (h.goT h1 h2)
 exact ⟨bs[k],h1,⟨id,off,w,c,a1,a2,aA a5 0 (by omega)⟩,m1,r1,vo',_,h.thread h1 hG,RunG.evT h1 hG.ev⟩
theorem Js (hc:RunC p B vc vt vr) (ho:o+1<=1000000) (h:iF p B vc vt vr m r x o vcl vo vth q bs) (c:Int):
 ∃m',bc Try.prog S0 37 [.ptr r 0,ii c] m (.bool (jH p c x).1) m'/\∃vo' q' bs',iF p B vc vt vr m' r (jH p c x).2 (o+2) vcl vo' vth q' bs'/\EvF (RunG.foot r vcl vo vth q bs) (RunG.foot r vcl vo' vth q' bs') m m':=by
 refine WF.ex1 fun K' hK'=> ?_
 refine WF.of_wpG (fun _=>rfl) yw (L:= [(.a .e,ii c),(.e,.ptr r 0)]) rfl ?_
 unfold J5
 have g:=h.mc.g
 have hlen:=h.tv.sl.len
 rw[List.length_map,h.ln.1,←h.ln.2] at hlen
 have more:∀{x:Rn} {o o':Nat} {vo:NV} {q:Bl} {bs:List Bl} {m:NH},o<=o'->iF p B vc vt vr m r x o vcl vo vth q bs->iF p B vc vt vr m r x o' vcl vo vth q bs:=fun ho h=>⟨h.mc,h.rb,h.rk,h.tv,h.ln,h.tb,h.d0,h.d1,h.d2,h.d3,h.zk,Nat.le_trans h.ol ho⟩
 have hnt:=hc.nt
 have hln:=h.ln.2
 unfold jH at hK'
 by_cases hph:x.ph=true
 ·obtain ⟨ph,rc,th,z⟩:=x
  simp only at hph hK' hlen hln g
  subst hph
  simp only[if_true] at hK'
  unfold BK at hK'
  by_cases hcc:0<=c/\c<th.length
  ·simp only[Qp hcc] at hK'
   obtain ⟨k,rfl⟩:=Qv hcc.1
   simp only[Int.toNat_natCast] at hK'
   obtain ⟨t,ht,⟨id,off,w,cc,a1,a2,a3⟩,m1,r1,vo1,bs1,h1,e1⟩:=DE hc (by omega) h (k:=k) (by simpa using hcc.2)
   simp only at r1 h1
   rw[aa]
   cases hb:(bV p.cs (locals (dk p k)) ((th[k]?).getD (fU [])) z).1 with
   |true=>
    rw[hb] at r1 hK'
    simp only[if_true] at r1
    simp (disch:=first|assumption|omega) only[go_sem,seval,g,hlen,a1,a2,a3,r1.wf']
    exact hK' _ ⟨vo1,q,bs1,more (by omega) h1,e1⟩
   |false=>
    have hs:=rP hb
    rw[hb] at r1 hK'
    simp only[reduceCtorEq,if_false] at r1
    simp (disch:=first|assumption|omega) only[go_sem,seval,g,hlen,a1,a2,a3,r1.wf']
    exact hK' _ ⟨vo1,q,bs1,more (by omega) h1,e1⟩
  ·simp only[Qo hcc] at hK'
   rw[aa]
   by_cases h0:0<=c
   ·have h3:¬c<th.length:=fun q=>hcc ⟨h0,q⟩
    simp (disch:=first|assumption|omega) only[go_sem,seval,g,hlen]
    exact hK' _ ⟨vo,q,bs,more (by omega) h,EvF.refl m⟩
   ·simp (disch:=first|assumption|omega) only[go_sem,seval,g,hlen]
    exact hK' _ ⟨vo,q,bs,more (by omega) h,EvF.refl m⟩
 ·have hph:x.ph=false:=by simpa using hph
  simp only[hph,Bool.false_eq_true,if_false] at hK'
  obtain ⟨m1,r1,vo1,pl1,hG⟩:=HY hc.rp.c hc.cs (by omega) h.goR
  have h1:=h.recov hG
  have e1:EvF (RunG.foot r vcl vo vth q bs) (RunG.foot r vcl vo1 vth ⟨q.b,pl1,q.nm,q.vv⟩ bs) m m1:=RunG.evR hG.ev
  rw[hph] at h1 g
  have h1:iF p B vc vt vr m1 r ⟨false,(bV p.cs (locals p.r) x.rc x.z).2.1,x.th,(bV p.cs (locals p.r) x.rc x.z).2.2⟩ (o+1) vcl vo1 vth ⟨q.b,pl1,q.nm,q.vv⟩ bs:=h1
  rw[aa]
  cases hb:(bV p.cs (locals p.r) x.rc x.z).1 with
  |true=>
   rw[hb] at r1
   simp only[if_true] at r1
   rw[Qp hb] at hK'
   simp (disch:=first|assumption|omega) only[go_sem,seval,g,r1.wf']
   exact hK' _ ⟨vo1,⟨q.b,pl1,q.nm,q.vv⟩,bs,more (o:=o+1) (o':=o+2) (by omega) h1,e1⟩
  |false=>
   have hs:=rP hb
   rw[hb] at r1
   simp only[reduceCtorEq,if_false] at r1
   rw[Qo (by rw[hb];simp)] at hK'
   by_cases h2:(bV p.cs (locals p.r) x.rc x.z).2.1.s=2
   ·rw[Qp h2] at hK'
    rw[h2] at r1
    simp (disch:=first|assumption|omega) only[go_sem,seval,g,r1.wf']
    exact hK' _ ⟨vo1,⟨q.b,pl1,q.nm,q.vv⟩,bs,more (o:=o+1) (o':=o+2) (by omega) h1,e1⟩
   ·rw[Qo h2] at hK'
    have g1:=h1.mc.g
    have oM:=h1.mc.o
    simp only at g1
    generalize bV p.cs (locals p.r) x.rc x.z=R at *
    obtain ⟨R1,rc,z⟩:=R
    simp only at *
    have hmM:∃M,M=hp [(.o r,.cells true (fP vc vt vr (.ptr q.b 0) vth true vcl vo1 z.ill))] 0 m1:=⟨_,rfl⟩
    obtain ⟨M,hM⟩:=hmM
    have hqe:iF p B vc vt vr M r ⟨true,rc,x.th,z⟩ (o+1) vcl vo1 vth ⟨q.b,pl1,q.nm,q.vv⟩ bs/\EvF (RunG.foot r vcl vo1 vth ⟨q.b,pl1,q.nm,q.vv⟩ bs) (RunG.foot r vcl vo1 vth ⟨q.b,pl1,q.nm,q.vv⟩ bs) m1 M:=h1.start (f':=fP vc vt vr (.ptr q.b 0) vth true) (m':=M) true (by rw[hM];exact (aG oM).trans ao) (by rw[hM];exact (cI _ _ _).weak (by simp[aB]))
    obtain ⟨hq,eS⟩:=hqe
    have eM:=e1.trans eS
    have gM:=hq.mc.g
    have hlenM:=hq.tv.sl.len
    rw[List.length_map,hq.ln.1,←hq.ln.2] at hlenM
    unfold BK at hK'
    by_cases hcc:0<=c/\c<x.th.length
    ·simp only[Qp hcc] at hK'
     obtain ⟨k,rfl⟩:=Qv hcc.1
     simp only[Int.toNat_natCast] at hK'
     obtain ⟨t,ht,⟨id,off,w,cc,a1,a2,a3⟩,m2,r2,vo2,bs2,h2',e2⟩:=DE hc (by omega) hq (k:=k) (by simpa using hcc.2)
     simp only at r2 h2'
     cases hb2:(bV p.cs (locals (dk p k)) ((x.th[k]?).getD (fU [])) z).1 with
     |true=>
      rw[hb2] at r2 hK'
      simp only[if_true] at r2
      simp (disch:=first|assumption|omega|(simp only[aI]<;>omega)) only[go_sem,seval,g,r1.wf,g1,hM.symm,gM,hlenM,a1,a2,a3,r2.wf']
      exact hK' _ ⟨vo2,_,bs2,more (by omega) h2',eM.trans e2⟩
     |false=>
      have hs2:=rP hb2
      rw[hb2] at r2 hK'
      simp only[reduceCtorEq,if_false] at r2
      simp (disch:=first|assumption|omega|(simp only[aI]<;>omega)) only[go_sem,seval,g,r1.wf,g1,hM.symm,gM,hlenM,a1,a2,a3,r2.wf']
      exact hK' _ ⟨vo2,_,bs2,more (by omega) h2',eM.trans e2⟩
    ·simp only[Qo hcc] at hK'
     by_cases h0:0<=c
     ·have h3:¬c<x.th.length:=fun q=>hcc ⟨h0,q⟩
      simp (disch:=first|assumption|omega|(simp only[aI]<;>omega)) only[go_sem,seval,g,r1.wf,g1,hM.symm,gM,hlenM]
      exact hK' _ ⟨vo1,_,bs,more (by omega) hq,eM⟩
     ·simp (disch:=first|assumption|omega|(simp only[aI]<;>omega)) only[go_sem,seval,g,r1.wf,g1,hM.symm,gM,hlenM]
      exact hK' _ ⟨vo1,_,bs,more (by omega) hq,eM⟩
end
section
variable {f f':NV->NV->Bool->List NV} {mk:NV->NV->NV->Int->List NV} {p:Prg} {B m m' m'':NH} {vc vt vr vcl vo vth rec:NV} {r:D4} {x:Rn} {z:Mc} {o:Nat} {q:Bl} {bs:List Bl} {st:Bool}
theorem sa {cs:List (List Nat×Int)} {l:List Stm} (hz:cz l<=400000) (hg:∀s∈l,Gs cs s):BdOk cs (locals l) (fU l):=by
 have:=lT l
 refine ⟨by show cz l<=1000000;omega,fun y hy=> ?_,fun y hy=> ?_,fun y hy=> ?_,by omega,by simp[fU]⟩
 ·simp only[fU,List.mem_singleton] at hy;subst hy;exact hg
 ·simp only[fU,List.mem_singleton] at hy;subst hy;exact Nat.zero_le _
 ·simp only[fU,List.mem_replicate] at hy;rw[hy.2];exact ⟨by simp,by simp⟩
theorem RunG.snoc {cs:List (List Nat×Int)} {ts:List (List Nat×List Stm)} {rr:List Stm} {n:List Nat} {l:List Stm} {t:Bl} {vth':NV} (h:RunG f mk ⟨cs,ts,rr⟩ B m r x o vcl vo vth q bs) (hC:Chg [] m m') (ht:Bod mk B m' t.b t.pl t.nm t.vv (locals l) (fU l)) (hk:BdOk cs (locals l) (fU l)) (hnew:∀i∈t.fp,¬ak m i)
 (hC2:Chg (r::ids vth) m' m'') (hg:m''.get r=some (.cells true (f' vcl vo x.z.ill))) (hv:aV B m'' vth' 1 ((bs++ [t]).map fun t=> [.ptr t.b 0])) (hvn:∀i∈ids vth',i∈ids vth∨¬ak m' i):
 RunG f' mk ⟨cs,ts++ [(n,l)],rr⟩ B m'' r ⟨x.ph,x.rc,x.th++ [fU l],x.z⟩ o vcl vo vth' q (bs++ [t]):=by
 have h':=h.grow hC
 have hF:∀i∈r::ids vth,¬ak B i:=fun i hi=>(List.mem_cons.1 hi).elim (fun e=>e▸h.mc.nB) fun u=>h.tv.new i u
 have nt:∀i,ak m i->i∉t.fp:=fun i ho hi=>hnew i hi ho
 have hvo:∀i∈ids vth,ak m i:=h.tv.sl.old
 have hr:=h.mc.o
 have nr:∀i∈ids vcl,i∉r::ids vth:=fun i hi u=>(List.mem_cons.1 u).elim (fun e=>h.mc.d.1 (e▸hi)) fun u=>(h.d0 i (by simp[bE,hi])).1 u
 have nr2:∀i∈ids vo,i∉r::ids vth:=fun i hi u=>(List.mem_cons.1 u).elim (fun e=>h.mc.d.2.1 (e▸hi)) fun u=>(h.d0 i (by simp[bE,hi])).1 u
 have nq:∀i∈q.fp,i∉r::ids vth:=fun i hi u=>(List.mem_cons.1 u).elim (fun e=>(h.d0 r (by simp[bE])).2.1 (e▸hi)) fun u=>(h.d1 i u).1 hi
 have nb:∀u∈bs,∀i∈u.fp,i∉r::ids vth:=fun u hu i hi w=>(List.mem_cons.1 w).elim (fun e=>(h.d0 r (by simp[bE])).2.2 u hu (e▸hi)) fun w=>(h.d1 i w).2 u hu hi
 have ntf:∀i∈t.fp,i∉r::ids vth:=fun i hi u=>(List.mem_cons.1 u).elim (fun e=>hnew i hi (e▸hr)) fun u=>hnew i hi (hvo i u)
 have hto:∀i∈t.fp,ak m' i:=fun i hi=>(ht.old i hi).1
 have hMo:∀i∈bE r vcl vo,ak m i:=fun i hi=>(h.mc.old i hi).1
 have hqo:∀i∈q.fp,ak m i:=fun i hi=>(h.rb.old i hi).1
 have hbo:∀u∈bs,∀i∈u.fp,ak m i:=fun u hu i hi=>(h.told hu i hi).1
 have hbt:∀(j:Nat),j<ts.length->dk ⟨cs,ts++ [(n,l)],rr⟩ j=dk ⟨cs,ts,rr⟩ j:=fun j hj=>by unfold dk;simp only;rw[List.getElem?_append_left hj]
 have hln:=h.ln
 simp only at hln
 refine ⟨⟨hg,hC2.old h'.mc.o,h.mc.nB,h'.mc.cl.chg hC2 nr,h'.mc.ou.chg hC2 nr2,h.mc.d,h'.mc.c.trans hC2 fun i hi ho=>Qn ho (hF i hi)⟩,h'.rb.off hC2 nq hF,h.rk,hv,by simp[hln],fun j u y h1 h2=> ?_,fun i hi=>⟨fun u=>(hvn i u).elim (h.d0 i hi).1 fun w=>w (hC.old (hMo i hi)),(h.d0 i hi).2.1,fun u hu=> ?_⟩,fun i hi=>⟨fun u=>(hvn i hi).elim (fun w=>(h.d1 i w).1 u) fun w=>w (hC.old (hqo i u)),fun u hu w=> ?_⟩,fun i hi u hu=> ?_,fun j k u w h1 h2 hne i hi hw=> ?_,h.zk,h.ol⟩
 ·by_cases hj:j<bs.length
  ·rw[List.getElem?_append_left hj] at h1
   simp only at h2
   rw[List.getElem?_append_left (by omega)] at h2
   rw[hbt j (by omega)]
   obtain ⟨a,b⟩:=h'.tb j u y h1 h2
   exact ⟨a.off hC2 (nb u (List.mem_of_getElem? h1)) hF,b⟩
  ·rw[List.getElem?_append_right (by omega)] at h1
   simp only at h2
   rw[List.getElem?_append_right (by omega)] at h2
   have hl:=(List.getElem?_eq_some_iff.1 h1).1
   simp only[List.length_singleton] at hl
   have e:j=bs.length:=by omega
   subst e
   rw[show bs.length - x.th.length=0 by omega] at h2
   rw[Nat.sub_self] at h1
   cases h1;cases h2
   have eb:dk ⟨cs,ts++ [(n,l)],rr⟩ bs.length=l:=by unfold dk;simp[hln.1]
   rw[eb]
   exact ⟨ht.off hC2 ntf hF,hk⟩
 ·rcases List.mem_append.1 hu with hu|hu
  ·exact (h.d0 i hi).2.2 u hu
  ·rw[List.mem_singleton] at hu;subst hu;exact nt i (hMo i hi)
 ·rcases List.mem_append.1 hu with hu|hu
  ·exact (hvn i hi).elim (fun a=>(h.d1 i a).2 u hu w) fun a=>a (hC.old (hbo u hu i w))
  ·rw[List.mem_singleton] at hu;subst hu
   exact (hvn i hi).elim (fun a=>hnew i w (hvo i a)) fun a=>a (hto i w)
 ·rcases List.mem_append.1 hu with hu|hu
  ·exact h.d2 i hi u hu
  ·rw[List.mem_singleton] at hu;subst hu;exact nt i (hqo i hi)
 ·have key:∀(j:Nat) (u:Bl),(bs++ [t])[j]? =some u->bs[j]? =some u∨(j=bs.length/\u=t):=fun j u hj=>by
   by_cases hl:j<bs.length
   ·rw[List.getElem?_append_left hl] at hj;exact Or.inl hj
   ·rw[List.getElem?_append_right (by omega)] at hj
    have hl2:=(List.getElem?_eq_some_iff.1 hj).1
    simp only[List.length_singleton] at hl2
    have e:j=bs.length:=by omega
    subst e
    rw[Nat.sub_self] at hj
    cases hj
    exact Or.inr ⟨rfl,rfl⟩
  rcases key j u h1 with a|⟨a,rfl⟩
  ·rcases key k w h2 with b|⟨b,rfl⟩
   ·exact h.d3 j k u w a b hne i hi hw
   ·exact nt i (hbo u (List.mem_of_getElem? a) i hi) hw
  ·rcases key k w h2 with b|⟨b,rfl⟩
   ·exact nt i (hbo w (List.mem_of_getElem? b) i hw) hi
   ·omega
theorem tD (hc:RunC p B vc vt vr) (h:Mac (fP vc vt vr rec vth st) B m r vcl vo z) (hz:McOk p.cs z) (ho:z.out.length<=o):
 ∃m',bc Try.prog S0 73 [.ptr r 0] m (.tup []) m'/\∃vth' q bs,iF p B vc vt vr m' r (lu p z) o vcl vo vth' q bs/\EvF (bE r vcl vo) (RunG.foot r vcl vo vth' q bs) m m':=by
 refine WF.ex1 fun K' hK'=> ?_
 refine WF.of_wpG (fun _=>rfl) y7 (L:= [(.e,.ptr r 0)]) rfl ?_
 unfold Ke
 obtain ⟨CR,hR⟩:=hc.rp.r
 obtain ⟨CT,hT⟩:=hc.rp.t
 have hzr:=hc.zr
 have hnt:=hc.nt
 have g:=h.g
 obtain ⟨w,m1,r1,b,pl,nm,vv,rfl,hb,hC1,hnew⟩:=z0 h.c hR (by omega)
 have h1:=h.grow hC1
 have g1:=h1.g
 have o1:=h1.o
 have hlt:=hT.sl.len
 rw[hT.len] at hlt
 rw[aa]
 simp (disch:=first|assumption|omega|(simp only[aI]<;>omega)) only[go_sem,seval,g,r1.wf,g1,hlt]
 generalize hM2:hp _ 0 m1=M2
 obtain ⟨hm2,e2⟩:=h1.refit (f':=fP vc vt vr (.ptr b 0) .nils false) (m':=M2) (gn o1 hM2) (jM hM2 (by simp[aB]))
 have hF:∀i∈bE r vcl vo,¬ak B i:=fun i hi=>(h.old i hi).2
 have hd:∀i∈bE r vcl vo,i∉bU b pl nm vv:=fun i hi u=>hnew i u (h.old i hi).1
 have h0:iF ⟨p.cs,p.ts.take 0,p.r⟩ B vc vt vr M2 r ⟨false,fU p.r,(p.ts.take 0).map (fun t=>fU t.2),z⟩ o vcl vo .nils ⟨b,pl,nm,vv⟩ []:=
  ⟨hm2,hb.ev e2 (fun i hi u=>hd i u hi) hF,sa hzr hc.gr,aV.nil,by simp,by simp,fun i hi=>⟨by simp[ids],hd i hi,by simp⟩,by simp[ids],by simp,by simp,hz,ho⟩
 have hE0:EvF (bE r vcl vo) (RunG.foot r vcl vo .nils ⟨b,pl,nm,vv⟩ []) m M2:=RunG.ev0 hC1 e2 hnew
 refine W.loop (fun k d=>∃t M i vth q bs,d=⟨t, [],none,M⟩/\NT.get D4.e t=some (.ptr r 0)/\NT.get D4.e.a.a.c t=some vt/\NT.get D4.e.a.a.f t=some (ii (p.ts.length:Nat))/\NT.get D4.e.a.b.a t=some (ii (i:Nat))/\i+k=p.ts.length/\iF ⟨p.cs,p.ts.take i,p.r⟩ B vc vt vr M r ⟨false,fU p.r,(p.ts.take i).map (fun t=>fU t.2),z⟩ o vcl vo vth q bs/\EvF (bE r vcl vo) (RunG.foot r vcl vo vth q bs) m M) ?_ p.ts.length _ ⟨_,M2,0,.nils,_, [],rfl,by simp only[go_sem,seval],by simp only[go_sem,seval],by simp only[go_sem,seval],by simp only[go_sem,seval]<;>rfl,by omega,h0,hE0⟩
 clear h0 hE0 hm2 e2 hb h1 r1 g1 o1 hC1 hnew hd g h
 rintro k d ⟨t,M,i,vth,q,bs,rfl,t1,t2,t3,t4,hik,h,hE⟩
 apply ap
 unfold yv
 change wp _ _ _ _ ⟨ai [] t, [],none,M⟩ _
 by_cases hi:i<p.ts.length
 ·obtain ⟨vb,E,id,off,wr,c,hS,a1,a2,a3,a4,a5⟩:=hT.at i hi
  have a2M:=(h.mc.c.get a3 (by simp)).trans a2
  have hzt:=hc.zt _ (List.getElem_mem hi)
  have hvb:=hS.sl.one
  generalize hM1:hp [(.n 0,.cells true [.str p.ts[i].1,vb]),(.n 0,.cells true [.str [],.nils])] 1 M=M1
  have hC1:Chg [] M M1:=aY hM1 rfl
  have gc1:M1.get (na M 0)=some (.cells true [.str p.ts[i].1,vb]):=bw hM1
  have oc1:ak M1 (na M 0):=bx hM1 (by omega)
  have hM:=h.mc.grow hC1
  obtain ⟨w,m2,r2,b,pl,nm,vv,rfl,hb,hC2,hnew⟩:=z0 hM.c hS (by omega)
  have hM2:=hM.grow hC2
  have g1:=hM.g
  have g2:=hM2.g
  have gc2:=(hC2.get oc1 (by simp)).trans gc1
  have oR:=hM2.o
  have ht1:=h.tv.sl.one
  have htn:=(h.tv.sl.same (n:=3))
  have hvn:=hS.sl.same (n:=3)
  rw[←aa M]
  simp (disch:=first|assumption|omega|(simp only[aI]<;>omega)) only[go_sem,seval,t1,t2,t3,t4,a1,a2M,a5,a4,hvb,hM1,gc1,g1,r2.wf,g2,gc2,htn,hvn]
  have hC3:Chg [] m2 (hp [(.n 0,.cells true [.ptr b 0])] 1 m2):=aE rfl
  have hCM3:=(hC1.trans hC2 (by simp)).trans hC3 (by simp)
  have h3:=h.grow hCM3
  have hbl:bs.length<=1000:=by have:=h.ln.1;simp only[List.length_take] at this;omega
  refine cZ (cs:= [.ptr b 0]) h3.tv bo (bv (by omega)) rfl (fun i hi=>h3.mc.c.old hi) (by simp;omega) (by simp;omega) ?_
  intro vth' M4 hv4 hC4 hF4
  have hrv:r∉ids vth:=fun u=>(h.d1 r u).2 |> fun _=>(h.d0 r (by simp[bE])).1 u
  have g4:=(hC4.get h3.mc.o hrv).trans h3.mc.g
  have o4:=hC4.old h3.mc.o
  have gc4:=(hC4.get (hC3.old (hC2.old oc1)) (fun u=>az (h.tv.sl.old _ u))).trans ((hC3.get (hC2.old oc1) (by simp)).trans gc2)
  have hv1:=hv4.sl.one
  simp (disch:=first|assumption|omega|(simp only[aI]<;>omega)) only[go_sem,seval,aa,g4,gc4,hv1,t1,t4]
  generalize hM5:M4.put r _=M5
  have hM5:M5=hp [(.o r,.cells true (fP vc vt vr (.ptr q.b 0) vth' false vcl vo z.ill))] 0 M4:=by rw[←hM5,←b9 o4,aa]
  have hC5:Chg [r] M4 M5:=by rw[hM5];exact (cI _ _ _).weak (by simp[aB])
  have hrv':r∉ids vth':=fun u=>(hF4 r u).elim hrv fun u=>u h3.mc.o
  have hC35:=((hC4.weak (T:=r::ids vth) fun i hi _=>List.mem_cons_of_mem _ hi).trans hC5 fun i hi _=>by have hi:=one hi;subst hi;simp)
  have hE5:=hE.trans (RunG.evS (vcl:=vcl) (vo:=vo) (q:=q) (bs:=bs) (t:=⟨b,pl,nm,vv⟩) hCM3 hC35 hF4 (fun i hi u=>hnew i hi (hC1.old u)))
  have hq:=h.snoc (f':=fP vc vt vr (.ptr q.b 0) vth' false) (n:=p.ts[i].1) (l:=p.ts[i].2) (t:=⟨b,pl,nm,vv⟩) (m':=hp [(.n 0,.cells true [.ptr b 0])] 1 m2) (m'':=M5) (vth':=vth') hCM3 (hb.grow hC3) (sa hzt (hc.gt _ (List.getElem_mem hi))) (fun i hi u=>hnew i hi (hC1.old u)) ((hC4.weak fun i hi _=>List.mem_cons_of_mem _ hi).trans hC5 fun i hi _=>by have hi:=one hi;subst hi;simp) (by rw[hM5];exact (aG o4).trans ao)
   (by
    have:=hv4.chg hC5 fun i hi u=>by have u:=one u;subst u;exact hrv' hi
    rw[List.map_append];exact this) hF4
  have et:p.ts.take i++ [(p.ts[i].1,p.ts[i].2)]=p.ts.take (i+1):=by rw[List.take_add_one,List.getElem?_eq_getElem hi];rfl
  have et2:(p.ts.take i).map (fun t=>fU t.2)++ [fU p.ts[i].2]=(p.ts.take (i+1)).map fun t=>fU t.2:=by rw[←et,List.map_append];rfl
  rw[et] at hq
  simp only[et2] at hq
  exact ⟨k - 1,by omega,_,M5,i+1,vth',q,_,by rfl,by simp only[go_sem,seval,t1],by simp only[go_sem,seval,t2],by simp only[go_sem,seval,t3],by simp only[go_sem,seval]<;>rfl,by omega,hq,hE5⟩
 ·simp (disch:=first|assumption|omega) only[go_sem,seval,t1,t2,t3,t4]
  have e:i=p.ts.length:=by omega
  subst e
  rw[List.take_length] at h
  exact hK' _ ⟨vth,q,bs,h,hE⟩
end
theorem vB:de .slc .eql .nils .nils=some (.bool true):=_root_.id rfl
theorem vj {id:D4} {off n e k:Nat}:de .slc .eql (.slc id off n e k) .nils=some (.bool false):=_root_.id rfl
theorem H5 {m:NH} {v:NV} {C:List (List NV)} (h:Sl m v 1 C) (hl:C.length<=1000001):∃v' m',bc Try.prog S0 77 [v] m v' m'/\aV m m' v' 1 C/\Chg [] m m':=by
 refine WF.ex fun K hK=> ?_
 refine WF.of_wpG (fun _=>rfl) xW (L:= [(.e,v)]) rfl ?_
 unfold Jz
 have h':=h
 obtain ⟨h0,⟨rfl,rfl⟩|⟨id,off,kc,w,c,rfl,h1,h2,h3,h4⟩⟩:=h'
 ·simp (disch:=first|assumption|omega) only[go_sem,seval,vB]
  exact hK _ _ ⟨aV.nil,aE rfl⟩
 ·simp (disch:=first|assumption|omega) only[go_sem,seval,vj]
  have hC1:Chg [] m (hp [(.n 0,.cells true [])] 1 m):=aE rfl
  have ho:aV m (hp [(.n 0,.cells true [])] 1 m) (.slc (na m 0) 0 0 1 0) 1 []:=aV.of (by simp) az bo (bv (by omega)) rfl rfl rfl
  by_cases hC:C= []
  ·subst hC
   rw[ho.sl.appNil (h.grew hC1)]
   simp (disch:=first|assumption|omega) only[go_sem,seval]
   exact hK _ _ ⟨ho,hC1⟩
  ·obtain ⟨v',m',e1,e2,e3⟩:=ho.app (bytes:=8) (h.grew hC1) hC (fun i hi=>hC1.old hi) (by simp;omega) (by simp;omega)
   rw[e1]
   simp (disch:=first|assumption|omega) only[go_sem,seval]
   refine hK _ _ ⟨by simpa using e2,hC1.trans e3 fun i hi q=> ?_⟩
   simp only[ids,Qt,Qs,or_false] at hi
   subst hi;exact Qn q az
theorem NQ {m:NH} {v:NV} {C:List (List NV)} (h:Sl m v 2 C) (hl:C.length<=1000001):∃v' m',bc Try.prog S0 69 [v] m v' m'/\aV m m' v' 2 C/\Chg [] m m':=by
 refine WF.ex fun K hK=> ?_
 refine WF.of_wpG (fun _=>rfl) yf (L:= [(.e,v)]) rfl ?_
 unfold JS
 have h':=h
 obtain ⟨h0,⟨rfl,rfl⟩|⟨id,off,kc,w,c,rfl,h1,h2,h3,h4⟩⟩:=h'
 ·simp (disch:=first|assumption|omega) only[go_sem,seval,vB]
  exact hK _ _ ⟨aV.nil,aE rfl⟩
 ·simp (disch:=first|assumption|omega) only[go_sem,seval,vj]
  have hC1:Chg [] m (hp [(.n 0,.cells true [])] 1 m):=aE rfl
  have ho:aV m (hp [(.n 0,.cells true [])] 1 m) (.slc (na m 0) 0 0 2 0) 2 []:=aV.of (by simp) az bo (bv (by omega)) rfl rfl rfl
  by_cases hC:C= []
  ·subst hC
   rw[ho.sl.appNil (h.grew hC1)]
   simp (disch:=first|assumption|omega) only[go_sem,seval]
   exact hK _ _ ⟨ho,hC1⟩
  ·obtain ⟨v',m',e1,e2,e3⟩:=ho.app (bytes:=24) (h.grew hC1) hC (fun i hi=>hC1.old hi) (by simp;omega) (by simp;omega)
   rw[e1]
   simp (disch:=first|assumption|omega) only[go_sem,seval]
   refine hK _ _ ⟨by simpa using e2,hC1.trans e3 fun i hi q=> ?_⟩
   simp only[ids,Qt,Qs,or_false] at hi
   subst hi;exact Qn q az
theorem LN {m:NH} {v:NV} {C:List (List NV)} (h:Sl m v 2 C) (hl:C.length<=1000001):∃v' m',bc Try.prog S0 70 [v] m v' m'/\aV m m' v' 2 C/\Chg [] m m':=by
 refine WF.ex fun K hK=> ?_
 refine WF.of_wpG (fun _=>rfl) Ae (L:= [(.e,v)]) rfl ?_
 unfold Iu
 have h':=h
 obtain ⟨h0,⟨rfl,rfl⟩|⟨id,off,kc,w,c,rfl,h1,h2,h3,h4⟩⟩:=h'
 ·simp (disch:=first|assumption|omega) only[go_sem,seval,vB]
  exact hK _ _ ⟨aV.nil,aE rfl⟩
 ·simp (disch:=first|assumption|omega) only[go_sem,seval,vj]
  have hC1:Chg [] m (hp [(.n 0,.cells true [])] 1 m):=aE rfl
  have ho:aV m (hp [(.n 0,.cells true [])] 1 m) (.slc (na m 0) 0 0 2 0) 2 []:=aV.of (by simp) az bo (bv (by omega)) rfl rfl rfl
  by_cases hC:C= []
  ·subst hC
   rw[ho.sl.appNil (h.grew hC1)]
   simp (disch:=first|assumption|omega) only[go_sem,seval]
   exact hK _ _ ⟨ho,hC1⟩
  ·obtain ⟨v',m',e1,e2,e3⟩:=ho.app (bytes:=40) (h.grew hC1) hC (fun i hi=>hC1.old hi) (by simp;omega) (by simp;omega)
   rw[e1]
   simp (disch:=first|assumption|omega) only[go_sem,seval]
   refine hK _ _ ⟨by simpa using e2,hC1.trans e3 fun i hi q=> ?_⟩
   simp only[ids,Qt,Qs,or_false] at hi
   subst hi;exact Qn q az
theorem OG {m:NH} {v:NV} {C:List (List NV)} (h:Sl m v 21 C) (hl:C.length<=1000001):∃v' m',bc Try.prog S0 119 [v] m v' m'/\aV m m' v' 21 C/\Chg [] m m':=by
 refine WF.ex fun K hK=> ?_
 refine WF.of_wpG (fun _=>rfl) tG (L:= [(.e,v)]) rfl ?_
 unfold Co
 have h':=h
 obtain ⟨h0,⟨rfl,rfl⟩|⟨id,off,kc,w,c,rfl,h1,h2,h3,h4⟩⟩:=h'
 ·simp (disch:=first|assumption|omega) only[go_sem,seval,vB]
  exact hK _ _ ⟨aV.nil,aE rfl⟩
 ·simp (disch:=first|assumption|omega) only[go_sem,seval,vj]
  have hC1:Chg [] m (hp [(.n 0,.cells true [])] 1 m):=aE rfl
  have ho:aV m (hp [(.n 0,.cells true [])] 1 m) (.slc (na m 0) 0 0 21 0) 21 []:=aV.of (by simp) az bo (bv (by omega)) rfl rfl rfl
  by_cases hC:C= []
  ·subst hC
   rw[ho.sl.appNil (h.grew hC1)]
   simp (disch:=first|assumption|omega) only[go_sem,seval]
   exact hK _ _ ⟨ho,hC1⟩
  ·obtain ⟨v',m',e1,e2,e3⟩:=ho.app (bytes:=288) (h.grew hC1) hC (fun i hi=>hC1.old hi) (by simp;omega) (by simp;omega)
   rw[e1]
   simp (disch:=first|assumption|omega) only[go_sem,seval]
   refine hK _ _ ⟨by simpa using e2,hC1.trans e3 fun i hi q=> ?_⟩
   simp only[ids,Qt,Qs,or_false] at hi
   subst hi;exact Qn q az
theorem Oi {m:NH} {v:NV} {C:List (List NV)} (h:Sl m v 5 C) (hl:C.length<=1000001):∃v' m',bc Try.prog S0 155 [v] m v' m'/\aV m m' v' 5 C/\Chg [] m m':=by
 refine WF.ex fun K hK=> ?_
 refine WF.of_wpG (fun _=>rfl) ud (L:= [(.e,v)]) rfl ?_
 unfold DC
 have h':=h
 obtain ⟨h0,⟨rfl,rfl⟩|⟨id,off,kc,w,c,rfl,h1,h2,h3,h4⟩⟩:=h'
 ·simp (disch:=first|assumption|omega) only[go_sem,seval,vB]
  exact hK _ _ ⟨aV.nil,aE rfl⟩
 ·simp (disch:=first|assumption|omega) only[go_sem,seval,vj]
  have hC1:Chg [] m (hp [(.n 0,.cells true [])] 1 m):=aE rfl
  have ho:aV m (hp [(.n 0,.cells true [])] 1 m) (.slc (na m 0) 0 0 5 0) 5 []:=aV.of (by simp) az bo (bv (by omega)) rfl rfl rfl
  by_cases hC:C= []
  ·subst hC
   rw[ho.sl.appNil (h.grew hC1)]
   simp (disch:=first|assumption|omega) only[go_sem,seval]
   exact hK _ _ ⟨ho,hC1⟩
  ·obtain ⟨v',m',e1,e2,e3⟩:=ho.app (bytes:=64) (h.grew hC1) hC (fun i hi=>hC1.old hi) (by simp;omega) (by simp;omega)
   rw[e1]
   simp (disch:=first|assumption|omega) only[go_sem,seval]
   refine hK _ _ ⟨by simpa using e2,hC1.trans e3 fun i hi q=> ?_⟩
   simp only[ids,Qt,Qs,or_false] at hi
   subst hi;exact Qn q az
def Qm (x:Ex):Prop:=∀{m0 m:NH} {T:D4->Prop} {c:List NV},RE m0 T x c->aW T m0 m->x.sz<=1000000->∃w m',bc Try.prog S0 120 [.agg c] m w m'/\(∃u,w= .agg (x.l u)/\RE m' (fun i=>¬ak m i) x (x.l u))/\Chg [] m m'
theorem Ja {ks:List Ex} {x:Ex} (h:x∈ks):x.sz<=kj ks:=by
 induction ks with
 |nil=>simp at h
 |cons y ks ih=>
  rw[kj]
  rcases List.mem_cons.1 h with rfl|h
  ·omega
  ·have:=ih h;omega
structure XsC (m0 M:NH) (T T':D4->Prop) (ks:List Ex) (i:Nat) (C:List (List NV)):Prop where
 n:C.length=ks.length
 a:∀(j:Nat) (x:Ex) (c:List NV),j<i->ks[j]? =some x->C[j]? =some c->RE M T' x c
 b:∀(j:Nat) (x:Ex) (c:List NV),i<=j->ks[j]? =some x->C[j]? =some c->RE m0 T x c
theorem oU:∀x:Ex,Qm x:=by
 apply Ex.ind
 intro k n o s ks ih m0 m T c hR hst hsz
 obtain ⟨vk,C,rfl,hS⟩:=hR.inv
 rw[Ex.sz] at hsz
 have hkl:=mZ ks
 refine WF.ex fun K' hK'=> ?_
 refine WF.of_wpG (fun _=>rfl) ur (L:= [(.e,.agg [ii k,u64 n,u8 o,.str s,vk])]) rfl ?_
 unfold Fe
 generalize hM1:hp [(.n 1,.cells true [ii 0,iu 0,ib 0,.str [],.nils]),(.n 0,.cells true [ii k,u64 n,u8 o,.str s,vk])] 2 m=M1
 have hC1:Chg [] m M1:=aY hM1 rfl
 have g10:M1.get (na m 0)=some (.cells true [ii k,u64 n,u8 o,.str s,vk]):=bw hM1
 have g11:M1.get (na m 1)=some (.cells true [ii 0,iu 0,ib 0,.str [],.nils]):=bw hM1
 have o10:ak M1 (na m 0):=bx hM1 (by omega)
 have o11:ak M1 (na m 1):=bx hM1 (by omega)
 have hne:na m 0≠na m 1:=by rw[Ne,mH];omega
 obtain ⟨v1,M2,r2,ho2,hC2⟩:=Oi ((hS.stays (hst.grow hC1)).sl) (by rw[hS.len];omega)
 have g20:=(hC2.get o10 (by simp)).trans g10
 have g21:=(hC2.get o11 (by simp)).trans g11
 have o20:=hC2.old o10
 have o21:=hC2.old o11
 have hvk:=hS.sl.one
 have hv1:=ho2.sl.one
 have hlen:=ho2.sl.len
 rw[hS.len] at hlen
 simp (disch:=first|assumption|omega|(simp only[aI]<;>omega)) only[go_sem,seval,hvk,hM1,g10,r2.wf,g20,hv1,hlen]
 generalize hM3:hp _ 0 M2=M3
 have hC3:Chg [na m 0] M2 M3:=jM hM3 (by simp[aB])
 have g30:M3.get (na m 0)=some (.cells true [ii k,u64 n,u8 o,.str s,v1]):=gn o20 hM3
 have g31:M3.get (na m 1)=some (.cells true [ii 0,iu 0,ib 0,.str [],.nils]):=(hC3.get o21 (by simpa using hne.symm)).trans g21
 have hn1:∀i∈ids v1,¬ak M1 i:=ho2.new
 have hCm3:Chg [] m M3:=(hC1.trans hC2 (by simp)).trans hC3 fun i hi q=>by have hi:=one hi;subst hi;exact Qn q az
 have ho3:aV m M3 v1 5 C:=(ho2.chg hC3 fun i hi q=>by have q:=one q;subst q;exact hn1 _ hi o10).back fun i hi=>hC1.old hi
 refine W.loop (fun f d=>∃t M i D,d=⟨t, [],none,M⟩/\NT.get D4.e.a t=some (.ptr (na m 0) 0)/\NT.get D4.e.b t=some (.ptr (na m 1) 0)/\NT.get D4.e.b.b t=some (ii (ks.length:Nat))/\NT.get D4.e.b.c t=some (ii (i:Nat))/\i+f=ks.length/\Chg (na m 0::ids v1) M3 M/\M.get (na m 0)=some (.cells true [ii k,u64 n,u8 o,.str s,v1])/\M.get (na m 1)=some (.cells true [ii 0,iu 0,ib 0,.str [],.nils])/\aV m M v1 5 D/\Chg [] m M/\XsC m0 M T (fun i=>¬ak m i/\i∉ids v1/\i≠na m 0/\i≠na m 1) ks i D) ?_ ks.length _ ⟨_,M3,0,C,rfl,by simp only[go_sem,seval],by simp only[go_sem,seval],by simp only[go_sem,seval],by simp only[go_sem,seval]<;>rfl,by omega,(Chg.refl _).weak (by simp),g30,g31,ho3,hCm3,⟨hS.len,fun j x c h=>by omega,fun j x c _=>hS.R j x c⟩⟩
 have o30:ak M3 (na m 0):=hC3.old o20
 have o31:ak M3 (na m 1):=hC3.old o21
 clear ho2 ho3 r2 g10 g11 g20 g21 hlen
 rintro f d ⟨t,M,i,D,rfl,t1,t2,t3,t4,hif,hCM,gM0,gM1,ho,hC,hX⟩
 apply ap
 unfold tr
 change wp _ _ _ _ ⟨ai [] t, [],none,M⟩ _
 have oM0:=hCM.old o30
 have oM1:=hCM.old o31
 by_cases hi:i<ks.length
 ·have hiD:i<D.length:=by rw[hX.n];exact hi
  obtain ⟨id,off,cc,a1,a2,a3,a4,a5,a6,a7,a8⟩:=ho.at_all i hiD
  have hRi:=hX.b i _ _ (Nat.le_refl _) (List.getElem?_eq_getElem hi) (List.getElem?_eq_getElem hiD)
  have hsi:=Ja (List.getElem_mem hi)
  obtain ⟨w,M4,r4,⟨u,rfl,hR4⟩,hC4⟩:=ih _ (List.getElem_mem hi) hRi (hst.grow hC) (by omega)
  have g40:=(hC4.get oM0 (by simp)).trans gM0
  have g41:=(hC4.get oM1 (by simp)).trans gM1
  have a44:=(hC4.get a5 (by simp)).trans a4
  have ido:ak M4 id:=hC4.old a5
  have hid0:na m 0≠id:=fun e=>hn1 id (by rw[a2];simp) (e▸o10)
  have hid1:na m 1≠id:=fun e=>hn1 id (by rw[a2];simp) (e▸o11)
  obtain ⟨uu,Cu,ed,-⟩:=hRi.inv'
  have hsD:bi 4 (.agg D[i]) (.agg D[i])=true:=by rw[ed];exact cD (ed▸hRi)
  have hv1s:=ho.sl.same (n:=3)
  simp (disch:=first|assumption|omega|(simp only[aI]<;>omega)) only[go_sem,seval,t1,t2,t3,t4,gM0,a1,a4,a7,r4.wf',g40,a44,hsD,hv1s]
  generalize hM5:M4.put id _=M5
  have hM5:M5=hp [(.o id,.cells true (cc.take off++ks[i].l u++cc.drop (off+5)))] 0 M4:=by rw[←hM5,←b9 ido,aa]
  have hC5:Chg [id] M4 M5:=by rw[hM5];exact (cI _ _ _).weak (by simp[aB])
  have idm:¬ak m id:=a3
  have hCM5:Chg [id] M M5:=(hC4.weak (by simp)).trans hC5 fun i hi _=>hi
  refine ⟨f - 1,by omega,_,M5,i+1,D.set i (ks[i].l u),by rfl,by simp only[go_sem,seval,t1],by simp only[go_sem,seval,t2],by simp only[go_sem,seval,t3],by simp only[go_sem,seval]<;>rfl,by omega,hCM.trans hCM5 (fun i hi _=>by have hi:=one hi;subst hi;simp[a2]),(hCM5.get oM0 (by simpa using hid0)).trans gM0,(hCM5.get oM1 (by simpa using hid1)).trans gM1,a8 _ _ rfl (by rw[hM5];exact (aG ido).trans ao) (by rw[hM5];exact bI ido),hC.trans hCM5 fun i hi q=>by have hi:=one hi;subst hi;exact Qn q idm,⟨by simp[hX.n],fun j x c hj h1 h2=> ?_,fun j x c hj h1 h2=> ?_⟩⟩
  ·by_cases e:j=i
   ·subst e
    rw[List.getElem?_set_self hiD] at h2
    rw[List.getElem?_eq_getElem hi] at h1
    cases h1;cases h2
    refine (hR4.weak (T':=fun j=>¬ak m j/\j∉ids v1/\j≠na m 0/\j≠na m 1) fun j q=>⟨fun w=>q (hC.old w),fun w=>q (ho.sl.old j w),fun w=>q (w▸oM0),fun w=>q (w▸oM1)⟩).stays (aW.of hC5 fun j q w=> ?_)
    simp only[Qt,Qs,or_false] at w
    exact q.2.1 (by rw[a2,w];simp)
   ·rw[List.getElem?_set_ne (fun a=>e a.symm)] at h2
    refine (hX.a j x c (by omega) h1 h2).stays (aW.of hCM5 fun j q w=> ?_)
    simp only[Qt,Qs,or_false] at w
    exact q.2.1 (by rw[a2,w];simp)
  ·rw[List.getElem?_set_ne (by omega)] at h2
   exact hX.b j x c (by omega) h1 h2
 ·rw[←aa M]
  simp (disch:=first|assumption|omega|(simp only[aI]<;>omega)) only[go_sem,seval,t1,t2,t3,t4,gM0,gM1]
  generalize hM5:hp _ 0 M=M5
  have hC5:Chg [na m 1] M M5:=jM hM5 (by simp[aB])
  have e:i=ks.length:=by omega
  subst e
  refine hK' _ _ ⟨⟨v1,rfl,RE.of (C:=D) ⟨?_,fun i hi q=>hn1 i hi (hC1.old q),hX.n,fun j x c h1 h2=> ?_⟩⟩,hC.trans hC5 fun i hi q=>by have hi:=one hi;subst hi;exact Qn q az⟩
  ·exact ho.sl.chg hC5 fun i hi q=>by have q:=one q;subst q;exact hn1 _ hi o11
  ·have hj:=(List.getElem?_eq_some_iff.1 h1).1
   refine ((hX.a j x c hj h1 h2).stays (aW.of hC5 fun j q w=> ?_)).weak fun j q=>q.1
   simp only[Qt,Qs,or_false] at w
   exact q.2.2.2 w
theorem Pz {c P Q Q' R:List NV} {off j n e:Nat} (h:(c.drop off).take e=P++Q++R) (hP:P.length=j) (hQ:Q.length=n) (hQ':Q'.length=n) (he:j+n+R.length=e) (hc:off+e<=c.length):
 ∃d,c.take (off+j)++Q'++c.drop (off+j+n)=d/\d.length=c.length/\(d.drop off).take e=P++Q'++R/\d.take off=c.take off/\d.drop (off+e)=c.drop (off+e):=by
 have hsp:c=c.take off++(P++Q++R)++c.drop (off+e):=by
  rw[←h]
  conv=>lhs;rw[←List.take_append_drop off c,←List.take_append_drop e (c.drop off),List.drop_drop]
  rw[List.append_assoc]
 have hA:(c.take off).length=off:=by rw[List.length_take];omega
 generalize c.take off=A at hsp hA
 generalize c.drop (off+e)=Z at hsp
 subst hsp
 subst hA
 have e1:(A++(P++Q++R)++Z).take (A.length+j)=A++P:=by
  rw[show A++(P++Q++R)++Z=(A++P)++(Q++(R++Z)) by simp,show A.length+j=(A++P).length by simp[hP],List.take_left]
 have e2:(A++(P++Q++R)++Z).drop (A.length+j+n)=R++Z:=by
  rw[show A++(P++Q++R)++Z=(A++P++Q)++(R++Z) by simp,show A.length+j+n=(A++P++Q).length by simp[hP,hQ];omega,List.drop_left]
 have e3:A++P++Q'++(R++Z)=A++((P++Q'++R)++Z):=by simp
 refine ⟨_,rfl, ?_, ?_, ?_, ?_⟩
 ·rw[e1,e2];simp[hQ,hQ']
 ·rw[e1,e2,e3,List.drop_left,show e=(P++Q'++R).length by simp[hP,hQ'];omega,List.take_left]
 ·rw[e1,e2,e3,List.take_left]
 ·rw[e1,e2,show A++P++Q'++(R++Z)=(A++(P++Q'++R))++Z by simp,show A.length+e=(A++(P++Q'++R)).length by simp[hP,hQ'];omega,List.drop_left]
theorem Qg {c L:List NV} {off e j:Nat} (x:NV) (h:(c.drop off).take e=L) (hj:j<e) (hc:off+e<=c.length):
 ∃d,c.set (off+j) x=d/\d.length=c.length/\(d.drop off).take e=L.set j x/\d.take off=c.take off/\d.drop (off+e)=c.drop (off+e):=by
 refine ⟨_,rfl,by simp, ?_, ?_, ?_⟩
 ·rw[←h,List.drop_set,Qo (by omega),List.take_set,show off+j - off=j by omega]
 ·rw[List.take_set,List.set_eq_of_length_le (by rw[List.length_take];omega)]
 ·rw[List.drop_set,Qp (by omega)]
theorem JZ (c:List NV) (off e:Nat):c=c.take off++(c.drop off).take e++c.drop (off+e):=by
 conv=>lhs;rw[←List.take_append_drop off c,←List.take_append_drop e (c.drop off),List.drop_drop]
 rw[List.append_assoc]
def HX (l:List Stm):Prop:=∀{m0 m:NH} {T:D4->Prop} {v:NV} {C:List (List NV)},SS m0 T v l C->aW T m0 m->cz l<=1000000->∃v' m',bc Try.prog S0 71 [v] m v' m'/\(∃C',SS m' (fun i=>¬ak m i) v' l C')/\Chg [] m m'
structure SsC (m0 M:NH) (T T':D4->Prop) (l:List Stm) (i:Nat) (C:List (List NV)):Prop where
 n:C.length=l.length
 a:∀(j:Nat) (x:Stm) (c:List NV),j<i->l[j]? =some x->C[j]? =some c->RS M T' x c
 b:∀(j:Nat) (x:Stm) (c:List NV),i<=j->l[j]? =some x->C[j]? =some c->RS m0 T x c
theorem SS.weakT {m:NH} {T T':D4->Prop} (hT':∀i,T i->T' i) {v:NV} {l:List Stm} {C:List (List NV)} (h:SS m T v l C):SS m T' v l C:=⟨h.sl,fun i hi=>hT' i (h.hT i hi),h.len,fun i x c a b=>(h.R i x c a b).weak hT'⟩
theorem RS.ofSP {m:NH} {T:D4->Prop} {s:Stm} {w:SV} (h:SP m T s w):RS m T s (s.l w):=by
 obtain ⟨k,a,nm,ce,i,x,y,b,e⟩:=s
 obtain ⟨hi,hx,hy,⟨Bb,hb⟩,⟨Ee,he⟩⟩:=h
 exact RS.mk hi hx hy hb.sl hb.hT hb.len hb.R he.sl he.hT he.len he.R
theorem CX (s:Stm):s.i.sz<s.sz/\s.x.sz<s.sz/\s.y.sz<s.sz/\cz s.b<s.sz/\cz s.e<s.sz:=by
 cases s;simp only[Stm.i,Stm.x,Stm.y,Stm.b,Stm.e,Stm.sz];omega
set_option maxHeartbeats 1000000 in
theorem wu {l:List Stm} (ih:∀s∈l,HX s.b/\HX s.e):HX l:=by
 intro m0 m T v C hS hst hsz
 have hll:=kY l
 refine WF.ex fun K' hK'=> ?_
 refine WF.of_wpG (fun _=>rfl) yq (L:= [(.e,v)]) rfl ?_
 unfold Jc
 obtain ⟨v1,M1,r1,ho1,hC1⟩:=OG ((hS.stays hst).sl) (by rw[hS.len];omega)
 have hlen:=ho1.sl.len
 rw[hS.len] at hlen
 rw[aa]
 simp (disch:=first|assumption|omega) only[go_sem,seval,r1.wf',hlen]
 refine W.loop (fun f d=>∃t M i D,d=⟨t, [],none,M⟩/\NT.get D4.e t=some v1/\NT.get D4.e.a.f t=some (ii (l.length:Nat))/\NT.get D4.e.b.a t=some (ii (i:Nat))/\i+f=l.length/\aV m M v1 21 D/\Chg [] m M/\SsC m0 M T (fun i=>¬ak m i/\i∉ids v1) l i D) ?_ l.length _ ⟨_,M1,0,C,rfl,by simp only[go_sem,seval],by simp only[go_sem,seval],by simp only[go_sem,seval]<;>rfl,by omega,ho1,hC1,⟨hS.len,fun j x c h=>by omega,fun j x c _=>hS.R j x c⟩⟩
 rintro f d ⟨t,M,i,D,rfl,t1,t2,t3,hif,ho,hC,hX⟩
 apply ap
 unfold zc
 change wp _ _ _ _ ⟨ai [] t, [],none,M⟩ _
 by_cases hi:i<l.length
 ·have hiD:i<D.length:=by rw[hX.n];exact hi
  obtain ⟨id,off,cc,a1,a2,a3,a4,a5,a6,a7,a8⟩:=ho.at_all i hiD
  have hRi:=hX.b i _ _ (Nat.le_refl _) (List.getElem?_eq_getElem hi) (List.getElem?_eq_getElem hiD)
  have hsi:=xj (List.getElem_mem hi)
  obtain ⟨hb,he⟩:=ih _ (List.getElem_mem hi)
  have hls:=List.getElem?_eq_getElem hi
  generalize l[i]=s at *
  obtain ⟨w,ew,hSP⟩:=hRi.inv'
  rw[ew] at a7
  have hsp:=CX s
  obtain ⟨_,M2,r2,⟨ui,rfl,hI⟩,hC2⟩:=oU s.i hSP.i (hst.grow hC) (by omega)
  have hCm2:=hC.trans hC2 (by simp)
  obtain ⟨_,M3,r3,⟨ux,rfl,hXx⟩,hC3⟩:=oU s.x hSP.x (hst.grow hCm2) (by omega)
  have hCm3:=hCm2.trans hC3 (by simp)
  obtain ⟨_,M4,r4,⟨uy,rfl,hY⟩,hC4⟩:=oU s.y hSP.y (hst.grow hCm3) (by omega)
  have hCm4:=hCm3.trans hC4 (by simp)
  have q4:(cc.drop (off+4)).take 5=s.i.l w.vi:=fM a7 4 5 (by omega)
  have q9:(cc.drop (off+9)).take 5=s.x.l w.vx:=fM a7 9 5 (by omega)
  have q14:(cc.drop (off+14)).take 5=s.y.l w.vy:=fM a7 14 5 (by omega)
  have b2:=(hC2.get a5 (by simp)).trans a4
  have b3:=((hC2.trans hC3 (by simp)).get a5 (by simp)).trans a4
  have b4:=(((hC2.trans hC3 (by simp)).trans hC4 (by simp)).get a5 (by simp)).trans a4
  have id4:ak M4 id:=((hC2.trans hC3 (by simp)).trans hC4 (by simp)).old a5
  have hsI:=cD hSP.i
  have hsX:=cD hSP.x
  have hsY:=cD hSP.y
  obtain ⟨c1,w1,n1,l1,f1,z1⟩:=Pz (Q':=s.i.l ui) (P:=(s.l w).take 4) (Q:=s.i.l w.vi) (R:=(s.l w).drop 9) (j:=4) (n:=5) (e:=21) (a7.trans (by rfl)) rfl rfl rfl rfl a6
  obtain ⟨c2,w2,n2,l2,f2,z2⟩:=Pz (c:=c1) (off:=off) (Q':=s.x.l ux) (P:=(s.l w).take 4++s.i.l ui) (Q:=s.x.l w.vx) (R:=(s.l w).drop 14) (j:=9) (n:=5) (e:=21) (l1.trans (by rfl)) rfl rfl rfl rfl (by omega)
  obtain ⟨c3,w3,n3,l3,f3,z3⟩:=Pz (c:=c2) (off:=off) (Q':=s.y.l uy) (P:=(s.l w).take 4++s.i.l ui++s.x.l ux) (Q:=s.y.l w.vy) (R:=(s.l w).drop 19) (j:=14) (n:=5) (e:=21) (l2.trans (by rfl)) rfl rfl rfl rfl (by omega)
  have q19:c3[off+19]? =some w.vb:=aA l3 19 (by omega)
  have q20:c3[off+20]? =some w.ve:=aA l3 20 (by omega)
  simp (disch:=first|assumption|omega|(simp only[aI]<;>omega)) only[go_sem,seval,t1,t2,t3,a1,a4,q4,q9,q14,r2.wf',r3.wf',r4.wf,b2,b3,b4,hsI,hsX,hsY,w1,n1,w2,n2,w3,n3,q19,q20]
  generalize hM5:hp [(.o id,.cells true c3),(.o id,.cells true c2),(.o id,.cells true c1)] 0 M4=M5
  have hC5:Chg [id] M4 M5:=jM hM5 (by simp[aB])
  have g5:M5.get id=some (.cells true c3):=gn id4 hM5
  have id5:=hC5.old id4
  have idm:¬ak m id:=a3
  have hCm5:Chg [] m M5:=hCm4.trans hC5 fun i hi q=>by have hi:=one hi;subst hi;exact Qn q idm
  obtain ⟨Bb,hSb⟩:=hSP.b
  obtain ⟨Ee,hSe⟩:=hSP.e
  obtain ⟨vb,M6,r6,⟨Cb,hB⟩,hC6⟩:=hb hSb (hst.grow hCm5) (by omega)
  have hCm6:=hCm5.trans hC6 (by simp)
  obtain ⟨ve,M7,r7,⟨Ce,hE⟩,hC7⟩:=he hSe (hst.grow hCm6) (by omega)
  have hCm7:=hCm6.trans hC7 (by simp)
  have g6:=(hC6.get id5 (by simp)).trans g5
  have id6:=hC6.old id5
  have g7:=(hC7.get id6 (by simp)).trans g6
  have id7:=hC7.old id6
  obtain ⟨c4,w4,n4,l4,f4,z4⟩:=Qg (j:=19) vb l3 (by omega) (by omega)
  obtain ⟨c5,w5,n5,l5,f5,z5⟩:=Qg (j:=20) ve l4 (by omega) (by omega)
  have hb1:=hB.sl.one
  have he1:=hE.sl.one
  have hvb1:=hSb.sl.same (n:=3)
  have hve1:=hSe.sl.same (n:=3)
  simp (config:={maxSteps:=1000000}) (disch:=first|assumption|omega|(apply bv;omega)|(apply bI;assumption)|(simp only[aI]<;>omega)) only[go_sem,seval,r6.wf',r7.wf,g6,g7,q19,q20,hvb1,hve1,hb1,he1,w4,n4,w5,n5,t3]
  generalize hM8:hp [(.o id,.cells true c5),(.o id,.cells true c4)] 0 M7=M8
  have hC8:Chg [id] M7 M8:=jM hM8 (by simp[aB])
  have g8:M8.get id=some (.cells true c5):=gn id7 hM8
  have id8:=hC8.old id7
  have n15:∀i,i∈ [id]->i=id:=fun i hi=>by simpa using hi
  have hCM8:Chg [id] M M8:=(((((hC2.trans hC3 (by simp)).trans hC4 (by simp)).weak (T:= [id]) (by simp)).trans hC5 fun i hi _=>hi).trans ((hC6.trans hC7 (by simp)).weak (T:= [id]) (by simp)) fun i hi _=>hi).trans hC8 fun i hi _=>hi
  have hC58:Chg [id] M5 M8:=((hC6.trans hC7 (by simp)).weak (T:= [id]) (by simp)).trans hC8 fun i hi _=>hi
  have e5:c5=cc.take off++s.l ⟨ui,ux,uy,vb,ve⟩++cc.drop (off+21):=by
   conv=>lhs;rw[JZ c5 off 21]
   rw[f5,f4,f3,f2,f1,z5,z4,z3,z2,z1,l5]
   rfl
  have hids:∀j∈ids v1,j=id:=fun j hj=>by rw[a2] at hj;simpa using hj
  have hnew:SP M8 (fun j=>¬ak m j/\j∉ids v1) s ⟨ui,ux,uy,vb,ve⟩:=by
   have k2:∀{N:NH},Chg [] M N->∀j,¬ak N j->¬ak m j/\j∉ids v1:=fun hN j q=>⟨fun w=>q (hN.old (hC.old w)),fun w=>q (hN.old (ho.sl.old j w))⟩
   have hT8:∀{N:NH},Chg [id] N M8->aW (fun j=>¬ak m j/\j∉ids v1) N M8:=fun hN=>aW.of hN fun j q w=>q.2 (by rw[a2];simpa using w)
   have hC28:Chg [id] M2 M8:=((((hC3.trans hC4 (by simp)).weak (T:= [id]) (by simp)).trans hC5 fun i hi _=>hi).trans hC58 fun i hi _=>hi)
   have hC38:Chg [id] M3 M8:=((((hC4).weak (T:= [id]) (by simp)).trans hC5 fun i hi _=>hi).trans hC58 fun i hi _=>hi)
   have hC48:Chg [id] M4 M8:=hC5.trans hC58 fun i hi _=>hi
   have hC68:Chg [id] M6 M8:=(hC7.weak (T:= [id]) (by simp)).trans hC8 fun i hi _=>hi
   have k5:∀j,¬ak M5 j->¬ak m j/\j∉ids v1:=fun j q=>⟨fun w=>q (hCm5.old w),fun w=>q (hids j w▸id5)⟩
   have k6:∀j,¬ak M6 j->¬ak m j/\j∉ids v1:=fun j q=>⟨fun w=>q (hCm6.old w),fun w=>q (hids j w▸id6)⟩
   exact ⟨(hI.weak (k2 (Chg.refl M))).stays (hT8 hC28),(hXx.weak (k2 hC2)).stays (hT8 hC38),(hY.weak (k2 (hC2.trans hC3 (by simp)))).stays (hT8 hC48),⟨Cb,(SS.weakT k5 hB).stays (hT8 hC68)⟩,⟨Ce,(SS.weakT k6 hE).stays (hT8 hC8)⟩⟩
  refine ⟨f - 1,by omega,_,M8,i+1,D.set i (s.l ⟨ui,ux,uy,vb,ve⟩),by rfl,by simp only[go_sem,seval,t1],by simp only[go_sem,seval,t2],by simp only[go_sem,seval]<;>rfl,by omega,a8 _ _ rfl (by rw[g8,e5]) id8,hC.trans hCM8 fun i hi q=>by rw[n15 i hi] at q;exact Qn q idm,⟨by simp[hX.n],fun j x c hj h1 h2=> ?_,fun j x c hj h1 h2=> ?_⟩⟩
  ·by_cases e:j=i
   ·subst e
    rw[List.getElem?_set_self hiD] at h2
    rw[hls] at h1
    cases h1;cases h2
    exact RS.ofSP hnew
   ·rw[List.getElem?_set_ne (fun a=>e a.symm)] at h2
    exact (hX.a j x c (by omega) h1 h2).stays (aW.of hCM8 fun j q w=>q.2 (by rw[a2];simpa using w))
  ·rw[List.getElem?_set_ne (by omega)] at h2
   exact hX.b j x c (by omega) h1 h2
 ·simp (disch:=first|assumption|omega) only[go_sem,seval,t1,t2,t3]
  have e:i=l.length:=by omega
  subst e
  refine hK' _ _ ⟨⟨D,⟨ho.sl,fun i hi=>ho.new i hi,hX.n,fun j x c h1 h2=> ?_⟩⟩,hC⟩
  have hj:=(List.getElem?_eq_some_iff.1 h1).1
  exact (hX.a j x c hj h1 h2).weak fun j q=>q.1
theorem x0:∀l:List Stm,HX l:=by
 have h:∀s:Stm,HX s.b/\HX s.e:=by
  apply Stm.ind (P:=fun s=>HX s.b/\HX s.e)
  intro k a nm ce i x y b e hb he
  exact ⟨wu hb,wu he⟩
 exact fun l=>wu fun s _=>h s
structure Wk (ck:D4) (B m0:NH) (vc u:NV) (L:List (List Nat)) (e a:Int) (N:NH):Prop where
 g:N.get ck=some (.cells true [vc,u,ii e,ii a])
 o:ak N ck
 w:aV B N u 1 (bD L)
 n:ck∉ids u
 c:Chg [] m0 N
 b:∀i,ak B i->ak N i
def e6 (Z:List (List Nat)) (e:Int) (mine:List (List Nat)):Int:=if e=0/\∃n∈mine,n∈Z then 6 else e
section
variable {ck:D4} {B m0:NH} {vc:NV} {cs:List (List Nat×Int)}
theorem Wk.grow {u:NV} {L:List (List Nat)} {e a:Int} {N N':NH} (h:Wk ck B m0 vc u L e a N) (hC:Chg [] N N'):Wk ck B m0 vc u L e a N':=
 ⟨(hC.get h.o (by simp)).trans h.g,hC.old h.o,h.w.chg hC fun _ _=>by simp,h.n,h.c.trans hC (by simp),fun i hi=>hC.old (h.b i hi)⟩
theorem Wk.set {u:NV} {L:List (List Nat)} {e a e' a':Int} {N N':NH} (h:Wk ck B m0 vc u L e a N) (hk:¬ak m0 ck) (hN:hp [(.o ck,.cells true [vc,u,ii e',ii a'])] 0 N=N'):Wk ck B m0 vc u L e' a' N'/\Chg [ck] N N':=by
 have hC:Chg [ck] N N':=aY hN rfl
 refine ⟨⟨?_,hC.old h.o,h.w.chg hC fun i hi=>by simp;rintro rfl;exact h.n hi,h.n,h.c.trans hC fun i hi ho=> ?_,fun i hi=>hC.old (h.b i hi)⟩,hC⟩
 ·rw[←hN];exact (aG h.o).trans ao
 ·have hi:=one hi;subst hi;exact Qn ho hk
theorem EC {Z:List (List Nat)} {s:List Nat}:bG Z s<0↔s∉Z:=by
 have:=fB (l:=Z) (x:=s)
 rw[←this];omega
theorem On (hcs:Sl m0 vc 2 (jD cs)) (hcl:cs.length<=1000000) (hk:¬ak m0 ck) {u vm v s2:NV} {i0:Int} {L mine:List (List Nat)} {e a:Int} {N:NH} (hW:Wk ck B m0 vc u L e a N) (hm:Sl N vm 1 (bD mine)) (hd:ck∉ids vm) (hl:mine.length<=100000000) {t:Tm}
 (g1:NT.get D4.e t=some (.ptr ck 0)) (g2:NT.get D4.e.a.b t=some vm) (g3:NT.get D4.e.a.c t=some (ii 0)) (g4:NT.get D4.e.a t=some v) (g5:NT.get D4.e.f t=some (ii i0)) (g6:NT.get D4.e.a.a t=some s2) {Q:Out->Dyn->Prop}
 (hQ:∀t' N',Wk ck B m0 vc u L (e6 (cs.map (·.1)) e mine) a N'->Chg [ck] N N'->NT.get D4.e t'=some (.ptr ck 0)->NT.get D4.e.a.b t'=some vm->NT.get D4.e.a t'=some v->NT.get D4.e.f t'=some (ii i0)->NT.get D4.e.a.a t'=some s2->Q (.exit 2) ⟨ai [] t', [],none,N'⟩):
 W Try.prog S0 none sq.loop ⟨t, [],none,N⟩ Q:=by
 refine W.loop (fun k d=>∃t M i,d=⟨t, [],none,M⟩/\NT.get D4.e t=some (.ptr ck 0)/\NT.get D4.e.a.b t=some vm/\NT.get D4.e.a.c t=some (ii (i:Nat))/\NT.get D4.e.a t=some v/\NT.get D4.e.f t=some (ii i0)/\NT.get D4.e.a.a t=some s2/\i+k=mine.length/\Wk ck B m0 vc u L (e6 (cs.map (·.1)) e (mine.take i)) a M/\Chg [ck] N M) ?_ mine.length _ ⟨t,N,0,rfl,g1,g2,g3,g4,g5,g6,by omega,by simpa [e6] using hW,(Chg.refl N).weak (by simp)⟩
 clear g1 g2 g3 g4 g5 g6
 rintro k d ⟨t,M,i,rfl,g1,g2,g3,g4,g5,g6,hik,hWM,hC⟩
 apply ap
 unfold sq
 change wp _ _ _ _ ⟨ai [] t, [],none,M⟩ _
 have hmM:Sl M vm 1 (bD mine):=hm.chg hC fun i hi=>by simp;rintro rfl;exact hd hi
 have hlen:=hmM.len
 rw[List.length_map] at hlen
 have hg:=hWM.g
 have ho:=hWM.o
 by_cases hi:i<mine.length
 ·by_cases he:e6 (cs.map (·.1)) e (mine.take i)=0
  ·obtain ⟨id,off,wr,c,a1,a2,a3,a4,a5⟩:=hmM.at i (by simpa using hi)
   rw[List.getElem_map] at a5
   have c0:c[off]? =some (.str mine[i]):=aA a5 0 (by omega)
   have hf:=rt (hcs.chg hWM.c fun _ _=>by simp) hcl mine[i]
   have hvs:bi 4 vc vc=true:=hcs.same
   have htk:∀p:List Nat->Prop,(∃n∈mine.take (i+1),p n)↔(∃n∈mine.take i,p n)∨p mine[i]:=by
    intro p
    rw[List.take_add_one,List.getElem?_eq_getElem hi]
    simp only[List.mem_append,Option.toList_some,List.mem_singleton]
    constructor
    ·rintro ⟨n,h|rfl,hp⟩
     ·exact Or.inl ⟨n,h,hp⟩
     ·exact Or.inr hp
    ·rintro (⟨n,h,hp⟩|hp)
     ·exact ⟨n,Or.inl h,hp⟩
     ·exact ⟨_,Or.inr rfl,hp⟩
   have he0:e=0:=by unfold e6 at he;split at he<;>omega
   have hno:¬∃n∈mine.take i,n∈cs.map (·.1):=fun h=>by rw[e6,Qp ⟨he0,h⟩] at he;omega
   rw[he] at hg hWM
   by_cases hin:mine[i]∈cs.map (·.1)
   ·have h6:e6 (cs.map (·.1)) e (mine.take (i+1))=6:=by rw[e6,Qp ⟨he0,(htk _).2 (Or.inr hin)⟩]
    have hfp:0<=bG (cs.map (·.1)) mine[i]:=fB.2 hin
    generalize bG (cs.map (·.1)) mine[i]=z at hf hfp
    simp (disch:=first|assumption|omega|(simp only[aI]<;>omega)) only[go_sem,seval,g1,g2,g3,g4,g5,g6,hlen,hg,a1,a2,c0,hf.wf,hvs]
    generalize hM2:hp _ 0 M=M2
    obtain ⟨hW2,hC2⟩:=hWM.set hk hM2
    rw[←h6] at hW2
    exact ⟨k - 1,by omega,_,M2,i+1,by rfl,by simp only[go_sem,seval,g1],by simp only[go_sem,seval,g2],by simp only[go_sem,seval]<;>rfl,by simp only[go_sem,seval,g4],by simp only[go_sem,seval,g5],by simp only[go_sem,seval,g6],by omega,hW2,hC.trans hC2 fun _ h _=>h⟩
   ·have h6:e6 (cs.map (·.1)) e (mine.take (i+1))=0:=by
     rw[e6,Qo]
     ·exact he0
     ·rintro ⟨_,h⟩
      exact ((htk _).1 h).elim hno hin
    have hfp:bG (cs.map (·.1)) mine[i]<0:=EC.2 hin
    generalize bG (cs.map (·.1)) mine[i]=z at hf hfp
    simp (disch:=first|assumption|omega) only[go_sem,seval,g1,g2,g3,g4,g5,g6,hlen,hg,a1,a2,c0,hf.wf',hvs]
    exact ⟨k - 1,by omega,_,M,i+1,by rfl,by simp only[go_sem,seval,g1],by simp only[go_sem,seval,g2],by simp only[go_sem,seval]<;>rfl,by simp only[go_sem,seval,g4],by simp only[go_sem,seval,g5],by simp only[go_sem,seval,g6],by omega,by rw[h6];exact hWM,hC⟩
  ·have h6:e6 (cs.map (·.1)) e (mine.take i)=e6 (cs.map (·.1)) e mine:=by
    unfold e6 at he ⊢
    by_cases h0:e=0
    ·rw[Qp,Qp]
     ·split at he
      ·rename_i q;obtain ⟨_,n,h1,h2⟩:=q;exact ⟨h0,n,List.mem_of_mem_take h1,h2⟩
      ·exact Qn h0 he
     ·split at he
      ·assumption
      ·exact Qn h0 he
    ·rw[Qo fun h=>h0 h.1,Qo fun h=>h0 h.1]
   simp (disch:=first|assumption|omega) only[go_sem,seval,g1,g2,g3,hlen,hg,he]
   rw[h6] at hWM
   exact hQ _ _ hWM hC (by simp only[go_sem,seval,g1]) (by simp only[go_sem,seval,g2]) (by simp only[go_sem,seval,g4]) (by simp only[go_sem,seval,g5]) (by simp only[go_sem,seval,g6])
 ·simp (disch:=first|assumption|omega) only[go_sem,seval,g1,g2,g3,hlen,hg]
  rw[List.take_of_length_le (by omega)] at hWM
  exact hQ _ _ hWM hC (by simp only[go_sem,seval,g1]) (by simp only[go_sem,seval,g2]) (by simp only[go_sem,seval,g4]) (by simp only[go_sem,seval,g5]) (by simp only[go_sem,seval,g6])
theorem My (h0:∀i,ak m0 i->ak B i) (hk:¬ak m0 ck) (hkB:¬ak B ck) (hvs:bi 4 vc vc=true) {u vm v s2:NV} {i0:Int} {L mine:List (List Nat)} {e a:Int} {N A:NH} (hW:Wk ck B m0 vc u L e a N) (hm:aV A N vm 1 (bD mine)) (hd:ck∉ids vm) (hdu:∀i∈ids vm,i∉ids u) (hl:L.length+mine.length<=100000000) {t:Tm}
 (g1:NT.get D4.e t=some (.ptr ck 0)) (g2:NT.get D4.e.a.b t=some vm) (g3:NT.get D4.e.a.f t=some (ii 0)) (g4:NT.get D4.e.a t=some v) (g5:NT.get D4.e.f t=some (ii i0)) (g6:NT.get D4.e.a.a t=some s2) {Q:Out->Dyn->Prop}
 (hQ:∀t' N' u',Wk ck B m0 vc u' (mine.foldl aJ L) e a N'->Chg (ck::ids u) N N'->bB N u u'->NT.get D4.e t'=some (.ptr ck 0)->NT.get D4.e.a t'=some v->NT.get D4.e.f t'=some (ii i0)->NT.get D4.e.a.a t'=some s2->Q (.exit 4) ⟨ai [] t', [],none,N'⟩):
 W Try.prog S0 none rV.loop ⟨t, [],none,N⟩ Q:=by
 refine W.loop (fun k d=>∃t M i u',d=⟨t, [],none,M⟩/\NT.get D4.e t=some (.ptr ck 0)/\NT.get D4.e.a.b t=some vm/\NT.get D4.e.a.f t=some (ii (i:Nat))/\NT.get D4.e.a t=some v/\NT.get D4.e.f t=some (ii i0)/\NT.get D4.e.a.a t=some s2/\i+k=mine.length/\Wk ck B m0 vc u' ((mine.take i).foldl aJ L) e a M/\Chg (ck::ids u) N M/\bB N u u') ?_ mine.length _ ⟨t,N,0,u,rfl,g1,g2,g3,g4,g5,g6,by omega,hW,(Chg.refl N).weak (by simp),bB.refl N u⟩
 clear g1 g2 g3 g4 g5 g6
 rintro k d ⟨t,M,i,u',rfl,g1,g2,g3,g4,g5,g6,hik,hWM,hC,hF⟩
 apply ap
 unfold rV
 change wp _ _ _ _ ⟨ai [] t, [],none,M⟩ _
 have hmM:aV A M vm 1 (bD mine):=hm.chg hC fun i hi=>by
  rw[Qt,not_or]
  exact ⟨fun q=>hd (q▸hi),hdu i hi⟩
 have hlen:=hmM.sl.len
 rw[List.length_map] at hlen
 have hg:=hWM.g
 have ho:=hWM.o
 by_cases hi:i<mine.length
 ·obtain ⟨id,off,c,a1,hids,-,a2,a3,a4,a5,-⟩:=hmM.at i (by simpa using hi)
  rw[List.getElem_map] at a5
  have c0:c[off]? =some (.str mine[i]):=aA a5 0 (by omega)
  have hus:bi 4 u' u'=true:=hWM.w.sl.same
  have hfl:=cr (mine.take i) L
  have htl:(mine.take i).length<=mine.length:=by rw[List.length_take];omega
  have htk:(mine.take (i+1)).foldl aJ L=aJ ((mine.take i).foldl aJ L) mine[i]:=by
   rw[List.take_add_one,List.getElem?_eq_getElem hi,Option.toList_some,List.foldl_append];rfl
  simp (disch:=first|assumption|omega) only[go_sem,seval,g1,g2,g3,g4,g5,g6,hlen,hg,a1,a2,c0,hus]
  refine WF.useH (E0 hWM.w hWM.b mine[i] (by omega)) ?_
  rintro v2 M2 ⟨hv2,hC2,hF2⟩
  have g2':=(hC2.get ho hWM.n).trans hg
  have o2':=hC2.old ho
  have hid:id∉ids u':=fun h=>by
   have hmi:id∈ids vm:=by rw[hids];exact List.mem_singleton_self _
   rcases hF id h with q|q
   ·exact hdu id hmi q
   ·exact q (hm.sl.old id hmi)
  have a22:=(hC2.get a3 hid).trans a2
  simp (disch:=first|assumption|omega|(simp only[aI]<;>omega)) only[go_sem,seval,g1,g2,g3,g4,g5,g6,hlen,hg,a1,a22,c0,hus,g2',o2',hv2.sl.one]
  generalize hM3:hp _ 0 M2=M3
  have hC3:Chg [ck] M2 M3:=aY hM3 rfl
  have hn2:ck∉ids v2:=fun h=>(hF2 ck h).elim hWM.n fun q=>q ho
  have hCM:Chg (ck::ids u') M M3:=(hC2.weak (T:=ck::ids u') (by intro i h _;simp[h])).trans hC3 fun i h _=>by simp at h;simp[h]
  refine ⟨k - 1,by omega,_,M3,i+1,v2,by rfl,by simp only[go_sem,seval,g1],by simp only[go_sem,seval,g2],by simp only[go_sem,seval]<;>rfl,by simp only[go_sem,seval,g4],by simp only[go_sem,seval,g5],by simp only[go_sem,seval,g6],by omega, ?_,hC.trans hCM fun i h hi=> ?_,hF.trans hF2 fun i h=>hC.old h⟩
  ·rw[htk]
   refine ⟨?_,hC3.old o2',hv2.chg hC3 fun i hi=>by simp;rintro rfl;exact hn2 hi,hn2, ?_,fun i hi=>hC3.old (hC2.old (hWM.b i hi))⟩
   ·rw[←hM3];exact (aG o2').trans ao
   ·refine hWM.c.trans hCM fun i hi hoi=> ?_
    rcases List.mem_cons.1 hi with e|hi
    ·exact Qn (e▸hoi) hk
    ·exact Qn (h0 i hoi) (hWM.w.new i hi)
  ·rcases List.mem_cons.1 h with rfl|h
   ·simp
   ·exact (hF i h).elim (fun q=>by simp[q]) fun q=>Qn hi q
 ·simp (disch:=first|assumption|omega) only[go_sem,seval,g1,g2,g3,hlen,hg]
  rw[List.take_of_length_le (by omega)] at hWM
  exact hQ _ _ _ hWM hC hF (by simp only[go_sem,seval,g1]) (by simp only[go_sem,seval,g4]) (by simp only[go_sem,seval,g5]) (by simp only[go_sem,seval,g6])
end
theorem Pu {P:Program} {S:Nat->List NV->Option NV} {r:Option D4} {A B C:NC} {n:Nat} {d:Dyn} {Q:Out->Dyn->Prop} (Φ:Dyn->Prop) (h1:∀R:Dyn->Prop,(∀d',Φ d'->R d')->wp P S r A d (c9 R Q)) (h2:∀d',Φ d'->wp P S r B d' (ip n (c9 (Dk P S r C Q) Q))):wp P S r (.seq A (.seq (.block n B) C)) d Q:=h1 _ h2
abbrev qR:=(List (List Nat)×Nat)×Option (Int×Int)
def kP (Z L:List (List Nat)) (x:Stm):Int:=if e6 Z (if (x.k=1∨x.k=2∨x.k=3)/\x.ce∉Z then 4 else 0) x.own=0/\12<L.length then 3 else e6 Z (if (x.k=1∨x.k=2∨x.k=3)/\x.ce∉Z then 4 else 0) x.own
def GU (a e:Int):Option (Int×Int):=if e=0 then none else some (a,e)
def pc (Z:List (List Nat)) (st:qR) (x:Stm):qR×Bool:=
 (((x.own.foldl aJ st.1.1,st.1.2+x.own.length),GU x.a (kP Z (x.own.foldl aJ st.1.1) x)),decide (kP Z (x.own.foldl aJ st.1.1) x=0))
def iD (Z:List (List Nat)) (l:List Stm) (st:qR):qR:=if st.2=none then (aU (pc Z) (bh l) st).1 else st
theorem tQ {a e:Int}:GU a e=none↔e=0:=by unfold GU;split<;>simp_all
theorem qx {Z:List (List Nat)} (l:List Stm):∀st:qR,st.2=none->((aU (pc Z) l st).2=true↔(aU (pc Z) l st).1.2=none):=by
 induction l with
 |nil=>intro st h;simp[aU,h]
 |cons x l ih=>
  intro st h
  rw[aU]
  by_cases he:kP Z (x.own.foldl aJ st.1.1) x=0
  ·have h2:(pc Z st x).2=true:=Qr he
   rw[Qp h2]
   exact ih _ (tQ.2 he)
  ·have h2:(pc Z st x).2=false:=Qq he
   rw[h2,Qo (by simp),h2]
   simp only[Bool.false_eq_true,false_iff]
   exact fun q=>he (tQ.1 q)
theorem GS {Z:List (List Nat)} (a b:List Stm) (st:qR) (f:List Stm->qR->qR) (hf:∀l st,f l st=if st.2=none then (aU (pc Z) l st).1 else st):f (a++b) st=f b (f a st):=by
 by_cases h:st.2=none
 ·rw[hf (a++b),Qp h,dR,hf a,Qp h]
  by_cases h2:(aU (pc Z) a st).1.2=none
  ·rw[Qp ((qx a st h).2 h2),hf b,Qp h2]
  ·rw[Qo fun q=>h2 ((qx a st h).1 q),hf b,Qo h2]
 ·rw[hf (a++b),Qo h,hf a,Qo h,hf b,Qo h]
def dT (Z:List (List Nat)) (l:List Stm) (st:qR):qR:=if st.2=none then (aU (pc Z) l st).1 else st
theorem k8 {Z:List (List Nat)} {l:List Stm} {st:qR}:iD Z l st=dT Z (bh l) st:=rfl
theorem lk {Z:List (List Nat)} (a b:List Stm) (st:qR):dT Z (a++b) st=dT Z b (dT Z a st):=GS a b st (dT Z) fun _ _=>rfl
theorem A5 {Z:List (List Nat)} (x:Stm) (l:List Stm) (st:qR):iD Z (x::l) st=iD Z l (dT Z x.all st):=by rw[k8,bh,lk];rfl
theorem qg {Z:List (List Nat)} {l:List Stm} {st:qR} (h:st.2≠none):dT Z l st=st:=Qo h
theorem Cf {Z:List (List Nat)} {x:Stm} {st:qR} (h:st.2=none):dT Z x.all st=iD Z (if x.k=6 then x.e else []) (iD Z (if x.k=6∨x.k=7 then x.b else []) (pc Z st x).1):=by
 have e1:dT Z [x] st=(pc Z st x).1:=by
  unfold dT;rw[Qp h,aU]
  split<;>rfl
 rw[nC,show x::((if x.k=6∨x.k=7 then bh x.b else [])++(if x.k=6 then bh x.e else []))= [x]++((if x.k=6∨x.k=7 then bh x.b else [])++(if x.k=6 then bh x.e else [])) from rfl,lk,lk,e1,k8,k8]
 have e2:∀(p:Prop) [Decidable p] (l:List Stm),bh (if p then l else [])=if p then bh l else []:=by intro p _ l;split<;>rfl
 rw[e2,e2]
theorem CH {Z:List (List Nat)} (l:List Stm):∀st:qR,(dT Z l st).1.2<=st.1.2+(l.flatMap Stm.own).length/\((dT Z l st).2≠none->st.2=none->jL (dT Z l st).2≠0)/\(st.1.1.length<=st.1.2->(dT Z l st).1.1.length<=(dT Z l st).1.2):=by
 induction l with
 |nil=>
  intro st
  have e:dT Z [] st=st:=by unfold dT;split<;>rfl
  rw[e]
  exact ⟨by simp,fun q r=>Qn r q,fun q=>q⟩
 |cons x l ih=>
  intro st
  by_cases h:st.2=none
  ·have e:dT Z (x::l) st=dT Z l (pc Z st x).1:=by
    have:=lk (Z:=Z) [x] l st
    rw[List.singleton_append] at this
    rw[this]
    congr 1
    unfold dT;rw[Qp h,aU]
    split<;>rfl
   obtain ⟨h1,h2,h3⟩:=ih (pc Z st x).1
   rw[e,List.flatMap_cons,List.length_append]
   have hn:(pc Z st x).1.1.2=st.1.2+x.own.length:=rfl
   have hl:(pc Z st x).1.1.1=x.own.foldl aJ st.1.1:=rfl
   have hfl:=cr x.own st.1.1
   refine ⟨by omega,fun q _=> ?_,fun q=>h3 (by rw[hn,hl];omega)⟩
   by_cases h4:(pc Z st x).1.2=none
   ·exact h2 q h4
   ·rw[qg h4]
    have:(pc Z st x).1.2=GU x.a (kP Z (x.own.foldl aJ st.1.1) x):=rfl
    rw[this] at h4 ⊢
    unfold GU at h4 ⊢
    split
    ·rename_i q;rw[Qp q] at h4;exact Qn rfl h4
    ·assumption
  ·rw[qg h]
   exact ⟨by omega,fun _ q=>Qn q h,fun q=>q⟩
section
variable {ck:D4} {B m0:NH} {vc:NV} {cs:List (List Nat×Int)} {T:D4->Prop}
def mA (ck:D4) (B m0:NH) (vc:NV) (cs:List (List Nat×Int)) (T:D4->Prop) (l:List Stm):Prop:=
 ∀{v:NV} {C:List (List NV)} {N:NH} {u:NV} {st:qR},SS m0 T v l C->Wk ck B m0 vc u st.1.1 (jL st.2) (wP st.2) N->(st.2≠none->jL st.2≠0)->st.1.1.length<=st.1.2->st.1.2+((bh l).flatMap Stm.own).length<=100000000->cz l<=100000000->
  ∃N',bc Try.prog S0 52 [.ptr ck 0,v] N (.tup []) N'/\∃u',Wk ck B m0 vc u' (iD (cs.map (·.1)) l st).1.1 (jL (iD (cs.map (·.1)) l st).2) (wP (iD (cs.map (·.1)) l st).2) N'/\Chg (ck::ids u) N N'/\bB N u u'
theorem Ed (M:List (List Nat)):∀(acc L:List (List Nat)),(M.foldl aJ acc).foldl aJ L=M.foldl aJ (acc.foldl aJ L):=by
 induction M with
 |nil=>intro acc L;rfl
 |cons s M ih=>
  intro acc L
  rw[List.foldl_cons,ih,List.foldl_cons]
  congr 1
  by_cases h:s∈acc
  ·rw[show aJ acc s=acc from Qp h,show aJ (acc.foldl aJ L) s=acc.foldl aJ L from Qp ((fo acc L).2 (Or.inr h))]
  ·rw[show aJ acc s=acc++ [s] from Qo h,List.foldl_append];rfl
theorem Jd {Z:List (List Nat)} {e:Int} (M:List (List Nat)):e6 Z e (M.foldl aJ [])=e6 Z e M:=by
 have:(∃n∈M.foldl aJ [],n∈Z)↔∃n∈M,n∈Z:=by simp[fo]
 unfold e6
 simp only[this]
theorem Hj (x:Stm):x.own.length<=(x.all.flatMap Stm.own).length:=by
 rw[nC,List.flatMap_cons,List.length_append];omega
theorem CI (hcs:Sl m0 vc 2 (jD cs)) (hcl:cs.length<=1000000) (h0:∀i,ak m0 i->ak B i) (hk:¬ak m0 ck) (hkB:¬ak B ck)
 {x:Stm} {w:SV} (hR:RS m0 T x (x.l w)) (hP:SP m0 T x w) (hb:mA ck B m0 vc cs T x.b) (he:mA ck B m0 vc cs T x.e) {L:List (List Nat)} {n:Nat} (hln:L.length<=n) (hbud:n+(x.all.flatMap Stm.own).length<=100000000) (hsz:x.sz<=100000000)
 {v u:NV} {N:NH} (hW:Wk ck B m0 vc u L 0 0 N) {i ln:Nat} {id:D4} {off:Nat} {wr:Bool} {C:List NV} (hi:i<ln) (hlv:Ck v= .val (ii ln)) (hlm:ln<=1000000000) (a1:fV 21 v (ii i)= .val (.ptr id off)) (a2:N.get id=some (.cells wr C)) (a3:ak N id) (a4:off+21<=C.length) (a5:(C.drop off).take 21=x.l w) {t:Tm}
 (g1:NT.get D4.e t=some (.ptr ck 0)) (g2:NT.get D4.e.a t=some v) (g3:NT.get D4.e.f t=some (ii i)) {Q:Out->Dyn->Prop}
 (hN:∀t' N' u',Wk ck B m0 vc u' (dT (cs.map (·.1)) x.all ((L,n),none)).1.1 (jL (dT (cs.map (·.1)) x.all ((L,n),none)).2) (wP (dT (cs.map (·.1)) x.all ((L,n),none)).2) N'->Chg (ck::ids u) N N'->bB N u u'->NT.get D4.e t'=some (.ptr ck 0)->NT.get D4.e.a t'=some v->NT.get D4.e.f t'=some (ii (i+1:Nat))->Q .norm ⟨t', [],none,N'⟩)
 (hF:(dT (cs.map (·.1)) x.all ((L,n),none)).2≠none->∀t' N' u',Wk ck B m0 vc u' (dT (cs.map (·.1)) x.all ((L,n),none)).1.1 (jL (dT (cs.map (·.1)) x.all ((L,n),none)).2) (wP (dT (cs.map (·.1)) x.all ((L,n),none)).2) N'->Chg (ck::ids u) N N'->bB N u u'->Q .ret ⟨ai [] t', [],none,N'⟩):
 wp Try.prog S0 none lp ⟨ai [] t, [],none,N⟩ Q:=by
 unfold lp
 have hl21:(x.l w).length=21:=rfl
 have hl21':(x.l w).take 21=x.l w:=rfl
 have hg:=hW.g
 have ho:=hW.o
 have hvs:bi 4 vc vc=true:=hcs.same
 refine Pu (fun d=>∃t',d=⟨t', [],none,N⟩/\NT.get D4.e t'=some (.ptr ck 0)/\NT.get D4.e.a t'=some v/\NT.get D4.e.f t'=some (ii i)) (fun R hR'=> ?_) ?_
 ·simp (disch:=first|assumption|omega) only[go_sem,seval,g1,g2,g3,hlv,hg]
  exact hR' _ ⟨_,rfl,by simp only[go_sem,seval,g1],by simp only[go_sem,seval,g2],by simp only[go_sem,seval,g3]⟩
 clear g1 g2 g3
 rintro d ⟨t,rfl,g1,g2,g3⟩
 change wp _ _ _ _ ⟨ai [] t, [],none,N⟩ _
 let Ky:D4->Tm->Prop:=fun b1 t=>NT.get D4.e t=some (.ptr ck 0)/\NT.get D4.e.a t=some v/\NT.get D4.e.f t=some (ii i)/\NT.get D4.e.a.a t=some (.ptr b1 0)
 refine gG (fun d=>∃t N1 b1,d=⟨t, [],none,N1⟩/\Ky b1 t/\Chg [] N N1/\¬ak N b1/\ak N1 b1/\N1.get b1=some (.cells true (x.l w))) (fun R hR'=> ?_) ?_
 ·rw[←aa N]
  simp (disch:=first|assumption|omega|(simp only[aI]<;>omega)) only[go_sem,seval,g1,g2,g3,a1,a2,a5,hl21,hl21']
  generalize hM1:hp _ 1 N=N1
  have hC1:Chg [] N N1:=aY hM1 rfl
  exact hR' _ ⟨_,N1,na N 0,rfl,⟨by simp only[go_sem,seval,g1],by simp only[go_sem,seval,g2],by simp only[go_sem,seval,g3],by simp only[go_sem,seval]⟩,hC1,az,by rw[←hM1];exact bv (by omega),by rw[←hM1];exact bo⟩
 clear g1 g2 g3
 rintro d ⟨t,N1,b1,rfl,⟨g1,g2,g3,g4⟩,hC1,hb1,ob1,gb1⟩
 change wp _ _ _ _ ⟨ai [] t, [],none,N1⟩ _
 have hW1:=hW.grow hC1
 have hbck:b1≠ck:=fun e=>hb1 (e▸ho)
 have hbck':=hbck.symm
 have hbu:b1∉ids u:=fun h=>hb1 (hW.w.sl.old _ h)
 have t0:(x.l w)[0]? =some (ii x.k):=rfl
 have t1:(x.l w)[1]? =some (ii x.a):=rfl
 have t3:(x.l w)[3]? =some (.str x.ce):=rfl
 have hg1:=hW1.g
 have ho1:=hW1.o
 generalize he1:(if (x.k=1∨x.k=2∨x.k=3)/\x.ce∉cs.map (·.1) then (4:Int) else 0)=e1
 refine gG (fun d=>∃t N2,d=⟨t, [],none,N2⟩/\Ky b1 t/\Wk ck B m0 vc u L e1 0 N2/\Chg [ck] N1 N2) (fun R hR'=> ?_) ?_
 ·have hce:=tZ N1 x.k
  have hf:=rt (hcs.chg hW1.c fun _ _=>by simp) hcl x.ce
  by_cases hk1:x.k=1∨x.k=2∨x.k=3
  ·rw[Qr hk1] at hce
   by_cases hz:x.ce∈cs.map (·.1)
   ·rw[Qo fun q=>q.2 hz] at he1
    subst he1
    have hfp:0<=bG (cs.map (·.1)) x.ce:=fB.2 hz
    generalize bG (cs.map (·.1)) x.ce=z at hf hfp
    simp (disch:=first|assumption|omega) only[go_sem,seval,g1,g2,g3,g4,gb1,t0,t1,t3,hg1,hvs,hce.wf',hf.wf']
    exact hR' _ ⟨_,N1,rfl,⟨by simp only[go_sem,seval,g1],by simp only[go_sem,seval,g2],by simp only[go_sem,seval,g3],by simp only[go_sem,seval,g4]⟩,hW1,(Chg.refl N1).weak (by simp)⟩
   ·rw[Qp ⟨hk1,hz⟩] at he1
    subst he1
    have hfp:bG (cs.map (·.1)) x.ce<0:=EC.2 hz
    generalize bG (cs.map (·.1)) x.ce=z at hf hfp
    simp (disch:=first|assumption|omega|(simp only[aI]<;>omega)) only[go_sem,seval,g1,g2,g3,g4,gb1,t0,t1,t3,hg1,hvs,hce.wf',hf.wf]
    generalize hM2:hp _ 0 N1=N2
    obtain ⟨hW2,hC2⟩:=hW1.set hk hM2
    exact hR' _ ⟨_,N2,rfl,⟨by simp only[go_sem,seval,g1],by simp only[go_sem,seval,g2],by simp only[go_sem,seval,g3],by simp only[go_sem,seval,g4]⟩,hW2,hC2⟩
  ·rw[Qq hk1] at hce
   rw[Qo fun q=>hk1 q.1] at he1
   subst he1
   simp (disch:=first|assumption|omega) only[go_sem,seval,g1,g2,g3,g4,gb1,t0,t1,t3,hg1,hvs,hce.wf']
   exact hR' _ ⟨_,N1,rfl,⟨by simp only[go_sem,seval,g1],by simp only[go_sem,seval,g2],by simp only[go_sem,seval,g3],by simp only[go_sem,seval,g4]⟩,hW1,(Chg.refl N1).weak (by simp)⟩
 clear g1 g2 g3 g4 hg1 ho1
 rintro d ⟨t,N2,rfl,⟨g1,g2,g3,g4⟩,hW2,hC2⟩
 change wp _ _ _ _ ⟨ai [] t, [],none,N2⟩ _
 have gb2:=(hC2.get ob1 (by simpa using hbck)).trans gb1
 have ob2:=hC2.old ob1
 have hg2:=hW2.g
 refine gG (fun d=>∃t N3 vm,d=⟨t, [],none,N3⟩/\Ky b1 t/\NT.get D4.e.a.b t=some vm/\aV N2 N3 vm 1 (bD (x.own.foldl aJ []))/\Chg [] N2 N3) (fun R hR'=> ?_) ?_
 ·simp (disch:=first|assumption|omega) only[go_sem,seval,g1,g2,g3,g4,gb2,hl21,hl21']
  refine WF.use (Ij hR (B:=N2) (m:=N2) (v:= .nils) (l:= []) hW2.c aV.nil (fun i hi=>hW2.c.old hi) (fun _ h=>h) (by simp;omega)) ?_
  rintro vm N3 ⟨hvm,hC3,-⟩
  have hC3':Chg [] N2 N3:=hC3.weak (by simp[ids])
  simp (disch:=first|assumption|omega) only[go_sem,seval,g1,g2,g3,g4]
  exact hR' _ ⟨_,N3,vm,rfl,⟨by simp only[go_sem,seval,g1],by simp only[go_sem,seval,g2],by simp only[go_sem,seval,g3],by simp only[go_sem,seval,g4]⟩,by simp only[go_sem,seval],hvm,hC3'⟩
 clear g1 g2 g3 g4
 rintro d ⟨t,N3,vm,rfl,⟨g1,g2,g3,g4⟩,g5,hvm,hC3⟩
 change wp _ _ _ _ ⟨ai [] t, [],none,N3⟩ _
 have gb3:=(hC3.get ob2 (by simp)).trans gb2
 have ob3:=hC3.old ob2
 have hW3:=hW2.grow hC3
 have hdck:ck∉ids vm:=fun h=>hvm.new _ h hW2.o
 have hol:=Hj x
 have hdl:=cr x.own []
 rw[List.length_nil] at hdl
 generalize he2:e6 (cs.map (·.1)) e1 x.own=e2
 refine gG (fun d=>∃t N4,d=⟨t, [],none,N4⟩/\Ky b1 t/\NT.get D4.e.a.b t=some vm/\Wk ck B m0 vc u L e2 0 N4/\Chg [ck] N3 N4) (fun R hR'=> ?_) ?_
 ·simp (disch:=first|assumption|omega) only[go_sem,seval,g1,g2,g3,g4,g5]
  refine On hcs hcl hk hW3 hvm.sl hdck (by omega) (v:=v) (s2:= .ptr b1 0) (i0:=i) (by simp only[go_sem,seval,g1]) (by simp only[go_sem,seval,g5]) (by simp only[go_sem,seval]) (by simp only[go_sem,seval,g2]) (by simp only[go_sem,seval,g3]) (by simp only[go_sem,seval,g4]) ?_
  intro t' N4 hW4 hC4 k1 k2 k3 k4 k5
  rw[Jd,he2] at hW4
  simp (disch:=first|assumption|omega) only[go_sem,seval]
  exact hR' _ ⟨_,N4,rfl,⟨k1,k3,k4,k5⟩,k2,hW4,hC4⟩
 clear g1 g2 g3 g4 g5
 rintro d ⟨t,N4,rfl,⟨g1,g2,g3,g4⟩,g5,hW4,hC4⟩
 change wp _ _ _ _ ⟨ai [] t, [],none,N4⟩ _
 have gb4:=(hC4.get ob3 (by simpa using hbck)).trans gb3
 have ob4:=hC4.old ob3
 have hvm4:=hvm.chg hC4 fun i hi=>by simp;rintro rfl;exact hdck hi
 have hdu:∀i∈ids vm,i∉ids u:=fun i hi hu=>hvm.new i hi (hW2.w.sl.old i hu)
 refine gG (fun d=>∃t N5 u5,d=⟨t, [],none,N5⟩/\Ky b1 t/\Wk ck B m0 vc u5 (x.own.foldl aJ L) e2 0 N5/\Chg (ck::ids u) N4 N5/\bB N4 u u5) (fun R hR'=> ?_) ?_
 ·simp (disch:=first|assumption|omega) only[go_sem,seval,g1,g2,g3,g4,g5]
  refine My h0 hk hkB hvs hW4 hvm4 hdck hdu (by omega) (v:=v) (s2:= .ptr b1 0) (i0:=i) (by simp only[go_sem,seval,g1]) (by simp only[go_sem,seval,g5]) (by simp only[go_sem,seval]) (by simp only[go_sem,seval,g2]) (by simp only[go_sem,seval,g3]) (by simp only[go_sem,seval,g4]) ?_
  intro t' N5 u5 hW5 hC5 hF5 k1 k2 k3 k4
  rw[Ed,List.foldl_nil] at hW5
  simp (disch:=first|assumption|omega) only[go_sem,seval]
  exact hR' _ ⟨_,N5,u5,rfl,⟨k1,k2,k3,k4⟩,hW5,hC5,hF5⟩
 clear g1 g2 g3 g4 g5
 rintro d ⟨t,N5,u5,rfl,⟨g1,g2,g3,g4⟩,hW5,hC5,hF5⟩
 change wp _ _ _ _ ⟨ai [] t, [],none,N5⟩ _
 have hbn:b1∉ck::ids u:=by rw[Qt,not_or];exact ⟨hbck,hbu⟩
 have gb5:=(hC5.get ob4 hbn).trans gb4
 have ob5:=hC5.old ob4
 have hbu5:b1∉ids u5:=fun h=>(hF5 _ h).elim hbu fun q=>q ob4
 have hN4:Chg [ck] N N4:=((((hC1.weak (T:= [ck]) (by simp)).trans hC2 fun _ h _=>h).trans hC3 (by simp)).trans hC4 fun _ h _=>h)
 have hN5:Chg (ck::ids u) N N5:=(hN4.weak (by simp)).trans hC5 fun _ h _=>h
 have hFN5:bB N u u5:=fun i hi=>(hF5 i hi).imp _root_.id fun q o=>q (hN4.old o)
 have hg5:=hW5.g
 have ho5:=hW5.o
 have hlen5:=hW5.w.sl.len
 rw[List.length_map] at hlen5
 have hfl:=cr x.own L
 have hL5:(x.own.foldl aJ L).length<=n+x.own.length:=by omega
 generalize hLL:x.own.foldl aJ L=L' at hW5 hlen5 hL5
 generalize he3:(if e2=0/\12<L'.length then (3:Int) else e2)=e3
 have herr:kP (cs.map (·.1)) L' x=e3:=by unfold kP;rw[he1,he2,he3]
 have hrd:(pc (cs.map (·.1)) ((L,n),none) x).1=((L',n+x.own.length),GU x.a e3):=by
  unfold pc;dsimp only;rw[hLL,herr]
 refine gG (fun d=>∃t N6,d=⟨t, [],none,N6⟩/\Ky b1 t/\Wk ck B m0 vc u5 L' e3 0 N6/\Chg [ck] N5 N6) (fun R hR'=> ?_) ?_
 ·by_cases h2:e2=0
  ·rw[h2] at hg5
   by_cases h12:12<L'.length
   ·rw[Qp ⟨h2,h12⟩] at he3
    subst he3
    rw[←aa N5]
    simp (disch:=first|assumption|omega|(simp only[aI]<;>omega)) only[go_sem,seval,g1,g2,g3,g4,hg5,hlen5]
    generalize hM6:hp _ 0 N5=N6
    rw[h2] at hW5
    obtain ⟨hW6,hC6⟩:=hW5.set hk hM6
    exact hR' _ ⟨_,N6,rfl,⟨by simp only[go_sem,seval,g1],by simp only[go_sem,seval,g2],by simp only[go_sem,seval,g3],by simp only[go_sem,seval,g4]⟩,hW6,hC6⟩
   ·rw[Qo fun q=>h12 q.2] at he3
    subst he3
    simp (disch:=first|assumption|omega) only[go_sem,seval,g1,g2,g3,g4,hg5,hlen5]
    exact hR' _ ⟨_,N5,rfl,⟨by simp only[go_sem,seval,g1],by simp only[go_sem,seval,g2],by simp only[go_sem,seval,g3],by simp only[go_sem,seval,g4]⟩,hW5,(Chg.refl N5).weak (by simp)⟩
  ·rw[Qo fun q=>h2 q.1] at he3
   subst he3
   simp (disch:=first|assumption|omega) only[go_sem,seval,g1,g2,g3,g4,hg5,hlen5]
   exact hR' _ ⟨_,N5,rfl,⟨by simp only[go_sem,seval,g1],by simp only[go_sem,seval,g2],by simp only[go_sem,seval,g3],by simp only[go_sem,seval,g4]⟩,hW5,(Chg.refl N5).weak (by simp)⟩
 clear g1 g2 g3 g4 hg5 ho5 hlen5
 rintro d ⟨t,N6,rfl,⟨g1,g2,g3,g4⟩,hW6,hC6⟩
 change wp _ _ _ _ ⟨ai [] t, [],none,N6⟩ _
 have gb6:=(hC6.get ob5 (by simpa using hbck)).trans gb5
 have ob6:=hC6.old ob5
 have hN6:Chg (ck::ids u) N N6:=hN5.trans (hC6.weak (T:=ck::ids u) (by simp)) fun _ h _=>h
 have hg6:=hW6.g
 have ho6:=hW6.o
 have hall:=Cf (Z:=cs.map (·.1)) (x:=x) (st:=((L,n),none)) rfl
 rw[hrd] at hall
 refine gG (fun d=>e3=0/\∃t,d=⟨t, [],none,N6⟩/\Ky b1 t) (fun R hR'=> ?_) ?_
 ·by_cases h3:e3=0
  ·rw[h3] at hg6
   simp (disch:=first|assumption|omega) only[go_sem,seval,g1,g2,g3,g4,hg6]
   exact hR' _ ⟨h3,_,rfl,by simp only[go_sem,seval,g1],by simp only[go_sem,seval,g2],by simp only[go_sem,seval,g3],by simp only[go_sem,seval,g4]⟩
  ·rw[show GU x.a e3=some (x.a,e3) from Qo h3] at hall
   have hid:∀l,iD (cs.map (·.1)) l ((L',n+x.own.length),some (x.a,e3))=((L',n+x.own.length),some (x.a,e3)):=fun l=>Qo (by simp)
   rw[hid,hid] at hall
   rw[hall] at hF
   rw[←aa N6]
   simp (disch:=first|assumption|omega|(simp only[aI]<;>omega)) only[go_sem,seval,g1,g2,g3,g4,hg6,h3,gb6,t1]
   generalize hM7:hp _ 0 N6=N7
   obtain ⟨hW7,hC7⟩:=hW6.set hk hM7
   exact hF (by simp) _ N7 u5 hW7 (hN6.trans (hC7.weak (T:=ck::ids u) (by simp)) fun _ h _=>h) hFN5
 clear g1 g2 g3 g4
 rintro d ⟨h3,t,rfl,⟨g1,g2,g3,g4⟩⟩
 change wp _ _ _ _ ⟨ai [] t, [],none,N6⟩ _
 subst h3
 rw[show GU x.a 0=none from Qp rfl] at hall
 have hrs:jL (none:Option (Int×Int))=0:=rfl
 have hra:wP (none:Option (Int×Int))=0:=rfl
 have hsze:=sN x
 rw[nC,List.flatMap_cons,List.length_append,List.flatMap_append,List.length_append] at hbud
 generalize hst8:iD (cs.map (·.1)) (if x.k=6∨x.k=7 then x.b else []) ((L',n+x.own.length),none)=st8 at hall
 have hw8:=CH (Z:=cs.map (·.1)) (bh (if x.k=6∨x.k=7 then x.b else [])) ((L',n+x.own.length),none)
 rw[←k8,hst8] at hw8
 obtain ⟨q1,q2,q3⟩:=hw8
 dsimp only at q1 q3
 have t19:(x.l w)[19]? =some w.vb:=rfl
 have t20:(x.l w)[20]? =some w.ve:=rfl
 obtain ⟨Bb,hSb⟩:=hP.b
 obtain ⟨Be,hSe⟩:=hP.e
 refine gG (fun d=>∃t N8 u8,d=⟨t, [],none,N8⟩/\Ky b1 t/\Wk ck B m0 vc u8 st8.1.1 (jL st8.2) (wP st8.2) N8/\Chg (ck::ids u5) N6 N8/\bB N6 u5 u8) (fun R hR'=> ?_) ?_
 ·by_cases h67:x.k=6∨x.k=7
  ·rw[Qp h67] at hst8 hbud q1
   obtain ⟨N8,hr8,u8,hW8,hC8,hF8⟩:=hb hSb (st:=((L',n+x.own.length),none)) hW6 (fun h=>Qn rfl h) (by dsimp only;omega) (by dsimp only;omega) (by omega)
   rw[hst8] at hW8
   rcases h67 with h6|h7
   ·simp (disch:=first|assumption|omega) only[go_sem,seval,g1,g2,g3,g4,gb6,t0,t19,h6,hr8.wf']
    exact hR' _ ⟨_,N8,u8,rfl,⟨by simp only[go_sem,seval,g1],by simp only[go_sem,seval,g2],by simp only[go_sem,seval,g3],by simp only[go_sem,seval,g4]⟩,hW8,hC8,hF8⟩
   ·simp (disch:=first|assumption|omega) only[go_sem,seval,g1,g2,g3,g4,gb6,t0,t19,h7,hr8.wf']
    exact hR' _ ⟨_,N8,u8,rfl,⟨by simp only[go_sem,seval,g1],by simp only[go_sem,seval,g2],by simp only[go_sem,seval,g3],by simp only[go_sem,seval,g4]⟩,hW8,hC8,hF8⟩
  ·rw[Qo h67] at hst8
   have e8:st8=((L',n+x.own.length),none):=by rw[←hst8];rfl
   have d6:x.k≠6:=fun h=>h67 (Or.inl h)
   have d7:x.k≠7:=fun h=>h67 (Or.inr h)
   simp (disch:=first|assumption|omega) only[go_sem,seval,g1,g2,g3,g4,gb6,t0,t19,d6,d7]
   exact hR' _ ⟨_,N6,u5,rfl,⟨by simp only[go_sem,seval,g1],by simp only[go_sem,seval,g2],by simp only[go_sem,seval,g3],by simp only[go_sem,seval,g4]⟩,by rw[e8];exact hW6,(Chg.refl N6).weak (by simp),bB.refl N6 u5⟩
 clear g1 g2 g3 g4 hg6 ho6
 rintro d ⟨t,N8,u8,rfl,⟨g1,g2,g3,g4⟩,hW8,hC8,hF8⟩
 change wp _ _ _ _ ⟨ai [] t, [],none,N8⟩ _
 have hb5:b1∉ck::ids u5:=by rw[Qt,not_or];exact ⟨hbck,hbu5⟩
 have gb8:=(hC8.get ob6 hb5).trans gb6
 have ob8:=hC8.old ob6
 have hFC:∀{u9:NV} {N9:NH} {v9:NV} {M9:NH},Chg (ck::ids u) N M9->bB N u v9->Chg (ck::ids v9) M9 N9->bB M9 v9 u9->Chg (ck::ids u) N N9/\bB N u u9:=by
  intro u9 N9 v9 M9 c1 c2 c3 c4
  refine ⟨c1.trans c3 fun i hi ho=> ?_,fun i hi=> ?_⟩
  ·rcases List.mem_cons.1 hi with e|hi
   ·simp[e]
   ·exact (c2 i hi).elim (fun q=>by simp[q]) fun q=>Qn ho q
  ·exact (c4 i hi).elim (fun q=>c2 i q) fun q=>Or.inr fun o=>q (c1.old o)
 obtain ⟨hN8,hFN8⟩:=hFC hN6 hFN5 hC8 hF8
 by_cases h6:x.k=6
 ·rw[Qp h6] at hall hbud
  have hq:(bh (if x.k=6∨x.k=7 then x.b else [])).flatMap Stm.own=((if x.k=6∨x.k=7 then bh x.b else [])).flatMap Stm.own:=by rw[Qp (Or.inl h6),Qp (Or.inl h6)]
  rw[hq] at q1
  obtain ⟨N9,hr9,u9,hW9,hC9,hF9⟩:=he hSe (st:=st8) hW8 (fun h=>q2 h rfl) (q3 (by omega)) (by omega) (by omega)
  obtain ⟨hN9,hFN9⟩:=hFC hN8 hFN8 hC9 hF9
  rw[←hall] at hW9
  simp (disch:=first|assumption|omega) only[go_sem,seval,g1,g2,g3,g4,gb8,t0,t20,h6,hr9.wf']
  exact hN _ N9 u9 hW9 hN9 hFN9 (by simp only[go_sem,seval,g1]) (by simp only[go_sem,seval,g2]) (by simp only[go_sem,seval]<;>rfl)
 ·rw[Qo h6] at hall
  have e9:dT (cs.map (·.1)) x.all ((L,n),none)=st8:=by rw[hall];unfold iD;split<;>rfl
  rw[←e9] at hW8
  simp (disch:=first|assumption|omega) only[go_sem,seval,g1,g2,g3,g4,gb8,t0,t20,h6]
  exact hN _ N8 u8 hW8 hN8 hFN8 (by simp only[go_sem,seval,g1]) (by simp only[go_sem,seval,g2]) (by simp only[go_sem,seval]<;>rfl)
end
section
variable {ck:D4} {B m0:NH} {vc:NV} {cs:List (List Nat×Int)} {T:D4->Prop}
theorem zK {Z:List (List Nat)} {l:List Stm} {st:qR} (h:st.2≠none):iD Z l st=st:=Qo h
theorem lO (hcs:Sl m0 vc 2 (jD cs)) (hcl:cs.length<=1000000) (h0:∀i,ak m0 i->ak B i) (hk:¬ak m0 ck) (hkB:¬ak B ck) {l:List Stm} (ih:∀x∈l,mA ck B m0 vc cs T x.b/\mA ck B m0 vc cs T x.e):mA ck B m0 vc cs T l:=by
 intro v C N u st hS hW hne hle hbud hsz
 refine WF.ex1 fun K hK=> ?_
 refine WF.of_wpG (fun _=>rfl) x8 (L:= [(.a .e,v),(.e,.ptr ck 0)]) rfl ?_
 unfold Jj
 have hll:=kY l
 simp (disch:=first|assumption|omega) only[go_sem,seval,aa]
 refine W.loop (fun k d=>∃t M i u' st',d=⟨t, [],none,M⟩/\NT.get D4.e t=some (.ptr ck 0)/\NT.get D4.e.a t=some v/\NT.get D4.e.f t=some (ii (i:Nat))/\i+k=l.length/\iD (cs.map (·.1)) (l.drop i) st'=iD (cs.map (·.1)) l st/\Wk ck B m0 vc u' st'.1.1 (jL st'.2) (wP st'.2) M/\Chg (ck::ids u) N M/\bB N u u'/\(st'.2≠none->jL st'.2≠0)/\st'.1.1.length<=st'.1.2/\st'.1.2+((bh (l.drop i)).flatMap Stm.own).length<=100000000) ?_ l.length _ ⟨_,N,0,u,st,rfl,by simp only[go_sem,seval],by simp only[go_sem,seval],by simp only[go_sem,seval]<;>rfl,by omega,rfl,hW,(Chg.refl N).weak (by simp),bB.refl N u,hne,hle,hbud⟩
 rintro k d ⟨t,M,i,u',st',rfl,g1,g2,g3,hik,hE,hWM,hC,hF,hne',hle',hbud'⟩
 apply ap
 change wp _ _ _ _ ⟨ai [] t, [],none,M⟩ _
 have hSM:=hS.stays (lg hWM.c T)
 have hlen:=hSM.sl.len
 rw[hS.len] at hlen
 have hg:=hWM.g
 by_cases hi:i<l.length
 ·by_cases hs:st'.2=none
  ·obtain ⟨⟨L,n⟩,r⟩:=st'
   cases hs
   obtain ⟨w,hcx,hRx,hPx⟩:=CN hS i hi
   obtain ⟨id,off,wr,c,a1,a2,a3,a4,a5⟩:=Fm hSM i hi hcx
   have hsx:=x7 (List.getElem_mem hi)
   obtain ⟨h1,h2⟩:=ih _ (List.getElem_mem hi)
   rw[List.drop_eq_getElem_cons hi] at hE hbud'
   rw[A5] at hE
   rw[bh,List.flatMap_append,List.length_append] at hbud'
   dsimp only at hbud' hle'
   obtain ⟨q1,q2,q3⟩:=CH (Z:=cs.map (·.1)) l[i].all ((L,n),none)
   have hstep:∀{u9:NV} {N9:NH},Chg (ck::ids u') M N9->bB M u' u9->Chg (ck::ids u) N N9/\bB N u u9:=by
    intro u9 N9 c3 c4
    refine ⟨hC.trans c3 fun i hi ho=> ?_,fun i hi=> ?_⟩
    ·rcases List.mem_cons.1 hi with e|hi
     ·simp[e]
     ·exact (hF i hi).elim (fun q=>by simp[q]) fun q=>Qn ho q
    ·exact (c4 i hi).elim (fun q=>hF i q) fun q=>Or.inr fun o=>q (hC.old o)
   refine CI hcs hcl h0 hk hkB hRx hPx h1 h2 (L:=L) (n:=n) hle' (by omega) (by omega) hWM (ln:=l.length) hi hlen (by omega) a1 a2 a3 a4 a5 g1 g2 g3 ?_ ?_
   ·intro t' N' u9 hW9 hC9 hF9 k1 k2 k3
    obtain ⟨r1,r2⟩:=hstep hC9 hF9
    exact ⟨k - 1,by omega,t',N',i+1,u9,_,rfl,k1,k2,k3,by omega,hE,hW9,r1,r2,fun h=>q2 h rfl,q3 hle',by dsimp only at q1;omega⟩
   ·intro hn t' N' u9 hW9 hC9 hF9
    obtain ⟨r1,r2⟩:=hstep hC9 hF9
    rw[zK hn] at hE
    rw[←hE] at hK
    simp (disch:=first|assumption|omega) only[go_sem,seval]
    exact hK _ ⟨u9,hW9,r1,r2⟩
  ·have hr:=hne' hs
   rw[zK hs] at hE
   rw[←hE] at hK
   generalize jL st'.2=z at hg hr hWM hK
   unfold lp
   simp (disch:=first|assumption|omega) only[go_sem,seval,g1,g2,g3,hlen,hg]
   exact hK _ ⟨u',hWM,hC,hF⟩
 ·rw[List.drop_of_length_le (by omega)] at hE
  have e0:iD (cs.map (·.1)) [] st'=st':=by unfold iD;split<;>rfl
  rw[e0] at hE
  rw[←hE] at hK
  unfold lp
  simp (disch:=first|assumption|omega) only[go_sem,seval,g1,g2,g3,hlen]
  exact hK _ ⟨u',hWM,hC,hF⟩
theorem J2 (hcs:Sl m0 vc 2 (jD cs)) (hcl:cs.length<=1000000) (h0:∀i,ak m0 i->ak B i) (hk:¬ak m0 ck) (hkB:¬ak B ck):∀l:List Stm,mA ck B m0 vc cs T l:=by
 have key:∀x:Stm,mA ck B m0 vc cs T x.b/\mA ck B m0 vc cs T x.e:=by
  apply Stm.ind
  intro k a nm ce i x y b e hb he
  exact ⟨lO hcs hcl h0 hk hkB hb,lO hcs hcl h0 hk hkB he⟩
 exact fun l=>lO hcs hcl h0 hk hkB fun x _=>key x
end
structure PrgOk (p:Prg):Prop where
 cs:CsOk p.cs
 zt:∀t∈p.ts,cz t.2<=400000
 zr:cz p.r<=400000
 gt:∀t∈p.ts,∀s∈t.2,Gs p.cs s
 gr:∀s∈p.r,Gs p.cs s
 nt:p.ts.length<=1000
theorem PrgOk.run {p:Prg} {B:NH} {vc vt vr:NV} (h:PrgOk p) (hr:RP B (fun _=>True) p vc vt vr):RunC p B vc vt vr:=⟨hr,h.cs,h.zt,h.zr,h.gt,h.gr,h.nt⟩
structure TsC (m0 M:NH) (T T':D4->Prop) (l:List (List Nat×List Stm)) (i:Nat) (C:List (List NV)):Prop where
 n:C.length=l.length
 a:∀(j:Nat) (x:List Nat×List Stm) (c:List NV),j<i->l[j]? =some x->C[j]? =some c->∃vb E,c= [.str x.1,vb]/\SS M T' vb x.2 E
 b:∀(j:Nat) (x:List Nat×List Stm) (c:List NV),i<=j->l[j]? =some x->C[j]? =some c->∃vb E,c= [.str x.1,vb]/\SS m0 T vb x.2 E
def vG (p:Prg):Mc:=⟨List.replicate (bn p.cs).toNat 0, [],false⟩
def KG (p:Prg) (m m':NH) (w:NV):Prop:=
 if (eT p).2≠0 then w= .tup [.nilp,ii (eT p).2]/\Chg [] m m'
 else ∃r B vc vt vr vcl vo vth q bs,w= .tup [.ptr r 0,ii 0]/\RunC p B vc vt vr/\Chg [] m B/\iF p B vc vt vr m' r (lu p (vG p)) 0 vcl vo vth q bs/\Chg [] m m'/\∀i∈RunG.foot r vcl vo vth q bs,¬ak m i
set_option maxHeartbeats 1000000 in
theorem NU {m:NH} {T:D4->Prop} {p:Prg} {vc vt vr:NV} (h:RP m T p vc vt vr) (hs:p.cs.length<=100000/\p.ts.length<=100000) (hz:∀t∈p.ts,cz t.2<=400000) (hr:cz p.r<=400000) (hok:(eT p).2=0->PrgOk p):
 ∃w m',bc Try.prog S0 35 [.agg [vc,vt,vr]] m w m'/\KG p m m' w:=by
 refine WF.ex fun K' hK'=> ?_
 refine WF.of_wpG (fun _=>rfl) zA (L:= [(.e,.agg [vc,vt,vr])]) rfl ?_
 unfold IU
 obtain ⟨hcs,hts⟩:=hs
 generalize hM1:hp [(.n 0,.cells true [vc,vt,vr])] 1 m=M1
 have hC1:Chg [] m M1:=aY hM1 rfl
 have g1:M1.get (na m 0)=some (.cells true [vc,vt,vr]):=bw hM1
 have o1:ak M1 (na m 0):=bx hM1 (by omega)
 have h1:=h.stays (lg hC1 T)
 obtain ⟨M2,r2,hC2⟩:=NJ h1 ⟨by omega,by omega⟩ (fun t ht=>by have:=hz t ht;omega) (by omega)
 have g2:=(hC2.get o1 (by simp)).trans g1
 have o2:=hC2.old o1
 have hCm2:=hC1.trans hC2 (by simp)
 unfold KG at hK'
 by_cases hE:(eT p).2≠0
 ·simp only[Qp hE] at hK'
  simp (disch:=first|assumption|omega|(simp only[aI]<;>omega)) only[go_sem,seval,hM1,g1,r2.wf']
  exact hK' _ _ ⟨rfl,hCm2⟩
 ·simp only[Qo hE] at hK'
  have hE0:(eT p).2=0:=by simpa using hE
  have hok:=hok hE0
  obtain ⟨CT,hT⟩:=h.t
  obtain ⟨CR,hR⟩:=h.r
  obtain ⟨vc1,M3,r3,ho3,hC3⟩:=NQ (h.c.grew hCm2) (by simp;omega)
  have hCm3:=hCm2.trans hC3 (by simp)
  obtain ⟨vt1,M4,r4,ho4,hC4⟩:=LN (hT.sl.grew hCm3) (by rw[hT.len];omega)
  have hCm4:=hCm3.trans hC4 (by simp)
  obtain ⟨vr1,M5,r5,⟨ER,hR5⟩,hC5⟩:=x0 p.r hR (lg hCm4 T) (by omega)
  have hCm5:=hCm4.trans hC5 (by simp)
  have hC25:=(hC3.trans hC4 (by simp)).trans hC5 (by simp)
  have g3:=(hC3.get o2 (by simp)).trans g2
  have g4:=((hC3.trans hC4 (by simp)).get o2 (by simp)).trans g2
  have g5:=(hC25.get o2 (by simp)).trans g2
  have o5:=hC25.old o2
  have k1:=h.c.one
  have k2:=hT.sl.one
  have k3:=hR.sl.one
  have k4:=ho3.sl.one
  have k5:=ho4.sl.one
  have k6:=hR5.sl.one
  have s1:=h.c.same (n:=3)
  have s2:=hT.sl.same (n:=3)
  have s3:=hR.sl.same (n:=3)
  have hlt:=ho4.sl.len
  rw[hT.len] at hlt
  simp (disch:=first|assumption|omega|(simp only[aI]<;>omega)) only[go_sem,seval,hM1,g1,r2.wf',g2,hE0,r3.wf',r4.wf',r5.wf,g3,g4,g5,k1,k2,k3,k4,k5,k6,s1,s2,s3,hlt]
  generalize hM6:hp _ 0 M5=M6
  have hC6:Chg [na m 0] M5 M6:=jM hM6 (by simp[aB])
  have g6:M6.get (na m 0)=some (.cells true [vc1,vt1,vr1]):=gn o5 hM6
  have o6:=hC6.old o5
  have hCm6:Chg [] m M6:=hCm5.trans hC6 fun i hi q=>by have hi:=one hi;subst hi;exact Qn q az
  have vt4:∀i∈ids vt1,¬ak M3 i:=ho4.new
  have vt0:∀i∈ids vt1,i≠na m 0:=fun i hi e=>vt4 i hi (e▸hC3.old o2)
  have vto:∀i∈ids vt1,ak M4 i:=ho4.sl.old
  have hv6:aV m M6 vt1 2 CT:=((ho4.chg hC5 fun _ _=>by simp).chg hC6 fun i hi q=>vt0 i hi (by simpa using q)).back fun i hi=>hCm3.old hi
  have hc6:Sl M6 vc1 2 (jD p.cs):=(ho3.sl.grew (hC4.trans hC5 (by simp))).chg hC6 fun i hi q=>ho3.new i hi (by have q:=one q;subst q;exact o2)
  have hcn:∀i∈ids vc1,ak M3 i/\i≠na m 0:=fun i hi=>⟨ho3.sl.old i hi,fun e=>ho3.new i hi (e▸o2)⟩
  have hr6:SS M6 (fun i=>¬ak M4 i) vr1 p.r ER:=hR5.stays (aW.of hC6 fun i q w=>by have w:=one w;subst w;exact q ((hC3.trans hC4 (by simp)).old o2))
  have o40:ak M4 (na m 0):=(hC3.trans hC4 (by simp)).old o2
  refine W.loop (fun f d=>∃t M i D,d=⟨t, [],none,M⟩/\NT.get D4.e.a t=some (.ptr (na m 0) 0)/\NT.get D4.e.a.c.b t=some (ii (p.ts.length:Nat))/\NT.get D4.e.a.c.c t=some (ii (i:Nat))/\i+f=p.ts.length/\Chg (ids vt1) M6 M/\aV m M vt1 2 D/\Chg [] m M/\TsC m M T (fun i=>i∉ids vt1/\i≠na m 0) p.ts i D) ?_ p.ts.length _ ⟨_,M6,0,CT,rfl,by simp only[go_sem,seval],by simp only[go_sem,seval],by simp only[go_sem,seval]<;>rfl,by omega,(Chg.refl _).weak (by simp),hv6,hCm6,⟨hT.len,fun j x c q=>by omega,fun j x c _=>hT.R j x c⟩⟩
  clear hM6
  rintro f d ⟨t,M,i,D,rfl,t1,t2,t3,hif,hCM,ho,hC,hX⟩
  apply ap
  unfold zg
  change wp _ _ _ _ ⟨ai [] t, [],none,M⟩ _
  have gM:=(hCM.get o6 (fun q=>vt0 _ q rfl)).trans g6
  have oM:=hCM.old o6
  by_cases hi:i<p.ts.length
  ·have hiD:i<D.length:=by rw[hX.n];exact hi
   obtain ⟨id,off,cc,a1,a2,a3,a4,a5,a6,a7,a8⟩:=ho.at i hiD
   obtain ⟨vb,E,eD,hSb⟩:=hX.b i _ _ (Nat.le_refl _) (List.getElem?_eq_getElem hi) (List.getElem?_eq_getElem hiD)
   rw[eD] at a7 a8
   have c1:cc[off+1]? =some vb:=aA a7 1 (by omega)
   have hzt:=hz _ (List.getElem_mem hi)
   obtain ⟨vb',M7,r7,⟨E',hB⟩,hC7⟩:=x0 _ hSb (lg hC T) (by omega)
   have g7:=(hC7.get oM (by simp)).trans gM
   have a47:=(hC7.get a5 (by simp)).trans a4
   have id7:=hC7.old a5
   have hb1:=hB.sl.one
   have hbs:=hSb.sl.same (n:=3)
   have hvs:=ho.sl.same (n:=3)
   simp (disch:=first|assumption|omega) only[go_sem,seval,t1,t2,t3,gM,a1,a4,c1,r7.wf',g7,a47,hb1,hbs,hvs]
   generalize hM8:M7.put id _=M8
   have hM8:M8=hp [(.o id,.cells true (cc.set (off+1) vb'))] 0 M7:=by rw[←hM8,←b9 id7,aa]
   have hC8:Chg [id] M7 M8:=by rw[hM8];exact (cI _ _ _).weak (by simp[aB])
   have hCM8:Chg [id] M M8:=(hC7.weak (by simp)).trans hC8 fun i hi _=>hi
   have idv:id∈ids vt1:=by rw[a2];simp
   have h8:=a8 [(1,vb')] M8 (by simp) (by rw[hM8];exact (aG id7).trans ao) (hC8.old id7)
   refine ⟨f - 1,by omega,_,M8,i+1,D.set i [.str p.ts[i].1,vb'],by rfl,by simp only[go_sem,seval,t1],by simp only[go_sem,seval,t2],by simp only[go_sem,seval]<;>rfl,by omega,hCM.trans hCM8 fun j hj _=>by have hj:=one hj;subst hj;exact idv,h8,hC.trans hCM8 fun j hj q=>by have hj:=one hj;subst hj;exact Qn q a3,⟨by simp[hX.n],fun j x c hj h1 h2=> ?_,fun j x c hj h1 h2=> ?_⟩⟩
   ·by_cases e:j=i
    ·subst e
     rw[List.getElem?_set_self hiD] at h2
     rw[List.getElem?_eq_getElem hi] at h1
     cases h1;cases h2
     refine ⟨vb',E',rfl,(SS.weakT (fun j q=>⟨fun w=>q (ho.sl.old j w),fun w=>q (w▸oM)⟩) hB).stays (aW.of hC8 fun j q w=> ?_)⟩
     simp only[Qt,Qs,or_false] at w
     exact q.1 (w▸idv)
    ·rw[List.getElem?_set_ne (fun a=>e a.symm)] at h2
     obtain ⟨v2,E2,e2,hS2⟩:=hX.a j x c (by omega) h1 h2
     exact ⟨v2,E2,e2,hS2.stays (aW.of hCM8 fun j q w=>by simp only[Qt,Qs,or_false] at w;exact q.1 (w▸idv))⟩
   ·rw[List.getElem?_set_ne (by omega)] at h2
    exact hX.b j x c (by omega) h1 h2
  ·have e:i=p.ts.length:=by omega
   subst e
   have hcM:Sl M vc1 2 (jD p.cs):=hc6.chg hCM fun i hi q=>vt4 i q (hcn i hi).1
   have hRP:RP M (fun _=>True) p vc1 vt1 vr1:=⟨hcM,fun _ _=>trivial,⟨D,ho.sl,fun _ _=>trivial,hX.n,fun j x c h1 h2=>by
    obtain ⟨v2,E2,e2,hS2⟩:=hX.a j x c (List.getElem?_eq_some_iff.1 h1).1 h1 h2
    exact ⟨v2,E2,e2,SS.weakT (fun _ _=>trivial) hS2⟩⟩,⟨ER,SS.weakT (fun _ _=>trivial) (hr6.stays (aW.of hCM fun i q w=>q (vto i w)))⟩⟩
   have hRC:=hok.run hRP
   obtain ⟨M7,r7,hC7⟩:=yS hcM (by omega)
   have hw:=dc p.cs
   obtain ⟨n,hn⟩:=Qv hw.1
   rw[hn] at r7
   have gM7:=(hC7.get oM (by simp)).trans gM
   have kc:=hcM.one
   have kt:=ho.sl.one
   have kr:=hr6.sl.one
   have ks:=hcM.same (n:=3)
   have kst:=ho.sl.same (n:=3)
   have ksr:=hr6.sl.same (n:=3)
   have kag:bi 4 (.agg [vc1,vt1,vr1]) (.agg [vc1,vt1,vr1])=true:=i7 fun w hw=>by
    simp only[Qt,Qs,or_false] at hw
    rcases hw with rfl|rfl|rfl
    ·exact hcM.flat
    ·exact ho.sl.flat
    ·exact hr6.sl.flat
   generalize hM8:hp [(.n 1,.cells true [vc1,vt1,vr1,.slc (na M7 0) 0 n 1 n,.nils,.nilp,.nils,.bool false,.bool false]),(.n 0,.cells true (rep n [iu 0]))] 2 M7=M8
   have hC8:Chg [] M7 M8:=aY hM8 rfl
   have hCM8:=hC7.trans hC8 (by simp)
   have nw:∀j,¬ak M (na M7 j):=fun j q=>az (hC7.old q)
   have g81:M8.get (na M7 1)=some (.cells true [vc1,vt1,vr1,.slc (na M7 0) 0 n 1 n,.nils,.nilp,.nils,.bool false,.bool false]):=bw hM8
   have g80:M8.get (na M7 0)=some (.cells true (rep n [iu 0])):=bw hM8
   have o81:ak M8 (na M7 1):=bx hM8 (by omega)
   have o80:ak M8 (na M7 0):=bx hM8 (by omega)
   have e0:(vG p).cl=List.replicate n 0:=by unfold vG;rw[hn];rfl
   have hMac:Mac (fP vc1 vt1 vr1 .nilp .nils false) M M8 (na M7 1) (.slc (na M7 0) 0 n 1 n) .nils (vG p):=by
    refine ⟨g81,o81,nw 1, ?_,aV.nil,⟨by simp[ids,mH],by simp[ids],by simp[ids]⟩,hCM8⟩
    rw[e0]
    exact aV.of (by simp) (nw 0) g80 o80 (by rw[rZ];simp) (by simp) (by simp)
   have hMok:McOk p.cs (vG p):=⟨fun y hy=>by rw[e0,List.mem_replicate] at hy;rw[hy.2];exact ⟨by simp,by simp⟩,by simp[vG],by rw[e0,List.length_replicate,hn]⟩
   obtain ⟨M9,r9,vth,q,bs,hQ,hE⟩:=tD hRC hMac hMok (o:=0) (by simp[vG])
   simp (disch:=first|assumption|omega|(simp only[aI]<;>omega)) only[go_sem,seval,t1,t2,t3,gM,r7.wf,gM7,kc,kt,kr,ks,kst,ksr,kag,hM8,r9.wf']
   exact hK' _ _ ⟨_,M,_,_,_,_,_,_,_,_,rfl,hRC,hC,hQ,hC.trans (hCM8.trans hE.c fun i hi w=>Qn w (hMac.old i hi).2) (by simp),fun i hi w=>(hQ.all i hi).2 (hC.old w)⟩
section
variable {p:Prg} {B m m':NH} {vc vt vr vcl vo vth:NV} {r:D4} {x:Rn} {o:Nat} {q:Bl} {bs:List Bl}
theorem Gp {q0:Bl} {bs0:List Bl} (hc:RunC p B vc vt vr) (h:iF p B vc vt vr m r x o vcl vo vth q0 bs0):
 ∃m',bc Try.prog S0 81 [.ptr r 0] m (.tup []) m'/\∃vth' q bs,iF p B vc vt vr m' r (lu p x.z) o vcl vo vth' q bs/\EvF (RunG.foot r vcl vo vth q0 bs0) (RunG.foot r vcl vo vth' q bs) m m':=by
 refine WF.ex1 fun K' hK'=> ?_
 refine WF.of_wpG (fun _=>rfl) yO (L:= [(.e,.ptr r 0)]) rfl ?_
 unfold I0
 obtain ⟨m1,r1,vth1,q1,bs1,h1,e1⟩:=tD hc h.mc h.zk h.ol
 rw[aa]
 simp (disch:=first|assumption|omega) only[go_sem,seval,r1.wf']
 exact hK' _ ⟨vth1,q1,bs1,h1,e1.sup (fun i hi=>by simp only[RunG.foot,List.mem_append];exact Or.inl hi) fun j hj=>Or.inr hj⟩
theorem Ns (h:iF p B vc vt vr m r x o vcl vo vth q bs) (ho:o<=1000000):
 ∃v m',bc Try.prog S0 65 [.ptr r 0] m v m'/\aV m m' v 1 (p9 x.z.out)/\Chg [] m m':=by
 refine WF.ex fun K' hK'=> ?_
 refine WF.of_wpG (fun _=>rfl) zw (L:= [(.e,.ptr r 0)]) rfl ?_
 unfold Jk
 have g:=h.mc.g
 have hl:=h.ol
 obtain ⟨v,m1,r1,h1,hC⟩:=H5 h.mc.ou.sl (by simp;omega)
 rw[aa]
 simp (disch:=first|assumption|omega) only[go_sem,seval,g,r1.wf']
 exact hK' _ _ ⟨h1,hC⟩
theorem Eo (h:iF p B vc vt vr m r x o vcl vo vth q bs) (hn:x.z.cl.length<=1000000):
 ∃v m',bc Try.prog S0 39 [.ptr r 0] m v m'/\aV m m' v 1 (p9 x.z.cl)/\Chg [] m m':=by
 refine WF.ex fun K' hK'=> ?_
 refine WF.of_wpG (fun _=>rfl) yi (L:= [(.e,.ptr r 0)]) rfl ?_
 unfold KT
 have g:=h.mc.g
 obtain ⟨v,m1,r1,h1,hC⟩:=H5 h.mc.cl.sl (by simp;omega)
 rw[aa]
 simp (disch:=first|assumption|omega) only[go_sem,seval,g,r1.wf']
 exact hK' _ _ ⟨h1,hC⟩
end
section
variable {B m:NH} {b:D4} {pl nm vv:NV} {ns:List (List Nat)} {x:Bd} {cs:List (List Nat×Int)}
theorem As (hC0:Chg [] B m) {vl:NV} {l:List Stm} {E:List (List NV)} (hS:SS B (fun _=>True) vl l E) (hz:cz l<=1000000):
 ∃w m',bc Try.prog S0 79 [vl] m w m'/\∃b pl nm vv,w= .ptr b 0/\Bod iA B m' b pl nm vv (locals l) (fU l)/\Chg [] m m'/\∀i∈bU b pl nm vv,¬ak m i:=by
 refine WF.ex fun K' hK'=> ?_
 refine WF.of_wpG (fun _=>rfl) yA (L:= [(.e,vl)]) rfl ?_
 unfold Kr
 obtain ⟨nm,m1,r1,hn,hC1⟩:=Do hS hC0 (by omega)
 have hlen:=hn.sl.len
 rw[List.length_map] at hlen
 have hn1:=hn.sl.one
 have hv1:=hS.sl.one
 have hls:=lT l
 rw[aa]
 simp (disch:=first|assumption|omega|(simp only[aI]<;>omega)) only[go_sem,seval,r1.wf,hlen,hn1,hv1]
 generalize hM:hp _ 3 m1=M
 have hC2:Chg [] m1 M:=aY hM rfl
 have g0:M.get (na m1 1)=some (.cells true [vl,ii 0]):=bw hM
 have g1:M.get (na m1 0)=some (.cells true (rep (locals l).length [iu 0])):=bw hM
 have g2:M.get (na m1 2)=some (.cells true (iA (.slc (na m1 1) 0 1 2 1) nm (.slc (na m1 0) 0 (locals l).length 1 (locals l).length) 0)):=bw hM
 have o0:ak M (na m1 0):=bx hM (by omega)
 have o1:ak M (na m1 1):=bx hM (by omega)
 have o2:ak M (na m1 2):=bx hM (by omega)
 have hCm:=hC1.trans hC2 (by simp)
 have new:∀j,¬ak m (na m1 j):=fun j q=>az (hC1.old q)
 have newB:∀j,¬ak B (na m1 j):=fun j q=>new j (hC0.old q)
 have nno:∀j,na m1 j∉ids nm:=fun j q=>az (hn.sl.old _ q)
 refine hK' _ _ ⟨na m1 2,.slc (na m1 1) 0 1 2 1,nm,.slc (na m1 0) 0 (locals l).length 1 (locals l).length,rfl,⟨g2,o2,newB 2,⟨[[vl,ii 0]],aV.of (by simp) (newB 1) g0 o1 rfl rfl rfl,⟨rfl,fun j z c h1 h2=> ?_⟩⟩, ?_,(hn.chg hC2 fun _ _=>by simp).back fun i hi=>hC0.old hi, ?_, ?_, ?_,hC0.trans hCm (by simp)⟩,hCm, ?_⟩
 ·cases j with
  |zero=>cases h1;cases h2;exact ⟨vl,E,rfl,hS⟩
  |succ j=>simp[fU] at h1
 ·refine aV.of (by simp) (newB 0) g1 o0 (by rw[rZ];simp[fU]) (by simp[fU]) (by simp[fU])
 ·simp only[ids,Qt,Qs,or_false,mH];exact ⟨by omega,by omega,nno 2⟩
 ·intro i hi;simp only[ids,Qt,Qs,or_false] at hi ⊢;subst hi;exact ⟨by rw[mH];omega,nno 1⟩
 ·intro i hi;simp only[ids,Qt,Qs,or_false] at hi;subst hi;exact nno 0
 ·intro i hi
  simp only[bU,ids,Qt,List.mem_append,Qs,or_false] at hi
  rcases hi with rfl|rfl|rfl|hi
  ·exact new 2
  ·exact new 1
  ·exact new 0
  ·exact hn.new i hi
theorem rB (h:Bod iA B m b pl nm vv ns x) (hk:BdOk cs ns x) (s:List Nat) (z:Int):
 ∃m',bc Try.prog S0 129 [.ptr b 0,.str s,iu z] m (.tup []) m'/\Bod iA B m' b pl nm vv ns ⟨x.K,j9 ns x.v s z,x.s⟩/\EvF (bU b pl nm vv) (bU b pl nm vv) m m':=by
 have hln:=hk.ln
 have hlv:=hk.lv
 refine WF.ex1 fun K' hK'=> ?_
 refine WF.of_wpG (fun _=>rfl) uL (L:= [(.b .e,iu z),(.a .e,.str s),(.e,.ptr b 0)]) rfl ?_
 unfold FA
 have g:=h.g
 have hlen:=h.n.sl.len
 rw[List.length_map] at hlen
 simp (disch:=first|assumption|omega) only[go_sem,seval,aa]
 refine W.loop (fun f d=>∃t i,d=⟨t, [],none,m⟩/\NT.get D4.e t=some (.ptr b 0)/\NT.get D4.e.a t=some (.str s)/\NT.get D4.e.b t=some (iu z)/\NT.get D4.e.a.b t=some (ii (i:Nat))/\i+f=ns.length/\∀j (hj:j<i) (hl:j<ns.length),s≠ns[j]) ?_ ns.length _ ⟨_,0,rfl,by simp only[go_sem,seval],by simp only[go_sem,seval],by simp only[go_sem,seval],by simp only[go_sem,seval]<;>rfl,by omega,by omega⟩
 rintro f d ⟨t,i,rfl,t1,t2,t3,t4,hif,hn⟩
 apply ap
 unfold tJ
 change wp _ _ _ _ ⟨ai [] t, [],none,m⟩ _
 by_cases hi:i<ns.length
 ·obtain ⟨idn,offn,wn,cn,d1,d2,d3,d4,d5⟩:=h.n.sl.at i (by simpa using hi)
  rw[List.getElem_map] at d5
  have e0:cn[offn]? =some (.str ns[i]):=aA d5 0 (by omega)
  by_cases hs:ns[i]=s
  ·obtain ⟨id,off,cc,a1,a2,a3,a4,a5,a6,a7,a8⟩:=h.v.at i (by rw[List.length_map];omega)
   have hfi:bG ns s=i:=fm hi hs.symm fun j hj=>hn j hj (by omega)
   have hde:decide (ns[i]=s)=true:=Qr hs
   simp (disch:=first|assumption|omega) only[go_sem,seval,t1,t2,t3,t4,g,hlen,d1,d2,e0,hde,a1,a4]
   generalize hM:m.put id _=M
   have hM:M=hp [(.o id,.cells true (cc.set off (iu z)))] 0 m:=by rw[←hM,←b9 a5,aa]
   refine hK' _ ?_
   refine h.vals (by rw[hM,a2];exact (cI _ _ _).weak (by simp[aB])) ?_
   have:=a8 [(0,iu z)] M (by simp) (by rw[hM];exact (aG a5).trans ao) (by rw[hM];exact bI a5)
   unfold j9
   rw[hfi,Qp (by omega),Int.toNat_natCast]
   show aV B M vv 1 ((x.v.set i z).map fun z=> [iu z])
   rw[List.map_set]
   rw[List.getElem_map] at this
   exact this
  ·have hde:decide (ns[i]=s)=false:=Qq hs
   simp (disch:=first|assumption|omega) only[go_sem,seval,t1,t2,t3,t4,g,hlen,d1,d2,e0,hde]
   refine ⟨f - 1,by omega,_,i+1,by rfl,by simp only[go_sem,seval,t1],by simp only[go_sem,seval,t2],by simp only[go_sem,seval,t3],by simp only[go_sem,seval]<;>rfl,by omega,fun j hj hl=> ?_⟩
   by_cases e:j=i
   ·subst e;exact fun q=>hs q.symm
   ·exact hn j (by omega) hl
 ·simp (disch:=first|assumption|omega) only[go_sem,seval,t1,t2,t3,t4,g,hlen]
  refine hK' _ ?_
  have hfi:bG ns s=-1:=d9 fun j hj=>hn j (by omega) hj
  unfold j9
  rw[hfi,Qo (by omega)]
  exact ⟨h,EvF.refl m⟩
theorem Lp (h:Bod iA B m b pl nm vv ns x) (hk:BdOk cs ns x):
 ∃m',bc Try.prog S0 128 [.ptr b 0] m (.bool (decide (bO x.K= []))) m'/\∃pl',Bod iA B m' b pl' nm vv ns ⟨bO x.K,x.v,x.s⟩/\EvF (bU b pl nm vv) (bU b pl' nm vv) m m':=by
 refine WF.ex1 fun K' hK'=> ?_
 refine WF.of_wpG (fun _=>rfl) vA (L:= [(.e,.ptr b 0)]) rfl ?_
 unfold Fk
 simp (disch:=first|assumption|omega) only[go_sem,seval,aa]
 refine W.loop (fun k d=>∃t M pl' K,d=⟨t, [],none,M⟩/\NT.get D4.e t=some (.ptr b 0)/\K.length=k/\bO K=bO x.K/\BdOk cs ns ⟨K,x.v,x.s⟩/\Bod iA B M b pl' nm vv ns ⟨K,x.v,x.s⟩/\EvF (bU b pl nm vv) (bU b pl' nm vv) m M) ?_ x.K.length _ ⟨_,m,pl,x.K,rfl,by simp only[go_sem,seval],rfl,rfl,hk,h,EvF.refl m⟩
 rintro k d ⟨t,M,pl',K,rfl,t1,hKk,hT,hk1,h1,hE⟩
 apply ap
 unfold s7
 change wp _ _ _ _ ⟨ai [] t, [],none,M⟩ _
 have g:=h1.g
 obtain ⟨C,hP,hC⟩:=h1.p
 have hpl:=hP.sl.len
 rw[hC.n,List.length_reverse] at hpl
 cases K with
 |nil=>
  simp (disch:=first|assumption|omega) only[go_sem,seval,t1,g,hpl]
  rw[←hT] at hK'
  rw[Qr (show bO []= [] from rfl)] at hK'
  exact hK' _ ⟨pl',h1,hE⟩
 |cons y K=>
  obtain ⟨b1,b2,b3⟩:=hk1.bnd rfl
  simp only[List.reverse_cons] at hC
  obtain ⟨C0,c,rfl,hC0,vl,E,rfl,hS⟩:=hC.last
  have hn:=hC0.n
  rw[List.length_reverse] at hn
  obtain ⟨id,off,cc,a1,a2,a3,a4,a5,a6,a7,a8⟩:=hP.at C0.length (by simp)
  rw[List.getElem_append_right (by omega)] at a7
  simp only[Nat.sub_self,List.getElem_cons_zero] at a7
  have c0:cc[off+0]? =some vl:=aA a7 0 (by omega)
  have c1:cc[off+1]? =some (ii y.2):=aA a7 1 (by omega)
  have hlS:=hS.sl.len
  rw[hS.len] at hlS
  simp only[List.length_cons] at hKk hpl
  have e1:(((K.length+1:Nat):Int) - 1)=(C0.length:Nat):=by omega
  by_cases hy:y.2<y.1.length
  ·simp (disch:=first|assumption|omega) only[go_sem,seval,t1,g,hpl,e1,a1,a4,c0,c1,hlS]
   have e:bO (y::K)=y::K:=by rw[bO,Qp hy]
   rw[←hT,e,Qq (by simp)] at hK'
   exact hK' _ ⟨pl',h1,hE⟩
  ·have hPl:=hP
   obtain ⟨h0,⟨e,e'⟩|⟨idp,offp,kcp,cp,rfl,hbp,p1,p2,p3,p3',p4⟩⟩:=hPl
   ·simp at e'
   ·rw[←aa M]
    have hl2:(C0++ [[vl,ii y.2]]).length=C0.length+1:=by simp
    rw[hl2] at g a1
    have ob:=h1.o
    have e2:(((C0.length+1:Nat):Int) - 1)=(C0.length:Nat):=by omega
    simp (disch:=first|assumption|omega|(simp only[aI]<;>omega)) only[go_sem,seval,t1,g,e1,e2,a1,a4,c0,c1,hlS]
    generalize hM2:hp _ 0 M=M2
    rw[hl2] at h1
    obtain ⟨q1,q2⟩:=h1.cut (m':=M2) rfl (gn h1.o hM2) (jM hM2 (by simp[aB]))
    have e:bO (y::K)=bO K:=by rw[bO,Qo hy]
    rw[e] at hT
    rw[hl2] at hE
    exact ⟨K.length,by omega,_,M2,_,K,by rfl,by simp only[go_sem,seval,t1],rfl,hT,⟨pC hk1.ch,fun z hz=>hk1.gs z (List.mem_cons_of_mem _ hz),fun z hz=>hk1.pos z (List.mem_cons_of_mem _ hz),hk1.iv,hk1.ln,hk1.lv⟩,q1,hE.trans q2⟩
end
section
variable {B m:NH} {r b:D4} {vcl vo pl nm vv vc vt vr rec vth:NV} {ns:List (List Nat)} {x:Bd} {z:Mc} {cs:List (List Nat×Int)}
theorem zD {B:NH} {t:Stm} {W:SV} (h:SP B (fun _=>True) t W):bi 4 (.agg (t.l W)) (.agg (t.l W))=true:=by
 obtain ⟨_,_,e1,s1⟩:=h.i.inv'
 obtain ⟨_,_,e2,s2⟩:=h.x.inv'
 obtain ⟨_,_,e3,s3⟩:=h.y.inv'
 injection e1 with _ e1;injection e1 with _ e1;injection e1 with _ e1;injection e1 with _ e1;injection e1 with e1 _
 injection e2 with _ e2;injection e2 with _ e2;injection e2 with _ e2;injection e2 with _ e2;injection e2 with e2 _
 injection e3 with _ e3;injection e3 with _ e3;injection e3 with _ e3;injection e3 with _ e3;injection e3 with e3 _
 obtain ⟨_,hb⟩:=h.b
 obtain ⟨_,he⟩:=h.e
 refine i7 fun w hw=> ?_
 simp only[Qt,Qs,or_false] at hw
 rcases hw with rfl|rfl|rfl|rfl|rfl|rfl|rfl|rfl|rfl|rfl|rfl|rfl|rfl|rfl|rfl|rfl|rfl|rfl|rfl|rfl|rfl
 all_goals first|trivial|(rw[e1];exact s1.sl.flat)|(rw[e2];exact s2.sl.flat)|(rw[e3];exact s3.sl.flat)|exact hb.sl.flat|exact he.sl.flat
theorem Hb (hM:Mac (fR vc vt vr rec vth) B m r vcl vo z) (hb:Bod iA B m b pl nm vv ns x) (hk:BdOk cs ns x) (hc:Sl B vc 2 (jD cs)) (hcs:CsOk cs) {t:Stm} {W:SV} (hSP:SP B (fun _=>True) t W) (hce:t.ce∈cs.map (·.1)) (hwi:Wid t.i):
 ∃m',bc Try.prog S0 161 [.ptr r 0,.ptr b 0,.agg (t.l W)] m (ii (jK cs (t.i.eval ns x.v) t)) m'/\Chg [] m m':=by
 obtain ⟨i,hi,hl⟩:=FH hce
 refine WF.ex1 fun K' hK'=> ?_
 refine WF.of_wpG (fun _=>rfl) vu (L:= [(.b .e,.agg (t.l W)),(.a .e,.ptr b 0),(.e,.ptr r 0)]) rfl ?_
 unfold CD
 have hlen:=hcs.len
 generalize hM1:hp [(.n 0,.cells true (t.l W))] 1 m=M1
 have hC1:Chg [] m M1:=aY hM1 rfl
 have q1:M1.get (na m 0)=some (.cells true (t.l W)):=bw hM1
 have u1:ak M1 (na m 0):=bx hM1 (by omega)
 have hb1:=hb.grow hC1
 have hm1:=hM.grow hC1
 have r1:=rt (hc.grew hm1.c) (by omega) t.ce
 rw[hi] at r1
 obtain ⟨m2,r2,hC2⟩:=pn t.i hSP.i (lg hm1.c _) hwi (hb1.env hk)
 have hm2:=hm1.grow hC2
 have hb2:=hb1.grow hC2
 obtain ⟨m3,r3,hC3⟩:=Pi (hc.grew hm2.c) (by omega) (i:Int)
 have q2:=(hC2.get u1 (by simp)).trans q1
 obtain ⟨idc,offc,wc,ccs,e1,e2,e3,e4,e5⟩:=hc.at i (by simpa using hl)
 rw[List.getElem_map] at e5
 have s1:ccs[offc+1]? =some (ii cs[i].2):=aA e5 1 (by omega)
 have hsz:=hcs.sz _ (List.getElem_mem hl)
 have g1:=hm1.g
 have g2:=hm2.g
 have gb1:=hb1.g
 have gb2:=hb2.g
 have e11:=(hm1.c.get e3 (by simp)).trans e2
 have e12:=(hm2.c.get e3 (by simp)).trans e2
 have hwt:=nP (t.i.eval ns x.v) hi hl
 have hat:=Ei hl
 have hev:=dy (ns:=ns) hk.iv t.i hwi
 have h64:(cs[i].2 - 1) % 18446744073709551616=cs[i].2 - 1:=by omega
 have hand:=yE hev (show dK (cs[i].2 - 1) by unfold dK;omega)
 have hW:=dc (cs.take i)
 have hW2:=pf cs i
 have hW3:=dc cs
 have hq:=Nz hW.1 (by omega)
 have hle:=Nat.and_le_right (n:=(t.i.eval ns x.v).toNat) (m:=(cs[i].2 - 1).toNat)
 have hsI:=cD hSP.i
 have hvc:=hc.same (n:=3)
 have hnn:=hb.n.sl.same (n:=3)
 have hvv:=hb.v.sl.same (n:=3)
 simp (disch:=first|assumption|omega|(simp only[aI]<;>omega)) only[go_sem,seval,hM1,g1,g2,gb1,gb2,q1,q2,r1.wf',r2.wf',r3.wf',e1,e11,e12,s1,h64,hand,hat,hq,hsI,hvc,hnn,hvv]
 rw[hwt] at hK'
 exact hK' _ ((hC1.trans hC2 (by simp)).trans hC3 (by simp))
theorem Mz (hM:Mac (fR vc vt vr rec vth) B m r vcl vo z) (hb:Bod iA B m b pl nm vv ns x) (hd:∀i∈bE r vcl vo,i∉bU b pl nm vv) (hk:BdOk cs ns x) (hc:Sl B vc 2 (jD cs)) (hcs:CsOk cs) (hz:McOk cs z) (ho:z.out.length<=1000000) {t:Stm} {W:SV} (hSP:SP B (fun _=>True) t W) (hG:Gs cs t) (ht:t.k=1∨t.k=2∨t.k=3∨t.k=5):
 ∃m',bc Try.prog S0 130 [.ptr r 0,.ptr b 0,.agg (t.l W)] m (.tup []) m'/\∃vo',Mac (fR vc vt vr rec vth) B m' r vcl vo' (fW cs ns t x z).2/\Bod iA B m' b pl nm vv ns (fW cs ns t x z).1/\EvF (bE r vcl vo++bU b pl nm vv) (bE r vcl vo'++bU b pl nm vv) m m'/\∀i∈bE r vcl vo',i∉bU b pl nm vv:=by
 refine WF.ex1 fun K' hK'=> ?_
 refine WF.of_wpG (fun _=>rfl) tn (L:= [(.b .e,.agg (t.l W)),(.a .e,.ptr b 0),(.e,.ptr r 0)]) rfl ?_
 unfold FN
 obtain ⟨g1,g2,g3,g4⟩:=jx hG
 generalize hM0:hp [(.n 0,.cells true (t.l W))] 1 m=M0
 have hC0:Chg [] m M0:=aY hM0 rfl
 have q0:M0.get (na m 0)=some (.cells true (t.l W)):=bw hM0
 have u0:ak M0 (na m 0):=bx hM0 (by omega)
 have hb0:=hb.grow hC0
 have hm0:=hM.grow hC0
 have gb0:=hb0.g
 obtain ⟨m1,r1,hC1⟩:=pn t.x hSP.x (lg hm0.c _) g3 (hb0.env hk)
 have hb1:=hb0.grow hC1
 have hm1:=hm0.grow hC1
 have q1:=(hC1.get u0 (by simp)).trans q0
 have u1:=hC1.old u0
 have gb1:=hb1.g
 have gm1:=hm1.g
 have hsX:=cD hSP.x
 have hsY:=cD hSP.y
 have hsT:=zD hSP
 have hnn:=hb.n.sl.same (n:=3)
 have hvv:=hb.v.sl.same (n:=3)
 have hcv:=hM.cl.sl.same (n:=3)
 have hC01:=hC0.trans hC1 (by simp)
 have hbB:∀i∈bU b pl nm vv,¬ak B i:=fun i hi=>(hb.old i hi).2
 have hMB:∀i∈bE r vcl vo,¬ak B i:=fun i hi=>(hM.old i hi).2
 have hd':∀i∈bU b pl nm vv,i∉bE r vcl vo:=fun i hi q=>hd i q hi
 have hna:na m 0∉bU b pl nm vv:=fun q=>az (hb.old _ q).1
 have hna2:na m 0∉bE r vcl vo:=fun q=>az (hM.old _ q).1
 unfold fW at hK'
 by_cases h5:t.k=5
 ·have h1:t.k≠1:=by omega
  have h2:t.k≠2:=by omega
  have h3:t.k≠3:=by omega
  simp only[Qo h1,Qo h2,Qo h3,Qp h5] at hK'
  have hvo:=hM.ou.sl.one
  have sb:=t.x.eval ns x.v
  simp (disch:=first|assumption|omega|(simp only[aI]<;>omega)) only[go_sem,seval,hM0,q0,gb0,gb1,q1,hsX,hnn,hvv,r1.wf,gm1,hvo]
  have hC2:Chg [] m1 (hp [(.n 0,.cells true [iu (t.x.eval ns x.v)])] 1 m1):=aE rfl
  have hM2:=hm1.grow hC2
  refine fA (cs:= [iu (t.x.eval ns x.v)]) hM2.ou bo (bv (by omega)) rfl (fun i hi=>hM2.c.old hi) (by simp;omega) (by simp;omega) ?_
  intro vo' M3 hO3 hC3 hF3
  have hvoB:∀i∈ids vo,¬ak B i:=fun i hi=>hMB i (by simp[bE,hi])
  have hC23:Chg [] B M3:=hM2.c.trans hC3 fun i hi ho=>Qn ho (hvoB i hi)
  have g3':=(hC3.get hM2.o hM.d.2.1).trans hM2.g
  have o3:=hC3.old hM2.o
  have hvo':=hO3.sl.one
  simp (disch:=first|assumption|omega|(simp only[aI]<;>omega)) only[go_sem,seval,g3',hvo']
  generalize hM4:M3.put r _=M4
  have hM4:M4=hp [(.o r,.cells true (fR vc vt vr rec vth vcl vo' z.ill))] 0 M3:=by rw[←hM4,←b9 o3,aa]
  have hC4:Chg [r] M3 M4:=by rw[hM4];exact (cI _ _ _).weak (by simp[aB])
  have hrv:r∉ids vo':=fun q=>(hF3 r q).elim hM.d.2.1 fun q=>q hM2.o
  have hvn:∀i∈ids vo',i∈ids vo∨¬ak m i:=fun i hi=>(hF3 i hi).imp id fun q ho=>q (hC2.old (hC01.old ho))
  have hEv:EvF (bE r vcl vo) (bE r vcl vo') m M4:=by
   refine ⟨((((hC01.trans hC2 (by simp)).weak (T:=bE r vcl vo) (by simp)).trans hC3 fun i hi _=>by simp[bE,hi]).trans hC4 fun i hi _=>by have hi:=one hi;subst hi;simp[bE]),fun j hj=> ?_⟩
   simp only[bE,Qt,List.mem_append] at hj ⊢
   rcases hj with hj|hj|hj
   ·exact Or.inl (Or.inl hj)
   ·exact Or.inl (Or.inr (Or.inl hj))
   ·exact (hvn j hj).imp (fun q=>Or.inr (Or.inr q)) id
  have hn4:∀{v:NV} {C:List (List NV)},aV B M3 v 1 C->r∉ids v->aV B M4 v 1 C:=fun ho hr=>ho.chg hC4 fun i hi q=>by have q:=one q;subst q;exact hr hi
  refine hK' _ ⟨vo',⟨by rw[hM4];exact (aG o3).trans ao,hC4.old o3,hM.nB,hn4 (hM2.cl.chg hC3 fun i hi=>hM.d.2.2 i hi) hM.d.1, ?_,⟨hM.d.1,hrv,fun i hi q=>(hF3 i q).elim (hM.d.2.2 i hi) fun q=>q (hM2.cl.sl.old i hi)⟩,hC23.trans hC4 fun i hi ho=> ?_⟩,hb.ev hEv hd' hMB,hEv.addL _,fun i hi q=> ?_⟩
  ·have:=hn4 hO3 hrv
   show aV B M4 vo' 1 ((z.out++ [t.x.eval ns x.v]).map fun z=> [iu z])
   rw[List.map_append]
   exact this
  ·have hi:=one hi;subst hi;exact Qn ho hM.nB
  ·simp only[bE,Qt,List.mem_append] at hi
   rcases hi with hi|hi|hi
   ·exact hd i (by simp[bE,hi]) q
   ·exact hd i (by simp[bE,hi]) q
   ·exact (hvn i hi).elim (fun p=>hd i (by simp[bE,p]) q) fun p=>p (hb.old i q).1
 ·have h123:t.k=1∨t.k=2∨t.k=3:=by omega
  obtain ⟨m2,r2,hC2⟩:=Hb hm1 hb1 hk hc hcs hSP (g1 h123) g2
  obtain ⟨w1,w2⟩:=kU hcs (g1 h123) (t.i.eval ns x.v)
  obtain ⟨n,hn⟩:=Qv w1
  have hzn:=hz.n
  have hnl:n<z.cl.length:=by omega
  rw[hn] at r2 hK'
  simp only[Int.toNat_natCast,List.getElem?_eq_getElem hnl,Option.getD_some] at hK'
  have hm2:=hm1.grow hC2
  have hb2:=hb1.grow hC2
  have q2:=(hC2.get u1 (by simp)).trans q1
  have u2:=hC2.old u1
  have gm2:=hm2.g
  have gb2:=hb2.g
  have hC02:=hC01.trans hC2 (by simp)
  rcases h123 with h|h|h
  ·simp only[Qp h] at hK'
   obtain ⟨id,off,w,c',a1,-⟩:=hm2.cl.sl.at n (by simpa using hnl)
   obtain ⟨hid,cc,c1,c2,c3,c4,-⟩:=hm2.put hnl 0 a1
   obtain ⟨m3,r3,hb3,e3⟩:=rB hb2 hk t.nm z.cl[n]
   have hm3:=hm2.ev e3 hd hbB
   have q3:=(e3.c.get u2 hna).trans q2
   have gm3:=hm3.g
   have c13:=(e3.c.get c2 (hd id (by simp[bE,hid]))).trans c1
   simp (disch:=first|assumption|omega|(simp only[aI]<;>omega)) only[go_sem,seval,hM0,q0,gb0,gb1,q1,hsX,hsT,hnn,hvv,hcv,r1.wf',gm1,r2.wf',q2,gm2,a1,c1,c4,r3.wf',q3,gm3,c13]
   exact hK' _ ⟨vo,hm3,hb3,(EvF.pre hC02 e3).addR _,hd⟩
  ·have h1:t.k≠1:=by omega
   simp only[Qo h1,Qp h] at hK'
   obtain ⟨id,off,w,c',a1,-⟩:=hm2.cl.sl.at n (by simpa using hnl)
   obtain ⟨hid,cc,c1,c2,c3,c4,hput⟩:=hm2.put hnl (t.x.eval ns x.v) a1
   simp (disch:=first|assumption|omega|(simp only[aI]<;>omega)) only[go_sem,seval,hM0,q0,gb0,gb1,q1,hsX,hsT,hnn,hvv,hcv,r1.wf',gm1,r2.wf',q2,gm2,a1,c1,c4]
   generalize hM3:m2.put id _=M3
   obtain ⟨u1',u2'⟩:=hput M3 hM3.symm
   exact hK' _ ⟨vo,u1',hb2.ev u2' hd' hMB,(EvF.pre hC02 u2').addL _,hd⟩
  ·have h1:t.k≠1:=by omega
   have h2:t.k≠2:=by omega
   simp only[Qo h1,Qo h2,Qp h] at hK'
   obtain ⟨id,off,w,c',a1,-⟩:=hm2.cl.sl.at n (by simpa using hnl)
   by_cases hq:z.cl[n]=t.x.eval ns x.v
   ·simp only[Qp hq] at hK'
    obtain ⟨hid,cc0,d1,d2,d3,d4,-⟩:=hm2.put hnl 0 a1
    obtain ⟨m3,r3,hC3⟩:=pn t.y hSP.y (lg hm2.c _) g4 (hb2.env hk)
    have hm3:=hm2.grow hC3
    have hb3:=hb2.grow hC3
    have gm3:=hm3.g
    have gb3:=hb3.g
    have q3:=(hC3.get u2 (by simp)).trans q2
    have u3:=hC3.old u2
    obtain ⟨-,cc,c1,c2,c3,c4,hput⟩:=hm3.put hnl (t.y.eval ns x.v) a1
    have hde:decide (z.cl[n]=t.x.eval ns x.v)=true:=Qr hq
    simp (disch:=first|assumption|omega|(simp only[aI]<;>omega)) only[go_sem,seval,hM0,q0,gb0,gb1,q1,hsX,hsY,hsT,hnn,hvv,hcv,r1.wf',gm1,r2.wf',q2,gm2,gb2,a1,d1,d4,hde,r3.wf',gm3,gb3,q3,c1,c4]
    generalize hM4:m3.put id _=M4
    obtain ⟨u1',u2'⟩:=hput M4 hM4.symm
    have hb4:=hb3.ev u2' hd' hMB
    obtain ⟨m5,r5,hb5,e5⟩:=rB hb4 hk t.nm 1
    have hM5:=u1'.ev e5 hd hbB
    have q4:=(u2'.c.get u3 hna2).trans q3
    simp (config:={maxSteps:=1000000}) (disch:=first|assumption|omega|(apply bv;omega)|(apply bI;assumption)|(simp only[aI]<;>omega)) only[go_sem,seval,q4,r5.wf']
    exact hK' _ ⟨vo,hM5,hb5,(EvF.pre (hC02.trans hC3 (by simp)) (u2'.addL _)).trans (e5.addR _),hd⟩
   ·simp only[Qo hq] at hK'
    obtain ⟨hid,cc0,d1,d2,d3,d4,-⟩:=hm2.put hnl 0 a1
    obtain ⟨m3,r3,hb3,e3⟩:=rB hb2 hk t.nm 0
    have hm3:=hm2.ev e3 hd hbB
    have hde:decide (z.cl[n]=t.x.eval ns x.v)=false:=Qq hq
    simp (disch:=first|assumption|omega|(simp only[aI]<;>omega)) only[go_sem,seval,hM0,q0,gb0,gb1,q1,hsX,hsT,hnn,hvv,hcv,r1.wf',gm1,r2.wf',q2,gm2,gb2,a1,d1,d4,hde,r3.wf']
    exact hK' _ ⟨vo,hm3,hb3,(EvF.pre hC02 e3).addR _,hd⟩
end
section
variable {mk:NV->NV->NV->Int->List NV} {B m m1 M2:NH} {r b:D4} {vcl vo pl pl' nm vv vc vt vr rec vth:NV} {ns:List (List Nat)} {x:Bd} {z:Mc} {cs:List (List Nat×Int)}
theorem Bod.tops (h:Bod mk B m b pl nm vv ns x) {y:List Stm×Nat} {K:lA} (hK:x.K=y::K):∃id off cc vl E,fV 2 pl (ii (K.length:Nat))= .val (.ptr id off)/\ids pl= [id]/\m.get id=some (.cells true cc)/\ak m id/\off+2<=cc.length/\cc[off+0]? =some vl/\cc[off+1]? =some (ii y.2)/\SS B (fun _=>True) vl y.1 E/\
 ∀(qi:Int) (q:Nat) (M:NH),qi=q->M=m.put id (.cells true (cc.set (off+1) (ii qi)))->Bod mk B M b pl nm vv ns ⟨(y.1,q)::K,x.v,x.s⟩/\EvF (bU b pl nm vv) (bU b pl nm vv) m M/\M.get id=some (.cells true (cc.set (off+1) (ii qi)))/\Chg [id] m M:=by
 obtain ⟨C,hP,hC⟩:=h.p
 rw[hK,List.reverse_cons] at hC
 obtain ⟨C0,c,rfl,hC0,vl,E,rfl,hS⟩:=hC.last
 have hn:=hC0.n
 rw[List.length_reverse] at hn
 obtain ⟨id,off,cc,a1,a2,a3,a4,a5,a6,a7,a8⟩:=hP.at C0.length (by simp)
 rw[List.getElem_append_right (by omega)] at a7 a8
 simp only[Nat.sub_self,List.getElem_cons_zero] at a7 a8
 rw[hn] at a1
 refine ⟨id,off,cc,vl,E,a1,a2,a4,a5,a6,aA a7 0 (by omega),aA a7 1 (by omega),hS,fun qi q M hq hM=> ?_⟩
 have hM:M=hp [(.o id,.cells true (cc.set (off+1) (ii qi)))] 0 m:=by rw[hM,←b9 a5,aa]
 have hg:M.get id=some (.cells true (cc.set (off+1) (ii qi))):=by rw[hM];exact (aG a5).trans ao
 have hCh:Chg [id] m M:=by rw[hM];exact (cI _ _ _).weak (by simp[aB])
 obtain ⟨u1,u2⟩:=h.rows (K':=(y.1,q)::K) (by rw[a2];exact hCh) ⟨C0++ [[vl,ii qi]],by
  have:=a8 [(1,ii qi)] M (by simp) hg (hCh.old a5)
  rw[List.set_append_right _ _ (by omega),Nat.sub_self] at this
  exact this,by rw[List.reverse_cons];exact hC0.app ⟨vl,E,by rw[hq],hS⟩⟩
 exact ⟨u1,u2,hg,hCh⟩
theorem Bod.push (h:Bod mk B m b pl nm vv ns x) (hC1:Chg [] m m1) {C:List (List NV)} {v:NV} {l:List Stm} {E:List (List NV)} (hCk:StkC B x.K.reverse C) (hP2:aV B M2 pl' 2 (C++ [[v,ii 0]])) (hC2:Chg (ids pl) m1 M2) (hF2:∀i∈ids pl',i∈ids pl∨¬ak m1 i) (hS:SS B (fun _=>True) v l E) {M:NH} (hM:M=M2.put b (.cells true (mk pl' nm vv x.s))):
 Bod mk B M b pl' nm vv ns ⟨(l,0)::x.K,x.v,x.s⟩/\EvF (bU b pl nm vv) (bU b pl' nm vv) m M:=by
 have ob2:=hC2.old (hC1.old h.o)
 have hM:M=hp [(.o b,.cells true (mk pl' nm vv x.s))] 0 M2:=by rw[hM,←b9 ob2,aa]
 have hC3:Chg [b] M2 M:=by rw[hM];exact (cI _ _ _).weak (by simp[aB])
 have hCm2:Chg (ids pl) m M2:=(hC1.weak (by simp)).trans hC2 fun i hi _=>hi
 have hbp:b∉ids pl':=fun q=>(hF2 b q).elim h.d1.1 fun q=>q (hC1.old h.o)
 have hCm:Chg (bU b pl nm vv) m M:=(hCm2.weak fun i hi _=>by simp[bU,hi]).trans hC3 fun i hi _=>by have hi:=one hi;subst hi;simp[bU]
 refine h.putP (x':=⟨(l,0)::x.K,x.v,x.s⟩) ?_ hCm ⟨_,hP2.chg hC3 fun i hi q=> ?_, ?_⟩ ?_ ?_ ?_ rfl
 ·rw[hM];exact (aG ob2).trans ao
 ·have q:=one q;subst q;exact hbp hi
 ·rw[List.reverse_cons]
  exact hCk.app ⟨v,E,rfl,hS⟩
 ·exact (h.v.chg hCm2 fun i hi q=>(h.d2 i q).1 hi).chg hC3 fun i hi q=>by have q:=one q;subst q;exact h.d1.2.1 hi
 ·intro i hi
  have ho:=h.n.sl.old i hi
  exact (hC3.get (hCm2.old ho) (fun q=>by have q:=one q;subst q;exact h.d1.2.2 hi)).trans (hCm2.get ho fun q=>(h.d2 i q).2 hi)
 ·exact fun i hi=>(hF2 i hi).imp id fun q ho=>q (hC1.old ho)
theorem A7 (t:Stm) (K:lA) (v:List Int) (s:Int) (K':lA):fW cs ns t ⟨K',v,s⟩ z=(⟨K',(fW cs ns t ⟨K,v,s⟩ z).1.v,(fW cs ns t ⟨K,v,s⟩ z).1.s⟩,(fW cs ns t ⟨K,v,s⟩ z).2):=by
 unfold fW
 split
 ·rfl
 split
 ·rfl
 split
 ·split<;>rfl
 split<;>rfl
def Cc (x:Bd):Prop:=x.s=0∨(x.s=1/\x.K= [])∨x.s=2
theorem J7:∀(k:Nat) (x:Bd) (z:Mc),x.s=0->Cc (qX cs ns k x z).2.1:=by
 intro k
 induction k with
 |zero=>
  intro x z h
  rw[qX]
  split
  ·exact Or.inr (Or.inl ⟨rfl,rfl⟩)
  ·exact Or.inr (Or.inr rfl)
 |succ k ih=>
  intro x z h
  rw[qX]
  split
  ·exact Or.inr (Or.inl ⟨rfl,rfl⟩)
  ·split
   ·exact Or.inl ((xo _).2.trans h)
   ·refine ih _ _ ?_
    rw[←h]
    unfold dZ
    split
    ·rfl
    split
    ·split<;>rfl
    split<;>rfl
theorem zX (h:Cc x):Cc (bV cs ns x z).2.1:=by
 unfold bV
 split
 ·exact J7 _ _ _ ‹_›
 ·exact h
set_option maxHeartbeats 4000000 in
set_option maxRecDepth 20000 in
theorem H0 (hc:Sl B vc 2 (jD cs)) (hcs:CsOk cs) {o:Nat} (ho:o<=1000000) (h3:Cc x) (h:ct (fR vc vt vr rec vth) iA B m m cs ns r b (bE r vcl vo++bU b pl nm vv) vcl vo pl nm vv x z o):
 ∃m',bc Try.prog S0 80 [.ptr r 0,.ptr b 0] m (.bool (bV cs ns x z).1) m'/\∃vo' pl',ct (fR vc vt vr rec vth) iA B m m' cs ns r b (bE r vcl vo++bU b pl nm vv) vcl vo' pl' nm vv (bV cs ns x z).2.1 (bV cs ns x z).2.2 (o+1):=by
 refine WF.ex1 fun K' hK'=> ?_
 refine WF.of_wpG (fun _=>rfl) Ax (L:= [(.a .e,.ptr b 0),(.e,.ptr r 0)]) rfl ?_
 unfold K4
 generalize hR:bV cs ns x z=R at hK'
 generalize hF0:bE r vcl vo++bU b pl nm vv=F0 at h hK'
 simp (disch:=first|assumption|omega|(simp only[aI]<;>omega)) only[go_sem,seval,aa]
 refine W.loop (fun k d=>∃t M pl vo x z n,d=⟨t, [],none,M⟩/\NT.get D4.e t=some (.ptr r 0)/\NT.get D4.e.a t=some (.ptr b 0)/\NT.get D4.e.a.a t=some (ii (n:Nat))/\ct (fR vc vt vr rec vth) iA B m M cs ns r b F0 vcl vo pl nm vv x z o/\((x.s=0/\n+k=1001/\n<=1000/\qX cs ns (1000 - n) x z=R)∨(x.s≠0/\Cc x/\(false,x,z)=R))) ?_ 1001 _ ⟨_,m,pl,vo,x,z,0,rfl,by simp only[go_sem,seval],by simp only[go_sem,seval],by simp only[go_sem,seval]<;>rfl,h, ?_⟩
 ·clear h hF0 hR h3
  rintro k d ⟨t,M,pl,vo,x,z,n,rfl,t1,t2,t3,h,hh⟩
  apply ap
  unfold Aj
  change wp _ _ _ _ ⟨ai [] t, [],none,M⟩ _
  have ob:=h.bd.o
  by_cases hs2:x.s=2
  ·rcases hh with ⟨hs,-⟩|⟨hs,hst,hR⟩
   ·omega
   ·have g:M.get b=some (.cells true [nm,vv,pl,.bool true,.bool false]):=h.bd.g.trans (by rw[hs2];rfl)
    rw[←aa M]
    simp (disch:=first|assumption|omega|(simp only[aI]<;>omega)) only[go_sem,seval,t1,t2,t3,g]
    generalize hM2:hp _ 0 M=M2
    obtain ⟨hb2,e2⟩:=h.bd.state (s':=2) (m':=M2) (gn ob hM2) (jM hM2 (by simp[aB]))
    subst hR
    have ex:(⟨x.K,x.v,2⟩:Bd)=x:=by rw[←hs2]
    rw[ex] at hb2
    exact hK' _ ⟨vo,pl,h.mc.ev e2 h.dj fun i hi=>(h.bd.old i hi).2,hb2,h.dj,h.bk,h.zk,Nat.le_succ_of_le h.ol,h.ev.trans (e2.addR _)⟩
  ·obtain ⟨M1,r1,pl1,hb1,e1⟩:=Lp h.bd h.bk
   have hdd:∀i∈bE r vcl vo,i∉bU b pl1 nm vv:=fun i hi q=>(e1.f i q).elim (h.dj i hi) fun q=>q (h.mc.old i hi).1
   have hM1:=h.mc.ev e1 h.dj fun i hi=>(h.bd.old i hi).2
   have hk1:=h.bk.trim
   have gM:=hM1.g
   have oB:=hb1.o
   have oM:=hM1.o
   have hrb:r≠b:=fun e=>hdd r (by simp[bE]) (by rw[e];simp[bU])
   have g:M.get b=some (.cells true [nm,vv,pl,.bool false,.bool (decide (x.s=1))]):=h.bd.g.trans (by simp[iA,hs2])
   have g1:M1.get b=some (.cells true [nm,vv,pl1,.bool false,.bool (decide (x.s=1))]):=hb1.g.trans (by simp[iA,hs2])
   cases hT:bO x.K with
   |nil=>
    rw[hT,Qr rfl] at r1
    rw[hT] at hb1 hk1
    simp (disch:=first|assumption|omega|(simp only[aI]<;>omega)) only[go_sem,seval,t1,t2,t3,g,r1.wf,g1]
    generalize hM2:hp _ 0 M1=M2
    obtain ⟨hb2,e2⟩:=hb1.state (s':=1) (m':=M2) (gn oB hM2) (jM hM2 (by simp[aB]))
    have hR:(false,(⟨[],x.v,1⟩:Bd),z)=R:=by
     rcases hh with ⟨hs,-,-,hR⟩|⟨hs,hst,hR⟩
     ·rw[Ad hT] at hR;exact hR
     ·rcases hst with q|⟨q1,q2⟩|q
      ·exact Qn q hs
      ·rw[←hR];obtain ⟨K,v,s⟩:=x;simp only at q1 q2;subst q1 q2;rfl
      ·exact Qn q hs2
    subst hR
    exact hK' _ ⟨vo,pl1,hM1.ev e2 hdd fun i hi=>(hb1.old i hi).2,hb2,hdd,⟨hk1.ch,hk1.gs,hk1.pos,hk1.iv,hk1.ln,hk1.lv⟩,h.zk,Nat.le_succ_of_le h.ol,(h.ev.trans (e1.addR _)).trans (e2.addR _)⟩
   |cons y K=>
    rw[hT,Qq (by simp)] at r1
    rw[hT] at hb1 hk1
    obtain ⟨hs,hnk,hn,hR⟩:x.s=0/\n+k=1001/\n<=1000/\qX cs ns (1000 - n) x z=R:=by
     rcases hh with q|⟨q1,q2,-⟩
     ·exact q
     ·rcases q2 with q|⟨-,q⟩|q
      ·exact Qn q q1
      ·rw[q] at hT;cases hT
      ·exact Qn q hs2
    by_cases h1000:n=1000
    ·subst h1000
     rw[uv hT] at hR
     have hbr:=hrb.symm
     simp (disch:=first|assumption|omega|(simp only[aI]<;>omega)) only[go_sem,seval,t1,t2,t3,g,r1.wf,g1,gM]
     generalize hMe:hp _ 0 M1=Me
     have hMe:Me=((M1.put b (.cells true (iA pl1 nm vv 2))).put r (.cells true (fR vc vt vr rec vth vcl vo true))).put b (.cells true (iA pl1 nm vv 2)):=by
      rw[←hMe,←aa M1,b9 oB,b9 oM,b9 oB,aa]
      rfl
     generalize hMa:M1.put b (.cells true (iA pl1 nm vv 2))=Ma at hMe
     have hMa:Ma=hp [(.o b,.cells true (iA pl1 nm vv 2))] 0 M1:=by rw[←hMa,←b9 oB,aa]
     obtain ⟨hba,ea⟩:=hb1.state (s':=2) (m':=Ma) (by rw[hMa];exact (aG oB).trans ao) (by rw[hMa];exact (cI _ _ _).weak (by simp[aB]))
     have hma:=hM1.ev ea hdd fun i hi=>(hb1.old i hi).2
     have oMa:=hma.o
     generalize hMb:Ma.put r (.cells true (fR vc vt vr rec vth vcl vo true))=Mb at hMe
     have hMb:Mb=hp [(.o r,.cells true (fR vc vt vr rec vth vcl vo true))] 0 Ma:=by rw[←hMb,←b9 oMa,aa]
     obtain ⟨hmb,eb⟩:=hma.sick (m':=Mb) (by rw[hMb];exact (aG oMa).trans ao) (by rw[hMb];exact (cI _ _ _).weak (by simp[aB]))
     have hbb:=hba.ev eb (fun i hi q=>hdd i q hi) fun i hi=>(hma.old i hi).2
     have oBb:=hbb.o
     have hMe:Me=hp [(.o b,.cells true (iA pl1 nm vv 2))] 0 Mb:=by rw[hMe,←b9 oBb,aa]
     obtain ⟨hbe,ee⟩:=hbb.state (s':=2) (m':=Me) (by rw[hMe];exact (aG oBb).trans ao) (by rw[hMe];exact (cI _ _ _).weak (by simp[aB]))
     have hme:=hmb.ev ee hdd fun i hi=>(hbb.old i hi).2
     subst hR
     exact hK' _ ⟨vo,pl1,hme,hbe,hdd,⟨hk1.ch,hk1.gs,hk1.pos,hk1.iv,hk1.ln,hk1.lv⟩,⟨h.zk.iv,h.zk.io,h.zk.n⟩,Nat.le_succ_of_le h.ol,(((h.ev.trans (e1.addR _)).trans (ea.addR _)).trans (eb.addL _)).trans (ee.addR _)⟩
    ·have e1000:1000 - n=(999 - n)+1:=by omega
     obtain ⟨bb1,bb2,bb3⟩:=hk1.bnd rfl
     have hy:y.2<y.1.length:=by
      have:∀K0:lA,bO K0=y::K->y.2<y.1.length:=by
       intro K0
       induction K0 with
       |nil=>intro q;cases q
       |cons a K0 ih=>
        intro q
        rw[bO] at q
        split at q
        ·cases q;assumption
        ·exact ih q
      exact this _ hT
     have hGs:=hk1.gs y (by simp) _ (List.getElem_mem hy)
     obtain ⟨id,off,cc,vl,E,a1,a2,a3,a4,a5,c0,c1,hS,hset⟩:=hb1.tops rfl
     obtain ⟨w,hw,idt,offt,wrt,c,W,rfl,p1,p2,p3,p4,hSP⟩:=hS.ptr y.2 hy
     have p11:=(hM1.c.get p2 (by simp)).trans p1
     rw[e1000,uG hT,C9 hy] at hR
     have hbe:=Ig y.1[y.2]
     have hzm:=xj (List.getElem_mem hy)
     have hcq:=hk1.quiet (y:=y) (K:=K) rfl hy
     generalize y.1[y.2]=tt at *
     have hpl:=(hb1.p.choose_spec.1).sl.len
     rw[(hb1.p.choose_spec.2).n,List.length_reverse,List.length_cons] at hpl
     have hpl1:(((K.length+1:Nat):Int) - 1)=(K.length:Nat):=by omega
     have hvls:=hS.sl.same (n:=3)
     have hpls:=(hb1.p.choose_spec.1).sl.same (n:=3)
     generalize hM2:hp [(.n 0,.cells true (tt.l W)),(.n 0,.cells true [ii 0,ii 0,.str [],.str [],ii 0,iu 0,ib 0,.str [],.nils,ii 0,iu 0,ib 0,.str [],.nils,ii 0,iu 0,ib 0,.str [],.nils,.nils,.nils])] 1 M1=M2
     have hC2:Chg [] M1 M2:=aY hM2 rfl
     have q2:M2.get (na M1 0)=some (.cells true (tt.l W)):=bw hM2
     have u2:ak M2 (na M1 0):=bx hM2 (by omega)
     have hb2:=hb1.grow hC2
     have hm2:=hM1.grow hC2
     obtain ⟨id',off',cc',vl',E',b1,b2,b3,b4,b5,d0,d1,-,hset2⟩:=hb2.tops rfl
     rw[a1] at b1
     cases b1
     obtain ⟨M3,hM3⟩:∃M3,M3=M2.put id (.cells true (cc'.set (off+1) (ii ((y.2:Int)+1)))):=⟨_,rfl⟩
     obtain ⟨hb3,e3,b33,hC3⟩:=hset2 _ (y.2+1) M3 (by omega) hM3
     have hm3:=hm2.ev e3 hdd fun i hi=>(hb2.old i hi).2
     have hnid:na M1 0≠id:=fun e=>az (e▸a4)
     have q3:=(hC3.get u2 (by simpa using hnid)).trans q2
     have u3:=hC3.old u2
     have g3:M3.get b=some (.cells true [nm,vv,pl1,.bool false,.bool (decide (x.s=1))]):=hb3.g.trans (by simp[iA,hs2])
     have hk3:BdOk cs ns ⟨(y.1,y.2+1)::K,x.v,x.s⟩:=hk1.pass rfl hy
     obtain ⟨gg1,gg2,gg3,gg4⟩:=jx hGs
     obtain ⟨M4,r4,hC4⟩:=pn tt.x hSP.x (lg hm3.c _) gg3 (hb3.env hk3)
     have hb4:=hb3.grow hC4
     have hm4:=hm3.grow hC4
     have q4:=(hC4.get u3 (by simp)).trans q3
     have u4:=hC4.old u3
     have g4:M4.get b=some (.cells true [nm,vv,pl1,.bool false,.bool (decide (x.s=1))]):=hb4.g.trans (by simp[iA,hs2])
     have hsX:=cD hSP.x
     have hnn:=hb1.n.sl.same (n:=3)
     have hvv:=hb1.v.sl.same (n:=3)
     have eF:EvF F0 (bE r vcl vo++bU b pl1 nm vv) m M4:=(((h.ev.trans (e1.addR _)).post hC2).trans (e3.addR _)).post hC4
     have hids4:∀j∈ids pl1,j≠na M1 0:=fun j hj e=>az (e▸(hb1.p.choose_spec.1).sl.old j hj)
     by_cases k0:tt.k=0
     ·rw[Qo (by unfold iy;omega)] at hR
      unfold dZ at hR hcq
      rw[Qo (by omega),Qo (by omega),Qp k0] at hR hcq
      obtain ⟨M5,r5,hC5⟩:=pn tt.x hSP.x (lg hm4.c _) gg3 (hb4.env hk3)
      have hb5:=hb4.grow hC5
      have hm5:=hm4.grow hC5
      have q5:=(hC5.get u4 (by simp)).trans q4
      have g5:M5.get b=some (.cells true [nm,vv,pl1,.bool false,.bool (decide (x.s=1))]):=hb5.g.trans (by simp[iA,hs2])
      obtain ⟨M6,r6,hb6,e6⟩:=rB hb5 hk3 tt.nm (tt.x.eval ns x.v)
      have q6:=(e6.c.get (hC5.old u4) (fun w=>az (hb1.old _ w).1)).trans q5
      simp (disch:=first|assumption|omega|(simp only[aI]<;>omega)) only[go_sem,seval,t1,t2,t3,g,r1.wf,g1,hpl,hpl1,a1,a3,c0,c1,hw,p11,p4,hM2,b3,d1,hM3.symm,q3,g3,hsX,hnn,hvv,hvls,hpls,r4.wf',q4,g4,r5.wf',q5,g5,r6.wf',q6]
      exact ⟨k - 1,by omega,_,M6,pl1,vo,_,z,n+1,by rfl,by simp only[go_sem,seval,t1],by simp only[go_sem,seval,t2],by simp only[go_sem,seval]<;>rfl,⟨hm5.ev e6 hdd fun i hi=>(hb5.old i hi).2,hb6,hdd,hcq,h.zk,h.ol,(eF.post hC5).trans (e6.addR _)⟩,Or.inl ⟨hs,by omega,by omega,by rw[show 1000 - (n+1)=999 - n by omega];exact hR⟩⟩
     by_cases k6:tt.k=6
     ·rw[Qo (by unfold iy;omega)] at hR
      unfold dZ at hR hcq
      rw[Qp k6] at hR hcq
      obtain ⟨C4,hP4,hCk4⟩:=hb4.p
      have hn4:=hCk4.n
      rw[List.length_reverse,List.length_cons] at hn4
      have hC5:∀v,Chg [] M4 (hp [(.n 0,.cells true [v,ii 0])] 1 M4):=fun v=>aE rfl
      obtain ⟨Eb,hSb⟩:=hSP.b
      obtain ⟨Ee,hSe⟩:=hSP.e
      have hvb:=hSb.sl.one
      have hve:=hSe.sl.one
      have hvbs:=hSb.sl.same (n:=3)
      have hves:=hSe.sl.same (n:=3)
      by_cases hz:tt.x.eval ns x.v≠0
      ·rw[Qp hz] at hR hcq
       simp (disch:=first|assumption|omega|(simp only[aI]<;>omega)) only[go_sem,seval,t1,t2,t3,g,r1.wf,g1,hpl,hpl1,a1,a3,c0,c1,hw,p11,p4,hM2,b3,d1,hM3.symm,q3,g3,hsX,hnn,hvv,hvls,hpls,r4.wf,q4,g4,hvb,hvbs]
       have hC5':=hC5 W.vb
       refine cZ (cs:= [W.vb,ii 0]) (hP4.chg hC5' fun _ _=>by simp) bo (bv (by omega)) rfl (fun i hi=>hC5'.old (hb4.c.old hi)) (by omega) (by omega) ?_
       intro pl6 M6 hP6 hC6 hF6
       have g6:M6.get b=some (.cells true [nm,vv,pl1,.bool false,.bool (decide (x.s=1))]):=((hC6.get (hC5'.old hb4.o) hb4.d1.1).trans ((hb4.grow hC5').g)).trans (by simp[iA,hs2])
       have q6:=(hC6.get (hC5'.old u4) (fun w=>hids4 _ w rfl)).trans ((hC5'.get u4 (by simp)).trans q4)
       have hp6:=hP6.sl.one
       simp (disch:=first|assumption|omega|(simp only[aI]<;>omega)) only[go_sem,seval,aa,g6,q6,hp6,t3]
       generalize hM7:M6.put b _=M7
       obtain ⟨hb7,e7⟩:=hb4.push hC5' hCk4 hP6 hC6 hF6 hSb (M:=M7) (by rw[←hM7];simp[iA,hs])
       have hdd7:∀i∈bE r vcl vo,i∉bU b pl6 nm vv:=fun i hi q=>(e7.f i q).elim (hdd i hi) fun q=>q (hm4.old i hi).1
       exact ⟨k - 1,by omega,_,M7,pl6,vo,_,z,n+1,by rfl,by simp only[go_sem,seval,t1],by simp only[go_sem,seval,t2],by simp only[go_sem,seval]<;>rfl,⟨hm4.ev e7 hdd fun i hi=>(hb4.old i hi).2,hb7,hdd7,hcq,h.zk,h.ol,eF.trans (e7.addR _)⟩,Or.inl ⟨hs,by omega,by omega,by rw[show 1000 - (n+1)=999 - n by omega];exact hR⟩⟩
      ·rw[Qo hz] at hR hcq
       simp (disch:=first|assumption|omega|(simp only[aI]<;>omega)) only[go_sem,seval,t1,t2,t3,g,r1.wf,g1,hpl,hpl1,a1,a3,c0,c1,hw,p11,p4,hM2,b3,d1,hM3.symm,q3,g3,hsX,hnn,hvv,hvls,hpls,r4.wf,q4,g4,hve,hves]
       have hC5':=hC5 W.ve
       refine cZ (cs:= [W.ve,ii 0]) (hP4.chg hC5' fun _ _=>by simp) bo (bv (by omega)) rfl (fun i hi=>hC5'.old (hb4.c.old hi)) (by omega) (by omega) ?_
       intro pl6 M6 hP6 hC6 hF6
       have g6:M6.get b=some (.cells true [nm,vv,pl1,.bool false,.bool (decide (x.s=1))]):=((hC6.get (hC5'.old hb4.o) hb4.d1.1).trans ((hb4.grow hC5').g)).trans (by simp[iA,hs2])
       have q6:=(hC6.get (hC5'.old u4) (fun w=>hids4 _ w rfl)).trans ((hC5'.get u4 (by simp)).trans q4)
       have hp6:=hP6.sl.one
       simp (disch:=first|assumption|omega|(simp only[aI]<;>omega)) only[go_sem,seval,aa,g6,q6,hp6,t3]
       generalize hM7:M6.put b _=M7
       obtain ⟨hb7,e7⟩:=hb4.push hC5' hCk4 hP6 hC6 hF6 hSe (M:=M7) (by rw[←hM7];simp[iA,hs])
       have hdd7:∀i∈bE r vcl vo,i∉bU b pl6 nm vv:=fun i hi q=>(e7.f i q).elim (hdd i hi) fun q=>q (hm4.old i hi).1
       exact ⟨k - 1,by omega,_,M7,pl6,vo,_,z,n+1,by rfl,by simp only[go_sem,seval,t1],by simp only[go_sem,seval,t2],by simp only[go_sem,seval]<;>rfl,⟨hm4.ev e7 hdd fun i hi=>(hb4.old i hi).2,hb7,hdd7,hcq,h.zk,h.ol,eF.trans (e7.addR _)⟩,Or.inl ⟨hs,by omega,by omega,by rw[show 1000 - (n+1)=999 - n by omega];exact hR⟩⟩
     by_cases k7:tt.k=7
     ·rw[Qo (by unfold iy;omega)] at hR
      unfold dZ at hR hcq
      rw[Qo k6,Qp k7] at hR hcq
      by_cases hz:tt.x.eval ns x.v≠0
      ·rw[Qp hz] at hR hcq
       obtain ⟨id4,off4,cc4,vl4,E4,f1,f2,f3,f4,f5,f6,f7,-,hset4⟩:=hb4.tops rfl
       rw[a1] at f1
       cases f1
       obtain ⟨M5,hM5⟩:∃M5,M5=M4.put id (.cells true (cc4.set (off+1) (ii (((y.2+1:Nat):Int) - 1)))):=⟨_,rfl⟩
       obtain ⟨hb5,e5,-,hC45⟩:=hset4 _ y.2 M5 (by omega) hM5
       have hm5:=hm4.ev e5 hdd fun i hi=>(hb4.old i hi).2
       have q5:=(hC45.get u4 (by simpa using hnid)).trans q4
       have u5:=hC45.old u4
       have g5:M5.get b=some (.cells true [nm,vv,pl1,.bool false,.bool (decide (x.s=1))]):=hb5.g.trans (by simp[iA,hs2])
       have hM5':M4.put id (.cells true (cc4.set (off+1) (ii (((y.2+1:Nat):Int) - 1))))=hp [] 0 M5:=by rw[aa,hM5]
       obtain ⟨C4,hP4,hCk4⟩:=hb5.p
       have hn4:=hCk4.n
       rw[List.length_reverse,List.length_cons] at hn4
       have hC5:∀v,Chg [] M5 (hp [(.n 0,.cells true [v,ii 0])] 1 M5):=fun v=>aE rfl
       obtain ⟨Eb,hSb⟩:=hSP.b
       have hvb:=hSb.sl.one
       have hvbs:=hSb.sl.same (n:=3)
       have eF5:=eF.trans (e5.addR _)
       simp (disch:=first|assumption|omega|(simp only[aI]<;>omega)) only[go_sem,seval,t1,t2,t3,g,r1.wf,g1,hpl,hpl1,a1,a3,c0,c1,hw,p11,p4,hM2,b3,d1,hM3.symm,q3,g3,hsX,hnn,hvv,hvls,hpls,r4.wf',q4,g4,f3,f7,hM5',q5,g5,hvb,hvbs]
       have hC5':=hC5 W.vb
       refine cZ (cs:= [W.vb,ii 0]) (hP4.chg hC5' fun _ _=>by simp) bo (bv (by omega)) rfl (fun i hi=>hC5'.old (hb5.c.old hi)) (by omega) (by omega) ?_
       intro pl6 M6 hP6 hC6 hF6
       have g6:M6.get b=some (.cells true [nm,vv,pl1,.bool false,.bool (decide (x.s=1))]):=((hC6.get (hC5'.old hb5.o) hb5.d1.1).trans ((hb5.grow hC5').g)).trans (by simp[iA,hs2])
       have q6:=(hC6.get (hC5'.old u5) (fun w=>hids4 _ w rfl)).trans ((hC5'.get u5 (by simp)).trans q5)
       have hp6:=hP6.sl.one
       simp (disch:=first|assumption|omega|(simp only[aI]<;>omega)) only[go_sem,seval,aa,g6,q6,hp6,t3]
       generalize hM7:M6.put b _=M7
       obtain ⟨hb7,e7⟩:=hb5.push hC5' hCk4 hP6 hC6 hF6 hSb (M:=M7) (by rw[←hM7];simp[iA,hs])
       have hdd7:∀i∈bE r vcl vo,i∉bU b pl6 nm vv:=fun i hi q=>(e7.f i q).elim (hdd i hi) fun q=>q (hm5.old i hi).1
       exact ⟨k - 1,by omega,_,M7,pl6,vo,_,z,n+1,by rfl,by simp only[go_sem,seval,t1],by simp only[go_sem,seval,t2],by simp only[go_sem,seval]<;>rfl,⟨hm5.ev e7 hdd fun i hi=>(hb5.old i hi).2,hb7,hdd7,hcq,h.zk,h.ol,eF5.trans (e7.addR _)⟩,Or.inl ⟨hs,by omega,by omega,by rw[show 1000 - (n+1)=999 - n by omega];exact hR⟩⟩
      ·rw[Qo hz] at hR hcq
       simp (disch:=first|assumption|omega|(simp only[aI]<;>omega)) only[go_sem,seval,t1,t2,t3,g,r1.wf,g1,hpl,hpl1,a1,a3,c0,c1,hw,p11,p4,hM2,b3,d1,hM3.symm,q3,g3,hsX,hnn,hvv,hvls,hpls,r4.wf',q4,g4]
       exact ⟨k - 1,by omega,_,M4,pl1,vo,_,z,n+1,by rfl,by simp only[go_sem,seval,t1],by simp only[go_sem,seval,t2],by simp only[go_sem,seval]<;>rfl,⟨hm4,hb4,hdd,hcq,h.zk,h.ol,eF⟩,Or.inl ⟨hs,by omega,by omega,by rw[show 1000 - (n+1)=999 - n by omega];exact hR⟩⟩
     by_cases hA:iy tt
     ·rw[Qp hA] at hR
      obtain ⟨M5,r5,vo5,hm5,hb5,e5,hd5⟩:=Mz hm4 hb4 hdd hk3 hc hcs h.zk (by have:=h.ol;omega) hSP hGs hA
      obtain ⟨w1,w2,w3⟩:=Af hk3 h.zk hGs
      rw[A7 (cs:=cs) (ns:=ns) (z:=z) tt (y::K) x.v x.s ((y.1,y.2+1)::K)] at hm5 hb5 w1 w2 w3
      have hsT:=zD hSP
      subst hR
      have hGo:ct (fR vc vt vr rec vth) iA B m M5 cs ns r b F0 vcl vo5 pl1 nm vv (uw cs ns tt ⟨y::K,x.v,x.s⟩ z).1 (uw cs ns tt ⟨y::K,x.v,x.s⟩ z).2 (o+1):=by
       have eK:=(xo (cs:=cs) (ns:=ns) (z:=z) (x:=⟨y::K,x.v,x.s⟩) tt).1
       unfold uw
       rw[eK]
       exact ⟨hm5,hb5,hd5,w1,w2,Nat.le_trans w3 (by have:=h.ol;omega),eF.trans e5⟩
      have hA':=hA
      rcases hA' with hk|hk|hk|hk
      all_goals
       simp (disch:=first|assumption|omega|(simp only[aI]<;>omega)) only[go_sem,seval,t1,t2,t3,g,r1.wf,g1,hpl,hpl1,a1,a3,c0,c1,hw,p11,p4,hM2,b3,d1,hM3.symm,q3,g3,hsX,hnn,hvv,hvls,hpls,r4.wf',q4,g4,hsT,r5.wf']
       exact hK' _ ⟨vo5,pl1,hGo⟩
     ·rw[Qo hA] at hR
      unfold iy at hA
      simp only[not_or] at hA
      unfold dZ at hR hcq
      rw[Qo k6,Qo k7,Qo k0] at hR hcq
      simp (disch:=first|assumption|omega|(simp only[aI]<;>omega)) only[go_sem,seval,t1,t2,t3,g,r1.wf,g1,hpl,hpl1,a1,a3,c0,c1,hw,p11,p4,hM2,b3,d1,hM3.symm,q3,g3,hsX,hnn,hvv,hvls,hpls,r4.wf',q4,g4]
      exact ⟨k - 1,by omega,_,M4,pl1,vo,_,z,n+1,by rfl,by simp only[go_sem,seval,t1],by simp only[go_sem,seval,t2],by simp only[go_sem,seval]<;>rfl,⟨hm4,hb4,hdd,hcq,h.zk,h.ol,eF⟩,Or.inl ⟨hs,by omega,by omega,by rw[show 1000 - (n+1)=999 - n by omega];exact hR⟩⟩
 ·by_cases hs:x.s=0
  ·refine Or.inl ⟨hs,by omega,by omega, ?_⟩
   rw[←hR,bV,Qp hs]
  ·refine Or.inr ⟨hs,h3, ?_⟩
   rw[←hR,bV,Qo hs]
end
section
variable {p:Prg} {B m m':NH} {vc vt vr vcl vo vth:NV} {r:D4} {x:Rn} {o:Nat} {q:Bl} {bs:List Bl} {z:Mc}
def j7 (p:Prg) (B:NH) (vc vt vr:NV) (m:NH) (r:D4) (x:Rn) (o:Nat) (F:List D4):Prop:=
 (x.ph=false/\x.th=p.ts.map (fun t=>fU t.2)/\Cc x.rc/\∃vcl vo q,RunG (fR vc vt vr (.ptr q.b 0) .nils) iA ⟨p.cs, [],p.r⟩ B m r ⟨false,x.rc, [],x.z⟩ o vcl vo .nils q []/\F=RunG.foot r vcl vo .nils q [])∨
 (x.ph=true/\(∀y∈x.th,Cc y)/\∃vcl vo vth q bs,RunG (fR vc vt vr .nilp vth) iA p B m r x o vcl vo vth q bs/\F=RunG.foot r vcl vo vth q bs)
theorem RunG.more {f:NV->NV->Bool->List NV} {mk:NV->NV->NV->Int->List NV} (h:RunG f mk p B m r x o vcl vo vth q bs) {o':Nat} (ho:o<=o'):RunG f mk p B m r x o' vcl vo vth q bs:=⟨h.mc,h.rb,h.rk,h.tv,h.ln,h.tb,h.d0,h.d1,h.d2,h.d3,h.zk,Nat.le_trans h.ol ho⟩
theorem Eu (hc:RunC p B vc vt vr) (ho:o<=1000000) (h:RunG (fR vc vt vr .nilp vth) iA p B m r x o vcl vo vth q bs) (hst:∀y∈x.th,Cc y) {k:Nat} (hk:k<x.th.length):
 ∃t,bs[k]? =some t/\(∃id off w c,fV 1 vth (ii (k:Nat))= .val (.ptr id off)/\m.get id=some (.cells w c)/\c[off]? =some (.ptr t.b 0))/\∃m',bc Try.prog S0 80 [.ptr r 0,.ptr t.b 0] m (.bool (bV p.cs (locals (dk p k)) ((x.th[k]?).getD (fU [])) x.z).1) m'/\∃vo' bs',RunG (fR vc vt vr .nilp vth) iA p B m' r ⟨x.ph,x.rc,x.th.set k (bV p.cs (locals (dk p k)) ((x.th[k]?).getD (fU [])) x.z).2.1,(bV p.cs (locals (dk p k)) ((x.th[k]?).getD (fU [])) x.z).2.2⟩ (o+1) vcl vo' vth q bs'/\EvF (RunG.foot r vcl vo vth q bs) (RunG.foot r vcl vo' vth q bs') m m'/\∀y∈x.th.set k (bV p.cs (locals (dk p k)) ((x.th[k]?).getD (fU [])) x.z).2.1,Cc y:=by
 have hkb:k<bs.length:=by rw[h.ln.1,←h.ln.2];exact hk
 have h1:=List.getElem?_eq_getElem hkb
 have h2:=List.getElem?_eq_getElem hk
 obtain ⟨id,off,w,c,a1,a2,a3,a4,a5⟩:=h.tv.sl.at k (by simpa using hkb)
 rw[List.getElem_map] at a5
 rw[h2]
 simp only[Option.getD_some]
 have h3:=hst _ (List.getElem_mem hk)
 obtain ⟨m1,r1,vo',pl',hG⟩:=H0 hc.rp.c hc.cs ho h3 (h.goT h1 h2)
 refine ⟨bs[k],h1,⟨id,off,w,c,a1,a2,aA a5 0 (by omega)⟩,m1,r1,vo',_,h.thread h1 hG,RunG.evT h1 hG.ev,fun y hy=> ?_⟩
 rcases List.mem_or_eq_of_mem_set hy with hy|rfl
 ·exact hst y hy
 ·exact zX h3
theorem DL (l:List Stm):Cc (fU l):=Or.inl rfl
set_option maxHeartbeats 1000000 in
theorem Is (hc:RunC p B vc vt vr) (ho:o+1<=1000000) {F:List D4} (h:j7 p B vc vt vr m r x o F) (c:Int):
 ∃m',bc Try.prog S0 43 [.ptr r 0,ii c] m (.bool (jH p c x).1) m'/\∃F',j7 p B vc vt vr m' r (jH p c x).2 (o+2) F'/\EvF F F' m m':=by
 refine WF.ex1 fun K' hK'=> ?_
 refine WF.of_wpG (fun _=>rfl) zS (L:= [(.a .e,ii c),(.e,.ptr r 0)]) rfl ?_
 unfold KZ
 have hnt:=hc.nt
 obtain ⟨CT,hT⟩:=hc.rp.t
 have hlt:=hT.sl.len
 rw[hT.len] at hlt
 unfold jH at hK'
 rcases h with ⟨hph,hth,hst,vcl,vo,q,h,rfl⟩|⟨hph,hst,vcl,vo,vth,q,bs,h,rfl⟩
 ·have g:=h.mc.g
  simp only[hph,Bool.false_eq_true,if_false] at hK'
  obtain ⟨m1,r1,vo1,pl1,hG⟩:=H0 hc.rp.c hc.cs (by omega) hst h.goR
  have h1:=h.recov hG
  have e1:EvF (RunG.foot r vcl vo .nils q []) (RunG.foot r vcl vo1 .nils ⟨q.b,pl1,q.nm,q.vv⟩ []) m m1:=RunG.evR hG.ev
  have hst1:Cc (bV p.cs (locals p.r) x.rc x.z).2.1:=zX hst
  simp only at r1 h1
  have g1:=h1.mc.g
  have gb1:=h1.rb.g
  have oM:=h1.mc.o
  cases hb:(bV p.cs (locals p.r) x.rc x.z).1 with
  |true=>
   rw[hb] at r1
   rw[Qp hb] at hK'
   rw[aa]
   simp (disch:=first|assumption|omega) only[go_sem,seval,g,Et,r1.wf']
   exact hK' _ ⟨_,Or.inl ⟨rfl,hth,hst1,vcl,vo1,⟨q.b,pl1,q.nm,q.vv⟩,h1.more (o':=o+2) (by omega),rfl⟩,e1⟩
  |false=>
   have hs:=rP hb
   rw[hb] at r1
   rw[Qo (by rw[hb];simp)] at hK'
   generalize bV p.cs (locals p.r) x.rc x.z=R at *
   obtain ⟨R1,rc,z⟩:=R
   simp only at *
   by_cases h2:rc.s=2
   ·rw[Qp h2] at hK'
    have gb:m1.get q.b=some (.cells true [q.nm,q.vv,pl1,.bool true,.bool false]):=gb1.trans (by simp[iA,h2])
    rw[aa]
    simp (disch:=first|assumption|omega) only[go_sem,seval,g,Et,r1.wf',g1,gb]
    exact hK' _ ⟨_,Or.inl ⟨rfl,hth,hst1,vcl,vo1,⟨q.b,pl1,q.nm,q.vv⟩,h1.more (o':=o+2) (by omega),rfl⟩,e1⟩
   ·rw[Qo h2] at hK'
    have gb:m1.get q.b=some (.cells true [q.nm,q.vv,pl1,.bool false,.bool (decide (rc.s=1))]):=gb1.trans (by simp[iA,h2])
    rw[aa]
    simp (disch:=first|assumption|omega|(simp only[aI]<;>omega)) only[go_sem,seval,g,Et,r1.wf,g1,gb]
    generalize hM2:hp _ 0 m1=M2
    obtain ⟨hq,eS⟩:=h1.start (f':=fR vc vt vr .nilp .nils) (m':=M2) true (gn oM hM2) (jM hM2 (by simp[aB]))
    have eS:=e1.trans eS
    refine W.loop (fun k d=>∃t M i vth bs,d=⟨t, [],none,M⟩/\NT.get D4.e t=some (.ptr r 0)/\NT.get D4.e.a t=some (ii c)/\NT.get D4.e.a.a t=some (ii (i:Nat))/\i+k=p.ts.length/\RunG (fR vc vt vr .nilp vth) iA ⟨p.cs,p.ts.take i,p.r⟩ B M r ⟨true,rc,(p.ts.take i).map (fun t=>fU t.2),z⟩ (o+1) vcl vo1 vth ⟨q.b,pl1,q.nm,q.vv⟩ bs/\EvF (RunG.foot r vcl vo .nils q []) (RunG.foot r vcl vo1 vth ⟨q.b,pl1,q.nm,q.vv⟩ bs) m M) ?_ p.ts.length _ ⟨_,M2,0,.nils, [],rfl,by simp only[go_sem,seval],by simp only[go_sem,seval],by simp only[go_sem,seval]<;>rfl,by omega,hq,eS⟩
    clear hq eS e1 h1 g gb gb1 g1 hG h r1 hM2
    rintro k d ⟨t,M,i,vth,bs,rfl,t1,t2,t3,hik,h,hE⟩
    apply ap
    unfold ym
    change wp _ _ _ _ ⟨ai [] t, [],none,M⟩ _
    have g:=h.mc.g
    by_cases hi:i<p.ts.length
    ·obtain ⟨vb,E,id,off,wr,cc,hS,a1,a2,a3,a4,a5⟩:=hT.at i hi
     have a2M:=(h.mc.c.get a3 (by simp)).trans a2
     have hzt:=hc.zt _ (List.getElem_mem hi)
     have hvb:=hS.sl.one
     have s1:cc[off+1]? =some vb:=aA a5 1 (by omega)
     obtain ⟨w,m2,r2,b,pl,nm,vv,rfl,hb2,hC2,hnew⟩:=As h.mc.c hS (by omega)
     have hM2:=h.mc.grow hC2
     have g2:=hM2.g
     have a22:=(hM2.c.get a3 (by simp)).trans a2
     have ht1:=h.tv.sl.one
     have htn:=(h.tv.sl.same (n:=3))
     have hvn:=hS.sl.same (n:=3)
     have hvt:=hT.sl.same (n:=3)
     simp (disch:=first|assumption|omega|(simp only[aI]<;>omega)) only[go_sem,seval,t1,t2,t3,g,hlt,a1,a2M,s1,r2.wf,g2,a22,htn,hvn,hvt]
     have hC3:Chg [] m2 (hp [(.n 0,.cells true [.ptr b 0])] 1 m2):=aE rfl
     have hCM3:=hC2.trans hC3 (by simp)
     have h3:=h.grow hCM3
     have hbl:bs.length<=1000:=by have:=h.ln.1;simp only[List.length_take] at this;omega
     refine cZ (cs:= [.ptr b 0]) h3.tv bo (bv (by omega)) rfl (fun i hi=>h3.mc.c.old hi) (by simp;omega) (by simp;omega) ?_
     intro vth' M4 hv4 hC4 hF4
     have hrv:r∉ids vth:=fun u=>(h.d0 r (by simp[bE])).1 u
     have g4:=(hC4.get h3.mc.o hrv).trans h3.mc.g
     have o4:=hC4.old h3.mc.o
     have hC34:Chg [] B M4:=h3.mc.c.trans hC4 fun i hi ho=>Qn ho (h.tv.new i hi)
     have a24:=(hC34.get a3 (by simp)).trans a2
     have hv1:=hv4.sl.one
     simp (disch:=first|assumption|omega|(simp only[aI]<;>omega)) only[go_sem,seval,aa,g4,a24,s1,hv1,t1,t3]
     generalize hM5:M4.put r _=M5
     have hM5:M5=hp [(.o r,.cells true (fR vc vt vr .nilp vth' vcl vo1 z.ill))] 0 M4:=by rw[←hM5,←b9 o4,aa]
     have hC5:Chg [r] M4 M5:=by rw[hM5];exact (cI _ _ _).weak (by simp[aB])
     have hrv':r∉ids vth':=fun u=>(hF4 r u).elim hrv fun u=>u h3.mc.o
     have hC45:=(hC4.weak (T:=r::ids vth) fun i hi _=>List.mem_cons_of_mem _ hi).trans hC5 fun i hi _=>by have hi:=one hi;subst hi;simp
     have hE5:=hE.trans (RunG.evS (vcl:=vcl) (vo:=vo1) (q:=⟨q.b,pl1,q.nm,q.vv⟩) (bs:=bs) (t:=⟨b,pl,nm,vv⟩) hCM3 hC45 hF4 hnew)
     have hq:=h.snoc (f':=fR vc vt vr .nilp vth') (n:=p.ts[i].1) (l:=p.ts[i].2) (t:=⟨b,pl,nm,vv⟩) (m':=hp [(.n 0,.cells true [.ptr b 0])] 1 m2) (m'':=M5) (vth':=vth') hCM3 (hb2.grow hC3) (sa hzt (hc.gt _ (List.getElem_mem hi))) hnew ((hC4.weak fun i hi _=>List.mem_cons_of_mem _ hi).trans hC5 fun i hi _=>by have hi:=one hi;subst hi;simp) (by rw[hM5];exact (aG o4).trans ao)
      (by
       have:=hv4.chg hC5 fun i hi u=>by have u:=one u;subst u;exact hrv' hi
       rw[List.map_append];exact this) hF4
     have et:p.ts.take i++ [(p.ts[i].1,p.ts[i].2)]=p.ts.take (i+1):=by rw[List.take_add_one,List.getElem?_eq_getElem hi];rfl
     have et2:(p.ts.take i).map (fun t=>fU t.2)++ [fU p.ts[i].2]=(p.ts.take (i+1)).map fun t=>fU t.2:=by rw[←et,List.map_append];rfl
     rw[et] at hq
     simp only[et2] at hq
     exact ⟨k - 1,by omega,_,M5,i+1,vth',_,by rfl,by simp only[go_sem,seval,t1],by simp only[go_sem,seval,t2],by simp only[go_sem,seval]<;>rfl,by omega,hq,hE5⟩
    ·have e:i=p.ts.length:=by omega
     subst e
     rw[List.take_length,←hth] at h
     have hst3:∀y∈x.th,Cc y:=fun y hy=>by
      rw[hth,List.mem_map] at hy
      obtain ⟨t,-,rfl⟩:=hy
      exact DL _
     have hlen:=h.tv.sl.len
     rw[List.length_map,h.ln.1,←h.ln.2] at hlen
     have hln:=h.ln.2
     simp only at hln hlen
     unfold BK at hK'
     by_cases hcc:0<=c/\c<x.th.length
     ·simp only[Qp hcc] at hK'
      obtain ⟨k,rfl⟩:=Qv hcc.1
      simp only[Int.toNat_natCast] at hK'
      obtain ⟨t',ht',⟨id,off,w,cc,a1,a2,a3⟩,m2,r2,vo2,bs2,h2',e2,hst4⟩:=Eu hc (by omega) h hst3 (k:=k) (by simpa using hcc.2)
      simp only at r2 h2'
      simp (disch:=first|assumption|omega) only[go_sem,seval,t1,t2,t3,g,hlt,hlen,a1,a2,a3,r2.wf']
      exact hK' _ ⟨_,Or.inr ⟨rfl,hst4,vcl,vo2,vth,⟨q.b,pl1,q.nm,q.vv⟩,bs2,h2'.more (o':=o+2) (by omega),rfl⟩,hE.trans e2⟩
     ·simp only[Qo hcc] at hK'
      by_cases h0:0<=c
      ·have h3:¬c<x.th.length:=fun q=>hcc ⟨h0,q⟩
       simp (disch:=first|assumption|omega) only[go_sem,seval,t1,t2,t3,g,hlt,hlen]
       exact hK' _ ⟨_,Or.inr ⟨rfl,hst3,vcl,vo1,vth,⟨q.b,pl1,q.nm,q.vv⟩,bs,h.more (o':=o+2) (by omega),rfl⟩,hE⟩
      ·simp (disch:=first|assumption|omega) only[go_sem,seval,t1,t2,t3,g,hlt,hlen]
       exact hK' _ ⟨_,Or.inr ⟨rfl,hst3,vcl,vo1,vth,⟨q.b,pl1,q.nm,q.vv⟩,bs,h.more (o':=o+2) (by omega),rfl⟩,hE⟩
 ·have g:=h.mc.g
  have hlen:=h.tv.sl.len
  rw[List.length_map,h.ln.1,←h.ln.2] at hlen
  have hln:=h.ln.2
  obtain ⟨ph,rc,th,z⟩:=x
  simp only at hph hK' hlen hln g hst
  subst hph
  simp only[if_true] at hK'
  unfold BK at hK'
  rw[aa]
  by_cases hcc:0<=c/\c<th.length
  ·simp only[Qp hcc] at hK'
   obtain ⟨k,rfl⟩:=Qv hcc.1
   simp only[Int.toNat_natCast] at hK'
   obtain ⟨t',ht',⟨id,off,w,cc,a1,a2,a3⟩,m2,r2,vo2,bs2,h2',e2,hst4⟩:=Eu hc (by omega) h hst (k:=k) (by simpa using hcc.2)
   simp only at r2 h2'
   simp (disch:=first|assumption|omega) only[go_sem,seval,g,EJ,hlen,a1,a2,a3,r2.wf']
   exact hK' _ ⟨_,Or.inr ⟨rfl,hst4,vcl,vo2,vth,q,bs2,h2'.more (o':=o+2) (by omega),rfl⟩,e2⟩
  ·simp only[Qo hcc] at hK'
   by_cases h0:0<=c
   ·have h3:¬c<th.length:=fun q=>hcc ⟨h0,q⟩
    simp (disch:=first|assumption|omega) only[go_sem,seval,g,EJ,hlen]
    exact hK' _ ⟨_,Or.inr ⟨rfl,hst,vcl,vo,vth,q,bs,h.more (o':=o+2) (by omega),rfl⟩,EvF.refl m⟩
   ·simp (disch:=first|assumption|omega) only[go_sem,seval,g,EJ,hlen]
    exact hK' _ ⟨_,Or.inr ⟨rfl,hst,vcl,vo,vth,q,bs,h.more (o':=o+2) (by omega),rfl⟩,EvF.refl m⟩
end
theorem By {Z Z':List (List Nat)} (hZ:∀n,n∈Z↔n∈Z') (l:List Stm):∀st:qR,st.2=none->(aU (pc Z') l st).1.2=(aU (j6 Z) l st).1.2:=by
 induction l with
 |nil=>intro st h;rfl
 |cons x l ih=>
  intro st h
  have hex:(∃n∈x.own,n∈Z')↔∃n∈x.own,n∈Z:=by simp only[hZ]
  have hR:pc Z' st x=(((x.own.foldl aJ st.1.1,st.1.2+x.own.length),GU x.a (kP Z' (x.own.foldl aJ st.1.1) x)),decide (kP Z' (x.own.foldl aJ st.1.1) x=0)):=rfl
  have stop:∀e:Int,e≠0->kP Z' (x.own.foldl aJ st.1.1) x=e->(j6 Z st x).2=false->(j6 Z st x).1.2=some (x.a,e)->(aU (pc Z') (x::l) st).1.2=(aU (j6 Z) (x::l) st).1.2:=by
   intro e he h1 h2 h3
   have hr2:(pc Z' st x).2=false:=by rw[hR,h1];exact Qq he
   rw[aU,aU,hr2,h2,Qo (by simp),Qo (by simp),h3,hR,h1]
   exact Qo he
  by_cases h1:(x.k=1∨x.k=2∨x.k=3)/\x.ce∉Z
  ·have h1':(x.k=1∨x.k=2∨x.k=3)/\x.ce∉Z':=⟨h1.1,fun q=>h1.2 ((hZ _).2 q)⟩
   have hB:j6 Z st x=((st.1,some (x.a,4)),false):=Qp h1
   refine stop 4 (by decide) ?_ (by rw[hB]) (by rw[hB])
   unfold kP e6;rw[Qp h1'];simp
  ·have h1':¬((x.k=1∨x.k=2∨x.k=3)/\x.ce∉Z'):=fun q=>h1 ⟨q.1,fun z=>q.2 ((hZ _).1 z)⟩
   by_cases h2:∃n∈x.own,n∈Z
   ·have hB:j6 Z st x=((st.1,some (x.a,6)),false):=by unfold j6;rw[Qo h1,Qp h2]
    refine stop 6 (by decide) ?_ (by rw[hB]) (by rw[hB])
    have e1:e6 Z' (if (x.k=1∨x.k=2∨x.k=3)/\x.ce∉Z' then 4 else 0) x.own=6:=by unfold e6;rw[Qo h1',Qp ⟨rfl,hex.2 h2⟩]
    unfold kP;rw[e1,Qo (by simp)]
   ·have h2':¬(True/\∃n∈x.own,n∈Z'):=fun q=>h2 (hex.1 q.2)
    have e0:e6 Z' (if (x.k=1∨x.k=2∨x.k=3)/\x.ce∉Z' then 4 else 0) x.own=0:=by
     unfold e6;rw[Qo h1',Qo fun q=>h2 (hex.1 q.2)]
    by_cases h3:12<(x.own.foldl aJ st.1.1).length
    ·have hB:j6 Z st x=(((x.own.foldl aJ st.1.1,st.1.2+x.own.length),some (x.a,3)),false):=by unfold j6;rw[Qo h1,Qo h2,Qp h3]
     refine stop 3 (by decide) ?_ (by rw[hB]) (by rw[hB])
     unfold kP;rw[e0,Qp ⟨rfl,h3⟩]
    ·have hB:j6 Z st x=(((x.own.foldl aJ st.1.1,st.1.2+x.own.length),none),true):=by unfold j6;rw[Qo h1,Qo h2,Qo h3]
     have hE:kP Z' (x.own.foldl aJ st.1.1) x=0:=by unfold kP;rw[e0,Qo fun q=>h3 q.2]
     have hR':pc Z' st x=(((x.own.foldl aJ st.1.1,st.1.2+x.own.length),none),true):=by rw[hR,hE];rfl
     rw[aU,aU,hB,hR',Qp rfl,Qp rfl]
     exact ih _ rfl
theorem xY {Z Z':List (List Nat)} (hZ:∀n,n∈Z↔n∈Z') (l:List Stm):(iD Z' l (([],0),none)).2=eL Z l:=by
 unfold iD eL
 rw[Qp rfl]
 exact By hZ _ _ rfl
theorem KB {Z:List (List Nat)} {l:List Stm} (h:jL (eL Z l)=0):eL Z l=none:=by
 have h1:=(CH (Z:=Z) (bh l) (([],0),none)).2.1
 rw[←k8,xY (Z:=Z) (Z':=Z) (fun _=>Iff.rfl)] at h1
 exact Decidable.byContradiction fun q=>h1 q rfl h
theorem Du (p:Prg) (n:List Nat):n∈wZ p↔n∈p.cs.map (·.1):=by unfold wZ;rw[fo];simp
theorem CU {l:List (List Nat)} {s:List Nat} {i:Nat} (hi:i<l.length) (hs:l[i]=s):bG l s<i↔s∈l.take i:=by
 have hm:0<=bG l s:=fB.2 (hs▸List.getElem_mem hi)
 have key:∃j:Nat,bG l s=j/\∃h:j<l.length,l[j]=s/\∀k (hk:k<j),l[k]'(by omega)≠s:=by
  unfold bG at hm ⊢
  cases hf:l.findIdx? (fun a=>decide (s=a)) with
  |none=>rw[hf] at hm;dsimp only at hm;omega
  |some j=>
   obtain ⟨h,h1,h2⟩:=List.findIdx?_eq_some_iff_getElem.mp hf
   exact ⟨j,rfl,h,by simpa using (of_decide_eq_true h1).symm,fun k hk q=>by have:=h2 k hk;simp[q] at this⟩
 obtain ⟨j,hj,hl,h1,h2⟩:=key
 rw[hj]
 constructor
 ·intro h
  rw[←h1]
  exact List.mem_take_iff_getElem.2 ⟨j,by omega,rfl⟩
 ·intro h
  obtain ⟨k,hk,e⟩:=List.mem_take_iff_getElem.1 h
  by_cases q:k<j
  ·exact Qn e (h2 k q)
  ·omega
theorem MU {m:NH} {T:D4->Prop} {p:Prg} {vc vt vr:NV} (h:RP m T p vc vt vr) (hs:p.cs.length<=1000000/\p.ts.length<=1000000) (hz:∀t∈p.ts,cz t.2<=10000000) (hr:cz p.r<=10000000):
 ∃m',bc Try.prog S0 14 [.agg [vc,vt,vr]] m (.tup [ii (eT p).1,ii (eT p).2]) m'/\Chg [] m m':=by
 refine WF.ex1 fun K hK=> ?_
 refine WF.of_wpG (fun _=>rfl) zn (L:= [(.e,.agg [vc,vt,vr])]) rfl ?_
 unfold Lb
 obtain ⟨hcs,hts⟩:=hs
 generalize hM0:hp [(.n 0,.cells true [vc,vt,vr])] 1 m=M
 have hC0:Chg [] m M:=aY hM0 rfl
 have g0:M.get (na m 0)=some (.cells true [vc,vt,vr]):=bw hM0
 have o0:ak M (na m 0):=bx hM0 (by omega)
 have h:=h.stays (lg hC0 T)
 obtain ⟨Ct,hT⟩:=h.t
 obtain ⟨Cr,hR⟩:=h.r
 have hlc:=h.c.len
 rw[List.length_map] at hlc
 have hlt:=hT.sl.len
 rw[hT.len] at hlt
 have hvs:bi 4 vc vc=true:=h.c.same
 have hv1:=h.c.one
 unfold eT mu at hK
 by_cases hb:16<p.cs.length∨p.ts.length=0∨4<p.ts.length
 ·rw[Qp hb,Qp (by decide)] at hK
  rcases hb with hb|hb|hb
  ·simp (disch:=first|assumption|omega) only[go_sem,seval,hM0,g0,hlc,hlt,hb]
   exact hK _ hC0
  ·by_cases hb2:16<p.cs.length
   ·simp (disch:=first|assumption|omega) only[go_sem,seval,hM0,g0,hlc,hlt,hb2]
    exact hK _ hC0
   ·simp (disch:=first|assumption|omega) only[go_sem,seval,hM0,g0,hlc,hlt,hb,hb2]
    exact hK _ hC0
  ·by_cases hb2:16<p.cs.length
   ·simp (disch:=first|assumption|omega) only[go_sem,seval,hM0,g0,hlc,hlt,hb2]
    exact hK _ hC0
   ·simp (disch:=first|assumption|omega) only[go_sem,seval,hM0,g0,hlc,hlt,hb,hb2]
    exact hK _ hC0
 rw[Qo hb] at hK
 have hb1:¬16<p.cs.length:=fun q=>hb (Or.inl q)
 have hb2:p.ts.length≠0:=fun q=>hb (Or.inr (Or.inl q))
 have hb3:¬4<p.ts.length:=fun q=>hb (Or.inr (Or.inr q))
 have hE0:cK ((((p.cs.map (·.1)).take 0).foldl aJ [])) 0 (p.cs.drop 0)=cK [] 0 p.cs:=rfl
 simp (disch:=first|assumption|omega) only[go_sem,seval,hM0,g0,hlc,hlt]
 refine W.loop (fun k d=>∃t i w,d=⟨t, [],none,M⟩/\NT.get D4.e.a t=some (.ptr (na m 0) 0)/\NT.get D4.e.f t=some (ii w)/\NT.get D4.e.a.a t=some (ii (i:Nat))/\i+k=p.cs.length/\0<=w/\w<=64/\cK (((p.cs.map (·.1)).take i).foldl aJ []) w (p.cs.drop i)=cK [] 0 p.cs) ?_ p.cs.length _ ⟨_,0,0,rfl,by simp only[go_sem,seval],by simp only[go_sem,seval],by simp only[go_sem,seval]<;>rfl,by omega,by omega,by omega,rfl⟩
 rintro k d ⟨t,i,w,rfl,g1,g2,g3,hik,hw0,hw,hE⟩
 apply ap
 unfold yN
 change wp _ _ _ _ ⟨ai [] t, [],none,M⟩ _
 by_cases hi:i<p.cs.length
 ·obtain ⟨id,off,wr,c,a1,a2,a3,a4,a5⟩:=h.c.at i (by simpa using hi)
  rw[List.getElem_map] at a5
  have htk:((p.cs.map (·.1)).take (i+1)).foldl aJ []=aJ (((p.cs.map (·.1)).take i).foldl aJ []) p.cs[i].1:=by
   rw[List.take_add_one,List.getElem?_map,List.getElem?_eq_getElem hi,List.foldl_append];rfl
  have hfs:=rt h.c hcs p.cs[i].1
  have hft:=CU (l:=p.cs.map (·.1)) (s:=p.cs[i].1) (i:=i) (by simpa using hi) (by simp)
  have hmem:p.cs[i].1∈((p.cs.map (·.1)).take i).foldl aJ []↔p.cs[i].1∈(p.cs.map (·.1)).take i:=by rw[fo];simp
  have hpw:=Hh M p.cs[i].2
  rw[List.drop_eq_getElem_cons hi,cK,←htk] at hE
  generalize hcc:p.cs[i]=cc at hE a5 hfs hft hmem hpw
  obtain ⟨nm,s⟩:=cc
  dsimp only at hE a5 hfs hft hmem hpw
  have c0:c[off+0]? =some (.str nm):=aA a5 0 (by omega)
  have c1:c[off+1]? =some (ii s):=aA a5 1 (by omega)
  have hfb:=lq (l:=p.cs.map (·.1)) (x:=nm)
  by_cases hin:nm∈(p.cs.map (·.1)).take i
  ·rw[Qp (hmem.2 hin)] at hE
   have hlt':=hft.2 hin
   generalize bG (p.cs.map (·.1)) nm=z at hfs hlt' hfb
   rw[←hE,Qp (show (5:Int)≠0 by decide),Qp (show (5:Int)≠0 by decide)] at hK
   simp (disch:=first|assumption|omega) only[go_sem,seval,g1,g2,g3,g0,hlc,a1,a2,c0,c1,hvs,hfs.wf']
   exact hK _ hC0
  ·rw[Qo fun q=>hin (hmem.1 q)] at hE
   have hge:¬bG (p.cs.map (·.1)) nm<i:=fun q=>hin (hft.1 q)
   generalize bG (p.cs.map (·.1)) nm=z at hfs hge hfb
   by_cases hp:mO s=false
   ·rw[Qp hp] at hE
    rw[hp] at hpw
    rw[←hE,Qp (show (7:Int)≠0 by decide),Qp (show (7:Int)≠0 by decide)] at hK
    simp (disch:=first|assumption|omega) only[go_sem,seval,g1,g2,g3,g0,hlc,a1,a2,c0,c1,hvs,hfs.wf',hpw.wf']
    exact hK _ hC0
   ·rw[Qo hp] at hE
    have hpt:mO s=true:=by simpa using hp
    rw[hpt] at hpw
    obtain ⟨p1,p2,-⟩:=of_decide_eq_true hpt
    by_cases h64:64 - w<s
    ·rw[Qp h64] at hE
     rw[←hE,Qp (show (3:Int)≠0 by decide),Qp (show (3:Int)≠0 by decide)] at hK
     simp (disch:=first|assumption|omega) only[go_sem,seval,g1,g2,g3,g0,hlc,a1,a2,c0,c1,hvs,hfs.wf',hpw.wf']
     exact hK _ hC0
    ·rw[Qo h64] at hE
     simp (disch:=first|assumption|omega) only[go_sem,seval,g1,g2,g3,g0,hlc,a1,a2,c0,c1,hvs,hfs.wf',hpw.wf']
     exact ⟨k - 1,by omega,_,i+1,w+s,by rfl,by simp only[go_sem,seval,g1],by simp only[go_sem,seval],by simp only[go_sem,seval]<;>rfl,by omega,by omega,by omega,hE⟩
 ·rw[List.drop_of_length_le (by omega),cK] at hE
  rw[←hE,Qo (show ¬(0:Int)≠0 by decide)] at hK
  simp (disch:=first|assumption|omega) only[go_sem,seval,g1,g2,g3,g0,hlc]
  clear hik hw0 hw hE hE0
  refine W.loop (fun k d=>∃t i,d=⟨t, [],none,M⟩/\NT.get D4.e.a t=some (.ptr (na m 0) 0)/\NT.get D4.e.a.b t=some (ii (i:Nat))/\i+k=p.ts.length/\fO (((p.ts.map (·.1)).take i).foldl aJ []) ((p.ts.map (·.1)).drop i)=fO [] (p.ts.map (·.1))) ?_ p.ts.length _ ⟨_,0,rfl,by simp only[go_sem,seval,g1],by simp only[go_sem,seval]<;>rfl,by omega,rfl⟩
  clear g1 g2 g3 hi
  rintro k d ⟨t,i,rfl,g1,g2,hik,hE⟩
  apply ap
  unfold yR
  change wp _ _ _ _ ⟨ai [] t, [],none,M⟩ _
  by_cases hi:i<p.ts.length
  ·obtain ⟨vbi,Bi,idi,offi,wri,ci,-,a1,a2,a3,a4,a5⟩:=hT.at i hi
   have ci0:ci[offi+0]? =some (.str p.ts[i].1):=aA a5 0 (by omega)
   have htk:((p.ts.map (·.1)).take (i+1)).foldl aJ []=aJ (((p.ts.map (·.1)).take i).foldl aJ []) p.ts[i].1:=by
    rw[List.take_add_one,List.getElem?_map,List.getElem?_eq_getElem hi,List.foldl_append];rfl
   have hmem:p.ts[i].1∈((p.ts.map (·.1)).take i).foldl aJ []↔p.ts[i].1∈(p.ts.map (·.1)).take i:=by rw[fo];simp
   rw[List.drop_eq_getElem_cons (by simpa using hi),List.getElem_map,fO,←htk] at hE
   simp (disch:=first|assumption|omega) only[go_sem,seval,g1,g2,g0,hlt]
   refine W.loop (fun kk d=>∃t j,d=⟨t, [],none,M⟩/\NT.get D4.e.a t=some (.ptr (na m 0) 0)/\NT.get D4.e.a.b t=some (ii (i:Nat))/\NT.get D4.e.a.c t=some (ii (j:Nat))/\j+kk=i/\∀q (h1:q<j) (h2:q<p.ts.length),p.ts[q].1≠p.ts[i].1) ?_ i _ ⟨_,0,rfl,by simp only[go_sem,seval,g1],by simp only[go_sem,seval,g2],by simp only[go_sem,seval]<;>rfl,by omega,by simp⟩
   clear g1 g2
   rintro kk d ⟨t,j,rfl,g1,g2,g3,hjk,hno⟩
   apply ap
   unfold Ao
   change wp _ _ _ _ ⟨ai [] t, [],none,M⟩ _
   by_cases hj:j<i
   ·obtain ⟨vbj,Bj,idj,offj,wrj,cj,-,b1,b2,b3,b4,b5⟩:=hT.at j (by omega)
    have cj0:cj[offj+0]? =some (.str p.ts[j].1):=aA b5 0 (by omega)
    have hts':bi 4 vt vt=true:=hT.sl.same
    by_cases he:p.ts[j].1=p.ts[i].1
    ·have hin:p.ts[i].1∈(p.ts.map (·.1)).take i:=List.mem_take_iff_getElem.2 ⟨j,by simp;omega,by simpa using he⟩
     rw[Qp (hmem.2 hin)] at hE
     rw[←hE,Qp (show (5:Int)≠0 by decide)] at hK
     simp (disch:=first|assumption|omega) only[go_sem,seval,g1,g2,g3,g0,hlt,a1,a2,ci0,b1,b2,cj0,he,hts']
     exact hK _ hC0
    ·simp (disch:=first|assumption|omega) only[go_sem,seval,g1,g2,g3,g0,hlt,a1,a2,ci0,b1,b2,cj0,he,hts']
     refine ⟨kk - 1,by omega,_,j+1,by rfl,by simp only[go_sem,seval,g1],by simp only[go_sem,seval,g2],by simp only[go_sem,seval]<;>rfl,by omega,fun q h1 h2=> ?_⟩
     rcases Nat.lt_or_ge q j with h3|h3
     ·exact hno q h3 h2
     ·obtain rfl:q=j:=by omega
      exact he
   ·have hnin:p.ts[i].1∉(p.ts.map (·.1)).take i:=fun q=>by
     obtain ⟨y,hy,e⟩:=List.mem_take_iff_getElem.1 q
     exact hno y (by omega) (by simp at hy;omega) (by simpa using e)
    rw[Qo fun q=>hnin (hmem.1 q)] at hE
    simp (disch:=first|assumption|omega) only[go_sem,seval,g1,g2,g3,g0,hlt]
    exact ⟨k - 1,by omega,_,i+1,by rfl,by simp only[go_sem,seval,g1],by simp only[go_sem,seval]<;>rfl,by omega,hE⟩
  ·rw[List.drop_of_length_le (by simp;omega),fO] at hE
   rw[←hE,Qo (show ¬(0:Int)≠0 by decide)] at hK
   simp (disch:=first|assumption|omega) only[go_sem,seval,g1,g2,g0,hlt]
   clear hik hE
   generalize hZ:wZ p=Z at hK
   have hZm:∀n,n∈Z↔n∈p.cs.map (·.1):=fun n=>hZ▸Du p n
   generalize htot:iq Z p.r (p.ts.map (·.2))=tot at hK
   refine W.loop (fun k d=>∃t N i,d=⟨t, [],none,N⟩/\NT.get D4.e.a t=some (.ptr (na m 0) 0)/\NT.get D4.e.a.f t=some (ii (i:Nat))/\i+k=p.ts.length+1/\Chg [] M N/\((i<=p.ts.length/\iq Z p.r ((p.ts.map (·.2)).drop i)=tot)∨(i=p.ts.length+1/\tot=(0,0)))) ?_ (p.ts.length+1) _ ⟨_,M,0,rfl,by simp only[go_sem,seval,g1],by simp only[go_sem,seval]<;>rfl,by omega,Chg.refl M,Or.inl ⟨by omega,htot⟩⟩
   clear g1 g2 hi htot
   rintro k d ⟨t,N,i,rfl,g1,g2,hik,hC,hE⟩
   apply ap
   unfold zz
   change wp _ _ _ _ ⟨ai [] t, [],none,N⟩ _
   have gN:=(hC.get o0 (by simp)).trans g0
   have oN:=hC.old o0
   have hN0:=hC0.trans hC (by simp)
   rcases hE with ⟨hi,hE⟩|⟨hi,hE⟩
   ·have hcN:=h.c.chg hC fun _ _=>by simp
    generalize hN1:hp [(.n 0,.cells true [vc,.nils,ii 0,ii 0])] 1 N=N1
    have hC1:Chg [] N N1:=aY hN1 rfl
    have hW1:Wk (na N 0) N N vc .nils [] 0 0 N1:=⟨by rw[←hN1];exact bo,by rw[←hN1];exact bv (by omega),aV.nil,by simp[ids],hC1,fun _ ho=>hC1.old ho⟩
    have gN1:=(hC1.get oN (by simp)).trans gN
    have oN1:=hC1.old oN
    have hwalk:∀{vb:NV} {b:List Stm} {Bb:List (List NV)},SS M T vb b Bb->cz b<=10000000->∃N2,bc Try.prog S0 52 [.ptr (na N 0) 0,vb] N1 (.tup []) N2/\(∃u,N2.get (na N 0)=some (.cells true [vc,u,ii (jL (eL Z b)),ii (wP (eL Z b))]))/\ak N2 (na N 0)/\Chg [] N N2/\N2.get (na m 0)=some (.cells true [vc,vt,vr]):=by
     intro vb b Bb hb hsb
     have hle:=(kM b).2
     obtain ⟨N2,hr2,u2,hW2,hC2,-⟩:=J2 (T:=T) hcN hcs (fun _ ho=>ho) az az b (st:=(([],0),none)) (hb.stays (lg hC T)) hW1 (fun q=>Qn rfl q) (by simp) (by dsimp only;omega) (by omega)
     rw[xY hZm] at hW2
     have hC2':Chg [na N 0] N1 N2:=hC2.weak (by simp[ids])
     exact ⟨N2,hr2,⟨u2,hW2.g⟩,hW2.o,hW2.c,(hC2'.get oN1 (by simpa using oN.ne 0)).trans gN1⟩
    by_cases hl:i<p.ts.length
    ·obtain ⟨vb,Bb,id,off,wr,c,hSb,a1,a2,a3,a4,a5⟩:=hT.at i hl
     have c1:c[off+1]? =some vb:=aA a5 1 (by omega)
     have a2':=((hC.trans hC1 (by simp)).get a3 (by simp)).trans a2
     obtain ⟨N2,hr2,⟨u2,gk⟩,ok,hC2,g02⟩:=hwalk hSb (hz _ (List.getElem_mem hl))
     rw[List.drop_eq_getElem_cons (by simpa using hl),List.getElem_map,iq] at hE
     rw[←aa N]
     by_cases he:jL (eL Z p.ts[i].2)=0
     ·rw[Qo (by simp[he])] at hE
      rw[he] at gk
      simp (disch:=first|assumption|omega|(simp only[aI]<;>omega)) only[go_sem,seval,g1,g2,gN,hlt,hv1,hN1,gN1,a1,a2',c1,hr2.wf',gk]
      exact ⟨k - 1,by omega,_,N2,i+1,by rfl,by simp only[go_sem,seval,g1],by simp only[go_sem,seval]<;>rfl,by omega,hC.trans hC2 (by simp),Or.inl ⟨by omega,hE⟩⟩
     ·rw[Qp he] at hE
      rw[←hE] at hK
      simp (disch:=first|assumption|omega|(simp only[aI]<;>omega)) only[go_sem,seval,g1,g2,gN,hlt,hv1,hN1,gN1,a1,a2',c1,hr2.wf',gk,he]
      exact hK _ (hN0.trans hC2 (by simp))
    ·obtain ⟨N2,hr2,⟨u2,gk⟩,ok,hC2,g02⟩:=hwalk hR hr
     rw[List.drop_of_length_le (by simp;omega),iq] at hE
     rw[←aa N]
     by_cases he:jL (eL Z p.r)=0
     ·rw[KB he] at hE gk
      simp (disch:=first|assumption|omega|(simp only[aI]<;>omega)) only[go_sem,seval,g1,g2,gN,hlt,hv1,hN1,gN1,hr2.wf',gk,jL,wP]
      exact ⟨k - 1,by omega,_,N2,i+1,by rfl,by simp only[go_sem,seval,g1],by simp only[go_sem,seval]<;>rfl,by omega,hC.trans hC2 (by simp),Or.inr ⟨by omega,hE.symm⟩⟩
     ·rw[←hE] at hK
      simp (disch:=first|assumption|omega|(simp only[aI]<;>omega)) only[go_sem,seval,g1,g2,gN,hlt,hv1,hN1,gN1,hr2.wf',gk,he]
      exact hK _ (hN0.trans hC2 (by simp))
   ·rw[hE] at hK
    simp (disch:=first|assumption|omega) only[go_sem,seval,g1,g2,gN,hlt]
    exact hK _ hN0
theorem Gd {m:NH} {v:NV} {l:List (List Nat×Int)} (hv:Sl m v 2 (jD l)) (hsz:l.length<=1000000):∃m',bc Try.prog S0 127 [v] m (ii (bn l)) m'/\Chg [] m m':=by
 refine WF.ex1 fun K hK=> ?_
 refine WF.of_wpG (fun _=>rfl) tq (L:= [(.e,v)]) rfl ?_
 unfold Cv
 have hlen:=hv.len
 rw[List.length_map] at hlen
 simp (disch:=first|assumption|omega) only[go_sem,seval,aa]
 refine W.loop (fun k d=>∃t M i,d=⟨t, [],none,M⟩/\NT.get D4.e t=some v/\NT.get D4.e.c t=some (ii (bn (l.take i)))/\NT.get D4.e.f t=some (ii (i:Nat))/\i+k=l.length/\Chg [] m M) ?_ l.length _ ⟨_,m,0,rfl,by simp only[go_sem,seval],by simp only[go_sem,seval]<;>rfl,by simp only[go_sem,seval]<;>rfl,by omega,Chg.refl m⟩
 rintro k d ⟨t,M,i,rfl,t1,t2,t3,hik,hC⟩
 apply ap
 unfold sQ
 change wp _ _ _ _ ⟨ai [] t, [],none,M⟩ _
 by_cases hi:i<l.length
 ·obtain ⟨id,off,wr,c,a1,a2,a3,a4,a5⟩:=hv.at i (by simpa using hi)
  rw[List.getElem_map] at a5
  have a2M:=(hC.get a3 (by simp)).trans a2
  obtain ⟨M1,r1,hC1⟩:=FE M l[i].1 l[i].2
  have hw:=gY l i hi
  have hb:=dc (l.take i)
  have hcl:=mT l[i].2
  rw[List.length_take] at hb
  simp (disch:=first|assumption|omega) only[go_sem,seval,t1,t2,t3,hlen,a1,a2M,a4,a5,r1.wf',hw.symm]
  exact ⟨k - 1,by omega,_,M1,i+1,by rfl,by simp only[go_sem,seval,t1],by simp only[go_sem,seval],by simp only[go_sem,seval]<;>rfl,by omega,hC.trans hC1 (by simp)⟩
 ·simp (disch:=first|assumption|omega) only[go_sem,seval,t1,t2,t3,hlen]
  rw[List.take_of_length_le (by omega)]
  exact hK _ hC
section
variable {p:Prg} {B m m':NH} {vc vt vr vcl vo vth rec:NV} {r:D4} {x:Rn} {o:Nat} {z:Mc} {F:List D4}
theorem vp (hc:RunC p B vc vt vr) (h:Mac (fR vc vt vr rec vth) B m r vcl vo z) (hz:McOk p.cs z) (ho:z.out.length<=o):
 ∃m',bc Try.prog S0 42 [.ptr r 0] m (.tup []) m'/\∃F',j7 p B vc vt vr m' r (lu p z) o F'/\EvF (bE r vcl vo) F' m m':=by
 refine WF.ex1 fun K' hK'=> ?_
 refine WF.of_wpG (fun _=>rfl) yU (L:= [(.e,.ptr r 0)]) rfl ?_
 unfold Lm
 obtain ⟨CR,hR⟩:=hc.rp.r
 have hzr:=hc.zr
 have g:=h.g
 obtain ⟨w,m1,r1,b,pl,nm,vv,rfl,hb,hC1,hnew⟩:=As h.c hR (by omega)
 have h1:=h.grow hC1
 have g1:=h1.g
 have o1:=h1.o
 rw[aa]
 simp (disch:=first|assumption|omega|(simp only[aI]<;>omega)) only[go_sem,seval,g,r1.wf,g1]
 generalize hM2:hp _ 0 m1=M2
 obtain ⟨hm2,e2⟩:=h1.refit (f':=fR vc vt vr (.ptr b 0) .nils) (m':=M2) (gn o1 hM2) (jM hM2 (by simp[aB]))
 have hF:∀i∈bE r vcl vo,¬ak B i:=fun i hi=>(h.old i hi).2
 have hd:∀i∈bE r vcl vo,i∉bU b pl nm vv:=fun i hi u=>hnew i u (h.old i hi).1
 exact hK' _ ⟨_,Or.inl ⟨rfl,rfl,DL _,vcl,vo,⟨b,pl,nm,vv⟩,⟨hm2,hb.ev e2 (fun i hi u=>hd i u hi) hF,sa hzr hc.gr,aV.nil,by simp,by simp,fun i hi=>⟨by simp[ids],hd i hi,by simp⟩,by simp[ids],by simp,by simp,hz,ho⟩,rfl⟩,RunG.ev0 hC1 e2 hnew⟩
theorem j7.mac (h:j7 p B vc vt vr m r x o F):∃rec vth vcl vo,Mac (fR vc vt vr rec vth) B m r vcl vo x.z/\McOk p.cs x.z/\x.z.out.length<=o/\(∀i∈bE r vcl vo,i∈F)/\(rec= .nilp↔x.ph=true)/\(rec= .nilp∨∃b,rec= .ptr b 0):=by
 rcases h with ⟨hph,hth,hst,vcl,vo,q,h,rfl⟩|⟨hph,hst,vcl,vo,vth,q,bs,h,rfl⟩
 ·exact ⟨_,_,_,_,h.mc,h.zk,h.ol,fun i hi=>by simp only[RunG.foot,List.mem_append];exact Or.inl hi,by simp[hph],Or.inr ⟨_,rfl⟩⟩
 ·exact ⟨_,_,_,_,h.mc,h.zk,h.ol,fun i hi=>by simp only[RunG.foot,List.mem_append];exact Or.inl hi,by simp[hph],Or.inl rfl⟩
theorem j7.all (h:j7 p B vc vt vr m r x o F):∀i∈F,ak m i/\¬ak B i:=by
 rcases h with ⟨hph,hth,hst,vcl,vo,q,h,rfl⟩|⟨hph,hst,vcl,vo,vth,q,bs,h,rfl⟩
 ·exact h.all
 ·exact h.all
theorem G0 (hc:RunC p B vc vt vr) (h:j7 p B vc vt vr m r x o F):
 ∃m',bc Try.prog S0 42 [.ptr r 0] m (.tup []) m'/\∃F',j7 p B vc vt vr m' r (lu p x.z) o F'/\EvF F F' m m':=by
 obtain ⟨rec,vth,vcl,vo,h1,h2,h3,h4,-⟩:=h.mac
 obtain ⟨m',r1,F',h5,h6⟩:=vp hc h1 h2 h3
 exact ⟨m',r1,F',h5,h6.sup h4 fun j hj=>Or.inr hj⟩
def KY (p:Prg) (B:NH) (vc vt vr:NV) (m m':NH) (w:NV):Prop:=
 if (eT p).2≠0 then w= .tup [.nilp,ii (eT p).2]/\Chg [] m m'
 else ∃r F,w= .tup [.ptr r 0,ii 0]/\RunC p B vc vt vr/\j7 p B vc vt vr m' r (lu p (vG p)) 0 F/\Chg [] m m'/\∀i∈F,¬ak m i
theorem OD (h:RP B (fun _=>True) p vc vt vr) (hC:Chg [] B m) (hs:p.cs.length<=100000/\p.ts.length<=100000) (hz:∀t∈p.ts,cz t.2<=400000) (hr:cz p.r<=400000) (hok:(eT p).2=0->PrgOk p):
 ∃w m',bc Try.prog S0 78 [.agg [vc,vt,vr]] m w m'/\KY p B vc vt vr m m' w:=by
 refine WF.ex fun K' hK'=> ?_
 refine WF.of_wpG (fun _=>rfl) y6 (L:= [(.e,.agg [vc,vt,vr])]) rfl ?_
 unfold Kk
 obtain ⟨hcs,hts⟩:=hs
 generalize hM1:hp [(.n 0,.cells true [vc,vt,vr])] 1 m=M1
 have hC1:Chg [] m M1:=aY hM1 rfl
 have g1:M1.get (na m 0)=some (.cells true [vc,vt,vr]):=bw hM1
 have o1:ak M1 (na m 0):=bx hM1 (by omega)
 have hCB1:=hC.trans hC1 (by simp)
 have h1:=h.stays (lg hCB1 _)
 obtain ⟨M2,r2,hC2⟩:=MU h1 ⟨by omega,by omega⟩ (fun t ht=>by have:=hz t ht;omega) (by omega)
 have g2:=(hC2.get o1 (by simp)).trans g1
 have o2:=hC2.old o1
 have hCm2:=hC1.trans hC2 (by simp)
 have hCB2:=hCB1.trans hC2 (by simp)
 unfold KY at hK'
 by_cases hE:(eT p).2≠0
 ·simp only[Qp hE] at hK'
  simp (disch:=first|assumption|omega|(simp only[aI]<;>omega)) only[go_sem,seval,hM1,g1,r2.wf']
  exact hK' _ _ ⟨rfl,hCm2⟩
 ·simp only[Qo hE] at hK'
  have hE0:(eT p).2=0:=by simpa using hE
  have hRC:=(hok hE0).run h
  obtain ⟨CT,hT⟩:=h.t
  obtain ⟨CR,hR⟩:=h.r
  obtain ⟨M7,r7,hC7⟩:=Gd (h.c.grew hCB2) (by omega)
  have hw:=dc p.cs
  obtain ⟨n,hn⟩:=Qv hw.1
  rw[hn] at r7
  have gM7:=(hC7.get o2 (by simp)).trans g2
  have kc:=h.c.one
  have kt:=hT.sl.one
  have kr:=hR.sl.one
  have ks:=h.c.same (n:=3)
  have kst:=hT.sl.same (n:=3)
  have ksr:=hR.sl.same (n:=3)
  have kag:bi 4 (.agg [vc,vt,vr]) (.agg [vc,vt,vr])=true:=i7 fun w hw=>by
   simp only[Qt,Qs,or_false] at hw
   rcases hw with rfl|rfl|rfl
   ·exact h.c.flat
   ·exact hT.sl.flat
   ·exact hR.sl.flat
  generalize hM8:hp [(.n 1,.cells true [vc,vt,vr,.slc (na M7 0) 0 n 1 n,.nils,.nilp,.nils,.bool false]),(.n 0,.cells true (rep n [iu 0]))] 2 M7=M8
  have hC8:Chg [] M7 M8:=aY hM8 rfl
  have hCB8:=(hCB2.trans hC7 (by simp)).trans hC8 (by simp)
  have hCm8:=(hCm2.trans hC7 (by simp)).trans hC8 (by simp)
  have nw:∀j,¬ak B (na M7 j):=fun j q=>az (hC7.old (hCB2.old q))
  have nw2:∀j,¬ak m (na M7 j):=fun j q=>az (hC7.old (hCm2.old q))
  have g81:M8.get (na M7 1)=some (.cells true [vc,vt,vr,.slc (na M7 0) 0 n 1 n,.nils,.nilp,.nils,.bool false]):=bw hM8
  have g80:M8.get (na M7 0)=some (.cells true (rep n [iu 0])):=bw hM8
  have o81:ak M8 (na M7 1):=bx hM8 (by omega)
  have o80:ak M8 (na M7 0):=bx hM8 (by omega)
  have e0:(vG p).cl=List.replicate n 0:=by unfold vG;rw[hn];rfl
  have hMac:Mac (fR vc vt vr .nilp .nils) B M8 (na M7 1) (.slc (na M7 0) 0 n 1 n) .nils (vG p):=by
   refine ⟨g81,o81,nw 1, ?_,aV.nil,⟨by simp[ids,mH],by simp[ids],by simp[ids]⟩,hCB8⟩
   rw[e0]
   exact aV.of (by simp) (nw 0) g80 o80 (by rw[rZ];simp) (by simp) (by simp)
  have hMok:McOk p.cs (vG p):=⟨fun y hy=>by rw[e0,List.mem_replicate] at hy;rw[hy.2];exact ⟨by simp,by simp⟩,by simp[vG],by rw[e0,List.length_replicate,hn]⟩
  obtain ⟨M9,r9,F,hQ,hEv⟩:=vp hRC hMac hMok (o:=0) (by simp[vG])
  have hnF:∀i∈bE (na M7 1) (.slc (na M7 0) 0 n 1 n) .nils,¬ak m i:=fun i hi=>by
   simp only[bE,ids,Qt,List.append_nil,Qs,or_false] at hi
   rcases hi with rfl|rfl
   ·exact nw2 1
   ·exact nw2 0
  simp (disch:=first|assumption|omega|(simp only[aI]<;>omega)) only[go_sem,seval,hM1,g1,r2.wf',g2,hE0,r7.wf,gM7,kc,kt,kr,ks,kst,ksr,kag,hM8,r9.wf']
  exact hK' _ _ ⟨_,F,rfl,hRC,hQ,hCm8.trans (hEv.c.weak (T:=bE (na M7 1) (.slc (na M7 0) 0 n 1 n) .nils) fun i hi _=>hi) (fun i hi w=>Qn w (hnF i hi)),fun i hi w=>(hEv.f i hi).elim (fun q=>hnF i q w) fun q=>q (hCm8.old w)⟩
end
def vF (c:Nat):Bool:=decide (97<=c/\c<=122)
def eW (c:Nat):Bool:=decide (48<=c/\c<=57)
def ei (c:Nat):Bool:=vF c||eW c||decide (c=95)
def zO (c:Nat):Bool:=decide (c=32∨c=9∨c=10∨c=13)
theorem np (m:NH) (c:Nat):bc Try.prog S0 133 [u8 c] m (.bool (vF c)) m:=by
 have h:∃v m',bc Try.prog S0 133 [u8 c] m v m'/\v= .bool (vF c)/\m'=m:=by
  refine WF.ex fun K hK=> ?_
  refine WF.of_wpG (fun _=>rfl) uK (L:= [(.e,u8 c)]) rfl ?_
  unfold Ch
  by_cases h1:97<=c
  ·by_cases h2:c<=122
   ·simp (disch:=first|assumption|omega) only[go_sem,seval]
    exact hK _ _ ⟨by simp[vF,h1,h2],aa m⟩
   ·simp (disch:=first|assumption|omega) only[go_sem,seval]
    exact hK _ _ ⟨by simp[vF,h2],aa m⟩
  ·simp (disch:=first|assumption|omega) only[go_sem,seval]
   exact hK _ _ ⟨by simp[vF,h1],aa m⟩
 obtain ⟨v,m',h,rfl,rfl⟩:=h
 exact h
theorem si (m:NH) (c:Nat):bc Try.prog S0 132 [u8 c] m (.bool (eW c)) m:=by
 have h:∃v m',bc Try.prog S0 132 [u8 c] m v m'/\v= .bool (eW c)/\m'=m:=by
  refine WF.ex fun K hK=> ?_
  refine WF.of_wpG (fun _=>rfl) vq (L:= [(.e,u8 c)]) rfl ?_
  unfold CM
  by_cases h1:48<=c
  ·by_cases h2:c<=57
   ·simp (disch:=first|assumption|omega) only[go_sem,seval]
    exact hK _ _ ⟨by simp[eW,h1,h2],aa m⟩
   ·simp (disch:=first|assumption|omega) only[go_sem,seval]
    exact hK _ _ ⟨by simp[eW,h2],aa m⟩
  ·simp (disch:=first|assumption|omega) only[go_sem,seval]
   exact hK _ _ ⟨by simp[eW,h1],aa m⟩
 obtain ⟨v,m',h,rfl,rfl⟩:=h
 exact h
theorem DK (m:NH) (c:Nat):bc Try.prog S0 131 [u8 c] m (.bool (ei c)) m:=by
 have h:∃v m',bc Try.prog S0 131 [u8 c] m v m'/\v= .bool (ei c)/\m'=m:=by
  refine WF.ex fun K hK=> ?_
  refine WF.of_wpG (fun _=>rfl) ug (L:= [(.e,u8 c)]) rfl ?_
  unfold DS
  have a1:=np m c
  have a2:=si m c
  cases h1:vF c with
  |true=>
   rw[h1] at a1
   simp (disch:=first|assumption|omega) only[go_sem,seval,aa,a1.wf']
   exact hK _ _ ⟨by simp[ei,h1],rfl⟩
  |false=>
   rw[h1] at a1
   cases h2:eW c with
   |true=>
    rw[h2] at a2
    simp (disch:=first|assumption|omega) only[go_sem,seval,aa,a1.wf',a2.wf']
    exact hK _ _ ⟨by simp[ei,h2],rfl⟩
   |false=>
    rw[h2] at a2
    by_cases h3:c=95
    ·simp (disch:=first|assumption|omega) only[go_sem,seval,aa,a1.wf',a2.wf']
     exact hK _ _ ⟨by simp[ei,h3],rfl⟩
    ·simp (disch:=first|assumption|omega) only[go_sem,seval,aa,a1.wf',a2.wf']
     exact hK _ _ ⟨by simp[ei,h1,h2,h3],rfl⟩
 obtain ⟨v,m',h,rfl,rfl⟩:=h
 exact h
def aT (p:Nat->Bool) (s:List Nat) (a:Nat):Nat:=a+((s.drop a).takeWhile p).length
theorem gp {p:Nat->Bool} {s:List Nat} {a:Nat} (h:a<s.length) (hp:p s[a]=true):aT p s a=aT p s (a+1):=by
 unfold aT
 rw[List.drop_eq_getElem_cons h,List.takeWhile_cons,Qp hp,List.length_cons]
 omega
theorem qZ {p:Nat->Bool} {s:List Nat} {a:Nat} (h:a<s.length) (hp:p s[a]=false):aT p s a=a:=by
 unfold aT
 rw[List.drop_eq_getElem_cons h,List.takeWhile_cons,Qo (by simp[hp])];rfl
theorem nj {p:Nat->Bool} {s:List Nat} {a:Nat} (h:s.length<=a):aT p s a=a:=by
 unfold aT
 rw[List.drop_eq_nil_of_le h];rfl
theorem jp {p:Nat->Bool} {s:List Nat} {a:Nat}:a<=aT p s a:=by unfold aT;omega
theorem f0 {p:Nat->Bool} {s:List Nat} {a:Nat} (h:a<=s.length):aT p s a<=s.length:=by
 unfold aT
 have:=(List.takeWhile_sublist (l:=s.drop a) p).length_le
 rw[List.length_drop] at this;omega
def xg:Bool->List Nat->Nat
 |_, []=>0
 |false,c::l=>if zO c then 1+xg false l else if c=35 then 1+xg true l else 0
 |true,c::l=>if c=10 then 1+xg false l else 1+xg true l
def bz (s:List Nat) (a:Nat):Nat:=a+xg false (s.drop a)
theorem Jb:∀(l:List Nat) (q:Bool),xg q l<=l.length:=by
 intro l
 induction l with
 |nil=>intro q;cases q<;>exact Nat.le_refl 0
 |cons c l ih=>
  intro q
  have h1:=ih false
  have h2:=ih true
  cases q with
  |false=>
   show (if zO c then 1+xg false l else if c=35 then 1+xg true l else 0)<=l.length+1
   split
   ·omega
   ·split<;>omega
  |true=>
   show (if c=10 then 1+xg false l else 1+xg true l)<=l.length+1
   split<;>omega
def mK (s:List Nat) (a:Nat):Nat:=a+xg true (s.drop a)
theorem im {s:List Nat} {a:Nat} (h:a<s.length):bz s a=if zO s[a] then bz s (a+1) else if s[a]=35 then mK s (a+1) else a:=by
 unfold bz mK
 rw[List.drop_eq_getElem_cons h]
 show a+(if zO s[a] then 1+xg false (s.drop (a+1)) else if s[a]=35 then 1+xg true (s.drop (a+1)) else 0)=_
 split
 ·omega
 ·split<;>omega
theorem nn {s:List Nat} {a:Nat} (h:a<s.length):mK s a=if s[a]=10 then bz s (a+1) else mK s (a+1):=by
 unfold bz mK
 rw[List.drop_eq_getElem_cons h]
 show a+(if s[a]=10 then 1+xg false (s.drop (a+1)) else 1+xg true (s.drop (a+1)))=_
 split<;>omega
theorem qj {s:List Nat} {a:Nat} (h:s.length<=a):bz s a=a:=by
 unfold bz;rw[List.drop_eq_nil_of_le h];rfl
theorem AU {s:List Nat} {a:Nat} (h:s.length<=a):mK s a=a:=by
 unfold mK;rw[List.drop_eq_nil_of_le h];rfl
theorem lr {s:List Nat} {a:Nat} (h:a<=s.length):bz s a<=s.length:=by
 have:=Jb (s.drop a) false
 rw[List.length_drop] at this
 unfold bz;omega
theorem t7 {s:List Nat} {a:Nat}:a<=bz s a:=by unfold bz;omega
theorem Gn (s:List Nat):∀(k a:Nat),k=s.length - a->mK s a=bz s (aT (fun c=>decide (c≠10)) s a):=by
 intro k
 induction k with
 |zero=>intro a hk;rw[nj (by omega),AU (by omega),qj (by omega)]
 |succ k ih=>
  intro a hk
  have ha:a<s.length:=by omega
  by_cases h:s[a]=10
  ·rw[qZ ha (by simp[h]),nn ha,Qp h,im ha,Qp (by simp[zO,h])]
  ·rw[gp ha (by simp[h]),nn ha,Qo h];exact ih (a+1) (by omega)
theorem wz {s:List Nat} {a:Nat} (h:a<s.length) (hs:s[a]=35):bz s a=bz s (aT (fun c=>decide (c≠10)) s a):=by
 rw[gp h (by simp[hs]),im h,Qo (by simp[zO,hs]),Qp hs,Gn s _ _ rfl]
theorem AJ {s:List Nat} {a:Nat} (h:a<s.length) (hb:zO s[a]=false) (hs:s[a]≠35):bz s a=a:=by
 rw[im h,Qo (by simp[hb]),Qo hs]
theorem GA {m:NH} {vb:NV} {s:List Nat} (hs:s.length<=1000000) (hb:Sl m vb 1 (oI s)) {a:Nat} (ha:a<=s.length) {t:Tm} (g1:NT.get D4.e t=some vb) (g2:NT.get D4.e.a t=some (ii a))
 {Q:Out->Dyn->Prop} (hQ:∀t',NT.get D4.e t'=some vb->NT.get D4.e.a t'=some (ii (aT (fun c=>decide (c≠10)) s a))->Q (.exit 3) ⟨ai [] t', [],none,m⟩):W Try.prog S0 none sj.loop ⟨t, [],none,m⟩ Q:=by
 have hlen:=hb.len
 rw[List.length_map] at hlen
 refine W.loop (fun k d=>∃t i,d=⟨t, [],none,m⟩/\NT.get D4.e t=some vb/\NT.get D4.e.a t=some (ii (i:Nat))/\aT (fun c=>decide (c≠10)) s i=aT (fun c=>decide (c≠10)) s a/\i+k=s.length) ?_ (s.length - a) _ ⟨_,a,rfl,g1,g2,rfl,by omega⟩
 rintro k d ⟨t,i,rfl,g1,g2,hr,hik⟩
 have hQ':=fun L t'=>hQ (ai L t')
 simp only[FB] at hQ'
 apply ap
 unfold sj
 change wp _ _ _ _ ⟨ai [] t, [],none,m⟩ _
 by_cases hi:i<s.length
 ·obtain ⟨id,off,w,c,a1,a2,a3,a4,a5⟩:=hb.at i (by simpa using hi)
  rw[List.getElem_map] at a5
  have c0:=aA a5 0 (by omega)
  rw[Nat.add_zero] at c0
  by_cases h10:s[i]=10
  ·simp (disch:=first|assumption|omega) only[go_sem,seval,g1,g2,hlen,a1,a2,c0]
   refine hQ' _ _ ?_ ?_
   ·simp (disch:=first|assumption|omega) only[go_sem,seval,g1]
   ·simp (disch:=first|assumption|omega) only[go_sem,seval,g2];rw[←hr,qZ hi (by simp[h10])]
  ·simp (disch:=first|assumption|omega) only[go_sem,seval,g1,g2,hlen,a1,a2,c0]
   refine ⟨k - 1,by omega,_,i+1,rfl, ?_, ?_,by rw[←hr,gp hi (by simp[h10])],by omega⟩
   ·simp (disch:=first|assumption|omega) only[go_sem,seval,g1]
   ·simp (disch:=first|assumption|omega) only[go_sem,seval]<;>rfl
 ·simp (disch:=first|assumption|omega) only[go_sem,seval,g1,g2,hlen]
  refine hQ' _ _ ?_ ?_
  ·simp (disch:=first|assumption|omega) only[go_sem,seval,g1]
  ·simp (disch:=first|assumption|omega) only[go_sem,seval,g2];rw[←hr,nj (by omega)]
theorem Ew (m:NH) {vb:NV} {s:List Nat} (hs:s.length<=1000000) (hb:Sl m vb 1 (oI s)) {a:Nat} (ha:a<=s.length):bc Try.prog S0 82 [vb,ii a] m (ii (bz s a)) m:=by
 have h:∃v m',bc Try.prog S0 82 [vb,ii a] m v m'/\v=ii (bz s a)/\m'=m:=by
  refine WF.ex fun K hK=> ?_
  refine WF.of_wpG (fun _=>rfl) yt (L:= [(.a .e,ii a),(.e,vb)]) rfl ?_
  unfold IV
  have hlen:=hb.len
  rw[List.length_map] at hlen
  simp (disch:=first|assumption|omega) only[go_sem,seval,aa]
  refine W.loop (fun k d=>∃t i,d=⟨t, [],none,m⟩/\NT.get D4.e t=some vb/\NT.get D4.e.a t=some (ii (i:Nat))/\bz s i=bz s a/\i+k=s.length) ?_ (s.length - a) _ ⟨_,a,rfl,by simp only[go_sem,seval],by simp only[go_sem,seval],rfl,by omega⟩
  rintro k d ⟨t,i,rfl,g1,g2,hr,hik⟩
  apply ap
  unfold yQ
  change wp _ _ _ _ ⟨ai [] t, [],none,m⟩ _
  by_cases hi:i<s.length
  ·obtain ⟨id,off,w,c,a1,a2,a3,a4,a5⟩:=hb.at i (by simpa using hi)
   rw[List.getElem_map] at a5
   have c0:=aA a5 0 (by omega)
   rw[Nat.add_zero] at c0
   have blk:∀h:zO s[i]=true,bz s (i+1)=bz s a:=fun h=>by rw[←hr,im hi,Qp h]
   by_cases h1:s[i]=32
   ·simp (disch:=first|assumption|omega) only[go_sem,seval,g1,g2,hlen,a1,a2,c0]
    refine ⟨k - 1,by omega,_,i+1,rfl, ?_, ?_,blk (by simp[zO,h1]),by omega⟩
    ·simp (disch:=first|assumption|omega) only[go_sem,seval,g1]
    ·simp (disch:=first|assumption|omega) only[go_sem,seval]<;>rfl
   ·by_cases h2:s[i]=9
    ·simp (disch:=first|assumption|omega) only[go_sem,seval,g1,g2,hlen,a1,a2,c0]
     refine ⟨k - 1,by omega,_,i+1,rfl, ?_, ?_,blk (by simp[zO,h2]),by omega⟩
     ·simp (disch:=first|assumption|omega) only[go_sem,seval,g1]
     ·simp (disch:=first|assumption|omega) only[go_sem,seval]<;>rfl
    ·by_cases h3:s[i]=10
     ·simp (disch:=first|assumption|omega) only[go_sem,seval,g1,g2,hlen,a1,a2,c0]
      refine ⟨k - 1,by omega,_,i+1,rfl, ?_, ?_,blk (by simp[zO,h3]),by omega⟩
      ·simp (disch:=first|assumption|omega) only[go_sem,seval,g1]
      ·simp (disch:=first|assumption|omega) only[go_sem,seval]<;>rfl
     ·by_cases h4:s[i]=13
      ·simp (disch:=first|assumption|omega) only[go_sem,seval,g1,g2,hlen,a1,a2,c0]
       refine ⟨k - 1,by omega,_,i+1,rfl, ?_, ?_,blk (by simp[zO,h4]),by omega⟩
       ·simp (disch:=first|assumption|omega) only[go_sem,seval,g1]
       ·simp (disch:=first|assumption|omega) only[go_sem,seval]<;>rfl
      ·have hnb:zO s[i]=false:=by simp[zO,h1,h2,h3,h4]
       by_cases h5:s[i]=35
       ·simp (disch:=first|assumption|omega) only[go_sem,seval,g1,g2,hlen,a1,a2,c0]
        refine GA hs hb (a:=i) (by omega) ?_ ?_ ?_
        ·simp (disch:=first|assumption|omega) only[go_sem,seval,g1]
        ·simp (disch:=first|assumption|omega) only[go_sem,seval,g2]
        intro t' g1 g2
        simp (disch:=first|assumption|omega) only[go_sem,seval]
        have hle:=f0 (p:=fun c=>decide (c≠10)) (s:=s) (a:=i) (by omega)
        have hlt:i+1<=aT (fun c=>decide (c≠10)) s i:=by rw[gp hi (by simp[h5])];exact jp
        exact ⟨s.length - aT (fun c=>decide (c≠10)) s i,by omega,t',_,rfl,g1,g2,by rw[←wz hi h5];exact hr,by omega⟩
       ·simp (disch:=first|assumption|omega) only[go_sem,seval,g1,g2,hlen,a1,a2,c0]
        exact hK _ _ ⟨by rw[←hr,AJ hi hnb h5],rfl⟩
  ·simp (disch:=first|assumption|omega) only[go_sem,seval,g1,g2,hlen]
   exact hK _ _ ⟨by rw[←hr,qj (by omega)],rfl⟩
 obtain ⟨v,m',h,rfl,rfl⟩:=h
 exact h
def gj:List (List Nat):= [[99,101,108,108], [116,104,114,101,97,100], [114,101,99,111,118,101,114], [115,101,116], [108,111,97,100], [115,116,111,114,101], [99,97,115], [102,101,110,99,101], [111,117,116], [105,102], [101,108,115,101], [119,104,105,108,101]]
theorem IH (m:NH) (t:List Nat):∃v m',bc Try.prog S0 134 [.str t] m v m'/\v= .bool (decide (t∈gj))/\Chg [] m m':=by
 refine WF.ex fun K hK=> ?_
 refine WF.of_wpG (fun _=>rfl) tp (L:= [(.e,.str t)]) rfl ?_
 unfold Cw
 simp (disch:=first|assumption|omega|(simp only[aI]<;>omega)) only[go_sem,seval]
 generalize hM:hp _ 1 m=M
 have hC:Chg [] m M:=aY hM rfl
 have hv:Sl M (.slc (na m 0) 0 12 1 12) 1 (bD gj):=by
  rw[←hM]
  exact (aV.of (B:=m) (C:=bD gj) (by simp) az bo (bv (by omega)) rfl rfl rfl).sl
 have hwl:gj.length=12:=rfl
 refine W.loop (fun k d=>∃t' i,d=⟨t', [],none,M⟩/\NT.get D4.e t'=some (.str t)/\NT.get D4.e.c t'=some (.slc (na m 0) 0 12 1 12)/\NT.get D4.e.f t'=some (ii (i:Nat))/\t∉gj.take i/\i+k=12) ?_ 12 _ ⟨_,0,rfl,by simp only[go_sem,seval],by simp only[go_sem,seval],by simp only[go_sem,seval]<;>rfl,by simp,by omega⟩
 rintro k d ⟨t',i,rfl,g1,g2,g3,hno,hik⟩
 apply ap
 unfold um
 change wp _ _ _ _ ⟨ai [] t', [],none,M⟩ _
 by_cases hi:i<12
 ·obtain ⟨id,off,w,c,a1,a2,a3,a4,a5⟩:=hv.at i (by simpa [hwl] using hi)
  rw[List.getElem_map] at a5
  have c0:=aA a5 0 (by omega)
  rw[Nat.add_zero] at c0
  by_cases he:gj[i]=t
  ·simp (disch:=first|assumption|omega) only[go_sem,seval,g1,g2,g3,a1,a2,c0,he]
   exact hK _ _ ⟨by rw[Qr (show t∈gj by rw[←he];exact List.getElem_mem _)],hC⟩
  ·simp (disch:=first|assumption|omega) only[go_sem,seval,g1,g2,g3,a1,a2,c0,he]
   refine ⟨k - 1,by omega,_,i+1,rfl, ?_, ?_, ?_, ?_,by omega⟩
   ·simp (disch:=first|assumption|omega) only[go_sem,seval,g1]
   ·simp (disch:=first|assumption|omega) only[go_sem,seval,g2]
   ·simp (disch:=first|assumption|omega) only[go_sem,seval]<;>rfl
   ·rw[List.take_add_one,List.getElem?_eq_getElem (by omega)]
    simp only[Option.toList_some,List.mem_append,List.mem_singleton,not_or]
    exact ⟨hno,fun q=>he q.symm⟩
 ·simp (disch:=first|assumption|omega) only[go_sem,seval,g1,g2,g3]
  have e:i=12:=by omega
  subst e
  rw[List.take_of_length_le (by rw[hwl];omega)] at hno
  exact hK _ _ ⟨by simp[hno],hC⟩
def lX:List Nat->Nat->Option Nat
 | [],n=>some n
 |c::l,n=>if 10*n+(c - 48)<18446744073709551616 then lX l (10*n+(c - 48)) else none
def Bx (s:List Nat):Option Nat:=if 1<s.length/\s[0]? =some 48 then none else lX s 0
def dV:List Nat:= [123,125,40,41,91,93,59,43,45,42,38,61,60]
def cut (s:List Nat) (a e:Nat):List Nat:=(s.take e).drop a
def eZ (s:List Nat) (a:Nat):Option (Nat×List Nat×Nat×Nat):=
 match s[a]? with
 |none=>none
 |some c=>
  if vF c then (if cut s a (aT ei s a)∈gj then some (4,cut s a (aT ei s a),0,aT ei s a) else if (cut s a (aT ei s a)).length<=16 then some (1,cut s a (aT ei s a),0,aT ei s a) else none)
  else if eW c then (match Bx (cut s a (aT eW s a)) with|some n=>if aT ei s a=aT eW s a then some (2, [],n,aT eW s a) else none|none=>none)
  else if c∈dV then some (3, [c],0,a+1) else none
theorem FK {a n d:Int} {t:List Nat}:bi 4 (.agg [.int .i64 (.lit a),.str t,.int .u64 (.lit n),.int .i64 (.lit d)]) (.agg [.int .i64 (.lit a),.str t,.int .u64 (.lit n),.int .i64 (.lit d)])=true:=by
 refine i7 ?_
 intro v hv
 simp only[Qt,Qs,or_false] at hv
 rcases hv with rfl|rfl|rfl|rfl<;>trivial
theorem qO (p:Nat->Bool) (s:List Nat) (a:Nat):cut s a (aT p s a)=(s.drop a).takeWhile p:=by
 unfold cut aT
 rw[List.drop_take,Nat.add_sub_cancel_left]
 exact (List.prefix_iff_eq_take.mp (List.takeWhile_prefix p)).symm
theorem IF {p:Nat->Bool} {s:List Nat} {a c:Nat} (hb:s[a]? =some c) (hp:p c=true):∃l,cut s a (aT p s a)=c::l:=by
 rw[qO]
 obtain ⟨ha,hc⟩:=List.getElem?_eq_some_iff.mp hb
 rw[List.drop_eq_getElem_cons ha,hc,List.takeWhile_cons,hp]
 exact ⟨_,rfl⟩
theorem xI (p:Nat->Bool) (l:List Nat):∀c∈l.takeWhile p,p c=true:=by
 induction l with
 |nil=>intro c h;simp at h
 |cons x l ih=>
  intro c h
  rw[List.takeWhile_cons] at h
  split at h
  ·rcases List.mem_cons.mp h with rfl|h
   ·assumption
   ·exact ih c h
  ·simp at h
theorem AP (p:Nat->Bool) (s:List Nat) (a:Nat):∀c∈cut s a (aT p s a),p c=true:=by rw[qO];exact xI p _
theorem Hk (c:Nat) (h:eW c=true):ei c=true:=by unfold ei;rw[h];simp
structure Tok where
 k:Nat
 t:List Nat
 n:Nat
 p:Nat
def Tok.l (x:Tok):List NV:= [ii x.k,.str x.t,u64 x.n,ii x.p]
def cV (s:List Nat):Nat->Nat->List Tok×Option Nat
 |0,_=>([],none)
 |k+1,a=>if a<s.length then (match eZ s a with
  |none=>([],some a)
  |some (kd,t,n,e)=>(⟨kd,t,n,a⟩::(cV s k (bz s e)).1,(cV s k (bz s e)).2)) else ([⟨5, [],0,s.length⟩],none)
def dq (s:List Nat):List Tok×Option Nat:=cV s (s.length+1) (bz s 0)
theorem Cq {p:Nat->Bool} {s:List Nat} {a c:Nat} (hb:s[a]? =some c) (hp:p c=true):a<aT p s a:=by
 obtain ⟨ha,hc⟩:=List.getElem?_eq_some_iff.mp hb
 rw[gp ha (by rw[hc];exact hp)]
 exact jp
theorem DV {s:List Nat} {a kd n e:Nat} {t:List Nat} (h:eZ s a=some (kd,t,n,e)):a<e/\e<=s.length:=by
 unfold eZ at h
 cases hb:s[a]? with
 |none=>rw[hb] at h;cases h
 |some c=>
  rw[hb] at h
  obtain ⟨ha,hc⟩:=List.getElem?_eq_some_iff.mp hb
  dsimp only at h
  have g1:vF c=true->a<aT ei s a:=fun q=>Cq hb (by unfold ei;rw[q];rfl)
  have g2:eW c=true->a<aT eW s a:=fun q=>Cq hb q
  have l1:=f0 (p:=ei) (s:=s) (a:=a) (by omega)
  have l2:=f0 (p:=eW) (s:=s) (a:=a) (by omega)
  split at h
  ·rename_i hL
   split at h
   ·cases h;exact ⟨g1 hL,l1⟩
   ·split at h
    ·cases h;exact ⟨g1 hL,l1⟩
    ·cases h
  ·split at h
   ·rename_i hD
    split at h
    ·split at h
     ·cases h;exact ⟨g2 hD,l2⟩
     ·cases h
    ·cases h
   ·split at h
    ·cases h;exact ⟨by omega,by omega⟩
    ·cases h
theorem lW (s:List Nat):∀(k a:Nat),(cV s k a).1.length<=k:=by
 intro k
 induction k with
 |zero=>intro a;simp[cV]
 |succ k ih=>
  intro a
  unfold cV
  split
  ·split
   ·simp
   ·rename_i kd t n e _
    have:=ih (bz s e)
    simp only[List.length_cons];omega
  ·simp
def OJ (s:List Nat):Int->List Tok->Prop
 |_, []=>True
 |w,x::l=>w<x.p/\x.p<=s.length/\x.t.length<=s.length - x.p/\cut s x.p (x.p+x.t.length)=x.t/\(x.k=5↔l= [])/\OJ s x.p l
theorem kG {s:List Nat} {a e:Nat} (h:e<=s.length):(cut s a e).length=e - a:=by unfold cut;rw[List.length_drop,List.length_take];omega
theorem sm (s:List Nat) (a:Nat):cut s a a= []:=by unfold cut;exact List.drop_take_self
theorem FT {s:List Nat} {a e:Nat} (h:e<=s.length) (h':a<=e):cut s a (a+(cut s a e).length)=cut s a e:=by rw[kG h,Nat.add_sub_cancel' h']
theorem Hm {s:List Nat} {a c:Nat} (hb:s[a]? =some c):cut s a (a+1)= [c]:=by
 obtain ⟨ha,hc⟩:=List.getElem?_eq_some_iff.mp hb
 unfold cut
 rw[List.take_add_one,hb]
 simp only[Option.toList_some]
 rw[List.drop_append_of_le_length (by rw[List.length_take];omega),List.drop_take_self];rfl
theorem IW {s:List Nat} {a kd n e:Nat} {t:List Nat} (h:eZ s a=some (kd,t,n,e)):kd≠5/\t.length<=s.length - a/\cut s a (a+t.length)=t:=by
 unfold eZ at h
 cases hb:s[a]? with
 |none=>rw[hb] at h;cases h
 |some c=>
  rw[hb] at h
  obtain ⟨ha,hc⟩:=List.getElem?_eq_some_iff.mp hb
  dsimp only at h
  have l1:=f0 (p:=ei) (s:=s) (a:=a) (by omega)
  have l2:=jp (p:=ei) (s:=s) (a:=a)
  have c1:=FT l1 l2
  have c2:=kG (a:=a) l1
  split at h
  ·split at h
   ·cases h;exact ⟨by omega,by omega,c1⟩
   ·split at h
    ·cases h;exact ⟨by omega,by omega,c1⟩
    ·cases h
  ·split at h
   ·split at h
    ·split at h
     ·cases h;exact ⟨by omega,by simp,sm s a⟩
     ·cases h
    ·cases h
   ·split at h
    ·cases h;exact ⟨by omega,by simp;omega,Hm hb⟩
    ·cases h
theorem FM (s:List Nat):∀(k a:Nat) (w:Int),s.length<=a+k->a<=s.length->w<a->(cV s (k+1) a).2=none->OJ s w (cV s (k+1) a).1/\(cV s (k+1) a).1≠ []:=by
 intro k
 induction k with
 |zero=>
  intro a w h1 h2 h3 h4
  rw[cV,Qo (by omega)]
  exact ⟨⟨by simp;omega,Nat.le_refl _,by simp,sm s _,by simp,trivial⟩,by simp⟩
 |succ k ih=>
  intro a w h1 h2 h3 h4
  by_cases ha:a<s.length
  ·rw[cV,Qp ha] at h4 ⊢
   cases hk:eZ s a with
   |none=>rw[hk] at h4;cases h4
   |some x=>
    obtain ⟨kd,t,n,e⟩:=x
    rw[hk] at h4
    obtain ⟨e1,e2⟩:=DV hk
    obtain ⟨t1,t2,t3⟩:=IW hk
    have g1:e<=bz s e:=t7
    obtain ⟨i1,i2⟩:=ih (bz s e) a (by omega) (lr e2) (by omega) h4
    exact ⟨⟨h3,by simp;omega,t2,t3,⟨fun q=>Qn q t1,fun q=>Qn q i2⟩,i1⟩,by simp⟩
  ·rw[cV,Qo ha]
   exact ⟨⟨by simp;omega,Nat.le_refl _,by simp,sm s _,by simp,trivial⟩,by simp⟩
theorem GK {s:List Nat} (h:(dq s).2=none):OJ s (-1) (dq s).1/\(dq s).1≠ []:=by
 have:=lr (s:=s) (a:=0) (Nat.zero_le _)
 exact FM s s.length (bz s 0) (-1) (by omega) this (by omega) h
theorem Mo {m:NH} {vb f:NV} {s:List Nat} (hs:s.length<=1000000) (hb:Sl m vb 1 (oI s)) {a:Nat} (ha:a<=s.length) {t:Tm} (g1:NT.get D4.e t=some vb) (g2:NT.get D4.e.a.c t=some (ii a)) (g3:NT.get D4.e.a t=some (ii a)) (g4:NT.get D4.e.f t=some f)
 {Q:Out->Dyn->Prop} (hQ:∀L t',NT.get D4.e (ai L t')=some vb->NT.get D4.e.a (ai L t')=some (ii a)->NT.get D4.e.f (ai L t')=some f->NT.get D4.e.a.c (ai L t')=some (ii ((aT ei s a:Nat):Int))->Q (.exit 0) ⟨ai L t', [],none,m⟩):W Try.prog S0 none qT.loop ⟨t, [],none,m⟩ Q:=by
 have hlen:=hb.len
 rw[List.length_map] at hlen
 refine W.loop (fun k d=>∃t i,d=⟨t, [],none,m⟩/\NT.get D4.e t=some vb/\NT.get D4.e.a t=some (ii a)/\NT.get D4.e.f t=some f/\NT.get D4.e.a.c t=some (ii (i:Nat))/\aT ei s i=aT ei s a/\i+k=s.length) ?_ (s.length - a) _ ⟨_,a,rfl,g1,g3,g4,g2,rfl,by omega⟩
 rintro k d ⟨t,i,rfl,g1,g3,g4,g2,hr,hik⟩
 apply ap
 unfold qT
 change wp _ _ _ _ ⟨ai [] t, [],none,m⟩ _
 by_cases hi:i<s.length
 ·obtain ⟨id,off,w,c,a1,a2,a3,a4,a5⟩:=hb.at i (by simpa using hi)
  rw[List.getElem_map] at a5
  have c0:=aA a5 0 (by omega)
  rw[Nat.add_zero] at c0
  have hI:=DK m s[i]
  cases h1:ei s[i] with
  |false=>
   rw[h1] at hI
   simp (disch:=first|assumption|omega) only[go_sem,seval,g1,g2,hlen,a1,a2,c0,hI.wf']
   refine hQ _ _ ?_ ?_ ?_ ?_
   ·simp (disch:=first|assumption|omega) only[go_sem,seval,g1]
   ·simp (disch:=first|assumption|omega) only[go_sem,seval,g3]
   ·simp (disch:=first|assumption|omega) only[go_sem,seval,g4]
   ·simp (disch:=first|assumption|omega) only[go_sem,seval,g2];rw[←hr,qZ hi h1]
  |true=>
   rw[h1] at hI
   simp (disch:=first|assumption|omega) only[go_sem,seval,g1,g2,hlen,a1,a2,c0,hI.wf']
   refine ⟨k - 1,by omega,_,i+1,rfl, ?_, ?_, ?_, ?_,by rw[←hr,gp hi h1],by omega⟩
   ·simp (disch:=first|assumption|omega) only[go_sem,seval,g1]
   ·simp (disch:=first|assumption|omega) only[go_sem,seval,g3]
   ·simp (disch:=first|assumption|omega) only[go_sem,seval,g4]
   ·simp (disch:=first|assumption|omega) only[go_sem,seval]<;>rfl
 ·simp (disch:=first|assumption|omega) only[go_sem,seval,g1,g2,hlen]
  refine hQ _ _ ?_ ?_ ?_ ?_
  ·simp (disch:=first|assumption|omega) only[go_sem,seval,g1]
  ·simp (disch:=first|assumption|omega) only[go_sem,seval,g3]
  ·simp (disch:=first|assumption|omega) only[go_sem,seval,g4]
  ·simp (disch:=first|assumption|omega) only[go_sem,seval,g2];rw[←hr,nj (by omega)]
theorem FL {s:List Nat} {a:Nat} (h:∀c∈cut s a (aT ei s a),eW c=true):aT eW s a=aT ei s a:=by
 rw[qO] at h
 unfold aT
 congr 1
 generalize s.drop a=l at h ⊢
 induction l with
 |nil=>rfl
 |cons x l ih=>
  rw[List.takeWhile_cons] at h
  rw[List.takeWhile_cons,List.takeWhile_cons]
  cases hx:ei x with
  |false=>
   have:eW x=false:=by cases hd:eW x with
    |false=>rfl
    |true=>rw[Hk x hd] at hx;cases hx
   simp[hx,this]
  |true=>
   rw[hx] at h
   have h0:=h x (by simp)
   rw[h0]
   simp only[if_true,List.length_cons]
   rw[ih fun c hc=>h c (by simp[hc])]
def wm (s:List Nat) (a:Nat):Prop:=aT ei s a≠aT eW s a∨lX (cut s a (aT eW s a)) 0=none
theorem F6 {s:List Nat} {a e i:Nat} (h1:a<=i) (h2:i<e) (h3:e<=s.length):(cut s a e).drop (i - a)=s[i]::(cut s a e).drop (i+1 - a):=by
 have hlt:i - a<(cut s a e).length:=by rw[kG h3];omega
 have hg:(cut s a e)[i - a]? =s[i]? :=by
  unfold cut
  rw[List.getElem?_drop,show a+(i - a)=i by omega,List.getElem?_take_of_lt h2]
 rw[List.getElem?_eq_getElem hlt,List.getElem?_eq_getElem (by omega),Option.some.injEq] at hg
 rw[List.drop_eq_getElem_cons hlt,show i - a+1=i+1 - a by omega,hg]
theorem Nd {m:NH} {vb:NV} {s:List Nat} (hs:s.length<=1000000) (hb:Sl m vb 1 (oI s)) {a:Nat} (ha:a<=s.length) {t:Tm} {r tk:D4} {b0 b1 b2 b3 a0 a1 a2 a3 cc:NV}
 (hr:m.get r=some (.cells true [b0,b1,b2,b3])) (htk:m.get tk=some (.cells true [a0,a1,a2,a3])) (orr:ak m r) (otk:ak m tk)
 (g1:NT.get D4.e t=some vb) (g2:NT.get D4.e.a.c t=some (ii ((aT ei s a:Nat):Int))) (g3:NT.get D4.e.a t=some (ii a)) (g4:NT.get D4.e.f t=some (.ptr r 0)) (g5:NT.get D4.e.b.a t=some (.ptr tk 0)) (g6:NT.get D4.e.b.b t=some (u64 0)) (g7:NT.get D4.e.b.c t=some (ii a)) (g8:NT.get D4.e.a.f t=some cc)
 {Q:Out->Dyn->Prop}
 (hbad:wm s a->∀L t',NT.get D4.e.f (ai L t')=some (.ptr r 0)->NT.get D4.e.a.a (ai L t')=some (ii a)->NT.get D4.e.a.b (ai L t')=some (ii 2)->Q .ret ⟨ai L t', [],none,m.put r (.cells true [a0,a1,a2,a3])⟩)
 (hok:∀n,aT ei s a=aT eW s a->lX (cut s a (aT eW s a)) 0=some n->∀L t',NT.get D4.e.b.a (ai L t')=some (.ptr tk 0)->NT.get D4.e.a.c (ai L t')=some (ii ((aT ei s a:Nat):Int))->NT.get D4.e.a (ai L t')=some (ii a)->NT.get D4.e.f (ai L t')=some (.ptr r 0)->NT.get D4.e.b.b (ai L t')=some (u64 n)->NT.get D4.e.a.f (ai L t')=some cc->Q (.exit 3) ⟨ai L t', [],none,m⟩):
 W Try.prog S0 none rH.loop ⟨t, [],none,m⟩ Q:=by
 have hlen:=hb.len
 rw[List.length_map] at hlen
 have hle:aT ei s a<=s.length:=f0 ha
 have hge:a<=aT ei s a:=jp
 generalize hto:aT ei s a=to at hle hge g2 hok
 refine W.loop (fun k d=>∃t i n,d=⟨t, [],none,m⟩/\NT.get D4.e t=some vb/\NT.get D4.e.a.c t=some (ii (to:Nat))/\NT.get D4.e.a t=some (ii a)/\NT.get D4.e.f t=some (.ptr r 0)/\NT.get D4.e.b.a t=some (.ptr tk 0)/\NT.get D4.e.b.b t=some (u64 n)/\NT.get D4.e.b.c t=some (ii (i:Nat))/\NT.get D4.e.a.f t=some cc/\n<18446744073709551616/\a<=i/\(∀c∈(cut s a to).take (i - a),eW c=true)/\lX ((cut s a to).drop (i - a)) n=lX (cut s a to) 0/\i+k=to) ?_ (to - a) _
  ⟨_,a,0,rfl,g1,g2,g3,g4,g5,g6,g7,g8,by omega,Nat.le_refl _,by simp,by simp,by omega⟩
 rintro k d ⟨t,i,n,rfl,g1,g2,g3,g4,g5,g6,g7,g8,hn,hai,hall,hv,hik⟩
 apply ap
 unfold rH
 change wp _ _ _ _ ⟨ai [] t, [],none,m⟩ _
 by_cases hi:i<to
 ·obtain ⟨id,off,w,c',x1,x2,x3,x4,x5⟩:=hb.at i (by simp;omega)
  rw[List.getElem_map] at x5
  have c0:=aA x5 0 (by omega)
  rw[Nat.add_zero] at c0
  have hcg:=F6 (s:=s) hai hi hle
  have hD:=si m s[i]
  generalize hc:s[i]=c at c0 hcg hD
  rw[hcg] at hv
  have hmem:c∈cut s a to:=by
   have:c∈(cut s a to).drop (i - a):=by rw[hcg];simp
   exact List.mem_of_mem_drop this
  cases h1:eW c with
  |false=>
   rw[h1] at hD
   simp (disch:=first|assumption|omega|(simp only[aI]<;>omega)) only[go_sem,seval,aa,g1,g2,g3,g4,g5,g6,g7,hlen,x1,x2,c0,hD.wf',hr,htk]
   refine hbad (Or.inl fun h=> ?_) _ _ ?_ ?_ ?_
   ·rw[hto] at h
    have:=AP eW s a c (by rw[←h];exact hmem)
    rw[h1] at this;cases this
   ·simp (disch:=first|assumption|omega) only[go_sem,seval,g4]
   ·simp (disch:=first|assumption|omega) only[go_sem,seval]
   ·simp (disch:=first|assumption|omega) only[go_sem,seval]
  |true=>
   rw[h1] at hD
   have hdd:=h1
   unfold eW at hdd
   rw[decide_eq_true_eq] at hdd
   have e1:((c:Int) - 48) % 256=((c - 48:Nat):Int):=by omega
   have e2:((c - 48:Nat):Int) % 18446744073709551616=((c - 48:Nat):Int):=by omega
   have e3:(18446744073709551615 - ((c - 48:Nat):Int)) % 18446744073709551616=((18446744073709551615 - (c - 48):Nat):Int):=by omega
   have q10:∀x:Nat,x<18446744073709551616->de .num .quo (.int .u64 (.lit (x:Int))) (.int .u64 (.lit 10))=some (.int .u64 (.lit ((x / 10:Nat):Int))):=by
    intro x hx
    have:=DJ (a:=x) (b:=10) (by omega)
    rw[show x / 10 % 18446744073709551616=x / 10 by omega] at this
    exact this
   have q10:=q10 (18446744073709551615 - (c - 48)) (by omega)
   have hvn:lX (c::(cut s a to).drop (i+1 - a)) n=if 10*n+(c - 48)<18446744073709551616 then lX ((cut s a to).drop (i+1 - a)) (10*n+(c - 48)) else none:=rfl
   by_cases hlt:10*n+(c - 48)<18446744073709551616
   ·rw[hvn,Qp hlt] at hv
    have hle10:n<=(18446744073709551615 - (c - 48)) / 10:=by omega
    have e4:(10*(n:Int) % 18446744073709551616+((c - 48:Nat):Int)) % 18446744073709551616=((10*n+(c - 48):Nat):Int):=by omega
    generalize hqq:(18446744073709551615 - (c - 48)) / 10=qq at q10 hle10
    simp (disch:=first|assumption|omega) only[go_sem,seval,aa,g1,g2,g3,g4,g5,g6,g7,hlen,x1,x2,c0,hD.wf',e1,e2,e3,q10,e4]
    refine ⟨k - 1,by omega,_,i+1,10*n+(c - 48),rfl, ?_, ?_, ?_, ?_, ?_, ?_, ?_, ?_,hlt,by omega, ?_,hv,by omega⟩
    ·simp (disch:=first|assumption|omega) only[go_sem,seval,g1]
    ·simp (disch:=first|assumption|omega) only[go_sem,seval,g2]
    ·simp (disch:=first|assumption|omega) only[go_sem,seval,g3]
    ·simp (disch:=first|assumption|omega) only[go_sem,seval,g4]
    ·simp (disch:=first|assumption|omega) only[go_sem,seval,g5]
    ·simp (disch:=first|assumption|omega) only[go_sem,seval]
    ·simp (disch:=first|assumption|omega) only[go_sem,seval]<;>rfl
    ·simp (disch:=first|assumption|omega) only[go_sem,seval,g8]
    ·intro x hx
     rw[show i+1 - a=i - a+1 by omega,List.take_add_one] at hx
     have hg:(cut s a to)[i - a]? =some c:=by
      have:=congrArg (fun l=>l[0]?) hcg
      simpa using this
     rw[hg] at hx
     simp only[Option.toList_some,List.mem_append,List.mem_singleton] at hx
     rcases hx with hx|rfl
     ·exact hall x hx
     ·exact h1
   ·rw[hvn,Qo hlt] at hv
    have hle10:(18446744073709551615 - (c - 48)) / 10<n:=by omega
    generalize hqq:(18446744073709551615 - (c - 48)) / 10=qq at q10 hle10
    simp (disch:=first|assumption|omega|(simp only[aI]<;>omega)) only[go_sem,seval,aa,g1,g2,g3,g4,g5,g6,g7,hlen,x1,x2,c0,hD.wf',e1,e2,e3,q10,hr,htk]
    refine hbad ?_ _ _ ?_ ?_ ?_
    ·unfold wm
     by_cases h:aT ei s a=aT eW s a
     ·right;rw[←h,hto];exact hv.symm
     ·exact Or.inl h
    ·simp (disch:=first|assumption|omega) only[go_sem,seval,g4]
    ·simp (disch:=first|assumption|omega) only[go_sem,seval]
    ·simp (disch:=first|assumption|omega) only[go_sem,seval]
 ·simp (disch:=first|assumption|omega) only[go_sem,seval,g1,g2,g7,hlen]
  have hia:i - a=(cut s a to).length:=by rw[kG hle];omega
  rw[hia,List.take_length] at hall
  have he:aT eW s a=aT ei s a:=FL (by rw[hto];exact hall)
  rw[hia,List.drop_length] at hv
  rw[hto] at he
  refine hok n he.symm ?_ _ _ ?_ ?_ ?_ ?_ ?_ ?_
  ·rw[he,←hv];rfl
  ·simp (disch:=first|assumption|omega) only[go_sem,seval,g5]
  ·simp (disch:=first|assumption|omega) only[go_sem,seval,g2]
  ·simp (disch:=first|assumption|omega) only[go_sem,seval,g3]
  ·simp (disch:=first|assumption|omega) only[go_sem,seval,g4]
  ·simp (disch:=first|assumption|omega) only[go_sem,seval,g6]
  ·simp (disch:=first|assumption|omega) only[go_sem,seval,g8]
theorem Ox {m:NH} {t:Tm} {r tk:D4} {b0 b1 b2 b3 a0 a1 a2 a3:NV} {c a:Nat} (ha':a<=1000000)
 (hr:m.get r=some (.cells true [b0,b1,b2,b3])) (htk:m.get tk=some (.cells true [a0,a1,a2,a3])) (orr:ak m r) (otk:ak m tk) (hrt:r≠tk)
 (g1:NT.get D4.e.c.a t=some (.str dV)) (g2:NT.get D4.e.c.b t=some (ii 0)) (g3:NT.get D4.e.a t=some (ii a)) (g4:NT.get D4.e.f t=some (.ptr r 0)) (g5:NT.get D4.e.b.a t=some (.ptr tk 0)) (g6:NT.get D4.e.a.f t=some (u8 c))
 {Q:Out->Dyn->Prop}
 (hok:c∈dV->∀L t' m',m'.get r=some (.cells true [ii 3,.str [c],a2,a3])->Chg [r,tk] m m'->NT.get D4.e.f (ai L t')=some (.ptr r 0)->NT.get D4.e.a.a (ai L t')=some (ii ((a:Int)+1))->NT.get D4.e.a.b (ai L t')=some (ii 0)->Q .ret ⟨ai L t', [],none,m'⟩)
 (hbad:c∉dV->∀L t',NT.get D4.e.b.a (ai L t')=some (.ptr tk 0)->NT.get D4.e.a (ai L t')=some (ii a)->NT.get D4.e.f (ai L t')=some (.ptr r 0)->Q (.exit 5) ⟨ai L t', [],none,m⟩):
 W Try.prog S0 none rT.loop ⟨t, [],none,m⟩ Q:=by
 have hsl:dV.length=13:=rfl
 refine W.loop (fun k d=>∃t i,d=⟨t, [],none,m⟩/\NT.get D4.e.c.a t=some (.str dV)/\NT.get D4.e.c.b t=some (ii (i:Nat))/\NT.get D4.e.a t=some (ii a)/\NT.get D4.e.f t=some (.ptr r 0)/\NT.get D4.e.b.a t=some (.ptr tk 0)/\NT.get D4.e.a.f t=some (u8 c)/\c∉dV.take i/\i+k=13) ?_ 13 _ ⟨_,0,rfl,g1,g2,g3,g4,g5,g6,by simp,by omega⟩
 rintro k d ⟨t,i,rfl,g1,g2,g3,g4,g5,g6,hno,hik⟩
 apply ap
 unfold rT
 change wp _ _ _ _ ⟨ai [] t, [],none,m⟩ _
 rw[←aa m]
 by_cases hi:i<13
 ·have hb:dV[i]? =some dV[i]:=List.getElem?_eq_getElem (by omega)
  by_cases he:dV[i]=c
  ·rw[he] at hb
   have e1:List.drop i (List.take ((i:Int)+1).toNat dV)= [c]:=by
    rw[show ((i:Int)+1).toNat=i+1 by omega,List.take_add_one,hb]
    simp only[Option.toList_some]
    rw[List.drop_append_of_le_length (by rw[List.length_take];omega),List.drop_take_self];rfl
   simp (disch:=first|assumption|omega|(simp only[aI]<;>omega)) only[go_sem,seval,g1,g2,g3,g4,g5,g6,hb,hsl,e1,hr,htk,FK]
   refine hok (by rw[←he];exact List.getElem_mem _) _ _ _ ?_ ?_ ?_ ?_ ?_
   ·exact (aG orr).trans ao
   ·exact (aE rfl).weak (by simp[aB])
   ·simp (disch:=first|assumption|omega) only[go_sem,seval,g4]
   ·simp (disch:=first|assumption|omega) only[go_sem,seval]
   ·simp (disch:=first|assumption|omega) only[go_sem,seval]
  ·have hne:((dV[i]:Int)=(c:Int))=False:=by simp;omega
   simp (disch:=first|assumption|omega) only[go_sem,seval,g1,g2,g3,g4,g5,g6,hb,hsl]
   refine ⟨k - 1,by omega,_,i+1,by rw[aa], ?_, ?_, ?_, ?_, ?_, ?_, ?_,by omega⟩
   ·simp (disch:=first|assumption|omega) only[go_sem,seval,g1]
   ·simp (disch:=first|assumption|omega) only[go_sem,seval]<;>rfl
   ·simp (disch:=first|assumption|omega) only[go_sem,seval,g3]
   ·simp (disch:=first|assumption|omega) only[go_sem,seval,g4]
   ·simp (disch:=first|assumption|omega) only[go_sem,seval,g5]
   ·simp (disch:=first|assumption|omega) only[go_sem,seval,g6]
   ·rw[List.take_add_one,hb]
    simp only[Option.toList_some,List.mem_append,List.mem_singleton,not_or]
    exact ⟨hno,fun q=>he q.symm⟩
 ·simp (disch:=first|assumption|omega) only[go_sem,seval,g1,g2,hsl]
  rw[aa]
  refine hbad ?_ _ _ ?_ ?_ ?_
  ·have:i=13:=by omega
   subst this
   exact hno
  ·simp (disch:=first|assumption|omega) only[go_sem,seval,g5]
  ·simp (disch:=first|assumption|omega) only[go_sem,seval,g3]
  ·simp (disch:=first|assumption|omega) only[go_sem,seval,g4]
theorem Fc (s:List Nat) (a e:Nat):((oI s).drop a).take (e - a)=oI (cut s a e):=by
 unfold cut
 rw[List.drop_take]
 simp[List.map_take,List.map_drop]
theorem kI {s:List Nat} {a c:Nat} (hbs:s[a]? =some c) (hD:eW c=true):Bx (cut s a (aT eW s a))=if 1<aT eW s a - a/\c=48 then none else lX (cut s a (aT eW s a)) 0:=by
 have ha:=(List.getElem?_eq_some_iff.mp hbs).1
 obtain ⟨l,hl⟩:=IF hbs hD
 have hn:=kG (s:=s) (a:=a) (f0 (p:=eW) (s:=s) (a:=a) (by omega))
 unfold Bx
 rw[hn]
 have e:((cut s a (aT eW s a))[0]? =some 48)↔(c=48):=by rw[hl];simp
 by_cases h:1<aT eW s a - a/\c=48
 ·rw[Qp h,Qp ⟨h.1,e.mpr h.2⟩]
 ·rw[Qo h,Qo fun q=>h ⟨q.1,e.mp q.2⟩]
theorem kO {s:List Nat} {a c:Nat} (hbs:s[a]? =some c) (hD:eW c=true):eZ s a=(match Bx (cut s a (aT eW s a)) with|some n=>if aT ei s a=aT eW s a then some (2, [],n,aT eW s a) else none|none=>none):=by
 have hL:vF c=false:=by
  unfold eW at hD;rw[decide_eq_true_eq] at hD
  unfold vF;rw[decide_eq_false_iff_not];omega
 unfold eZ;rw[hbs];simp only[hL,hD];rfl
theorem uZ {s:List Nat} {a c:Nat} (hbs:s[a]? =some c) (hD:eW c=true) (h:wm s a):eZ s a=none:=by
 rw[kO hbs hD,kI hbs hD]
 by_cases h1:1<aT eW s a - a/\c=48
 ·rw[Qp h1]
 ·rw[Qo h1]
  rcases h with h|h
  ·cases lX (cut s a (aT eW s a)) 0 with
   |none=>rfl
   |some n=>simp[h]
  ·rw[h]
theorem FV (m:NH) {vb:NV} {s:List Nat} (hs:s.length<=1000000) (h256:∀c∈s,c<256) (hb:Sl m vb 1 (oI s)) {a:Nat} (ha:a<s.length):
 ∃v m',bc Try.prog S0 83 [vb,ii a] m v m'/\(∃(k0:Int) (t0:List Nat) (n0 p:Int),v= .tup [.agg [ii k0,.str t0,.int .u64 (.lit n0),ii a],ii p,ii (if (eZ s a).isSome then 0 else 2)]/\∀k t n e,eZ s a=some (k,t,n,e)->k0=k/\t0=t/\n0=n/\p=e)/\Chg [] m m':=by
 refine WF.ex fun K hK=> ?_
 refine WF.of_wpG (fun _=>rfl) yr (L:= [(.a .e,ii a),(.e,vb)]) rfl ?_
 unfold Lv
 simp (disch:=first|assumption|omega) only[go_sem,seval]
 generalize hM0:hp _ 1 m=M0
 have hC0:Chg [] m M0:=aY hM0 rfl
 have r0:M0.get (na m 0)=some (.cells true [ii 0,.str [],u64 0,ii 0]):=bw hM0
 have or0:ak M0 (na m 0):=bx hM0 (by omega)
 have hb0:=hb.chg hC0 fun _ _=>by simp
 refine Mo hs hb0 (Nat.le_of_lt ha) (by simp only[go_sem,seval]) (by simp only[go_sem,seval]) (by simp only[go_sem,seval]) (f:= .ptr (na m 0) 0) (by simp only[go_sem,seval]) ?_
 intro L t g1 g2 g3 g4
 rw[←aa M0]
 obtain ⟨id,off,w,c',x1,x2,x3,x4,x5⟩:=hb0.at a (by simpa using ha)
 rw[List.getElem_map] at x5
 have c0:=aA x5 0 (by omega)
 rw[Nat.add_zero] at c0
 have hbs:s[a]? =some s[a]:=List.getElem?_eq_getElem ha
 have hc256:=h256 s[a] (List.getElem_mem ha)
 generalize hc:s[a]=c at c0 hbs hc256
 have hd:∀m,bc Try.prog S0 132 [u8 c] m (.bool (eW c)) m:=fun m=>si m c
 have hl:∀m,bc Try.prog S0 133 [u8 c] m (.bool (vF c)) m:=fun m=>np m c
 generalize hT:ai L t=T at g1 g2 g3 g4
 change wp _ _ _ _ ⟨ai [] T, [],none,_⟩ _
 have na_ne:na m 0≠na M0 0:=or0.ne 0
 have na_ne':na M0 0≠na m 0:=fun e=>or0.ne 0 e.symm
 have chF:∀(M1:NH) {MF:NH} {T1 T2:List D4},Chg T1 M0 M1->Chg T2 M1 MF->(∀i∈T1++T2,i=na m 0∨i=na M0 0)->Chg [] m MF:=by
  intro M1 MF T1 T2 h1 h2 hi
  refine (hC0.weak (T:=T1++T2) (by simp)).trans ((h1.weak (T:=T1++T2) (by intro i hi _;simp[hi])).trans h2 (by intro i hi _;simp[hi])) (fun _ h _=>h) |>.weak ?_
  intro i hi' ho
  rcases hi i hi' with rfl|rfl
  ·exact Qn ho az
  ·exact Qn (hC0.old ho) az
 cases hD:eW c with
 |true=>
  rw[hD] at hd
  simp (disch:=first|assumption|omega|(simp only[aI]<;>omega)) only[go_sem,seval,g1,g2,g3,g4,x1,x2,c0,(hd _).wf']
  generalize hM1:hp _ 1 M0=M1
  have hC1:Chg [] M0 M1:=aY hM1 rfl
  have p0:=(hC1.get or0 (by simp)).trans r0
  have op0:=hC1.old or0
  have p1:M1.get (na M0 0)=some (.cells true [ii 0,.str [],u64 0,ii a]):=bw hM1
  have op1:ak M1 (na M0 0):=bx hM1 (by omega)
  have hb1:=hb0.chg hC1 fun _ _=>by simp
  refine Nd hs hb1 (Nat.le_of_lt ha) p0 p1 op0 op1 (cc:=u8 c) ?_ ?_ ?_ ?_ ?_ ?_ ?_ ?_ ?_ ?_
  ·simp (disch:=first|assumption|omega) only[go_sem,seval,g1]
  ·simp (disch:=first|assumption|omega) only[go_sem,seval,g4]
  ·simp (disch:=first|assumption|omega) only[go_sem,seval,g2]
  ·simp (disch:=first|assumption|omega) only[go_sem,seval,g3]
  ·simp (disch:=first|assumption|omega) only[go_sem,seval]
  ·simp (disch:=first|assumption|omega) only[go_sem,seval]<;>rfl
  ·simp (disch:=first|assumption|omega) only[go_sem,seval,g2]
  ·simp (disch:=first|assumption|omega) only[go_sem,seval]
  ·intro hbn L' t' k1 k2 k3
   generalize ai L' t'=T' at k1 k2 k3
   rw[show M1.put (na m 0) (.cells true [ii 0,.str [],u64 0,ii a])=hp [(.o (na m 0),.cells true [ii 0,.str [],u64 0,ii a])] 0 M1 from by rw[←b9 op0,aa]]
   change xT _ K .ret ⟨ai [] T', [],none,_⟩
   have T:eZ s a=none:=uZ hbs hD hbn
   simp (disch:=first|assumption|omega) only[go_sem,seval,k1,k2,k3]
   refine hK _ _ ⟨⟨_,_,_,_,by rw[T];rfl, ?_⟩,chF M1 hC1 (aE rfl) (by simp[aB])⟩
   intro k t n e he;rw[T] at he;cases he
  ·intro n hrr hv L' t' k1 k2 k3 k4 k5 k6
   generalize ai L' t'=T' at k1 k2 k3 k4 k5 k6
   rw[←aa M1]
   change wp _ _ _ _ ⟨ai [] T', [],none,_⟩ _
   have hge:a<=aT ei s a:=jp
   have hle:aT ei s a<=s.length:=f0 (Nat.le_of_lt ha)
   by_cases h48:c=48
   ·by_cases hgt:a+1<aT ei s a
    ·have T:eZ s a=none:=by rw[kO hbs hD,kI hbs hD,Qp ⟨by omega,h48⟩]
     simp (disch:=first|assumption|omega|(simp only[aI]<;>omega)) only[go_sem,seval,k1,k2,k3,k4,k5,k6,p0,p1]
     refine hK _ _ ⟨⟨_,_,_,_,by rw[T];rfl, ?_⟩,chF M1 hC1 (aE rfl) (by simp[aB])⟩
     intro k t n e he;rw[T] at he;cases he
    ·have T:eZ s a=some (2, [],n,aT eW s a):=by rw[kO hbs hD,kI hbs hD,Qo (by omega),hv];simp[hrr]
     simp (disch:=first|assumption|omega|(simp only[aI]<;>omega)) only[go_sem,seval,k1,k2,k3,k4,k5,k6,p0,p1,na_ne]
     refine hK _ _ ⟨⟨_,_,_,_,by rw[T];rfl, ?_⟩,chF M1 hC1 (aE rfl) (by simp[aB])⟩
     intro k t n e he;rw[T] at he;cases he
     exact ⟨rfl,rfl,rfl,by rw[hrr]⟩
   ·have T:eZ s a=some (2, [],n,aT eW s a):=by rw[kO hbs hD,kI hbs hD,Qo (by omega),hv];simp[hrr]
    simp (disch:=first|assumption|omega|(simp only[aI]<;>omega)) only[go_sem,seval,k1,k2,k3,k4,k5,k6,p0,p1,na_ne]
    refine hK _ _ ⟨⟨_,_,_,_,by rw[T];rfl, ?_⟩,chF M1 hC1 (aE rfl) (by simp[aB])⟩
    intro k t n e he;rw[T] at he;cases he
    exact ⟨rfl,rfl,rfl,by rw[hrr]⟩
 |false=>
  rw[hD] at hd
  cases hL:vF c with
  |true=>
   rw[hL] at hl
   simp (disch:=first|assumption|omega|(simp only[aI]<;>omega)) only[go_sem,seval,g1,g2,g3,g4,x1,x2,c0,(hd _).wf',(hl _).wf']
   generalize hM1:hp _ 1 M0=M1
   have hC1:Chg [] M0 M1:=aY hM1 rfl
   have op0:=hC1.old or0
   have p1:M1.get (na M0 0)=some (.cells true [ii 0,.str [],u64 0,ii a]):=bw hM1
   have op1:ak M1 (na M0 0):=bx hM1 (by omega)
   have hb1:=hb0.chg hC1 fun _ _=>by simp
   have p0:=(hC1.get or0 (by simp)).trans r0
   have hge:a<=aT ei s a:=jp
   have hle:aT ei s a<=s.length:=f0 (Nat.le_of_lt ha)
   refine yG (a:=a) (b:=aT ei s a) hb1 hge (by simpa using hle) ?_ ?_ ?_
   ·intro K;simp (disch:=first|assumption|omega) only[go_sem,seval]
   ·intro d K hd;simp (disch:=first|assumption|omega) only[go_sem,seval]
   intro v' hv' _
   rw[Fc] at hv'
   have hbt:=hv'.bts (fun c hc=>h256 c (List.mem_of_mem_take (List.mem_of_mem_drop hc)))
   rw[←aa M1]
   have hbt:F3 (hp [] 0 M1) v'= .val (.str (cut s a (aT ei s a))):=by rw[aa];exact hbt
   simp (disch:=first|assumption|omega|(simp only[aI]<;>omega)) only[go_sem,seval,g1,g2,g3,g4,hbt,p1]
   generalize hM2:hp _ 0 M1=M2
   have hC2:Chg [na M0 0] M1 M2:=by rw[←hM2];exact (aE rfl).weak (by simp[aB])
   have s0:=(hC2.get op0 (by simpa using na_ne)).trans p0
   have s1:M2.get (na M0 0)=some (.cells true [ii 1,.str (cut s a (aT ei s a)),u64 0,ii a]):=by rw[←hM2];simp (config:={maxSteps:=1000000}) (disch:=first|assumption|omega|(apply bv;omega)|(apply bI;assumption)|(simp only[aI]<;>omega)) only[go_sem,seval]
   have os0:=hC2.old op0
   have os1:=hC2.old op1
   obtain ⟨wv,M3,hw,rfl,hC3⟩:=IH M2 (cut s a (aT ei s a))
   have y0:=(hC3.get os0 (by simp)).trans s0
   have y1:=(hC3.get os1 (by simp)).trans s1
   have oy0:=hC3.old os0
   have oy1:=hC3.old os1
   have hC13:Chg [na M0 0] M0 M3:=(hC1.weak (T:= [na M0 0]) (by simp)).trans ((hC2.weak (T:= [na M0 0]) (by simp)).trans (hC3.weak (T:= [na M0 0]) (by simp)) (fun _ h _=>h)) (fun _ h _=>h)
   have TT:eZ s a=(if cut s a (aT ei s a)∈gj then some (4,cut s a (aT ei s a),0,aT ei s a) else if (cut s a (aT ei s a)).length<=16 then some (1,cut s a (aT ei s a),0,aT ei s a) else none):=by
    unfold eZ;rw[hbs];simp only[hL];rfl
   by_cases hwd:cut s a (aT ei s a)∈gj
   ·rw[Qr hwd] at hw
    rw[Qp hwd] at TT
    simp (config:={maxSteps:=1000000}) (disch:=first|assumption|omega|(apply bv;omega)|(apply bI;assumption)|(simp only[aI]<;>omega)) only[go_sem,seval,hw.wf,g1,g2,g3,g4,y0,y1]
    refine hK _ _ ⟨⟨_,_,_,_,by rw[TT];rfl, ?_⟩,chF M3 hC13 (aE rfl) (by simp[aB])⟩
    intro k t n e he;rw[TT] at he;cases he
    exact ⟨rfl,rfl,rfl,rfl⟩
   ·rw[Qq hwd] at hw
    rw[Qo hwd] at TT
    by_cases h16:(cut s a (aT ei s a)).length<=16
    ·rw[Qp h16] at TT
     simp (config:={maxSteps:=1000000}) (disch:=first|assumption|omega|(apply bv;omega)|(apply bI;assumption)|(simp only[aI]<;>omega)) only[go_sem,seval,hw.wf,g1,g2,g3,g4,y0,y1]
     refine hK _ _ ⟨⟨_,_,_,_,by rw[TT];rfl, ?_⟩,chF M3 hC13 (aE rfl) (by simp[aB])⟩
     intro k t n e he;rw[TT] at he;cases he
     exact ⟨rfl,rfl,rfl,rfl⟩
    ·rw[Qo h16] at TT
     simp (config:={maxSteps:=1000000}) (disch:=first|assumption|omega|(apply bv;omega)|(apply bI;assumption)|(simp only[aI]<;>omega)) only[go_sem,seval,hw.wf,g1,g2,g3,g4,y0,y1]
     refine hK _ _ ⟨⟨_,_,_,_,by rw[TT];rfl, ?_⟩,chF M3 hC13 (aE rfl) (by simp[aB])⟩
     intro k t n e he;rw[TT] at he;cases he
  |false=>
   rw[hL] at hl
   simp (disch:=first|assumption|omega|(simp only[aI]<;>omega)) only[go_sem,seval,g1,g2,g3,g4,x1,x2,c0,(hd _).wf',(hl _).wf']
   generalize hM1:hp _ 1 M0=M1
   have hC1:Chg [] M0 M1:=aY hM1 rfl
   have p0:=(hC1.get or0 (by simp)).trans r0
   have op0:=hC1.old or0
   have p1:M1.get (na M0 0)=some (.cells true [ii 0,.str [],u64 0,ii a]):=bw hM1
   have op1:ak M1 (na M0 0):=bx hM1 (by omega)
   have T:eZ s a=if c∈dV then some (3, [c],0,a+1) else none:=by unfold eZ;rw[hbs];simp[hL,hD]
   refine Ox (c:=c) (a:=a) (by omega) p0 p1 op0 op1 na_ne ?_ ?_ ?_ ?_ ?_ ?_ ?_ ?_
   ·simp (disch:=first|assumption|omega) only[go_sem,seval]<;>rfl
   ·simp (disch:=first|assumption|omega) only[go_sem,seval]
   ·simp (disch:=first|assumption|omega) only[go_sem,seval,g2]
   ·simp (disch:=first|assumption|omega) only[go_sem,seval,g3]
   ·simp (disch:=first|assumption|omega) only[go_sem,seval]
   ·simp (disch:=first|assumption|omega) only[go_sem,seval]
   ·intro hm L' t' m' q0 hCm k1 k2 k3
    rw[Qp hm] at T
    generalize ai L' t'=T' at k1 k2 k3
    change xT _ K .ret ⟨ai [] T', [],none,m'⟩
    simp (disch:=first|assumption|omega) only[go_sem,seval,k1,k2,k3,q0]
    refine hK _ _ ⟨⟨_,_,_,_,by rw[T];rfl, ?_⟩,chF M1 hC1 hCm (by simp)⟩
    intro k t n e he;rw[T] at he;cases he
    exact ⟨rfl,rfl,rfl,by omega⟩
   ·intro hm L' t' k1 k2 k3
    rw[Qo hm] at T
    generalize ai L' t'=T' at k1 k2 k3
    rw[←aa M1]
    change wp _ _ _ _ ⟨ai [] T', [],none,_⟩ _
    simp (disch:=first|assumption|omega|(simp only[aI]<;>omega)) only[go_sem,seval,k1,k2,k3,p0,p1]
    refine hK _ _ ⟨⟨_,_,_,_,by rw[T];rfl, ?_⟩,chF M1 hC1 (aE rfl) (by simp[aB])⟩
    intro k t n e he;rw[T] at he;cases he
theorem HF {m M0:NH} {vb:NV} {s:List Nat} (hs:s.length<=16384) (h256:∀c∈s,c<256) (hb:Sl m vb 1 (oI s)) (hCm:Chg [] m M0) {t:Tm}
 (g1:NT.get D4.e t=some vb) (g2:NT.get D4.e.a.a t=some .nils) (g3:NT.get D4.e.a.b t=some (ii ((bz s 0:Nat):Int))) {Q:Out->Dyn->Prop}
 (hbad:∀a,(dq s).2=some a->∀L t' M,Chg [] m M->NT.get D4.e.b (ai L t')=some .nils->NT.get D4.e.c (ai L t')=some (ii a)->NT.get D4.e.f (ai L t')=some (ii 2)->Q .ret ⟨ai L t', [],none,M⟩)
 (hok:∀T,dq s=(T++ [⟨5, [],0,s.length⟩],none)->∀L t' M u,Chg [] m M->aV m M u 4 (T.map Tok.l)->NT.get D4.e (ai L t')=some vb->NT.get D4.e.a.a (ai L t')=some u->Q (.exit 0) ⟨ai L t', [],none,M⟩):
 W Try.prog S0 none rl.loop ⟨t, [],none,M0⟩ Q:=by
 have hsk0:bz s 0<=s.length:=lr (Nat.zero_le _)
 refine W.loop (fun k d=>∃t M i L u,d=⟨t, [],none,M⟩/\NT.get D4.e t=some vb/\NT.get D4.e.a.a t=some u/\NT.get D4.e.a.b t=some (ii (i:Nat))/\i<=s.length/\s.length<=i+k/\Chg [] m M/\aV m M u 4 (L.map Tok.l)/\dq s=(L++(cV s (k+1) i).1,(cV s (k+1) i).2)) ?_ s.length _
  ⟨_,M0,bz s 0, [],.nils,rfl,g1,g2,g3,hsk0,by omega,hCm,aV.nil,rfl⟩
 rintro k d ⟨t,M,i,L,u,rfl,g1,g2,g3,hi,hik,hC,hu,hT⟩
 apply ap
 unfold rl
 change wp _ _ _ _ ⟨ai [] t, [],none,M⟩ _
 rw[←aa M]
 have hLl:L.length<=s.length+1:=by
  have h:=lW s (s.length+1) (bz s 0)
  have h2:(dq s).1.length=_:=congrArg (fun x=>x.1.length) hT
  rw[List.length_append] at h2
  have h3:(dq s).1.length<=s.length+1:=h
  omega
 have hbM:=hb.chg hC fun _ _=>by simp
 have hlen:=hbM.len
 rw[show (oI s).length=s.length by simp] at hlen
 by_cases hlt:i<s.length
 ·obtain ⟨k,rfl⟩:∃k',k=k'+1:=⟨k - 1,by omega⟩
  have hTs:cV s (k+1+1) i=(match eZ s i with
   |none=>([],some i)
   |some (kd,t,n,e)=>(⟨kd,t,n,i⟩::(cV s (k+1) (bz s e)).1,(cV s (k+1) (bz s e)).2)):=by
   rw[cV,Qp hlt]
  obtain ⟨v,M2,hr,⟨k0,t0,n0,p,rfl,htk⟩,hC2⟩:=FV (hp [] 0 M) (by omega) h256 (by rw[aa];exact hbM) hlt
  have hC2:Chg [] M M2:=by rw[aa] at hC2;exact hC2
  cases hk:eZ s i with
  |none=>
   rw[hk] at hr
   have hr:bc Try.prog S0 83 [vb,ii i] (hp [] 0 M) (.tup [.agg [ii k0,.str t0,.int .u64 (.lit n0),ii i],ii p,ii 2]) M2:=hr
   rw[hTs,hk] at hT
   simp (disch:=first|assumption|omega|(simp only[aI]<;>omega)) only[go_sem,seval,g1,g2,g3,hlen,hr.wf]
   refine hbad i (by rw[hT]) _ _ _ ((hC.trans hC2 (by simp)).trans (aE rfl) (by simp[aB])) ?_ ?_ ?_
   ·simp (disch:=first|assumption|omega) only[go_sem,seval]
   ·simp (disch:=first|assumption|omega) only[go_sem,seval]
   ·simp (disch:=first|assumption|omega) only[go_sem,seval]
  |some x=>
   obtain ⟨kd,tx,n,e⟩:=x
   rw[hk] at hr
   obtain ⟨e0,e1,e2,e3⟩:=htk kd tx n e hk
   rw[e0,e1,e2,e3] at hr
   have hr:bc Try.prog S0 83 [vb,ii i] (hp [] 0 M) (.tup [.agg [ii kd,.str tx,.int .u64 (.lit (n:Int)),ii i],ii e,ii 0]) M2:=hr
   obtain ⟨l1,l2⟩:=DV hk
   simp (disch:=first|assumption|omega|(simp only[aI]<;>omega)) only[go_sem,seval,g1,g2,g3,hlen,hr.wf]
   generalize hM3:hp _ 2 M2=M3
   have hC3:Chg [] M2 M3:=aY hM3 rfl
   have n1:M3.get (na M2 1)=some (.cells true (Tok.l ⟨kd,tx,n,i⟩)):=bw hM3
   have on1:ak M3 (na M2 1):=bx hM3 (by omega)
   have hCC:Chg [] m M3:=hC.trans (hC2.trans hC3 (by simp)) (by simp)
   refine tV (hu.chg (hC2.trans hC3 fun _ h _=>h) fun _ _=>by simp) n1 on1 rfl (fun i hi=>hCC.old hi) (by simp;omega) (by simp;omega) ?_
   intro u' M5 hu' hC5
   have hC6:Chg [] m M5:=(hCC.weak (T:=ids u) (by simp)).trans hC5 (fun _ h _=>h) |>.weak (by intro j hj ho;exact Qn ho (hu.new j hj))
   have hsk:bc Try.prog S0 82 [vb,ii e] (hp [] 0 M5) (ii ((bz s e:Nat):Int)) (hp [] 0 M5):=Ew _ (by omega) (by rw[aa];exact hb.chg hC6 fun _ _=>by simp) l2
   simp (disch:=first|assumption|omega) only[go_sem,seval,g1,g2,g3,hsk.wf']
   have hge:e<=bz s e:=t7
   refine ⟨k,by omega,_,M5,bz s e,L++ [⟨kd,tx,n,i⟩],u',by rw[aa], ?_, ?_, ?_,lr l2,by omega,hC6, ?_, ?_⟩
   ·simp (disch:=first|assumption|omega) only[go_sem,seval,g1]
   ·simp (disch:=first|assumption|omega) only[go_sem,seval]
   ·simp (disch:=first|assumption|omega) only[go_sem,seval]
   ·rw[List.map_append];exact hu'
   ·rw[hT,hTs,hk];simp
 ·have hTs:cV s (k+1) i=([⟨5, [],0,s.length⟩],none):=by rw[cV,Qo hlt]
  rw[hTs] at hT
  simp (disch:=first|assumption|omega) only[go_sem,seval,g1,g2,g3,hlen]
  rw[aa]
  refine hok L hT _ _ _ u hC hu ?_ ?_
  ·simp (disch:=first|assumption|omega) only[go_sem,seval,g1]
  ·simp (disch:=first|assumption|omega) only[go_sem,seval,g2]
theorem DX (m:NH) {v:NV} {b:List Nat} (hv:Sl m v 1 (oI b)) (hb:∀c∈b,c<256):
 ∃r m',bc Try.prog S0 45 [v] m r m'/\(if 16384<b.length then r= .tup [.nils,ii 0,ii 3] else (match (dq b).2 with|some a=>r= .tup [.nils,ii a,ii 2]|none=>∃u,r= .tup [u,ii b.length,ii 0]/\aV m m' u 4 ((dq b).1.map Tok.l)))/\Chg [] m m':=by
 refine WF.ex fun K hK=> ?_
 refine WF.of_wpG (fun _=>rfl) zV (L:= [(.e,v)]) rfl ?_
 unfold IY
 have hlen:=hv.len
 rw[show (oI b).length=b.length by simp] at hlen
 by_cases h1:16384<b.length
 ·simp (disch:=first|assumption|omega) only[go_sem,seval,hlen,aa]
  refine hK _ _ ⟨by rw[Qp h1],Chg.refl m⟩
 ·have hs0:bc Try.prog S0 82 [v,ii 0] m (ii ((bz b 0:Nat):Int)) m:=Ew m (by omega) hv (a:=0) (Nat.zero_le _)
  simp (disch:=first|assumption|omega) only[go_sem,seval,hlen,aa,hs0.wf']
  refine HF (m:=m) (s:=b) (vb:=v) (by omega) hb hv (Chg.refl m) ?_ ?_ ?_ ?_ ?_
  ·simp (disch:=first|assumption|omega) only[go_sem,seval]
  ·simp (disch:=first|assumption|omega) only[go_sem,seval]
  ·simp (disch:=first|assumption|omega) only[go_sem,seval]
  ·intro a he L t M hC g1 g2 g3
   generalize ai L t=T at g1 g2 g3
   change xT _ K .ret ⟨ai [] T, [],none,M⟩
   simp (disch:=first|assumption|omega) only[go_sem,seval,g1,g2,g3]
   refine hK _ _ ⟨by rw[Qo h1,he],hC⟩
  ·intro Tl hT L t M u hC hu g1 g2
   generalize ai L t=T at g1 g2
   change wp _ _ _ _ ⟨ai [] T, [],none,M⟩ _
   rw[←aa M]
   have hlen:=(hv.chg hC fun _ _=>by simp).len
   rw[show (oI b).length=b.length by simp] at hlen
   have hTl:Tl.length<=b.length+1:=by
    have h:=lW b (b.length+1) (bz b 0)
    have h2:(dq b).1.length=_:=congrArg (fun x=>x.1.length) hT
    rw[List.length_append] at h2
    have h3:(dq b).1.length<=b.length+1:=h
    omega
   simp (disch:=first|assumption|omega|(simp only[aI]<;>omega)) only[go_sem,seval,g1,g2,hlen]
   generalize hM3:hp _ 1 M=M3
   have hC3:Chg [] M M3:=aY hM3 rfl
   have n1:M3.get (na M 0)=some (.cells true (Tok.l ⟨5, [],0,b.length⟩)):=bw hM3
   have on1:ak M3 (na M 0):=bx hM3 (by omega)
   have hCC:Chg [] m M3:=hC.trans hC3 (by simp)
   refine tV (hu.chg hC3 fun _ _=>by simp) n1 on1 rfl (fun i hi=>hCC.old hi) (by simp;omega) (by simp;omega) ?_
   intro u' M5 hu' hC5
   have hC6:Chg [] m M5:=(hCC.weak (T:=ids u) (by simp)).trans hC5 (fun _ h _=>h) |>.weak (by intro j hj ho;exact Qn ho (hu.new j hj))
   have hlen5:=(hv.chg hC6 fun _ _=>by simp).len
   rw[show (oI b).length=b.length by simp] at hlen5
   simp (disch:=first|assumption|omega) only[go_sem,seval,g1,g2,hlen5]
   rw[aa]
   refine hK _ _ ⟨?_,hC6⟩
   rw[Qo h1,hT]
   exact ⟨u',rfl,by rw[List.map_append];exact hu'⟩
end FR
