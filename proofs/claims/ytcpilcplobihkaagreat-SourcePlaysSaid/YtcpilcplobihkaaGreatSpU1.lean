/- Contracts of functions that the law SourcePlays reaches, part 1. -/
import Derived.Test.YtcpilcplobihkaaGreatSpU0
set_option linter.unusedSimpArgs false
set_option linter.unusedVariables false
open Go Nm Go.Proofs
namespace FR
structure Rn where
 ph:Bool
 rc:Bd
 th:List Bd
 z:Mc
def dk (p:Prg) (j:Nat):List Stm:=((p.ts[j]?).map (·.2)).getD []
noncomputable def BZ (p:Prg) (c:Int) (x:Rn):Bool×Rn:=
 if 0<=c/\c<x.th.length then ((bZ p.cs (locals (dk p c.toNat)) ((x.th[c.toNat]?).getD (fT [])) x.z).1,⟨true,x.rc,x.th.set c.toNat (bZ p.cs (locals (dk p c.toNat)) ((x.th[c.toNat]?).getD (fT [])) x.z).2.1,(bZ p.cs (locals (dk p c.toNat)) ((x.th[c.toNat]?).getD (fT [])) x.z).2.2⟩)
 else (false,⟨true,x.rc,x.th,x.z⟩)
noncomputable def iH (p:Prg) (c:Int) (x:Rn):Bool×Rn:=
 if x.ph=true then BZ p c x
 else if (bZ p.cs (locals p.r) x.rc x.z).1=true then (true,⟨false,(bZ p.cs (locals p.r) x.rc x.z).2.1,x.th,(bZ p.cs (locals p.r) x.rc x.z).2.2⟩)
 else if (bZ p.cs (locals p.r) x.rc x.z).2.1.s=2 then (false,⟨false,(bZ p.cs (locals p.r) x.rc x.z).2.1,x.th,(bZ p.cs (locals p.r) x.rc x.z).2.2⟩)
 else BZ p c ⟨true,(bZ p.cs (locals p.r) x.rc x.z).2.1,x.th,(bZ p.cs (locals p.r) x.rc x.z).2.2⟩
def jJ (p:Prg) (z:Mc):Rn:=⟨false,fT p.r,p.ts.map fun t=>fT t.2,z⟩
structure Bl where
 b:D4
 (pl nm vv:NV)
def Bl.fp (q:Bl):List D4:=bU q.b q.pl q.nm q.vv
structure RunG (f:NV->NV->Bool->List NV) (mk:NV->NV->NV->Int->List NV) (p:Prg) (B m:NH) (r:D4) (x:Rn) (o:Nat) (vcl vo vth:NV) (q:Bl) (bs:List Bl):Prop where
 mc:Mac f B m r vcl vo x.z
 rb:Bod mk B m q.b q.pl q.nm q.vv (locals p.r) x.rc
 rk:BdOk p.cs (locals p.r) x.rc
 tv:aU B m vth 1 (bs.map fun t=> [.ptr t.b 0])
 ln:bs.length=p.ts.length/\x.th.length=p.ts.length
 tb:∀(j:Nat) (t:Bl) (y:Bd),bs[j]? =some t->x.th[j]? =some y->Bod mk B m t.b t.pl t.nm t.vv (locals (dk p j)) y/\BdOk p.cs (locals (dk p j)) y
 d0:∀i∈bD r vcl vo,i∉ids vth/\i∉q.fp/\∀t∈bs,i∉t.fp
 d1:∀i∈ids vth,i∉q.fp/\∀t∈bs,i∉t.fp
 d2:∀i∈q.fp,∀t∈bs,i∉t.fp
 d3:∀(j k:Nat) (t u:Bl),bs[j]? =some t->bs[k]? =some u->j≠k->∀i∈t.fp,i∉u.fp
 zk:McOk p.cs x.z
 ol:x.z.out.length<=o
abbrev fE (p:Prg) (B:NH) (vc vt vr:NV) (m:NH) (r:D4) (x:Rn) (o:Nat) (vcl vo vth:NV) (q:Bl) (bs:List Bl):Prop:=RunG (fP vc vt vr (.ptr q.b 0) vth x.ph) pD p B m r x o vcl vo vth q bs
structure RunC (p:Prg) (B:NH) (vc vt vr:NV):Prop where
 rp:RP B (fun _=>True) p vc vt vr
 cs:CsOk p.cs
 zt:∀t∈p.ts,cI t.2<=400000
 zr:cI p.r<=400000
 gt:∀t∈p.ts,∀s∈t.2,Gs p.cs s
 gr:∀s∈p.r,Gs p.cs s
 nt:p.ts.length<=1000
section
variable {f:NV->NV->Bool->List NV} {mk:NV->NV->NV->Int->List NV} {p:Prg} {B m m':NH} {vc vt vr vcl vo vth:NV} {r:D4} {x:Rn} {o:Nat} {q:Bl} {bs:List Bl}
def RunG.foot (r:D4) (vcl vo vth:NV) (q:Bl) (bs:List Bl):List D4:=bD r vcl vo++(ids vth++(q.fp++(bs.map Bl.fp).flatten))
theorem RunG.thr (h:RunG f mk p B m r x o vcl vo vth q bs) {t:Bl} (ht:t∈bs):∃(j:Nat) (y:Bd),bs[j]? =some t/\x.th[j]? =some y:=by
 obtain ⟨j,hj,rfl⟩:=List.mem_iff_getElem.1 ht
 exact ⟨j,x.th[j]'(by rw[h.ln.2,←h.ln.1];exact hj),List.getElem?_eq_getElem hj,List.getElem?_eq_getElem _⟩
theorem RunG.told (h:RunG f mk p B m r x o vcl vo vth q bs) {t:Bl} (ht:t∈bs):∀i∈t.fp,am m i/\¬am B i:=by
 obtain ⟨j,y,h1,h2⟩:=h.thr ht
 exact (h.tb j t y h1 h2).1.old
theorem RunG.recov (h:RunG f mk p B m r x o vcl vo vth q bs) {vo' pl':NV} {y:Bd} {z:Mc} {o':Nat} (hG:ct f mk B m m' p.cs (locals p.r) r q.b (bD r vcl vo++q.fp) vcl vo' pl' q.nm q.vv y z o'):
 RunG f mk p B m' r ⟨x.ph,y,x.th,z⟩ o' vcl vo' vth ⟨q.b,pl',q.nm,q.vv⟩ bs:=by
 have hF:∀i∈bD r vcl vo++q.fp,¬am B i:=fun i hi=>(List.mem_append.1 hi).elim (fun u=>(h.mc.old i u).2) fun u=>(h.rb.old i u).2
 have n1:∀i∈ids vth,i∉bD r vcl vo++q.fp:=fun i hi u=>(List.mem_append.1 u).elim (fun u=>(h.d0 i u).1 hi) (h.d1 i hi).1
 have n2:∀t∈bs,∀i∈t.fp,i∉bD r vcl vo++q.fp:=fun t ht i hi u=>(List.mem_append.1 u).elim (fun u=>(h.d0 i u).2.2 t ht hi) fun u=>h.d2 i u t ht hi
 have k1:∀i∈ids vth,i∉bD r vcl vo'++bU q.b pl' q.nm q.vv:=fun i hi=>hG.ev.nin (h.tv.sl.old i hi) (n1 i hi)
 have k2:∀t∈bs,∀i∈t.fp,i∉bD r vcl vo'++bU q.b pl' q.nm q.vv:=fun t ht i hi=>hG.ev.nin (h.told ht i hi).1 (n2 t ht i hi)
 refine ⟨hG.mc,hG.bd,hG.bk,h.tv.chg hG.ev.c n1,h.ln,fun j t y h1 h2=> ?_,fun i hi=>⟨fun u=>k1 i u (List.mem_append_left _ hi),hG.dj i hi,fun t ht u=>k2 t ht i u (List.mem_append_left _ hi)⟩,fun i hi=>⟨fun u=>k1 i hi (List.mem_append_right _ u),(h.d1 i hi).2⟩,fun i hi t ht u=>k2 t ht i u (List.mem_append_right _ hi),h.d3,hG.zk,hG.ol⟩
 obtain ⟨u1,u2⟩:=h.tb j t y h1 h2
 exact ⟨u1.ev hG.ev (n2 t (List.mem_of_getElem? h1)) hF,u2⟩
theorem RunG.thread (h:RunG f mk p B m r x o vcl vo vth q bs) {k:Nat} {t:Bl} (hk:bs[k]? =some t) {vo' pl':NV} {y:Bd} {z:Mc} {o':Nat} (hG:ct f mk B m m' p.cs (locals (dk p k)) r t.b (bD r vcl vo++t.fp) vcl vo' pl' t.nm t.vv y z o'):
 RunG f mk p B m' r ⟨x.ph,x.rc,x.th.set k y,z⟩ o' vcl vo' vth q (bs.set k ⟨t.b,pl',t.nm,t.vv⟩):=by
 have ht:=List.mem_of_getElem? hk
 have hkl:=(List.getElem?_eq_some_iff.1 hk).1
 have hF:∀i∈bD r vcl vo++t.fp,¬am B i:=fun i hi=>(List.mem_append.1 hi).elim (fun u=>(h.mc.old i u).2) fun u=>(h.told ht i u).2
 have n1:∀i∈ids vth,i∉bD r vcl vo++t.fp:=fun i hi u=>(List.mem_append.1 u).elim (fun u=>(h.d0 i u).1 hi) ((h.d1 i hi).2 t ht)
 have n2:∀i∈q.fp,i∉bD r vcl vo++t.fp:=fun i hi u=>(List.mem_append.1 u).elim (fun u=>(h.d0 i u).2.1 hi) fun u=>h.d2 i hi t ht u
 have n3:∀(j:Nat) (u:Bl),bs[j]? =some u->j≠k->∀i∈u.fp,i∉bD r vcl vo++t.fp:=fun j u hj hne i hi w=>(List.mem_append.1 w).elim (fun w=>(h.d0 i w).2.2 u (List.mem_of_getElem? hj) hi) fun w=>h.d3 j k u t hj hk hne i hi w
 have k1:∀i∈ids vth,i∉bD r vcl vo'++bU t.b pl' t.nm t.vv:=fun i hi=>hG.ev.nin (h.tv.sl.old i hi) (n1 i hi)
 have k2:∀i∈q.fp,i∉bD r vcl vo'++bU t.b pl' t.nm t.vv:=fun i hi=>hG.ev.nin (h.rb.old i hi).1 (n2 i hi)
 have k3:∀(j:Nat) (u:Bl),bs[j]? =some u->j≠k->∀i∈u.fp,i∉bD r vcl vo'++bU t.b pl' t.nm t.vv:=fun j u hj hne i hi=>hG.ev.nin (h.told (List.mem_of_getElem? hj) i hi).1 (n3 j u hj hne i hi)
 have hset:∀(j:Nat) (u:Bl),(bs.set k ⟨t.b,pl',t.nm,t.vv⟩)[j]? =some u->(j=k/\u=⟨t.b,pl',t.nm,t.vv⟩)∨(j≠k/\bs[j]? =some u):=fun j u hj=>by
  by_cases e:j=k
  ·subst e;rw[List.getElem?_set_self hkl] at hj;cases hj;exact Or.inl ⟨rfl,rfl⟩
  ·rw[List.getElem?_set_ne (fun a=>e a.symm)] at hj;exact Or.inr ⟨e,hj⟩
 have hmem:∀u∈bs.set k ⟨t.b,pl',t.nm,t.vv⟩,u=⟨t.b,pl',t.nm,t.vv⟩∨∃j,j≠k/\bs[j]? =some u:=fun u hu=>by
  obtain ⟨j,hj⟩:=List.mem_iff_getElem?.1 hu
  rcases hset j u hj with ⟨-,e⟩|⟨e1,e2⟩
  ·exact Or.inl e
  ·exact Or.inr ⟨j,e1,e2⟩
 refine ⟨hG.mc,h.rb.ev hG.ev n2 hF,h.rk, ?_,by simp[h.ln],fun j u w h1 h2=> ?_,fun i hi=>⟨fun u=>k1 i u (List.mem_append_left _ hi),fun u=>k2 i u (List.mem_append_left _ hi),fun u hu w=> ?_⟩,fun i hi=>⟨(h.d1 i hi).1,fun u hu w=> ?_⟩,fun i hi u hu w=> ?_,fun j l u w h1 h2 hne i hi hw=> ?_,hG.zk,hG.ol⟩
 ·have:=h.tv.chg hG.ev.c n1
  have e:(bs.set k ⟨t.b,pl',t.nm,t.vv⟩).map (fun t=> [NV.ptr t.b 0])=bs.map fun t=> [NV.ptr t.b 0]:=by
   rw[List.map_set]
   apply List.ext_getElem?
   intro j
   by_cases e:j=k
   ·subst e;rw[List.getElem?_set_self (by simpa using hkl),List.getElem?_map,hk];rfl
   ·rw[List.getElem?_set_ne (fun a=>e a.symm)]
  rw[e];exact this
 ·rcases hset j u h1 with ⟨e,rfl⟩|⟨e,h1⟩
  ·subst e
   rw[List.getElem?_set_self (by rw[h.ln.2,←h.ln.1];exact hkl)] at h2
   cases h2
   exact ⟨hG.bd,hG.bk⟩
  ·rw[List.getElem?_set_ne (fun a=>e a.symm)] at h2
   obtain ⟨u1,u2⟩:=h.tb j u w h1 h2
   exact ⟨u1.ev hG.ev (n3 j u h1 e) hF,u2⟩
 ·rcases hmem u hu with rfl|⟨j,e1,e2⟩
  ·exact hG.dj i hi w
  ·exact k3 j u e2 e1 i w (List.mem_append_left _ hi)
 ·rcases hmem u hu with rfl|⟨j,e1,e2⟩
  ·exact k1 i hi (List.mem_append_right _ w)
  ·exact (h.d1 i hi).2 u (List.mem_of_getElem? e2) w
 ·rcases hmem u hu with rfl|⟨j,e1,e2⟩
  ·exact k2 i hi (List.mem_append_right _ w)
  ·exact h.d2 i hi u (List.mem_of_getElem? e2) w
 ·rcases hset j u h1 with ⟨e,rfl⟩|⟨e,h1⟩
  ·rcases hset l w h2 with ⟨e',-⟩|⟨e',h2⟩
   ·omega
   ·exact k3 l w h2 e' i hw (List.mem_append_right _ hi)
  ·rcases hset l w h2 with ⟨e',rfl⟩|⟨e',h2⟩
   ·exact k3 j u h1 e i hi (List.mem_append_right _ hw)
   ·exact h.d3 j l u w h1 h2 hne i hi hw
theorem RunG.grow (h:RunG f mk p B m r x o vcl vo vth q bs) (hC:Chg [] m m'):RunG f mk p B m' r x o vcl vo vth q bs:=
 ⟨h.mc.grow hC,h.rb.grow hC,h.rk,h.tv.chg hC fun _ _=>by simp,h.ln,fun j t y h1 h2=>⟨(h.tb j t y h1 h2).1.grow hC,(h.tb j t y h1 h2).2⟩,h.d0,h.d1,h.d2,h.d3,h.zk,h.ol⟩
theorem EvF.sup {F F' G G':List D4} (h:EvF F F' m m') (h1:∀i∈F,i∈G) (h2:∀j∈G',j∈G∨j∈F'):EvF G G' m m':=
 ⟨h.c.weak fun i hi _=>h1 i hi,fun j hj=>(h2 j hj).elim Or.inl fun q=>(h.f j q).imp (h1 j) id⟩
theorem RunG.evR {pl' vo' nm' vv':NV} {b':D4} (h:EvF (bD r vcl vo++q.fp) (bD r vcl vo'++bU b' pl' nm' vv') m m'):EvF (RunG.foot r vcl vo vth q bs) (RunG.foot r vcl vo' vth ⟨b',pl',nm',vv'⟩ bs) m m':=by
 refine h.sup (fun i hi=> ?_) fun j hj=> ?_
 ·simp only[RunG.foot,List.mem_append] at hi ⊢
  rcases hi with hi|hi
  ·exact Or.inl hi
  ·exact Or.inr (Or.inr (Or.inl hi))
 ·simp only[RunG.foot,List.mem_append] at hj ⊢
  rcases hj with hj|hj|hj|hj
  ·exact Or.inr (Or.inl hj)
  ·exact Or.inl (Or.inr (Or.inl hj))
  ·exact Or.inr (Or.inr hj)
  ·exact Or.inl (Or.inr (Or.inr (Or.inr hj)))
theorem RunG.evT {pl' vo' nm' vv':NV} {b':D4} {k:Nat} {t:Bl} (hk:bs[k]? =some t) (h:EvF (bD r vcl vo++t.fp) (bD r vcl vo'++bU b' pl' nm' vv') m m'):EvF (RunG.foot r vcl vo vth q bs) (RunG.foot r vcl vo' vth q (bs.set k ⟨b',pl',nm',vv'⟩)) m m':=by
 refine h.sup (fun i hi=> ?_) fun j hj=> ?_
 ·simp only[RunG.foot,List.mem_append] at hi ⊢
  rcases hi with hi|hi
  ·exact Or.inl hi
  ·exact Or.inr (Or.inr (Or.inr (List.mem_flatten.2 ⟨_,List.mem_map_of_mem (List.mem_of_getElem? hk),hi⟩)))
 ·simp only[RunG.foot,List.mem_append] at hj ⊢
  rcases hj with hj|hj|hj|hj
  ·exact Or.inr (Or.inl hj)
  ·exact Or.inl (Or.inr (Or.inl hj))
  ·exact Or.inl (Or.inr (Or.inr (Or.inl hj)))
  ·obtain ⟨l,hl,hj⟩:=List.mem_flatten.1 hj
   obtain ⟨u,hu,rfl⟩:=List.mem_map.1 hl
   rcases List.mem_or_eq_of_mem_set hu with hu|rfl
   ·exact Or.inl (Or.inr (Or.inr (Or.inr (List.mem_flatten.2 ⟨_,List.mem_map_of_mem hu,hj⟩))))
   ·exact Or.inr (Or.inr hj)
theorem RunG.evM (h:EvF (bD r vcl vo) (bD r vcl vo) m m'):EvF (RunG.foot r vcl vo vth q bs) (RunG.foot r vcl vo vth q bs) m m':=
 h.sup (fun i hi=>by simp only[RunG.foot,List.mem_append];exact Or.inl hi) fun j hj=>Or.inl hj
theorem RunG.all (h:RunG f mk p B m r x o vcl vo vth q bs):∀i∈RunG.foot r vcl vo vth q bs,am m i/\¬am B i:=by
 intro i hi
 simp only[RunG.foot,List.mem_append] at hi
 rcases hi with hi|hi|hi|hi
 ·exact h.mc.old i hi
 ·exact ⟨h.tv.sl.old i hi,h.tv.new i hi⟩
 ·exact h.rb.old i hi
 ·obtain ⟨l,hl,hj⟩:=List.mem_flatten.1 hi
  obtain ⟨u,hu,rfl⟩:=List.mem_map.1 hl
  exact h.told hu i hj
theorem RunG.evS {t:Bl} {vth':NV} (hC:Chg [] m m') {m'':NH} (hC2:Chg (r::ids vth) m' m'') (hvn:∀i∈ids vth',i∈ids vth∨¬am m' i) (hnew:∀i∈t.fp,¬am m i):EvF (RunG.foot r vcl vo vth q bs) (RunG.foot r vcl vo vth' q (bs++ [t])) m m'':=by
 refine ⟨(hC.weak (T:=RunG.foot r vcl vo vth q bs) (by simp)).trans hC2 fun i hi _=> ?_,fun j hj=> ?_⟩
 ·simp only[RunG.foot,List.mem_append]
  rcases List.mem_cons.1 hi with rfl|hi
  ·exact Or.inl (by simp[bD])
  ·exact Or.inr (Or.inl hi)
 ·simp only[RunG.foot,List.mem_append,List.map_append,List.flatten_append,List.map_cons,List.map_nil,List.flatten_cons,List.flatten_nil,List.append_nil] at hj ⊢
  rcases hj with hj|hj|hj|hj|hj
  ·exact Or.inl (Or.inl hj)
  ·exact (hvn j hj).imp (fun q=>Or.inr (Or.inl q)) fun q w=>q (hC.old w)
  ·exact Or.inl (Or.inr (Or.inr (Or.inl hj)))
  ·exact Or.inl (Or.inr (Or.inr (Or.inr hj)))
  ·exact Or.inr (hnew j hj)
theorem RunG.ev0 {m'':NH} (hC:Chg [] m m') (e:EvF (bD r vcl vo) (bD r vcl vo) m' m'') (hnew:∀i∈q.fp,¬am m i):EvF (bD r vcl vo) (RunG.foot r vcl vo .nils q []) m m'':=by
 refine ⟨(e.pre hC).c,fun j hj=> ?_⟩
 simp only[RunG.foot,List.mem_append,ids,List.map_nil,List.flatten_nil,Rm,or_false,false_or] at hj
 exact hj.imp id (hnew j)
theorem RunG.off {S:List D4} (h:RunG f mk p B m r x o vcl vo vth q bs) (hC:Chg S m m') (hS:∀i∈RunG.foot r vcl vo vth q bs,i∉S) (hB:∀i∈S,¬am B i):RunG f mk p B m' r x o vcl vo vth q bs:=by
 have k1:∀i∈bD r vcl vo,i∉S:=fun i hi=>hS i (by simp only[RunG.foot,List.mem_append];exact Or.inl hi)
 have k2:∀i∈ids vth,i∉S:=fun i hi=>hS i (by simp only[RunG.foot,List.mem_append];exact Or.inr (Or.inl hi))
 have k3:∀i∈q.fp,i∉S:=fun i hi=>hS i (by simp only[RunG.foot,List.mem_append];exact Or.inr (Or.inr (Or.inl hi)))
 have k4:∀t∈bs,∀i∈t.fp,i∉S:=fun t ht i hi=>hS i (by simp only[RunG.foot,List.mem_append];exact Or.inr (Or.inr (Or.inr (List.mem_flatten.2 ⟨_,List.mem_map_of_mem ht,hi⟩))))
 exact ⟨h.mc.off hC k1 hB,h.rb.off hC k3 hB,h.rk,h.tv.chg hC k2,h.ln,fun j t y h1 h2=>⟨(h.tb j t y h1 h2).1.off hC (k4 t (List.mem_of_getElem? h1)) hB,(h.tb j t y h1 h2).2⟩,h.d0,h.d1,h.d2,h.d3,h.zk,h.ol⟩
end
theorem Ob {cs:List (List Nat×Int)} {ns:List (List Nat)}:∀(k:Nat) (x:Bd) (z:Mc),(qX cs ns k x z).1=false->(qX cs ns k x z).2.1.s≠0:=by
 intro k
 induction k with
 |zero=>
  intro x z h
  rw[qX] at h ⊢
  split<;>simp
 |succ k ih=>
  intro x z h
  rw[qX] at h ⊢
  split
  ·simp
  ·rename_i y K hT
   simp only[hT] at h
   split
   ·rename_i hA;rw[Rj hA] at h;cases h
   ·rename_i hA;rw[Ri hA] at h;exact ih _ _ h
theorem ry {cs:List (List Nat×Int)} {ns:List (List Nat)} {x:Bd} {z:Mc} (h:(bZ cs ns x z).1=false):(bZ cs ns x z).2.1.s≠0:=by
 unfold bZ at h ⊢
 split
 ·rename_i hs;rw[Rj hs] at h;exact Ob _ _ _ h
 ·assumption
section
variable {f f':NV->NV->Bool->List NV} {mk:NV->NV->NV->Int->List NV} {p:Prg} {B m m':NH} {vc vt vr vcl vo vth:NV} {r:D4} {x:Rn} {o:Nat} {q:Bl} {bs:List Bl}
theorem Mac.refit {z:Mc} (h:Mac f B m r vcl vo z) (hg:m'.get r=some (.cells true (f' vcl vo z.ill))) (hC:Chg [r] m m'):Mac f' B m' r vcl vo z/\EvF (bD r vcl vo) (bD r vcl vo) m m':=by
 have hn:∀{v:NV},r∉ids v->∀i∈ids v,i∉ [r]:=fun hb i hi q=>by have q:=one q;subst q;exact hb hi
 exact ⟨⟨hg,hC.old h.o,h.nB,h.cl.chg hC (hn h.d.1),h.ou.chg hC (hn h.d.2.1),h.d,h.c.trans hC fun i hi ho=>by have hi:=one hi;subst hi;exact Rh ho h.nB⟩,hC.weak fun i hi _=>by have hi:=one hi;subst hi;simp[bD],fun j hj=>Or.inl hj⟩
theorem RunG.start (h:RunG f mk p B m r x o vcl vo vth q bs) (ph:Bool) (hg:m'.get r=some (.cells true (f' vcl vo x.z.ill))) (hC:Chg [r] m m'):RunG f' mk p B m' r ⟨ph,x.rc,x.th,x.z⟩ o vcl vo vth q bs/\EvF (RunG.foot r vcl vo vth q bs) (RunG.foot r vcl vo vth q bs) m m':=by
 obtain ⟨h1,h2⟩:=h.mc.refit (f':=f') hg hC
 have hF:∀i∈bD r vcl vo,¬am B i:=fun i hi=>(h.mc.old i hi).2
 exact ⟨⟨h1,h.rb.ev h2 (fun i hi u=>(h.d0 i u).2.1 hi) hF,h.rk,h.tv.chg h2.c fun i hi u=>(h.d0 i u).1 hi,h.ln,fun j t y a b=>⟨(h.tb j t y a b).1.ev h2 (fun i hi u=>(h.d0 i u).2.2 t (List.mem_of_getElem? a) hi) hF,(h.tb j t y a b).2⟩,h.d0,h.d1,h.d2,h.d3,h.zk,h.ol⟩,RunG.evM h2⟩
theorem RunG.goR (h:RunG f mk p B m r x o vcl vo vth q bs):ct f mk B m m p.cs (locals p.r) r q.b (bD r vcl vo++q.fp) vcl vo q.pl q.nm q.vv x.rc x.z o:=
 ⟨h.mc,h.rb,fun i hi=>(h.d0 i hi).2.1,h.rk,h.zk,h.ol,EvF.refl m⟩
theorem RunG.goT (h:RunG f mk p B m r x o vcl vo vth q bs) {k:Nat} {t:Bl} {y:Bd} (h1:bs[k]? =some t) (h2:x.th[k]? =some y):ct f mk B m m p.cs (locals (dk p k)) r t.b (bD r vcl vo++t.fp) vcl vo t.pl t.nm t.vv y x.z o:=
 ⟨h.mc,(h.tb k t y h1 h2).1,fun i hi=>(h.d0 i hi).2.2 t (List.mem_of_getElem? h1),(h.tb k t y h1 h2).2,h.zk,h.ol,EvF.refl m⟩
theorem DQ (hc:RunC p B vc vt vr) (ho:o<=1000000) (h:fE p B vc vt vr m r x o vcl vo vth q bs) {k:Nat} (hk:k<x.th.length):
 ∃t,bs[k]? =some t/\(∃id off w c,fU 1 vth (ii (k:Nat))= .val (.ptr id off)/\m.get id=some (.cells w c)/\c[off]? =some (.ptr t.b 0))/\∃m',aS Tryz.prog S0 58 [.ptr r 0,.ptr t.b 0] m (ii (if (bZ p.cs (locals (dk p k)) ((x.th[k]?).getD (fT [])) x.z).1=true then 0 else (bZ p.cs (locals (dk p k)) ((x.th[k]?).getD (fT [])) x.z).2.1.s)) m'/\∃vo' bs',fE p B vc vt vr m' r ⟨x.ph,x.rc,x.th.set k (bZ p.cs (locals (dk p k)) ((x.th[k]?).getD (fT [])) x.z).2.1,(bZ p.cs (locals (dk p k)) ((x.th[k]?).getD (fT [])) x.z).2.2⟩ (o+1) vcl vo' vth q bs'/\EvF (RunG.foot r vcl vo vth q bs) (RunG.foot r vcl vo' vth q bs') m m':=by
 have hkb:k<bs.length:=by rw[h.ln.1,←h.ln.2];exact hk
 have h1:=List.getElem?_eq_getElem hkb
 have h2:=List.getElem?_eq_getElem hk
 obtain ⟨id,off,w,c,a1,a2,a3,a4,a5⟩:=h.tv.sl.at k (by simpa using hkb)
 rw[List.getElem_map] at a5
 rw[h2]
 simp only[Option.getD_some]
 obtain ⟨m1,r1,vo',pl',hG⟩:=IT hc.rp.c hc.cs ho (h.goT h1 h2)
 exact ⟨bs[k],h1,⟨id,off,w,c,a1,a2,aA a5 0 (by omega)⟩,m1,r1,vo',_,h.thread h1 hG,RunG.evT h1 hG.ev⟩
theorem Kh (hc:RunC p B vc vt vr) (ho:o+1<=1000000) (h:fE p B vc vt vr m r x o vcl vo vth q bs) (c:Int):
 ∃m',aS Tryz.prog S0 31 [.ptr r 0,ii c] m (.bool (iH p c x).1) m'/\∃vo' q' bs',fE p B vc vt vr m' r (iH p c x).2 (o+2) vcl vo' vth q' bs'/\EvF (RunG.foot r vcl vo vth q bs) (RunG.foot r vcl vo' vth q' bs') m m':=by
 refine WF.ex1 fun K' hK'=> ?_
 refine WF.of_wpG (fun _=>rfl) zx (L:= [(.a .e,ii c),(.e,.ptr r 0)]) rfl ?_
 unfold Ld
 have g:=h.mc.g
 have hlen:=h.tv.sl.len
 rw[List.length_map,h.ln.1,←h.ln.2] at hlen
 have more:∀{x:Rn} {o o':Nat} {vo:NV} {q:Bl} {bs:List Bl} {m:NH},o<=o'->fE p B vc vt vr m r x o vcl vo vth q bs->fE p B vc vt vr m r x o' vcl vo vth q bs:=fun ho h=>⟨h.mc,h.rb,h.rk,h.tv,h.ln,h.tb,h.d0,h.d1,h.d2,h.d3,h.zk,Nat.le_trans h.ol ho⟩
 have hnt:=hc.nt
 have hln:=h.ln.2
 unfold iH at hK'
 by_cases hph:x.ph=true
 ·obtain ⟨ph,rc,th,z⟩:=x
  simp only at hph hK' hlen hln g
  subst hph
  simp only[if_true] at hK'
  unfold BZ at hK'
  by_cases hcc:0<=c/\c<th.length
  ·simp only[Rj hcc] at hK'
   obtain ⟨k,rfl⟩:=Rr hcc.1
   simp only[Int.toNat_natCast] at hK'
   obtain ⟨t,ht,⟨id,off,w,cc,a1,a2,a3⟩,m1,r1,vo1,bs1,h1,e1⟩:=DQ hc (by omega) h (k:=k) (by simpa using hcc.2)
   simp only at r1 h1
   rw[aa]
   cases hb:(bZ p.cs (locals (dk p k)) ((th[k]?).getD (fT [])) z).1 with
   |true=>
    rw[hb] at r1 hK'
    simp only[if_true] at r1
    simp (disch:=first|assumption|omega) only[go_sem,seval,g,hlen,a1,a2,a3,r1.wf']
    exact hK' _ ⟨vo1,q,bs1,more (by omega) h1,e1⟩
   |false=>
    have hs:=ry hb
    rw[hb] at r1 hK'
    simp only[reduceCtorEq,if_false] at r1
    simp (disch:=first|assumption|omega) only[go_sem,seval,g,hlen,a1,a2,a3,r1.wf']
    exact hK' _ ⟨vo1,q,bs1,more (by omega) h1,e1⟩
  ·simp only[Ri hcc] at hK'
   rw[aa]
   by_cases h0:0<=c
   ·have h3:¬c<th.length:=fun q=>hcc ⟨h0,q⟩
    simp (disch:=first|assumption|omega) only[go_sem,seval,g,hlen]
    exact hK' _ ⟨vo,q,bs,more (by omega) h,EvF.refl m⟩
   ·simp (disch:=first|assumption|omega) only[go_sem,seval,g,hlen]
    exact hK' _ ⟨vo,q,bs,more (by omega) h,EvF.refl m⟩
 ·have hph:x.ph=false:=by simpa using hph
  simp only[hph,Bool.false_eq_true,if_false] at hK'
  obtain ⟨m1,r1,vo1,pl1,hG⟩:=IT hc.rp.c hc.cs (by omega) h.goR
  have h1:=h.recov hG
  have e1:EvF (RunG.foot r vcl vo vth q bs) (RunG.foot r vcl vo1 vth ⟨q.b,pl1,q.nm,q.vv⟩ bs) m m1:=RunG.evR hG.ev
  rw[hph] at h1 g
  have h1:fE p B vc vt vr m1 r ⟨false,(bZ p.cs (locals p.r) x.rc x.z).2.1,x.th,(bZ p.cs (locals p.r) x.rc x.z).2.2⟩ (o+1) vcl vo1 vth ⟨q.b,pl1,q.nm,q.vv⟩ bs:=h1
  rw[aa]
  cases hb:(bZ p.cs (locals p.r) x.rc x.z).1 with
  |true=>
   rw[hb] at r1
   simp only[if_true] at r1
   rw[Rj hb] at hK'
   simp (disch:=first|assumption|omega) only[go_sem,seval,g,r1.wf']
   exact hK' _ ⟨vo1,⟨q.b,pl1,q.nm,q.vv⟩,bs,more (o:=o+1) (o':=o+2) (by omega) h1,e1⟩
  |false=>
   have hs:=ry hb
   rw[hb] at r1
   simp only[reduceCtorEq,if_false] at r1
   rw[Ri (by rw[hb];simp)] at hK'
   by_cases h2:(bZ p.cs (locals p.r) x.rc x.z).2.1.s=2
   ·rw[Rj h2] at hK'
    rw[h2] at r1
    simp (disch:=first|assumption|omega) only[go_sem,seval,g,r1.wf']
    exact hK' _ ⟨vo1,⟨q.b,pl1,q.nm,q.vv⟩,bs,more (o:=o+1) (o':=o+2) (by omega) h1,e1⟩
   ·rw[Ri h2] at hK'
    have g1:=h1.mc.g
    have oM:=h1.mc.o
    simp only at g1
    generalize bZ p.cs (locals p.r) x.rc x.z=R at *
    obtain ⟨R1,rc,z⟩:=R
    simp only at *
    have hmM:∃M,M=hp [(.o r,.cells true (fP vc vt vr (.ptr q.b 0) vth true vcl vo1 z.ill))] 0 m1:=⟨_,rfl⟩
    obtain ⟨M,hM⟩:=hmM
    have hqe:fE p B vc vt vr M r ⟨true,rc,x.th,z⟩ (o+1) vcl vo1 vth ⟨q.b,pl1,q.nm,q.vv⟩ bs/\EvF (RunG.foot r vcl vo1 vth ⟨q.b,pl1,q.nm,q.vv⟩ bs) (RunG.foot r vcl vo1 vth ⟨q.b,pl1,q.nm,q.vv⟩ bs) m1 M:=h1.start (f':=fP vc vt vr (.ptr q.b 0) vth true) (m':=M) true (by rw[hM];exact (aF oM).trans ap) (by rw[hM];exact (cE _ _ _).weak (by simp[aB]))
    obtain ⟨hq,eS⟩:=hqe
    have eM:=e1.trans eS
    have gM:=hq.mc.g
    have hlenM:=hq.tv.sl.len
    rw[List.length_map,hq.ln.1,←hq.ln.2] at hlenM
    unfold BZ at hK'
    by_cases hcc:0<=c/\c<x.th.length
    ·simp only[Rj hcc] at hK'
     obtain ⟨k,rfl⟩:=Rr hcc.1
     simp only[Int.toNat_natCast] at hK'
     obtain ⟨t,ht,⟨id,off,w,cc,a1,a2,a3⟩,m2,r2,vo2,bs2,h2',e2⟩:=DQ hc (by omega) hq (k:=k) (by simpa using hcc.2)
     simp only at r2 h2'
     cases hb2:(bZ p.cs (locals (dk p k)) ((x.th[k]?).getD (fT [])) z).1 with
     |true=>
      rw[hb2] at r2 hK'
      simp only[if_true] at r2
      simp (disch:=first|assumption|omega|(simp only[aI]<;>omega)) only[go_sem,seval,g,r1.wf,g1,hM.symm,gM,hlenM,a1,a2,a3,r2.wf']
      exact hK' _ ⟨vo2,_,bs2,more (by omega) h2',eM.trans e2⟩
     |false=>
      have hs2:=ry hb2
      rw[hb2] at r2 hK'
      simp only[reduceCtorEq,if_false] at r2
      simp (disch:=first|assumption|omega|(simp only[aI]<;>omega)) only[go_sem,seval,g,r1.wf,g1,hM.symm,gM,hlenM,a1,a2,a3,r2.wf']
      exact hK' _ ⟨vo2,_,bs2,more (by omega) h2',eM.trans e2⟩
    ·simp only[Ri hcc] at hK'
     by_cases h0:0<=c
     ·have h3:¬c<x.th.length:=fun q=>hcc ⟨h0,q⟩
      simp (disch:=first|assumption|omega|(simp only[aI]<;>omega)) only[go_sem,seval,g,r1.wf,g1,hM.symm,gM,hlenM]
      exact hK' _ ⟨vo1,_,bs,more (by omega) hq,eM⟩
     ·simp (disch:=first|assumption|omega|(simp only[aI]<;>omega)) only[go_sem,seval,g,r1.wf,g1,hM.symm,gM,hlenM]
      exact hK' _ ⟨vo1,_,bs,more (by omega) hq,eM⟩
end
section
variable {f f':NV->NV->Bool->List NV} {mk:NV->NV->NV->Int->List NV} {p:Prg} {B m m' m'':NH} {vc vt vr vcl vo vth rec:NV} {r:D4} {x:Rn} {z:Mc} {o:Nat} {q:Bl} {bs:List Bl} {st:Bool}
theorem rF {cs:List (List Nat×Int)} {l:List Stm} (hz:cI l<=400000) (hg:∀s∈l,Gs cs s):BdOk cs (locals l) (fT l):=by
 have:=lZ l
 refine ⟨by show cI l<=1000000;omega,fun y hy=> ?_,fun y hy=> ?_,fun y hy=> ?_,by omega,by simp[fT]⟩
 ·simp only[fT,List.mem_singleton] at hy;subst hy;exact hg
 ·simp only[fT,List.mem_singleton] at hy;subst hy;exact Nat.zero_le _
 ·simp only[fT,List.mem_replicate] at hy;rw[hy.2];exact ⟨by simp,by simp⟩
theorem RunG.snoc {cs:List (List Nat×Int)} {ts:List (List Nat×List Stm)} {rr:List Stm} {n:List Nat} {l:List Stm} {t:Bl} {vth':NV} (h:RunG f mk ⟨cs,ts,rr⟩ B m r x o vcl vo vth q bs) (hC:Chg [] m m') (ht:Bod mk B m' t.b t.pl t.nm t.vv (locals l) (fT l)) (hk:BdOk cs (locals l) (fT l)) (hnew:∀i∈t.fp,¬am m i)
 (hC2:Chg (r::ids vth) m' m'') (hg:m''.get r=some (.cells true (f' vcl vo x.z.ill))) (hv:aU B m'' vth' 1 ((bs++ [t]).map fun t=> [.ptr t.b 0])) (hvn:∀i∈ids vth',i∈ids vth∨¬am m' i):
 RunG f' mk ⟨cs,ts++ [(n,l)],rr⟩ B m'' r ⟨x.ph,x.rc,x.th++ [fT l],x.z⟩ o vcl vo vth' q (bs++ [t]):=by
 have h':=h.grow hC
 have hF:∀i∈r::ids vth,¬am B i:=fun i hi=>(List.mem_cons.1 hi).elim (fun e=>e▸h.mc.nB) fun u=>h.tv.new i u
 have nt:∀i,am m i->i∉t.fp:=fun i ho hi=>hnew i hi ho
 have hvo:∀i∈ids vth,am m i:=h.tv.sl.old
 have hr:=h.mc.o
 have nr:∀i∈ids vcl,i∉r::ids vth:=fun i hi u=>(List.mem_cons.1 u).elim (fun e=>h.mc.d.1 (e▸hi)) fun u=>(h.d0 i (by simp[bD,hi])).1 u
 have nr2:∀i∈ids vo,i∉r::ids vth:=fun i hi u=>(List.mem_cons.1 u).elim (fun e=>h.mc.d.2.1 (e▸hi)) fun u=>(h.d0 i (by simp[bD,hi])).1 u
 have nq:∀i∈q.fp,i∉r::ids vth:=fun i hi u=>(List.mem_cons.1 u).elim (fun e=>(h.d0 r (by simp[bD])).2.1 (e▸hi)) fun u=>(h.d1 i u).1 hi
 have nb:∀u∈bs,∀i∈u.fp,i∉r::ids vth:=fun u hu i hi w=>(List.mem_cons.1 w).elim (fun e=>(h.d0 r (by simp[bD])).2.2 u hu (e▸hi)) fun w=>(h.d1 i w).2 u hu hi
 have ntf:∀i∈t.fp,i∉r::ids vth:=fun i hi u=>(List.mem_cons.1 u).elim (fun e=>hnew i hi (e▸hr)) fun u=>hnew i hi (hvo i u)
 have hto:∀i∈t.fp,am m' i:=fun i hi=>(ht.old i hi).1
 have hMo:∀i∈bD r vcl vo,am m i:=fun i hi=>(h.mc.old i hi).1
 have hqo:∀i∈q.fp,am m i:=fun i hi=>(h.rb.old i hi).1
 have hbo:∀u∈bs,∀i∈u.fp,am m i:=fun u hu i hi=>(h.told hu i hi).1
 have hbt:∀(j:Nat),j<ts.length->dk ⟨cs,ts++ [(n,l)],rr⟩ j=dk ⟨cs,ts,rr⟩ j:=fun j hj=>by unfold dk;simp only;rw[List.getElem?_append_left hj]
 have hln:=h.ln
 simp only at hln
 refine ⟨⟨hg,hC2.old h'.mc.o,h.mc.nB,h'.mc.cl.chg hC2 nr,h'.mc.ou.chg hC2 nr2,h.mc.d,h'.mc.c.trans hC2 fun i hi ho=>Rh ho (hF i hi)⟩,h'.rb.off hC2 nq hF,h.rk,hv,by simp[hln],fun j u y h1 h2=> ?_,fun i hi=>⟨fun u=>(hvn i u).elim (h.d0 i hi).1 fun w=>w (hC.old (hMo i hi)),(h.d0 i hi).2.1,fun u hu=> ?_⟩,fun i hi=>⟨fun u=>(hvn i hi).elim (fun w=>(h.d1 i w).1 u) fun w=>w (hC.old (hqo i u)),fun u hu w=> ?_⟩,fun i hi u hu=> ?_,fun j k u w h1 h2 hne i hi hw=> ?_,h.zk,h.ol⟩
 ·by_cases hj:j<bs.length
  ·rw[List.getElem?_append_left hj] at h1
   simp only at h2
   rw[List.getElem?_append_left (by omega)] at h2
   rw[hbt j (by omega)]
   obtain ⟨a,b⟩:=h'.tb j u y h1 h2
   exact ⟨a.off hC2 (nb u (List.mem_of_getElem? h1)) hF,b⟩
  ·rw[List.getElem?_append_right (by omega)] at h1
   simp only at h2
   rw[List.getElem?_append_right (by omega)] at h2
   have hl:=(List.getElem?_eq_some_iff.1 h1).1
   simp only[List.length_singleton] at hl
   have e:j=bs.length:=by omega
   subst e
   rw[show bs.length - x.th.length=0 by omega] at h2
   rw[Nat.sub_self] at h1
   cases h1;cases h2
   have eb:dk ⟨cs,ts++ [(n,l)],rr⟩ bs.length=l:=by unfold dk;simp[hln.1]
   rw[eb]
   exact ⟨ht.off hC2 ntf hF,hk⟩
 ·rcases List.mem_append.1 hu with hu|hu
  ·exact (h.d0 i hi).2.2 u hu
  ·rw[List.mem_singleton] at hu;subst hu;exact nt i (hMo i hi)
 ·rcases List.mem_append.1 hu with hu|hu
  ·exact (hvn i hi).elim (fun a=>(h.d1 i a).2 u hu w) fun a=>a (hC.old (hbo u hu i w))
  ·rw[List.mem_singleton] at hu;subst hu
   exact (hvn i hi).elim (fun a=>hnew i w (hvo i a)) fun a=>a (hto i w)
 ·rcases List.mem_append.1 hu with hu|hu
  ·exact h.d2 i hi u hu
  ·rw[List.mem_singleton] at hu;subst hu;exact nt i (hqo i hi)
 ·have key:∀(j:Nat) (u:Bl),(bs++ [t])[j]? =some u->bs[j]? =some u∨(j=bs.length/\u=t):=fun j u hj=>by
   by_cases hl:j<bs.length
   ·rw[List.getElem?_append_left hl] at hj;exact Or.inl hj
   ·rw[List.getElem?_append_right (by omega)] at hj
    have hl2:=(List.getElem?_eq_some_iff.1 hj).1
    simp only[List.length_singleton] at hl2
    have e:j=bs.length:=by omega
    subst e
    rw[Nat.sub_self] at hj
    cases hj
    exact Or.inr ⟨rfl,rfl⟩
  rcases key j u h1 with a|⟨a,rfl⟩
  ·rcases key k w h2 with b|⟨b,rfl⟩
   ·exact h.d3 j k u w a b hne i hi hw
   ·exact nt i (hbo u (List.mem_of_getElem? a) i hi) hw
  ·rcases key k w h2 with b|⟨b,rfl⟩
   ·exact nt i (hbo w (List.mem_of_getElem? b) i hw) hi
   ·omega
theorem uR (hc:RunC p B vc vt vr) (h:Mac (fP vc vt vr rec vth st) B m r vcl vo z) (hz:McOk p.cs z) (ho:z.out.length<=o):
 ∃m',aS Tryz.prog S0 57 [.ptr r 0] m (.tup []) m'/\∃vth' q bs,fE p B vc vt vr m' r (jJ p z) o vcl vo vth' q bs/\EvF (bD r vcl vo) (RunG.foot r vcl vo vth' q bs) m m':=by
 refine WF.ex1 fun K' hK'=> ?_
 refine WF.of_wpG (fun _=>rfl) y7 (L:= [(.e,.ptr r 0)]) rfl ?_
 unfold LG
 obtain ⟨CR,hR⟩:=hc.rp.r
 obtain ⟨CT,hT⟩:=hc.rp.t
 have hzr:=hc.zr
 have hnt:=hc.nt
 have g:=h.g
 obtain ⟨w,m1,r1,b,pl,nm,vv,rfl,hb,hC1,hnew⟩:=Af h.c hR (by omega)
 have h1:=h.grow hC1
 have g1:=h1.g
 have o1:=h1.o
 have hlt:=hT.sl.len
 rw[hT.len] at hlt
 rw[aa]
 simp (disch:=first|assumption|omega|(simp only[aI]<;>omega)) only[go_sem,seval,g,r1.wf,g1,hlt]
 generalize hM2:hp _ 0 m1=M2
 obtain ⟨hm2,e2⟩:=h1.refit (f':=fP vc vt vr (.ptr b 0) .nils false) (m':=M2) (gL o1 hM2) (jR hM2 (by simp[aB]))
 have hF:∀i∈bD r vcl vo,¬am B i:=fun i hi=>(h.old i hi).2
 have hd:∀i∈bD r vcl vo,i∉bU b pl nm vv:=fun i hi u=>hnew i u (h.old i hi).1
 have h0:fE ⟨p.cs,p.ts.take 0,p.r⟩ B vc vt vr M2 r ⟨false,fT p.r,(p.ts.take 0).map (fun t=>fT t.2),z⟩ o vcl vo .nils ⟨b,pl,nm,vv⟩ []:=
  ⟨hm2,hb.ev e2 (fun i hi u=>hd i u hi) hF,rF hzr hc.gr,aU.nil,by simp,by simp,fun i hi=>⟨by simp[ids],hd i hi,by simp⟩,by simp[ids],by simp,by simp,hz,ho⟩
 have hE0:EvF (bD r vcl vo) (RunG.foot r vcl vo .nils ⟨b,pl,nm,vv⟩ []) m M2:=RunG.ev0 hC1 e2 hnew
 refine W.loop (fun k d=>∃t M i vth q bs,d=⟨t, [],none,M⟩/\NT.get D4.e t=some (.ptr r 0)/\NT.get D4.e.a.a.c t=some vt/\NT.get D4.e.a.a.f t=some (ii (p.ts.length:Nat))/\NT.get D4.e.a.b.a t=some (ii (i:Nat))/\i+k=p.ts.length/\fE ⟨p.cs,p.ts.take i,p.r⟩ B vc vt vr M r ⟨false,fT p.r,(p.ts.take i).map (fun t=>fT t.2),z⟩ o vcl vo vth q bs/\EvF (bD r vcl vo) (RunG.foot r vcl vo vth q bs) m M) ?_ p.ts.length _ ⟨_,M2,0,.nils,_, [],rfl,by simp only[go_sem,seval],by simp only[go_sem,seval],by simp only[go_sem,seval],by simp only[go_sem,seval]<;>rfl,by omega,h0,hE0⟩
 clear h0 hE0 hm2 e2 hb h1 r1 g1 o1 hC1 hnew hd g h
 rintro k d ⟨t,M,i,vth,q,bs,rfl,t1,t2,t3,t4,hik,h,hE⟩
 apply ao
 unfold zi
 change wp _ _ _ _ ⟨ai [] t, [],none,M⟩ _
 by_cases hi:i<p.ts.length
 ·obtain ⟨vb,E,id,off,wr,c,hS,a1,a2,a3,a4,a5⟩:=hT.at i hi
  have a2M:=(h.mc.c.get a3 (by simp)).trans a2
  have hzt:=hc.zt _ (List.getElem_mem hi)
  have hvb:=hS.sl.one
  generalize hM1:hp [(.n 0,.cells true [.str p.ts[i].1,vb]),(.n 0,.cells true [.str [],.nils])] 1 M=M1
  have hC1:Chg [] M M1:=ba hM1 rfl
  have gc1:M1.get (na M 0)=some (.cells true [.str p.ts[i].1,vb]):=bz hM1
  have oc1:am M1 (na M 0):=bw hM1 (by omega)
  have hM:=h.mc.grow hC1
  obtain ⟨w,m2,r2,b,pl,nm,vv,rfl,hb,hC2,hnew⟩:=Af hM.c hS (by omega)
  have hM2:=hM.grow hC2
  have g1:=hM.g
  have g2:=hM2.g
  have gc2:=(hC2.get oc1 (by simp)).trans gc1
  have oR:=hM2.o
  have ht1:=h.tv.sl.one
  have htn:=(h.tv.sl.same (n:=3))
  have hvn:=hS.sl.same (n:=3)
  rw[←aa M]
  simp (disch:=first|assumption|omega|(simp only[aI]<;>omega)) only[go_sem,seval,t1,t2,t3,t4,a1,a2M,a5,a4,hvb,hM1,gc1,g1,r2.wf,g2,gc2,htn,hvn]
  have hC3:Chg [] m2 (hp [(.n 0,.cells true [.ptr b 0])] 1 m2):=aC rfl
  have hCM3:=(hC1.trans hC2 (by simp)).trans hC3 (by simp)
  have h3:=h.grow hCM3
  have hbl:bs.length<=1000:=by have:=h.ln.1;simp only[List.length_take] at this;omega
  refine cZ (cs:= [.ptr b 0]) h3.tv bo (bv (by omega)) rfl (fun i hi=>h3.mc.c.old hi) (by simp;omega) (by simp;omega) ?_
  intro vth' M4 hv4 hC4 hF4
  have hrv:r∉ids vth:=fun u=>(h.d1 r u).2 |> fun _=>(h.d0 r (by simp[bD])).1 u
  have g4:=(hC4.get h3.mc.o hrv).trans h3.mc.g
  have o4:=hC4.old h3.mc.o
  have gc4:=(hC4.get (hC3.old (hC2.old oc1)) (fun u=>az (h.tv.sl.old _ u))).trans ((hC3.get (hC2.old oc1) (by simp)).trans gc2)
  have hv1:=hv4.sl.one
  simp (disch:=first|assumption|omega|(simp only[aI]<;>omega)) only[go_sem,seval,aa,g4,gc4,hv1,t1,t4]
  generalize hM5:M4.put r _=M5
  have hM5:M5=hp [(.o r,.cells true (fP vc vt vr (.ptr q.b 0) vth' false vcl vo z.ill))] 0 M4:=by rw[←hM5,←cg o4,aa]
  have hC5:Chg [r] M4 M5:=by rw[hM5];exact (cE _ _ _).weak (by simp[aB])
  have hrv':r∉ids vth':=fun u=>(hF4 r u).elim hrv fun u=>u h3.mc.o
  have hC35:=((hC4.weak (T:=r::ids vth) fun i hi _=>List.mem_cons_of_mem _ hi).trans hC5 fun i hi _=>by have hi:=one hi;subst hi;simp)
  have hE5:=hE.trans (RunG.evS (vcl:=vcl) (vo:=vo) (q:=q) (bs:=bs) (t:=⟨b,pl,nm,vv⟩) hCM3 hC35 hF4 (fun i hi u=>hnew i hi (hC1.old u)))
  have hq:=h.snoc (f':=fP vc vt vr (.ptr q.b 0) vth' false) (n:=p.ts[i].1) (l:=p.ts[i].2) (t:=⟨b,pl,nm,vv⟩) (m':=hp [(.n 0,.cells true [.ptr b 0])] 1 m2) (m'':=M5) (vth':=vth') hCM3 (hb.grow hC3) (rF hzt (hc.gt _ (List.getElem_mem hi))) (fun i hi u=>hnew i hi (hC1.old u)) ((hC4.weak fun i hi _=>List.mem_cons_of_mem _ hi).trans hC5 fun i hi _=>by have hi:=one hi;subst hi;simp) (by rw[hM5];exact (aF o4).trans ap)
   (by
    have:=hv4.chg hC5 fun i hi u=>by have u:=one u;subst u;exact hrv' hi
    rw[List.map_append];exact this) hF4
  have et:p.ts.take i++ [(p.ts[i].1,p.ts[i].2)]=p.ts.take (i+1):=by rw[List.take_add_one,List.getElem?_eq_getElem hi];rfl
  have et2:(p.ts.take i).map (fun t=>fT t.2)++ [fT p.ts[i].2]=(p.ts.take (i+1)).map fun t=>fT t.2:=by rw[←et,List.map_append];rfl
  rw[et] at hq
  simp only[et2] at hq
  exact ⟨k - 1,by omega,_,M5,i+1,vth',q,_,by rfl,by simp only[go_sem,seval,t1],by simp only[go_sem,seval,t2],by simp only[go_sem,seval,t3],by simp only[go_sem,seval]<;>rfl,by omega,hq,hE5⟩
 ·simp (disch:=first|assumption|omega) only[go_sem,seval,t1,t2,t3,t4]
  have e:i=p.ts.length:=by omega
  subst e
  rw[List.take_length] at h
  exact hK' _ ⟨vth,q,bs,h,hE⟩
end
theorem uP:c7 .slc .eql .nils .nils=some (.bool true):=_root_.id rfl
theorem vf {id:D4} {off n e k:Nat}:c7 .slc .eql (.slc id off n e k) .nils=some (.bool false):=_root_.id rfl
theorem IK {m:NH} {v:NV} {C:List (List NV)} (h:Sl m v 1 C) (hl:C.length<=1000001):∃v' m',aS Tryz.prog S0 61 [v] m v' m'/\aU m m' v' 1 C/\Chg [] m m':=by
 refine WF.ex fun K hK=> ?_
 refine WF.of_wpG (fun _=>rfl) zd (L:= [(.e,v)]) rfl ?_
 unfold Ku
 have h':=h
 obtain ⟨h0,⟨rfl,rfl⟩|⟨id,off,kc,w,c,rfl,h1,h2,h3,h4⟩⟩:=h'
 ·simp (disch:=first|assumption|omega) only[go_sem,seval,uP]
  exact hK _ _ ⟨aU.nil,aC rfl⟩
 ·simp (disch:=first|assumption|omega) only[go_sem,seval,vf]
  have hC1:Chg [] m (hp [(.n 0,.cells true [])] 1 m):=aC rfl
  have ho:aU m (hp [(.n 0,.cells true [])] 1 m) (.slc (na m 0) 0 0 1 0) 1 []:=aU.of (by simp) az bo (bv (by omega)) rfl rfl rfl
  by_cases hC:C= []
  ·subst hC
   rw[ho.sl.appNil (h.grew hC1)]
   simp (disch:=first|assumption|omega) only[go_sem,seval]
   exact hK _ _ ⟨ho,hC1⟩
  ·obtain ⟨v',m',e1,e2,e3⟩:=ho.app (bytes:=8) (h.grew hC1) hC (fun i hi=>hC1.old hi) (by simp;omega) (by simp;omega)
   rw[e1]
   simp (disch:=first|assumption|omega) only[go_sem,seval]
   refine hK _ _ ⟨by simpa using e2,hC1.trans e3 fun i hi q=> ?_⟩
   simp only[ids,Rp,Rm,or_false] at hi
   subst hi;exact Rh q az
theorem NN {m:NH} {v:NV} {C:List (List NV)} (h:Sl m v 2 C) (hl:C.length<=1000001):∃v' m',aS Tryz.prog S0 53 [v] m v' m'/\aU m m' v' 2 C/\Chg [] m m':=by
 refine WF.ex fun K hK=> ?_
 refine WF.of_wpG (fun _=>rfl) AB (L:= [(.e,v)]) rfl ?_
 unfold Jh
 have h':=h
 obtain ⟨h0,⟨rfl,rfl⟩|⟨id,off,kc,w,c,rfl,h1,h2,h3,h4⟩⟩:=h'
 ·simp (disch:=first|assumption|omega) only[go_sem,seval,uP]
  exact hK _ _ ⟨aU.nil,aC rfl⟩
 ·simp (disch:=first|assumption|omega) only[go_sem,seval,vf]
  have hC1:Chg [] m (hp [(.n 0,.cells true [])] 1 m):=aC rfl
  have ho:aU m (hp [(.n 0,.cells true [])] 1 m) (.slc (na m 0) 0 0 2 0) 2 []:=aU.of (by simp) az bo (bv (by omega)) rfl rfl rfl
  by_cases hC:C= []
  ·subst hC
   rw[ho.sl.appNil (h.grew hC1)]
   simp (disch:=first|assumption|omega) only[go_sem,seval]
   exact hK _ _ ⟨ho,hC1⟩
  ·obtain ⟨v',m',e1,e2,e3⟩:=ho.app (bytes:=24) (h.grew hC1) hC (fun i hi=>hC1.old hi) (by simp;omega) (by simp;omega)
   rw[e1]
   simp (disch:=first|assumption|omega) only[go_sem,seval]
   refine hK _ _ ⟨by simpa using e2,hC1.trans e3 fun i hi q=> ?_⟩
   simp only[ids,Rp,Rm,or_false] at hi
   subst hi;exact Rh q az
theorem OL {m:NH} {v:NV} {C:List (List NV)} (h:Sl m v 2 C) (hl:C.length<=1000001):∃v' m',aS Tryz.prog S0 54 [v] m v' m'/\aU m m' v' 2 C/\Chg [] m m':=by
 refine WF.ex fun K hK=> ?_
 refine WF.of_wpG (fun _=>rfl) yD (L:= [(.e,v)]) rfl ?_
 unfold L8
 have h':=h
 obtain ⟨h0,⟨rfl,rfl⟩|⟨id,off,kc,w,c,rfl,h1,h2,h3,h4⟩⟩:=h'
 ·simp (disch:=first|assumption|omega) only[go_sem,seval,uP]
  exact hK _ _ ⟨aU.nil,aC rfl⟩
 ·simp (disch:=first|assumption|omega) only[go_sem,seval,vf]
  have hC1:Chg [] m (hp [(.n 0,.cells true [])] 1 m):=aC rfl
  have ho:aU m (hp [(.n 0,.cells true [])] 1 m) (.slc (na m 0) 0 0 2 0) 2 []:=aU.of (by simp) az bo (bv (by omega)) rfl rfl rfl
  by_cases hC:C= []
  ·subst hC
   rw[ho.sl.appNil (h.grew hC1)]
   simp (disch:=first|assumption|omega) only[go_sem,seval]
   exact hK _ _ ⟨ho,hC1⟩
  ·obtain ⟨v',m',e1,e2,e3⟩:=ho.app (bytes:=40) (h.grew hC1) hC (fun i hi=>hC1.old hi) (by simp;omega) (by simp;omega)
   rw[e1]
   simp (disch:=first|assumption|omega) only[go_sem,seval]
   refine hK _ _ ⟨by simpa using e2,hC1.trans e3 fun i hi q=> ?_⟩
   simp only[ids,Rp,Rm,or_false] at hi
   subst hi;exact Rh q az
theorem NS {m:NH} {v:NV} {C:List (List NV)} (h:Sl m v 21 C) (hl:C.length<=1000001):∃v' m',aS Tryz.prog S0 91 [v] m v' m'/\aU m m' v' 21 C/\Chg [] m m':=by
 refine WF.ex fun K hK=> ?_
 refine WF.of_wpG (fun _=>rfl) AC (L:= [(.e,v)]) rfl ?_
 unfold Ka
 have h':=h
 obtain ⟨h0,⟨rfl,rfl⟩|⟨id,off,kc,w,c,rfl,h1,h2,h3,h4⟩⟩:=h'
 ·simp (disch:=first|assumption|omega) only[go_sem,seval,uP]
  exact hK _ _ ⟨aU.nil,aC rfl⟩
 ·simp (disch:=first|assumption|omega) only[go_sem,seval,vf]
  have hC1:Chg [] m (hp [(.n 0,.cells true [])] 1 m):=aC rfl
  have ho:aU m (hp [(.n 0,.cells true [])] 1 m) (.slc (na m 0) 0 0 21 0) 21 []:=aU.of (by simp) az bo (bv (by omega)) rfl rfl rfl
  by_cases hC:C= []
  ·subst hC
   rw[ho.sl.appNil (h.grew hC1)]
   simp (disch:=first|assumption|omega) only[go_sem,seval]
   exact hK _ _ ⟨ho,hC1⟩
  ·obtain ⟨v',m',e1,e2,e3⟩:=ho.app (bytes:=288) (h.grew hC1) hC (fun i hi=>hC1.old hi) (by simp;omega) (by simp;omega)
   rw[e1]
   simp (disch:=first|assumption|omega) only[go_sem,seval]
   refine hK _ _ ⟨by simpa using e2,hC1.trans e3 fun i hi q=> ?_⟩
   simp only[ids,Rp,Rm,or_false] at hi
   subst hi;exact Rh q az
theorem Nk {m:NH} {v:NV} {C:List (List NV)} (h:Sl m v 5 C) (hl:C.length<=1000001):∃v' m',aS Tryz.prog S0 127 [v] m v' m'/\aU m m' v' 5 C/\Chg [] m m':=by
 refine WF.ex fun K hK=> ?_
 refine WF.of_wpG (fun _=>rfl) vj (L:= [(.e,v)]) rfl ?_
 unfold Fj
 have h':=h
 obtain ⟨h0,⟨rfl,rfl⟩|⟨id,off,kc,w,c,rfl,h1,h2,h3,h4⟩⟩:=h'
 ·simp (disch:=first|assumption|omega) only[go_sem,seval,uP]
  exact hK _ _ ⟨aU.nil,aC rfl⟩
 ·simp (disch:=first|assumption|omega) only[go_sem,seval,vf]
  have hC1:Chg [] m (hp [(.n 0,.cells true [])] 1 m):=aC rfl
  have ho:aU m (hp [(.n 0,.cells true [])] 1 m) (.slc (na m 0) 0 0 5 0) 5 []:=aU.of (by simp) az bo (bv (by omega)) rfl rfl rfl
  by_cases hC:C= []
  ·subst hC
   rw[ho.sl.appNil (h.grew hC1)]
   simp (disch:=first|assumption|omega) only[go_sem,seval]
   exact hK _ _ ⟨ho,hC1⟩
  ·obtain ⟨v',m',e1,e2,e3⟩:=ho.app (bytes:=64) (h.grew hC1) hC (fun i hi=>hC1.old hi) (by simp;omega) (by simp;omega)
   rw[e1]
   simp (disch:=first|assumption|omega) only[go_sem,seval]
   refine hK _ _ ⟨by simpa using e2,hC1.trans e3 fun i hi q=> ?_⟩
   simp only[ids,Rp,Rm,or_false] at hi
   subst hi;exact Rh q az
def Rg (x:Ex):Prop:=∀{m0 m:NH} {T:D4->Prop} {c:List NV},RE m0 T x c->aX T m0 m->x.sz<=1000000->∃w m',aS Tryz.prog S0 92 [.agg c] m w m'/\(∃u,w= .agg (x.l u)/\RE m' (fun i=>¬am m i) x (x.l u))/\Chg [] m m'
theorem Mp {ks:List Ex} {x:Ex} (h:x∈ks):x.sz<=jV ks:=by
 induction ks with
 |nil=>simp at h
 |cons y ks ih=>
  rw[jV]
  rcases List.mem_cons.1 h with rfl|h
  ·omega
  ·have:=ih h;omega
structure XsC (m0 M:NH) (T T':D4->Prop) (ks:List Ex) (i:Nat) (C:List (List NV)):Prop where
 n:C.length=ks.length
 a:∀(j:Nat) (x:Ex) (c:List NV),j<i->ks[j]? =some x->C[j]? =some c->RE M T' x c
 b:∀(j:Nat) (x:Ex) (c:List NV),i<=j->ks[j]? =some x->C[j]? =some c->RE m0 T x c
theorem pf:∀x:Ex,Rg x:=by
 apply Ex.ind
 intro k n o s ks ih m0 m T c hR hst hsz
 obtain ⟨vk,C,rfl,hS⟩:=hR.inv
 rw[Ex.sz] at hsz
 have hkl:=nk ks
 refine WF.ex fun K' hK'=> ?_
 refine WF.of_wpG (fun _=>rfl) AM (L:= [(.e,.agg [ii k,u64 n,u8 o,.str s,vk])]) rfl ?_
 unfold KN
 generalize hM1:hp [(.n 1,.cells true [ii 0,iu 0,ib 0,.str [],.nils]),(.n 0,.cells true [ii k,u64 n,u8 o,.str s,vk])] 2 m=M1
 have hC1:Chg [] m M1:=ba hM1 rfl
 have g10:M1.get (na m 0)=some (.cells true [ii k,u64 n,u8 o,.str s,vk]):=bz hM1
 have g11:M1.get (na m 1)=some (.cells true [ii 0,iu 0,ib 0,.str [],.nils]):=bz hM1
 have o10:am M1 (na m 0):=bw hM1 (by omega)
 have o11:am M1 (na m 1):=bw hM1 (by omega)
 have hne:na m 0≠na m 1:=by rw[Ne,mF];omega
 obtain ⟨v1,M2,r2,ho2,hC2⟩:=Nk ((hS.stays (hst.grow hC1)).sl) (by rw[hS.len];omega)
 have g20:=(hC2.get o10 (by simp)).trans g10
 have g21:=(hC2.get o11 (by simp)).trans g11
 have o20:=hC2.old o10
 have o21:=hC2.old o11
 have hvk:=hS.sl.one
 have hv1:=ho2.sl.one
 have hlen:=ho2.sl.len
 rw[hS.len] at hlen
 simp (disch:=first|assumption|omega|(simp only[aI]<;>omega)) only[go_sem,seval,hvk,hM1,g10,r2.wf,g20,hv1,hlen]
 generalize hM3:hp _ 0 M2=M3
 have hC3:Chg [na m 0] M2 M3:=jR hM3 (by simp[aB])
 have g30:M3.get (na m 0)=some (.cells true [ii k,u64 n,u8 o,.str s,v1]):=gL o20 hM3
 have g31:M3.get (na m 1)=some (.cells true [ii 0,iu 0,ib 0,.str [],.nils]):=(hC3.get o21 (by simpa using hne.symm)).trans g21
 have hn1:∀i∈ids v1,¬am M1 i:=ho2.new
 have hCm3:Chg [] m M3:=(hC1.trans hC2 (by simp)).trans hC3 fun i hi q=>by have hi:=one hi;subst hi;exact Rh q az
 have ho3:aU m M3 v1 5 C:=(ho2.chg hC3 fun i hi q=>by have q:=one q;subst q;exact hn1 _ hi o10).back fun i hi=>hC1.old hi
 refine W.loop (fun f d=>∃t M i D,d=⟨t, [],none,M⟩/\NT.get D4.e.a t=some (.ptr (na m 0) 0)/\NT.get D4.e.b t=some (.ptr (na m 1) 0)/\NT.get D4.e.b.b t=some (ii (ks.length:Nat))/\NT.get D4.e.b.c t=some (ii (i:Nat))/\i+f=ks.length/\Chg (na m 0::ids v1) M3 M/\M.get (na m 0)=some (.cells true [ii k,u64 n,u8 o,.str s,v1])/\M.get (na m 1)=some (.cells true [ii 0,iu 0,ib 0,.str [],.nils])/\aU m M v1 5 D/\Chg [] m M/\XsC m0 M T (fun i=>¬am m i/\i∉ids v1/\i≠na m 0/\i≠na m 1) ks i D) ?_ ks.length _ ⟨_,M3,0,C,rfl,by simp only[go_sem,seval],by simp only[go_sem,seval],by simp only[go_sem,seval],by simp only[go_sem,seval]<;>rfl,by omega,(Chg.refl _).weak (by simp),g30,g31,ho3,hCm3,⟨hS.len,fun j x c h=>by omega,fun j x c _=>hS.R j x c⟩⟩
 have o30:am M3 (na m 0):=hC3.old o20
 have o31:am M3 (na m 1):=hC3.old o21
 clear ho2 ho3 r2 g10 g11 g20 g21 hlen
 rintro f d ⟨t,M,i,D,rfl,t1,t2,t3,t4,hif,hCM,gM0,gM1,ho,hC,hX⟩
 apply ao
 unfold Ai
 change wp _ _ _ _ ⟨ai [] t, [],none,M⟩ _
 have oM0:=hCM.old o30
 have oM1:=hCM.old o31
 by_cases hi:i<ks.length
 ·have hiD:i<D.length:=by rw[hX.n];exact hi
  obtain ⟨id,off,cc,a1,a2,a3,a4,a5,a6,a7,a8⟩:=ho.at_all i hiD
  have hRi:=hX.b i _ _ (Nat.le_refl _) (List.getElem?_eq_getElem hi) (List.getElem?_eq_getElem hiD)
  have hsi:=Mp (List.getElem_mem hi)
  obtain ⟨w,M4,r4,⟨u,rfl,hR4⟩,hC4⟩:=ih _ (List.getElem_mem hi) hRi (hst.grow hC) (by omega)
  have g40:=(hC4.get oM0 (by simp)).trans gM0
  have g41:=(hC4.get oM1 (by simp)).trans gM1
  have a44:=(hC4.get a5 (by simp)).trans a4
  have ido:am M4 id:=hC4.old a5
  have hid0:na m 0≠id:=fun e=>hn1 id (by rw[a2];simp) (e▸o10)
  have hid1:na m 1≠id:=fun e=>hn1 id (by rw[a2];simp) (e▸o11)
  obtain ⟨uu,Cu,ed,-⟩:=hRi.inv'
  have hsD:bj 4 (.agg D[i]) (.agg D[i])=true:=by rw[ed];exact cD (ed▸hRi)
  have hv1s:=ho.sl.same (n:=3)
  simp (disch:=first|assumption|omega|(simp only[aI]<;>omega)) only[go_sem,seval,t1,t2,t3,t4,gM0,a1,a4,a7,r4.wf',g40,a44,hsD,hv1s]
  generalize hM5:M4.put id _=M5
  have hM5:M5=hp [(.o id,.cells true (cc.take off++ks[i].l u++cc.drop (off+5)))] 0 M4:=by rw[←hM5,←cg ido,aa]
  have hC5:Chg [id] M4 M5:=by rw[hM5];exact (cE _ _ _).weak (by simp[aB])
  have idm:¬am m id:=a3
  have hCM5:Chg [id] M M5:=(hC4.weak (by simp)).trans hC5 fun i hi _=>hi
  refine ⟨f - 1,by omega,_,M5,i+1,D.set i (ks[i].l u),by rfl,by simp only[go_sem,seval,t1],by simp only[go_sem,seval,t2],by simp only[go_sem,seval,t3],by simp only[go_sem,seval]<;>rfl,by omega,hCM.trans hCM5 (fun i hi _=>by have hi:=one hi;subst hi;simp[a2]),(hCM5.get oM0 (by simpa using hid0)).trans gM0,(hCM5.get oM1 (by simpa using hid1)).trans gM1,a8 _ _ rfl (by rw[hM5];exact (aF ido).trans ap) (by rw[hM5];exact bJ ido),hC.trans hCM5 fun i hi q=>by have hi:=one hi;subst hi;exact Rh q idm,⟨by simp[hX.n],fun j x c hj h1 h2=> ?_,fun j x c hj h1 h2=> ?_⟩⟩
  ·by_cases e:j=i
   ·subst e
    rw[List.getElem?_set_self hiD] at h2
    rw[List.getElem?_eq_getElem hi] at h1
    cases h1;cases h2
    refine (hR4.weak (T':=fun j=>¬am m j/\j∉ids v1/\j≠na m 0/\j≠na m 1) fun j q=>⟨fun w=>q (hC.old w),fun w=>q (ho.sl.old j w),fun w=>q (w▸oM0),fun w=>q (w▸oM1)⟩).stays (aX.of hC5 fun j q w=> ?_)
    simp only[Rp,Rm,or_false] at w
    exact q.2.1 (by rw[a2,w];simp)
   ·rw[List.getElem?_set_ne (fun a=>e a.symm)] at h2
    refine (hX.a j x c (by omega) h1 h2).stays (aX.of hCM5 fun j q w=> ?_)
    simp only[Rp,Rm,or_false] at w
    exact q.2.1 (by rw[a2,w];simp)
  ·rw[List.getElem?_set_ne (by omega)] at h2
   exact hX.b j x c (by omega) h1 h2
 ·rw[←aa M]
  simp (disch:=first|assumption|omega|(simp only[aI]<;>omega)) only[go_sem,seval,t1,t2,t3,t4,gM0,gM1]
  generalize hM5:hp _ 0 M=M5
  have hC5:Chg [na m 1] M M5:=jR hM5 (by simp[aB])
  have e:i=ks.length:=by omega
  subst e
  refine hK' _ _ ⟨⟨v1,rfl,RE.of (C:=D) ⟨?_,fun i hi q=>hn1 i hi (hC1.old q),hX.n,fun j x c h1 h2=> ?_⟩⟩,hC.trans hC5 fun i hi q=>by have hi:=one hi;subst hi;exact Rh q az⟩
  ·exact ho.sl.chg hC5 fun i hi q=>by have q:=one q;subst q;exact hn1 _ hi o11
  ·have hj:=(List.getElem?_eq_some_iff.1 h1).1
   refine ((hX.a j x c hj h1 h2).stays (aX.of hC5 fun j q w=> ?_)).weak fun j q=>q.1
   simp only[Rp,Rm,or_false] at w
   exact q.2.2.2 w
theorem PN {c P Q Q' R:List NV} {off j n e:Nat} (h:(c.drop off).take e=P++Q++R) (hP:P.length=j) (hQ:Q.length=n) (hQ':Q'.length=n) (he:j+n+R.length=e) (hc:off+e<=c.length):
 ∃d,c.take (off+j)++Q'++c.drop (off+j+n)=d/\d.length=c.length/\(d.drop off).take e=P++Q'++R/\d.take off=c.take off/\d.drop (off+e)=c.drop (off+e):=by
 have hsp:c=c.take off++(P++Q++R)++c.drop (off+e):=by
  rw[←h]
  conv=>lhs;rw[←List.take_append_drop off c,←List.take_append_drop e (c.drop off),List.drop_drop]
  rw[List.append_assoc]
 have hA:(c.take off).length=off:=by rw[List.length_take];omega
 generalize c.take off=A at hsp hA
 generalize c.drop (off+e)=Z at hsp
 subst hsp
 subst hA
 have e1:(A++(P++Q++R)++Z).take (A.length+j)=A++P:=by
  rw[show A++(P++Q++R)++Z=(A++P)++(Q++(R++Z)) by simp,show A.length+j=(A++P).length by simp[hP],List.take_left]
 have e2:(A++(P++Q++R)++Z).drop (A.length+j+n)=R++Z:=by
  rw[show A++(P++Q++R)++Z=(A++P++Q)++(R++Z) by simp,show A.length+j+n=(A++P++Q).length by simp[hP,hQ];omega,List.drop_left]
 have e3:A++P++Q'++(R++Z)=A++((P++Q'++R)++Z):=by simp
 refine ⟨_,rfl, ?_, ?_, ?_, ?_⟩
 ·rw[e1,e2];simp[hQ,hQ']
 ·rw[e1,e2,e3,List.drop_left,show e=(P++Q'++R).length by simp[hP,hQ'];omega,List.take_left]
 ·rw[e1,e2,e3,List.take_left]
 ·rw[e1,e2,show A++P++Q'++(R++Z)=(A++(P++Q'++R))++Z by simp,show A.length+e=(A++(P++Q'++R)).length by simp[hP,hQ'];omega,List.drop_left]
theorem Q8 {c L:List NV} {off e j:Nat} (x:NV) (h:(c.drop off).take e=L) (hj:j<e) (hc:off+e<=c.length):
 ∃d,c.set (off+j) x=d/\d.length=c.length/\(d.drop off).take e=L.set j x/\d.take off=c.take off/\d.drop (off+e)=c.drop (off+e):=by
 refine ⟨_,rfl,by simp, ?_, ?_, ?_⟩
 ·rw[←h,List.drop_set,Ri (by omega),List.take_set,show off+j - off=j by omega]
 ·rw[List.take_set,List.set_eq_of_length_le (by rw[List.length_take];omega)]
 ·rw[List.drop_set,Rj (by omega)]
theorem JU (c:List NV) (off e:Nat):c=c.take off++(c.drop off).take e++c.drop (off+e):=by
 conv=>lhs;rw[←List.take_append_drop off c,←List.take_append_drop e (c.drop off),List.drop_drop]
 rw[List.append_assoc]
def IQ (l:List Stm):Prop:=∀{m0 m:NH} {T:D4->Prop} {v:NV} {C:List (List NV)},SS m0 T v l C->aX T m0 m->cI l<=1000000->∃v' m',aS Tryz.prog S0 55 [v] m v' m'/\(∃C',SS m' (fun i=>¬am m i) v' l C')/\Chg [] m m'
structure SsC (m0 M:NH) (T T':D4->Prop) (l:List Stm) (i:Nat) (C:List (List NV)):Prop where
 n:C.length=l.length
 a:∀(j:Nat) (x:Stm) (c:List NV),j<i->l[j]? =some x->C[j]? =some c->RS M T' x c
 b:∀(j:Nat) (x:Stm) (c:List NV),i<=j->l[j]? =some x->C[j]? =some c->RS m0 T x c
theorem SS.weakT {m:NH} {T T':D4->Prop} (hT':∀i,T i->T' i) {v:NV} {l:List Stm} {C:List (List NV)} (h:SS m T v l C):SS m T' v l C:=⟨h.sl,fun i hi=>hT' i (h.hT i hi),h.len,fun i x c a b=>(h.R i x c a b).weak hT'⟩
theorem RS.ofSP {m:NH} {T:D4->Prop} {s:Stm} {w:SV} (h:SP m T s w):RS m T s (s.l w):=by
 obtain ⟨k,a,nm,ce,i,x,y,b,e⟩:=s
 obtain ⟨hi,hx,hy,⟨Bb,hb⟩,⟨Ee,he⟩⟩:=h
 exact RS.mk hi hx hy hb.sl hb.hT hb.len hb.R he.sl he.hT he.len he.R
theorem Gy (s:Stm):s.i.sz<s.sz/\s.x.sz<s.sz/\s.y.sz<s.sz/\cI s.b<s.sz/\cI s.e<s.sz:=by
 cases s;simp only[Stm.i,Stm.x,Stm.y,Stm.b,Stm.e,Stm.sz];omega
set_option maxHeartbeats 1000000 in
theorem yb {l:List Stm} (ih:∀s∈l,IQ s.b/\IQ s.e):IQ l:=by
 intro m0 m T v C hS hst hsz
 have hll:=lc l
 refine WF.ex fun K' hK'=> ?_
 refine WF.of_wpG (fun _=>rfl) zl (L:= [(.e,v)]) rfl ?_
 unfold KH
 obtain ⟨v1,M1,r1,ho1,hC1⟩:=NS ((hS.stays hst).sl) (by rw[hS.len];omega)
 have hlen:=ho1.sl.len
 rw[hS.len] at hlen
 rw[aa]
 simp (disch:=first|assumption|omega) only[go_sem,seval,r1.wf',hlen]
 refine W.loop (fun f d=>∃t M i D,d=⟨t, [],none,M⟩/\NT.get D4.e t=some v1/\NT.get D4.e.a.f t=some (ii (l.length:Nat))/\NT.get D4.e.b.a t=some (ii (i:Nat))/\i+f=l.length/\aU m M v1 21 D/\Chg [] m M/\SsC m0 M T (fun i=>¬am m i/\i∉ids v1) l i D) ?_ l.length _ ⟨_,M1,0,C,rfl,by simp only[go_sem,seval],by simp only[go_sem,seval],by simp only[go_sem,seval]<;>rfl,by omega,ho1,hC1,⟨hS.len,fun j x c h=>by omega,fun j x c _=>hS.R j x c⟩⟩
 rintro f d ⟨t,M,i,D,rfl,t1,t2,t3,hif,ho,hC,hX⟩
 apply ao
 unfold yA
 change wp _ _ _ _ ⟨ai [] t, [],none,M⟩ _
 by_cases hi:i<l.length
 ·have hiD:i<D.length:=by rw[hX.n];exact hi
  obtain ⟨id,off,cc,a1,a2,a3,a4,a5,a6,a7,a8⟩:=ho.at_all i hiD
  have hRi:=hX.b i _ _ (Nat.le_refl _) (List.getElem?_eq_getElem hi) (List.getElem?_eq_getElem hiD)
  have hsi:=yg (List.getElem_mem hi)
  obtain ⟨hb,he⟩:=ih _ (List.getElem_mem hi)
  have hls:=List.getElem?_eq_getElem hi
  generalize l[i]=s at *
  obtain ⟨w,ew,hSP⟩:=hRi.inv'
  rw[ew] at a7
  have hsp:=Gy s
  obtain ⟨_,M2,r2,⟨ui,rfl,hI⟩,hC2⟩:=pf s.i hSP.i (hst.grow hC) (by omega)
  have hCm2:=hC.trans hC2 (by simp)
  obtain ⟨_,M3,r3,⟨ux,rfl,hXx⟩,hC3⟩:=pf s.x hSP.x (hst.grow hCm2) (by omega)
  have hCm3:=hCm2.trans hC3 (by simp)
  obtain ⟨_,M4,r4,⟨uy,rfl,hY⟩,hC4⟩:=pf s.y hSP.y (hst.grow hCm3) (by omega)
  have hCm4:=hCm3.trans hC4 (by simp)
  have q4:(cc.drop (off+4)).take 5=s.i.l w.vi:=fo a7 4 5 (by omega)
  have q9:(cc.drop (off+9)).take 5=s.x.l w.vx:=fo a7 9 5 (by omega)
  have q14:(cc.drop (off+14)).take 5=s.y.l w.vy:=fo a7 14 5 (by omega)
  have b2:=(hC2.get a5 (by simp)).trans a4
  have b3:=((hC2.trans hC3 (by simp)).get a5 (by simp)).trans a4
  have b4:=(((hC2.trans hC3 (by simp)).trans hC4 (by simp)).get a5 (by simp)).trans a4
  have id4:am M4 id:=((hC2.trans hC3 (by simp)).trans hC4 (by simp)).old a5
  have hsI:=cD hSP.i
  have hsX:=cD hSP.x
  have hsY:=cD hSP.y
  obtain ⟨c1,w1,n1,l1,f1,z1⟩:=PN (Q':=s.i.l ui) (P:=(s.l w).take 4) (Q:=s.i.l w.vi) (R:=(s.l w).drop 9) (j:=4) (n:=5) (e:=21) (a7.trans (by rfl)) rfl rfl rfl rfl a6
  obtain ⟨c2,w2,n2,l2,f2,z2⟩:=PN (c:=c1) (off:=off) (Q':=s.x.l ux) (P:=(s.l w).take 4++s.i.l ui) (Q:=s.x.l w.vx) (R:=(s.l w).drop 14) (j:=9) (n:=5) (e:=21) (l1.trans (by rfl)) rfl rfl rfl rfl (by omega)
  obtain ⟨c3,w3,n3,l3,f3,z3⟩:=PN (c:=c2) (off:=off) (Q':=s.y.l uy) (P:=(s.l w).take 4++s.i.l ui++s.x.l ux) (Q:=s.y.l w.vy) (R:=(s.l w).drop 19) (j:=14) (n:=5) (e:=21) (l2.trans (by rfl)) rfl rfl rfl rfl (by omega)
  have q19:c3[off+19]? =some w.vb:=aA l3 19 (by omega)
  have q20:c3[off+20]? =some w.ve:=aA l3 20 (by omega)
  simp (disch:=first|assumption|omega|(simp only[aI]<;>omega)) only[go_sem,seval,t1,t2,t3,a1,a4,q4,q9,q14,r2.wf',r3.wf',r4.wf,b2,b3,b4,hsI,hsX,hsY,w1,n1,w2,n2,w3,n3,q19,q20]
  generalize hM5:hp [(.o id,.cells true c3),(.o id,.cells true c2),(.o id,.cells true c1)] 0 M4=M5
  have hC5:Chg [id] M4 M5:=jR hM5 (by simp[aB])
  have g5:M5.get id=some (.cells true c3):=gL id4 hM5
  have id5:=hC5.old id4
  have idm:¬am m id:=a3
  have hCm5:Chg [] m M5:=hCm4.trans hC5 fun i hi q=>by have hi:=one hi;subst hi;exact Rh q idm
  obtain ⟨Bb,hSb⟩:=hSP.b
  obtain ⟨Ee,hSe⟩:=hSP.e
  obtain ⟨vb,M6,r6,⟨Cb,hB⟩,hC6⟩:=hb hSb (hst.grow hCm5) (by omega)
  have hCm6:=hCm5.trans hC6 (by simp)
  obtain ⟨ve,M7,r7,⟨Ce,hE⟩,hC7⟩:=he hSe (hst.grow hCm6) (by omega)
  have hCm7:=hCm6.trans hC7 (by simp)
  have g6:=(hC6.get id5 (by simp)).trans g5
  have id6:=hC6.old id5
  have g7:=(hC7.get id6 (by simp)).trans g6
  have id7:=hC7.old id6
  obtain ⟨c4,w4,n4,l4,f4,z4⟩:=Q8 (j:=19) vb l3 (by omega) (by omega)
  obtain ⟨c5,w5,n5,l5,f5,z5⟩:=Q8 (j:=20) ve l4 (by omega) (by omega)
  have hb1:=hB.sl.one
  have he1:=hE.sl.one
  have hvb1:=hSb.sl.same (n:=3)
  have hve1:=hSe.sl.same (n:=3)
  simp (config:={maxSteps:=1000000}) (disch:=first|assumption|omega|(apply bv;omega)|(apply bJ;assumption)|(simp only[aI]<;>omega)) only[go_sem,seval,r6.wf',r7.wf,g6,g7,q19,q20,hvb1,hve1,hb1,he1,w4,n4,w5,n5,t3]
  generalize hM8:hp [(.o id,.cells true c5),(.o id,.cells true c4)] 0 M7=M8
  have hC8:Chg [id] M7 M8:=jR hM8 (by simp[aB])
  have g8:M8.get id=some (.cells true c5):=gL id7 hM8
  have id8:=hC8.old id7
  have n15:∀i,i∈ [id]->i=id:=fun i hi=>by simpa using hi
  have hCM8:Chg [id] M M8:=(((((hC2.trans hC3 (by simp)).trans hC4 (by simp)).weak (T:= [id]) (by simp)).trans hC5 fun i hi _=>hi).trans ((hC6.trans hC7 (by simp)).weak (T:= [id]) (by simp)) fun i hi _=>hi).trans hC8 fun i hi _=>hi
  have hC58:Chg [id] M5 M8:=((hC6.trans hC7 (by simp)).weak (T:= [id]) (by simp)).trans hC8 fun i hi _=>hi
  have e5:c5=cc.take off++s.l ⟨ui,ux,uy,vb,ve⟩++cc.drop (off+21):=by
   conv=>lhs;rw[JU c5 off 21]
   rw[f5,f4,f3,f2,f1,z5,z4,z3,z2,z1,l5]
   rfl
  have hids:∀j∈ids v1,j=id:=fun j hj=>by rw[a2] at hj;simpa using hj
  have hnew:SP M8 (fun j=>¬am m j/\j∉ids v1) s ⟨ui,ux,uy,vb,ve⟩:=by
   have k2:∀{N:NH},Chg [] M N->∀j,¬am N j->¬am m j/\j∉ids v1:=fun hN j q=>⟨fun w=>q (hN.old (hC.old w)),fun w=>q (hN.old (ho.sl.old j w))⟩
   have hT8:∀{N:NH},Chg [id] N M8->aX (fun j=>¬am m j/\j∉ids v1) N M8:=fun hN=>aX.of hN fun j q w=>q.2 (by rw[a2];simpa using w)
   have hC28:Chg [id] M2 M8:=((((hC3.trans hC4 (by simp)).weak (T:= [id]) (by simp)).trans hC5 fun i hi _=>hi).trans hC58 fun i hi _=>hi)
   have hC38:Chg [id] M3 M8:=((((hC4).weak (T:= [id]) (by simp)).trans hC5 fun i hi _=>hi).trans hC58 fun i hi _=>hi)
   have hC48:Chg [id] M4 M8:=hC5.trans hC58 fun i hi _=>hi
   have hC68:Chg [id] M6 M8:=(hC7.weak (T:= [id]) (by simp)).trans hC8 fun i hi _=>hi
   have k5:∀j,¬am M5 j->¬am m j/\j∉ids v1:=fun j q=>⟨fun w=>q (hCm5.old w),fun w=>q (hids j w▸id5)⟩
   have k6:∀j,¬am M6 j->¬am m j/\j∉ids v1:=fun j q=>⟨fun w=>q (hCm6.old w),fun w=>q (hids j w▸id6)⟩
   exact ⟨(hI.weak (k2 (Chg.refl M))).stays (hT8 hC28),(hXx.weak (k2 hC2)).stays (hT8 hC38),(hY.weak (k2 (hC2.trans hC3 (by simp)))).stays (hT8 hC48),⟨Cb,(SS.weakT k5 hB).stays (hT8 hC68)⟩,⟨Ce,(SS.weakT k6 hE).stays (hT8 hC8)⟩⟩
  refine ⟨f - 1,by omega,_,M8,i+1,D.set i (s.l ⟨ui,ux,uy,vb,ve⟩),by rfl,by simp only[go_sem,seval,t1],by simp only[go_sem,seval,t2],by simp only[go_sem,seval]<;>rfl,by omega,a8 _ _ rfl (by rw[g8,e5]) id8,hC.trans hCM8 fun i hi q=>by rw[n15 i hi] at q;exact Rh q idm,⟨by simp[hX.n],fun j x c hj h1 h2=> ?_,fun j x c hj h1 h2=> ?_⟩⟩
  ·by_cases e:j=i
   ·subst e
    rw[List.getElem?_set_self hiD] at h2
    rw[hls] at h1
    cases h1;cases h2
    exact RS.ofSP hnew
   ·rw[List.getElem?_set_ne (fun a=>e a.symm)] at h2
    exact (hX.a j x c (by omega) h1 h2).stays (aX.of hCM8 fun j q w=>q.2 (by rw[a2];simpa using w))
  ·rw[List.getElem?_set_ne (by omega)] at h2
   exact hX.b j x c (by omega) h1 h2
 ·simp (disch:=first|assumption|omega) only[go_sem,seval,t1,t2,t3]
  have e:i=l.length:=by omega
  subst e
  refine hK' _ _ ⟨⟨D,⟨ho.sl,fun i hi=>ho.new i hi,hX.n,fun j x c h1 h2=> ?_⟩⟩,hC⟩
  have hj:=(List.getElem?_eq_some_iff.1 h1).1
  exact (hX.a j x c hj h1 h2).weak fun j q=>q.1
theorem yM:∀l:List Stm,IQ l:=by
 have h:∀s:Stm,IQ s.b/\IQ s.e:=by
  apply Stm.ind (P:=fun s=>IQ s.b/\IQ s.e)
  intro k a nm ce i x y b e hb he
  exact ⟨yb hb,yb he⟩
 exact fun l=>yb fun s _=>h s
structure Wk (ck:D4) (B m0:NH) (vc u:NV) (L:List (List Nat)) (e a:Int) (N:NH):Prop where
 g:N.get ck=some (.cells true [vc,u,ii e,ii a])
 o:am N ck
 w:aU B N u 1 (bE L)
 n:ck∉ids u
 c:Chg [] m0 N
 b:∀i,am B i->am N i
def e6 (Z:List (List Nat)) (e:Int) (mine:List (List Nat)):Int:=if e=0/\∃n∈mine,n∈Z then 6 else e
section
variable {ck:D4} {B m0:NH} {vc:NV} {cs:List (List Nat×Int)}
theorem Wk.grow {u:NV} {L:List (List Nat)} {e a:Int} {N N':NH} (h:Wk ck B m0 vc u L e a N) (hC:Chg [] N N'):Wk ck B m0 vc u L e a N':=
 ⟨(hC.get h.o (by simp)).trans h.g,hC.old h.o,h.w.chg hC fun _ _=>by simp,h.n,h.c.trans hC (by simp),fun i hi=>hC.old (h.b i hi)⟩
theorem Wk.set {u:NV} {L:List (List Nat)} {e a e' a':Int} {N N':NH} (h:Wk ck B m0 vc u L e a N) (hk:¬am m0 ck) (hN:hp [(.o ck,.cells true [vc,u,ii e',ii a'])] 0 N=N'):Wk ck B m0 vc u L e' a' N'/\Chg [ck] N N':=by
 have hC:Chg [ck] N N':=ba hN rfl
 refine ⟨⟨?_,hC.old h.o,h.w.chg hC fun i hi=>by simp;rintro rfl;exact h.n hi,h.n,h.c.trans hC fun i hi ho=> ?_,fun i hi=>hC.old (h.b i hi)⟩,hC⟩
 ·rw[←hN];exact (aF h.o).trans ap
 ·have hi:=one hi;subst hi;exact Rh ho hk
theorem Dd {Z:List (List Nat)} {s:List Nat}:bH Z s<0↔s∉Z:=by
 have:=fK (l:=Z) (x:=s)
 rw[←this];omega
theorem Oj (hcs:Sl m0 vc 2 (jH cs)) (hcl:cs.length<=1000000) (hk:¬am m0 ck) {u vm v s2:NV} {i0:Int} {L mine:List (List Nat)} {e a:Int} {N:NH} (hW:Wk ck B m0 vc u L e a N) (hm:Sl N vm 1 (bE mine)) (hd:ck∉ids vm) (hl:mine.length<=100000000) {t:Tm}
 (g1:NT.get D4.e t=some (.ptr ck 0)) (g2:NT.get D4.e.a.b t=some vm) (g3:NT.get D4.e.a.c t=some (ii 0)) (g4:NT.get D4.e.a t=some v) (g5:NT.get D4.e.f t=some (ii i0)) (g6:NT.get D4.e.a.a t=some s2) {Q:Out->Dyn->Prop}
 (hQ:∀t' N',Wk ck B m0 vc u L (e6 (cs.map (·.1)) e mine) a N'->Chg [ck] N N'->NT.get D4.e t'=some (.ptr ck 0)->NT.get D4.e.a.b t'=some vm->NT.get D4.e.a t'=some v->NT.get D4.e.f t'=some (ii i0)->NT.get D4.e.a.a t'=some s2->Q (.exit 2) ⟨ai [] t', [],none,N'⟩):
 W Tryz.prog S0 none sg.loop ⟨t, [],none,N⟩ Q:=by
 refine W.loop (fun k d=>∃t M i,d=⟨t, [],none,M⟩/\NT.get D4.e t=some (.ptr ck 0)/\NT.get D4.e.a.b t=some vm/\NT.get D4.e.a.c t=some (ii (i:Nat))/\NT.get D4.e.a t=some v/\NT.get D4.e.f t=some (ii i0)/\NT.get D4.e.a.a t=some s2/\i+k=mine.length/\Wk ck B m0 vc u L (e6 (cs.map (·.1)) e (mine.take i)) a M/\Chg [ck] N M) ?_ mine.length _ ⟨t,N,0,rfl,g1,g2,g3,g4,g5,g6,by omega,by simpa [e6] using hW,(Chg.refl N).weak (by simp)⟩
 clear g1 g2 g3 g4 g5 g6
 rintro k d ⟨t,M,i,rfl,g1,g2,g3,g4,g5,g6,hik,hWM,hC⟩
 apply ao
 unfold sg
 change wp _ _ _ _ ⟨ai [] t, [],none,M⟩ _
 have hmM:Sl M vm 1 (bE mine):=hm.chg hC fun i hi=>by simp;rintro rfl;exact hd hi
 have hlen:=hmM.len
 rw[List.length_map] at hlen
 have hg:=hWM.g
 have ho:=hWM.o
 by_cases hi:i<mine.length
 ·by_cases he:e6 (cs.map (·.1)) e (mine.take i)=0
  ·obtain ⟨id,off,wr,c,a1,a2,a3,a4,a5⟩:=hmM.at i (by simpa using hi)
   rw[List.getElem_map] at a5
   have c0:c[off]? =some (.str mine[i]):=aA a5 0 (by omega)
   have hf:=sr (hcs.chg hWM.c fun _ _=>by simp) hcl mine[i]
   have hvs:bj 4 vc vc=true:=hcs.same
   have htk:∀p:List Nat->Prop,(∃n∈mine.take (i+1),p n)↔(∃n∈mine.take i,p n)∨p mine[i]:=by
    intro p
    rw[List.take_add_one,List.getElem?_eq_getElem hi]
    simp only[List.mem_append,Option.toList_some,List.mem_singleton]
    constructor
    ·rintro ⟨n,h|rfl,hp⟩
     ·exact Or.inl ⟨n,h,hp⟩
     ·exact Or.inr hp
    ·rintro (⟨n,h,hp⟩|hp)
     ·exact ⟨n,Or.inl h,hp⟩
     ·exact ⟨_,Or.inr rfl,hp⟩
   have he0:e=0:=by unfold e6 at he;split at he<;>omega
   have hno:¬∃n∈mine.take i,n∈cs.map (·.1):=fun h=>by rw[e6,Rj ⟨he0,h⟩] at he;omega
   rw[he] at hg hWM
   by_cases hin:mine[i]∈cs.map (·.1)
   ·have h6:e6 (cs.map (·.1)) e (mine.take (i+1))=6:=by rw[e6,Rj ⟨he0,(htk _).2 (Or.inr hin)⟩]
    have hfp:0<=bH (cs.map (·.1)) mine[i]:=fK.2 hin
    generalize bH (cs.map (·.1)) mine[i]=z at hf hfp
    simp (disch:=first|assumption|omega|(simp only[aI]<;>omega)) only[go_sem,seval,g1,g2,g3,g4,g5,g6,hlen,hg,a1,a2,c0,hf.wf,hvs]
    generalize hM2:hp _ 0 M=M2
    obtain ⟨hW2,hC2⟩:=hWM.set hk hM2
    rw[←h6] at hW2
    exact ⟨k - 1,by omega,_,M2,i+1,by rfl,by simp only[go_sem,seval,g1],by simp only[go_sem,seval,g2],by simp only[go_sem,seval]<;>rfl,by simp only[go_sem,seval,g4],by simp only[go_sem,seval,g5],by simp only[go_sem,seval,g6],by omega,hW2,hC.trans hC2 fun _ h _=>h⟩
   ·have h6:e6 (cs.map (·.1)) e (mine.take (i+1))=0:=by
     rw[e6,Ri]
     ·exact he0
     ·rintro ⟨_,h⟩
      exact ((htk _).1 h).elim hno hin
    have hfp:bH (cs.map (·.1)) mine[i]<0:=Dd.2 hin
    generalize bH (cs.map (·.1)) mine[i]=z at hf hfp
    simp (disch:=first|assumption|omega) only[go_sem,seval,g1,g2,g3,g4,g5,g6,hlen,hg,a1,a2,c0,hf.wf',hvs]
    exact ⟨k - 1,by omega,_,M,i+1,by rfl,by simp only[go_sem,seval,g1],by simp only[go_sem,seval,g2],by simp only[go_sem,seval]<;>rfl,by simp only[go_sem,seval,g4],by simp only[go_sem,seval,g5],by simp only[go_sem,seval,g6],by omega,by rw[h6];exact hWM,hC⟩
  ·have h6:e6 (cs.map (·.1)) e (mine.take i)=e6 (cs.map (·.1)) e mine:=by
    unfold e6 at he ⊢
    by_cases h0:e=0
    ·rw[Rj,Rj]
     ·split at he
      ·rename_i q;obtain ⟨_,n,h1,h2⟩:=q;exact ⟨h0,n,List.mem_of_mem_take h1,h2⟩
      ·exact Rh h0 he
     ·split at he
      ·assumption
      ·exact Rh h0 he
    ·rw[Ri fun h=>h0 h.1,Ri fun h=>h0 h.1]
   simp (disch:=first|assumption|omega) only[go_sem,seval,g1,g2,g3,hlen,hg,he]
   rw[h6] at hWM
   exact hQ _ _ hWM hC (by simp only[go_sem,seval,g1]) (by simp only[go_sem,seval,g2]) (by simp only[go_sem,seval,g4]) (by simp only[go_sem,seval,g5]) (by simp only[go_sem,seval,g6])
 ·simp (disch:=first|assumption|omega) only[go_sem,seval,g1,g2,g3,hlen,hg]
  rw[List.take_of_length_le (by omega)] at hWM
  exact hQ _ _ hWM hC (by simp only[go_sem,seval,g1]) (by simp only[go_sem,seval,g2]) (by simp only[go_sem,seval,g4]) (by simp only[go_sem,seval,g5]) (by simp only[go_sem,seval,g6])
theorem Nw (h0:∀i,am m0 i->am B i) (hk:¬am m0 ck) (hkB:¬am B ck) (hvs:bj 4 vc vc=true) {u vm v s2:NV} {i0:Int} {L mine:List (List Nat)} {e a:Int} {N A:NH} (hW:Wk ck B m0 vc u L e a N) (hm:aU A N vm 1 (bE mine)) (hd:ck∉ids vm) (hdu:∀i∈ids vm,i∉ids u) (hl:L.length+mine.length<=100000000) {t:Tm}
 (g1:NT.get D4.e t=some (.ptr ck 0)) (g2:NT.get D4.e.a.b t=some vm) (g3:NT.get D4.e.a.f t=some (ii 0)) (g4:NT.get D4.e.a t=some v) (g5:NT.get D4.e.f t=some (ii i0)) (g6:NT.get D4.e.a.a t=some s2) {Q:Out->Dyn->Prop}
 (hQ:∀t' N' u',Wk ck B m0 vc u' (mine.foldl aL L) e a N'->Chg (ck::ids u) N N'->bC N u u'->NT.get D4.e t'=some (.ptr ck 0)->NT.get D4.e.a t'=some v->NT.get D4.e.f t'=some (ii i0)->NT.get D4.e.a.a t'=some s2->Q (.exit 4) ⟨ai [] t', [],none,N'⟩):
 W Tryz.prog S0 none qK.loop ⟨t, [],none,N⟩ Q:=by
 refine W.loop (fun k d=>∃t M i u',d=⟨t, [],none,M⟩/\NT.get D4.e t=some (.ptr ck 0)/\NT.get D4.e.a.b t=some vm/\NT.get D4.e.a.f t=some (ii (i:Nat))/\NT.get D4.e.a t=some v/\NT.get D4.e.f t=some (ii i0)/\NT.get D4.e.a.a t=some s2/\i+k=mine.length/\Wk ck B m0 vc u' ((mine.take i).foldl aL L) e a M/\Chg (ck::ids u) N M/\bC N u u') ?_ mine.length _ ⟨t,N,0,u,rfl,g1,g2,g3,g4,g5,g6,by omega,hW,(Chg.refl N).weak (by simp),bC.refl N u⟩
 clear g1 g2 g3 g4 g5 g6
 rintro k d ⟨t,M,i,u',rfl,g1,g2,g3,g4,g5,g6,hik,hWM,hC,hF⟩
 apply ao
 unfold qK
 change wp _ _ _ _ ⟨ai [] t, [],none,M⟩ _
 have hmM:aU A M vm 1 (bE mine):=hm.chg hC fun i hi=>by
  rw[Rp,not_or]
  exact ⟨fun q=>hd (q▸hi),hdu i hi⟩
 have hlen:=hmM.sl.len
 rw[List.length_map] at hlen
 have hg:=hWM.g
 have ho:=hWM.o
 by_cases hi:i<mine.length
 ·obtain ⟨id,off,c,a1,hids,-,a2,a3,a4,a5,-⟩:=hmM.at i (by simpa using hi)
  rw[List.getElem_map] at a5
  have c0:c[off]? =some (.str mine[i]):=aA a5 0 (by omega)
  have hus:bj 4 u' u'=true:=hWM.w.sl.same
  have hfl:=cr (mine.take i) L
  have htl:(mine.take i).length<=mine.length:=by rw[List.length_take];omega
  have htk:(mine.take (i+1)).foldl aL L=aL ((mine.take i).foldl aL L) mine[i]:=by
   rw[List.take_add_one,List.getElem?_eq_getElem hi,Option.toList_some,List.foldl_append];rfl
  simp (disch:=first|assumption|omega) only[go_sem,seval,g1,g2,g3,g4,g5,g6,hlen,hg,a1,a2,c0,hus]
  refine WF.useH (Fz hWM.w hWM.b mine[i] (by omega)) ?_
  rintro v2 M2 ⟨hv2,hC2,hF2⟩
  have g2':=(hC2.get ho hWM.n).trans hg
  have o2':=hC2.old ho
  have hid:id∉ids u':=fun h=>by
   have hmi:id∈ids vm:=by rw[hids];exact List.mem_singleton_self _
   rcases hF id h with q|q
   ·exact hdu id hmi q
   ·exact q (hm.sl.old id hmi)
  have a22:=(hC2.get a3 hid).trans a2
  simp (disch:=first|assumption|omega|(simp only[aI]<;>omega)) only[go_sem,seval,g1,g2,g3,g4,g5,g6,hlen,hg,a1,a22,c0,hus,g2',o2',hv2.sl.one]
  generalize hM3:hp _ 0 M2=M3
  have hC3:Chg [ck] M2 M3:=ba hM3 rfl
  have hn2:ck∉ids v2:=fun h=>(hF2 ck h).elim hWM.n fun q=>q ho
  have hCM:Chg (ck::ids u') M M3:=(hC2.weak (T:=ck::ids u') (by intro i h _;simp[h])).trans hC3 fun i h _=>by simp at h;simp[h]
  refine ⟨k - 1,by omega,_,M3,i+1,v2,by rfl,by simp only[go_sem,seval,g1],by simp only[go_sem,seval,g2],by simp only[go_sem,seval]<;>rfl,by simp only[go_sem,seval,g4],by simp only[go_sem,seval,g5],by simp only[go_sem,seval,g6],by omega, ?_,hC.trans hCM fun i h hi=> ?_,hF.trans hF2 fun i h=>hC.old h⟩
  ·rw[htk]
   refine ⟨?_,hC3.old o2',hv2.chg hC3 fun i hi=>by simp;rintro rfl;exact hn2 hi,hn2, ?_,fun i hi=>hC3.old (hC2.old (hWM.b i hi))⟩
   ·rw[←hM3];exact (aF o2').trans ap
   ·refine hWM.c.trans hCM fun i hi hoi=> ?_
    rcases List.mem_cons.1 hi with e|hi
    ·exact Rh (e▸hoi) hk
    ·exact Rh (h0 i hoi) (hWM.w.new i hi)
  ·rcases List.mem_cons.1 h with rfl|h
   ·simp
   ·exact (hF i h).elim (fun q=>by simp[q]) fun q=>Rh hi q
 ·simp (disch:=first|assumption|omega) only[go_sem,seval,g1,g2,g3,hlen,hg]
  rw[List.take_of_length_le (by omega)] at hWM
  exact hQ _ _ _ hWM hC hF (by simp only[go_sem,seval,g1]) (by simp only[go_sem,seval,g4]) (by simp only[go_sem,seval,g5]) (by simp only[go_sem,seval,g6])
end
theorem Qs {P:Program} {S:Nat->List NV->Option NV} {r:Option D4} {A B C:NC} {n:Nat} {d:Dyn} {Q:Out->Dyn->Prop} (Φ:Dyn->Prop) (h1:∀R:Dyn->Prop,(∀d',Φ d'->R d')->wp P S r A d (da R Q)) (h2:∀d',Φ d'->wp P S r B d' (ic n (da (EM P S r C Q) Q))):wp P S r (.seq A (.seq (.block n B) C)) d Q:=h1 _ h2
abbrev sj:=(List (List Nat)×Nat)×Option (Int×Int)
def lh (Z L:List (List Nat)) (x:Stm):Int:=if e6 Z (if (x.k=1∨x.k=2∨x.k=3)/\x.ce∉Z then 4 else 0) x.own=0/\12<L.length then 3 else e6 Z (if (x.k=1∨x.k=2∨x.k=3)/\x.ce∉Z then 4 else 0) x.own
def Ij (a e:Int):Option (Int×Int):=if e=0 then none else some (a,e)
def nX (Z:List (List Nat)) (st:sj) (x:Stm):sj×Bool:=
 (((x.own.foldl aL st.1.1,st.1.2+x.own.length),Ij x.a (lh Z (x.own.foldl aL st.1.1) x)),decide (lh Z (x.own.foldl aL st.1.1) x=0))
def iE (Z:List (List Nat)) (l:List Stm) (st:sj):sj:=if st.2=none then (aW (nX Z) (bg l) st).1 else st
theorem sZ {a e:Int}:Ij a e=none↔e=0:=by unfold Ij;split<;>simp_all
theorem qr {Z:List (List Nat)} (l:List Stm):∀st:sj,st.2=none->((aW (nX Z) l st).2=true↔(aW (nX Z) l st).1.2=none):=by
 induction l with
 |nil=>intro st h;simp[aW,h]
 |cons x l ih=>
  intro st h
  rw[aW]
  by_cases he:lh Z (x.own.foldl aL st.1.1) x=0
  ·have h2:(nX Z st x).2=true:=Rl he
   rw[Rj h2]
   exact ih _ (sZ.2 he)
  ·have h2:(nX Z st x).2=false:=Rk he
   rw[h2,Ri (by simp),h2]
   simp only[Bool.false_eq_true,false_iff]
   exact fun q=>he (sZ.1 q)
theorem HT {Z:List (List Nat)} (a b:List Stm) (st:sj) (f:List Stm->sj->sj) (hf:∀l st,f l st=if st.2=none then (aW (nX Z) l st).1 else st):f (a++b) st=f b (f a st):=by
 by_cases h:st.2=none
 ·rw[hf (a++b),Rj h,dM,hf a,Rj h]
  by_cases h2:(aW (nX Z) a st).1.2=none
  ·rw[Rj ((qr a st h).2 h2),hf b,Rj h2]
  ·rw[Ri fun q=>h2 ((qr a st h).1 q),hf b,Ri h2]
 ·rw[hf (a++b),Ri h,hf a,Ri h,hf b,Ri h]
def dS (Z:List (List Nat)) (l:List Stm) (st:sj):sj:=if st.2=none then (aW (nX Z) l st).1 else st
theorem kE {Z:List (List Nat)} {l:List Stm} {st:sj}:iE Z l st=dS Z (bg l) st:=rfl
theorem kz {Z:List (List Nat)} (a b:List Stm) (st:sj):dS Z (a++b) st=dS Z b (dS Z a st):=HT a b st (dS Z) fun _ _=>rfl
theorem Cp {Z:List (List Nat)} (x:Stm) (l:List Stm) (st:sj):iE Z (x::l) st=iE Z l (dS Z x.all st):=by rw[kE,bg,kz];rfl
theorem qn {Z:List (List Nat)} {l:List Stm} {st:sj} (h:st.2≠none):dS Z l st=st:=Ri h
theorem CP {Z:List (List Nat)} {x:Stm} {st:sj} (h:st.2=none):dS Z x.all st=iE Z (if x.k=6 then x.e else []) (iE Z (if x.k=6∨x.k=7 then x.b else []) (nX Z st x).1):=by
 have e1:dS Z [x] st=(nX Z st x).1:=by
  unfold dS;rw[Rj h,aW]
  split<;>rfl
 rw[nU,show x::((if x.k=6∨x.k=7 then bg x.b else [])++(if x.k=6 then bg x.e else []))= [x]++((if x.k=6∨x.k=7 then bg x.b else [])++(if x.k=6 then bg x.e else [])) from rfl,kz,kz,e1,kE,kE]
 have e2:∀(p:Prop) [Decidable p] (l:List Stm),bg (if p then l else [])=if p then bg l else []:=by intro p _ l;split<;>rfl
 rw[e2,e2]
theorem Dw {Z:List (List Nat)} (l:List Stm):∀st:sj,(dS Z l st).1.2<=st.1.2+(l.flatMap Stm.own).length/\((dS Z l st).2≠none->st.2=none->jO (dS Z l st).2≠0)/\(st.1.1.length<=st.1.2->(dS Z l st).1.1.length<=(dS Z l st).1.2):=by
 induction l with
 |nil=>
  intro st
  have e:dS Z [] st=st:=by unfold dS;split<;>rfl
  rw[e]
  exact ⟨by simp,fun q r=>Rh r q,fun q=>q⟩
 |cons x l ih=>
  intro st
  by_cases h:st.2=none
  ·have e:dS Z (x::l) st=dS Z l (nX Z st x).1:=by
    have:=kz (Z:=Z) [x] l st
    rw[List.singleton_append] at this
    rw[this]
    congr 1
    unfold dS;rw[Rj h,aW]
    split<;>rfl
   obtain ⟨h1,h2,h3⟩:=ih (nX Z st x).1
   rw[e,List.flatMap_cons,List.length_append]
   have hn:(nX Z st x).1.1.2=st.1.2+x.own.length:=rfl
   have hl:(nX Z st x).1.1.1=x.own.foldl aL st.1.1:=rfl
   have hfl:=cr x.own st.1.1
   refine ⟨by omega,fun q _=> ?_,fun q=>h3 (by rw[hn,hl];omega)⟩
   by_cases h4:(nX Z st x).1.2=none
   ·exact h2 q h4
   ·rw[qn h4]
    have:(nX Z st x).1.2=Ij x.a (lh Z (x.own.foldl aL st.1.1) x):=rfl
    rw[this] at h4 ⊢
    unfold Ij at h4 ⊢
    split
    ·rename_i q;rw[Rj q] at h4;exact Rh rfl h4
    ·assumption
  ·rw[qn h]
   exact ⟨by omega,fun _ q=>Rh q h,fun q=>q⟩
section
variable {ck:D4} {B m0:NH} {vc:NV} {cs:List (List Nat×Int)} {T:D4->Prop}
def mG (ck:D4) (B m0:NH) (vc:NV) (cs:List (List Nat×Int)) (T:D4->Prop) (l:List Stm):Prop:=
 ∀{v:NV} {C:List (List NV)} {N:NH} {u:NV} {st:sj},SS m0 T v l C->Wk ck B m0 vc u st.1.1 (jO st.2) (xE st.2) N->(st.2≠none->jO st.2≠0)->st.1.1.length<=st.1.2->st.1.2+((bg l).flatMap Stm.own).length<=100000000->cI l<=100000000->
  ∃N',aS Tryz.prog S0 76 [.ptr ck 0,v] N (.tup []) N'/\∃u',Wk ck B m0 vc u' (iE (cs.map (·.1)) l st).1.1 (jO (iE (cs.map (·.1)) l st).2) (xE (iE (cs.map (·.1)) l st).2) N'/\Chg (ck::ids u) N N'/\bC N u u'
theorem Er (M:List (List Nat)):∀(acc L:List (List Nat)),(M.foldl aL acc).foldl aL L=M.foldl aL (acc.foldl aL L):=by
 induction M with
 |nil=>intro acc L;rfl
 |cons s M ih=>
  intro acc L
  rw[List.foldl_cons,ih,List.foldl_cons]
  congr 1
  by_cases h:s∈acc
  ·rw[show aL acc s=acc from Rj h,show aL (acc.foldl aL L) s=acc.foldl aL L from Rj ((fj acc L).2 (Or.inr h))]
  ·rw[show aL acc s=acc++ [s] from Ri h,List.foldl_append];rfl
theorem Jo {Z:List (List Nat)} {e:Int} (M:List (List Nat)):e6 Z e (M.foldl aL [])=e6 Z e M:=by
 have:(∃n∈M.foldl aL [],n∈Z)↔∃n∈M,n∈Z:=by simp[fj]
 unfold e6
 simp only[this]
theorem Hb (x:Stm):x.own.length<=(x.all.flatMap Stm.own).length:=by
 rw[nU,List.flatMap_cons,List.length_append];omega
theorem Gi (hcs:Sl m0 vc 2 (jH cs)) (hcl:cs.length<=1000000) (h0:∀i,am m0 i->am B i) (hk:¬am m0 ck) (hkB:¬am B ck)
 {x:Stm} {w:SV} (hR:RS m0 T x (x.l w)) (hP:SP m0 T x w) (hb:mG ck B m0 vc cs T x.b) (he:mG ck B m0 vc cs T x.e) {L:List (List Nat)} {n:Nat} (hln:L.length<=n) (hbud:n+(x.all.flatMap Stm.own).length<=100000000) (hsz:x.sz<=100000000)
 {v u:NV} {N:NH} (hW:Wk ck B m0 vc u L 0 0 N) {i ln:Nat} {id:D4} {off:Nat} {wr:Bool} {C:List NV} (hi:i<ln) (hlv:Cc v= .val (ii ln)) (hlm:ln<=1000000000) (a1:fU 21 v (ii i)= .val (.ptr id off)) (a2:N.get id=some (.cells wr C)) (a3:am N id) (a4:off+21<=C.length) (a5:(C.drop off).take 21=x.l w) {t:Tm}
 (g1:NT.get D4.e t=some (.ptr ck 0)) (g2:NT.get D4.e.a t=some v) (g3:NT.get D4.e.f t=some (ii i)) {Q:Out->Dyn->Prop}
 (hN:∀t' N' u',Wk ck B m0 vc u' (dS (cs.map (·.1)) x.all ((L,n),none)).1.1 (jO (dS (cs.map (·.1)) x.all ((L,n),none)).2) (xE (dS (cs.map (·.1)) x.all ((L,n),none)).2) N'->Chg (ck::ids u) N N'->bC N u u'->NT.get D4.e t'=some (.ptr ck 0)->NT.get D4.e.a t'=some v->NT.get D4.e.f t'=some (ii (i+1:Nat))->Q .norm ⟨t', [],none,N'⟩)
 (hF:(dS (cs.map (·.1)) x.all ((L,n),none)).2≠none->∀t' N' u',Wk ck B m0 vc u' (dS (cs.map (·.1)) x.all ((L,n),none)).1.1 (jO (dS (cs.map (·.1)) x.all ((L,n),none)).2) (xE (dS (cs.map (·.1)) x.all ((L,n),none)).2) N'->Chg (ck::ids u) N N'->bC N u u'->Q .ret ⟨ai [] t', [],none,N'⟩):
 wp Tryz.prog S0 none kZ ⟨ai [] t, [],none,N⟩ Q:=by
 unfold kZ
 have hl21:(x.l w).length=21:=rfl
 have hl21':(x.l w).take 21=x.l w:=rfl
 have hg:=hW.g
 have ho:=hW.o
 have hvs:bj 4 vc vc=true:=hcs.same
 refine Qs (fun d=>∃t',d=⟨t', [],none,N⟩/\NT.get D4.e t'=some (.ptr ck 0)/\NT.get D4.e.a t'=some v/\NT.get D4.e.f t'=some (ii i)) (fun R hR'=> ?_) ?_
 ·simp (disch:=first|assumption|omega) only[go_sem,seval,g1,g2,g3,hlv,hg]
  exact hR' _ ⟨_,rfl,by simp only[go_sem,seval,g1],by simp only[go_sem,seval,g2],by simp only[go_sem,seval,g3]⟩
 clear g1 g2 g3
 rintro d ⟨t,rfl,g1,g2,g3⟩
 change wp _ _ _ _ ⟨ai [] t, [],none,N⟩ _
 let Ky:D4->Tm->Prop:=fun b1 t=>NT.get D4.e t=some (.ptr ck 0)/\NT.get D4.e.a t=some v/\NT.get D4.e.f t=some (ii i)/\NT.get D4.e.a.a t=some (.ptr b1 0)
 refine gv (fun d=>∃t N1 b1,d=⟨t, [],none,N1⟩/\Ky b1 t/\Chg [] N N1/\¬am N b1/\am N1 b1/\N1.get b1=some (.cells true (x.l w))) (fun R hR'=> ?_) ?_
 ·rw[←aa N]
  simp (disch:=first|assumption|omega|(simp only[aI]<;>omega)) only[go_sem,seval,g1,g2,g3,a1,a2,a5,hl21,hl21']
  generalize hM1:hp _ 1 N=N1
  have hC1:Chg [] N N1:=ba hM1 rfl
  exact hR' _ ⟨_,N1,na N 0,rfl,⟨by simp only[go_sem,seval,g1],by simp only[go_sem,seval,g2],by simp only[go_sem,seval,g3],by simp only[go_sem,seval]⟩,hC1,az,by rw[←hM1];exact bv (by omega),by rw[←hM1];exact bo⟩
 clear g1 g2 g3
 rintro d ⟨t,N1,b1,rfl,⟨g1,g2,g3,g4⟩,hC1,hb1,ob1,gb1⟩
 change wp _ _ _ _ ⟨ai [] t, [],none,N1⟩ _
 have hW1:=hW.grow hC1
 have hbck:b1≠ck:=fun e=>hb1 (e▸ho)
 have hbck':=hbck.symm
 have hbu:b1∉ids u:=fun h=>hb1 (hW.w.sl.old _ h)
 have t0:(x.l w)[0]? =some (ii x.k):=rfl
 have t1:(x.l w)[1]? =some (ii x.a):=rfl
 have t3:(x.l w)[3]? =some (.str x.ce):=rfl
 have hg1:=hW1.g
 have ho1:=hW1.o
 generalize he1:(if (x.k=1∨x.k=2∨x.k=3)/\x.ce∉cs.map (·.1) then (4:Int) else 0)=e1
 refine gv (fun d=>∃t N2,d=⟨t, [],none,N2⟩/\Ky b1 t/\Wk ck B m0 vc u L e1 0 N2/\Chg [ck] N1 N2) (fun R hR'=> ?_) ?_
 ·have hce:=uO N1 x.k
  have hf:=sr (hcs.chg hW1.c fun _ _=>by simp) hcl x.ce
  by_cases hk1:x.k=1∨x.k=2∨x.k=3
  ·rw[Rl hk1] at hce
   by_cases hz:x.ce∈cs.map (·.1)
   ·rw[Ri fun q=>q.2 hz] at he1
    subst he1
    have hfp:0<=bH (cs.map (·.1)) x.ce:=fK.2 hz
    generalize bH (cs.map (·.1)) x.ce=z at hf hfp
    simp (disch:=first|assumption|omega) only[go_sem,seval,g1,g2,g3,g4,gb1,t0,t1,t3,hg1,hvs,hce.wf',hf.wf']
    exact hR' _ ⟨_,N1,rfl,⟨by simp only[go_sem,seval,g1],by simp only[go_sem,seval,g2],by simp only[go_sem,seval,g3],by simp only[go_sem,seval,g4]⟩,hW1,(Chg.refl N1).weak (by simp)⟩
   ·rw[Rj ⟨hk1,hz⟩] at he1
    subst he1
    have hfp:bH (cs.map (·.1)) x.ce<0:=Dd.2 hz
    generalize bH (cs.map (·.1)) x.ce=z at hf hfp
    simp (disch:=first|assumption|omega|(simp only[aI]<;>omega)) only[go_sem,seval,g1,g2,g3,g4,gb1,t0,t1,t3,hg1,hvs,hce.wf',hf.wf]
    generalize hM2:hp _ 0 N1=N2
    obtain ⟨hW2,hC2⟩:=hW1.set hk hM2
    exact hR' _ ⟨_,N2,rfl,⟨by simp only[go_sem,seval,g1],by simp only[go_sem,seval,g2],by simp only[go_sem,seval,g3],by simp only[go_sem,seval,g4]⟩,hW2,hC2⟩
  ·rw[Rk hk1] at hce
   rw[Ri fun q=>hk1 q.1] at he1
   subst he1
   simp (disch:=first|assumption|omega) only[go_sem,seval,g1,g2,g3,g4,gb1,t0,t1,t3,hg1,hvs,hce.wf']
   exact hR' _ ⟨_,N1,rfl,⟨by simp only[go_sem,seval,g1],by simp only[go_sem,seval,g2],by simp only[go_sem,seval,g3],by simp only[go_sem,seval,g4]⟩,hW1,(Chg.refl N1).weak (by simp)⟩
 clear g1 g2 g3 g4 hg1 ho1
 rintro d ⟨t,N2,rfl,⟨g1,g2,g3,g4⟩,hW2,hC2⟩
 change wp _ _ _ _ ⟨ai [] t, [],none,N2⟩ _
 have gb2:=(hC2.get ob1 (by simpa using hbck)).trans gb1
 have ob2:=hC2.old ob1
 have hg2:=hW2.g
 refine gv (fun d=>∃t N3 vm,d=⟨t, [],none,N3⟩/\Ky b1 t/\NT.get D4.e.a.b t=some vm/\aU N2 N3 vm 1 (bE (x.own.foldl aL []))/\Chg [] N2 N3) (fun R hR'=> ?_) ?_
 ·simp (disch:=first|assumption|omega) only[go_sem,seval,g1,g2,g3,g4,gb2,hl21,hl21']
  refine WF.use (IR hR (B:=N2) (m:=N2) (v:= .nils) (l:= []) hW2.c aU.nil (fun i hi=>hW2.c.old hi) (fun _ h=>h) (by simp;omega)) ?_
  rintro vm N3 ⟨hvm,hC3,-⟩
  have hC3':Chg [] N2 N3:=hC3.weak (by simp[ids])
  simp (disch:=first|assumption|omega) only[go_sem,seval,g1,g2,g3,g4]
  exact hR' _ ⟨_,N3,vm,rfl,⟨by simp only[go_sem,seval,g1],by simp only[go_sem,seval,g2],by simp only[go_sem,seval,g3],by simp only[go_sem,seval,g4]⟩,by simp only[go_sem,seval],hvm,hC3'⟩
 clear g1 g2 g3 g4
 rintro d ⟨t,N3,vm,rfl,⟨g1,g2,g3,g4⟩,g5,hvm,hC3⟩
 change wp _ _ _ _ ⟨ai [] t, [],none,N3⟩ _
 have gb3:=(hC3.get ob2 (by simp)).trans gb2
 have ob3:=hC3.old ob2
 have hW3:=hW2.grow hC3
 have hdck:ck∉ids vm:=fun h=>hvm.new _ h hW2.o
 have hol:=Hb x
 have hdl:=cr x.own []
 rw[List.length_nil] at hdl
 generalize he2:e6 (cs.map (·.1)) e1 x.own=e2
 refine gv (fun d=>∃t N4,d=⟨t, [],none,N4⟩/\Ky b1 t/\NT.get D4.e.a.b t=some vm/\Wk ck B m0 vc u L e2 0 N4/\Chg [ck] N3 N4) (fun R hR'=> ?_) ?_
 ·simp (disch:=first|assumption|omega) only[go_sem,seval,g1,g2,g3,g4,g5]
  refine Oj hcs hcl hk hW3 hvm.sl hdck (by omega) (v:=v) (s2:= .ptr b1 0) (i0:=i) (by simp only[go_sem,seval,g1]) (by simp only[go_sem,seval,g5]) (by simp only[go_sem,seval]) (by simp only[go_sem,seval,g2]) (by simp only[go_sem,seval,g3]) (by simp only[go_sem,seval,g4]) ?_
  intro t' N4 hW4 hC4 k1 k2 k3 k4 k5
  rw[Jo,he2] at hW4
  simp (disch:=first|assumption|omega) only[go_sem,seval]
  exact hR' _ ⟨_,N4,rfl,⟨k1,k3,k4,k5⟩,k2,hW4,hC4⟩
 clear g1 g2 g3 g4 g5
 rintro d ⟨t,N4,rfl,⟨g1,g2,g3,g4⟩,g5,hW4,hC4⟩
 change wp _ _ _ _ ⟨ai [] t, [],none,N4⟩ _
 have gb4:=(hC4.get ob3 (by simpa using hbck)).trans gb3
 have ob4:=hC4.old ob3
 have hvm4:=hvm.chg hC4 fun i hi=>by simp;rintro rfl;exact hdck hi
 have hdu:∀i∈ids vm,i∉ids u:=fun i hi hu=>hvm.new i hi (hW2.w.sl.old i hu)
 refine gv (fun d=>∃t N5 u5,d=⟨t, [],none,N5⟩/\Ky b1 t/\Wk ck B m0 vc u5 (x.own.foldl aL L) e2 0 N5/\Chg (ck::ids u) N4 N5/\bC N4 u u5) (fun R hR'=> ?_) ?_
 ·simp (disch:=first|assumption|omega) only[go_sem,seval,g1,g2,g3,g4,g5]
  refine Nw h0 hk hkB hvs hW4 hvm4 hdck hdu (by omega) (v:=v) (s2:= .ptr b1 0) (i0:=i) (by simp only[go_sem,seval,g1]) (by simp only[go_sem,seval,g5]) (by simp only[go_sem,seval]) (by simp only[go_sem,seval,g2]) (by simp only[go_sem,seval,g3]) (by simp only[go_sem,seval,g4]) ?_
  intro t' N5 u5 hW5 hC5 hF5 k1 k2 k3 k4
  rw[Er,List.foldl_nil] at hW5
  simp (disch:=first|assumption|omega) only[go_sem,seval]
  exact hR' _ ⟨_,N5,u5,rfl,⟨k1,k2,k3,k4⟩,hW5,hC5,hF5⟩
 clear g1 g2 g3 g4 g5
 rintro d ⟨t,N5,u5,rfl,⟨g1,g2,g3,g4⟩,hW5,hC5,hF5⟩
 change wp _ _ _ _ ⟨ai [] t, [],none,N5⟩ _
 have hbn:b1∉ck::ids u:=by rw[Rp,not_or];exact ⟨hbck,hbu⟩
 have gb5:=(hC5.get ob4 hbn).trans gb4
 have ob5:=hC5.old ob4
 have hbu5:b1∉ids u5:=fun h=>(hF5 _ h).elim hbu fun q=>q ob4
 have hN4:Chg [ck] N N4:=((((hC1.weak (T:= [ck]) (by simp)).trans hC2 fun _ h _=>h).trans hC3 (by simp)).trans hC4 fun _ h _=>h)
 have hN5:Chg (ck::ids u) N N5:=(hN4.weak (by simp)).trans hC5 fun _ h _=>h
 have hFN5:bC N u u5:=fun i hi=>(hF5 i hi).imp _root_.id fun q o=>q (hN4.old o)
 have hg5:=hW5.g
 have ho5:=hW5.o
 have hlen5:=hW5.w.sl.len
 rw[List.length_map] at hlen5
 have hfl:=cr x.own L
 have hL5:(x.own.foldl aL L).length<=n+x.own.length:=by omega
 generalize hLL:x.own.foldl aL L=L' at hW5 hlen5 hL5
 generalize he3:(if e2=0/\12<L'.length then (3:Int) else e2)=e3
 have herr:lh (cs.map (·.1)) L' x=e3:=by unfold lh;rw[he1,he2,he3]
 have hrd:(nX (cs.map (·.1)) ((L,n),none) x).1=((L',n+x.own.length),Ij x.a e3):=by
  unfold nX;dsimp only;rw[hLL,herr]
 refine gv (fun d=>∃t N6,d=⟨t, [],none,N6⟩/\Ky b1 t/\Wk ck B m0 vc u5 L' e3 0 N6/\Chg [ck] N5 N6) (fun R hR'=> ?_) ?_
 ·by_cases h2:e2=0
  ·rw[h2] at hg5
   by_cases h12:12<L'.length
   ·rw[Rj ⟨h2,h12⟩] at he3
    subst he3
    rw[←aa N5]
    simp (disch:=first|assumption|omega|(simp only[aI]<;>omega)) only[go_sem,seval,g1,g2,g3,g4,hg5,hlen5]
    generalize hM6:hp _ 0 N5=N6
    rw[h2] at hW5
    obtain ⟨hW6,hC6⟩:=hW5.set hk hM6
    exact hR' _ ⟨_,N6,rfl,⟨by simp only[go_sem,seval,g1],by simp only[go_sem,seval,g2],by simp only[go_sem,seval,g3],by simp only[go_sem,seval,g4]⟩,hW6,hC6⟩
   ·rw[Ri fun q=>h12 q.2] at he3
    subst he3
    simp (disch:=first|assumption|omega) only[go_sem,seval,g1,g2,g3,g4,hg5,hlen5]
    exact hR' _ ⟨_,N5,rfl,⟨by simp only[go_sem,seval,g1],by simp only[go_sem,seval,g2],by simp only[go_sem,seval,g3],by simp only[go_sem,seval,g4]⟩,hW5,(Chg.refl N5).weak (by simp)⟩
  ·rw[Ri fun q=>h2 q.1] at he3
   subst he3
   simp (disch:=first|assumption|omega) only[go_sem,seval,g1,g2,g3,g4,hg5,hlen5]
   exact hR' _ ⟨_,N5,rfl,⟨by simp only[go_sem,seval,g1],by simp only[go_sem,seval,g2],by simp only[go_sem,seval,g3],by simp only[go_sem,seval,g4]⟩,hW5,(Chg.refl N5).weak (by simp)⟩
 clear g1 g2 g3 g4 hg5 ho5 hlen5
 rintro d ⟨t,N6,rfl,⟨g1,g2,g3,g4⟩,hW6,hC6⟩
 change wp _ _ _ _ ⟨ai [] t, [],none,N6⟩ _
 have gb6:=(hC6.get ob5 (by simpa using hbck)).trans gb5
 have ob6:=hC6.old ob5
 have hN6:Chg (ck::ids u) N N6:=hN5.trans (hC6.weak (T:=ck::ids u) (by simp)) fun _ h _=>h
 have hg6:=hW6.g
 have ho6:=hW6.o
 have hall:=CP (Z:=cs.map (·.1)) (x:=x) (st:=((L,n),none)) rfl
 rw[hrd] at hall
 refine gv (fun d=>e3=0/\∃t,d=⟨t, [],none,N6⟩/\Ky b1 t) (fun R hR'=> ?_) ?_
 ·by_cases h3:e3=0
  ·rw[h3] at hg6
   simp (disch:=first|assumption|omega) only[go_sem,seval,g1,g2,g3,g4,hg6]
   exact hR' _ ⟨h3,_,rfl,by simp only[go_sem,seval,g1],by simp only[go_sem,seval,g2],by simp only[go_sem,seval,g3],by simp only[go_sem,seval,g4]⟩
  ·rw[show Ij x.a e3=some (x.a,e3) from Ri h3] at hall
   have hid:∀l,iE (cs.map (·.1)) l ((L',n+x.own.length),some (x.a,e3))=((L',n+x.own.length),some (x.a,e3)):=fun l=>Ri (by simp)
   rw[hid,hid] at hall
   rw[hall] at hF
   rw[←aa N6]
   simp (disch:=first|assumption|omega|(simp only[aI]<;>omega)) only[go_sem,seval,g1,g2,g3,g4,hg6,h3,gb6,t1]
   generalize hM7:hp _ 0 N6=N7
   obtain ⟨hW7,hC7⟩:=hW6.set hk hM7
   exact hF (by simp) _ N7 u5 hW7 (hN6.trans (hC7.weak (T:=ck::ids u) (by simp)) fun _ h _=>h) hFN5
 clear g1 g2 g3 g4
 rintro d ⟨h3,t,rfl,⟨g1,g2,g3,g4⟩⟩
 change wp _ _ _ _ ⟨ai [] t, [],none,N6⟩ _
 subst h3
 rw[show Ij x.a 0=none from Rj rfl] at hall
 have hrs:jO (none:Option (Int×Int))=0:=rfl
 have hra:xE (none:Option (Int×Int))=0:=rfl
 have hsze:=tc x
 rw[nU,List.flatMap_cons,List.length_append,List.flatMap_append,List.length_append] at hbud
 generalize hst8:iE (cs.map (·.1)) (if x.k=6∨x.k=7 then x.b else []) ((L',n+x.own.length),none)=st8 at hall
 have hw8:=Dw (Z:=cs.map (·.1)) (bg (if x.k=6∨x.k=7 then x.b else [])) ((L',n+x.own.length),none)
 rw[←kE,hst8] at hw8
 obtain ⟨q1,q2,q3⟩:=hw8
 dsimp only at q1 q3
 have t19:(x.l w)[19]? =some w.vb:=rfl
 have t20:(x.l w)[20]? =some w.ve:=rfl
 obtain ⟨Bb,hSb⟩:=hP.b
 obtain ⟨Be,hSe⟩:=hP.e
 refine gv (fun d=>∃t N8 u8,d=⟨t, [],none,N8⟩/\Ky b1 t/\Wk ck B m0 vc u8 st8.1.1 (jO st8.2) (xE st8.2) N8/\Chg (ck::ids u5) N6 N8/\bC N6 u5 u8) (fun R hR'=> ?_) ?_
 ·by_cases h67:x.k=6∨x.k=7
  ·rw[Rj h67] at hst8 hbud q1
   obtain ⟨N8,hr8,u8,hW8,hC8,hF8⟩:=hb hSb (st:=((L',n+x.own.length),none)) hW6 (fun h=>Rh rfl h) (by dsimp only;omega) (by dsimp only;omega) (by omega)
   rw[hst8] at hW8
   rcases h67 with h6|h7
   ·simp (disch:=first|assumption|omega) only[go_sem,seval,g1,g2,g3,g4,gb6,t0,t19,h6,hr8.wf']
    exact hR' _ ⟨_,N8,u8,rfl,⟨by simp only[go_sem,seval,g1],by simp only[go_sem,seval,g2],by simp only[go_sem,seval,g3],by simp only[go_sem,seval,g4]⟩,hW8,hC8,hF8⟩
   ·simp (disch:=first|assumption|omega) only[go_sem,seval,g1,g2,g3,g4,gb6,t0,t19,h7,hr8.wf']
    exact hR' _ ⟨_,N8,u8,rfl,⟨by simp only[go_sem,seval,g1],by simp only[go_sem,seval,g2],by simp only[go_sem,seval,g3],by simp only[go_sem,seval,g4]⟩,hW8,hC8,hF8⟩
  ·rw[Ri h67] at hst8
   have e8:st8=((L',n+x.own.length),none):=by rw[←hst8];rfl
   have d6:x.k≠6:=fun h=>h67 (Or.inl h)
   have d7:x.k≠7:=fun h=>h67 (Or.inr h)
   simp (disch:=first|assumption|omega) only[go_sem,seval,g1,g2,g3,g4,gb6,t0,t19,d6,d7]
   exact hR' _ ⟨_,N6,u5,rfl,⟨by simp only[go_sem,seval,g1],by simp only[go_sem,seval,g2],by simp only[go_sem,seval,g3],by simp only[go_sem,seval,g4]⟩,by rw[e8];exact hW6,(Chg.refl N6).weak (by simp),bC.refl N6 u5⟩
 clear g1 g2 g3 g4 hg6 ho6
 rintro d ⟨t,N8,u8,rfl,⟨g1,g2,g3,g4⟩,hW8,hC8,hF8⟩
 change wp _ _ _ _ ⟨ai [] t, [],none,N8⟩ _
 have hb5:b1∉ck::ids u5:=by rw[Rp,not_or];exact ⟨hbck,hbu5⟩
 have gb8:=(hC8.get ob6 hb5).trans gb6
 have ob8:=hC8.old ob6
 have hFC:∀{u9:NV} {N9:NH} {v9:NV} {M9:NH},Chg (ck::ids u) N M9->bC N u v9->Chg (ck::ids v9) M9 N9->bC M9 v9 u9->Chg (ck::ids u) N N9/\bC N u u9:=by
  intro u9 N9 v9 M9 c1 c2 c3 c4
  refine ⟨c1.trans c3 fun i hi ho=> ?_,fun i hi=> ?_⟩
  ·rcases List.mem_cons.1 hi with e|hi
   ·simp[e]
   ·exact (c2 i hi).elim (fun q=>by simp[q]) fun q=>Rh ho q
  ·exact (c4 i hi).elim (fun q=>c2 i q) fun q=>Or.inr fun o=>q (c1.old o)
 obtain ⟨hN8,hFN8⟩:=hFC hN6 hFN5 hC8 hF8
 by_cases h6:x.k=6
 ·rw[Rj h6] at hall hbud
  have hq:(bg (if x.k=6∨x.k=7 then x.b else [])).flatMap Stm.own=((if x.k=6∨x.k=7 then bg x.b else [])).flatMap Stm.own:=by rw[Rj (Or.inl h6),Rj (Or.inl h6)]
  rw[hq] at q1
  obtain ⟨N9,hr9,u9,hW9,hC9,hF9⟩:=he hSe (st:=st8) hW8 (fun h=>q2 h rfl) (q3 (by omega)) (by omega) (by omega)
  obtain ⟨hN9,hFN9⟩:=hFC hN8 hFN8 hC9 hF9
  rw[←hall] at hW9
  simp (disch:=first|assumption|omega) only[go_sem,seval,g1,g2,g3,g4,gb8,t0,t20,h6,hr9.wf']
  exact hN _ N9 u9 hW9 hN9 hFN9 (by simp only[go_sem,seval,g1]) (by simp only[go_sem,seval,g2]) (by simp only[go_sem,seval]<;>rfl)
 ·rw[Ri h6] at hall
  have e9:dS (cs.map (·.1)) x.all ((L,n),none)=st8:=by rw[hall];unfold iE;split<;>rfl
  rw[←e9] at hW8
  simp (disch:=first|assumption|omega) only[go_sem,seval,g1,g2,g3,g4,gb8,t0,t20,h6]
  exact hN _ N8 u8 hW8 hN8 hFN8 (by simp only[go_sem,seval,g1]) (by simp only[go_sem,seval,g2]) (by simp only[go_sem,seval]<;>rfl)
end
section
variable {ck:D4} {B m0:NH} {vc:NV} {cs:List (List Nat×Int)} {T:D4->Prop}
theorem AX {Z:List (List Nat)} {l:List Stm} {st:sj} (h:st.2≠none):iE Z l st=st:=Ri h
theorem ml (hcs:Sl m0 vc 2 (jH cs)) (hcl:cs.length<=1000000) (h0:∀i,am m0 i->am B i) (hk:¬am m0 ck) (hkB:¬am B ck) {l:List Stm} (ih:∀x∈l,mG ck B m0 vc cs T x.b/\mG ck B m0 vc cs T x.e):mG ck B m0 vc cs T l:=by
 intro v C N u st hS hW hne hle hbud hsz
 refine WF.ex1 fun K hK=> ?_
 refine WF.of_wpG (fun _=>rfl) Ad (L:= [(.a .e,v),(.e,.ptr ck 0)]) rfl ?_
 unfold Jl
 have hll:=lc l
 simp (disch:=first|assumption|omega) only[go_sem,seval,aa]
 refine W.loop (fun k d=>∃t M i u' st',d=⟨t, [],none,M⟩/\NT.get D4.e t=some (.ptr ck 0)/\NT.get D4.e.a t=some v/\NT.get D4.e.f t=some (ii (i:Nat))/\i+k=l.length/\iE (cs.map (·.1)) (l.drop i) st'=iE (cs.map (·.1)) l st/\Wk ck B m0 vc u' st'.1.1 (jO st'.2) (xE st'.2) M/\Chg (ck::ids u) N M/\bC N u u'/\(st'.2≠none->jO st'.2≠0)/\st'.1.1.length<=st'.1.2/\st'.1.2+((bg (l.drop i)).flatMap Stm.own).length<=100000000) ?_ l.length _ ⟨_,N,0,u,st,rfl,by simp only[go_sem,seval],by simp only[go_sem,seval],by simp only[go_sem,seval]<;>rfl,by omega,rfl,hW,(Chg.refl N).weak (by simp),bC.refl N u,hne,hle,hbud⟩
 rintro k d ⟨t,M,i,u',st',rfl,g1,g2,g3,hik,hE,hWM,hC,hF,hne',hle',hbud'⟩
 apply ao
 change wp _ _ _ _ ⟨ai [] t, [],none,M⟩ _
 have hSM:=hS.stays (lF hWM.c T)
 have hlen:=hSM.sl.len
 rw[hS.len] at hlen
 have hg:=hWM.g
 by_cases hi:i<l.length
 ·by_cases hs:st'.2=none
  ·obtain ⟨⟨L,n⟩,r⟩:=st'
   cases hs
   obtain ⟨w,hcx,hRx,hPx⟩:=FD hS i hi
   obtain ⟨id,off,wr,c,a1,a2,a3,a4,a5⟩:=Ec hSM i hi hcx
   have hsx:=z8 (List.getElem_mem hi)
   obtain ⟨h1,h2⟩:=ih _ (List.getElem_mem hi)
   rw[List.drop_eq_getElem_cons hi] at hE hbud'
   rw[Cp] at hE
   rw[bg,List.flatMap_append,List.length_append] at hbud'
   dsimp only at hbud' hle'
   obtain ⟨q1,q2,q3⟩:=Dw (Z:=cs.map (·.1)) l[i].all ((L,n),none)
   have hstep:∀{u9:NV} {N9:NH},Chg (ck::ids u') M N9->bC M u' u9->Chg (ck::ids u) N N9/\bC N u u9:=by
    intro u9 N9 c3 c4
    refine ⟨hC.trans c3 fun i hi ho=> ?_,fun i hi=> ?_⟩
    ·rcases List.mem_cons.1 hi with e|hi
     ·simp[e]
     ·exact (hF i hi).elim (fun q=>by simp[q]) fun q=>Rh ho q
    ·exact (c4 i hi).elim (fun q=>hF i q) fun q=>Or.inr fun o=>q (hC.old o)
   refine Gi hcs hcl h0 hk hkB hRx hPx h1 h2 (L:=L) (n:=n) hle' (by omega) (by omega) hWM (ln:=l.length) hi hlen (by omega) a1 a2 a3 a4 a5 g1 g2 g3 ?_ ?_
   ·intro t' N' u9 hW9 hC9 hF9 k1 k2 k3
    obtain ⟨r1,r2⟩:=hstep hC9 hF9
    exact ⟨k - 1,by omega,t',N',i+1,u9,_,rfl,k1,k2,k3,by omega,hE,hW9,r1,r2,fun h=>q2 h rfl,q3 hle',by dsimp only at q1;omega⟩
   ·intro hn t' N' u9 hW9 hC9 hF9
    obtain ⟨r1,r2⟩:=hstep hC9 hF9
    rw[AX hn] at hE
    rw[←hE] at hK
    simp (disch:=first|assumption|omega) only[go_sem,seval]
    exact hK _ ⟨u9,hW9,r1,r2⟩
  ·have hr:=hne' hs
   rw[AX hs] at hE
   rw[←hE] at hK
   generalize jO st'.2=z at hg hr hWM hK
   unfold kZ
   simp (disch:=first|assumption|omega) only[go_sem,seval,g1,g2,g3,hlen,hg]
   exact hK _ ⟨u',hWM,hC,hF⟩
 ·rw[List.drop_of_length_le (by omega)] at hE
  have e0:iE (cs.map (·.1)) [] st'=st':=by unfold iE;split<;>rfl
  rw[e0] at hE
  rw[←hE] at hK
  unfold kZ
  simp (disch:=first|assumption|omega) only[go_sem,seval,g1,g2,g3,hlen]
  exact hK _ ⟨u',hWM,hC,hF⟩
theorem Lx (hcs:Sl m0 vc 2 (jH cs)) (hcl:cs.length<=1000000) (h0:∀i,am m0 i->am B i) (hk:¬am m0 ck) (hkB:¬am B ck):∀l:List Stm,mG ck B m0 vc cs T l:=by
 have key:∀x:Stm,mG ck B m0 vc cs T x.b/\mG ck B m0 vc cs T x.e:=by
  apply Stm.ind
  intro k a nm ce i x y b e hb he
  exact ⟨ml hcs hcl h0 hk hkB hb,ml hcs hcl h0 hk hkB he⟩
 exact fun l=>ml hcs hcl h0 hk hkB fun x _=>key x
end
structure PrgOk (p:Prg):Prop where
 cs:CsOk p.cs
 zt:∀t∈p.ts,cI t.2<=400000
 zr:cI p.r<=400000
 gt:∀t∈p.ts,∀s∈t.2,Gs p.cs s
 gr:∀s∈p.r,Gs p.cs s
 nt:p.ts.length<=1000
theorem PrgOk.run {p:Prg} {B:NH} {vc vt vr:NV} (h:PrgOk p) (hr:RP B (fun _=>True) p vc vt vr):RunC p B vc vt vr:=⟨hr,h.cs,h.zt,h.zr,h.gt,h.gr,h.nt⟩
structure TsC (m0 M:NH) (T T':D4->Prop) (l:List (List Nat×List Stm)) (i:Nat) (C:List (List NV)):Prop where
 n:C.length=l.length
 a:∀(j:Nat) (x:List Nat×List Stm) (c:List NV),j<i->l[j]? =some x->C[j]? =some c->∃vb E,c= [.str x.1,vb]/\SS M T' vb x.2 E
 b:∀(j:Nat) (x:List Nat×List Stm) (c:List NV),i<=j->l[j]? =some x->C[j]? =some c->∃vb E,c= [.str x.1,vb]/\SS m0 T vb x.2 E
def vM (p:Prg):Mc:=⟨List.replicate (bn p.cs).toNat 0, [],false⟩
def LK (p:Prg) (m m':NH) (w:NV):Prop:=
 if (gl p).2≠0 then w= .tup [.nilp,ii (gl p).2]/\Chg [] m m'
 else ∃r B vc vt vr vcl vo vth q bs,w= .tup [.ptr r 0,ii 0]/\RunC p B vc vt vr/\Chg [] m B/\fE p B vc vt vr m' r (jJ p (vM p)) 0 vcl vo vth q bs/\Chg [] m m'/\∀i∈RunG.foot r vcl vo vth q bs,¬am m i
set_option maxHeartbeats 1000000 in
theorem Nc {m:NH} {T:D4->Prop} {p:Prg} {vc vt vr:NV} (h:RP m T p vc vt vr) (hs:p.cs.length<=100000/\p.ts.length<=100000) (hz:∀t∈p.ts,cI t.2<=400000) (hr:cI p.r<=400000) (hok:(gl p).2=0->PrgOk p):
 ∃w m',aS Tryz.prog S0 28 [.agg [vc,vt,vr]] m w m'/\LK p m m' w:=by
 refine WF.ex fun K' hK'=> ?_
 refine WF.of_wpG (fun _=>rfl) zV (L:= [(.e,.agg [vc,vt,vr])]) rfl ?_
 unfold JP
 obtain ⟨hcs,hts⟩:=hs
 generalize hM1:hp [(.n 0,.cells true [vc,vt,vr])] 1 m=M1
 have hC1:Chg [] m M1:=ba hM1 rfl
 have g1:M1.get (na m 0)=some (.cells true [vc,vt,vr]):=bz hM1
 have o1:am M1 (na m 0):=bw hM1 (by omega)
 have h1:=h.stays (lF hC1 T)
 obtain ⟨M2,r2,hC2⟩:=Pe h1 ⟨by omega,by omega⟩ (fun t ht=>by have:=hz t ht;omega) (by omega)
 have g2:=(hC2.get o1 (by simp)).trans g1
 have o2:=hC2.old o1
 have hCm2:=hC1.trans hC2 (by simp)
 unfold LK at hK'
 by_cases hE:(gl p).2≠0
 ·simp only[Rj hE] at hK'
  simp (disch:=first|assumption|omega|(simp only[aI]<;>omega)) only[go_sem,seval,hM1,g1,r2.wf']
  exact hK' _ _ ⟨rfl,hCm2⟩
 ·simp only[Ri hE] at hK'
  have hE0:(gl p).2=0:=by simpa using hE
  have hok:=hok hE0
  obtain ⟨CT,hT⟩:=h.t
  obtain ⟨CR,hR⟩:=h.r
  obtain ⟨vc1,M3,r3,ho3,hC3⟩:=NN (h.c.grew hCm2) (by simp;omega)
  have hCm3:=hCm2.trans hC3 (by simp)
  obtain ⟨vt1,M4,r4,ho4,hC4⟩:=OL (hT.sl.grew hCm3) (by rw[hT.len];omega)
  have hCm4:=hCm3.trans hC4 (by simp)
  obtain ⟨vr1,M5,r5,⟨ER,hR5⟩,hC5⟩:=yM p.r hR (lF hCm4 T) (by omega)
  have hCm5:=hCm4.trans hC5 (by simp)
  have hC25:=(hC3.trans hC4 (by simp)).trans hC5 (by simp)
  have g3:=(hC3.get o2 (by simp)).trans g2
  have g4:=((hC3.trans hC4 (by simp)).get o2 (by simp)).trans g2
  have g5:=(hC25.get o2 (by simp)).trans g2
  have o5:=hC25.old o2
  have k1:=h.c.one
  have k2:=hT.sl.one
  have k3:=hR.sl.one
  have k4:=ho3.sl.one
  have k5:=ho4.sl.one
  have k6:=hR5.sl.one
  have s1:=h.c.same (n:=3)
  have s2:=hT.sl.same (n:=3)
  have s3:=hR.sl.same (n:=3)
  have hlt:=ho4.sl.len
  rw[hT.len] at hlt
  simp (disch:=first|assumption|omega|(simp only[aI]<;>omega)) only[go_sem,seval,hM1,g1,r2.wf',g2,hE0,r3.wf',r4.wf',r5.wf,g3,g4,g5,k1,k2,k3,k4,k5,k6,s1,s2,s3,hlt]
  generalize hM6:hp _ 0 M5=M6
  have hC6:Chg [na m 0] M5 M6:=jR hM6 (by simp[aB])
  have g6:M6.get (na m 0)=some (.cells true [vc1,vt1,vr1]):=gL o5 hM6
  have o6:=hC6.old o5
  have hCm6:Chg [] m M6:=hCm5.trans hC6 fun i hi q=>by have hi:=one hi;subst hi;exact Rh q az
  have vt4:∀i∈ids vt1,¬am M3 i:=ho4.new
  have vt0:∀i∈ids vt1,i≠na m 0:=fun i hi e=>vt4 i hi (e▸hC3.old o2)
  have vto:∀i∈ids vt1,am M4 i:=ho4.sl.old
  have hv6:aU m M6 vt1 2 CT:=((ho4.chg hC5 fun _ _=>by simp).chg hC6 fun i hi q=>vt0 i hi (by simpa using q)).back fun i hi=>hCm3.old hi
  have hc6:Sl M6 vc1 2 (jH p.cs):=(ho3.sl.grew (hC4.trans hC5 (by simp))).chg hC6 fun i hi q=>ho3.new i hi (by have q:=one q;subst q;exact o2)
  have hcn:∀i∈ids vc1,am M3 i/\i≠na m 0:=fun i hi=>⟨ho3.sl.old i hi,fun e=>ho3.new i hi (e▸o2)⟩
  have hr6:SS M6 (fun i=>¬am M4 i) vr1 p.r ER:=hR5.stays (aX.of hC6 fun i q w=>by have w:=one w;subst w;exact q ((hC3.trans hC4 (by simp)).old o2))
  have o40:am M4 (na m 0):=(hC3.trans hC4 (by simp)).old o2
  refine W.loop (fun f d=>∃t M i D,d=⟨t, [],none,M⟩/\NT.get D4.e.a t=some (.ptr (na m 0) 0)/\NT.get D4.e.a.c.b t=some (ii (p.ts.length:Nat))/\NT.get D4.e.a.c.c t=some (ii (i:Nat))/\i+f=p.ts.length/\Chg (ids vt1) M6 M/\aU m M vt1 2 D/\Chg [] m M/\TsC m M T (fun i=>i∉ids vt1/\i≠na m 0) p.ts i D) ?_ p.ts.length _ ⟨_,M6,0,CT,rfl,by simp only[go_sem,seval],by simp only[go_sem,seval],by simp only[go_sem,seval]<;>rfl,by omega,(Chg.refl _).weak (by simp),hv6,hCm6,⟨hT.len,fun j x c q=>by omega,fun j x c _=>hT.R j x c⟩⟩
  clear hM6
  rintro f d ⟨t,M,i,D,rfl,t1,t2,t3,hif,hCM,ho,hC,hX⟩
  apply ao
  unfold yt
  change wp _ _ _ _ ⟨ai [] t, [],none,M⟩ _
  have gM:=(hCM.get o6 (fun q=>vt0 _ q rfl)).trans g6
  have oM:=hCM.old o6
  by_cases hi:i<p.ts.length
  ·have hiD:i<D.length:=by rw[hX.n];exact hi
   obtain ⟨id,off,cc,a1,a2,a3,a4,a5,a6,a7,a8⟩:=ho.at i hiD
   obtain ⟨vb,E,eD,hSb⟩:=hX.b i _ _ (Nat.le_refl _) (List.getElem?_eq_getElem hi) (List.getElem?_eq_getElem hiD)
   rw[eD] at a7 a8
   have c1:cc[off+1]? =some vb:=aA a7 1 (by omega)
   have hzt:=hz _ (List.getElem_mem hi)
   obtain ⟨vb',M7,r7,⟨E',hB⟩,hC7⟩:=yM _ hSb (lF hC T) (by omega)
   have g7:=(hC7.get oM (by simp)).trans gM
   have a47:=(hC7.get a5 (by simp)).trans a4
   have id7:=hC7.old a5
   have hb1:=hB.sl.one
   have hbs:=hSb.sl.same (n:=3)
   have hvs:=ho.sl.same (n:=3)
   simp (disch:=first|assumption|omega) only[go_sem,seval,t1,t2,t3,gM,a1,a4,c1,r7.wf',g7,a47,hb1,hbs,hvs]
   generalize hM8:M7.put id _=M8
   have hM8:M8=hp [(.o id,.cells true (cc.set (off+1) vb'))] 0 M7:=by rw[←hM8,←cg id7,aa]
   have hC8:Chg [id] M7 M8:=by rw[hM8];exact (cE _ _ _).weak (by simp[aB])
   have hCM8:Chg [id] M M8:=(hC7.weak (by simp)).trans hC8 fun i hi _=>hi
   have idv:id∈ids vt1:=by rw[a2];simp
   have h8:=a8 [(1,vb')] M8 (by simp) (by rw[hM8];exact (aF id7).trans ap) (hC8.old id7)
   refine ⟨f - 1,by omega,_,M8,i+1,D.set i [.str p.ts[i].1,vb'],by rfl,by simp only[go_sem,seval,t1],by simp only[go_sem,seval,t2],by simp only[go_sem,seval]<;>rfl,by omega,hCM.trans hCM8 fun j hj _=>by have hj:=one hj;subst hj;exact idv,h8,hC.trans hCM8 fun j hj q=>by have hj:=one hj;subst hj;exact Rh q a3,⟨by simp[hX.n],fun j x c hj h1 h2=> ?_,fun j x c hj h1 h2=> ?_⟩⟩
   ·by_cases e:j=i
    ·subst e
     rw[List.getElem?_set_self hiD] at h2
     rw[List.getElem?_eq_getElem hi] at h1
     cases h1;cases h2
     refine ⟨vb',E',rfl,(SS.weakT (fun j q=>⟨fun w=>q (ho.sl.old j w),fun w=>q (w▸oM)⟩) hB).stays (aX.of hC8 fun j q w=> ?_)⟩
     simp only[Rp,Rm,or_false] at w
     exact q.1 (w▸idv)
    ·rw[List.getElem?_set_ne (fun a=>e a.symm)] at h2
     obtain ⟨v2,E2,e2,hS2⟩:=hX.a j x c (by omega) h1 h2
     exact ⟨v2,E2,e2,hS2.stays (aX.of hCM8 fun j q w=>by simp only[Rp,Rm,or_false] at w;exact q.1 (w▸idv))⟩
   ·rw[List.getElem?_set_ne (by omega)] at h2
    exact hX.b j x c (by omega) h1 h2
  ·have e:i=p.ts.length:=by omega
   subst e
   have hcM:Sl M vc1 2 (jH p.cs):=hc6.chg hCM fun i hi q=>vt4 i q (hcn i hi).1
   have hRP:RP M (fun _=>True) p vc1 vt1 vr1:=⟨hcM,fun _ _=>trivial,⟨D,ho.sl,fun _ _=>trivial,hX.n,fun j x c h1 h2=>by
    obtain ⟨v2,E2,e2,hS2⟩:=hX.a j x c (List.getElem?_eq_some_iff.1 h1).1 h1 h2
    exact ⟨v2,E2,e2,SS.weakT (fun _ _=>trivial) hS2⟩⟩,⟨ER,SS.weakT (fun _ _=>trivial) (hr6.stays (aX.of hCM fun i q w=>q (vto i w)))⟩⟩
   have hRC:=hok.run hRP
   obtain ⟨M7,r7,hC7⟩:=Aj hcM (by omega)
   have hw:=dc p.cs
   obtain ⟨n,hn⟩:=Rr hw.1
   rw[hn] at r7
   have gM7:=(hC7.get oM (by simp)).trans gM
   have kc:=hcM.one
   have kt:=ho.sl.one
   have kr:=hr6.sl.one
   have ks:=hcM.same (n:=3)
   have kst:=ho.sl.same (n:=3)
   have ksr:=hr6.sl.same (n:=3)
   have kag:bj 4 (.agg [vc1,vt1,vr1]) (.agg [vc1,vt1,vr1])=true:=iQ fun w hw=>by
    simp only[Rp,Rm,or_false] at hw
    rcases hw with rfl|rfl|rfl
    ·exact hcM.flat
    ·exact ho.sl.flat
    ·exact hr6.sl.flat
   generalize hM8:hp [(.n 1,.cells true [vc1,vt1,vr1,.slc (na M7 0) 0 n 1 n,.nils,.nilp,.nils,.bool false,.bool false]),(.n 0,.cells true (rep n [iu 0]))] 2 M7=M8
   have hC8:Chg [] M7 M8:=ba hM8 rfl
   have hCM8:=hC7.trans hC8 (by simp)
   have nw:∀j,¬am M (na M7 j):=fun j q=>az (hC7.old q)
   have g81:M8.get (na M7 1)=some (.cells true [vc1,vt1,vr1,.slc (na M7 0) 0 n 1 n,.nils,.nilp,.nils,.bool false,.bool false]):=bz hM8
   have g80:M8.get (na M7 0)=some (.cells true (rep n [iu 0])):=bz hM8
   have o81:am M8 (na M7 1):=bw hM8 (by omega)
   have o80:am M8 (na M7 0):=bw hM8 (by omega)
   have e0:(vM p).cl=List.replicate n 0:=by unfold vM;rw[hn];rfl
   have hMac:Mac (fP vc1 vt1 vr1 .nilp .nils false) M M8 (na M7 1) (.slc (na M7 0) 0 n 1 n) .nils (vM p):=by
    refine ⟨g81,o81,nw 1, ?_,aU.nil,⟨by simp[ids,mF],by simp[ids],by simp[ids]⟩,hCM8⟩
    rw[e0]
    exact aU.of (by simp) (nw 0) g80 o80 (by rw[qM];simp) (by simp) (by simp)
   have hMok:McOk p.cs (vM p):=⟨fun y hy=>by rw[e0,List.mem_replicate] at hy;rw[hy.2];exact ⟨by simp,by simp⟩,by simp[vM],by rw[e0,List.length_replicate,hn]⟩
   obtain ⟨M9,r9,vth,q,bs,hQ,hE⟩:=uR hRC hMac hMok (o:=0) (by simp[vM])
   simp (disch:=first|assumption|omega|(simp only[aI]<;>omega)) only[go_sem,seval,t1,t2,t3,gM,r7.wf,gM7,kc,kt,kr,ks,kst,ksr,kag,hM8,r9.wf']
   exact hK' _ _ ⟨_,M,_,_,_,_,_,_,_,_,rfl,hRC,hC,hQ,hC.trans (hCM8.trans hE.c fun i hi w=>Rh w (hMac.old i hi).2) (by simp),fun i hi w=>(hQ.all i hi).2 (hC.old w)⟩
def nA (x:Rn):Bool:=x.ph&&x.th.all fun y=>decide (y.s=1)
section
variable {p:Prg} {B m m':NH} {vc vt vr vcl vo vth:NV} {r:D4} {x:Rn} {o:Nat} {q:Bl} {bs:List Bl}
theorem GR {q0:Bl} {bs0:List Bl} (hc:RunC p B vc vt vr) (h:fE p B vc vt vr m r x o vcl vo vth q0 bs0):
 ∃m',aS Tryz.prog S0 30 [.ptr r 0] m (.tup []) m'/\∃vth' q bs,fE p B vc vt vr m' r (jJ p x.z) o vcl vo vth' q bs/\EvF (RunG.foot r vcl vo vth q0 bs0) (RunG.foot r vcl vo vth' q bs) m m':=by
 refine WF.ex1 fun K' hK'=> ?_
 refine WF.of_wpG (fun _=>rfl) yL (L:= [(.e,.ptr r 0)]) rfl ?_
 unfold KB
 obtain ⟨m1,r1,vth1,q1,bs1,h1,e1⟩:=uR hc h.mc h.zk h.ol
 rw[aa]
 simp (disch:=first|assumption|omega) only[go_sem,seval,r1.wf']
 exact hK' _ ⟨vth1,q1,bs1,h1,e1.sup (fun i hi=>by simp only[RunG.foot,List.mem_append];exact Or.inl hi) fun j hj=>Or.inr hj⟩
theorem MN (h:fE p B vc vt vr m r x o vcl vo vth q bs) (ho:o<=1000000):
 ∃v m',aS Tryz.prog S0 34 [.ptr r 0] m v m'/\aU m m' v 1 (mP x.z.out)/\Chg [] m m':=by
 refine WF.ex fun K' hK'=> ?_
 refine WF.of_wpG (fun _=>rfl) AJ (L:= [(.e,.ptr r 0)]) rfl ?_
 unfold L4
 have g:=h.mc.g
 have hl:=h.ol
 obtain ⟨v,m1,r1,h1,hC⟩:=IK h.mc.ou.sl (by simp;omega)
 rw[aa]
 simp (disch:=first|assumption|omega) only[go_sem,seval,g,r1.wf']
 exact hK' _ _ ⟨h1,hC⟩
theorem DY (h:fE p B vc vt vr m r x o vcl vo vth q bs) (hn:x.z.cl.length<=1000000):
 ∃v m',aS Tryz.prog S0 35 [.ptr r 0] m v m'/\aU m m' v 1 (mP x.z.cl)/\Chg [] m m':=by
 refine WF.ex fun K' hK'=> ?_
 refine WF.of_wpG (fun _=>rfl) zU (L:= [(.e,.ptr r 0)]) rfl ?_
 unfold Ls
 have g:=h.mc.g
 obtain ⟨v,m1,r1,h1,hC⟩:=IK h.mc.cl.sl (by simp;omega)
 rw[aa]
 simp (disch:=first|assumption|omega) only[go_sem,seval,g,r1.wf']
 exact hK' _ _ ⟨h1,hC⟩
theorem G3 (h:fE p B vc vt vr m r x o vcl vo vth q bs):∃m',aS Tryz.prog S0 33 [.ptr r 0] m (.bool x.z.ill) m'/\Chg [] m m':=by
 refine WF.ex1 fun K' hK'=> ?_
 refine WF.of_wpG (fun _=>rfl) zu (L:= [(.e,.ptr r 0)]) rfl ?_
 unfold LY
 have g:=h.mc.g
 simp (disch:=first|assumption|omega) only[go_sem,seval,g]
 exact hK' _ (aC rfl)
theorem Id {b:D4} {pl nm vv:NV} {ns:List (List Nat)} {y:Bd} (h:Bod pD B m b pl nm vv ns y):∃m',aS Tryz.prog S0 60 [.ptr b 0] m (.bool (decide (y.s≠1))) m'/\Chg [] m m':=by
 refine WF.ex1 fun K' hK'=> ?_
 refine WF.of_wpG (fun _=>rfl) zf (L:= [(.e,.ptr b 0)]) rfl ?_
 unfold LQ
 have g:=h.g
 by_cases hs:y.s=1
 ·rw[Rk (by simpa using hs)] at hK'
  simp (disch:=first|assumption|omega) only[go_sem,seval,g]
  exact hK' _ (aC rfl)
 ·rw[Rl hs] at hK'
  simp (disch:=first|assumption|omega) only[go_sem,seval,g]
  exact hK' _ (aC rfl)
theorem Ib (h:fE p B vc vt vr m r x o vcl vo vth q bs) (hnt:p.ts.length<=1000):∃w m',aS Tryz.prog S0 99 [vth,.fn 60 []] m w m'/\(∃z,w=ii z/\(decide (0<=z)= !(x.th.all fun y=>decide (y.s=1))))/\Chg [] m m':=by
 refine WF.ex fun K' hK'=> ?_
 refine WF.of_wpG (fun _=>rfl) AH (L:= [(.a .e,.fn 60 []),(.e,vth)]) rfl ?_
 unfold KS
 have hlen:=h.tv.sl.len
 rw[List.length_map,h.ln.1,←h.ln.2] at hlen
 have hln:=h.ln
 simp (disch:=first|assumption|omega) only[go_sem,seval,aa,hlen]
 refine W.loop (fun f d=>∃t M i,d=⟨t, [],none,M⟩/\NT.get D4.e t=some vth/\NT.get D4.e.a t=some (.fn 60 [])/\NT.get D4.e.a.c t=some (ii (x.th.length:Nat))/\NT.get D4.e.a.f t=some (ii (i:Nat))/\i+f=x.th.length/\Chg [] m M/\(x.th.take i).all (fun y=>decide (y.s=1))=true) ?_ x.th.length _ ⟨_,m,0,rfl,by simp only[go_sem,seval],by simp only[go_sem,seval],by simp only[go_sem,seval],by simp only[go_sem,seval]<;>rfl,by omega,Chg.refl m,by simp⟩
 rintro f d ⟨t,M,i,rfl,t1,t2,t3,t4,hif,hC,hA⟩
 apply ao
 unfold zq
 change wp _ _ _ _ ⟨ai [] t, [],none,M⟩ _
 by_cases hi:i<x.th.length
 ·have hib:i<bs.length:=by omega
  obtain ⟨id,off,w,c,a1,a2,a3,a4,a5⟩:=h.tv.sl.at i (by simpa using hib)
  rw[List.getElem_map] at a5
  have c0:c[off]? =some (.ptr bs[i].b 0):=aA a5 0 (by omega)
  have a2M:=(hC.get a3 (by simp)).trans a2
  obtain ⟨hb,-⟩:=(h.grow hC).tb i bs[i] x.th[i] (List.getElem?_eq_getElem hib) (List.getElem?_eq_getElem hi)
  obtain ⟨M2,r2,hC2⟩:=Id hb
  have htk:(x.th.take (i+1)).all (fun y=>decide (y.s=1))=decide (x.th[i].s=1):=by
   rw[List.take_add_one,List.getElem?_eq_getElem hi,List.all_append,hA];simp
  by_cases hs:x.th[i].s=1
  ·rw[Rk (by simpa using hs)] at r2
   simp (disch:=first|assumption|omega) only[go_sem,seval,t1,t2,t3,t4,a1,a2M,c0,r2.wf']
   exact ⟨f - 1,by omega,_,M2,i+1,by rfl,by simp only[go_sem,seval,t1],by simp only[go_sem,seval,t2],by simp only[go_sem,seval,t3],by simp only[go_sem,seval]<;>rfl,by omega,hC.trans hC2 (by simp),by rw[htk];simpa using hs⟩
  ·rw[Rl hs] at r2
   simp (disch:=first|assumption|omega) only[go_sem,seval,t1,t2,t3,t4,a1,a2M,c0,r2.wf']
   refine hK' _ _ ⟨⟨i,rfl, ?_⟩,hC.trans hC2 (by simp)⟩
   rw[Rl (by omega)]
   symm
   rw[Bool.not_eq_true',List.all_eq_false]
   exact ⟨x.th[i],List.getElem_mem hi,by simpa using hs⟩
 ·simp (disch:=first|assumption|omega) only[go_sem,seval,t1,t2,t3,t4]
  rw[List.take_of_length_le (by omega)] at hA
  exact hK' _ _ ⟨⟨-1,rfl,by rw[hA];rfl⟩,hC⟩
theorem Ln (h:fE p B vc vt vr m r x o vcl vo vth q bs) (hnt:p.ts.length<=1000):∃m',aS Tryz.prog S0 32 [.ptr r 0] m (.bool (nA x)) m'/\Chg [] m m':=by
 refine WF.ex1 fun K' hK'=> ?_
 refine WF.of_wpG (fun _=>rfl) AU (L:= [(.e,.ptr r 0)]) rfl ?_
 unfold Mt
 have g:=h.mc.g
 obtain ⟨_,m1,r1,⟨z,rfl,hz⟩,hC⟩:=Ib h hnt
 have r2:∃m',aS Tryz.prog S0 59 [vth,.fn 60 []] m (.bool (!(x.th.all fun y=>decide (y.s=1)))) m'/\Chg [] m m':=by
  refine WF.ex1 fun K' hK'=> ?_
  refine WF.of_wpG (fun _=>rfl) zz (L:= [(.a .e,.fn 60 []),(.e,vth)]) rfl ?_
  unfold Ll
  rw[aa,←hz] at *
  by_cases h0:0<=z
  ·rw[Rl h0] at hK'
   simp (disch:=first|assumption|omega) only[go_sem,seval,r1.wf']
   exact hK' _ hC
  ·rw[Rk h0] at hK'
   simp (disch:=first|assumption|omega) only[go_sem,seval,r1.wf']
   exact hK' _ hC
 obtain ⟨m2,r2,hC2⟩:=r2
 unfold nA at hK'
 rw[aa]
 cases hp:x.ph with
 |true=>
  rw[hp] at hK' g
  simp (disch:=first|assumption|omega) only[go_sem,seval,g,r2.wf',Bool.not_not]
  simp only[Bool.true_and] at hK'
  exact hK' _ hC2
 |false=>
  rw[hp] at hK' g
  simp (disch:=first|assumption|omega) only[go_sem,seval,g]
  simp only[Bool.false_and] at hK'
  exact hK' _ (Chg.refl m)
end
section
variable {B m:NH} {b:D4} {pl nm vv:NV} {ns:List (List Nat)} {x:Bd} {cs:List (List Nat×Int)}
theorem AN (hC0:Chg [] B m) {vl:NV} {l:List Stm} {E:List (List NV)} (hS:SS B (fun _=>True) vl l E) (hz:cI l<=1000000):
 ∃w m',aS Tryz.prog S0 47 [vl] m w m'/\∃b pl nm vv,w= .ptr b 0/\Bod gO B m' b pl nm vv (locals l) (fT l)/\Chg [] m m'/\∀i∈bU b pl nm vv,¬am m i:=by
 refine WF.ex fun K' hK'=> ?_
 refine WF.of_wpG (fun _=>rfl) zT (L:= [(.e,vl)]) rfl ?_
 unfold Kw
 obtain ⟨nm,m1,r1,hn,hC1⟩:=DT hS hC0 (by omega)
 have hlen:=hn.sl.len
 rw[List.length_map] at hlen
 have hn1:=hn.sl.one
 have hv1:=hS.sl.one
 have hls:=lZ l
 rw[aa]
 simp (disch:=first|assumption|omega|(simp only[aI]<;>omega)) only[go_sem,seval,r1.wf,hlen,hn1,hv1]
 generalize hM:hp _ 3 m1=M
 have hC2:Chg [] m1 M:=ba hM rfl
 have g0:M.get (na m1 1)=some (.cells true [vl,ii 0]):=bz hM
 have g1:M.get (na m1 0)=some (.cells true (rep (locals l).length [iu 0])):=bz hM
 have g2:M.get (na m1 2)=some (.cells true (gO (.slc (na m1 1) 0 1 2 1) nm (.slc (na m1 0) 0 (locals l).length 1 (locals l).length) 0)):=bz hM
 have o0:am M (na m1 0):=bw hM (by omega)
 have o1:am M (na m1 1):=bw hM (by omega)
 have o2:am M (na m1 2):=bw hM (by omega)
 have hCm:=hC1.trans hC2 (by simp)
 have new:∀j,¬am m (na m1 j):=fun j q=>az (hC1.old q)
 have newB:∀j,¬am B (na m1 j):=fun j q=>new j (hC0.old q)
 have nno:∀j,na m1 j∉ids nm:=fun j q=>az (hn.sl.old _ q)
 refine hK' _ _ ⟨na m1 2,.slc (na m1 1) 0 1 2 1,nm,.slc (na m1 0) 0 (locals l).length 1 (locals l).length,rfl,⟨g2,o2,newB 2,⟨[[vl,ii 0]],aU.of (by simp) (newB 1) g0 o1 rfl rfl rfl,⟨rfl,fun j z c h1 h2=> ?_⟩⟩, ?_,(hn.chg hC2 fun _ _=>by simp).back fun i hi=>hC0.old hi, ?_, ?_, ?_,hC0.trans hCm (by simp)⟩,hCm, ?_⟩
 ·cases j with
  |zero=>cases h1;cases h2;exact ⟨vl,E,rfl,hS⟩
  |succ j=>simp[fT] at h1
 ·refine aU.of (by simp) (newB 0) g1 o0 (by rw[qM];simp[fT]) (by simp[fT]) (by simp[fT])
 ·simp only[ids,Rp,Rm,or_false,mF];exact ⟨by omega,by omega,nno 2⟩
 ·intro i hi;simp only[ids,Rp,Rm,or_false] at hi ⊢;subst hi;exact ⟨by rw[mF];omega,nno 1⟩
 ·intro i hi;simp only[ids,Rp,Rm,or_false] at hi;subst hi;exact nno 0
 ·intro i hi
  simp only[bU,ids,Rp,List.mem_append,Rm,or_false] at hi
  rcases hi with rfl|rfl|rfl|hi
  ·exact new 2
  ·exact new 1
  ·exact new 0
  ·exact hn.new i hi
theorem rC (h:Bod gO B m b pl nm vv ns x) (hk:BdOk cs ns x) (s:List Nat) (z:Int):
 ∃m',aS Tryz.prog S0 81 [.ptr b 0,.str s,iu z] m (.tup []) m'/\Bod gO B m' b pl nm vv ns ⟨x.K,kx ns x.v s z,x.s⟩/\EvF (bU b pl nm vv) (bU b pl nm vv) m m':=by
 have hln:=hk.ln
 have hlv:=hk.lv
 refine WF.ex1 fun K' hK'=> ?_
 refine WF.of_wpG (fun _=>rfl) yr (L:= [(.b .e,iu z),(.a .e,.str s),(.e,.ptr b 0)]) rfl ?_
 unfold JG
 have g:=h.g
 have hlen:=h.n.sl.len
 rw[List.length_map] at hlen
 simp (disch:=first|assumption|omega) only[go_sem,seval,aa]
 refine W.loop (fun f d=>∃t i,d=⟨t, [],none,m⟩/\NT.get D4.e t=some (.ptr b 0)/\NT.get D4.e.a t=some (.str s)/\NT.get D4.e.b t=some (iu z)/\NT.get D4.e.a.b t=some (ii (i:Nat))/\i+f=ns.length/\∀j (hj:j<i) (hl:j<ns.length),s≠ns[j]) ?_ ns.length _ ⟨_,0,rfl,by simp only[go_sem,seval],by simp only[go_sem,seval],by simp only[go_sem,seval],by simp only[go_sem,seval]<;>rfl,by omega,by omega⟩
 rintro f d ⟨t,i,rfl,t1,t2,t3,t4,hif,hn⟩
 apply ao
 unfold AE
 change wp _ _ _ _ ⟨ai [] t, [],none,m⟩ _
 by_cases hi:i<ns.length
 ·obtain ⟨idn,offn,wn,cn,d1,d2,d3,d4,d5⟩:=h.n.sl.at i (by simpa using hi)
  rw[List.getElem_map] at d5
  have e0:cn[offn]? =some (.str ns[i]):=aA d5 0 (by omega)
  by_cases hs:ns[i]=s
  ·obtain ⟨id,off,cc,a1,a2,a3,a4,a5,a6,a7,a8⟩:=h.v.at i (by rw[List.length_map];omega)
   have hfi:bH ns s=i:=fi hi hs.symm fun j hj=>hn j hj (by omega)
   have hde:decide (ns[i]=s)=true:=Rl hs
   simp (disch:=first|assumption|omega) only[go_sem,seval,t1,t2,t3,t4,g,hlen,d1,d2,e0,hde,a1,a4]
   generalize hM:m.put id _=M
   have hM:M=hp [(.o id,.cells true (cc.set off (iu z)))] 0 m:=by rw[←hM,←cg a5,aa]
   refine hK' _ ?_
   refine h.vals (by rw[hM,a2];exact (cE _ _ _).weak (by simp[aB])) ?_
   have:=a8 [(0,iu z)] M (by simp) (by rw[hM];exact (aF a5).trans ap) (by rw[hM];exact bJ a5)
   unfold kx
   rw[hfi,Rj (by omega),Int.toNat_natCast]
   show aU B M vv 1 ((x.v.set i z).map fun z=> [iu z])
   rw[List.map_set]
   rw[List.getElem_map] at this
   exact this
  ·have hde:decide (ns[i]=s)=false:=Rk hs
   simp (disch:=first|assumption|omega) only[go_sem,seval,t1,t2,t3,t4,g,hlen,d1,d2,e0,hde]
   refine ⟨f - 1,by omega,_,i+1,by rfl,by simp only[go_sem,seval,t1],by simp only[go_sem,seval,t2],by simp only[go_sem,seval,t3],by simp only[go_sem,seval]<;>rfl,by omega,fun j hj hl=> ?_⟩
   by_cases e:j=i
   ·subst e;exact fun q=>hs q.symm
   ·exact hn j (by omega) hl
 ·simp (disch:=first|assumption|omega) only[go_sem,seval,t1,t2,t3,t4,g,hlen]
  refine hK' _ ?_
  have hfi:bH ns s=-1:=dZ fun j hj=>hn j (by omega) hj
  unfold kx
  rw[hfi,Ri (by omega)]
  exact ⟨h,EvF.refl m⟩
theorem Kc (h:Bod gO B m b pl nm vv ns x) (hk:BdOk cs ns x):
 ∃m',aS Tryz.prog S0 79 [.ptr b 0] m (.bool (decide (bM x.K= []))) m'/\∃pl',Bod gO B m' b pl' nm vv ns ⟨bM x.K,x.v,x.s⟩/\EvF (bU b pl nm vv) (bU b pl' nm vv) m m':=by
 refine WF.ex1 fun K' hK'=> ?_
 refine WF.of_wpG (fun _=>rfl) yC (L:= [(.e,.ptr b 0)]) rfl ?_
 unfold Lc
 simp (disch:=first|assumption|omega) only[go_sem,seval,aa]
 refine W.loop (fun k d=>∃t M pl' K,d=⟨t, [],none,M⟩/\NT.get D4.e t=some (.ptr b 0)/\K.length=k/\bM K=bM x.K/\BdOk cs ns ⟨K,x.v,x.s⟩/\Bod gO B M b pl' nm vv ns ⟨K,x.v,x.s⟩/\EvF (bU b pl nm vv) (bU b pl' nm vv) m M) ?_ x.K.length _ ⟨_,m,pl,x.K,rfl,by simp only[go_sem,seval],rfl,rfl,hk,h,EvF.refl m⟩
 rintro k d ⟨t,M,pl',K,rfl,t1,hKk,hT,hk1,h1,hE⟩
 apply ao
 unfold Ab
 change wp _ _ _ _ ⟨ai [] t, [],none,M⟩ _
 have g:=h1.g
 obtain ⟨C,hP,hC⟩:=h1.p
 have hpl:=hP.sl.len
 rw[hC.n,List.length_reverse] at hpl
 cases K with
 |nil=>
  simp (disch:=first|assumption|omega) only[go_sem,seval,t1,g,hpl]
  rw[←hT] at hK'
  rw[Rl (show bM []= [] from rfl)] at hK'
  exact hK' _ ⟨pl',h1,hE⟩
 |cons y K=>
  obtain ⟨b1,b2,b3⟩:=hk1.bnd rfl
  simp only[List.reverse_cons] at hC
  obtain ⟨C0,c,rfl,hC0,vl,E,rfl,hS⟩:=hC.last
  have hn:=hC0.n
  rw[List.length_reverse] at hn
  obtain ⟨id,off,cc,a1,a2,a3,a4,a5,a6,a7,a8⟩:=hP.at C0.length (by simp)
  rw[List.getElem_append_right (by omega)] at a7
  simp only[Nat.sub_self,List.getElem_cons_zero] at a7
  have c0:cc[off+0]? =some vl:=aA a7 0 (by omega)
  have c1:cc[off+1]? =some (ii y.2):=aA a7 1 (by omega)
  have hlS:=hS.sl.len
  rw[hS.len] at hlS
  simp only[List.length_cons] at hKk hpl
  have e1:(((K.length+1:Nat):Int) - 1)=(C0.length:Nat):=by omega
  by_cases hy:y.2<y.1.length
  ·simp (disch:=first|assumption|omega) only[go_sem,seval,t1,g,hpl,e1,a1,a4,c0,c1,hlS]
   have e:bM (y::K)=y::K:=by rw[bM,Rj hy]
   rw[←hT,e,Rk (by simp)] at hK'
   exact hK' _ ⟨pl',h1,hE⟩
  ·have hPl:=hP
   obtain ⟨h0,⟨e,e'⟩|⟨idp,offp,kcp,cp,rfl,hbp,p1,p2,p3,p3',p4⟩⟩:=hPl
   ·simp at e'
   ·rw[←aa M]
    have hl2:(C0++ [[vl,ii y.2]]).length=C0.length+1:=by simp
    rw[hl2] at g a1
    have ob:=h1.o
    have e2:(((C0.length+1:Nat):Int) - 1)=(C0.length:Nat):=by omega
    simp (disch:=first|assumption|omega|(simp only[aI]<;>omega)) only[go_sem,seval,t1,g,e1,e2,a1,a4,c0,c1,hlS]
    generalize hM2:hp _ 0 M=M2
    rw[hl2] at h1
    obtain ⟨q1,q2⟩:=h1.cut (m':=M2) rfl (gL h1.o hM2) (jR hM2 (by simp[aB]))
    have e:bM (y::K)=bM K:=by rw[bM,Ri hy]
    rw[e] at hT
    rw[hl2] at hE
    exact ⟨K.length,by omega,_,M2,_,K,by rfl,by simp only[go_sem,seval,t1],rfl,hT,⟨oU hk1.ch,fun z hz=>hk1.gs z (List.mem_cons_of_mem _ hz),fun z hz=>hk1.pos z (List.mem_cons_of_mem _ hz),hk1.iv,hk1.ln,hk1.lv⟩,q1,hE.trans q2⟩
end
section
variable {B m:NH} {r b:D4} {vcl vo pl nm vv vc vt vr rec vth:NV} {ns:List (List Nat)} {x:Bd} {z:Mc} {cs:List (List Nat×Int)}
theorem AY {B:NH} {t:Stm} {W:SV} (h:SP B (fun _=>True) t W):bj 4 (.agg (t.l W)) (.agg (t.l W))=true:=by
 obtain ⟨_,_,e1,s1⟩:=h.i.inv'
 obtain ⟨_,_,e2,s2⟩:=h.x.inv'
 obtain ⟨_,_,e3,s3⟩:=h.y.inv'
 injection e1 with _ e1;injection e1 with _ e1;injection e1 with _ e1;injection e1 with _ e1;injection e1 with e1 _
 injection e2 with _ e2;injection e2 with _ e2;injection e2 with _ e2;injection e2 with _ e2;injection e2 with e2 _
 injection e3 with _ e3;injection e3 with _ e3;injection e3 with _ e3;injection e3 with _ e3;injection e3 with e3 _
 obtain ⟨_,hb⟩:=h.b
 obtain ⟨_,he⟩:=h.e
 refine iQ fun w hw=> ?_
 simp only[Rp,Rm,or_false] at hw
 rcases hw with rfl|rfl|rfl|rfl|rfl|rfl|rfl|rfl|rfl|rfl|rfl|rfl|rfl|rfl|rfl|rfl|rfl|rfl|rfl|rfl|rfl
 all_goals first|trivial|(rw[e1];exact s1.sl.flat)|(rw[e2];exact s2.sl.flat)|(rw[e3];exact s3.sl.flat)|exact hb.sl.flat|exact he.sl.flat
theorem Ir (hM:Mac (fR vc vt vr rec vth) B m r vcl vo z) (hb:Bod gO B m b pl nm vv ns x) (hk:BdOk cs ns x) (hc:Sl B vc 2 (jH cs)) (hcs:CsOk cs) {t:Stm} {W:SV} (hSP:SP B (fun _=>True) t W) (hce:t.ce∈cs.map (·.1)) (hwi:Wid t.i):
 ∃m',aS Tryz.prog S0 121 [.ptr r 0,.ptr b 0,.agg (t.l W)] m (ii (jL cs (t.i.eval ns x.v) t)) m'/\Chg [] m m':=by
 obtain ⟨i,hi,hl⟩:=C9 hce
 refine WF.ex1 fun K' hK'=> ?_
 refine WF.of_wpG (fun _=>rfl) tF (L:= [(.b .e,.agg (t.l W)),(.a .e,.ptr b 0),(.e,.ptr r 0)]) rfl ?_
 unfold D7
 have hlen:=hcs.len
 generalize hM1:hp [(.n 0,.cells true (t.l W))] 1 m=M1
 have hC1:Chg [] m M1:=ba hM1 rfl
 have q1:M1.get (na m 0)=some (.cells true (t.l W)):=bz hM1
 have u1:am M1 (na m 0):=bw hM1 (by omega)
 have hb1:=hb.grow hC1
 have hm1:=hM.grow hC1
 have r1:=sr (hc.grew hm1.c) (by omega) t.ce
 rw[hi] at r1
 obtain ⟨m2,r2,hC2⟩:=oL t.i hSP.i (lF hm1.c _) hwi (hb1.env hk)
 have hm2:=hm1.grow hC2
 have hb2:=hb1.grow hC2
 obtain ⟨m3,r3,hC3⟩:=Qq (hc.grew hm2.c) (by omega) (i:Int)
 have q2:=(hC2.get u1 (by simp)).trans q1
 obtain ⟨idc,offc,wc,ccs,e1,e2,e3,e4,e5⟩:=hc.at i (by simpa using hl)
 rw[List.getElem_map] at e5
 have s1:ccs[offc+1]? =some (ii cs[i].2):=aA e5 1 (by omega)
 have hsz:=hcs.sz _ (List.getElem_mem hl)
 have g1:=hm1.g
 have g2:=hm2.g
 have gb1:=hb1.g
 have gb2:=hb2.g
 have e11:=(hm1.c.get e3 (by simp)).trans e2
 have e12:=(hm2.c.get e3 (by simp)).trans e2
 have hwt:=pg (t.i.eval ns x.v) hi hl
 have hat:=DA hl
 have hev:=dC (ns:=ns) hk.iv t.i hwi
 have h64:(cs[i].2 - 1) % 18446744073709551616=cs[i].2 - 1:=by omega
 have hand:=Am hev (show dK (cs[i].2 - 1) by unfold dK;omega)
 have hW:=dc (cs.take i)
 have hW2:=nO cs i
 have hW3:=dc cs
 have hq:=Nv hW.1 (by omega)
 have hle:=Nat.and_le_right (n:=(t.i.eval ns x.v).toNat) (m:=(cs[i].2 - 1).toNat)
 have hsI:=cD hSP.i
 have hvc:=hc.same (n:=3)
 have hnn:=hb.n.sl.same (n:=3)
 have hvv:=hb.v.sl.same (n:=3)
 simp (disch:=first|assumption|omega|(simp only[aI]<;>omega)) only[go_sem,seval,hM1,g1,g2,gb1,gb2,q1,q2,r1.wf',r2.wf',r3.wf',e1,e11,e12,s1,h64,hand,hat,hq,hsI,hvc,hnn,hvv]
 rw[hwt] at hK'
 exact hK' _ ((hC1.trans hC2 (by simp)).trans hC3 (by simp))
theorem Ou (hM:Mac (fR vc vt vr rec vth) B m r vcl vo z) (hb:Bod gO B m b pl nm vv ns x) (hd:∀i∈bD r vcl vo,i∉bU b pl nm vv) (hk:BdOk cs ns x) (hc:Sl B vc 2 (jH cs)) (hcs:CsOk cs) (hz:McOk cs z) (ho:z.out.length<=1000000) {t:Stm} {W:SV} (hSP:SP B (fun _=>True) t W) (hG:Gs cs t) (ht:t.k=1∨t.k=2∨t.k=3∨t.k=5):
 ∃m',aS Tryz.prog S0 82 [.ptr r 0,.ptr b 0,.agg (t.l W)] m (.tup []) m'/\∃vo',Mac (fR vc vt vr rec vth) B m' r vcl vo' (fV cs ns t x z).2/\Bod gO B m' b pl nm vv ns (fV cs ns t x z).1/\EvF (bD r vcl vo++bU b pl nm vv) (bD r vcl vo'++bU b pl nm vv) m m'/\∀i∈bD r vcl vo',i∉bU b pl nm vv:=by
 refine WF.ex1 fun K' hK'=> ?_
 refine WF.of_wpG (fun _=>rfl) zJ (L:= [(.b .e,.agg (t.l W)),(.a .e,.ptr b 0),(.e,.ptr r 0)]) rfl ?_
 unfold Md
 obtain ⟨g1,g2,g3,g4⟩:=jz hG
 generalize hM0:hp [(.n 0,.cells true (t.l W))] 1 m=M0
 have hC0:Chg [] m M0:=ba hM0 rfl
 have q0:M0.get (na m 0)=some (.cells true (t.l W)):=bz hM0
 have u0:am M0 (na m 0):=bw hM0 (by omega)
 have hb0:=hb.grow hC0
 have hm0:=hM.grow hC0
 have gb0:=hb0.g
 obtain ⟨m1,r1,hC1⟩:=oL t.x hSP.x (lF hm0.c _) g3 (hb0.env hk)
 have hb1:=hb0.grow hC1
 have hm1:=hm0.grow hC1
 have q1:=(hC1.get u0 (by simp)).trans q0
 have u1:=hC1.old u0
 have gb1:=hb1.g
 have gm1:=hm1.g
 have hsX:=cD hSP.x
 have hsY:=cD hSP.y
 have hsT:=AY hSP
 have hnn:=hb.n.sl.same (n:=3)
 have hvv:=hb.v.sl.same (n:=3)
 have hcv:=hM.cl.sl.same (n:=3)
 have hC01:=hC0.trans hC1 (by simp)
 have hbB:∀i∈bU b pl nm vv,¬am B i:=fun i hi=>(hb.old i hi).2
 have hMB:∀i∈bD r vcl vo,¬am B i:=fun i hi=>(hM.old i hi).2
 have hd':∀i∈bU b pl nm vv,i∉bD r vcl vo:=fun i hi q=>hd i q hi
 have hna:na m 0∉bU b pl nm vv:=fun q=>az (hb.old _ q).1
 have hna2:na m 0∉bD r vcl vo:=fun q=>az (hM.old _ q).1
 unfold fV at hK'
 by_cases h5:t.k=5
 ·have h1:t.k≠1:=by omega
  have h2:t.k≠2:=by omega
  have h3:t.k≠3:=by omega
  simp only[Ri h1,Ri h2,Ri h3,Rj h5] at hK'
  have hvo:=hM.ou.sl.one
  have sb:=t.x.eval ns x.v
  simp (disch:=first|assumption|omega|(simp only[aI]<;>omega)) only[go_sem,seval,hM0,q0,gb0,gb1,q1,hsX,hnn,hvv,r1.wf,gm1,hvo]
  have hC2:Chg [] m1 (hp [(.n 0,.cells true [iu (t.x.eval ns x.v)])] 1 m1):=aC rfl
  have hM2:=hm1.grow hC2
  refine fm (cs:= [iu (t.x.eval ns x.v)]) hM2.ou bo (bv (by omega)) rfl (fun i hi=>hM2.c.old hi) (by simp;omega) (by simp;omega) ?_
  intro vo' M3 hO3 hC3 hF3
  have hvoB:∀i∈ids vo,¬am B i:=fun i hi=>hMB i (by simp[bD,hi])
  have hC23:Chg [] B M3:=hM2.c.trans hC3 fun i hi ho=>Rh ho (hvoB i hi)
  have g3':=(hC3.get hM2.o hM.d.2.1).trans hM2.g
  have o3:=hC3.old hM2.o
  have hvo':=hO3.sl.one
  simp (disch:=first|assumption|omega|(simp only[aI]<;>omega)) only[go_sem,seval,g3',hvo']
  generalize hM4:M3.put r _=M4
  have hM4:M4=hp [(.o r,.cells true (fR vc vt vr rec vth vcl vo' z.ill))] 0 M3:=by rw[←hM4,←cg o3,aa]
  have hC4:Chg [r] M3 M4:=by rw[hM4];exact (cE _ _ _).weak (by simp[aB])
  have hrv:r∉ids vo':=fun q=>(hF3 r q).elim hM.d.2.1 fun q=>q hM2.o
  have hvn:∀i∈ids vo',i∈ids vo∨¬am m i:=fun i hi=>(hF3 i hi).imp id fun q ho=>q (hC2.old (hC01.old ho))
  have hEv:EvF (bD r vcl vo) (bD r vcl vo') m M4:=by
   refine ⟨((((hC01.trans hC2 (by simp)).weak (T:=bD r vcl vo) (by simp)).trans hC3 fun i hi _=>by simp[bD,hi]).trans hC4 fun i hi _=>by have hi:=one hi;subst hi;simp[bD]),fun j hj=> ?_⟩
   simp only[bD,Rp,List.mem_append] at hj ⊢
   rcases hj with hj|hj|hj
   ·exact Or.inl (Or.inl hj)
   ·exact Or.inl (Or.inr (Or.inl hj))
   ·exact (hvn j hj).imp (fun q=>Or.inr (Or.inr q)) id
  have hn4:∀{v:NV} {C:List (List NV)},aU B M3 v 1 C->r∉ids v->aU B M4 v 1 C:=fun ho hr=>ho.chg hC4 fun i hi q=>by have q:=one q;subst q;exact hr hi
  refine hK' _ ⟨vo',⟨by rw[hM4];exact (aF o3).trans ap,hC4.old o3,hM.nB,hn4 (hM2.cl.chg hC3 fun i hi=>hM.d.2.2 i hi) hM.d.1, ?_,⟨hM.d.1,hrv,fun i hi q=>(hF3 i q).elim (hM.d.2.2 i hi) fun q=>q (hM2.cl.sl.old i hi)⟩,hC23.trans hC4 fun i hi ho=> ?_⟩,hb.ev hEv hd' hMB,hEv.addL _,fun i hi q=> ?_⟩
  ·have:=hn4 hO3 hrv
   show aU B M4 vo' 1 ((z.out++ [t.x.eval ns x.v]).map fun z=> [iu z])
   rw[List.map_append]
   exact this
  ·have hi:=one hi;subst hi;exact Rh ho hM.nB
  ·simp only[bD,Rp,List.mem_append] at hi
   rcases hi with hi|hi|hi
   ·exact hd i (by simp[bD,hi]) q
   ·exact hd i (by simp[bD,hi]) q
   ·exact (hvn i hi).elim (fun p=>hd i (by simp[bD,p]) q) fun p=>p (hb.old i q).1
 ·have h123:t.k=1∨t.k=2∨t.k=3:=by omega
  obtain ⟨m2,r2,hC2⟩:=Ir hm1 hb1 hk hc hcs hSP (g1 h123) g2
  obtain ⟨w1,w2⟩:=kD hcs (g1 h123) (t.i.eval ns x.v)
  obtain ⟨n,hn⟩:=Rr w1
  have hzn:=hz.n
  have hnl:n<z.cl.length:=by omega
  rw[hn] at r2 hK'
  simp only[Int.toNat_natCast,List.getElem?_eq_getElem hnl,Option.getD_some] at hK'
  have hm2:=hm1.grow hC2
  have hb2:=hb1.grow hC2
  have q2:=(hC2.get u1 (by simp)).trans q1
  have u2:=hC2.old u1
  have gm2:=hm2.g
  have gb2:=hb2.g
  have hC02:=hC01.trans hC2 (by simp)
  rcases h123 with h|h|h
  ·simp only[Rj h] at hK'
   obtain ⟨id,off,w,c',a1,-⟩:=hm2.cl.sl.at n (by simpa using hnl)
   obtain ⟨hid,cc,c1,c2,c3,c4,-⟩:=hm2.put hnl 0 a1
   obtain ⟨m3,r3,hb3,e3⟩:=rC hb2 hk t.nm z.cl[n]
   have hm3:=hm2.ev e3 hd hbB
   have q3:=(e3.c.get u2 hna).trans q2
   have gm3:=hm3.g
   have c13:=(e3.c.get c2 (hd id (by simp[bD,hid]))).trans c1
   simp (disch:=first|assumption|omega|(simp only[aI]<;>omega)) only[go_sem,seval,hM0,q0,gb0,gb1,q1,hsX,hsT,hnn,hvv,hcv,r1.wf',gm1,r2.wf',q2,gm2,a1,c1,c4,r3.wf',q3,gm3,c13]
   exact hK' _ ⟨vo,hm3,hb3,(EvF.pre hC02 e3).addR _,hd⟩
  ·have h1:t.k≠1:=by omega
   simp only[Ri h1,Rj h] at hK'
   obtain ⟨id,off,w,c',a1,-⟩:=hm2.cl.sl.at n (by simpa using hnl)
   obtain ⟨hid,cc,c1,c2,c3,c4,hput⟩:=hm2.put hnl (t.x.eval ns x.v) a1
   simp (disch:=first|assumption|omega|(simp only[aI]<;>omega)) only[go_sem,seval,hM0,q0,gb0,gb1,q1,hsX,hsT,hnn,hvv,hcv,r1.wf',gm1,r2.wf',q2,gm2,a1,c1,c4]
   generalize hM3:m2.put id _=M3
   obtain ⟨u1',u2'⟩:=hput M3 hM3.symm
   exact hK' _ ⟨vo,u1',hb2.ev u2' hd' hMB,(EvF.pre hC02 u2').addL _,hd⟩
  ·have h1:t.k≠1:=by omega
   have h2:t.k≠2:=by omega
   simp only[Ri h1,Ri h2,Rj h] at hK'
   obtain ⟨id,off,w,c',a1,-⟩:=hm2.cl.sl.at n (by simpa using hnl)
   by_cases hq:z.cl[n]=t.x.eval ns x.v
   ·simp only[Rj hq] at hK'
    obtain ⟨hid,cc0,d1,d2,d3,d4,-⟩:=hm2.put hnl 0 a1
    obtain ⟨m3,r3,hC3⟩:=oL t.y hSP.y (lF hm2.c _) g4 (hb2.env hk)
    have hm3:=hm2.grow hC3
    have hb3:=hb2.grow hC3
    have gm3:=hm3.g
    have gb3:=hb3.g
    have q3:=(hC3.get u2 (by simp)).trans q2
    have u3:=hC3.old u2
    obtain ⟨-,cc,c1,c2,c3,c4,hput⟩:=hm3.put hnl (t.y.eval ns x.v) a1
    have hde:decide (z.cl[n]=t.x.eval ns x.v)=true:=Rl hq
    simp (disch:=first|assumption|omega|(simp only[aI]<;>omega)) only[go_sem,seval,hM0,q0,gb0,gb1,q1,hsX,hsY,hsT,hnn,hvv,hcv,r1.wf',gm1,r2.wf',q2,gm2,gb2,a1,d1,d4,hde,r3.wf',gm3,gb3,q3,c1,c4]
    generalize hM4:m3.put id _=M4
    obtain ⟨u1',u2'⟩:=hput M4 hM4.symm
    have hb4:=hb3.ev u2' hd' hMB
    obtain ⟨m5,r5,hb5,e5⟩:=rC hb4 hk t.nm 1
    have hM5:=u1'.ev e5 hd hbB
    have q4:=(u2'.c.get u3 hna2).trans q3
    simp (config:={maxSteps:=1000000}) (disch:=first|assumption|omega|(apply bv;omega)|(apply bJ;assumption)|(simp only[aI]<;>omega)) only[go_sem,seval,q4,r5.wf']
    exact hK' _ ⟨vo,hM5,hb5,(EvF.pre (hC02.trans hC3 (by simp)) (u2'.addL _)).trans (e5.addR _),hd⟩
   ·simp only[Ri hq] at hK'
    obtain ⟨hid,cc0,d1,d2,d3,d4,-⟩:=hm2.put hnl 0 a1
    obtain ⟨m3,r3,hb3,e3⟩:=rC hb2 hk t.nm 0
    have hm3:=hm2.ev e3 hd hbB
    have hde:decide (z.cl[n]=t.x.eval ns x.v)=false:=Rk hq
    simp (disch:=first|assumption|omega|(simp only[aI]<;>omega)) only[go_sem,seval,hM0,q0,gb0,gb1,q1,hsX,hsT,hnn,hvv,hcv,r1.wf',gm1,r2.wf',q2,gm2,gb2,a1,d1,d4,hde,r3.wf']
    exact hK' _ ⟨vo,hm3,hb3,(EvF.pre hC02 e3).addR _,hd⟩
end
section
variable {mk:NV->NV->NV->Int->List NV} {B m m1 M2:NH} {r b:D4} {vcl vo pl pl' nm vv vc vt vr rec vth:NV} {ns:List (List Nat)} {x:Bd} {z:Mc} {cs:List (List Nat×Int)}
theorem Bod.tops (h:Bod mk B m b pl nm vv ns x) {y:List Stm×Nat} {K:lB} (hK:x.K=y::K):∃id off cc vl E,fU 2 pl (ii (K.length:Nat))= .val (.ptr id off)/\ids pl= [id]/\m.get id=some (.cells true cc)/\am m id/\off+2<=cc.length/\cc[off+0]? =some vl/\cc[off+1]? =some (ii y.2)/\SS B (fun _=>True) vl y.1 E/\
 ∀(qi:Int) (q:Nat) (M:NH),qi=q->M=m.put id (.cells true (cc.set (off+1) (ii qi)))->Bod mk B M b pl nm vv ns ⟨(y.1,q)::K,x.v,x.s⟩/\EvF (bU b pl nm vv) (bU b pl nm vv) m M/\M.get id=some (.cells true (cc.set (off+1) (ii qi)))/\Chg [id] m M:=by
 obtain ⟨C,hP,hC⟩:=h.p
 rw[hK,List.reverse_cons] at hC
 obtain ⟨C0,c,rfl,hC0,vl,E,rfl,hS⟩:=hC.last
 have hn:=hC0.n
 rw[List.length_reverse] at hn
 obtain ⟨id,off,cc,a1,a2,a3,a4,a5,a6,a7,a8⟩:=hP.at C0.length (by simp)
 rw[List.getElem_append_right (by omega)] at a7 a8
 simp only[Nat.sub_self,List.getElem_cons_zero] at a7 a8
 rw[hn] at a1
 refine ⟨id,off,cc,vl,E,a1,a2,a4,a5,a6,aA a7 0 (by omega),aA a7 1 (by omega),hS,fun qi q M hq hM=> ?_⟩
 have hM:M=hp [(.o id,.cells true (cc.set (off+1) (ii qi)))] 0 m:=by rw[hM,←cg a5,aa]
 have hg:M.get id=some (.cells true (cc.set (off+1) (ii qi))):=by rw[hM];exact (aF a5).trans ap
 have hCh:Chg [id] m M:=by rw[hM];exact (cE _ _ _).weak (by simp[aB])
 obtain ⟨u1,u2⟩:=h.rows (K':=(y.1,q)::K) (by rw[a2];exact hCh) ⟨C0++ [[vl,ii qi]],by
  have:=a8 [(1,ii qi)] M (by simp) hg (hCh.old a5)
  rw[List.set_append_right _ _ (by omega),Nat.sub_self] at this
  exact this,by rw[List.reverse_cons];exact hC0.app ⟨vl,E,by rw[hq],hS⟩⟩
 exact ⟨u1,u2,hg,hCh⟩
theorem Bod.push (h:Bod mk B m b pl nm vv ns x) (hC1:Chg [] m m1) {C:List (List NV)} {v:NV} {l:List Stm} {E:List (List NV)} (hCk:StkC B x.K.reverse C) (hP2:aU B M2 pl' 2 (C++ [[v,ii 0]])) (hC2:Chg (ids pl) m1 M2) (hF2:∀i∈ids pl',i∈ids pl∨¬am m1 i) (hS:SS B (fun _=>True) v l E) {M:NH} (hM:M=M2.put b (.cells true (mk pl' nm vv x.s))):
 Bod mk B M b pl' nm vv ns ⟨(l,0)::x.K,x.v,x.s⟩/\EvF (bU b pl nm vv) (bU b pl' nm vv) m M:=by
 have ob2:=hC2.old (hC1.old h.o)
 have hM:M=hp [(.o b,.cells true (mk pl' nm vv x.s))] 0 M2:=by rw[hM,←cg ob2,aa]
 have hC3:Chg [b] M2 M:=by rw[hM];exact (cE _ _ _).weak (by simp[aB])
 have hCm2:Chg (ids pl) m M2:=(hC1.weak (by simp)).trans hC2 fun i hi _=>hi
 have hbp:b∉ids pl':=fun q=>(hF2 b q).elim h.d1.1 fun q=>q (hC1.old h.o)
 have hCm:Chg (bU b pl nm vv) m M:=(hCm2.weak fun i hi _=>by simp[bU,hi]).trans hC3 fun i hi _=>by have hi:=one hi;subst hi;simp[bU]
 refine h.putP (x':=⟨(l,0)::x.K,x.v,x.s⟩) ?_ hCm ⟨_,hP2.chg hC3 fun i hi q=> ?_, ?_⟩ ?_ ?_ ?_ rfl
 ·rw[hM];exact (aF ob2).trans ap
 ·have q:=one q;subst q;exact hbp hi
 ·rw[List.reverse_cons]
  exact hCk.app ⟨v,E,rfl,hS⟩
 ·exact (h.v.chg hCm2 fun i hi q=>(h.d2 i q).1 hi).chg hC3 fun i hi q=>by have q:=one q;subst q;exact h.d1.2.1 hi
 ·intro i hi
  have ho:=h.n.sl.old i hi
  exact (hC3.get (hCm2.old ho) (fun q=>by have q:=one q;subst q;exact h.d1.2.2 hi)).trans (hCm2.get ho fun q=>(h.d2 i q).2 hi)
 ·exact fun i hi=>(hF2 i hi).imp id fun q ho=>q (hC1.old ho)
theorem CJ (t:Stm) (K:lB) (v:List Int) (s:Int) (K':lB):fV cs ns t ⟨K',v,s⟩ z=(⟨K',(fV cs ns t ⟨K,v,s⟩ z).1.v,(fV cs ns t ⟨K,v,s⟩ z).1.s⟩,(fV cs ns t ⟨K,v,s⟩ z).2):=by
 unfold fV
 split
 ·rfl
 split
 ·rfl
 split
 ·split<;>rfl
 split<;>rfl
def CM (x:Bd):Prop:=x.s=0∨(x.s=1/\x.K= [])∨x.s=2
theorem JC:∀(k:Nat) (x:Bd) (z:Mc),x.s=0->CM (qX cs ns k x z).2.1:=by
 intro k
 induction k with
 |zero=>
  intro x z h
  rw[qX]
  split
  ·exact Or.inr (Or.inl ⟨rfl,rfl⟩)
  ·exact Or.inr (Or.inr rfl)
 |succ k ih=>
  intro x z h
  rw[qX]
  split
  ·exact Or.inr (Or.inl ⟨rfl,rfl⟩)
  ·split
   ·exact Or.inl ((vT _).2.trans h)
   ·refine ih _ _ ?_
    rw[←h]
    unfold dU
    split
    ·rfl
    split
    ·split<;>rfl
    split<;>rfl
theorem zS (h:CM x):CM (bZ cs ns x z).2.1:=by
 unfold bZ
 split
 ·exact JC _ _ _ ‹_›
 ·exact h
set_option maxHeartbeats 4000000 in
set_option maxRecDepth 20000 in
theorem IN (hc:Sl B vc 2 (jH cs)) (hcs:CsOk cs) {o:Nat} (ho:o<=1000000) (h3:CM x) (h:ct (fR vc vt vr rec vth) gO B m m cs ns r b (bD r vcl vo++bU b pl nm vv) vcl vo pl nm vv x z o):
 ∃m',aS Tryz.prog S0 49 [.ptr r 0,.ptr b 0] m (.bool (bZ cs ns x z).1) m'/\∃vo' pl',ct (fR vc vt vr rec vth) gO B m m' cs ns r b (bD r vcl vo++bU b pl nm vv) vcl vo' pl' nm vv (bZ cs ns x z).2.1 (bZ cs ns x z).2.2 (o+1):=by
 refine WF.ex1 fun K' hK'=> ?_
 refine WF.of_wpG (fun _=>rfl) AI (L:= [(.a .e,.ptr b 0),(.e,.ptr r 0)]) rfl ?_
 unfold Kt
 generalize hR:bZ cs ns x z=R at hK'
 generalize hF0:bD r vcl vo++bU b pl nm vv=F0 at h hK'
 simp (disch:=first|assumption|omega|(simp only[aI]<;>omega)) only[go_sem,seval,aa]
 refine W.loop (fun k d=>∃t M pl vo x z n,d=⟨t, [],none,M⟩/\NT.get D4.e t=some (.ptr r 0)/\NT.get D4.e.a t=some (.ptr b 0)/\NT.get D4.e.a.a t=some (ii (n:Nat))/\ct (fR vc vt vr rec vth) gO B m M cs ns r b F0 vcl vo pl nm vv x z o/\((x.s=0/\n+k=1001/\n<=1000/\qX cs ns (1000 - n) x z=R)∨(x.s≠0/\CM x/\(false,x,z)=R))) ?_ 1001 _ ⟨_,m,pl,vo,x,z,0,rfl,by simp only[go_sem,seval],by simp only[go_sem,seval],by simp only[go_sem,seval]<;>rfl,h, ?_⟩
 ·clear h hF0 hR h3
  rintro k d ⟨t,M,pl,vo,x,z,n,rfl,t1,t2,t3,h,hh⟩
  apply ao
  unfold AG
  change wp _ _ _ _ ⟨ai [] t, [],none,M⟩ _
  have ob:=h.bd.o
  by_cases hs2:x.s=2
  ·rcases hh with ⟨hs,-⟩|⟨hs,hst,hR⟩
   ·omega
   ·have g:M.get b=some (.cells true [nm,vv,pl,.bool true,.bool false]):=h.bd.g.trans (by rw[hs2];rfl)
    rw[←aa M]
    simp (disch:=first|assumption|omega|(simp only[aI]<;>omega)) only[go_sem,seval,t1,t2,t3,g]
    generalize hM2:hp _ 0 M=M2
    obtain ⟨hb2,e2⟩:=h.bd.state (s':=2) (m':=M2) (gL ob hM2) (jR hM2 (by simp[aB]))
    subst hR
    have ex:(⟨x.K,x.v,2⟩:Bd)=x:=by rw[←hs2]
    rw[ex] at hb2
    exact hK' _ ⟨vo,pl,h.mc.ev e2 h.dj fun i hi=>(h.bd.old i hi).2,hb2,h.dj,h.bk,h.zk,Nat.le_succ_of_le h.ol,h.ev.trans (e2.addR _)⟩
  ·obtain ⟨M1,r1,pl1,hb1,e1⟩:=Kc h.bd h.bk
   have hdd:∀i∈bD r vcl vo,i∉bU b pl1 nm vv:=fun i hi q=>(e1.f i q).elim (h.dj i hi) fun q=>q (h.mc.old i hi).1
   have hM1:=h.mc.ev e1 h.dj fun i hi=>(h.bd.old i hi).2
   have hk1:=h.bk.trim
   have gM:=hM1.g
   have oB:=hb1.o
   have oM:=hM1.o
   have hrb:r≠b:=fun e=>hdd r (by simp[bD]) (by rw[e];simp[bU])
   have g:M.get b=some (.cells true [nm,vv,pl,.bool false,.bool (decide (x.s=1))]):=h.bd.g.trans (by simp[gO,hs2])
   have g1:M1.get b=some (.cells true [nm,vv,pl1,.bool false,.bool (decide (x.s=1))]):=hb1.g.trans (by simp[gO,hs2])
   cases hT:bM x.K with
   |nil=>
    rw[hT,Rl rfl] at r1
    rw[hT] at hb1 hk1
    simp (disch:=first|assumption|omega|(simp only[aI]<;>omega)) only[go_sem,seval,t1,t2,t3,g,r1.wf,g1]
    generalize hM2:hp _ 0 M1=M2
    obtain ⟨hb2,e2⟩:=hb1.state (s':=1) (m':=M2) (gL oB hM2) (jR hM2 (by simp[aB]))
    have hR:(false,(⟨[],x.v,1⟩:Bd),z)=R:=by
     rcases hh with ⟨hs,-,-,hR⟩|⟨hs,hst,hR⟩
     ·rw[zy hT] at hR;exact hR
     ·rcases hst with q|⟨q1,q2⟩|q
      ·exact Rh q hs
      ·rw[←hR];obtain ⟨K,v,s⟩:=x;simp only at q1 q2;subst q1 q2;rfl
      ·exact Rh q hs2
    subst hR
    exact hK' _ ⟨vo,pl1,hM1.ev e2 hdd fun i hi=>(hb1.old i hi).2,hb2,hdd,⟨hk1.ch,hk1.gs,hk1.pos,hk1.iv,hk1.ln,hk1.lv⟩,h.zk,Nat.le_succ_of_le h.ol,(h.ev.trans (e1.addR _)).trans (e2.addR _)⟩
   |cons y K=>
    rw[hT,Rk (by simp)] at r1
    rw[hT] at hb1 hk1
    obtain ⟨hs,hnk,hn,hR⟩:x.s=0/\n+k=1001/\n<=1000/\qX cs ns (1000 - n) x z=R:=by
     rcases hh with q|⟨q1,q2,-⟩
     ·exact q
     ·rcases q2 with q|⟨-,q⟩|q
      ·exact Rh q q1
      ·rw[q] at hT;cases hT
      ·exact Rh q hs2
    by_cases h1000:n=1000
    ·subst h1000
     rw[tU hT] at hR
     have hbr:=hrb.symm
     simp (disch:=first|assumption|omega|(simp only[aI]<;>omega)) only[go_sem,seval,t1,t2,t3,g,r1.wf,g1,gM]
     generalize hMe:hp _ 0 M1=Me
     have hMe:Me=((M1.put b (.cells true (gO pl1 nm vv 2))).put r (.cells true (fR vc vt vr rec vth vcl vo true))).put b (.cells true (gO pl1 nm vv 2)):=by
      rw[←hMe,←aa M1,cg oB,cg oM,cg oB,aa]
      rfl
     generalize hMa:M1.put b (.cells true (gO pl1 nm vv 2))=Ma at hMe
     have hMa:Ma=hp [(.o b,.cells true (gO pl1 nm vv 2))] 0 M1:=by rw[←hMa,←cg oB,aa]
     obtain ⟨hba,ea⟩:=hb1.state (s':=2) (m':=Ma) (by rw[hMa];exact (aF oB).trans ap) (by rw[hMa];exact (cE _ _ _).weak (by simp[aB]))
     have hma:=hM1.ev ea hdd fun i hi=>(hb1.old i hi).2
     have oMa:=hma.o
     generalize hMb:Ma.put r (.cells true (fR vc vt vr rec vth vcl vo true))=Mb at hMe
     have hMb:Mb=hp [(.o r,.cells true (fR vc vt vr rec vth vcl vo true))] 0 Ma:=by rw[←hMb,←cg oMa,aa]
     obtain ⟨hmb,eb⟩:=hma.sick (m':=Mb) (by rw[hMb];exact (aF oMa).trans ap) (by rw[hMb];exact (cE _ _ _).weak (by simp[aB]))
     have hbb:=hba.ev eb (fun i hi q=>hdd i q hi) fun i hi=>(hma.old i hi).2
     have oBb:=hbb.o
     have hMe:Me=hp [(.o b,.cells true (gO pl1 nm vv 2))] 0 Mb:=by rw[hMe,←cg oBb,aa]
     obtain ⟨hbe,ee⟩:=hbb.state (s':=2) (m':=Me) (by rw[hMe];exact (aF oBb).trans ap) (by rw[hMe];exact (cE _ _ _).weak (by simp[aB]))
     have hme:=hmb.ev ee hdd fun i hi=>(hbb.old i hi).2
     subst hR
     exact hK' _ ⟨vo,pl1,hme,hbe,hdd,⟨hk1.ch,hk1.gs,hk1.pos,hk1.iv,hk1.ln,hk1.lv⟩,⟨h.zk.iv,h.zk.io,h.zk.n⟩,Nat.le_succ_of_le h.ol,(((h.ev.trans (e1.addR _)).trans (ea.addR _)).trans (eb.addL _)).trans (ee.addR _)⟩
    ·have e1000:1000 - n=(999 - n)+1:=by omega
     obtain ⟨bb1,bb2,bb3⟩:=hk1.bnd rfl
     have hy:y.2<y.1.length:=by
      have:∀K0:lB,bM K0=y::K->y.2<y.1.length:=by
       intro K0
       induction K0 with
       |nil=>intro q;cases q
       |cons a K0 ih=>
        intro q
        rw[bM] at q
        split at q
        ·cases q;assumption
        ·exact ih q
      exact this _ hT
     have hGs:=hk1.gs y (by simp) _ (List.getElem_mem hy)
     obtain ⟨id,off,cc,vl,E,a1,a2,a3,a4,a5,c0,c1,hS,hset⟩:=hb1.tops rfl
     obtain ⟨w,hw,idt,offt,wrt,c,W,rfl,p1,p2,p3,p4,hSP⟩:=hS.ptr y.2 hy
     have p11:=(hM1.c.get p2 (by simp)).trans p1
     rw[e1000,up hT,DG hy] at hR
     have hbe:=IJ y.1[y.2]
     have hzm:=yg (List.getElem_mem hy)
     have hcq:=hk1.quiet (y:=y) (K:=K) rfl hy
     generalize y.1[y.2]=tt at *
     have hpl:=(hb1.p.choose_spec.1).sl.len
     rw[(hb1.p.choose_spec.2).n,List.length_reverse,List.length_cons] at hpl
     have hpl1:(((K.length+1:Nat):Int) - 1)=(K.length:Nat):=by omega
     have hvls:=hS.sl.same (n:=3)
     have hpls:=(hb1.p.choose_spec.1).sl.same (n:=3)
     generalize hM2:hp [(.n 0,.cells true (tt.l W)),(.n 0,.cells true [ii 0,ii 0,.str [],.str [],ii 0,iu 0,ib 0,.str [],.nils,ii 0,iu 0,ib 0,.str [],.nils,ii 0,iu 0,ib 0,.str [],.nils,.nils,.nils])] 1 M1=M2
     have hC2:Chg [] M1 M2:=ba hM2 rfl
     have q2:M2.get (na M1 0)=some (.cells true (tt.l W)):=bz hM2
     have u2:am M2 (na M1 0):=bw hM2 (by omega)
     have hb2:=hb1.grow hC2
     have hm2:=hM1.grow hC2
     obtain ⟨id',off',cc',vl',E',b1,b2,b3,b4,b5,d0,d1,-,hset2⟩:=hb2.tops rfl
     rw[a1] at b1
     cases b1
     obtain ⟨M3,hM3⟩:∃M3,M3=M2.put id (.cells true (cc'.set (off+1) (ii ((y.2:Int)+1)))):=⟨_,rfl⟩
     obtain ⟨hb3,e3,b33,hC3⟩:=hset2 _ (y.2+1) M3 (by omega) hM3
     have hm3:=hm2.ev e3 hdd fun i hi=>(hb2.old i hi).2
     have hnid:na M1 0≠id:=fun e=>az (e▸a4)
     have q3:=(hC3.get u2 (by simpa using hnid)).trans q2
     have u3:=hC3.old u2
     have g3:M3.get b=some (.cells true [nm,vv,pl1,.bool false,.bool (decide (x.s=1))]):=hb3.g.trans (by simp[gO,hs2])
     have hk3:BdOk cs ns ⟨(y.1,y.2+1)::K,x.v,x.s⟩:=hk1.pass rfl hy
     obtain ⟨gg1,gg2,gg3,gg4⟩:=jz hGs
     obtain ⟨M4,r4,hC4⟩:=oL tt.x hSP.x (lF hm3.c _) gg3 (hb3.env hk3)
     have hb4:=hb3.grow hC4
     have hm4:=hm3.grow hC4
     have q4:=(hC4.get u3 (by simp)).trans q3
     have u4:=hC4.old u3
     have g4:M4.get b=some (.cells true [nm,vv,pl1,.bool false,.bool (decide (x.s=1))]):=hb4.g.trans (by simp[gO,hs2])
     have hsX:=cD hSP.x
     have hnn:=hb1.n.sl.same (n:=3)
     have hvv:=hb1.v.sl.same (n:=3)
     have eF:EvF F0 (bD r vcl vo++bU b pl1 nm vv) m M4:=(((h.ev.trans (e1.addR _)).post hC2).trans (e3.addR _)).post hC4
     have hids4:∀j∈ids pl1,j≠na M1 0:=fun j hj e=>az (e▸(hb1.p.choose_spec.1).sl.old j hj)
     by_cases k0:tt.k=0
     ·rw[Ri (by unfold iz;omega)] at hR
      unfold dU at hR hcq
      rw[Ri (by omega),Ri (by omega),Rj k0] at hR hcq
      obtain ⟨M5,r5,hC5⟩:=oL tt.x hSP.x (lF hm4.c _) gg3 (hb4.env hk3)
      have hb5:=hb4.grow hC5
      have hm5:=hm4.grow hC5
      have q5:=(hC5.get u4 (by simp)).trans q4
      have g5:M5.get b=some (.cells true [nm,vv,pl1,.bool false,.bool (decide (x.s=1))]):=hb5.g.trans (by simp[gO,hs2])
      obtain ⟨M6,r6,hb6,e6⟩:=rC hb5 hk3 tt.nm (tt.x.eval ns x.v)
      have q6:=(e6.c.get (hC5.old u4) (fun w=>az (hb1.old _ w).1)).trans q5
      simp (disch:=first|assumption|omega|(simp only[aI]<;>omega)) only[go_sem,seval,t1,t2,t3,g,r1.wf,g1,hpl,hpl1,a1,a3,c0,c1,hw,p11,p4,hM2,b3,d1,hM3.symm,q3,g3,hsX,hnn,hvv,hvls,hpls,r4.wf',q4,g4,r5.wf',q5,g5,r6.wf',q6]
      exact ⟨k - 1,by omega,_,M6,pl1,vo,_,z,n+1,by rfl,by simp only[go_sem,seval,t1],by simp only[go_sem,seval,t2],by simp only[go_sem,seval]<;>rfl,⟨hm5.ev e6 hdd fun i hi=>(hb5.old i hi).2,hb6,hdd,hcq,h.zk,h.ol,(eF.post hC5).trans (e6.addR _)⟩,Or.inl ⟨hs,by omega,by omega,by rw[show 1000 - (n+1)=999 - n by omega];exact hR⟩⟩
     by_cases k6:tt.k=6
     ·rw[Ri (by unfold iz;omega)] at hR
      unfold dU at hR hcq
      rw[Rj k6] at hR hcq
      obtain ⟨C4,hP4,hCk4⟩:=hb4.p
      have hn4:=hCk4.n
      rw[List.length_reverse,List.length_cons] at hn4
      have hC5:∀v,Chg [] M4 (hp [(.n 0,.cells true [v,ii 0])] 1 M4):=fun v=>aC rfl
      obtain ⟨Eb,hSb⟩:=hSP.b
      obtain ⟨Ee,hSe⟩:=hSP.e
      have hvb:=hSb.sl.one
      have hve:=hSe.sl.one
      have hvbs:=hSb.sl.same (n:=3)
      have hves:=hSe.sl.same (n:=3)
      by_cases hz:tt.x.eval ns x.v≠0
      ·rw[Rj hz] at hR hcq
       simp (disch:=first|assumption|omega|(simp only[aI]<;>omega)) only[go_sem,seval,t1,t2,t3,g,r1.wf,g1,hpl,hpl1,a1,a3,c0,c1,hw,p11,p4,hM2,b3,d1,hM3.symm,q3,g3,hsX,hnn,hvv,hvls,hpls,r4.wf,q4,g4,hvb,hvbs]
       have hC5':=hC5 W.vb
       refine cZ (cs:= [W.vb,ii 0]) (hP4.chg hC5' fun _ _=>by simp) bo (bv (by omega)) rfl (fun i hi=>hC5'.old (hb4.c.old hi)) (by omega) (by omega) ?_
       intro pl6 M6 hP6 hC6 hF6
       have g6:M6.get b=some (.cells true [nm,vv,pl1,.bool false,.bool (decide (x.s=1))]):=((hC6.get (hC5'.old hb4.o) hb4.d1.1).trans ((hb4.grow hC5').g)).trans (by simp[gO,hs2])
       have q6:=(hC6.get (hC5'.old u4) (fun w=>hids4 _ w rfl)).trans ((hC5'.get u4 (by simp)).trans q4)
       have hp6:=hP6.sl.one
       simp (disch:=first|assumption|omega|(simp only[aI]<;>omega)) only[go_sem,seval,aa,g6,q6,hp6,t3]
       generalize hM7:M6.put b _=M7
       obtain ⟨hb7,e7⟩:=hb4.push hC5' hCk4 hP6 hC6 hF6 hSb (M:=M7) (by rw[←hM7];simp[gO,hs])
       have hdd7:∀i∈bD r vcl vo,i∉bU b pl6 nm vv:=fun i hi q=>(e7.f i q).elim (hdd i hi) fun q=>q (hm4.old i hi).1
       exact ⟨k - 1,by omega,_,M7,pl6,vo,_,z,n+1,by rfl,by simp only[go_sem,seval,t1],by simp only[go_sem,seval,t2],by simp only[go_sem,seval]<;>rfl,⟨hm4.ev e7 hdd fun i hi=>(hb4.old i hi).2,hb7,hdd7,hcq,h.zk,h.ol,eF.trans (e7.addR _)⟩,Or.inl ⟨hs,by omega,by omega,by rw[show 1000 - (n+1)=999 - n by omega];exact hR⟩⟩
      ·rw[Ri hz] at hR hcq
       simp (disch:=first|assumption|omega|(simp only[aI]<;>omega)) only[go_sem,seval,t1,t2,t3,g,r1.wf,g1,hpl,hpl1,a1,a3,c0,c1,hw,p11,p4,hM2,b3,d1,hM3.symm,q3,g3,hsX,hnn,hvv,hvls,hpls,r4.wf,q4,g4,hve,hves]
       have hC5':=hC5 W.ve
       refine cZ (cs:= [W.ve,ii 0]) (hP4.chg hC5' fun _ _=>by simp) bo (bv (by omega)) rfl (fun i hi=>hC5'.old (hb4.c.old hi)) (by omega) (by omega) ?_
       intro pl6 M6 hP6 hC6 hF6
       have g6:M6.get b=some (.cells true [nm,vv,pl1,.bool false,.bool (decide (x.s=1))]):=((hC6.get (hC5'.old hb4.o) hb4.d1.1).trans ((hb4.grow hC5').g)).trans (by simp[gO,hs2])
       have q6:=(hC6.get (hC5'.old u4) (fun w=>hids4 _ w rfl)).trans ((hC5'.get u4 (by simp)).trans q4)
       have hp6:=hP6.sl.one
       simp (disch:=first|assumption|omega|(simp only[aI]<;>omega)) only[go_sem,seval,aa,g6,q6,hp6,t3]
       generalize hM7:M6.put b _=M7
       obtain ⟨hb7,e7⟩:=hb4.push hC5' hCk4 hP6 hC6 hF6 hSe (M:=M7) (by rw[←hM7];simp[gO,hs])
       have hdd7:∀i∈bD r vcl vo,i∉bU b pl6 nm vv:=fun i hi q=>(e7.f i q).elim (hdd i hi) fun q=>q (hm4.old i hi).1
       exact ⟨k - 1,by omega,_,M7,pl6,vo,_,z,n+1,by rfl,by simp only[go_sem,seval,t1],by simp only[go_sem,seval,t2],by simp only[go_sem,seval]<;>rfl,⟨hm4.ev e7 hdd fun i hi=>(hb4.old i hi).2,hb7,hdd7,hcq,h.zk,h.ol,eF.trans (e7.addR _)⟩,Or.inl ⟨hs,by omega,by omega,by rw[show 1000 - (n+1)=999 - n by omega];exact hR⟩⟩
     by_cases k7:tt.k=7
     ·rw[Ri (by unfold iz;omega)] at hR
      unfold dU at hR hcq
      rw[Ri k6,Rj k7] at hR hcq
      by_cases hz:tt.x.eval ns x.v≠0
      ·rw[Rj hz] at hR hcq
       obtain ⟨id4,off4,cc4,vl4,E4,f1,f2,f3,f4,f5,f6,f7,-,hset4⟩:=hb4.tops rfl
       rw[a1] at f1
       cases f1
       obtain ⟨M5,hM5⟩:∃M5,M5=M4.put id (.cells true (cc4.set (off+1) (ii (((y.2+1:Nat):Int) - 1)))):=⟨_,rfl⟩
       obtain ⟨hb5,e5,-,hC45⟩:=hset4 _ y.2 M5 (by omega) hM5
       have hm5:=hm4.ev e5 hdd fun i hi=>(hb4.old i hi).2
       have q5:=(hC45.get u4 (by simpa using hnid)).trans q4
       have u5:=hC45.old u4
       have g5:M5.get b=some (.cells true [nm,vv,pl1,.bool false,.bool (decide (x.s=1))]):=hb5.g.trans (by simp[gO,hs2])
       have hM5':M4.put id (.cells true (cc4.set (off+1) (ii (((y.2+1:Nat):Int) - 1))))=hp [] 0 M5:=by rw[aa,hM5]
       obtain ⟨C4,hP4,hCk4⟩:=hb5.p
       have hn4:=hCk4.n
       rw[List.length_reverse,List.length_cons] at hn4
       have hC5:∀v,Chg [] M5 (hp [(.n 0,.cells true [v,ii 0])] 1 M5):=fun v=>aC rfl
       obtain ⟨Eb,hSb⟩:=hSP.b
       have hvb:=hSb.sl.one
       have hvbs:=hSb.sl.same (n:=3)
       have eF5:=eF.trans (e5.addR _)
       simp (disch:=first|assumption|omega|(simp only[aI]<;>omega)) only[go_sem,seval,t1,t2,t3,g,r1.wf,g1,hpl,hpl1,a1,a3,c0,c1,hw,p11,p4,hM2,b3,d1,hM3.symm,q3,g3,hsX,hnn,hvv,hvls,hpls,r4.wf',q4,g4,f3,f7,hM5',q5,g5,hvb,hvbs]
       have hC5':=hC5 W.vb
       refine cZ (cs:= [W.vb,ii 0]) (hP4.chg hC5' fun _ _=>by simp) bo (bv (by omega)) rfl (fun i hi=>hC5'.old (hb5.c.old hi)) (by omega) (by omega) ?_
       intro pl6 M6 hP6 hC6 hF6
       have g6:M6.get b=some (.cells true [nm,vv,pl1,.bool false,.bool (decide (x.s=1))]):=((hC6.get (hC5'.old hb5.o) hb5.d1.1).trans ((hb5.grow hC5').g)).trans (by simp[gO,hs2])
       have q6:=(hC6.get (hC5'.old u5) (fun w=>hids4 _ w rfl)).trans ((hC5'.get u5 (by simp)).trans q5)
       have hp6:=hP6.sl.one
       simp (disch:=first|assumption|omega|(simp only[aI]<;>omega)) only[go_sem,seval,aa,g6,q6,hp6,t3]
       generalize hM7:M6.put b _=M7
       obtain ⟨hb7,e7⟩:=hb5.push hC5' hCk4 hP6 hC6 hF6 hSb (M:=M7) (by rw[←hM7];simp[gO,hs])
       have hdd7:∀i∈bD r vcl vo,i∉bU b pl6 nm vv:=fun i hi q=>(e7.f i q).elim (hdd i hi) fun q=>q (hm5.old i hi).1
       exact ⟨k - 1,by omega,_,M7,pl6,vo,_,z,n+1,by rfl,by simp only[go_sem,seval,t1],by simp only[go_sem,seval,t2],by simp only[go_sem,seval]<;>rfl,⟨hm5.ev e7 hdd fun i hi=>(hb5.old i hi).2,hb7,hdd7,hcq,h.zk,h.ol,eF5.trans (e7.addR _)⟩,Or.inl ⟨hs,by omega,by omega,by rw[show 1000 - (n+1)=999 - n by omega];exact hR⟩⟩
      ·rw[Ri hz] at hR hcq
       simp (disch:=first|assumption|omega|(simp only[aI]<;>omega)) only[go_sem,seval,t1,t2,t3,g,r1.wf,g1,hpl,hpl1,a1,a3,c0,c1,hw,p11,p4,hM2,b3,d1,hM3.symm,q3,g3,hsX,hnn,hvv,hvls,hpls,r4.wf',q4,g4]
       exact ⟨k - 1,by omega,_,M4,pl1,vo,_,z,n+1,by rfl,by simp only[go_sem,seval,t1],by simp only[go_sem,seval,t2],by simp only[go_sem,seval]<;>rfl,⟨hm4,hb4,hdd,hcq,h.zk,h.ol,eF⟩,Or.inl ⟨hs,by omega,by omega,by rw[show 1000 - (n+1)=999 - n by omega];exact hR⟩⟩
     by_cases hA:iz tt
     ·rw[Rj hA] at hR
      obtain ⟨M5,r5,vo5,hm5,hb5,e5,hd5⟩:=Ou hm4 hb4 hdd hk3 hc hcs h.zk (by have:=h.ol;omega) hSP hGs hA
      obtain ⟨w1,w2,w3⟩:=zK hk3 h.zk hGs
      rw[CJ (cs:=cs) (ns:=ns) (z:=z) tt (y::K) x.v x.s ((y.1,y.2+1)::K)] at hm5 hb5 w1 w2 w3
      have hsT:=AY hSP
      subst hR
      have hGo:ct (fR vc vt vr rec vth) gO B m M5 cs ns r b F0 vcl vo5 pl1 nm vv (uM cs ns tt ⟨y::K,x.v,x.s⟩ z).1 (uM cs ns tt ⟨y::K,x.v,x.s⟩ z).2 (o+1):=by
       have eK:=(vT (cs:=cs) (ns:=ns) (z:=z) (x:=⟨y::K,x.v,x.s⟩) tt).1
       unfold uM
       rw[eK]
       exact ⟨hm5,hb5,hd5,w1,w2,Nat.le_trans w3 (by have:=h.ol;omega),eF.trans e5⟩
      have hA':=hA
      rcases hA' with hk|hk|hk|hk
      all_goals
       simp (disch:=first|assumption|omega|(simp only[aI]<;>omega)) only[go_sem,seval,t1,t2,t3,g,r1.wf,g1,hpl,hpl1,a1,a3,c0,c1,hw,p11,p4,hM2,b3,d1,hM3.symm,q3,g3,hsX,hnn,hvv,hvls,hpls,r4.wf',q4,g4,hsT,r5.wf']
       exact hK' _ ⟨vo5,pl1,hGo⟩
     ·rw[Ri hA] at hR
      unfold iz at hA
      simp only[not_or] at hA
      unfold dU at hR hcq
      rw[Ri k6,Ri k7,Ri k0] at hR hcq
      simp (disch:=first|assumption|omega|(simp only[aI]<;>omega)) only[go_sem,seval,t1,t2,t3,g,r1.wf,g1,hpl,hpl1,a1,a3,c0,c1,hw,p11,p4,hM2,b3,d1,hM3.symm,q3,g3,hsX,hnn,hvv,hvls,hpls,r4.wf',q4,g4]
      exact ⟨k - 1,by omega,_,M4,pl1,vo,_,z,n+1,by rfl,by simp only[go_sem,seval,t1],by simp only[go_sem,seval,t2],by simp only[go_sem,seval]<;>rfl,⟨hm4,hb4,hdd,hcq,h.zk,h.ol,eF⟩,Or.inl ⟨hs,by omega,by omega,by rw[show 1000 - (n+1)=999 - n by omega];exact hR⟩⟩
 ·by_cases hs:x.s=0
  ·refine Or.inl ⟨hs,by omega,by omega, ?_⟩
   rw[←hR,bZ,Rj hs]
  ·refine Or.inr ⟨hs,h3, ?_⟩
   rw[←hR,bZ,Ri hs]
end
section
variable {p:Prg} {B m m':NH} {vc vt vr vcl vo vth:NV} {r:D4} {x:Rn} {o:Nat} {q:Bl} {bs:List Bl} {z:Mc}
def gn (p:Prg) (B:NH) (vc vt vr:NV) (m:NH) (r:D4) (x:Rn) (o:Nat) (F:List D4):Prop:=
 (x.ph=false/\x.th=p.ts.map (fun t=>fT t.2)/\CM x.rc/\∃vcl vo q,RunG (fR vc vt vr (.ptr q.b 0) .nils) gO ⟨p.cs, [],p.r⟩ B m r ⟨false,x.rc, [],x.z⟩ o vcl vo .nils q []/\F=RunG.foot r vcl vo .nils q [])∨
 (x.ph=true/\(∀y∈x.th,CM y)/\∃vcl vo vth q bs,RunG (fR vc vt vr .nilp vth) gO p B m r x o vcl vo vth q bs/\F=RunG.foot r vcl vo vth q bs)
theorem RunG.more {f:NV->NV->Bool->List NV} {mk:NV->NV->NV->Int->List NV} (h:RunG f mk p B m r x o vcl vo vth q bs) {o':Nat} (ho:o<=o'):RunG f mk p B m r x o' vcl vo vth q bs:=⟨h.mc,h.rb,h.rk,h.tv,h.ln,h.tb,h.d0,h.d1,h.d2,h.d3,h.zk,Nat.le_trans h.ol ho⟩
theorem EJ (hc:RunC p B vc vt vr) (ho:o<=1000000) (h:RunG (fR vc vt vr .nilp vth) gO p B m r x o vcl vo vth q bs) (hst:∀y∈x.th,CM y) {k:Nat} (hk:k<x.th.length):
 ∃t,bs[k]? =some t/\(∃id off w c,fU 1 vth (ii (k:Nat))= .val (.ptr id off)/\m.get id=some (.cells w c)/\c[off]? =some (.ptr t.b 0))/\∃m',aS Tryz.prog S0 49 [.ptr r 0,.ptr t.b 0] m (.bool (bZ p.cs (locals (dk p k)) ((x.th[k]?).getD (fT [])) x.z).1) m'/\∃vo' bs',RunG (fR vc vt vr .nilp vth) gO p B m' r ⟨x.ph,x.rc,x.th.set k (bZ p.cs (locals (dk p k)) ((x.th[k]?).getD (fT [])) x.z).2.1,(bZ p.cs (locals (dk p k)) ((x.th[k]?).getD (fT [])) x.z).2.2⟩ (o+1) vcl vo' vth q bs'/\EvF (RunG.foot r vcl vo vth q bs) (RunG.foot r vcl vo' vth q bs') m m'/\∀y∈x.th.set k (bZ p.cs (locals (dk p k)) ((x.th[k]?).getD (fT [])) x.z).2.1,CM y:=by
 have hkb:k<bs.length:=by rw[h.ln.1,←h.ln.2];exact hk
 have h1:=List.getElem?_eq_getElem hkb
 have h2:=List.getElem?_eq_getElem hk
 obtain ⟨id,off,w,c,a1,a2,a3,a4,a5⟩:=h.tv.sl.at k (by simpa using hkb)
 rw[List.getElem_map] at a5
 rw[h2]
 simp only[Option.getD_some]
 have h3:=hst _ (List.getElem_mem hk)
 obtain ⟨m1,r1,vo',pl',hG⟩:=IN hc.rp.c hc.cs ho h3 (h.goT h1 h2)
 refine ⟨bs[k],h1,⟨id,off,w,c,a1,a2,aA a5 0 (by omega)⟩,m1,r1,vo',_,h.thread h1 hG,RunG.evT h1 hG.ev,fun y hy=> ?_⟩
 rcases List.mem_or_eq_of_mem_set hy with hy|rfl
 ·exact hst y hy
 ·exact zS h3
theorem Fk (l:List Stm):CM (fT l):=Or.inl rfl
set_option maxHeartbeats 1000000 in
theorem Kg (hc:RunC p B vc vt vr) (ho:o+1<=1000000) {F:List D4} (h:gn p B vc vt vr m r x o F) (c:Int):
 ∃m',aS Tryz.prog S0 15 [.ptr r 0,ii c] m (.bool (iH p c x).1) m'/\∃F',gn p B vc vt vr m' r (iH p c x).2 (o+2) F'/\EvF F F' m m':=by
 refine WF.ex1 fun K' hK'=> ?_
 refine WF.of_wpG (fun _=>rfl) Az (L:= [(.a .e,ii c),(.e,.ptr r 0)]) rfl ?_
 unfold JX
 have hnt:=hc.nt
 obtain ⟨CT,hT⟩:=hc.rp.t
 have hlt:=hT.sl.len
 rw[hT.len] at hlt
 unfold iH at hK'
 rcases h with ⟨hph,hth,hst,vcl,vo,q,h,rfl⟩|⟨hph,hst,vcl,vo,vth,q,bs,h,rfl⟩
 ·have g:=h.mc.g
  simp only[hph,Bool.false_eq_true,if_false] at hK'
  obtain ⟨m1,r1,vo1,pl1,hG⟩:=IN hc.rp.c hc.cs (by omega) hst h.goR
  have h1:=h.recov hG
  have e1:EvF (RunG.foot r vcl vo .nils q []) (RunG.foot r vcl vo1 .nils ⟨q.b,pl1,q.nm,q.vv⟩ []) m m1:=RunG.evR hG.ev
  have hst1:CM (bZ p.cs (locals p.r) x.rc x.z).2.1:=zS hst
  simp only at r1 h1
  have g1:=h1.mc.g
  have gb1:=h1.rb.g
  have oM:=h1.mc.o
  cases hb:(bZ p.cs (locals p.r) x.rc x.z).1 with
  |true=>
   rw[hb] at r1
   rw[Rj hb] at hK'
   rw[aa]
   simp (disch:=first|assumption|omega) only[go_sem,seval,g,Dx,r1.wf']
   exact hK' _ ⟨_,Or.inl ⟨rfl,hth,hst1,vcl,vo1,⟨q.b,pl1,q.nm,q.vv⟩,h1.more (o':=o+2) (by omega),rfl⟩,e1⟩
  |false=>
   have hs:=ry hb
   rw[hb] at r1
   rw[Ri (by rw[hb];simp)] at hK'
   generalize bZ p.cs (locals p.r) x.rc x.z=R at *
   obtain ⟨R1,rc,z⟩:=R
   simp only at *
   by_cases h2:rc.s=2
   ·rw[Rj h2] at hK'
    have gb:m1.get q.b=some (.cells true [q.nm,q.vv,pl1,.bool true,.bool false]):=gb1.trans (by simp[gO,h2])
    rw[aa]
    simp (disch:=first|assumption|omega) only[go_sem,seval,g,Dx,r1.wf',g1,gb]
    exact hK' _ ⟨_,Or.inl ⟨rfl,hth,hst1,vcl,vo1,⟨q.b,pl1,q.nm,q.vv⟩,h1.more (o':=o+2) (by omega),rfl⟩,e1⟩
   ·rw[Ri h2] at hK'
    have gb:m1.get q.b=some (.cells true [q.nm,q.vv,pl1,.bool false,.bool (decide (rc.s=1))]):=gb1.trans (by simp[gO,h2])
    rw[aa]
    simp (disch:=first|assumption|omega|(simp only[aI]<;>omega)) only[go_sem,seval,g,Dx,r1.wf,g1,gb]
    generalize hM2:hp _ 0 m1=M2
    obtain ⟨hq,eS⟩:=h1.start (f':=fR vc vt vr .nilp .nils) (m':=M2) true (gL oM hM2) (jR hM2 (by simp[aB]))
    have eS:=e1.trans eS
    refine W.loop (fun k d=>∃t M i vth bs,d=⟨t, [],none,M⟩/\NT.get D4.e t=some (.ptr r 0)/\NT.get D4.e.a t=some (ii c)/\NT.get D4.e.a.a t=some (ii (i:Nat))/\i+k=p.ts.length/\RunG (fR vc vt vr .nilp vth) gO ⟨p.cs,p.ts.take i,p.r⟩ B M r ⟨true,rc,(p.ts.take i).map (fun t=>fT t.2),z⟩ (o+1) vcl vo1 vth ⟨q.b,pl1,q.nm,q.vv⟩ bs/\EvF (RunG.foot r vcl vo .nils q []) (RunG.foot r vcl vo1 vth ⟨q.b,pl1,q.nm,q.vv⟩ bs) m M) ?_ p.ts.length _ ⟨_,M2,0,.nils, [],rfl,by simp only[go_sem,seval],by simp only[go_sem,seval],by simp only[go_sem,seval]<;>rfl,by omega,hq,eS⟩
    clear hq eS e1 h1 g gb gb1 g1 hG h r1 hM2
    rintro k d ⟨t,M,i,vth,bs,rfl,t1,t2,t3,hik,h,hE⟩
    apply ao
    unfold zN
    change wp _ _ _ _ ⟨ai [] t, [],none,M⟩ _
    have g:=h.mc.g
    by_cases hi:i<p.ts.length
    ·obtain ⟨vb,E,id,off,wr,cc,hS,a1,a2,a3,a4,a5⟩:=hT.at i hi
     have a2M:=(h.mc.c.get a3 (by simp)).trans a2
     have hzt:=hc.zt _ (List.getElem_mem hi)
     have hvb:=hS.sl.one
     have s1:cc[off+1]? =some vb:=aA a5 1 (by omega)
     obtain ⟨w,m2,r2,b,pl,nm,vv,rfl,hb2,hC2,hnew⟩:=AN h.mc.c hS (by omega)
     have hM2:=h.mc.grow hC2
     have g2:=hM2.g
     have a22:=(hM2.c.get a3 (by simp)).trans a2
     have ht1:=h.tv.sl.one
     have htn:=(h.tv.sl.same (n:=3))
     have hvn:=hS.sl.same (n:=3)
     have hvt:=hT.sl.same (n:=3)
     simp (disch:=first|assumption|omega|(simp only[aI]<;>omega)) only[go_sem,seval,t1,t2,t3,g,hlt,a1,a2M,s1,r2.wf,g2,a22,htn,hvn,hvt]
     have hC3:Chg [] m2 (hp [(.n 0,.cells true [.ptr b 0])] 1 m2):=aC rfl
     have hCM3:=hC2.trans hC3 (by simp)
     have h3:=h.grow hCM3
     have hbl:bs.length<=1000:=by have:=h.ln.1;simp only[List.length_take] at this;omega
     refine cZ (cs:= [.ptr b 0]) h3.tv bo (bv (by omega)) rfl (fun i hi=>h3.mc.c.old hi) (by simp;omega) (by simp;omega) ?_
     intro vth' M4 hv4 hC4 hF4
     have hrv:r∉ids vth:=fun u=>(h.d0 r (by simp[bD])).1 u
     have g4:=(hC4.get h3.mc.o hrv).trans h3.mc.g
     have o4:=hC4.old h3.mc.o
     have hC34:Chg [] B M4:=h3.mc.c.trans hC4 fun i hi ho=>Rh ho (h.tv.new i hi)
     have a24:=(hC34.get a3 (by simp)).trans a2
     have hv1:=hv4.sl.one
     simp (disch:=first|assumption|omega|(simp only[aI]<;>omega)) only[go_sem,seval,aa,g4,a24,s1,hv1,t1,t3]
     generalize hM5:M4.put r _=M5
     have hM5:M5=hp [(.o r,.cells true (fR vc vt vr .nilp vth' vcl vo1 z.ill))] 0 M4:=by rw[←hM5,←cg o4,aa]
     have hC5:Chg [r] M4 M5:=by rw[hM5];exact (cE _ _ _).weak (by simp[aB])
     have hrv':r∉ids vth':=fun u=>(hF4 r u).elim hrv fun u=>u h3.mc.o
     have hC45:=(hC4.weak (T:=r::ids vth) fun i hi _=>List.mem_cons_of_mem _ hi).trans hC5 fun i hi _=>by have hi:=one hi;subst hi;simp
     have hE5:=hE.trans (RunG.evS (vcl:=vcl) (vo:=vo1) (q:=⟨q.b,pl1,q.nm,q.vv⟩) (bs:=bs) (t:=⟨b,pl,nm,vv⟩) hCM3 hC45 hF4 hnew)
     have hq:=h.snoc (f':=fR vc vt vr .nilp vth') (n:=p.ts[i].1) (l:=p.ts[i].2) (t:=⟨b,pl,nm,vv⟩) (m':=hp [(.n 0,.cells true [.ptr b 0])] 1 m2) (m'':=M5) (vth':=vth') hCM3 (hb2.grow hC3) (rF hzt (hc.gt _ (List.getElem_mem hi))) hnew ((hC4.weak fun i hi _=>List.mem_cons_of_mem _ hi).trans hC5 fun i hi _=>by have hi:=one hi;subst hi;simp) (by rw[hM5];exact (aF o4).trans ap)
      (by
       have:=hv4.chg hC5 fun i hi u=>by have u:=one u;subst u;exact hrv' hi
       rw[List.map_append];exact this) hF4
     have et:p.ts.take i++ [(p.ts[i].1,p.ts[i].2)]=p.ts.take (i+1):=by rw[List.take_add_one,List.getElem?_eq_getElem hi];rfl
     have et2:(p.ts.take i).map (fun t=>fT t.2)++ [fT p.ts[i].2]=(p.ts.take (i+1)).map fun t=>fT t.2:=by rw[←et,List.map_append];rfl
     rw[et] at hq
     simp only[et2] at hq
     exact ⟨k - 1,by omega,_,M5,i+1,vth',_,by rfl,by simp only[go_sem,seval,t1],by simp only[go_sem,seval,t2],by simp only[go_sem,seval]<;>rfl,by omega,hq,hE5⟩
    ·have e:i=p.ts.length:=by omega
     subst e
     rw[List.take_length,←hth] at h
     have hst3:∀y∈x.th,CM y:=fun y hy=>by
      rw[hth,List.mem_map] at hy
      obtain ⟨t,-,rfl⟩:=hy
      exact Fk _
     have hlen:=h.tv.sl.len
     rw[List.length_map,h.ln.1,←h.ln.2] at hlen
     have hln:=h.ln.2
     simp only at hln hlen
     unfold BZ at hK'
     by_cases hcc:0<=c/\c<x.th.length
     ·simp only[Rj hcc] at hK'
      obtain ⟨k,rfl⟩:=Rr hcc.1
      simp only[Int.toNat_natCast] at hK'
      obtain ⟨t',ht',⟨id,off,w,cc,a1,a2,a3⟩,m2,r2,vo2,bs2,h2',e2,hst4⟩:=EJ hc (by omega) h hst3 (k:=k) (by simpa using hcc.2)
      simp only at r2 h2'
      simp (disch:=first|assumption|omega) only[go_sem,seval,t1,t2,t3,g,hlt,hlen,a1,a2,a3,r2.wf']
      exact hK' _ ⟨_,Or.inr ⟨rfl,hst4,vcl,vo2,vth,⟨q.b,pl1,q.nm,q.vv⟩,bs2,h2'.more (o':=o+2) (by omega),rfl⟩,hE.trans e2⟩
     ·simp only[Ri hcc] at hK'
      by_cases h0:0<=c
      ·have h3:¬c<x.th.length:=fun q=>hcc ⟨h0,q⟩
       simp (disch:=first|assumption|omega) only[go_sem,seval,t1,t2,t3,g,hlt,hlen]
       exact hK' _ ⟨_,Or.inr ⟨rfl,hst3,vcl,vo1,vth,⟨q.b,pl1,q.nm,q.vv⟩,bs,h.more (o':=o+2) (by omega),rfl⟩,hE⟩
      ·simp (disch:=first|assumption|omega) only[go_sem,seval,t1,t2,t3,g,hlt,hlen]
       exact hK' _ ⟨_,Or.inr ⟨rfl,hst3,vcl,vo1,vth,⟨q.b,pl1,q.nm,q.vv⟩,bs,h.more (o':=o+2) (by omega),rfl⟩,hE⟩
 ·have g:=h.mc.g
  have hlen:=h.tv.sl.len
  rw[List.length_map,h.ln.1,←h.ln.2] at hlen
  have hln:=h.ln.2
  obtain ⟨ph,rc,th,z⟩:=x
  simp only at hph hK' hlen hln g hst
  subst hph
  simp only[if_true] at hK'
  unfold BZ at hK'
  rw[aa]
  by_cases hcc:0<=c/\c<th.length
  ·simp only[Rj hcc] at hK'
   obtain ⟨k,rfl⟩:=Rr hcc.1
   simp only[Int.toNat_natCast] at hK'
   obtain ⟨t',ht',⟨id,off,w,cc,a1,a2,a3⟩,m2,r2,vo2,bs2,h2',e2,hst4⟩:=EJ hc (by omega) h hst (k:=k) (by simpa using hcc.2)
   simp only at r2 h2'
   simp (disch:=first|assumption|omega) only[go_sem,seval,g,D5,hlen,a1,a2,a3,r2.wf']
   exact hK' _ ⟨_,Or.inr ⟨rfl,hst4,vcl,vo2,vth,q,bs2,h2'.more (o':=o+2) (by omega),rfl⟩,e2⟩
  ·simp only[Ri hcc] at hK'
   by_cases h0:0<=c
   ·have h3:¬c<th.length:=fun q=>hcc ⟨h0,q⟩
    simp (disch:=first|assumption|omega) only[go_sem,seval,g,D5,hlen]
    exact hK' _ ⟨_,Or.inr ⟨rfl,hst,vcl,vo,vth,q,bs,h.more (o':=o+2) (by omega),rfl⟩,EvF.refl m⟩
   ·simp (disch:=first|assumption|omega) only[go_sem,seval,g,D5,hlen]
    exact hK' _ ⟨_,Or.inr ⟨rfl,hst,vcl,vo,vth,q,bs,h.more (o':=o+2) (by omega),rfl⟩,EvF.refl m⟩
end
theorem BS {Z Z':List (List Nat)} (hZ:∀n,n∈Z↔n∈Z') (l:List Stm):∀st:sj,st.2=none->(aW (nX Z') l st).1.2=(aW (j6 Z) l st).1.2:=by
 induction l with
 |nil=>intro st h;rfl
 |cons x l ih=>
  intro st h
  have hex:(∃n∈x.own,n∈Z')↔∃n∈x.own,n∈Z:=by simp only[hZ]
  have hR:nX Z' st x=(((x.own.foldl aL st.1.1,st.1.2+x.own.length),Ij x.a (lh Z' (x.own.foldl aL st.1.1) x)),decide (lh Z' (x.own.foldl aL st.1.1) x=0)):=rfl
  have stop:∀e:Int,e≠0->lh Z' (x.own.foldl aL st.1.1) x=e->(j6 Z st x).2=false->(j6 Z st x).1.2=some (x.a,e)->(aW (nX Z') (x::l) st).1.2=(aW (j6 Z) (x::l) st).1.2:=by
   intro e he h1 h2 h3
   have hr2:(nX Z' st x).2=false:=by rw[hR,h1];exact Rk he
   rw[aW,aW,hr2,h2,Ri (by simp),Ri (by simp),h3,hR,h1]
   exact Ri he
  by_cases h1:(x.k=1∨x.k=2∨x.k=3)/\x.ce∉Z
  ·have h1':(x.k=1∨x.k=2∨x.k=3)/\x.ce∉Z':=⟨h1.1,fun q=>h1.2 ((hZ _).2 q)⟩
   have hB:j6 Z st x=((st.1,some (x.a,4)),false):=Rj h1
   refine stop 4 (by decide) ?_ (by rw[hB]) (by rw[hB])
   unfold lh e6;rw[Rj h1'];simp
  ·have h1':¬((x.k=1∨x.k=2∨x.k=3)/\x.ce∉Z'):=fun q=>h1 ⟨q.1,fun z=>q.2 ((hZ _).1 z)⟩
   by_cases h2:∃n∈x.own,n∈Z
   ·have hB:j6 Z st x=((st.1,some (x.a,6)),false):=by unfold j6;rw[Ri h1,Rj h2]
    refine stop 6 (by decide) ?_ (by rw[hB]) (by rw[hB])
    have e1:e6 Z' (if (x.k=1∨x.k=2∨x.k=3)/\x.ce∉Z' then 4 else 0) x.own=6:=by unfold e6;rw[Ri h1',Rj ⟨rfl,hex.2 h2⟩]
    unfold lh;rw[e1,Ri (by simp)]
   ·have h2':¬(True/\∃n∈x.own,n∈Z'):=fun q=>h2 (hex.1 q.2)
    have e0:e6 Z' (if (x.k=1∨x.k=2∨x.k=3)/\x.ce∉Z' then 4 else 0) x.own=0:=by
     unfold e6;rw[Ri h1',Ri fun q=>h2 (hex.1 q.2)]
    by_cases h3:12<(x.own.foldl aL st.1.1).length
    ·have hB:j6 Z st x=(((x.own.foldl aL st.1.1,st.1.2+x.own.length),some (x.a,3)),false):=by unfold j6;rw[Ri h1,Ri h2,Rj h3]
     refine stop 3 (by decide) ?_ (by rw[hB]) (by rw[hB])
     unfold lh;rw[e0,Rj ⟨rfl,h3⟩]
    ·have hB:j6 Z st x=(((x.own.foldl aL st.1.1,st.1.2+x.own.length),none),true):=by unfold j6;rw[Ri h1,Ri h2,Ri h3]
     have hE:lh Z' (x.own.foldl aL st.1.1) x=0:=by unfold lh;rw[e0,Ri fun q=>h3 q.2]
     have hR':nX Z' st x=(((x.own.foldl aL st.1.1,st.1.2+x.own.length),none),true):=by rw[hR,hE];rfl
     rw[aW,aW,hB,hR',Rj rfl,Rj rfl]
     exact ih _ rfl
theorem Au {Z Z':List (List Nat)} (hZ:∀n,n∈Z↔n∈Z') (l:List Stm):(iE Z' l (([],0),none)).2=eE Z l:=by
 unfold iE eE
 rw[Rj rfl]
 exact BS hZ _ _ rfl
theorem KA {Z:List (List Nat)} {l:List Stm} (h:jO (eE Z l)=0):eE Z l=none:=by
 have h1:=(Dw (Z:=Z) (bg l) (([],0),none)).2.1
 rw[←kE,Au (Z:=Z) (Z':=Z) (fun _=>Iff.rfl)] at h1
 exact Decidable.byContradiction fun q=>h1 q rfl h
theorem FY (p:Prg) (n:List Nat):n∈xG p↔n∈p.cs.map (·.1):=by unfold xG;rw[fj];simp
theorem FW {l:List (List Nat)} {s:List Nat} {i:Nat} (hi:i<l.length) (hs:l[i]=s):bH l s<i↔s∈l.take i:=by
 have hm:0<=bH l s:=fK.2 (hs▸List.getElem_mem hi)
 have key:∃j:Nat,bH l s=j/\∃h:j<l.length,l[j]=s/\∀k (hk:k<j),l[k]'(by omega)≠s:=by
  unfold bH at hm ⊢
  cases hf:l.findIdx? (fun a=>decide (s=a)) with
  |none=>rw[hf] at hm;dsimp only at hm;omega
  |some j=>
   obtain ⟨h,h1,h2⟩:=List.findIdx?_eq_some_iff_getElem.mp hf
   exact ⟨j,rfl,h,by simpa using (of_decide_eq_true h1).symm,fun k hk q=>by have:=h2 k hk;simp[q] at this⟩
 obtain ⟨j,hj,hl,h1,h2⟩:=key
 rw[hj]
 constructor
 ·intro h
  rw[←h1]
  exact List.mem_take_iff_getElem.2 ⟨j,by omega,rfl⟩
 ·intro h
  obtain ⟨k,hk,e⟩:=List.mem_take_iff_getElem.1 h
  by_cases q:k<j
  ·exact Rh e (h2 k q)
  ·omega
theorem MY {m:NH} {T:D4->Prop} {p:Prg} {vc vt vr:NV} (h:RP m T p vc vt vr) (hs:p.cs.length<=1000000/\p.ts.length<=1000000) (hz:∀t∈p.ts,cI t.2<=10000000) (hr:cI p.r<=10000000):
 ∃m',aS Tryz.prog S0 44 [.agg [vc,vt,vr]] m (.tup [ii (gl p).1,ii (gl p).2]) m'/\Chg [] m m':=by
 refine WF.ex1 fun K hK=> ?_
 refine WF.of_wpG (fun _=>rfl) zb (L:= [(.e,.agg [vc,vt,vr])]) rfl ?_
 unfold Lw
 obtain ⟨hcs,hts⟩:=hs
 generalize hM0:hp [(.n 0,.cells true [vc,vt,vr])] 1 m=M
 have hC0:Chg [] m M:=ba hM0 rfl
 have g0:M.get (na m 0)=some (.cells true [vc,vt,vr]):=bz hM0
 have o0:am M (na m 0):=bw hM0 (by omega)
 have h:=h.stays (lF hC0 T)
 obtain ⟨Ct,hT⟩:=h.t
 obtain ⟨Cr,hR⟩:=h.r
 have hlc:=h.c.len
 rw[List.length_map] at hlc
 have hlt:=hT.sl.len
 rw[hT.len] at hlt
 have hvs:bj 4 vc vc=true:=h.c.same
 have hv1:=h.c.one
 unfold gl mB at hK
 by_cases hb:16<p.cs.length∨p.ts.length=0∨4<p.ts.length
 ·rw[Rj hb,Rj (by decide)] at hK
  rcases hb with hb|hb|hb
  ·simp (disch:=first|assumption|omega) only[go_sem,seval,hM0,g0,hlc,hlt,hb]
   exact hK _ hC0
  ·by_cases hb2:16<p.cs.length
   ·simp (disch:=first|assumption|omega) only[go_sem,seval,hM0,g0,hlc,hlt,hb2]
    exact hK _ hC0
   ·simp (disch:=first|assumption|omega) only[go_sem,seval,hM0,g0,hlc,hlt,hb,hb2]
    exact hK _ hC0
  ·by_cases hb2:16<p.cs.length
   ·simp (disch:=first|assumption|omega) only[go_sem,seval,hM0,g0,hlc,hlt,hb2]
    exact hK _ hC0
   ·simp (disch:=first|assumption|omega) only[go_sem,seval,hM0,g0,hlc,hlt,hb,hb2]
    exact hK _ hC0
 rw[Ri hb] at hK
 have hb1:¬16<p.cs.length:=fun q=>hb (Or.inl q)
 have hb2:p.ts.length≠0:=fun q=>hb (Or.inr (Or.inl q))
 have hb3:¬4<p.ts.length:=fun q=>hb (Or.inr (Or.inr q))
 have hE0:cK ((((p.cs.map (·.1)).take 0).foldl aL [])) 0 (p.cs.drop 0)=cK [] 0 p.cs:=rfl
 simp (disch:=first|assumption|omega) only[go_sem,seval,hM0,g0,hlc,hlt]
 refine W.loop (fun k d=>∃t i w,d=⟨t, [],none,M⟩/\NT.get D4.e.a t=some (.ptr (na m 0) 0)/\NT.get D4.e.f t=some (ii w)/\NT.get D4.e.a.a t=some (ii (i:Nat))/\i+k=p.cs.length/\0<=w/\w<=64/\cK (((p.cs.map (·.1)).take i).foldl aL []) w (p.cs.drop i)=cK [] 0 p.cs) ?_ p.cs.length _ ⟨_,0,0,rfl,by simp only[go_sem,seval],by simp only[go_sem,seval],by simp only[go_sem,seval]<;>rfl,by omega,by omega,by omega,rfl⟩
 rintro k d ⟨t,i,w,rfl,g1,g2,g3,hik,hw0,hw,hE⟩
 apply ao
 unfold yF
 change wp _ _ _ _ ⟨ai [] t, [],none,M⟩ _
 by_cases hi:i<p.cs.length
 ·obtain ⟨id,off,wr,c,a1,a2,a3,a4,a5⟩:=h.c.at i (by simpa using hi)
  rw[List.getElem_map] at a5
  have htk:((p.cs.map (·.1)).take (i+1)).foldl aL []=aL (((p.cs.map (·.1)).take i).foldl aL []) p.cs[i].1:=by
   rw[List.take_add_one,List.getElem?_map,List.getElem?_eq_getElem hi,List.foldl_append];rfl
  have hfs:=sr h.c hcs p.cs[i].1
  have hft:=FW (l:=p.cs.map (·.1)) (s:=p.cs[i].1) (i:=i) (by simpa using hi) (by simp)
  have hmem:p.cs[i].1∈((p.cs.map (·.1)).take i).foldl aL []↔p.cs[i].1∈(p.cs.map (·.1)).take i:=by rw[fj];simp
  have hpw:=GL M p.cs[i].2
  rw[List.drop_eq_getElem_cons hi,cK,←htk] at hE
  generalize hcc:p.cs[i]=cc at hE a5 hfs hft hmem hpw
  obtain ⟨nm,s⟩:=cc
  dsimp only at hE a5 hfs hft hmem hpw
  have c0:c[off+0]? =some (.str nm):=aA a5 0 (by omega)
  have c1:c[off+1]? =some (ii s):=aA a5 1 (by omega)
  have hfb:=kK (l:=p.cs.map (·.1)) (x:=nm)
  by_cases hin:nm∈(p.cs.map (·.1)).take i
  ·rw[Rj (hmem.2 hin)] at hE
   have hlt':=hft.2 hin
   generalize bH (p.cs.map (·.1)) nm=z at hfs hlt' hfb
   rw[←hE,Rj (show (5:Int)≠0 by decide),Rj (show (5:Int)≠0 by decide)] at hK
   simp (disch:=first|assumption|omega) only[go_sem,seval,g1,g2,g3,g0,hlc,a1,a2,c0,c1,hvs,hfs.wf']
   exact hK _ hC0
  ·rw[Ri fun q=>hin (hmem.1 q)] at hE
   have hge:¬bH (p.cs.map (·.1)) nm<i:=fun q=>hin (hft.1 q)
   generalize bH (p.cs.map (·.1)) nm=z at hfs hge hfb
   by_cases hp:mU s=false
   ·rw[Rj hp] at hE
    rw[hp] at hpw
    rw[←hE,Rj (show (7:Int)≠0 by decide),Rj (show (7:Int)≠0 by decide)] at hK
    simp (disch:=first|assumption|omega) only[go_sem,seval,g1,g2,g3,g0,hlc,a1,a2,c0,c1,hvs,hfs.wf',hpw.wf']
    exact hK _ hC0
   ·rw[Ri hp] at hE
    have hpt:mU s=true:=by simpa using hp
    rw[hpt] at hpw
    obtain ⟨p1,p2,-⟩:=of_decide_eq_true hpt
    by_cases h64:64 - w<s
    ·rw[Rj h64] at hE
     rw[←hE,Rj (show (3:Int)≠0 by decide),Rj (show (3:Int)≠0 by decide)] at hK
     simp (disch:=first|assumption|omega) only[go_sem,seval,g1,g2,g3,g0,hlc,a1,a2,c0,c1,hvs,hfs.wf',hpw.wf']
     exact hK _ hC0
    ·rw[Ri h64] at hE
     simp (disch:=first|assumption|omega) only[go_sem,seval,g1,g2,g3,g0,hlc,a1,a2,c0,c1,hvs,hfs.wf',hpw.wf']
     exact ⟨k - 1,by omega,_,i+1,w+s,by rfl,by simp only[go_sem,seval,g1],by simp only[go_sem,seval],by simp only[go_sem,seval]<;>rfl,by omega,by omega,by omega,hE⟩
 ·rw[List.drop_of_length_le (by omega),cK] at hE
  rw[←hE,Ri (show ¬(0:Int)≠0 by decide)] at hK
  simp (disch:=first|assumption|omega) only[go_sem,seval,g1,g2,g3,g0,hlc]
  clear hik hw0 hw hE hE0
  refine W.loop (fun k d=>∃t i,d=⟨t, [],none,M⟩/\NT.get D4.e.a t=some (.ptr (na m 0) 0)/\NT.get D4.e.a.b t=some (ii (i:Nat))/\i+k=p.ts.length/\fq (((p.ts.map (·.1)).take i).foldl aL []) ((p.ts.map (·.1)).drop i)=fq [] (p.ts.map (·.1))) ?_ p.ts.length _ ⟨_,0,rfl,by simp only[go_sem,seval,g1],by simp only[go_sem,seval]<;>rfl,by omega,rfl⟩
  clear g1 g2 g3 hi
  rintro k d ⟨t,i,rfl,g1,g2,hik,hE⟩
  apply ao
  unfold zD
  change wp _ _ _ _ ⟨ai [] t, [],none,M⟩ _
  by_cases hi:i<p.ts.length
  ·obtain ⟨vbi,Bi,idi,offi,wri,ci,-,a1,a2,a3,a4,a5⟩:=hT.at i hi
   have ci0:ci[offi+0]? =some (.str p.ts[i].1):=aA a5 0 (by omega)
   have htk:((p.ts.map (·.1)).take (i+1)).foldl aL []=aL (((p.ts.map (·.1)).take i).foldl aL []) p.ts[i].1:=by
    rw[List.take_add_one,List.getElem?_map,List.getElem?_eq_getElem hi,List.foldl_append];rfl
   have hmem:p.ts[i].1∈((p.ts.map (·.1)).take i).foldl aL []↔p.ts[i].1∈(p.ts.map (·.1)).take i:=by rw[fj];simp
   rw[List.drop_eq_getElem_cons (by simpa using hi),List.getElem_map,fq,←htk] at hE
   simp (disch:=first|assumption|omega) only[go_sem,seval,g1,g2,g0,hlt]
   refine W.loop (fun kk d=>∃t j,d=⟨t, [],none,M⟩/\NT.get D4.e.a t=some (.ptr (na m 0) 0)/\NT.get D4.e.a.b t=some (ii (i:Nat))/\NT.get D4.e.a.c t=some (ii (j:Nat))/\j+kk=i/\∀q (h1:q<j) (h2:q<p.ts.length),p.ts[q].1≠p.ts[i].1) ?_ i _ ⟨_,0,rfl,by simp only[go_sem,seval,g1],by simp only[go_sem,seval,g2],by simp only[go_sem,seval]<;>rfl,by omega,by simp⟩
   clear g1 g2
   rintro kk d ⟨t,j,rfl,g1,g2,g3,hjk,hno⟩
   apply ao
   unfold Ar
   change wp _ _ _ _ ⟨ai [] t, [],none,M⟩ _
   by_cases hj:j<i
   ·obtain ⟨vbj,Bj,idj,offj,wrj,cj,-,b1,b2,b3,b4,b5⟩:=hT.at j (by omega)
    have cj0:cj[offj+0]? =some (.str p.ts[j].1):=aA b5 0 (by omega)
    have hts':bj 4 vt vt=true:=hT.sl.same
    by_cases he:p.ts[j].1=p.ts[i].1
    ·have hin:p.ts[i].1∈(p.ts.map (·.1)).take i:=List.mem_take_iff_getElem.2 ⟨j,by simp;omega,by simpa using he⟩
     rw[Rj (hmem.2 hin)] at hE
     rw[←hE,Rj (show (5:Int)≠0 by decide)] at hK
     simp (disch:=first|assumption|omega) only[go_sem,seval,g1,g2,g3,g0,hlt,a1,a2,ci0,b1,b2,cj0,he,hts']
     exact hK _ hC0
    ·simp (disch:=first|assumption|omega) only[go_sem,seval,g1,g2,g3,g0,hlt,a1,a2,ci0,b1,b2,cj0,he,hts']
     refine ⟨kk - 1,by omega,_,j+1,by rfl,by simp only[go_sem,seval,g1],by simp only[go_sem,seval,g2],by simp only[go_sem,seval]<;>rfl,by omega,fun q h1 h2=> ?_⟩
     rcases Nat.lt_or_ge q j with h3|h3
     ·exact hno q h3 h2
     ·obtain rfl:q=j:=by omega
      exact he
   ·have hnin:p.ts[i].1∉(p.ts.map (·.1)).take i:=fun q=>by
     obtain ⟨y,hy,e⟩:=List.mem_take_iff_getElem.1 q
     exact hno y (by omega) (by simp at hy;omega) (by simpa using e)
    rw[Ri fun q=>hnin (hmem.1 q)] at hE
    simp (disch:=first|assumption|omega) only[go_sem,seval,g1,g2,g3,g0,hlt]
    exact ⟨k - 1,by omega,_,i+1,by rfl,by simp only[go_sem,seval,g1],by simp only[go_sem,seval]<;>rfl,by omega,hE⟩
  ·rw[List.drop_of_length_le (by simp;omega),fq] at hE
   rw[←hE,Ri (show ¬(0:Int)≠0 by decide)] at hK
   simp (disch:=first|assumption|omega) only[go_sem,seval,g1,g2,g0,hlt]
   clear hik hE
   generalize hZ:xG p=Z at hK
   have hZm:∀n,n∈Z↔n∈p.cs.map (·.1):=fun n=>hZ▸FY p n
   generalize htot:iC Z p.r (p.ts.map (·.2))=tot at hK
   refine W.loop (fun k d=>∃t N i,d=⟨t, [],none,N⟩/\NT.get D4.e.a t=some (.ptr (na m 0) 0)/\NT.get D4.e.a.f t=some (ii (i:Nat))/\i+k=p.ts.length+1/\Chg [] M N/\((i<=p.ts.length/\iC Z p.r ((p.ts.map (·.2)).drop i)=tot)∨(i=p.ts.length+1/\tot=(0,0)))) ?_ (p.ts.length+1) _ ⟨_,M,0,rfl,by simp only[go_sem,seval,g1],by simp only[go_sem,seval]<;>rfl,by omega,Chg.refl M,Or.inl ⟨by omega,htot⟩⟩
   clear g1 g2 hi htot
   rintro k d ⟨t,N,i,rfl,g1,g2,hik,hC,hE⟩
   apply ao
   unfold Aa
   change wp _ _ _ _ ⟨ai [] t, [],none,N⟩ _
   have gN:=(hC.get o0 (by simp)).trans g0
   have oN:=hC.old o0
   have hN0:=hC0.trans hC (by simp)
   rcases hE with ⟨hi,hE⟩|⟨hi,hE⟩
   ·have hcN:=h.c.chg hC fun _ _=>by simp
    generalize hN1:hp [(.n 0,.cells true [vc,.nils,ii 0,ii 0])] 1 N=N1
    have hC1:Chg [] N N1:=ba hN1 rfl
    have hW1:Wk (na N 0) N N vc .nils [] 0 0 N1:=⟨by rw[←hN1];exact bo,by rw[←hN1];exact bv (by omega),aU.nil,by simp[ids],hC1,fun _ ho=>hC1.old ho⟩
    have gN1:=(hC1.get oN (by simp)).trans gN
    have oN1:=hC1.old oN
    have hwalk:∀{vb:NV} {b:List Stm} {Bb:List (List NV)},SS M T vb b Bb->cI b<=10000000->∃N2,aS Tryz.prog S0 76 [.ptr (na N 0) 0,vb] N1 (.tup []) N2/\(∃u,N2.get (na N 0)=some (.cells true [vc,u,ii (jO (eE Z b)),ii (xE (eE Z b))]))/\am N2 (na N 0)/\Chg [] N N2/\N2.get (na m 0)=some (.cells true [vc,vt,vr]):=by
     intro vb b Bb hb hsb
     have hle:=(kY b).2
     obtain ⟨N2,hr2,u2,hW2,hC2,-⟩:=Lx (T:=T) hcN hcs (fun _ ho=>ho) az az b (st:=(([],0),none)) (hb.stays (lF hC T)) hW1 (fun q=>Rh rfl q) (by simp) (by dsimp only;omega) (by omega)
     rw[Au hZm] at hW2
     have hC2':Chg [na N 0] N1 N2:=hC2.weak (by simp[ids])
     exact ⟨N2,hr2,⟨u2,hW2.g⟩,hW2.o,hW2.c,(hC2'.get oN1 (by simpa using oN.ne 0)).trans gN1⟩
    by_cases hl:i<p.ts.length
    ·obtain ⟨vb,Bb,id,off,wr,c,hSb,a1,a2,a3,a4,a5⟩:=hT.at i hl
     have c1:c[off+1]? =some vb:=aA a5 1 (by omega)
     have a2':=((hC.trans hC1 (by simp)).get a3 (by simp)).trans a2
     obtain ⟨N2,hr2,⟨u2,gk⟩,ok,hC2,g02⟩:=hwalk hSb (hz _ (List.getElem_mem hl))
     rw[List.drop_eq_getElem_cons (by simpa using hl),List.getElem_map,iC] at hE
     rw[←aa N]
     by_cases he:jO (eE Z p.ts[i].2)=0
     ·rw[Ri (by simp[he])] at hE
      rw[he] at gk
      simp (disch:=first|assumption|omega|(simp only[aI]<;>omega)) only[go_sem,seval,g1,g2,gN,hlt,hv1,hN1,gN1,a1,a2',c1,hr2.wf',gk]
      exact ⟨k - 1,by omega,_,N2,i+1,by rfl,by simp only[go_sem,seval,g1],by simp only[go_sem,seval]<;>rfl,by omega,hC.trans hC2 (by simp),Or.inl ⟨by omega,hE⟩⟩
     ·rw[Rj he] at hE
      rw[←hE] at hK
      simp (disch:=first|assumption|omega|(simp only[aI]<;>omega)) only[go_sem,seval,g1,g2,gN,hlt,hv1,hN1,gN1,a1,a2',c1,hr2.wf',gk,he]
      exact hK _ (hN0.trans hC2 (by simp))
    ·obtain ⟨N2,hr2,⟨u2,gk⟩,ok,hC2,g02⟩:=hwalk hR hr
     rw[List.drop_of_length_le (by simp;omega),iC] at hE
     rw[←aa N]
     by_cases he:jO (eE Z p.r)=0
     ·rw[KA he] at hE gk
      simp (disch:=first|assumption|omega|(simp only[aI]<;>omega)) only[go_sem,seval,g1,g2,gN,hlt,hv1,hN1,gN1,hr2.wf',gk,jO,xE]
      exact ⟨k - 1,by omega,_,N2,i+1,by rfl,by simp only[go_sem,seval,g1],by simp only[go_sem,seval]<;>rfl,by omega,hC.trans hC2 (by simp),Or.inr ⟨by omega,hE.symm⟩⟩
     ·rw[←hE] at hK
      simp (disch:=first|assumption|omega|(simp only[aI]<;>omega)) only[go_sem,seval,g1,g2,gN,hlt,hv1,hN1,gN1,hr2.wf',gk,he]
      exact hK _ (hN0.trans hC2 (by simp))
   ·rw[hE] at hK
    simp (disch:=first|assumption|omega) only[go_sem,seval,g1,g2,gN,hlt]
    exact hK _ hN0
theorem Hx {m:NH} {v:NV} {l:List (List Nat×Int)} (hv:Sl m v 2 (jH l)) (hsz:l.length<=1000000):∃m',aS Tryz.prog S0 12 [v] m (ii (bn l)) m'/\Chg [] m m':=by
 refine WF.ex1 fun K hK=> ?_
 refine WF.of_wpG (fun _=>rfl) yz (L:= [(.e,v)]) rfl ?_
 unfold Ju
 have hlen:=hv.len
 rw[List.length_map] at hlen
 simp (disch:=first|assumption|omega) only[go_sem,seval,aa]
 refine W.loop (fun k d=>∃t M i,d=⟨t, [],none,M⟩/\NT.get D4.e t=some v/\NT.get D4.e.c t=some (ii (bn (l.take i)))/\NT.get D4.e.f t=some (ii (i:Nat))/\i+k=l.length/\Chg [] m M) ?_ l.length _ ⟨_,m,0,rfl,by simp only[go_sem,seval],by simp only[go_sem,seval]<;>rfl,by simp only[go_sem,seval]<;>rfl,by omega,Chg.refl m⟩
 rintro k d ⟨t,M,i,rfl,t1,t2,t3,hik,hC⟩
 apply ao
 unfold yV
 change wp _ _ _ _ ⟨ai [] t, [],none,M⟩ _
 by_cases hi:i<l.length
 ·obtain ⟨id,off,wr,c,a1,a2,a3,a4,a5⟩:=hv.at i (by simpa using hi)
  rw[List.getElem_map] at a5
  have a2M:=(hC.get a3 (by simp)).trans a2
  obtain ⟨M1,r1,hC1⟩:=FA M l[i].1 l[i].2
  have hw:=gW l i hi
  have hb:=dc (l.take i)
  have hcl:=ni l[i].2
  rw[List.length_take] at hb
  simp (disch:=first|assumption|omega) only[go_sem,seval,t1,t2,t3,hlen,a1,a2M,a4,a5,r1.wf',hw.symm]
  exact ⟨k - 1,by omega,_,M1,i+1,by rfl,by simp only[go_sem,seval,t1],by simp only[go_sem,seval],by simp only[go_sem,seval]<;>rfl,by omega,hC.trans hC1 (by simp)⟩
 ·simp (disch:=first|assumption|omega) only[go_sem,seval,t1,t2,t3,hlen]
  rw[List.take_of_length_le (by omega)]
  exact hK _ hC
section
variable {p:Prg} {B m m':NH} {vc vt vr vcl vo vth rec:NV} {r:D4} {x:Rn} {o:Nat} {z:Mc} {F:List D4}
theorem uV (hc:RunC p B vc vt vr) (h:Mac (fR vc vt vr rec vth) B m r vcl vo z) (hz:McOk p.cs z) (ho:z.out.length<=o):
 ∃m',aS Tryz.prog S0 13 [.ptr r 0] m (.tup []) m'/\∃F',gn p B vc vt vr m' r (jJ p z) o F'/\EvF (bD r vcl vo) F' m m':=by
 refine WF.ex1 fun K' hK'=> ?_
 refine WF.of_wpG (fun _=>rfl) zn (L:= [(.e,.ptr r 0)]) rfl ?_
 unfold Jr
 obtain ⟨CR,hR⟩:=hc.rp.r
 have hzr:=hc.zr
 have g:=h.g
 obtain ⟨w,m1,r1,b,pl,nm,vv,rfl,hb,hC1,hnew⟩:=AN h.c hR (by omega)
 have h1:=h.grow hC1
 have g1:=h1.g
 have o1:=h1.o
 rw[aa]
 simp (disch:=first|assumption|omega|(simp only[aI]<;>omega)) only[go_sem,seval,g,r1.wf,g1]
 generalize hM2:hp _ 0 m1=M2
 obtain ⟨hm2,e2⟩:=h1.refit (f':=fR vc vt vr (.ptr b 0) .nils) (m':=M2) (gL o1 hM2) (jR hM2 (by simp[aB]))
 have hF:∀i∈bD r vcl vo,¬am B i:=fun i hi=>(h.old i hi).2
 have hd:∀i∈bD r vcl vo,i∉bU b pl nm vv:=fun i hi u=>hnew i u (h.old i hi).1
 exact hK' _ ⟨_,Or.inl ⟨rfl,rfl,Fk _,vcl,vo,⟨b,pl,nm,vv⟩,⟨hm2,hb.ev e2 (fun i hi u=>hd i u hi) hF,rF hzr hc.gr,aU.nil,by simp,by simp,fun i hi=>⟨by simp[ids],hd i hi,by simp⟩,by simp[ids],by simp,by simp,hz,ho⟩,rfl⟩,RunG.ev0 hC1 e2 hnew⟩
theorem gn.mac (h:gn p B vc vt vr m r x o F):∃rec vth vcl vo,Mac (fR vc vt vr rec vth) B m r vcl vo x.z/\McOk p.cs x.z/\x.z.out.length<=o/\(∀i∈bD r vcl vo,i∈F)/\(rec= .nilp↔x.ph=true)/\(rec= .nilp∨∃b,rec= .ptr b 0):=by
 rcases h with ⟨hph,hth,hst,vcl,vo,q,h,rfl⟩|⟨hph,hst,vcl,vo,vth,q,bs,h,rfl⟩
 ·exact ⟨_,_,_,_,h.mc,h.zk,h.ol,fun i hi=>by simp only[RunG.foot,List.mem_append];exact Or.inl hi,by simp[hph],Or.inr ⟨_,rfl⟩⟩
 ·exact ⟨_,_,_,_,h.mc,h.zk,h.ol,fun i hi=>by simp only[RunG.foot,List.mem_append];exact Or.inl hi,by simp[hph],Or.inl rfl⟩
theorem gn.all (h:gn p B vc vt vr m r x o F):∀i∈F,am m i/\¬am B i:=by
 rcases h with ⟨hph,hth,hst,vcl,vo,q,h,rfl⟩|⟨hph,hst,vcl,vo,vth,q,bs,h,rfl⟩
 ·exact h.all
 ·exact h.all
theorem gn.off {S:List D4} (h:gn p B vc vt vr m r x o F) (hC:Chg S m m') (hS:∀i∈F,i∉S) (hB:∀i∈S,¬am B i):gn p B vc vt vr m' r x o F:=by
 rcases h with ⟨hph,hth,hst,vcl,vo,q,h,rfl⟩|⟨hph,hst,vcl,vo,vth,q,bs,h,rfl⟩
 ·exact Or.inl ⟨hph,hth,hst,vcl,vo,q,h.off hC hS hB,rfl⟩
 ·exact Or.inr ⟨hph,hst,vcl,vo,vth,q,bs,h.off hC hS hB,rfl⟩
theorem ID (hc:RunC p B vc vt vr) (h:gn p B vc vt vr m r x o F):
 ∃m',aS Tryz.prog S0 13 [.ptr r 0] m (.tup []) m'/\∃F',gn p B vc vt vr m' r (jJ p x.z) o F'/\EvF F F' m m':=by
 obtain ⟨rec,vth,vcl,vo,h1,h2,h3,h4,-⟩:=h.mac
 obtain ⟨m',r1,F',h5,h6⟩:=uV hc h1 h2 h3
 exact ⟨m',r1,F',h5,h6.sup h4 fun j hj=>Or.inr hj⟩
theorem Ak {v:NV} {C:List (List NV)} (h:Sl m v 1 C) (hl:C.length<=1000001):(xV 1 8 m .nils v= .val .nils/\C= [])∨∃v' m',xV 1 8 m .nils v= .mem v' m'/\aU m m' v' 1 C/\Chg [] m m':=by
 by_cases hC:C= []
 ·subst hC;exact Or.inl ⟨(Sl.nil:Sl m .nils 1 []).appNil h,rfl⟩
 ·obtain ⟨v',m',e1,e2,e3⟩:=(aU.nil:aU m m .nils 1 []).app (bytes:=8) h hC (fun i hi=>hi) (by simp;omega) (by simp;omega)
  exact Or.inr ⟨v',m',e1,by simpa using e2,e3⟩
theorem MM (h:gn p B vc vt vr m r x o F) (ho:o<=1000000):
 ∃v m',aS Tryz.prog S0 22 [.ptr r 0] m v m'/\aU m m' v 1 (mP x.z.out)/\Chg [] m m':=by
 obtain ⟨rec,vth,vcl,vo,h1,h2,h3,h4,-⟩:=h.mac
 refine WF.ex fun K' hK'=> ?_
 refine WF.of_wpG (fun _=>rfl) zH (L:= [(.e,.ptr r 0)]) rfl ?_
 unfold JZ
 have g:=h1.g
 rw[aa]
 simp (disch:=first|assumption|omega) only[go_sem,seval,g]
 rcases Ak h1.ou.sl (by simp;omega) with ⟨e1,e2⟩|⟨v',m1,e1,e2,e3⟩
 ·rw[e1]
  simp (disch:=first|assumption|omega) only[go_sem,seval]
  exact hK' _ _ ⟨by rw[e2];exact aU.nil,Chg.refl m⟩
 ·rw[e1]
  simp (disch:=first|assumption|omega) only[go_sem,seval]
  exact hK' _ _ ⟨e2,e3⟩
theorem Eu (h:gn p B vc vt vr m r x o F) (hn:x.z.cl.length<=1000000):
 ∃v m',aS Tryz.prog S0 24 [.ptr r 0] m v m'/\aU m m' v 1 (mP x.z.cl)/\Chg [] m m':=by
 obtain ⟨rec,vth,vcl,vo,h1,h2,h3,h4,-⟩:=h.mac
 refine WF.ex fun K' hK'=> ?_
 refine WF.of_wpG (fun _=>rfl) zL (L:= [(.e,.ptr r 0)]) rfl ?_
 unfold Jy
 have g:=h1.g
 rw[aa]
 simp (disch:=first|assumption|omega) only[go_sem,seval,g]
 rcases Ak h1.cl.sl (by simp;omega) with ⟨e1,e2⟩|⟨v',m1,e1,e2,e3⟩
 ·rw[e1]
  simp (disch:=first|assumption|omega) only[go_sem,seval]
  exact hK' _ _ ⟨by rw[e2];exact aU.nil,Chg.refl m⟩
 ·rw[e1]
  simp (disch:=first|assumption|omega) only[go_sem,seval]
  exact hK' _ _ ⟨e2,e3⟩
theorem It (h:gn p B vc vt vr m r x o F):∃m',aS Tryz.prog S0 17 [.ptr r 0] m (.bool x.z.ill) m'/\Chg [] m m':=by
 obtain ⟨rec,vth,vcl,vo,h1,h2,h3,h4,-⟩:=h.mac
 refine WF.ex1 fun K' hK'=> ?_
 refine WF.of_wpG (fun _=>rfl) yX (L:= [(.e,.ptr r 0)]) rfl ?_
 unfold L6
 have g:=h1.g
 simp (disch:=first|assumption|omega) only[go_sem,seval,g]
 exact hK' _ (aC rfl)
theorem L7 (h:gn p B vc vt vr m r x o F) (hnt:p.ts.length<=1000):∃m',aS Tryz.prog S0 19 [.ptr r 0] m (.bool (nA x)) m'/\Chg [] m m':=by
 refine WF.ex1 fun K' hK'=> ?_
 refine WF.of_wpG (fun _=>rfl) zZ (L:= [(.e,.ptr r 0)]) rfl ?_
 unfold K5
 rcases h with ⟨hph,hth,hst,vcl,vo,q,h,rfl⟩|⟨hph,hst,vcl,vo,vth,q,bs,h,rfl⟩
 ·have g:=h.mc.g
  unfold nA at hK'
  rw[hph,Bool.false_and] at hK'
  simp (disch:=first|assumption|omega) only[go_sem,seval,aa]
  refine W.loop (fun f d=>∃t,d=⟨t, [],none,m⟩/\NT.get D4.e t=some (.ptr r 0)/\NT.get D4.e.c t=some (ii 0)) ?_ 0 _ ⟨_,rfl,by simp only[go_sem,seval],by simp only[go_sem,seval]⟩
  rintro f d ⟨t,rfl,t1,t2⟩
  apply ao
  unfold rX
  change wp _ _ _ _ ⟨ai [] t, [],none,m⟩ _
  simp (disch:=first|assumption|omega) only[go_sem,seval,t1,t2,g,uS]
  exact hK' _ (Chg.refl m)
 ·have g:=h.mc.g
  have hlen:=h.tv.sl.len
  rw[List.length_map,h.ln.1,←h.ln.2] at hlen
  have hln:=h.ln
  unfold nA at hK'
  rw[hph,Bool.true_and] at hK'
  simp (disch:=first|assumption|omega) only[go_sem,seval,aa]
  refine W.loop (fun f d=>∃t i,d=⟨t, [],none,m⟩/\NT.get D4.e t=some (.ptr r 0)/\NT.get D4.e.c t=some (ii (i:Nat))/\i+f=x.th.length/\(x.th.take i).all (fun y=>decide (y.s=1))=true) ?_ x.th.length _ ⟨_,0,rfl,by simp only[go_sem,seval],by simp only[go_sem,seval]<;>rfl,by omega,by simp⟩
  rintro f d ⟨t,i,rfl,t1,t2,hif,hA⟩
  apply ao
  unfold rX
  change wp _ _ _ _ ⟨ai [] t, [],none,m⟩ _
  by_cases hi:i<x.th.length
  ·have hib:i<bs.length:=by omega
   obtain ⟨id,off,w,c,a1,a2,a3,a4,a5⟩:=h.tv.sl.at i (by simpa using hib)
   rw[List.getElem_map] at a5
   have c0:c[off]? =some (.ptr bs[i].b 0):=aA a5 0 (by omega)
   obtain ⟨hb,-⟩:=h.tb i bs[i] x.th[i] (List.getElem?_eq_getElem hib) (List.getElem?_eq_getElem hi)
   have gb:=hb.g
   have htk:(x.th.take (i+1)).all (fun y=>decide (y.s=1))=decide (x.th[i].s=1):=by
    rw[List.take_add_one,List.getElem?_eq_getElem hi,List.all_append,hA];simp
   by_cases hs:x.th[i].s=1
   ·have gb:m.get bs[i].b=some (.cells true [bs[i].nm,bs[i].vv,bs[i].pl,.bool false,.bool true]):=hb.g.trans (by simp[gO,hs])
    simp (disch:=first|assumption|omega) only[go_sem,seval,t1,t2,g,hlen,a1,a2,c0,gb]
    exact ⟨f - 1,by omega,_,i+1,by rfl,by simp only[go_sem,seval,t1],by simp only[go_sem,seval]<;>rfl,by omega,by rw[htk];simpa using hs⟩
   ·have gb:m.get bs[i].b=some (.cells true [bs[i].nm,bs[i].vv,bs[i].pl,.bool (decide (x.th[i].s=2)),.bool false]):=hb.g.trans (by simp[gO,hs])
    have hfa:(x.th.all fun y=>decide (y.s=1))=false:=by
     rw[List.all_eq_false];exact ⟨x.th[i],List.getElem_mem hi,by simpa using hs⟩
    rw[hfa] at hK'
    simp (disch:=first|assumption|omega) only[go_sem,seval,t1,t2,g,hlen,a1,a2,c0,gb]
    exact hK' _ (Chg.refl m)
  ·rw[List.take_of_length_le (by omega)] at hA
   rw[hA] at hK'
   simp (disch:=first|assumption|omega) only[go_sem,seval,t1,t2,g,hlen,Fp]
   exact hK' _ (Chg.refl m)
def HB (p:Prg) (B:NH) (vc vt vr:NV) (m m':NH) (w:NV):Prop:=
 if (gl p).2≠0 then w= .tup [.nilp,ii (gl p).2]/\Chg [] m m'
 else ∃r F,w= .tup [.ptr r 0,ii 0]/\RunC p B vc vt vr/\gn p B vc vt vr m' r (jJ p (vM p)) 0 F/\Chg [] m m'/\∀i∈F,¬am m i
theorem IG (h:RP B (fun _=>True) p vc vt vr) (hC:Chg [] B m) (hs:p.cs.length<=100000/\p.ts.length<=100000) (hz:∀t∈p.ts,cI t.2<=400000) (hr:cI p.r<=400000) (hok:(gl p).2=0->PrgOk p):
 ∃w m',aS Tryz.prog S0 9 [.agg [vc,vt,vr]] m w m'/\HB p B vc vt vr m m' w:=by
 refine WF.ex fun K' hK'=> ?_
 refine WF.of_wpG (fun _=>rfl) EP (L:= [(.e,.agg [vc,vt,vr])]) rfl ?_
 unfold Qm
 obtain ⟨hcs,hts⟩:=hs
 generalize hM1:hp [(.n 0,.cells true [vc,vt,vr])] 1 m=M1
 have hC1:Chg [] m M1:=ba hM1 rfl
 have g1:M1.get (na m 0)=some (.cells true [vc,vt,vr]):=bz hM1
 have o1:am M1 (na m 0):=bw hM1 (by omega)
 have hCB1:=hC.trans hC1 (by simp)
 have h1:=h.stays (lF hCB1 _)
 obtain ⟨M2,r2,hC2⟩:=MY h1 ⟨by omega,by omega⟩ (fun t ht=>by have:=hz t ht;omega) (by omega)
 have g2:=(hC2.get o1 (by simp)).trans g1
 have o2:=hC2.old o1
 have hCm2:=hC1.trans hC2 (by simp)
 have hCB2:=hCB1.trans hC2 (by simp)
 unfold HB at hK'
 by_cases hE:(gl p).2≠0
 ·simp only[Rj hE] at hK'
  simp (disch:=first|assumption|omega|(simp only[aI]<;>omega)) only[go_sem,seval,hM1,g1,r2.wf']
  exact hK' _ _ ⟨rfl,hCm2⟩
 ·simp only[Ri hE] at hK'
  have hE0:(gl p).2=0:=by simpa using hE
  have hRC:=(hok hE0).run h
  obtain ⟨CT,hT⟩:=h.t
  obtain ⟨CR,hR⟩:=h.r
  obtain ⟨M7,r7,hC7⟩:=Hx (h.c.grew hCB2) (by omega)
  have hw:=dc p.cs
  obtain ⟨n,hn⟩:=Rr hw.1
  rw[hn] at r7
  have gM7:=(hC7.get o2 (by simp)).trans g2
  have kc:=h.c.one
  have kt:=hT.sl.one
  have kr:=hR.sl.one
  have ks:=h.c.same (n:=3)
  have kst:=hT.sl.same (n:=3)
  have ksr:=hR.sl.same (n:=3)
  have kag:bj 4 (.agg [vc,vt,vr]) (.agg [vc,vt,vr])=true:=iQ fun w hw=>by
   simp only[Rp,Rm,or_false] at hw
   rcases hw with rfl|rfl|rfl
   ·exact h.c.flat
   ·exact hT.sl.flat
   ·exact hR.sl.flat
  generalize hM8:hp [(.n 1,.cells true [vc,vt,vr,.slc (na M7 0) 0 n 1 n,.nils,.nilp,.nils,.bool false]),(.n 0,.cells true (rep n [iu 0]))] 2 M7=M8
  have hC8:Chg [] M7 M8:=ba hM8 rfl
  have hCB8:=(hCB2.trans hC7 (by simp)).trans hC8 (by simp)
  have hCm8:=(hCm2.trans hC7 (by simp)).trans hC8 (by simp)
  have nw:∀j,¬am B (na M7 j):=fun j q=>az (hC7.old (hCB2.old q))
  have nw2:∀j,¬am m (na M7 j):=fun j q=>az (hC7.old (hCm2.old q))
  have g81:M8.get (na M7 1)=some (.cells true [vc,vt,vr,.slc (na M7 0) 0 n 1 n,.nils,.nilp,.nils,.bool false]):=bz hM8
  have g80:M8.get (na M7 0)=some (.cells true (rep n [iu 0])):=bz hM8
  have o81:am M8 (na M7 1):=bw hM8 (by omega)
  have o80:am M8 (na M7 0):=bw hM8 (by omega)
  have e0:(vM p).cl=List.replicate n 0:=by unfold vM;rw[hn];rfl
  have hMac:Mac (fR vc vt vr .nilp .nils) B M8 (na M7 1) (.slc (na M7 0) 0 n 1 n) .nils (vM p):=by
   refine ⟨g81,o81,nw 1, ?_,aU.nil,⟨by simp[ids,mF],by simp[ids],by simp[ids]⟩,hCB8⟩
   rw[e0]
   exact aU.of (by simp) (nw 0) g80 o80 (by rw[qM];simp) (by simp) (by simp)
  have hMok:McOk p.cs (vM p):=⟨fun y hy=>by rw[e0,List.mem_replicate] at hy;rw[hy.2];exact ⟨by simp,by simp⟩,by simp[vM],by rw[e0,List.length_replicate,hn]⟩
  obtain ⟨M9,r9,F,hQ,hEv⟩:=uV hRC hMac hMok (o:=0) (by simp[vM])
  have hnF:∀i∈bD (na M7 1) (.slc (na M7 0) 0 n 1 n) .nils,¬am m i:=fun i hi=>by
   simp only[bD,ids,Rp,List.append_nil,Rm,or_false] at hi
   rcases hi with rfl|rfl
   ·exact nw2 1
   ·exact nw2 0
  simp (disch:=first|assumption|omega|(simp only[aI]<;>omega)) only[go_sem,seval,hM1,g1,r2.wf',g2,hE0,r7.wf,gM7,kc,kt,kr,ks,kst,ksr,kag,hM8,r9.wf']
  exact hK' _ _ ⟨_,F,rfl,hRC,hQ,hCm8.trans (hEv.c.weak (T:=bD (na M7 1) (.slc (na M7 0) 0 n 1 n) .nils) fun i hi _=>hi) (fun i hi w=>Rh w (hnF i hi)),fun i hi w=>(hEv.f i hi).elim (fun q=>hnF i q w) fun q=>q (hCm8.old w)⟩
end
theorem mN {m:NH} {u v:NV} {l:List Int} (hu:Sl m u 1 (mP l)) (hv:Sl m v 1 (mP l)) (hl:l.length<=1000000):aS Tryz.prog S0 21 [u,v] m (.bool true) m:=by
 have h:∃w m',aS Tryz.prog S0 21 [u,v] m w m'/\w= .bool true/\m'=m:=by
  refine WF.ex fun K' hK'=> ?_
  refine WF.of_wpG (fun _=>rfl) Ac (L:= [(.a .e,v),(.e,u)]) rfl ?_
  unfold LV
  have h1:=hu.len
  have h2:=hv.len
  rw[List.length_map] at h1 h2
  simp (disch:=first|assumption|omega) only[go_sem,seval,aa,h1,h2]
  refine W.loop (fun f d=>∃t i,d=⟨t, [],none,m⟩/\NT.get D4.e t=some u/\NT.get D4.e.a t=some v/\NT.get D4.e.a.a t=some (ii (i:Nat))/\i+f=l.length) ?_ l.length _ ⟨_,0,rfl,by simp only[go_sem,seval],by simp only[go_sem,seval],by simp only[go_sem,seval]<;>rfl,by omega⟩
  rintro f d ⟨t,i,rfl,t1,t2,t3,hif⟩
  apply ao
  unfold yZ
  change wp _ _ _ _ ⟨ai [] t, [],none,m⟩ _
  by_cases hi:i<l.length
  ·obtain ⟨id,off,w,c,a1,a2,a3,a4,a5⟩:=hu.at i (by simpa using hi)
   obtain ⟨id',off',w',c',b1,b2,b3,b4,b5⟩:=hv.at i (by simpa using hi)
   rw[List.getElem_map] at a5 b5
   have c0:c[off]? =some (iu l[i]):=aA a5 0 (by omega)
   have d0:c'[off']? =some (iu l[i]):=aA b5 0 (by omega)
   simp (disch:=first|assumption|omega) only[go_sem,seval,t1,t2,t3,h1,a1,a2,c0,b1,b2,d0]
   exact ⟨f - 1,by omega,_,i+1,by rfl,by simp only[go_sem,seval,t1],by simp only[go_sem,seval,t2],by simp only[go_sem,seval]<;>rfl,by omega⟩
  ·simp (disch:=first|assumption|omega) only[go_sem,seval,t1,t2,t3,h1]
   exact hK' _ _ ⟨rfl,rfl⟩
 obtain ⟨w,m',h,rfl,rfl⟩:=h
 exact h
end FR
