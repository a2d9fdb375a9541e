/- Contracts of functions that the law SourceCounts reaches, part 2. -/
import Derived.Test.YtcpilcplobihkaaScU1
set_option linter.unusedSimpArgs false
set_option linter.unusedVariables false
open Go Nm Go.Proofs
namespace FR
mutual
def Stm.ae (P:Ex->Prop):Stm->Prop
 | .mk _ _ _ _ i x y b e=>P i/\P x/\P y/\oQ P b/\oQ P e
def oQ (P:Ex->Prop):List Stm->Prop
 | []=>True
 |s::l=>s.ae P/\oQ P l
end
theorem kF {P:Ex->Prop}:∀{l:List Stm},oQ P l↔∀s∈l,s.ae P:=by
 intro l
 induction l with
 |nil=>simp[oQ]
 |cons s l ih=>rw[oQ,ih];simp
theorem xM {P:Ex->Prop} {l:List Stm} (h:∀s∈l,∀u∈s.all,P u.i/\P u.x/\P u.y):∀u∈bC l,P u.i/\P u.x/\P u.y:=by
 induction l with
 |nil=>simp[bC]
 |cons s l ih=>
  intro u hu
  rw[bC] at hu
  rcases List.mem_append.1 hu with hu|hu
  ·exact h s (List.mem_cons_self ..) u hu
  ·exact ih (fun t ht=>h t (List.mem_cons_of_mem _ ht)) u hu
theorem JA {P:Ex->Prop}:∀s:Stm,s.ae P->∀u∈s.all,P u.i/\P u.x/\P u.y:=by
 apply Stm.ind (P:=fun s=>s.ae P->∀u∈s.all,P u.i/\P u.x/\P u.y)
 intro k a nm ce i x y b e hb he h u hu
 rw[Stm.ae] at h
 rw[Stm.all] at hu
 rcases List.mem_cons.1 hu with rfl|hu
 ·exact ⟨h.1,h.2.1,h.2.2.1⟩
 ·rcases List.mem_append.1 hu with hu|hu
  ·split at hu
   ·exact xM (fun s hs=>hb s hs (kF.1 h.2.2.2.1 s hs)) u hu
   ·simp at hu
  ·split at hu
   ·exact xM (fun s hs=>he s hs (kF.1 h.2.2.2.2 s hs)) u hu
   ·simp at hu
structure ReadE (L:List Tok) (P:Ex->Prop):Prop where
 i:∀a,P (kO (aH L a).n)
 z:P zE
 n:∀s,P (c9 s)
 o:∀o x y,P x->P y->P (pf o x y)
section
variable {L:List Tok} {P:Ex->Prop}
theorem my (h:ReadE L P) {E:Rs->Ex×Rs} {d:Nat} (hE:∀s,P (E s).1):∀s,P (cG L E d s).1:=by
 intro s
 unfold cG
 split
 ·exact h.z
 split
 ·exact h.z
 split
 ·exact h.i _
 split
 ·exact h.n _
 split
 ·exact hE _
 ·exact h.z
theorem yN (h:ReadE L P) {Q:Rs->Ex×Rs} (hP:∀s,P (Q s).1):∀(f:Nat) (x:Ex) (s:Rs),P x->P (eG L Q f x s).1:=by
 intro f
 induction f with
 |zero=>intro x s h;exact h
 |succ f ih=>
  intro x s hx
  rw[eG]
  split
  ·exact hx
  split
  ·exact hx
  split
  ·exact hx
  ·exact ih _ _ (h.o _ _ _ hx (hP _))
theorem EH (h:ReadE L P):∀(n:Nat) (s:Rs),P (iQ L n s).1:=by
 intro n
 induction n with
 |zero=>exact fun s=>yN h (my h fun s=>h.z) _ _ _ (my h (fun s=>h.z) s)
 |succ n ih=>exact fun s=>yN h (my h ih) _ _ _ (my h ih s)
theorem kp (h:ReadE L P) (s:Rs):P (d8 L s).1:=EH h 30 s
theorem nV (h:ReadE L P) (s:Rs):P (bc L s).2.1:=by
 unfold bc
 split
 ·exact kp h _
 ·exact h.z
theorem D0 (h:ReadE L P) {B:Rs->List Stm×Rs} (hB:∀s,oQ P (B s).1) (s:Rs):(cB L B s).1.ae P:=by
 have z:=h.z
 have n:oQ P []:=by rw[oQ];trivial
 unfold cB
 split
 ·show (Stm.mk ..).ae P;rw[Stm.ae];exact ⟨z,kp h _,z,n,n⟩
 split
 ·show (Stm.mk ..).ae P;rw[Stm.ae];exact ⟨nV h _,z,z,n,n⟩
 split
 ·show (Stm.mk ..).ae P;rw[Stm.ae];exact ⟨nV h _,kp h _,z,n,n⟩
 split
 ·show (Stm.mk ..).ae P;rw[Stm.ae];exact ⟨nV h _,kp h _,kp h _,n,n⟩
 split
 ·show (Stm.mk ..).ae P;rw[Stm.ae];exact ⟨z,z,z,n,n⟩
 split
 ·show (Stm.mk ..).ae P;rw[Stm.ae];exact ⟨z,kp h _,z,n,n⟩
 split
 ·unfold Jf
  split
  ·show (Stm.mk ..).ae P;rw[Stm.ae];exact ⟨z,kp h _,z,hB _,hB _⟩
  ·show (Stm.mk ..).ae P;rw[Stm.ae];exact ⟨z,kp h _,z,hB _,n⟩
 split
 ·show (Stm.mk ..).ae P;rw[Stm.ae];exact ⟨z,kp h _,z,hB _,n⟩
 ·show (Stm.mk ..).ae P;rw[Stm.ae];exact ⟨z,z,z,n,n⟩
theorem s9 {S:Rs->Stm×Rs} (hS:∀s,(S s).1.ae P):∀(f:Nat) (l:List Stm) (s:Rs),oQ P l->oQ P (e7 L S f l s).1:=by
 intro f
 induction f with
 |zero=>intro l s h;exact h
 |succ f ih=>
  intro l s h
  rw[e7]
  split
  ·exact h
  split
  ·exact h
  ·refine ih _ _ (kF.2 fun t ht=> ?_)
   rcases List.mem_append.1 ht with ht|ht
   ·exact kF.1 h t ht
   ·rw[List.mem_singleton] at ht;subst ht;exact hS _
theorem yV (h:ReadE L P):∀(n:Nat) (s:Rs),oQ P (dk L n s).1:=by
 intro n
 have n0:oQ P []:=by rw[oQ];trivial
 induction n with
 |zero=>exact fun s=>s9 (fun s=>by rw[Stm.ae];exact ⟨h.z,h.z,h.z,n0,n0⟩) _ _ _ n0
 |succ n ih=>exact fun s=>s9 (fun s=>D0 h ih s) _ _ _ n0
def MO (P:Ex->Prop) (Q:Ps):Prop:=(∀t∈Q.ts,oQ P t.2)/\oQ P Q.rc
theorem Hd (h:ReadE L P) {Q:Ps} {s:Rs} (hq:MO P Q):MO P (e9 L Q s).1:=by
 unfold e9
 split
 ·exact hq
 split
 ·refine ⟨fun t ht=> ?_,hq.2⟩
  rcases List.mem_append.1 ht with ht|ht
  ·exact hq.1 t ht
  ·rw[List.mem_singleton] at ht;subst ht;exact yV h 30 _
 ·exact ⟨hq.1,yV h 30 _⟩
theorem Fg (h:ReadE L P):∀(f:Nat) (Q:Ps) (s:Rs),MO P Q->MO P (cF L f Q s).1:=by
 intro f
 induction f with
 |zero=>intro Q s hq;exact hq
 |succ f ih=>
  intro Q s hq
  rw[cF]
  split
  ·exact hq
  split
  ·exact hq
  ·exact ih _ _ (Hd h hq)
end
theorem Dx {b:List Nat} {p:Prg} {P:Ex->Prop} (hP:ReadE (dg b).1 P) (h:(bT b).1=some p):(∀t∈p.ts,oQ P t.2)/\oQ P p.r:=by
 unfold bT at h
 split at h
 ·cases h
 ·split at h
  ·cases h
  ·split at h
   ·cases h
   ·injection h with h
    subst h
    exact Fg hP _ ⟨[], [], [],false⟩ ⟨0,0,0⟩ ⟨by simp,by show oQ P [];rw[oQ];trivial⟩
theorem G0:∀(l:List Nat) (n v:Nat),n<18446744073709551616->lf l n=some v->v<18446744073709551616:=by
 intro l
 induction l with
 |nil=>intro n v hn h;rw[lf] at h;cases h;exact hn
 |cons c l ih=>
  intro n v hn h
  rw[lf] at h
  split at h
  ·exact ih _ _ ‹_› h
  ·cases h
theorem Jl {s:List Nat} {a kd n e:Nat} {t:List Nat} (h:eQ s a=some (kd,t,n,e)):n<18446744073709551616:=by
 unfold eQ at h
 cases hb:s[a]? with
 |none=>rw[hb] at h;cases h
 |some c=>
  rw[hb] at h
  dsimp only at h
  split at h
  ·split at h
   ·cases h;omega
   ·split at h
    ·cases h;omega
    ·cases h
  ·split at h
   ·cases hv:zz (cut s a (aR eH s a)) with
    |none=>rw[hv] at h;simp at h
    |some v=>
     rw[hv] at h
     have hvb:v<18446744073709551616:=by
      unfold zz at hv
      split at hv
      ·cases hv
      ·exact G0 _ _ _ (by omega) hv
     dsimp only at h
     split at h<;>cases h
     exact hvb
   ·split at h
    ·cases h;omega
    ·cases h
theorem DV {s:List Nat}:∀(k a:Nat),∀T∈(cQ s k a).1,T.n<18446744073709551616:=by
 intro k
 induction k with
 |zero=>intro a T h;simp[cQ] at h
 |succ k ih=>
  intro a T h
  rw[cQ] at h
  split at h
  ·cases ht:eQ s a with
   |none=>rw[ht] at h;simp at h
   |some q=>
    obtain ⟨kd,t,n,e⟩:=q
    rw[ht] at h
    dsimp only at h
    rcases List.mem_cons.1 h with rfl|h
    ·exact Jl ht
    ·exact ih _ T h
  ·rw[List.mem_singleton] at h;subst h;show (0:Nat)<_;omega
theorem Kd (b:List Nat) (a:Nat):(aH (dg b).1 a).n<18446744073709551616:=by
 unfold aH
 cases h:(dg b).1[a]? with
 |none=>show (0:Nat)<_;omega
 |some T=>exact DV _ _ T (List.mem_of_getElem? h)
theorem BP (b:List Nat):ReadE (dg b).1 Wid:=
 ⟨fun a=> .mk (Kd b a) (by simp) (by simp),.mk (by omega) (by simp) (by simp),fun s=> .mk (by omega) (by simp) (by simp),fun o x y hx hy=> .mk (by omega) (by simp) fun z hz=>by
  simp only[O5,O4,or_false] at hz
  rcases hz with rfl|rfl
  ·exact hx
  ·exact hy⟩
theorem FC {Z:List (List Nat)}:∀(l:List Stm) (st:J5),uI (bt (pU Z) l st).1.2=0->∀x∈l,x.k=1∨x.k=2∨x.k=3->x.ce∈Z:=by
 intro l
 induction l with
 |nil=>intro st _ x hx;simp at hx
 |cons a l ih=>
  intro st h x hx hk
  rw[bt] at h
  split at h
  ·rename_i h2
   rcases List.mem_cons.1 hx with rfl|hx
   ·unfold pU at h2
    split at h2
    ·cases h2
    ·rename_i q
     refine Classical.byContradiction fun hz=>q ⟨hk,hz⟩
   ·exact ih _ h x hx hk
  ·rename_i h2
   unfold pU at h h2
   split at h
   ·simp[uI] at h
   ·split at h
    ·simp[uI] at h
    ·split at h
     ·simp[uI] at h
     ·rename_i q1 q2 q3
      rw[O0 q1,O0 q2,O0 q3] at h2
      exact OZ rfl h2
theorem Gh {Z:List (List Nat)} {r:List Stm}:∀(L:List (List Stm)),(lD Z r L).2=0->(∀b∈L,uI (hH Z b)=0)/\uI (hH Z r)=0:=by
 intro L
 induction L with
 |nil=>intro h;exact ⟨by simp,h⟩
 |cons b L ih=>
  intro h
  rw[lD] at h
  split at h
  ·exact OZ h ‹_›
  ·rename_i q
   have:=ih h
   refine ⟨fun c hc=> ?_,this.2⟩
   rcases List.mem_cons.1 hc with rfl|hc
   ·simpa using q
   ·exact this.1 c hc
theorem Ak:∀(l:List (List Nat×Int)) (seen:List (List Nat)) (w:Int),dO seen w l=0->∀c∈l,1<=c.2/\c.2<=64:=by
 intro l
 induction l with
 |nil=>intro _ _ _ c hc;simp at hc
 |cons a l ih=>
  intro seen w h c hc
  rw[dO] at h
  split at h
  ·cases h
  split at h
  ·cases h
  split at h
  ·cases h
  ·rename_i q1 q2 q3
   rcases List.mem_cons.1 hc with rfl|hc
   ·unfold Fy at q2
    simp only[Bool.not_eq_false,decide_eq_true_eq] at q2
    exact ⟨q2.1,q2.2.1⟩
   ·exact ih _ _ h c hc
theorem KC {b:List Nat} {p:Prg} (hp:(bT b).1=some p) (hz:∀t∈p.ts,cZ t.2<=400000) (hr:cZ p.r<=400000) (he:(dz p).2=0):PrgOk p:=by
 unfold dz at he
 split at he
 ·exact OZ he ‹_›
 ·rename_i hh
  have hh:m8 p=0:=by simpa using hh
  obtain ⟨hb1,hb2⟩:=Gh _ he
  unfold m8 at hh
  split at hh
  ·cases hh
  ·rename_i h1
   split at hh
   ·exact OZ hh ‹_›
   ·rename_i h2
    have hce:dO [] 0 p.cs=0:=by simpa using h2
    obtain ⟨w1,w2⟩:=Dx (BP b) hp
    have key:∀l:List Stm,oQ Wid l->uI (hH (Ge p) l)=0->∀s∈l,Gs p.cs s:=fun l hl hE s hs u hu=>by
     have h3:=FC _ _ hE u (oE hs hu)
     refine ⟨fun hk=> ?_,JA s (kF.1 hl s hs) u hu⟩
     have:=h3 hk
     unfold Ge at this
     rcases (zo _ _).1 this with q|q
     ·simp at q
     ·exact q
    exact ⟨⟨by omega,Ak _ _ _ hce⟩,hz,hr,fun t ht s hs=>key t.2 (w1 t ht) (hb1 t.2 (List.mem_map_of_mem (f:=fun t:List Nat×List Stm=>t.2) ht)) s hs,fun s hs=>key p.r w2 hb2 s hs,by omega⟩
set_option maxRecDepth 100000 in
theorem Ec {m:NH} {l:List NV} (h:Ty Try.prog m 43 l):∃v b,l= [v]/\Sl m v 1 (rT b):=by
 obtain ⟨v,C,rfl,hS,hm,hall⟩:=h.inv_slc Try.underlying43
 have key:∀C:List (List NV),(∀c∈C,Ty Try.prog m 3 c)->∃b:List Int,C=rT b:=by
  intro C
  induction C with
  |nil=>intro _;exact ⟨[],rfl⟩
  |cons c C ih=>
   intro h
   obtain ⟨n,rfl,hw⟩:=(h c (List.mem_cons_self ..)).inv_int Try.underlying3
   obtain ⟨l,rfl⟩:=ih fun x hx=>h x (List.mem_cons_of_mem _ hx)
   exact ⟨n::l,rfl⟩
 obtain ⟨b,rfl⟩:=key C hall
 exact ⟨v,b,rfl,hS⟩
theorem E0 {l:List Nat} {x:Nat} (h:x∈l):x<=l.sum:=by
 induction l with
 |nil=>simp at h
 |cons a l ih=>
  rw[List.sum_cons]
  rcases List.mem_cons.mp h with rfl|h
  ·omega
  ·have:=ih h;omega
theorem Di.more {p:Prg} {B m:NH} {vc vt vr:NV} {r:D4} {x:Rn} {o o':Nat} {F:List D4} (h:Di p B vc vt vr m r x o F) (ho:o<=o'):Di p B vc vt vr m r x o' F:=by
 rcases h with ⟨a,b,c,d,e,f,g,i⟩|⟨a,b,c,d,e,f,g,h,i⟩
 ·exact Or.inl ⟨a,b,c,d,e,f,g.more ho,i⟩
 ·exact Or.inr ⟨a,b,c,d,e,f,g,h.more ho,i⟩
def pM (i:Nat):Nat:=116+i
def i6 (c d:Nat):List Nat:= [116,104,114,101,97,100,32]++ [c]++ [32,123,32,115,101,116,32,107,32]++ [d]++ [59,32,119,104,105,108,101,32,107,32,123,32,108,111,97,100,32,118,32,97,59,32,99,97,115,32,111,107,32,97,32,118,32,118,32,43,32,49,59,32,105,102,32,111,107,32,123,32,115,101,116,32,107,32,107,32,45,32,49,59,32,125,32,125,32,125,32]
def bV (n T:Nat):List Nat:= [99,101,108,108,32,97,59,32]++(List.range n).flatMap fun i=>i6 (pM i) (48+T)
def kN:List Nat:= [107]
def vN:List Nat:= [118]
def zc:List Nat:= [111,107]
def aN:List Nat:= [97]
def pB (p:Int):Stm:= .mk 1 p vN aN zE zE zE [] []
def p7 (p:Int):Stm:= .mk 3 p zc aN zE (c9 vN) (pf 43 (c9 vN) (kO 1)) [] []
def lj (p:Int):Stm:= .mk 0 p kN [] zE (pf 45 (c9 kN) (kO 1)) zE [] []
def Gr (p q:Int):Stm:= .mk 6 p [] [] zE (c9 zc) zE [lj q] []
def dq (a b c d:Int):List Stm:= [pB a,p7 b,Gr c d]
def iT (p a b c d:Int):Stm:= .mk 7 p [] [] zE (c9 kN) zE (dq a b c d) []
def m6 (T:Nat) (p:Int):Stm:= .mk 0 p kN [] zE (kO T) zE [] []
def bg (T:Nat) (s p a b c d:Int):List Stm:= [m6 T s,iT p a b c d]
def aP (n T:Nat):Prg:=⟨[(aN,1)],(List.range n).map fun i=>([pM i],bg T (19+85*i) (28+85*i) (38+85*i) (48+85*i) (66+85*i) (74+85*i)), []⟩
theorem EP:bT (bV 1 1)=(some (aP 1 1),93,0):=by kernel_rfl
theorem Fu:bT (bV 1 2)=(some (aP 1 2),93,0):=by kernel_rfl
theorem FT:bT (bV 1 3)=(some (aP 1 3),93,0):=by kernel_rfl
theorem EE:bT (bV 1 4)=(some (aP 1 4),93,0):=by kernel_rfl
theorem D3:bT (bV 1 5)=(some (aP 1 5),93,0):=by kernel_rfl
theorem D7:bT (bV 2 1)=(some (aP 2 1),178,0):=by kernel_rfl
theorem DN:bT (bV 2 2)=(some (aP 2 2),178,0):=by kernel_rfl
theorem EU:bT (bV 2 3)=(some (aP 2 3),178,0):=by kernel_rfl
theorem FM:bT (bV 2 4)=(some (aP 2 4),178,0):=by kernel_rfl
theorem FP:bT (bV 2 5)=(some (aP 2 5),178,0):=by kernel_rfl
theorem EQ:bT (bV 3 1)=(some (aP 3 1),263,0):=by kernel_rfl
theorem EO:bT (bV 3 2)=(some (aP 3 2),263,0):=by kernel_rfl
theorem E5:bT (bV 3 3)=(some (aP 3 3),263,0):=by kernel_rfl
theorem Ek:bT (bV 3 4)=(some (aP 3 4),263,0):=by kernel_rfl
theorem Fb:bT (bV 3 5)=(some (aP 3 5),263,0):=by kernel_rfl
theorem Fq:bT (bV 4 1)=(some (aP 4 1),348,0):=by kernel_rfl
theorem FO:bT (bV 4 2)=(some (aP 4 2),348,0):=by kernel_rfl
theorem Fl:bT (bV 4 3)=(some (aP 4 3),348,0):=by kernel_rfl
theorem D9:bT (bV 4 4)=(some (aP 4 4),348,0):=by kernel_rfl
theorem D6:bT (bV 4 5)=(some (aP 4 5),348,0):=by kernel_rfl
theorem Lb {n T:Nat} (hn:1<=n/\n<=4) (hT:1<=T/\T<=5):bT (bV n T)=(some (aP n T),8+85*n,0):=by
 obtain ⟨a,b⟩:=hn
 obtain ⟨c,d⟩:=hT
 have h1:n=1∨n=2∨n=3∨n=4:=by omega
 have h2:T=1∨T=2∨T=3∨T=4∨T=5:=by omega
 rcases h1 with rfl|rfl|rfl|rfl<;>rcases h2 with rfl|rfl|rfl|rfl|rfl
 ·exact EP
 ·exact Fu
 ·exact FT
 ·exact EE
 ·exact D3
 ·exact D7
 ·exact DN
 ·exact EU
 ·exact FM
 ·exact FP
 ·exact EQ
 ·exact EO
 ·exact E5
 ·exact Ek
 ·exact Fb
 ·exact Fq
 ·exact FO
 ·exact Fl
 ·exact D9
 ·exact D6
theorem IP:(dz (aP 1 1)).2=0:=by kernel_rfl
theorem H6:(dz (aP 1 2)).2=0:=by kernel_rfl
theorem GP:(dz (aP 1 3)).2=0:=by kernel_rfl
theorem Ic:(dz (aP 1 4)).2=0:=by kernel_rfl
theorem Jg:(dz (aP 1 5)).2=0:=by kernel_rfl
theorem Jb:(dz (aP 2 1)).2=0:=by kernel_rfl
theorem JD:(dz (aP 2 2)).2=0:=by kernel_rfl
theorem IV:(dz (aP 2 3)).2=0:=by kernel_rfl
theorem Je:(dz (aP 2 4)).2=0:=by kernel_rfl
theorem IJ:(dz (aP 2 5)).2=0:=by kernel_rfl
theorem Hc:(dz (aP 3 1)).2=0:=by kernel_rfl
theorem HC:(dz (aP 3 2)).2=0:=by kernel_rfl
theorem JO:(dz (aP 3 3)).2=0:=by kernel_rfl
theorem Hb:(dz (aP 3 4)).2=0:=by kernel_rfl
theorem Ij:(dz (aP 3 5)).2=0:=by kernel_rfl
theorem JG:(dz (aP 4 1)).2=0:=by kernel_rfl
theorem Iw:(dz (aP 4 2)).2=0:=by kernel_rfl
theorem I6:(dz (aP 4 3)).2=0:=by kernel_rfl
theorem G5:(dz (aP 4 4)).2=0:=by kernel_rfl
theorem Hj:(dz (aP 4 5)).2=0:=by kernel_rfl
theorem Nw {n T:Nat} (hn:1<=n/\n<=4) (hT:1<=T/\T<=5):(dz (aP n T)).2=0:=by
 obtain ⟨a,b⟩:=hn
 obtain ⟨c,d⟩:=hT
 have h1:n=1∨n=2∨n=3∨n=4:=by omega
 have h2:T=1∨T=2∨T=3∨T=4∨T=5:=by omega
 rcases h1 with rfl|rfl|rfl|rfl<;>rcases h2 with rfl|rfl|rfl|rfl|rfl
 ·exact IP
 ·exact H6
 ·exact GP
 ·exact Ic
 ·exact Jg
 ·exact Jb
 ·exact JD
 ·exact IV
 ·exact Je
 ·exact IJ
 ·exact Hc
 ·exact HC
 ·exact JO
 ·exact Hb
 ·exact Ij
 ·exact JG
 ·exact Iw
 ·exact I6
 ·exact G5
 ·exact Hj
theorem K2 (T:Nat) (s p a b c d:Int):locals (bg T s p a b c d)= [kN,vN,zc]:=by
 simp[locals,bg,m6,iT,dq,pB,p7,Gr,lj,bC,Stm.all,Stm.own,Ex.names,cg,cC,zE,kN,vN,zc]
inductive Ph where
 |s0
 |ld (j v:Nat)
 |tr (j v:Nat) (ok:Bool)
 |dn
abbrev yh:List (List Nat×Int):= [(aN,1)]
abbrev iH:List (List Nat):= [kN,vN,zc]
def N5 (T:Nat) (x:Bd):Ph->Prop
 | .s0=>∃s p a b c d,x=⟨[(bg T s p a b c d,0)], [0,0,0],0⟩
 | .ld j v=>∃s p a b c d k,x=⟨[(dq a b c d,1),(bg T s p a b c d,1)], [(j:Int),(v:Int),k],0⟩
 | .tr j v ok=>∃s p a b c d,x=⟨[(dq a b c d,2),(bg T s p a b c d,1)], [(j:Int),(v:Int),if ok then 1 else 0],0⟩
 | .dn=>x.s=1
theorem Gm (a:Int) (z:Int):fa yh z (pB a)=0/\fa yh z (p7 a)=0:=by
 have h:∀t:Stm,t.ce=aN->fa yh z t=0:=fun t ht=>by
  have e:cN (yh.map (·.1)) t.ce=(0:Nat):=ga (by simp) (by simp[ht]) (by omega)
  rw[mV z e (by simp)]
  simp[br]
 exact ⟨h _ rfl,h _ rfl⟩
theorem fk:cN iH kN=(0:Nat):=ga (by simp) rfl (by omega)
theorem fv:cN iH vN=(1:Nat):=by decide+kernel
theorem fo:cN iH zc=(2:Nat):=by decide+kernel
theorem Nu (a b c:Int):yi iH [a,b,c] kN=a:=qJ fk (by simp)
theorem MM (a b c:Int):yi iH [a,b,c] vN=b:=qJ fv (by simp)
theorem Oy (a b c:Int):yi iH [a,b,c] zc=c:=qJ fo (by simp)
theorem Ox (a b c z:Int):hJ iH [a,b,c] kN z= [z,b,c]:=by unfold hJ;rw[fk];rfl
theorem J6 (a b c z:Int):hJ iH [a,b,c] vN z= [a,z,c]:=by unfold hJ;rw[fv];rfl
theorem OB (a b c z:Int):hJ iH [a,b,c] zc z= [a,b,z]:=by unfold hJ;rw[fo];rfl
theorem OL (vs:List Int):(c9 kN).eval iH vs=yi iH vs kN:=by simp[Ex.eval]
theorem OY (vs:List Int):(c9 vN).eval iH vs=yi iH vs vN:=by simp[Ex.eval]
theorem OJ (vs:List Int):(c9 zc).eval iH vs=yi iH vs zc:=by simp[Ex.eval]
theorem OX (T:Nat) (vs:List Int):(kO T).eval iH vs=T:=by simp[Ex.eval]
theorem OT (vs:List Int):(pf 45 (c9 kN) (kO 1)).eval iH vs=(yi iH vs kN - 1) % 18446744073709551616:=by simp[Ex.eval,jj,Fk,Ai]
theorem OS (vs:List Int):(pf 43 (c9 vN) (kO 1)).eval iH vs=(yi iH vs vN+1) % 18446744073709551616:=by simp[Ex.eval,jj,Fk,Ai]
theorem Oz {c:Nat} (vs:List Int) (z:Mc) (h:z.cl= [(c:Int)]) (x:Stm) (hx:∀a,fa yh a x=0):(z.cl[(fa yh (x.i.eval iH vs) x).toNat]?).getD 0=c:=by rw[hx,h];rfl
def Ph.nx (T c:Nat):Ph->Ph
 | .s0=> .ld T c
 | .ld j v=> .tr j v (decide (c=v))
 | .tr j _ ok=>if ok=true then (if j=1 then .dn else .ld (j - 1) c) else .ld j c
 | .dn=> .dn
def Ph.cx (c:Nat):Ph->Nat
 | .ld _ v=>if c=v then c+1 else c
 |_=>c
def Ph.good (T c:Nat):Ph->Prop
 | .ld j v=>1<=j/\j<=T/\v<=c
 | .tr j v _=>1<=j/\j<=T/\v<=c
 |_=>True
section
variable {T c:Nat} {z:Mc} {a b d e p s:Int}
theorem yU (hz:z.cl= [(c:Int)]) (j:Nat) (y k:Int) (n:Nat):(j≠0->rF yh iH (n+2) ⟨[(bg T s p a b d e,1)], [(j:Int),y,k],0⟩ z=(true,⟨[(dq a b d e,1),(bg T s p a b d e,1)], [(j:Int),(c:Int),k],0⟩,z))/\
 (j=0->rF yh iH (n+2) ⟨[(bg T s p a b d e,1)], [(j:Int),y,k],0⟩ z=(false,⟨[], [(j:Int),y,k],1⟩,z)):=by
 have e1:bo ([(bg T s p a b d e,1)]:jl)= [(bg T s p a b d e,1)]:=by simp[bo,bg]
 have e2:pE (bg T s p a b d e,1)=iT p a b d e:=by simp[pE,bg]
 have e3:(iT p a b d e).k=7:=rfl
 refine ⟨fun h=> ?_,fun h=> ?_⟩
 ·have e4:bo ([(dq a b d e,0),(bg T s p a b d e,1)]:jl)= [(dq a b d e,0),(bg T s p a b d e,1)]:=by simp[bo,dq]
  have e5:pE (dq a b d e,0)=pB a:=by simp[pE,dq]
  have e6:(pB a).k=1:=rfl
  rw[di e1,e2,O0 (by simp[fG,e3])]
  have eq1:cu iH (iT p a b d e) ⟨[(bg T s p a b d e,1)], [(j:Int),y,k],0⟩=⟨[(dq a b d e,0),(bg T s p a b d e,1)], [(j:Int),y,k],0⟩:=by
   unfold cu
   rw[O0 (by rw[e3];omega),O1 e3,show (iT p a b d e).x=c9 kN from rfl,OL,Nu,O1 (by omega)]
   rfl
  rw[eq1,di e4,e5,O1 (by simp[fG,e6])]
  unfold yT ji
  rw[O1 e6,Oz _ _ hz _ fun z=>(Gm a z).1,show (pB a).nm=vN from rfl,J6]
  rfl
 ·have e4:bo ([(bg T s p a b d e,2)]:jl)= []:=by simp[bo,bg]
  rw[di e1,e2,O0 (by simp[fG,e3])]
  have eq1:cu iH (iT p a b d e) ⟨[(bg T s p a b d e,1)], [(j:Int),y,k],0⟩=⟨[(bg T s p a b d e,2)], [(j:Int),y,k],0⟩:=by
   unfold cu
   rw[O0 (by rw[e3];omega),O1 e3,show (iT p a b d e).x=c9 kN from rfl,OL,Nu,O0 (by omega)]
   rfl
  rw[eq1,j9 e4]
theorem GL {K K':jl} {v:List Int} {s:Int} (h:bo K=bo K') (n:Nat):rF yh iH n ⟨K,v,s⟩ z=rF yh iH n ⟨K',v,s⟩ z:=by
 cases hK:bo K' with
 |nil=>rw[j9 (x:=⟨K,v,s⟩) (h.trans hK),j9 (x:=⟨K',v,s⟩) hK]
 |cons y l=>
  cases n with
  |zero=>rw[nW (x:=⟨K,v,s⟩) (h.trans hK),nW (x:=⟨K',v,s⟩) hK]
  |succ n=>rw[di (x:=⟨K,v,s⟩) (h.trans hK),di (x:=⟨K',v,s⟩) hK]
theorem Nn {x:Bd} {ph:Ph} (hx:N5 T x ph) (hg:ph.good T c) (hT:1<=T/\T<=5) (hc:c<=20) (hz:z.cl= [(c:Int)]):
 N5 T (cr yh iH x z).2.1 (ph.nx T c)/\(cr yh iH x z).2.2.cl= [((ph.cx c:Nat):Int)]:=by
 cases ph with
 |s0=>
  obtain ⟨s,p,a,b,d,e,rfl⟩:=hx
  have e1:bo ([(bg T s p a b d e,0)]:jl)= [(bg T s p a b d e,0)]:=by simp[bo,bg]
  have e2:pE (bg T s p a b d e,0)=m6 T s:=by simp[pE,bg]
  have e3:(m6 T s).k=0:=rfl
  have hr:cr yh iH ⟨[(bg T s p a b d e,0)], [0,0,0],0⟩ z=(true,⟨[(dq a b d e,1),(bg T s p a b d e,1)], [(T:Int),(c:Int),0],0⟩,z):=by
   unfold cr
   rw[O1 rfl,di e1,e2,O0 (by simp[fG,e3])]
   have eq1:cu iH (m6 T s) ⟨[(bg T s p a b d e,0)], [0,0,0],0⟩=⟨[(bg T s p a b d e,1)], [(T:Int),0,0],0⟩:=by
    unfold cu
    rw[O0 (by rw[e3];omega),O0 (by rw[e3];omega),O1 e3,show (m6 T s).x=kO T from rfl,OX,show (m6 T s).nm=kN from rfl,Ox]
    rfl
   rw[eq1]
   exact (yU hz T 0 0 997).1 (by omega)
  rw[hr]
  exact ⟨⟨s,p,a,b,d,e,0,rfl⟩,hz⟩
 |ld j v=>
  obtain ⟨s,p,a,b,d,e,k,rfl⟩:=hx
  obtain ⟨g1,g2,g3⟩:=hg
  have e1:bo ([(dq a b d e,1),(bg T s p a b d e,1)]:jl)= [(dq a b d e,1),(bg T s p a b d e,1)]:=by simp[bo,dq]
  have e2:pE (dq a b d e,1)=p7 b:=by simp[pE,dq]
  have e3:(p7 b).k=3:=rfl
  have hw:∀z,fa yh z (p7 b)=0:=fun z=>(Gm b z).2
  unfold cr
  rw[O1 rfl,di e1,e2,O1 (by simp[fG,e3])]
  unfold yT ji
  rw[O0 (by rw[e3];omega),O0 (by rw[e3];omega),O1 e3,Oz _ _ hz _ hw,show (p7 b).x=c9 vN from rfl,show (p7 b).y=pf 43 (c9 vN) (kO 1) from rfl,OY,OS,MM,show (p7 b).nm=zc from rfl,OB,OB]
  by_cases hv:c=v
  ·subst hv
   rw[O1 rfl]
   simp only[Ph.nx,Ph.cx,decide_true,if_true]
   refine ⟨⟨s,p,a,b,d,e,rfl⟩, ?_⟩
   rw[hw,hz]
   show [((c:Int)+1) % 18446744073709551616]=_
   rw[Int.emod_eq_of_lt (by omega) (by omega)]
   rfl
  ·rw[O0 (by omega)]
   simp only[Ph.nx,Ph.cx,O2 hv,O0 hv]
   exact ⟨⟨s,p,a,b,d,e,rfl⟩,hz⟩
 |tr j v ok=>
  obtain ⟨s,p,a,b,d,e,rfl⟩:=hx
  obtain ⟨g1,g2,g3⟩:=hg
  have e1:bo ([(dq a b d e,2),(bg T s p a b d e,1)]:jl)= [(dq a b d e,2),(bg T s p a b d e,1)]:=by simp[bo,dq]
  have e2:pE (dq a b d e,2)=Gr d e:=by simp[pE,dq]
  have e3:(Gr d e).k=6:=rfl
  unfold cr
  rw[O1 rfl,di e1,e2,O0 (by simp[fG,e3])]
  cases ok with
  |false=>
   have eq1:cu iH (Gr d e) ⟨[(dq a b d e,2),(bg T s p a b d e,1)], [(j:Int),(v:Int),if false=true then 1 else 0],0⟩=⟨[([],0),(dq a b d e,3),(bg T s p a b d e,1)], [(j:Int),(v:Int),0],0⟩:=by
    unfold cu
    rw[O1 e3,show (Gr d e).x=c9 zc from rfl,OJ,Oy,O0 (by simp)]
    rfl
   rw[eq1,GL (K':= [(bg T s p a b d e,1)]) (by simp[bo,dq])]
   rw[(yU hz j v 0 997).1 (by omega)]
   exact ⟨⟨s,p,a,b,d,e,0,rfl⟩,hz⟩
  |true=>
   have eq1:cu iH (Gr d e) ⟨[(dq a b d e,2),(bg T s p a b d e,1)], [(j:Int),(v:Int),if true=true then 1 else 0],0⟩=⟨[([lj e],0),(dq a b d e,3),(bg T s p a b d e,1)], [(j:Int),(v:Int),1],0⟩:=by
    unfold cu
    rw[O1 e3,show (Gr d e).x=c9 zc from rfl,OJ,Oy,O1 (by simp)]
    rfl
   have e4:bo ([([lj e],0),(dq a b d e,3),(bg T s p a b d e,1)]:jl)= [([lj e],0),(dq a b d e,3),(bg T s p a b d e,1)]:=by simp[bo]
   have e5:pE ([lj e],0)=lj e:=by simp[pE]
   have e6:(lj e).k=0:=rfl
   have eq2:cu iH (lj e) ⟨[([lj e],0),(dq a b d e,3),(bg T s p a b d e,1)], [(j:Int),(v:Int),1],0⟩=⟨[([lj e],1),(dq a b d e,3),(bg T s p a b d e,1)], [((j - 1:Nat):Int),(v:Int),1],0⟩:=by
    unfold cu
    rw[O0 (by rw[e6];omega),O0 (by rw[e6];omega),O1 e6,show (lj e).x=pf 45 (c9 kN) (kO 1) from rfl,OT,Nu,show (lj e).nm=kN from rfl,Ox,Int.emod_eq_of_lt (by omega) (by omega)]
    rw[show ((j - 1:Nat):Int)=(j:Int) - 1 by omega]
    rfl
   rw[eq1,di e4,e5,O0 (by simp[fG,e6]),eq2,GL (K':= [(bg T s p a b d e,1)]) (by simp[bo,dq])]
   by_cases hj:j=1
   ·rw[(yU hz (j - 1) v 1 996).2 (by omega)]
    simp only[Ph.nx,if_true,O1 hj]
    exact ⟨rfl,hz⟩
   ·rw[(yU hz (j - 1) v 1 996).1 (by omega)]
    simp only[Ph.nx,if_true,O0 hj]
    exact ⟨⟨s,p,a,b,d,e,1,rfl⟩,hz⟩
 |dn=>
  have hs:x.s=1:=hx
  unfold cr
  rw[O0 (by omega)]
  exact ⟨hs,hz⟩
theorem FU {ph:Ph} (hg:ph.good T c) (hT:1<=T):(ph.nx T c).good T (ph.cx c):=by
 cases ph with
 |s0=>exact ⟨hT,Nat.le_refl _,Nat.le_refl _⟩
 |ld j v=>
  obtain ⟨g1,g2,g3⟩:=hg
  refine ⟨g1,g2, ?_⟩
  simp only[Ph.cx];split<;>omega
 |tr j v ok=>
  obtain ⟨g1,g2,g3⟩:=hg
  simp only[Ph.nx,Ph.cx]
  split
  ·split
   ·trivial
   ·exact ⟨by omega,by omega,Nat.le_refl _⟩
  ·exact ⟨g1,g2,Nat.le_refl _⟩
 |dn=>trivial
theorem K5 (ph:Ph):c<=ph.cx c/\ph.cx c<=c+1:=by
 cases ph<;>simp only[Ph.cx]<;>(try split)<;>omega
theorem F9 {ph:Ph} {c':Nat} (hg:ph.good T c) (h:c<=c'):ph.good T c':=by
 cases ph with
 |s0=>trivial
 |ld j v=>exact ⟨hg.1,hg.2.1,Nat.le_trans hg.2.2 h⟩
 |tr j v ok=>exact ⟨hg.1,hg.2.1,Nat.le_trans hg.2.2 h⟩
 |dn=>trivial
def Ph.rem (T:Nat):Ph->Nat
 | .s0=>T
 | .ld j _=>j
 | .tr j _ ok=>if ok=true then j - 1 else j
 | .dn=>0
theorem HW {ph:Ph} (hg:ph.good T c):(ph.nx T c).rem T+ph.cx c=ph.rem T+c:=by
 cases ph with
 |s0=>rfl
 |ld j v=>
  obtain ⟨g1,-,-⟩:=hg
  simp only[Ph.nx,Ph.rem,Ph.cx,decide_eq_true_eq]
  split<;>omega
 |tr j v ok=>
  obtain ⟨g1,-,-⟩:=hg
  cases ok with
  |false=>simp[Ph.nx,Ph.rem,Ph.cx]
  |true=>
   simp only[Ph.nx,Ph.cx,if_true]
   by_cases hj:j=1
   ·subst hj;rw[O1 rfl];simp[Ph.rem]
   ·rw[O0 hj];simp[Ph.rem]
 |dn=>rfl
def Ph.f (N c:Nat):Ph->Nat
 | .s0=>2*(N - c)+1
 | .ld _ v=>if v=c then 2*(N - c) else 2*(N - c)+2
 | .tr _ _ _=>2*(N - c)+1
 | .dn=>0
theorem LD {ph:Ph} {N c':Nat} (hg:ph.good T c) (h:c<=c') (h2:c'<=N):ph.f N c'<=ph.f N c:=by
 cases ph with
 |s0=>simp only[Ph.f];omega
 |ld j v=>
  obtain ⟨-,-,g3⟩:=hg
  simp only[Ph.f]
  split<;>split<;>omega
 |tr j v ok=>simp only[Ph.f];omega
 |dn=>exact Nat.le_refl _
theorem LE {ph:Ph} {N:Nat} (hg:ph.good T c) (h:ph.cx c<=N) (hr:ph.rem T+c<=N):(ph.nx T c).f N (ph.cx c)<=ph.f N c - 1:=by
 cases ph with
 |s0=>simp[Ph.nx,Ph.f,Ph.cx]
 |ld j v=>
  obtain ⟨g1,-,g3⟩:=hg
  simp only[Ph.rem] at hr
  simp only[Ph.nx,Ph.f,Ph.cx]
  by_cases hv:c=v
  ·subst hv;simp only[if_true];omega
  ·rw[O0 hv,O0 (fun q=>hv q.symm)];omega
 |tr j v ok=>
  cases ok with
  |false=>simp[Ph.nx,Ph.f,Ph.cx]
  |true=>
   simp only[Ph.nx,Ph.cx,if_true]
   split<;>simp[Ph.f]
 |dn=>simp[Ph.nx,Ph.f]
theorem Lc (ph:Ph) (N:Nat) (hN:N<=20):ph.f N c<=42:=by
 cases ph<;>simp only[Ph.f]<;>(try split)<;>omega
theorem JP {ph:Ph} {N:Nat} (hg:ph.good T c) (hr:ph.rem T+c<=N) (hf:ph.f N c=0):ph= .dn:=by
 cases ph with
 |s0=>simp only[Ph.f] at hf;omega
 |ld j v=>
  obtain ⟨g1,-,-⟩:=hg
  simp only[Ph.rem] at hr
  simp only[Ph.f] at hf
  split at hf<;>omega
 |tr j v ok=>simp only[Ph.f] at hf;omega
 |dn=>rfl
end
theorem yQ {α:Type} (g:α->Nat):∀(l:List α) (k:Nat) (a b:α),l[k]? =some a->((l.set k b).map g).sum+g a=(l.map g).sum+g b
 | [],_,_,_,h=>by simp at h
 |x::l,0,a,b,h=>by
  simp only[List.getElem?_cons_zero,Option.some.injEq] at h;subst h
  simp only[List.set_cons_zero,List.map_cons,List.sum_cons];omega
 |x::l,k+1,a,b,h=>by
  have:=yQ g l k a b (by simpa using h)
  simp only[List.set_cons_succ,List.map_cons,List.sum_cons];omega
theorem wz (g:Ph->Nat):∀(l:List Ph) (a:Ph),a∈l->g a<=(l.map g).sum
 | [],_,h=>by simp at h
 |x::l,a,h=>by
  rw[List.map_cons,List.sum_cons]
  rcases List.mem_cons.1 h with rfl|h
  ·omega
  ·have:=wz g l a h;omega
structure AllC (n T c:Nat) (x:Rn) (l:List Ph):Prop where
 ph:x.ph=true∨x.rc=gZ []
 ln:l.length=n/\x.th.length=n
 at':∀(j:Nat) (y:Bd) (p:Ph),x.th[j]? =some y->l[j]? =some p->N5 T y p/\p.good T c
 cl:x.z.cl= [(c:Int)]
 sm:(l.map (Ph.rem T)).sum+c=n*T
section
variable {n T c:Nat} {x:Rn} {l:List Ph}
theorem DZ {j:Nat} (hj:j<n):locals (dD (aP n T) j)=iH:=by
 unfold dD aP
 simp only[List.getElem?_map,List.getElem?_range hj,Option.map_some,Option.getD_some]
 exact K2 ..
theorem Kp (hn:n<=4) (hT:1<=T/\T<=5) (h:AllC n T c x l) (k:Int):∃c' l',AllC n T c' (u9 (aP n T) k x).2 l'/\c<=c'/\(u9 (aP n T) k x).2.ph=true/\∀(j:Nat) (p p':Ph),l[j]? =some p->l'[j]? =some p'->p'.f (n*T) c'<=(if (j:Int)=k then p.f (n*T) c - 1 else p.f (n*T) c):=by
 have hN:n*T<=20:=Nat.mul_le_mul hn hT.2
 obtain ⟨h1,h2⟩:=h.ln
 unfold u9
 by_cases hk:0<=k/\k<x.th.length
 ·rw[O1 hk]
  obtain ⟨k,rfl⟩:=O7 hk.1
  have hkn:k<n:=by omega
  simp only[Int.toNat_natCast]
  have hkt:k<x.th.length:=by omega
  have hkl:k<l.length:=by omega
  have e1:=List.getElem?_eq_getElem hkt
  have e2:=List.getElem?_eq_getElem hkl
  rw[e1,Option.getD_some,DZ hkn]
  obtain ⟨a1,a2⟩:=h.at' k _ _ e1 e2
  have hsm:=h.sm
  have hle:=wz (Ph.rem T) l _ (List.getElem_mem hkl)
  have hr:l[k].rem T+c<=n*T:=by omega
  obtain ⟨r1,r2⟩:=Nn a1 a2 hT (by omega) h.cl
  have hg:=FU a2 hT.1
  have hrn:=HW a2
  obtain ⟨c1,c2⟩:=K5 (c:=c) l[k]
  have hss:=yQ (Ph.rem T) l k l[k] (l[k].nx T c) e2
  have hcN:l[k].cx c<=n*T:=by omega
  refine ⟨l[k].cx c,l.set k (l[k].nx T c),⟨Or.inl rfl,by simp[h1,h2],fun j y p hy hp=> ?_,r2,by omega⟩,c1,by trivial,fun j p p' hp hp'=> ?_⟩
  ·by_cases e:j=k
   ·subst e
    rw[List.getElem?_set_self hkt] at hy
    rw[List.getElem?_set_self hkl] at hp
    cases hy;cases hp
    exact ⟨r1,hg⟩
   ·rw[List.getElem?_set_ne (fun a=>e a.symm)] at hy hp
    obtain ⟨b1,b2⟩:=h.at' j y p hy hp
    exact ⟨b1,F9 b2 c1⟩
  ·by_cases e:j=k
   ·subst e
    rw[List.getElem?_set_self hkl] at hp'
    rw[e2] at hp
    cases hp;cases hp'
    rw[O1 rfl]
    exact LE a2 hcN hr
   ·rw[List.getElem?_set_ne (fun a=>e a.symm),hp] at hp'
    cases hp'
    rw[O0 (by omega)]
    have hj:=(List.getElem?_eq_some_iff.1 hp).1
    obtain ⟨b1,b2⟩:=h.at' j _ p (List.getElem?_eq_getElem (by omega)) hp
    exact LD b2 c1 hcN
 ·rw[O0 hk]
  refine ⟨c,l,⟨Or.inl rfl,h.ln,h.at',h.cl,h.sm⟩,Nat.le_refl _,by trivial,fun j p p' hp hp'=> ?_⟩
  rw[hp] at hp';cases hp'
  have hj:=(List.getElem?_eq_some_iff.1 hp).1
  rw[O0 (by omega)]
  exact Nat.le_refl _
theorem jk (hn:n<=4) (hT:1<=T/\T<=5) (h:AllC n T c x l) (k:Int):∃c' l',AllC n T c' (pS (aP n T) k x).2 l'/\(pS (aP n T) k x).2.ph=true/\∀(j:Nat) (p p':Ph),l[j]? =some p->l'[j]? =some p'->p'.f (n*T) c'<=(if (j:Int)=k then p.f (n*T) c - 1 else p.f (n*T) c):=by
 unfold pS
 by_cases hp:x.ph=true
 ·rw[O1 hp]
  obtain ⟨c',l',a,-,b⟩:=Kp hn hT h k
  exact ⟨c',l',a,b⟩
 ·rw[O0 hp]
  have hrc:=h.ph.resolve_left hp
  have hr:cr (aP n T).cs (locals (aP n T).r) x.rc x.z=(false,⟨[],(gZ []).v,1⟩,x.z):=by
   rw[hrc]
   unfold cr
   rw[O1 (show (gZ []).s=0 from rfl),j9 (by simp[bo,gZ])]
  rw[hr,O0 (by simp),O0 (by simp)]
  obtain ⟨c',l',a,-,b⟩:=Kp (x:=⟨true,⟨[],(gZ []).v,1⟩,x.th,x.z⟩) hn hT ⟨Or.inl rfl,h.ln,h.at',h.cl,h.sm⟩ k
  exact ⟨c',l',a,b⟩
theorem Lr (h:AllC n T c x l) (hd:lJ x=true):c=n*T:=by
 unfold lJ at hd
 rw[Bool.and_eq_true,List.all_eq_true] at hd
 have hz:∀p∈l,p.rem T=0:=fun p hp=>by
  obtain ⟨j,hj,rfl⟩:=List.mem_iff_getElem.1 hp
  have hjt:j<x.th.length:=by rw[h.ln.2,←h.ln.1];exact hj
  obtain ⟨a,-⟩:=h.at' j _ _ (List.getElem?_eq_getElem hjt) (List.getElem?_eq_getElem hj)
  have hs:=of_decide_eq_true (hd.2 _ (List.getElem_mem hjt))
  generalize l[j]=p at a
  cases p with
  |s0=>obtain ⟨_,_,_,_,_,_,e⟩:=a;rw[e] at hs;simp at hs
  |ld j v=>obtain ⟨_,_,_,_,_,_,_,e⟩:=a;rw[e] at hs;simp at hs
  |tr j v ok=>obtain ⟨_,_,_,_,_,_,e⟩:=a;rw[e] at hs;simp at hs
  |dn=>rfl
 have:(l.map (Ph.rem T)).sum=0:=by
  clear h hd
  induction l with
  |nil=>rfl
  |cons p l ih=>rw[List.map_cons,List.sum_cons,hz p (by simp),ih fun q hq=>hz q (by simp[hq])]
 have:=h.sm
 omega
theorem Ns (h:AllC n T c x l) (hp:x.ph=true) (hf:∀(j:Nat) (p:Ph),l[j]? =some p->p.f (n*T) c=0):lJ x=true:=by
 unfold lJ
 rw[hp,Bool.true_and,List.all_eq_true]
 intro y hy
 obtain ⟨j,hj,rfl⟩:=List.mem_iff_getElem.1 hy
 have hjl:j<l.length:=by rw[h.ln.1,←h.ln.2];exact hj
 have e2:=List.getElem?_eq_getElem hjl
 obtain ⟨a1,a2⟩:=h.at' j _ _ (List.getElem?_eq_getElem hj) e2
 have hle:=wz (Ph.rem T) l _ (List.getElem_mem hjl)
 have hsm:=h.sm
 have e:=JP a2 (by omega) (hf j _ e2)
 rw[e] at a1
 exact O3 a1
theorem JZ:AllC n T 0 (pP (aP n T) (Fh (aP n T))) (List.replicate n .s0):=by
 refine ⟨Or.inr rfl,⟨by simp,by simp[pP,aP]⟩,fun j y p hy hp=> ?_,by simp[pP,Fh,aP,br,lF];rfl, ?_⟩
 ·have hp':=List.getElem?_eq_some_iff.1 hp
  obtain ⟨hj,rfl⟩:=hp'
  simp only[List.length_replicate] at hj
  rw[List.getElem_replicate]
  simp only[pP,aP,List.getElem?_map,List.getElem?_range hj,Option.map_some,Option.some.injEq] at hy
  subst hy
  refine ⟨⟨19+85*(j:Int),28+85*(j:Int),38+85*(j:Int),48+85*(j:Int),66+85*(j:Int),74+85*(j:Int), ?_⟩,trivial⟩
  unfold gZ
  rw[K2]
  rfl
 ·rw[List.map_replicate,List.sum_replicate_nat]
  simp[Ph.rem]
theorem uF {n:Nat} (hn:1<=n) (i j:Nat) (hj:j<n):(i+1+n - 1 - j) / n=(i+n - 1 - j) / n+(if j=i % n then 1 else 0):=by
 have hm:=Nat.div_add_mod i n
 have hlt:=Nat.mod_lt i (show n>0 by omega)
 generalize i / n=q at hm
 generalize hr:i % n=r at *
 subst hm
 by_cases e:j=r
 ·subst e
  rw[O1 rfl,show n*q+j+1+n - 1 - j=n*(q+1) by rw[Nat.mul_add];omega,show n*q+j+n - 1 - j=(n - 1)+n*q by omega,Nat.mul_div_cancel_left _ (by omega),Nat.add_mul_div_left _ _ (by omega),Nat.div_eq_of_lt (by omega)]
  omega
 ·rw[O0 e]
  by_cases h:j<r
  ·rw[show n*q+r+1+n - 1 - j=(r - j)+n*(q+1) by rw[Nat.mul_add];omega,show n*q+r+n - 1 - j=(r - 1 - j)+n*(q+1) by rw[Nat.mul_add];omega,Nat.add_mul_div_left _ _ (by omega),Nat.add_mul_div_left _ _ (by omega),Nat.div_eq_of_lt (by omega),Nat.div_eq_of_lt (by omega)]
   omega
  ·rw[show n*q+r+1+n - 1 - j=(r+n - j)+n*q by omega,show n*q+r+n - 1 - j=(r+n - 1 - j)+n*q by omega,Nat.add_mul_div_left _ _ (by omega),Nat.add_mul_div_left _ _ (by omega),Nat.div_eq_of_lt (by omega),Nat.div_eq_of_lt (by omega)]
   omega
end
theorem IT (z:Int) (m:NH):bp Try.prog S0 36 [ii z] m (ii z) m:=by
 have h:∃r m',bp Try.prog S0 36 [ii z] m r m'/\r=ii z/\m'=m:=by
  refine WF.ex fun K hK=> ?_
  refine WF.of_wpG (fun _=>rfl) xY (L:= [(.e,ii z)]) rfl ?_
  unfold HG
  simp (disch:=first|assumption|omega) only[go_sem,seval,aa]
  exact hK _ _ ⟨rfl,rfl⟩
 obtain ⟨r,m',h1,rfl,rfl⟩:=h
 exact h1
theorem jS (i T:Nat):bV (i+1) T=bV i T++i6 (pM i) (48+T):=by
 unfold bV
 rw[List.range_succ,List.flatMap_append,List.append_assoc]
 simp
theorem ll (T:Nat):∀i,(bV i T).length=8+85*i
 |0=>rfl
 |i+1=>by
  rw[jS,List.length_append,ll T i]
  have:(i6 (pM i) (48+T)).length=85:=by simp[i6]
  omega
theorem xA {T:Nat} (hT:T<=5):∀i,i<=4->∀b∈bV i T,b<256
 |0,_=>by
  intro b hb
  simp only[bV,List.range_zero,List.flatMap_nil,List.append_nil,O5,O4,or_false] at hb
  omega
 |i+1,h=>by
  intro b hb
  rw[jS,List.mem_append] at hb
  rcases hb with hb|hb
  ·exact xA hT i (by omega) b hb
  ·simp only[i6,pM,List.mem_append,O5,O4,or_false] at hb
   omega
theorem fD {i:Nat} (h:i<4):List.drop i (List.take ((i:Int)+1).toNat [116,117,118,119])= [pM i]:=by
 have:i=0∨i=1∨i=2∨i=3:=by omega
 rcases this with rfl|rfl|rfl|rfl<;>rfl
theorem NP {T:Nat} (h:1<=T/\T<=5):List.drop ((T:Int) - 1).toNat (List.take T [49,50,51,52,53])= [48+T]:=by
 have:T=1∨T=2∨T=3∨T=4∨T=5:=by omega
 rcases this with rfl|rfl|rfl|rfl|rfl<;>rfl
set_option maxHeartbeats 4000000 in
theorem Na (z:Int):∃k:Int,cP .num .and (ii z) (ii 3)=some (ii k):=by
 have hB:∃k:Int,jn .and .i64 z 3=some (ii k):=⟨_,by
  show bH .i64 (IntKind.wrap .i64 ((BitVec.ofInt 64 z&&& BitVec.ofInt 64 3).toNat:Int))=_
  rw[aG]⟩
 obtain ⟨k,hB⟩:=hB
 cases z with
 |negSucc n=>exact ⟨k,(eR rfl).trans hB⟩
 |ofNat a=>
  have e:eF .and .i64 (.ofNat a) (.ofNat 3)=cond (Nat.ble (Nat.succ a) 9223372036854775808) (bH .i64 (.ofNat (Nat.land a 3))) (jn .and .i64 (.ofNat a) (.ofNat 3)):=rfl
  cases hh:Nat.ble (Nat.succ a) 9223372036854775808 with
  |true=>
   refine ⟨(Nat.land a 3:Nat),(eR rfl).trans (e.trans ?_)⟩
   rw[hh]
   show bH .i64 (.ofNat (Nat.land a 3))=_
   rw[aG];rfl
  |false=>
   refine ⟨k,(eR rfl).trans (e.trans ?_)⟩
   rw[hh]
   exact hB
theorem Ov {n:Nat} (h:1<=n/\n<=4) (i:Nat):cP .num .rem (ii i) (ii (n:Nat))=some (ii ((i % n:Nat):Int)):=by
 have:n=1∨n=2∨n=3∨n=4:=by omega
 rcases this with rfl|rfl|rfl|rfl
 ·refine (eR rfl).trans ?_
  show bH .i64 (.ofNat (Nat.mod i 1))=_
  rw[aG];rfl
 ·refine (eR rfl).trans ?_
  show bH .i64 (.ofNat (Nat.mod i 2))=_
  rw[aG];rfl
 ·refine (eR rfl).trans ?_
  show bH .i64 (.ofNat (Nat.mod i 3))=_
  rw[aG];rfl
 ·refine (eR rfl).trans ?_
  show bH .i64 (.ofNat (Nat.mod i 4))=_
  rw[aG];rfl
theorem Ob {m:NH} {s:List Nat} {id:D4} {w:Bool} (hg:m.get id=some (.cells w (kR s).flatten)) (ho:am m id):Sl m (.slc id 0 s.length 1 s.length) 1 (kR s):=by
 have hall:∀x∈kR s,x.length=1:=by intro x hx;rw[List.mem_map] at hx;obtain ⟨b,_,rfl⟩:=hx;rfl
 have hf:=dG hall
 refine ⟨hall,Or.inr ⟨id,0,s.length,w,_,by rw[List.length_map],hg,ho,by omega, ?_⟩⟩
 rw[List.drop_zero,←hf,List.take_length]
set_option maxHeartbeats 1000000 in
theorem sourceCounts (m:NH) (l:List NV) (h:TyA Try.prog m [3,3,43] l):∃m',bp Try.prog S0 9 l m (.bool true) m':=by
 obtain ⟨x,r,rfl,h1,h⟩:=h.inv1 (by intro fs q;rw[Try.underlying3] at q;simp at q)
 obtain ⟨x2,r2,rfl,h2,h⟩:=h.inv1 (by intro fs q;rw[Try.underlying3] at q;simp at q)
 obtain ⟨x3,r3,rfl,h3,h⟩:=h.inv1 (by intro fs q;rw[Try.underlying43] at q;simp at q)
 obtain rfl:=h.inv0
 obtain ⟨N,hN,-⟩:=h1.inv_int Try.underlying3
 obtain ⟨Z,hZ,-⟩:=h2.inv_int Try.underlying3
 obtain ⟨v3,ord,hx3,hv3⟩:=Ec h3
 have hxN:x=ii N:=by simpa using hN
 have hxZ:x2=ii Z:=by simpa using hZ
 have hxv3:v3=x3:=by simpa using hx3.symm
 subst hxN;subst hxZ;subst hxv3
 have hal:∀m,bp Try.prog S0 31 [] m (.bool true) m:=fun m=>bp.kept rfl m
 have hlen:=hv3.len
 rw[List.length_map] at hlen
 have h:∃v' m',bp Try.prog S0 9 [ii N,ii Z,v3] m v' m'/\v'= .bool true:=by
  refine WF.ex fun K hK=> ?_
  refine WF.of_wpG (fun _=>rfl) wi (L:= [(.b .e,v3),(.a .e,ii Z),(.e,ii N)]) rfl ?_
  unfold NE
  by_cases c1:N<1
  ·simp (disch:=first|assumption|omega) only[go_sem,seval,aa,(hal _).wf']
   exact hK _ _ rfl
  by_cases c2:4<N
  ·simp (disch:=first|assumption|omega) only[go_sem,seval,aa,(hal _).wf']
   exact hK _ _ rfl
  by_cases c3:Z<1
  ·simp (disch:=first|assumption|omega) only[go_sem,seval,aa,(hal _).wf']
   exact hK _ _ rfl
  by_cases c4:5<Z
  ·simp (disch:=first|assumption|omega) only[go_sem,seval,aa,(hal _).wf']
   exact hK _ _ rfl
  by_cases c5:300<ord.length
  ·simp (disch:=first|assumption|omega) only[go_sem,seval,aa,(hal _).wf',hlen]
   exact hK _ _ rfl
  obtain ⟨n,rfl⟩:=O7 (show 0<=N by omega)
  obtain ⟨T,rfl⟩:=O7 (show 0<=Z by omega)
  simp (disch:=first|assumption|omega) only[go_sem,seval,aa,(hal _).wf',hlen]
  refine W.loop (fun f d=>∃t i,d=⟨t, [],none,m⟩/\NT.get D4.e t=some (ii (n:Nat))/\NT.get D4.e.a t=some (ii (T:Nat))/\NT.get D4.e.b t=some v3/\NT.get D4.e.a.f t=some (.str (bV i T))/\NT.get D4.e.b.a t=some (ii (i:Nat))/\i+f=n) ?_ n _ ⟨_,0,rfl,by simp only[go_sem,seval],by simp only[go_sem,seval],by simp only[go_sem,seval],by simp only[go_sem,seval]<;>rfl,by simp only[go_sem,seval]<;>rfl,by omega⟩
  rintro f d ⟨t,i,rfl,t1,t2,t3,t4,t5,hif⟩
  apply az
  unfold AU
  change wp _ _ _ _ ⟨aj [] t, [],none,m⟩ _
  by_cases hi:i<n
  ·have hlT:=ll T i
   have k1:=fD (i:=i) (by omega)
   have k2:=NP (T:=T) (by omega)
   simp (disch:=first|assumption|omega|(simp only[aU]<;>omega)) only[go_sem,seval,t1,t2,t3,t4,t5,k1,k2]
   refine ⟨f - 1,by omega,_,i+1,by rfl,by simp only[go_sem,seval,t1],by simp only[go_sem,seval,t2],by simp only[go_sem,seval,t3], ?_,by simp only[go_sem,seval]<;>rfl,by omega⟩
   simp (disch:=first|assumption|omega|(simp only[aU]<;>omega)) only[go_sem,seval]
   rw[jS]
   simp only[i6,List.append_assoc]
  ·have e:i=n:=by omega
   subst e
   have hb:=xA (T:=T) (by omega) i (by omega)
   have hlT:=ll T i
   generalize hM0:hp [(.n 0,.cells false (kR (bV i T)).flatten)] 1 m=M0
   have hC0:Chg [] m M0:=bh hM0 rfl
   have g0:M0.get (na m 0)=some (.cells false (kR (bV i T)).flatten):=bM hM0
   have o0:am M0 (na m 0):=bL hM0 (by omega)
   have hrd:=Lb (n:=i) (T:=T) (by omega) (by omega)
   have hprog:(bT (bV i T)).1=some (aP i T):=by rw[hrd]
   obtain ⟨w,M1,hr1,⟨vc,vt,vr,rfl,hpp⟩,hC1⟩:=Ab (Ob g0 o0) hb
   rw[hrd] at hr1 hpp
   obtain ⟨hpp,-,hs1,hs2⟩:=hpp
   obtain ⟨CT0,hT0⟩:=hpp.t
   obtain ⟨CR0,hR0⟩:=hpp.r
   generalize hM2:hp [(.n 0,.cells true [vc,vt,vr]),(.n 0,.cells true [.nils,.nils,.nils])] 1 M1=M2
   have hC2:Chg [] M1 M2:=bh hM2 rfl
   have g2:M2.get (na M1 0)=some (.cells true [vc,vt,vr]):=bM hM2
   have o2:am M2 (na M1 0):=bL hM2 (by omega)
   have hp2:=hpp.stays (wE hC2 _)
   have hCm2:=(hC0.trans hC1 (by simp)).trans hC2 (by simp)
   have kc:=hpp.c.one
   have kt:=hT0.sl.one
   have kr:=hR0.sl.one
   have hz:∀t∈(aP i T).ts,cZ t.2<=400000:=fun t ht=>by
    have:=E0 (List.mem_map_of_mem (f:=fun t:List Nat×List Stm=>cZ t.2) ht)
    omega
   have hzr:cZ (aP i T).r<=400000:=by omega
   have hok:=KC hprog hz hzr
   have hE:=Nw (n:=i) (T:=T) (by omega) (by omega)
   obtain ⟨w3,M3,r3,h3⟩:=LZ hp2 (by omega) hz hzr hok
   unfold H5 at h3
   rw[O0 (by rw[hE];simp)] at h3
   obtain ⟨r,B,vc1,vt1,vr1,vcl,vo,vth,q,bs,rfl,hRC,hCB,hQ,hC3,hF⟩:=h3
   rw[←aa m]
   simp (disch:=first|assumption|omega|(simp only[aU]<;>omega)) only[go_sem,seval,t1,t2,t3,t4,t5,hM0,hr1.wf,kc,kt,kr,hM2,g2,r3.wf',(IT _ _).wf',xe]
   have t1':=t1
   have t2':=t2
   have t3':=t3
   generalize hn:i=n at *
   have hn1:1<=n/\n<=4:=by omega
   have hT1:1<=T/\T<=5:=by omega
   have hmB:Chg [] m B:=hCm2.trans hCB (by simp)
   clear hif hn t1 t2 t3 t4 t5 hpp hF hC3 hp2 hz hzr hok
   have hA0:=JZ (n:=n) (T:=T)
   refine W.loop (fun f d=>∃t M i x c l vo q bs,d=⟨t, [],none,M⟩/\NT.get D4.e t=some (ii (n:Nat))/\NT.get D4.e.a t=some (ii (T:Nat))/\NT.get D4.e.b t=some v3/\NT.get D4.e.c.a t=some (.ptr r 0)/\NT.get D4.e.c.c t=some (ii (i:Nat))/\i+f=ord.length/\gd (aP n T) B vc1 vt1 vr1 M r x (2*i) vcl vo vth q bs/\AllC n T c x l) ?_ ord.length _ ⟨_,M3,0,_,_,_,vo,q,bs,rfl,by simp only[go_sem,seval,t1'],by simp only[go_sem,seval,t2'],by simp only[go_sem,seval,t3'],by simp only[go_sem,seval],by simp only[go_sem,seval]<;>rfl,by omega,hQ,hA0⟩
   clear hQ hA0
   rintro f d ⟨t,M,i,x,c,l,vo,q,bs,rfl,t1,t2,t3,t4,t5,hif,hQ,hA⟩
   apply az
   unfold BZ
   change wp _ _ _ _ ⟨aj [] t, [],none,M⟩ _
   have hmM:Chg [] m M:=hmB.trans hQ.mc.c (by simp)
   have hlenM:=(hv3.chg hmM fun _ _=>by simp).len
   rw[List.length_map] at hlenM
   by_cases hi:i<ord.length
   ·obtain ⟨id,off,wr,cc,a1,a2,a3,a4,a5⟩:=hv3.at i (by simpa using hi)
    rw[List.getElem_map] at a5
    have c0:cc[off]? =some (ii ord[i]):=aX a5 0 (by omega)
    have a2M:=(hmM.get a3 (by simp)).trans a2
    obtain ⟨k,hk⟩:=Na ord[i]
    obtain ⟨M',r4,vo',q',bs',hQ',-⟩:=CH hRC (by omega) hQ k
    obtain ⟨c',l',hA',-,-⟩:=jk hn1.2 hT1 hA k
    simp (disch:=first|assumption|omega) only[go_sem,seval,t1,t2,t3,t4,t5,hlenM,a1,a2M,c0,hk,r4.wf']
    exact ⟨f - 1,by omega,_,M',i+1,_,c',l',vo',q',bs',by rfl,by simp only[go_sem,seval,t1],by simp only[go_sem,seval,t2],by simp only[go_sem,seval,t3],by simp only[go_sem,seval,t4],by simp only[go_sem,seval]<;>rfl,by omega,hQ',hA'⟩
   ·simp (disch:=first|assumption|omega) only[go_sem,seval,t1,t2,t3,t4,t5,hlenM]
    have e:i=ord.length:=by omega
    subst e
    have u1:=t1
    have u2:=t2
    have u4:=t4
    have hN20:n*T<=20:=Nat.mul_le_mul hn1.2 hT1.2
    refine W.loop (fun f d=>∃t M i x c l vo q bs,d=⟨t, [],none,M⟩/\NT.get D4.e t=some (ii (n:Nat))/\NT.get D4.e.a t=some (ii (T:Nat))/\NT.get D4.e.c.a t=some (.ptr r 0)/\NT.get D4.e.c.f t=some (ii (i:Nat))/\i+f=400/\gd (aP n T) B vc1 vt1 vr1 M r x (2*i+600) vcl vo vth q bs/\AllC n T c x l/\(i=0∨x.ph=true)/\∀(j:Nat) (p:Ph),l[j]? =some p->p.f (n*T) c<=43 - (i+n - 1 - j) / n) ?_ 400 _ ⟨_,M,0,x,c,l,vo,q,bs,rfl,by simp only[go_sem,seval,u1],by simp only[go_sem,seval,u2],by simp only[go_sem,seval,u4],by simp only[go_sem,seval]<;>rfl,by omega,hQ.more (by omega),hA,Or.inl rfl,fun j p hp=>by
     have hj:=(List.getElem?_eq_some_iff.1 hp).1
     rw[hA.ln.1] at hj
     rw[Nat.div_eq_of_lt (by omega)]
     exact Nat.le_succ_of_le (Lc p _ hN20)⟩
    clear hQ hA t1 t2 t3 t4 t5 u1 u2 u4 hlenM hmM
    rintro f d ⟨t,M,i,x,c,l,vo,q,bs,rfl,t1,t2,t4,t5,hif,hQ,hA,hph,hfs⟩
    apply az
    unfold Cp
    change wp _ _ _ _ ⟨aj [] t, [],none,M⟩ _
    by_cases hd:lJ x=true
    ·have hcN:=Lr hA hd
     subst hcN
     have key:∀M vo q bs,gd (aP n T) B vc1 vt1 vr1 M r x (2*i+600) vcl vo vth q bs->∃v Mc Me id off cc,bp Try.prog S0 39 [.ptr r 0] M v Mc/\bp Try.prog S0 38 [.ptr r 0] Mc (.bool true) Me/\E7 v= .val (ii 1)/\jh 1 v (ii 0)= .val (.ptr id off)/\(∃wr,Me.get id=some (.cells wr cc))/\cc[off]? =some (iu ((n*T:Nat):Int)):=by
      intro M vo q bs hQ
      obtain ⟨v,Mc,rc,hv,hCc⟩:=Bu hQ (by rw[hA.cl];simp)
      obtain ⟨Me,re,hCe⟩:=vg (hQ.grow hCc:gd ..) hRC.nt
      rw[hd] at re
      rw[hA.cl] at hv
      obtain ⟨id,off,wr,cc,a1,a2,a3,a4,a5⟩:=hv.sl.at 0 (by simp)
      exact ⟨v,Mc,Me,id,off,cc,rc,re,hv.sl.len,a1,⟨wr,(hCe.get a3 (by simp)).trans a2⟩,aX a5 0 (by omega)⟩
     have hmul:cP .num .mul (ii (n:Nat)) (ii (T:Nat))=some (ii ((n*T:Nat):Int)):=by
      rw[Gx (by rw[←Int.natCast_mul];omega) (by rw[←Int.natCast_mul];omega),Int.natCast_mul]
     have hto:Cw .u64 (ii ((n*T:Nat):Int))= .val (iu ((n*T:Nat):Int)):=by
      rw[AL,Int.emod_eq_of_lt (by omega) (by omega)]
     by_cases hi:i<400
     ·obtain ⟨Md,rd,hCd⟩:=vg hQ hRC.nt
      rw[hd] at rd
      obtain ⟨v,Mc,Me,id,off,cc,rc,re,hvl,a1,⟨wr,a2⟩,c0⟩:=key _ _ _ _ (hQ.grow hCd)
      simp (disch:=first|assumption|omega) only[go_sem,seval,t1,t2,t4,t5,rd.wf',rc.wf',re.wf',hvl,a1,a2,c0,hmul,hto]
      exact hK _ _ rfl
     ·obtain ⟨v,Mc,Me,id,off,cc,rc,re,hvl,a1,⟨wr,a2⟩,c0⟩:=key _ _ _ _ hQ
      simp (disch:=first|assumption|omega) only[go_sem,seval,t1,t2,t4,t5,rc.wf',re.wf',hvl,a1,a2,c0,hmul,hto]
      exact hK _ _ rfl
    ·have hd':lJ x=false:=by simpa using hd
     by_cases hi:i<400
     ·obtain ⟨Md,rd,hCd⟩:=vg hQ hRC.nt
      rw[hd'] at rd
      have hQd:=hQ.grow hCd
      obtain ⟨M',r4,vo',q',bs',hQ',-⟩:=CH hRC (by omega) (hQd:gd ..) ((i % n:Nat):Int)
      obtain ⟨c',l',hA',hph',hfs'⟩:=jk hn1.2 hT1 hA ((i % n:Nat):Int)
      have hrm:=Ov hn1 i
      simp (disch:=first|assumption|omega) only[go_sem,seval,t1,t2,t4,t5,rd.wf',hrm,r4.wf']
      refine ⟨f - 1,by omega,_,M',i+1,_,c',l',vo',q',bs',by rfl,by simp only[go_sem,seval,t1],by simp only[go_sem,seval,t2],by simp only[go_sem,seval,t4],by simp only[go_sem,seval]<;>rfl,by omega,hQ'.more (by omega),hA',Or.inr hph',fun j p hp=> ?_⟩
      have hj:=(List.getElem?_eq_some_iff.1 hp).1
      rw[hA'.ln.1] at hj
      have hj2:j<l.length:=by rw[hA.ln.1];exact hj
      have h1:=hfs' j _ p (List.getElem?_eq_getElem hj2) hp
      have h2:=hfs j _ (List.getElem?_eq_getElem hj2)
      have h3:=uF hn1.1 i j hj
      rw[h3]
      by_cases e:j=i % n
      ·rw[O1 e];rw[O1 (by omega)] at h1;omega
      ·rw[O0 e];rw[O0 (by omega)] at h1;omega
     ·exfalso
      have hi4:i=400:=by omega
      subst hi4
      refine hd (Ns hA (hph.resolve_left (by omega)) fun j p hp=> ?_)
      have hj:=(List.getElem?_eq_some_iff.1 hp).1
      rw[hA.ln.1] at hj
      have h2:=hfs j p hp
      have h3:100<=(400+n - 1 - j) / n:=by
       rw[Nat.le_div_iff_mul_le (by omega)];omega
      omega
 obtain ⟨v',m',h,rfl⟩:=h
 exact ⟨m',h⟩
end FR
