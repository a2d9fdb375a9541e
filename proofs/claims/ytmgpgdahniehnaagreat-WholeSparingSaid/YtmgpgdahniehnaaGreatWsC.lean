/- A machine that runs the given program with memory and order of evaluation taken apart, and what it shows of the law WholeSparing: part 3. -/
import Derived.WideKeyArgs
import Derived.Carry
import Derived.ChangeArms
import Derived.HandedShaped
import Derived.Test.YtmgpgdahniehnaaGreatProg
import Derived.KernelRfl
import Derived.Test.YtmgpgdahniehnaaGreatWsB
set_option linter.unusedSimpArgs false
set_option linter.unusedVariables false
set_option linter.unusedSectionVars false
set_option linter.defProp false
noncomputable section
abbrev Nm.af8:=Go.Proofs.Tryz.prog
namespace Nm
open Go Go.RowKit
def ids:NV->List D4
 | .slc id _ _ _ _=> [id]
 |_=> []
def Sl (m:NH) (v:NV) (e:Nat) (C:List (List NV)):Prop:=(∀x∈C,x.length=e)/\((v= .nils/\C= [])∨
 ∃id off kc w c,v= .slc id off C.length e kc/\m.get id=some (.cells w c)/\ap m id/\off+C.length*e<=c.length/\(c.drop off).take (C.length*e)=C.flatten)
def aQ (B m:NH) (v:NV) (e:Nat) (C:List (List NV)):Prop:=(∀x∈C,x.length=e)/\((v= .nils/\C= [])∨
 ∃id off kc c,v= .slc id off C.length e kc/\¬ap B id/\m.get id=some (.cells true c)/\ap m id/\off+C.length*e<=c.length/\off+kc*e<=c.length/\(c.drop off).take (C.length*e)=C.flatten)
theorem eS {e:Nat} {C:List (List NV)} (h:∀x∈C,x.length=e):C.flatten.length=C.length*e:=by
 induction C with
 |nil=>simp
 |cons a C ih=>
  rw[af3,aa5,h a (ab2 ..),ih λx hx=>h x (aa8 _ hx),ab4,Nat.succ_mul]
  omega
theorem I1 {e:Nat}:∀{C:List (List NV)} (_:∀x∈C,x.length=e) (i:Nat) (hi:i<C.length),(C.flatten.drop (i*e)).take e=C[i]:=by
 intro C
 induction C with
 |nil=>intro _ i hi;simp at hi
 |cons a C ih=>
  intro h i hi
  have ha:=h a (ab2 ..)
  cases i with
  |zero=>
   rw[Nat.zero_mul,List.drop_zero,af3,List.take_append,ha,Nat.sub_self,List.take_zero,ac7,←ha]
   simp
  |succ i=>
   rw[af3,List.drop_append,Nat.succ_mul,af6 (by omega),ae4,ha,Nat.add_sub_cancel]
   exact ih (λx hx=>h x (aa8 _ hx)) i (by simpa using hi)
theorem aQ.sl {B m:NH} {v:NV} {e:Nat} {C:List (List NV)} (h:aQ B m v e C):Sl m v e C:=by
 obtain⟨h0,h|⟨id,off,kc,c,h1,_,h2,h3,h4,_,h5⟩⟩:=h
 ·exact⟨h0,Or.inl h⟩
 ·exact⟨h0,Or.inr ⟨id,off,kc,true,c,h1,h2,h3,h4,h5⟩⟩
section
variable {m:NH} {v:NV} {e:Nat} {C:List (List NV)}
theorem Sl.len (h:Sl m v e C):nN v= .val (.int .i64 (.lit (C.length:Int))):=by
 obtain⟨_,⟨rfl,rfl⟩|⟨id,off,kc,w,c,rfl,_⟩⟩:=h<;>rfl
theorem Sl.one (h:Sl m v e C):cellsOf v=some [v]:=by
 obtain⟨_,⟨rfl,rfl⟩|⟨id,off,kc,w,c,rfl,_⟩⟩:=h<;>rfl
theorem HS {c:List NV} {off n e:Nat} (h:∀x∈C,x.length=e) (hn:C.length=n) (hc:off+n*e<=c.length) (hf:(c.drop off).take (n*e)=C.flatten) (i:Nat) (hi:i<C.length):
 off+i*e+e<=c.length/\(c.drop (off+i*e)).take e=C[i]:=by
 subst hn
 have h1:i*e+e<=C.length*e:=by rw[←Nat.succ_mul];exact ae7 e hi
 refine⟨by omega, ?_⟩
 rw[←I1 h i hi,←hf,List.drop_take,List.take_take,List.drop_drop,ac5 (by omega)]
theorem Sl.at (h:Sl m v e C) (i:Nat) (hi:i<C.length):∃id off w c,fi e v (.int .i64 (.lit (i:Int)))= .val (.ptr id off)/\m.get id=some (.cells w c)/\ap m id/\off+e<=c.length/\(c.drop off).take e=C[i]:=by
 obtain⟨h0,⟨rfl,rfl⟩|⟨id,off,kc,w,c,rfl,h1,h2,h3,h4⟩⟩:=h
 ·simp at hi
 ·obtain⟨h5,h6⟩:=HS h0 rfl h3 h4 i hi
  exact⟨id,off+i*e,w,c,HF (by omega) (by omega),h1,h2,h5,h6⟩
theorem Sl.chg {T:List D4} {m':NH} (h:Sl m v e C) (hc:Chg T m m') (ht:∀id∈ids v,id∉T):Sl m' v e C:=by
 obtain⟨h0,⟨rfl,rfl⟩|⟨id,off,kc,w,c,rfl,h1,h2,h3,h4⟩⟩:=h
 ·exact⟨h0,Or.inl ⟨rfl,rfl⟩⟩
 ·exact⟨h0,Or.inr ⟨id,off,kc,w,c,rfl,(hc.get h2 (ht id (ab2 ..))).trans h1,hc.old h2,h3,h4⟩⟩
theorem Sl.grew {m':NH} (h:Sl m v e C) (hc:Chg [] m m'):Sl m' v e C:=h.chg hc λ_ _=>adI
theorem Sl.old (h:Sl m v e C):∀id∈ids v,ap m id:=by
 obtain⟨h0,⟨rfl,rfl⟩|⟨id,off,kc,w,c,rfl,h1,h2,h3,h4⟩⟩:=h
 ·intro id hid;simp[ids] at hid
 ·intro i hi;simp[ids] at hi;rw[hi];exact h2
theorem aQ.chg {B m:NH} {T:List D4} {m':NH} (h:aQ B m v e C) (hc:Chg T m m') (ht:∀id∈ids v,id∉T):aQ B m' v e C:=by
 obtain⟨h0,⟨rfl,rfl⟩|⟨id,off,kc,c,rfl,hb,h1,h2,h3,h4⟩⟩:=h
 ·exact⟨h0,Or.inl ⟨rfl,rfl⟩⟩
 ·exact⟨h0,Or.inr ⟨id,off,kc,c,rfl,hb,(hc.get h2 (ht id (ab2 ..))).trans h1,hc.old h2,h3,h4⟩⟩
theorem aQ.new {B m:NH} (h:aQ B m v e C):∀id∈ids v,¬ap B id:=by
 obtain⟨h0,⟨rfl,rfl⟩|⟨id,off,kc,c,rfl,hb,h1,h2,h3,h4⟩⟩:=h
 ·intro id hid;simp[ids] at hid
 ·intro i hi;simp[ids] at hi;rw[hi];exact hb
theorem aQ.nil {B m:NH}:aQ B m .nils e []:=⟨λx hx=>by simp at hx,Or.inl ⟨rfl,rfl⟩⟩
theorem Sl.nil:Sl m .nils e []:=⟨λx hx=>by simp at hx,Or.inl ⟨rfl,rfl⟩⟩
theorem aQ.of {B m:NH} {id:D4} {n k:Nat} {c:List NV} (h:∀x∈C,x.length=e) (hb:¬ap B id) (hg:m.get id=some (.cells true c)) (ho:ap m id) (hc:c=C.flatten) (hn:n=C.length) (hk:k=C.length):aQ B m (.slc id 0 n e k) e C:=by
 subst hn hk hc
 have hl:=eS h
 exact⟨h,Or.inr ⟨id,0,_,_,rfl,hb,hg,ho,by omega,by omega,by rw[List.drop_zero,←hl,ae1]⟩⟩
theorem aQ.back {B B' m:NH} (h:aQ B m v e C) (hb:∀id,ap B' id->ap B id):aQ B' m v e C:=by
 obtain⟨h0,⟨rfl,rfl⟩|⟨id,off,kc,c,rfl,hb',h1,h2,h3,h4⟩⟩:=h
 ·exact⟨h0,Or.inl ⟨rfl,rfl⟩⟩
 ·exact⟨h0,Or.inr ⟨id,off,kc,c,rfl,λq=>hb' (hb _ q),h1,h2,h3,h4⟩⟩
theorem nI {n:Nat} {x:NV} {D:List (List NV)} (h:Sl m x n D) {K:Nat->List NV->NR}:iq n m x K=K D.length D.flatten:=by
 obtain⟨h0,⟨rfl,rfl⟩|⟨id,off,kc,w,c,rfl,h1,h2,h3,h4⟩⟩:=h
 ·rfl
 ·show cond (Nat.beq n n) (cz m id λc=>aS (fC c off (Nat.mul D.length n)) λl=>K D.length l) .fail=_
  rw[Nat.beq_refl]
  show cz m id (λc=>aS (fC c off (Nat.mul D.length n)) λl=>K D.length l)=_
  unfold cz
  rw[h1]
  show aS (fC c off (D.length*n)) (λl=>K D.length l)=_
  rw[iS,adF h3,h4];rfl
theorem Chg.put (m:NH) (id:D4) (o:NO):Chg [id] m (m.put id o):=
 ⟨aa2 _,fun {i} _ hn=>NH.get_put_ne m o (by simpa using hn)⟩
theorem ap.next_ne {m:NH} {i:D4} (h:ap m i):i≠m.next:=by
 intro e;rw[e] at h;exact ad6 _ h
theorem Chg.add (m:NH) (o:NO):Chg [] m (m.add o):=
 ⟨by show m.next.toNat<=m.next.nxt.toNat;rw[D4.toNat_nxt];omega,fun {i} ho _=>NH.get_add_ne m o ho.next_ne⟩
theorem iA (m:NH) (o:NO):ap (m.add o) m.next:=by
 show m.next.toNat<m.next.nxt.toNat;rw[D4.toNat_nxt];omega
theorem HN {n bytes:Nat} (h:n*bytes<=1099511627776) (h':n<=1099511627776):room n bytes=true:=by
 unfold room
 rw[show Nat.ble (Nat.mul n bytes) 1099511627776=true from ab0 h,show Nat.ble n 1099511627776=true from ab0 h']
 rfl
theorem aQ.app {B:NH} {x:NV} {D:List (List NV)} {bytes:Nat} (hv:aQ B m v e C) (hx:Sl m x e D) (hD:D≠ []) (hB:∀id,ap B id->ap m id) (hr:(C.length+D.length)*bytes<=1099511627776) (hr':C.length+D.length<=1099511627776):
 ∃v' m',GP e bytes m v x= .mem v' m'/\aQ B m' v' e (C++D)/\Chg (ids v) m m':=by
 unfold GP
 rw[nI hx]
 have hDl:∀y∈D,y.length=e:=hx.1
 have hDp:0<D.length:=List.length_pos_iff.mpr hD
 obtain⟨k,hk⟩:∃k,D.length=k+1:=⟨D.length - 1,by omega⟩
 have hall:∀y∈C++D,y.length=e:=λy hy=>(aa6.mp hy).elim (hv.1 y) (hDl y)
 have hnext:¬ap B m.next:=λq=>ad6 _ (hB _ q)
 obtain⟨h0,⟨rfl,rfl⟩|⟨id,off,kc,c,rfl,hb,h1,h2,h3,h3',h4⟩⟩:=hv
 ·refine⟨.slc m.next 0 D.length e D.length,m.add (.cells true D.flatten), ?_, ?_,Chg.add m _⟩
  ·show Nat.rec (motive:=λ_=>NR) (.val .nils) (λ_ _=>cond (room D.length bytes) (m.new (.cells true D.flatten) λid h=> .mem (.slc id 0 D.length e D.length) h) .fail) D.length=_
   rw[HN (by simpa using hr) (by simpa using hr'),NH.new_eq,hk];rfl
  ·exact aQ.of hall hnext (NH.get_add_same m _) (iA m _) (by simp) (by simp) (by simp)
 ·have e1:ia e bytes m (.slc id off C.length e kc) D.length D.flatten=(cond (Nat.ble (C.length+D.length) kc)
   (aS (dx D.flatten (off+C.length*e) c) λc=>m.set id (.cells true c) λh=> .mem (.slc id off (C.length+D.length) e kc) h)
   (aS (dN off c) λc=>aS (jt (C.length*e) c) λold=>cond (room (C.length+D.length) bytes)
    (iM old D.flatten λl=>m.set id .dead λh=>h.new (.cells true l) λid h=> .mem (.slc id 0 (C.length+D.length) e (C.length+D.length)) h) .fail)):=by
   show cond (Nat.beq e e) (Nat.rec (motive:=λ_=>NR) (.val (.slc id off C.length e kc)) (λ_ _=>eA m id λc=>aG (Nat.add C.length D.length) λn=>cond (Nat.ble n kc)
    (aS (dx D.flatten (Nat.add off (Nat.mul C.length e)) c) λc=>m.set id (.cells true c) λh=> .mem (.slc id off n e kc) h)
    (aS (dN off c) λc=>aS (jt (Nat.mul C.length e) c) λold=>cond (room n bytes)
     (iM old D.flatten λl=>m.set id .dead λh=>h.new (.cells true l) λid h=> .mem (.slc id 0 n e n) h) .fail)) D.length) .fail=_
   rw[Nat.beq_refl,hk]
   show eA m id _=_
   unfold eA
   rw[h1]
   show aG (C.length+(k+1)) _=_
   rw[aj]
   rfl
  rw[e1]
  have fl:=eS hDl
  have fc:=eS h0
  cases hle:Nat.ble (C.length+D.length) kc with
  |true=>
   have hle:=ac4 hle
   have hm:C.length*e+D.length*e<=kc*e:=by rw[←ad4];exact ae7 e hle
   refine⟨.slc id off (C.length+D.length) e kc,m.put id (.cells true (c.take (off+C.length*e)++D.flatten++c.drop (off+C.length*e+D.flatten.length))), ?_, ?_,Chg.put m id _⟩
   ·show aS (dx D.flatten (off+C.length*e) c) _=_
    rw[ez,adF (by omega)]
    show m.set id _ _=_
    rw[NH.set_eq]
   ·refine⟨hall,Or.inr ⟨id,off,kc,_,by rw[aa5],hb,NH.get_put_same m id _,h2, ?_, ?_, ?_⟩⟩
    ·simp only[aa5,aa7,ac6,ad4];omega
    ·simp only[aa5,aa7,ac6];omega
    ·have e3:c.take (off+C.length*e)=c.take off++C.flatten:=by rw[List.take_add,h4]
     have e4:(c.take off).length=off:=by rw[aa7];omega
     have e5:(c.take off++C.flatten++D.flatten++c.drop (off+C.length*e+D.flatten.length)).drop off=C.flatten++D.flatten++c.drop (off+C.length*e+D.flatten.length):=by
      rw[ab1,ab1]
      have:=List.drop_left (l₁:=c.take off) (l₂:=C.flatten++(D.flatten++c.drop (off+C.length*e+D.flatten.length)))
      rw[e4] at this
      rw[this,ab1]
     rw[e3,e5,List.flatten_append,aa5,ad4]
     rw[show C.length*e+D.length*e=(C.flatten++D.flatten).length by rw[aa5,fl,fc]]
     exact List.take_left
  |false=>
   refine⟨.slc m.next 0 (C.length+D.length) e (C.length+D.length),(m.put id .dead).add (.cells true (C.flatten++D.flatten)), ?_, ?_, ?_⟩
   ·show aS (dN off c) _=_
    rw[fR,adF (by omega)]
    show aS (jt (C.length*e) (c.drop off)) _=_
    rw[jH,adF (by rw[ac6];omega),h4]
    show cond (room (C.length+D.length) bytes) _ _=_
    rw[HN hr hr']
    show iM C.flatten D.flatten _=_
    rw[eP,NH.set_eq,NH.new_eq];rfl
   ·exact aQ.of hall hnext (NH.get_add_same (m.put id .dead) _) (iA (m.put id .dead) _) (by simp) (by simp) (by simp)
   ·exact (Chg.put m id .dead).trans (Chg.add _ _) λi hi _=>by simp at hi
theorem Sl.appNil {x:NV} {bytes:Nat} (hv:Sl m v e C) (hx:Sl m x e []):GP e bytes m v x= .val v:=by
 unfold GP
 rw[nI hx]
 obtain⟨h0,⟨rfl,rfl⟩|⟨id,off,kc,w,c,rfl,h1,h2,h3,h4⟩⟩:=hv
 ·rfl
 ·show cond (Nat.beq e e) _ _=_
  rw[Nat.beq_refl];rfl
def sets (off:Nat):List (Nat×NV)->List NV->List NV
 | [],c=>c
 |(k,x)::us,c=>sets off us (c.set (off+k) x)
theorem rm {off:Nat}:∀(us:List (Nat×NV)) (c:List NV),(sets off us c).length=c.length:=by
 intro us
 induction us with
 |nil=>intro c;rfl
 |cons u us ih=>intro c;obtain⟨k,x⟩:=u;show (sets off us (c.set (off+k) x)).length=_;rw[ih,ac3]
theorem aQ.at {B:NH} (h:aQ B m v e C) (i:Nat) (hi:i<C.length):∃id off c,fi e v (.int .i64 (.lit (i:Int)))= .val (.ptr id off)/\ids v= [id]/\¬ap B id/\m.get id=some (.cells true c)/\ap m id/\off+e<=c.length/\(c.drop off).take e=C[i]/\
 ∀(us:List (Nat×NV)) (M:NH),(∀u∈us,u.1<e)->M.get id=some (.cells true (sets off us c))->ap M id->aQ B M v e (C.set i (sets 0 us C[i])):=by
 obtain⟨h0,⟨rfl,rfl⟩|⟨id,off,kc,c,rfl,hb,h1,h2,h3,h3',h4⟩⟩:=h
 ·simp at hi
 ·obtain⟨h5,h6⟩:=HS h0 rfl h3 h4 i hi
  refine⟨id,off+i*e,c,HF (by omega) (by omega),rfl,hb,h1,h2,h5,h6,λus M hk hM hMo=> ?_⟩
  have hlen:∀y∈C.set i (sets 0 us C[i]),y.length=e:=by
   intro y hy
   rcases List.mem_or_eq_of_mem_set hy with hy|hy
   ·exact h0 y hy
   ·rw[hy,rm];exact h0 _ (aa9 hi)
  refine⟨hlen,Or.inr ⟨id,off,kc,_,by rw[ac3],hb,hM,hMo,by rw[rm,ac3];exact h3,by rw[rm];exact h3', ?_⟩⟩
  rw[ac3]
  have hone:∀(k:Nat) (x:NV) (_:k<e) (C:List (List NV)) (_:∀x∈C,x.length=e) (i:Nat) (hi:i<C.length),(C.set i (C[i].set k x)).flatten=C.flatten.set (i*e+k) x:=by
   intro k x hk C
   induction C with
   |nil=>intro _ i hi;simp at hi
   |cons a C ih=>
    intro h i hi
    have ha:=h a (ab2 ..)
    cases i with
    |zero=>simp only[List.set_cons_zero,af3,List.getElem_cons_zero,Nat.zero_mul,ad1];rw[List.set_append_left _ _ (by omega)]
    |succ i=>
     simp only[List.set_cons_succ,af3,List.getElem_cons_succ]
     rw[ih (λx hx=>h x (aa8 _ hx)) i (by simpa using hi),List.set_append_right _ _ (by rw[ha,Nat.succ_mul];omega),ha,Nat.succ_mul]
     congr 2;omega
  have hall:∀(us:List (Nat×NV)) (_:∀u∈us,u.1<e) (c:List NV) (C:List (List NV)) (_:∀x∈C,x.length=e) (hi:i<C.length),(c.drop off).take (C.length*e)=C.flatten->
   ((sets (off+i*e) us c).drop off).take (C.length*e)=(C.set i (sets 0 us C[i])).flatten:=by
   intro us
   induction us with
   |nil=>intro _ c C _ hi hf;simp[sets];exact hf
   |cons u us ih=>
    obtain⟨k,x⟩:=u
    intro hk c C hC hi hf
    have hk0:k<e:=hk (k,x) (ab2 ..)
    have:=ih (λu hu=>hk u (aa8 _ hu)) (c.set (off+i*e+k) x) (C.set i (C[i].set k x))
     (λy hy=>by
      rcases List.mem_or_eq_of_mem_set hy with hy|hy
      ·exact hC y hy
      ·rw[hy,ac3];exact hC _ (aa9 hi))
     (by rw[ac3];exact hi)
     (by rw[ac3,hone k x hk0 C hC i hi,←hf,List.drop_set,adE (by omega),List.take_set];congr 1;omega)
    rw[List.getElem_set_self,List.set_set] at this
    simp only[ac3] at this
    show ((sets (off+i*e) us (c.set (off+i*e+k) x)).drop off).take (C.length*e)=(C.set i (sets 0 us (C[i].set (0+k) x))).flatten
    rw[ad1];exact this
  exact hall us hk c C h0 hi h4
theorem Sl.flat (h:Sl m v e C):tK v:=by
 obtain⟨_,⟨rfl,rfl⟩|⟨id,off,kc,w,c,rfl,_⟩⟩:=h<;>trivial
theorem Sl.same (h:Sl m v e C) {n:Nat}:aU (n+1) v v=true:=iz h.flat
theorem Sl.ssl (h:Sl m v e C) {t:Tm} {lo hi:Option NOpd} {a b:Nat} (hab:a<=b) (hb:b<=C.length) (hlo:∀K:Nat->NR,iX t lo 0 K=K a) (hhi:∀(d:Nat) (K:Nat->NR),d=C.length->iX t hi d K=K b):
 ∃v',Gd e t lo hi v= .val v'/\Sl m v' e ((C.drop a).take (b - a))/\(∀i∈ids v',i∈ids v):=by
 obtain⟨h0,⟨rfl,rfl⟩|⟨id,off,kc,w,c,rfl,h1,h2,h3,h4⟩⟩:=h
 ·simp at hb
  subst hb
  have ha:a=0:=by omega
  subst ha
  refine⟨.nils, ?_,⟨by simp,Or.inl ⟨rfl,by simp⟩⟩,λ_ h=>h⟩
  rw[JW,hhi 0 _ rfl,hlo];rfl
 ·have hlen:((C.drop a).take (b - a)).length=b - a:=by rw[aa7,ac6];omega
  have hall:∀x∈(C.drop a).take (b - a),x.length=e:=λx hx=>h0 x (List.mem_of_mem_drop (af5 hx))
  have hmul:a*e+(b - a)*e<=C.length*e:=by rw[←ad4];exact ae7 e (by omega)
  refine⟨.slc id (off+a*e) (b - a) e (kc - a), ?_,⟨hall,Or.inr ⟨id,off+a*e,kc - a,w,c,by rw[hlen],h1,h2,by rw[hlen];omega, ?_⟩⟩,λ_ h=>h⟩
  ·rw[Nn,hhi _ _ rfl,hlo,TN hab hb]
  ·rw[hlen]
   have e1:(c.drop (off+a*e)).take ((b - a)*e)=(((c.drop off).take (C.length*e)).drop (a*e)).take ((b - a)*e):=by
    rw[List.drop_take,List.take_take,List.drop_drop,ac5 (by omega)]
   rw[e1,h4]
   have e2:C.flatten=(C.take a).flatten++(((C.drop a).take (b - a)).flatten++((C.drop a).drop (b - a)).flatten):=by
    rw[←List.flatten_append,af7,←List.flatten_append,af7]
   have e3:((C.take a).flatten).length=a*e:=by
    rw[eS λx hx=>h0 x (af5 hx),aa7,ac5 (by omega)]
   have e4:(((C.drop a).take (b - a)).flatten).length=(b - a)*e:=by rw[eS hall,hlen]
   rw[e2,←e3,List.drop_left,←e4,List.take_left]
theorem xi {α:Type} (n:Nat) (z:List α):Nm.rep n z=(List.replicate n z).flatten:=by
 induction n with
 |zero=>rfl
 |succ n ih=>show z++Nm.rep n z=_;rw[ih,List.replicate_succ,af3]
def rD:Nat->List NV->List (Nat×NV)
 |_, []=> []
 |k,x::xs=>(k,x)::rD (k+1) xs
theorem KU {e:Nat}:∀(cs:List NV) (k:Nat),k+cs.length<=e->∀u∈rD k cs,u.1<e:=by
 intro cs
 induction cs with
 |nil=>intro k _ u hu;simp[rD] at hu
 |cons x xs ih=>
  intro k hk u hu
  rw[ab4] at hk
  rcases aa1.mp hu with rfl|hu
  ·show k<e;omega
  ·exact ih (k+1) (by omega) u hu
theorem xG {off:Nat}:∀(cs:List NV) (k:Nat) (c:List NV),off+k+cs.length<=c.length->sets off (rD k cs) c=c.take (off+k)++cs++c.drop (off+k+cs.length):=by
 intro cs
 induction cs with
 |nil=>intro k c _;simp[rD,sets]
 |cons x xs ih=>
  intro k c h
  rw[ab4] at h
  show sets off (rD (k+1) xs) (c.set (off+k) x)=_
  rw[ih (k+1) _ (by rw[ac3];omega),ab4]
  have e1:(c.set (off+k) x).take (off+(k+1))=c.take (off+k)++ [x]:=by
   rw[show off+(k+1)=off+k+1 by omega,ab7,List.take_set,List.set_eq_of_length_le (by rw[aa7];omega),List.getElem?_set_self (by omega)];rfl
  have e2:(c.set (off+k) x).drop (off+(k+1)+xs.length)=c.drop (off+k+(xs.length+1)):=by
   rw[List.drop_set,adF (by omega)]
   congr 1;omega
  rw[e1,e2];simp
theorem aQ.at_all {B:NH} (h:aQ B m v e C) (i:Nat) (hi:i<C.length):∃id off c,fi e v (.int .i64 (.lit (i:Int)))= .val (.ptr id off)/\ids v= [id]/\¬ap B id/\m.get id=some (.cells true c)/\ap m id/\off+e<=c.length/\(c.drop off).take e=C[i]/\
 ∀(cs:List NV) (M:NH),cs.length=e->M.get id=some (.cells true (c.take off++cs++c.drop (off+e)))->ap M id->aQ B M v e (C.set i cs):=by
 obtain⟨id,off,c,a1,a2,a3,a4,a5,a6,a7,a8⟩:=h.at i hi
 refine⟨id,off,c,a1,a2,a3,a4,a5,a6,a7,λcs M hl hM ho=> ?_⟩
 have h1:=xG (off:=off) cs 0 c (by omega)
 have h2:=xG (off:=0) cs 0 C[i] (by rw[h.1 _ (aa9 hi)];omega)
 have:=a8 (rD 0 cs) M (KU cs 0 (by omega)) (by rw[h1,hl];exact hM) ho
 rw[h2,af6 (by rw[h.1 _ (aa9 hi)];omega)] at this
 simpa using this
theorem bm {c cs:List NV} {off e:Nat} (h:(c.drop off).take e=cs) (k:Nat) (hk:k<e):c[off+k]? =cs[k]? :=by
 rw[←h,List.getElem?_take_of_lt hk,List.getElem?_drop]
end
open Go Go.RowKit
section
variable {L:List (D4×NV)} {t:Tm} {ctx:Option NV} {m:NH} {K:NV->NH->Prop}
theorem UF {o:Out} (ho:o= .norm∨o= .ret):sH [] K o ⟨t, [],ctx,m⟩=K (.tup []) m:=by
 apply propext
 constructor
 ·rintro⟨_,_,v,h1,h2⟩
  change CR.val (.tup []) ctx m= .val v ctx m at h1
  injection h1 with h1
  rw[←h1] at h2;exact h2
 ·exact λh=>⟨ho,rfl,.tup [],rfl,h⟩
theorem WG:sH [] K .ret ⟨t, [],ctx,m⟩=K (.tup []) m:=UF (.inr rfl)
theorem Lj:sH [] K .norm ⟨t, [],ctx,m⟩=K (.tup []) m:=UF (.inl rfl)
theorem UI {q:Bool}:(q==true)=q:=by cases q<;>rfl
theorem Xs {q:Bool}:(q==false)= !q:=by cases q<;>rfl
theorem aw {l:List (AK×NO)} {k:Nat} {m:NH} {S:List D4} (h:bj l=S):Chg S m (hp l k m):=h▸fA l k m
def SY (f:List NV->List NV) (o:Option (List NV)):Option (List NV):=match o with|some l=>some (f l)|none=>none
theorem Vd {f:List NV->List NV} {l:List NV}:SY f (some l)=some (f l):=_root_.id rfl
def fnC (t:Tm) (ps:List (Nat×Nat×NOpd)) (off k cur:Nat) (l:List NV) (o:Option (List NV)):Option (List NV):=match o with
 |some cs=>if cs.length=k/\cur<=off/\off - cur+k<=l.length then SY (λr=>l.take (off - cur)++(cs++r)) (cM t ps (off+k) (l.drop (off - cur+k))) else none
 |none=>none
theorem Yj {t:Tm} {cur:Nat} {l:List NV}:cM t [] cur l=some l:=_root_.id rfl
theorem MV {α:Type} (K:List α->Option (List α)):∀(k:Nat) (l:List α),gT k K l=if k<=l.length then (match K (l.drop k) with|some r=>some (l.take k++r)|none=>none) else none:=by
 intro k
 induction k with
 |zero=>intro l;show K l=_;simp;cases K l<;>rfl
 |succ k ih=>
  intro l
  cases l with
  |nil=>simp;rfl
  |cons a l=>
   show Option.rec (motive:=λ_=>Option (List α)) none (λt'=>some (a::t')) (gT k K l)=_
   rw[ih]
   by_cases h:k<=l.length
   ·rw[adF h,adF (by simpa using h),List.drop_succ_cons]
    cases K (l.drop k)<;>rfl
   ·rw[adE h,adE (by simpa using h)]
theorem acP {t:Tm} {ps:List (Nat×Nat×NOpd)} {off k cur:Nat} {x:NOpd} {l:List NV}:cM t ((off,k,x)::ps) cur l=oO (ρ t x) λv=>fnC t ps off k cur l (cellsOf v):=by
 show Option.rec (motive:=λ_=>Option (List NV)) none (λv:NV=>Option.rec (motive:=λ_=>Option (List NV)) none (λcs=>dJ cs λj=>cond (Nat.beq j k) (cond (Nat.ble cur off)
  (gT (Nat.sub off cur) (λl=>Option.rec (motive:=λ_=>Option (List NV)) none (λl=>Option.rec (motive:=λ_=>Option (List NV)) none (λl=>iM cs l some) (cM t ps (Nat.add off j) l)) (dN j l)) l) none) none) (cellsOf v)) (ρ t x)=_
 cases ρ t x with
 |none=>rfl
 |some v=>
  show Option.rec (motive:=λ_=>Option (List NV)) none (λcs=>dJ cs λj=>cond (Nat.beq j k) (cond (Nat.ble cur off)
   (gT (Nat.sub off cur) (λl=>Option.rec (motive:=λ_=>Option (List NV)) none (λl=>Option.rec (motive:=λ_=>Option (List NV)) none (λl=>iM cs l some) (cM t ps (Nat.add off j) l)) (dN j l)) l) none) none) (cellsOf v)=fnC t ps off k cur l (cellsOf v)
  cases cellsOf v with
  |none=>rfl
  |some cs=>
   show dJ cs (λj=>cond (Nat.beq j k) (cond (Nat.ble cur off)
    (gT (Nat.sub off cur) (λl=>Option.rec (motive:=λ_=>Option (List NV)) none (λl=>Option.rec (motive:=λ_=>Option (List NV)) none (λl=>iM cs l some) (cM t ps (Nat.add off j) l)) (dN j l)) l) none) none)=if cs.length=k/\cur<=off/\off - cur+k<=l.length then _ else _
   rw[bS]
   cases hb:Nat.beq cs.length k with
   |false=>rw[adE (λh=>ad3 hb h.1)];rfl
   |true=>
    have hk:=adK hb
    subst hk
    cases hle:Nat.ble cur off with
    |false=>rw[adE (λh=>by rw[ab0 h.2.1] at hle;cases hle)];rfl
    |true=>
     have hle:=ac4 hle
     show gT (off - cur) (λl=>Option.rec (motive:=λ_=>Option (List NV)) none (λl=>Option.rec (motive:=λ_=>Option (List NV)) none (λl=>iM cs l some) (cM t ps (off+cs.length) l)) (dN cs.length l)) l=_
     rw[MV]
     by_cases h1:off - cur<=l.length
     ·rw[adF h1,fR,ac6]
      by_cases h2:cs.length<=l.length - (off - cur)
      ·rw[adF h2,adF ⟨rfl,hle,by omega⟩,List.drop_drop]
       dsimp only
       cases cM t ps (off+cs.length) (l.drop (off - cur+cs.length)) with
       |none=>rfl
       |some r=>dsimp only[SY];rw[eP]
      ·rw[adE h2,adE (λh=>h2 (by omega))]
     ·rw[adE h1,adE (λh=>h1 (by omega))]
theorem Z6 {t:Tm} {ps:List (Nat×Nat×NOpd)} {off k cur:Nat} {cs l:List NV} (h1:cs.length=k) (h2:cur<=off) (h3:off - cur+k<=l.length):
 fnC t ps off k cur l (some cs)=SY (λr=>l.take (off - cur)++(cs++r)) (cM t ps (off+k) (l.drop (off - cur+k))):=adF ⟨h1,h2,h3⟩
def Has (t:Tm):List (D4×NV)->Prop
 | []=>True
 |(k,v)::l=>NT.get k t=some v/\Has t l
theorem Rx {t:Tm}:Has t []=True:=_root_.id rfl
theorem fu {t:Tm} {k:D4} {v:NV} {l:List (D4×NV)}:Has t ((k,v)::l)=(NT.get k t=some v/\Has t l):=_root_.id rfl
theorem GH {α:Type} (l:List α) (f:α->α) (i:Nat) (h:i<l.length):l.modify i f=l.set i (f l[i]):=by
 apply List.ext_getElem?
 intro j
 rw[List.getElem?_modify,List.getElem?_set]
 by_cases e:i=j
 ·subst e;simp[h]
 ·simp[e]
theorem pE.wf' {P:Program} {E:NV->NH->Prop} {S:cE} {f:Nat} {args:List NV} {m m':NH} {v:NV} (h:pE P S f args m v m') {K:NV->NH->Prop}:WF ⟨P,E⟩ S f args m K=K v m':=by
 rw[h.wf,aa]
theorem rP (m:NH) (o:NO):hp [(.n 0,o)] 1 m=m.add o:=by
 have:=Hd (m:=m) (l:= []) (k:=0) (o:=o)
 rw[aa] at this
 exact this.symm
theorem aQ.app1 {B m:NH} {v:NV} {e:Nat} {C:List (List NV)} {x:D4} {w:Bool} {cs:List NV} {kc bytes:Nat} (hv:aQ B m v e C) (hx:m.get x=some (.cells w cs)) (hox:ap m x) (hl:cs.length=e) (hB:∀id,ap B id->ap m id)
 (hr:(C.length+1)*bytes<=1099511627776) (hr':C.length+1<=1099511627776):∃v' m',GP e bytes m v (.slc x 0 1 e kc)= .mem v' m'/\aQ B m' v' e (C++ [cs])/\Chg (ids v) m m':=
 hv.app (D:= [cs]) ⟨λy hy=>by simp at hy;rw[hy];exact hl,Or.inr ⟨x,0,kc,w,cs,rfl,hx,hox,by subst hl;simp,by subst hl;simp⟩⟩ (by simp) hB hr hr'
theorem SG {P:PE} {S:cE} {dst:D4} {L:List (D4×NV)} {t:Tm} {dfs:List Dfr} {ctx:Option NV} {K:Dyn->Prop} {B m:NH} {v:NV} {e:Nat} {C:List (List NV)} {x:D4} {w:Bool} {cs:List NV} {kc bytes:Nat} (hv:aQ B m v e C) (hx:m.get x=some (.cells w cs)) (hox:ap m x) (hl:cs.length=e) (hB:∀id,ap B id->ap m id)
 (hr:(C.length+1)*bytes<=1099511627776) (hr':C.length+1<=1099511627776) (h:∀v' m',aQ B m' v' e (C++ [cs])->Chg (ids v) m m'->K ⟨puts ((dst,v')::L) t,dfs,ctx,hp [] 0 m'⟩):
 wN P S (some dst) (puts L t) dfs ctx m (GP e bytes m v (.slc x 0 1 e kc)) K:=by
 obtain⟨v',m',h1,h2,h3⟩:=hv.app1 (bytes:=bytes) (kc:=kc) hx hox hl hB hr hr'
 have:=h v' m' h2 h3
 rw[aa] at this
 rw[h1];exact this
theorem Wh {b:Bool}:cellsOf (.bool b)=some [.bool b]:=_root_.id rfl
theorem ZT {k:IntKind} {x:SI}:cellsOf (.int k x)=some [.int k x]:=_root_.id rfl
theorem Yg {l:List Nat}:cellsOf (.str l)=some [.str l]:=_root_.id rfl
theorem Yp {i:D4} {o:Nat}:cellsOf (.ptr i o)=some [.ptr i o]:=_root_.id rfl
theorem V3:cellsOf (.nils)=some [.nils]:=_root_.id rfl
theorem Yv {i:D4} {o n e k:Nat}:cellsOf (.slc i o n e k)=some [.slc i o n e k]:=_root_.id rfl
theorem aak {i:D4}:cellsOf (.map i)=some [.map i]:=_root_.id rfl
theorem aar {l:List NV}:cellsOf (.agg l)=some l:=_root_.id rfl
def aaN (m:NH) (o:Option (List NV)):NR:=match o with|some cs=> .mem (.ptr m.next 0) (m.add (.cells true cs))|none=> .fail
theorem ZA {t:Tm} {m:NH} {x:NOpd} {ty:Nat}:ai (.box x ty) t m=oN (ρ t x) λv=>aaN m (cellsOf v):=Xu
theorem YT {m:NH} {cs:List NV}:aaN m (some cs)= .mem (.ptr m.next 0) (m.add (.cells true cs)):=_root_.id rfl
abbrev ii (z:Int):NV:= .int .i64 (.lit z)
end
open Go Go.RowKit
def mH (P:Program) (S:cE) (q:D4) (args:List NV) (m:NH) (v:NV) (m':NH):Prop:=∃c,FL P S q args m (.val v c m')
def WY (P:Program) (S:cE) (q:D4) (args:List NV) (m:NH) (K:NV->NH->Prop):Prop:=∃v c m',FL P S q args m (.val v c m')/\K v m'
section
variable {P:Program} {S:cE} {f:Nat} {q:D4} {args:List NV} {m:NH}
theorem FL.det {x y:CR} (h:FL P S q args m x) (h':FL P S q args m y):x=y:=by
 obtain⟨hn,n,e⟩:=h
 obtain⟨hn',k,e'⟩:=h'
 rw[←fX (bU (ad9 n k)) e hn,fX (bU (ae0 n k)) e' hn']
theorem mH.wy {v:NV} {m':NH} (h:mH P S q args m v m') {K:NV->NH->Prop}:WY P S q args m K=K v (hp [] 0 m'):=by
 rw[aa]
 apply propext
 constructor
 ·rintro⟨u,c,n,hc,hk⟩
  obtain⟨c',h'⟩:=h
  have:=FL.det hc h'
  injection this with a _ b
  rw[←a,←b];exact hk
 ·intro hk
  obtain⟨c,h⟩:=h
  exact⟨v,c,m',h,hk⟩
def Qr (q:D4) (K:NV->NH->Prop) (o:Out) (d:Dyn):Prop:=match d.h.get q with
 |some (.loop _ _ tm ps a b)=>(match o with
  | .norm=>K (.bool true) (d.h.put q (.loop 0 .none tm ps a b))
  | .ret=>K (.bool false) (d.h.put q (.loop 2 .ret tm ps a b))
  | .exit i=>K (.bool false) (d.h.put q (.loop 2 (.exit i) tm ps a b))
  | .pan _=>False)
 |_=>False
theorem WY.of_wp {p:Jump} {tm:NT NV} {ps:List D4} {a b A B:NC} {K:NV->NH->Prop} (hm:m.get q=some (.loop 0 p tm ps a b)) (hlen:args.length=ps.length) (ea:a=A) (eb:b=B)
 (h:wp P S (some q) A ⟨sZ ps args tm, [],none,hp [] 0 m⟩ (λo d=>o= .norm/\d.dfs= []/\d.h.get q=some (.loop 0 p tm ps a b)/\wp P S (some q) B ⟨d.t, [],none,d.h.put q (.loop 1 p tm ps a b)⟩ (Qr q K))):WY P S q args m K:=by
 subst ea eb
 rw[aa] at h
 obtain⟨o,d1,h1,h2⟩:=av _ _ _ h
 cases o with
 |pan v=>exact h2.2.elim
 |ret=>exact adD h2.1 (by simp)
 |exit i=>exact adD h2.1 (by simp)
 |norm=>
 obtain⟨-,hd,hq,h2⟩:=h2
 obtain⟨o,d2,h3,h4⟩:=av _ _ _ h2
 have h4:Qr q K o d2:=by
  cases o with
  |pan v=>exact h4.2.elim
  |_=>exact h4
 unfold Qr at h4
 cases hg:d2.h.get q with
 |none=>rw[hg] at h4;exact h4.elim
 |some w=>
  rw[hg] at h4
  cases w with
  |loop st p2 tm2 ps2 a2 b2=>
   cases o with
   |norm=>exact⟨_,none,_,FL.of hm hlen h1 hd hq h3 (by simp) (by unfold dZ;rw[hg];exact NH.set_eq _ _ _ _) (by simp),h4⟩
   |ret=>exact⟨_,none,_,FL.of hm hlen h1 hd hq h3 (by simp) (by unfold dZ;rw[hg];exact NH.set_eq _ _ _ _) (by simp),h4⟩
   |exit i=>exact⟨_,none,_,FL.of hm hlen h1 hd hq h3 (by simp) (by unfold dZ;rw[hg];exact NH.set_eq _ _ _ _) (by simp),h4⟩
   |pan v=>exact h4.elim
  |_=>exact h4.elim
def enG (q:D4) (K:NV->NH->Prop) (o:Out) (m:NH) (x:Option NO):Prop:=match x with
 |some (.loop _ _ tm ps a b)=>(match o with
  | .norm=>K (.bool true) (m.put q (.loop 0 .none tm ps a b))
  | .ret=>K (.bool false) (m.put q (.loop 2 .ret tm ps a b))
  | .exit i=>K (.bool false) (m.put q (.loop 2 (.exit i) tm ps a b))
  | .pan _=>False)
 |_=>False
theorem Wl {K:NV->NH->Prop} {o:Out} {t:Tm} {dfs:List Dfr} {ctx:Option NV}:Qr q K o ⟨t,dfs,ctx,m⟩=enG q K o m (m.get q):=_root_.id rfl
section
variable {K:NV->NH->Prop} {st:Nat} {p:Jump} {tm:NT NV} {ps:List D4} {a b:NC} {i:Nat}
theorem aaQ:enG q K .norm m (some (.loop st p tm ps a b))=K (.bool true) (m.put q (.loop 0 .none tm ps a b)):=_root_.id rfl
theorem aao:enG q K .ret m (some (.loop st p tm ps a b))=K (.bool false) (m.put q (.loop 2 .ret tm ps a b)):=_root_.id rfl
end
theorem WY.ret {K:NV->NH->Prop} (h:WY P S q args m K):∃v m',mH P S q args m v m'/\K v m':=by
 obtain⟨v,c,m',hc,hk⟩:=h;exact⟨v,m',⟨c,hc⟩,hk⟩
theorem WY.ex {Φ:NV->NH->Prop} (h:∀K:NV->NH->Prop,(∀v m',Φ v m'->K v m')->WY P S q args m K):∃v m',mH P S q args m v m'/\Φ v m':=(h Φ λ_ _ h=>h).ret
theorem WF.ex {Φ:NV->NH->Prop} (h:∀K:NV->NH->Prop,(∀v m',Φ v m'->K v m')->WF P S f args m K):∃v m',pE P S f args m v m'/\Φ v m':=(h Φ λ_ _ h=>h).ret
theorem rz {t:Tm}:puts [] t=t:=rfl
def mB (ks:List D4) (t t':Tm):Prop:=∀k,k∉ks->NT.get k t'=NT.get k t
theorem mB.refl (ks:List D4) (t:Tm):mB ks t t:=λ_ _=>rfl
theorem mB.puts {ks:List D4} {t t':Tm} (h:mB ks t t') (L:List (D4×NV)) (hL:∀p∈L,p.1∈ks):mB ks t (puts L t'):=by
 intro k hk
 rw[eY]
 induction L with
 |nil=>exact h k hk
 |cons p L ih=>
  have hp:=hL p (ab2 ..)
  have hne:bo k p.1=false:=by
   cases hs:bo k p.1 with
   |false=>rfl
   |true=>exact adD (iL hs▸hp) hk
  show cond (bo k p.1) _ _=_
  rw[hne]
  exact ih λq hq=>hL q (aa8 _ hq)
theorem mB.get {ks:List D4} {t t':Tm} (h:mB ks t t') {k:D4} {v:Option NV} (g:NT.get k t=v) (hk:k∉ks):NT.get k t'=v:=(h k hk).trans g
theorem mB.trans {ks ls:List D4} {a b c:Tm} (h:mB ks a b) (h':mB ls b c) (hs:∀k∈ls,k∈ks):mB ks a c:=λk hk=>(h' k λq=>hk (hs k q)).trans (h k hk)
def EG:List Dfr->NH->Option NH
 | [],m=>some m
 | .mark id::l,m=>(match m.get id with|some (.defd true)=>EG l (m.put id (.defd false))|_=>none)
 | .call ..::_,_=>none
def W1 (rs:List NRes) (K:NV->NH->Prop) (o:Out) (d:Dyn):Prop:=(o= .norm∨o= .ret)/\∃m',EG d.dfs d.h=some m'/\∃v,cD m' d.t rs .fail (λl=> .val (gS l) d.ctx m')= .val v d.ctx m'/\K v m'
theorem qX {F:Nat->List NV->Option NV->NH->CR} {K:Option NV->NH->CR}:∀(l:List Dfr) (m m':NH) (p:Option NV),EG l m=some m'->unwind F K l p m=K p m':=by
 intro l
 induction l with
 |nil=>intro m m' p h;injection h with h;rw[←h];rfl
 |cons c l ih=>
  intro m m' p h
  cases c with
  |call f cap=>cases h
  |mark id=>
   show (match m.get id with
    |some (.defd true)=>m.set id (.defd false) λh=>unwind F K l p h
    |_=>CR.fail)=_
   change (match m.get id with|some (.defd true)=>EG l (m.put id (.defd false))|_=>none)=some m' at h
   cases hg:m.get id with
   |none=>rw[hg] at h;cases h
   |some o=>
    rw[hg] at h
    cases o with
    |defd b=>cases b with
     |true=>dsimp only at h ⊢;rw[NH.set_eq];exact ih _ _ _ h
     |false=>cases h
    |_=>cases h
theorem Call.of_runM {nf:NFun} (hs:∀l,S f l=λ_=>none) (hf:af P f=some (.code nf)) {o:Out} {d:Dyn} {m':NH} (ho:o= .norm∨o= .ret) (h:dp P S none nf.body ⟨cJ args 0 .leaf, [],none,m⟩ o d)
 (hd:EG d.dfs d.h=some m') {v:NV} (hv:cD m' d.t nf.results .fail (λl=> .val (gS l) d.ctx m')= .val v d.ctx m'):Call P S f args m (.val v d.ctx m'):=by
 obtain⟨n,hn⟩:=h
 refine⟨by simp,n, ?_⟩
 unfold bZ
 rw[hs args]
 dsimp only
 rw[hf]
 show cP P (ev P S n) 3 f args none m=_
 rw[dj,hf]
 dsimp only
 rw[hn]
 rcases ho with rfl|rfl
 ·show unwind _ (finish nf.results d) d.dfs none d.h=_
  rw[qX _ _ _ _ hd];exact hv
 ·show unwind _ (finish nf.results d) d.dfs none d.h=_
  rw[qX _ _ _ _ hd];exact hv
theorem WF.of_wpM {nf:NFun} (hs:∀l,S f l=λ_=>none) (hf:af P f=some (.code nf)) {K:NV->NH->Prop} {L:List (D4×NV)} (hL:cJ args 0 .leaf=puts L .leaf)
 (h:wp P S none nf.body ⟨puts L .leaf, [],none,hp [] 0 m⟩ (W1 nf.results K)):WF P S f args m K:=by
 rw[aa] at h
 obtain⟨o,d,h1,h2⟩:=av _ _ _ h
 rw[←hL] at h1
 cases o with
 |pan v=>exact h2.2.elim
 |_=>
  obtain⟨ho,m',hd,v,hv,hK⟩:=h2
  exact Or.inl ⟨v,d.ctx,m',Call.of_runM hs hf ho h1 hd hv,hK⟩
def rsM (rs:List NRes) (K:NV->NH->Prop) (t:Tm) (ctx:Option NV) (o:Option NH):Prop:=match o with|some m'=>sH rs K .ret ⟨t, [],ctx,m'⟩|none=>False
theorem Ss {rs:List NRes} {K:NV->NH->Prop} {t:Tm} {ctx:Option NV} {dfs:List Dfr} {o:Out} (ho:o= .norm∨o= .ret):W1 rs K o ⟨t,dfs,ctx,m⟩=rsM rs K t ctx (EG dfs m):=by
 apply propext
 constructor
 ·rintro⟨_,m',h1,v,h2,h3⟩
  change EG dfs m=some m' at h1
  rw[h1]
  exact⟨Or.inr rfl,rfl,v,h2,h3⟩
 ·intro h
  cases hu:EG dfs m with
  |none=>rw[hu] at h;exact h.elim
  |some m'=>
   rw[hu] at h
   obtain⟨_,_,v,h2,h3⟩:=h
   exact⟨ho,m',hu,v,h2,h3⟩
theorem Wr {rs:List NRes} {K:NV->NH->Prop} {t:Tm} {ctx:Option NV} {dfs:List Dfr}:W1 rs K .ret ⟨t,dfs,ctx,m⟩=rsM rs K t ctx (EG dfs m):=Ss (.inr rfl)
theorem Yb {rs:List NRes} {K:NV->NH->Prop} {t:Tm} {ctx:Option NV}:rsM rs K t ctx (some m)=sH rs K .ret ⟨t, [],ctx,m⟩:=_root_.id rfl
theorem Sm {P:PE} {r:Option D4} {g:NOpd} {ps:List D4} {a b:NC} {d:Dyn} {Q:Out->Dyn->Prop}:wp P S r (.rangeFunc g ps a b) d Q=W P S r (.rangeFunc g ps a b) d Q:=_root_.id rfl
theorem WL:EG [] m=some m:=_root_.id rfl
def ZC (l:List Dfr) (i:D4) (m:NH) (o:Option NO):Option NH:=match o with|some (.defd true)=>EG l (m.put i (.defd false))|_=>none
theorem Z9 {l:List Dfr} {i:D4}:EG (.mark i::l) m=ZC l i m (m.get i):=_root_.id rfl
theorem WP {l:List Dfr} {i:D4}:ZC l i m (some (.defd true))=EG l (m.put i (.defd false)):=_root_.id rfl
theorem TH:∀(ml:List D4) (M:NH),ml.Nodup->(∀i∈ml,M.get i=some (.defd true))->∃M',EG (ml.map .mark) M=some M'/\Chg ml M M':=by
 intro ml
 induction ml with
 |nil=>intro M _ _;exact⟨M,rfl,Chg.refl M⟩
 |cons i ml ih=>
  intro M hn h
  rw[List.nodup_cons] at hn
  obtain⟨M',h1,h2⟩:=ih (M.put i (.defd false)) hn.2 λj hj=>by
   rw[NH.get_put_ne _ _ (λe=>hn.1 (by rw[←e];exact hj))];exact h j (aa8 _ hj)
  refine⟨M', ?_,((Chg.put M i _).weak (T:=i::ml) (by simp)).trans h2 λj hj _=>aa8 _ hj⟩
  show (match M.get i with|some (.defd true)=>EG (ml.map .mark) (M.put i (.defd false))|_=>none)=_
  rw[h i (ab2 ..)];exact h1
theorem W.range {cap:List NV} {fx:NOpd} {ps:List D4} {a b:NC} {t:Tm} {dfs:List Dfr} {ctx:Option NV} {Q:Out->Dyn->Prop} {M m':NH} {v:NV}
 (hf:ρ t fx=some (.fn f cap)) {x:D4} (hx:m.next=x) {y:D4} (hy:(m.add (.defd true)).next=y) (hM:(m.add (.defd true)).add (.loop 0 .none t ps a b)=M) (hc:pE P S f (.yld y::cap) M v m')
 {tm:NT NV} {ps':List D4} {a' b':NC} (hl:m'.get y=some (.loop 0 .none tm ps' a' b')) (hQ:Q .norm ⟨t,.mark x::dfs,ctx,hp [] 0 (m'.put y (.loop 3 .none tm ps' a' b'))⟩):
 W P S none (.rangeFunc fx ps a b) ⟨t,dfs,ctx,m⟩ Q:=by
 subst hx hy hM
 rw[aa] at hQ
 obtain⟨c,hc⟩:=hc
 refine⟨.norm,_,dp.range hf hc ?_,hQ⟩
 unfold fj
 rw[hl]
 dsimp only
 rw[show Nat.beq 0 1=false from rfl,cond_false,NH.set_eq]
theorem W.rangeN {cap:List NV} {fx:NOpd} {ps:List D4} {a b:NC} {t:Tm} {dfs:List Dfr} {ctx:Option NV} {Q:Out->Dyn->Prop} {m':NH} {v:NV}
 (hf:ρ t fx=some (.fn f cap)) (hc:pE P S f (.yld (na m 1)::cap) (hp [(.n 1,.loop 0 .none t ps a b),(.n 0,.defd true)] 2 m) v m')
 {tm:NT NV} {ps':List D4} {a' b':NC} (hl:m'.get (na m 1)=some (.loop 0 .none tm ps' a' b')) (hQ:Q .norm ⟨t,.mark (na m 0)::dfs,ctx,hp [(.o (na m 1),.loop 3 .none tm ps' a' b')] 0 m'⟩) (ho:ap m' (na m 1)):
 W P S none (.rangeFunc fx ps a b) ⟨t,dfs,ctx,m⟩ Q:=by
 have e1:(m.add (.defd true)).next=na m 1:=by rw[←rP];rfl
 refine W.range hf (pg m).symm e1 ?_ hc hl ?_
 ·rw[←rP m (.defd true),Hd]
 ·rw[←fy ho,aa] at hQ
  rw[aa];exact hQ
end
open Go Go.RowKit
section
variable (P:PE) (S:cE) (r:Option D4)
def wpK (c:NC) (Q:Out->Dyn->Prop) (d:Dyn):Prop:=wp P S r c d Q
def HC (dst:Option D4) (t:Tm) (dfs:List Dfr) (ctx:Option NV) (m:NH) (x:NR) (l:List NOper) (K:Dyn->Prop):Prop:=wN P S dst t dfs ctx m x λd=>wO P S l d K
def yt (dst:Option D4) (t:Tm) (dfs:List Dfr) (ctx:Option NV) (l:List NOper) (K:Dyn->Prop) (v:NV) (m:NH):Prop:=wO P S l ⟨aN dst v t,dfs,ctx,m⟩ K
def gA (dst:Option D4) (op:NOp) (l:List NOper) (K:Dyn->Prop) (d:Dyn):Prop:=HC P S dst d.t d.dfs d.ctx d.h (ai op d.t d.h) l K
def gB (dst:Option D4) (l:List NOper) (K:Dyn->Prop) (d:Dyn):Prop:=wO P S l ⟨aN dst aK d.t,d.dfs,d.ctx,d.h⟩ K
def dA (dst:Option D4) (op:NOp) (pre idx:Nat) (l:List NOper) (hs:List (Nat×NH)) (rs:List (Nat×(NH->NR)×NV)) (K:Dyn->Prop) (d:Dyn):Prop:=wX (aB op) (ai op d.t d.h) P S (ai op d.t) dst pre idx l hs rs d K
def dB (dst:Option D4) (l:List NOper) (hs:List (Nat×NH)) (rs:List (Nat×(NH->NR)×NV)) (K:Dyn->Prop) (d:Dyn):Prop:=wD P S l hs rs ⟨aN dst aK d.t,d.dfs,d.ctx,d.h⟩ K
def aax (pre idx:Nat) (m:NH) (l:List NOper) (hs:List (Nat×NH)) (rs:List (Nat×(NH->NR)×NV)) (K:Dyn->Prop) (d:Dyn):Prop:=stays pre d.h rs=true/\wD P S l ((idx,m)::hs) rs d K
def Mx (dst:Option D4) (t:Tm) (dfs:List Dfr) (ctx:Option NV) (K:Dyn->Prop) (v:NV) (m:NH):Prop:=K ⟨aN dst v t,dfs,ctx,m⟩
end
section
variable {P:PE} {S:cE} {r:Option D4} {dst:Option D4} {op:NOp} {pre idx:Nat} {l:List NOper} {hs:List (Nat×NH)} {rs:List (Nat×(NH->NR)×NV)}
 {L:List (D4×NV)} {t:Tm} {dfs:List Dfr} {ctx:Option NV} {m m':NH} {v:NV} {k g:D4} {d:Dyn} {Q:Out->Dyn->Prop} {K:Dyn->Prop} {b:Bool}
theorem YB {x y:NC}:wp P S r (.seq x y) d Q=wp P S r x d (ld (wpK P S r y Q) Q):=_root_.id rfl
theorem Yl {c:NC}:wpK P S r c Q d=wp P S r c d Q:=_root_.id rfl
theorem UK {g:NOpd} {x y:NC}:wp P S r (.cond g x y) ⟨puts L t,dfs,ctx,m⟩ Q=wC (ρ (puts L t) g) (wpK P S r x Q) (wpK P S r y Q) ⟨puts L t,dfs,ctx,m⟩:=_root_.id rfl
theorem Xe:wO P S (⟨dst,op,none,pre,idx⟩::l) ⟨puts L t,dfs,ctx,m⟩ K=HC P S dst (puts L t) dfs ctx m (ai op (puts L t) m) l K:=_root_.id rfl
theorem Zv:HC P S (some k) (puts L t) dfs ctx m (.val v) l K=wO P S l ⟨puts ((k,v)::L) t,dfs,ctx,m⟩ K:=_root_.id rfl
theorem Z4:HC P S (some k) (puts L t) dfs ctx m (.mem v m') l K=wO P S l ⟨puts ((k,v)::L) t,dfs,ctx,m'⟩ K:=_root_.id rfl
theorem WJ:HC P S none (puts L t) dfs ctx m (.mem v m') l K=wO P S l ⟨puts L t,dfs,ctx,m'⟩ K:=_root_.id rfl
theorem Ve {f:Nat} {args:List NV}:HC P S dst t [] ctx m (.call f args) l K=WF P S f args m (yt P S dst t [] ctx l K):=_root_.id rfl
theorem TG {x:Dfr} {f:Nat} {args:List NV}:HC P S dst t (x::dfs) ctx m (.call f args) l K=WF P.p S f args m (yt P S dst t (x::dfs) ctx l K):=_root_.id rfl
theorem SK {P:Program} {f:Nat} {args:List NV}:HC P S dst t dfs ctx m (.call f args) l K=WF P S f args m (yt P S dst t dfs ctx l K):=by cases dfs<;>rfl
theorem Yz {v:NV}:HC P S dst t [] ctx m (.pan v) l K=P.E v m:=_root_.id rfl
theorem ZJ {q:D4} {args:List NV}:HC P S dst t dfs ctx m (.yld q args) l K=WY P.p S q args m (yt P S dst t dfs ctx l K):=_root_.id rfl
theorem Sg:yt P S (some k) (puts L t) dfs ctx l K v m=wO P S l ⟨puts ((k,v)::L) t,dfs,ctx,m⟩ K:=_root_.id rfl
theorem TD:wO P S (⟨dst,op,some (g,b),pre,idx⟩::l) ⟨puts L t,dfs,ctx,m⟩ K=wG (fk g L (NT.get g t)) b (gA P S dst op l K) (gB P S dst l K) ⟨puts L t,dfs,ctx,m⟩:=QM
theorem acK:gA P S dst op l K ⟨puts L t,dfs,ctx,m⟩=HC P S dst (puts L t) dfs ctx m (ai op (puts L t) m) l K:=_root_.id rfl
theorem acj:gB P S (some k) l K ⟨puts L t,dfs,ctx,m⟩=wO P S l ⟨puts ((k,aK)::L) t,dfs,ctx,m⟩ K:=_root_.id rfl
theorem K1:wD P S (⟨dst,op,some (g,b),pre,idx⟩::l) hs rs ⟨puts L t,dfs,ctx,m⟩ K=wG (fk g L (NT.get g t)) b (dA P S dst op pre idx l hs rs K) (dB P S dst l hs rs K) ⟨puts L t,dfs,ctx,m⟩:=Km
theorem acD:dA P S dst op pre idx l hs rs K ⟨puts L t,dfs,ctx,m⟩=wX (aB op) (ai op (puts L t) m) P S (ai op (puts L t)) dst pre idx l hs rs ⟨puts L t,dfs,ctx,m⟩ K:=_root_.id rfl
theorem abB:dB P S (some k) l hs rs K ⟨puts L t,dfs,ctx,m⟩=wD P S l hs rs ⟨puts ((k,aK)::L) t,dfs,ctx,m⟩ K:=_root_.id rfl
def XN (b:Bool) (P:PE) (S:cE) (dst:Option D4) (t:Tm) (dfs:List Dfr) (ctx:Option NV) (m:NH) (x:NR) (K:Dyn->Prop):Prop:=wNb P S b dst t dfs ctx m x K
section
variable {f:NH->NR}
theorem XJ {x:NR}:wX .eff x P S f dst pre idx l hs rs ⟨t,dfs,ctx,m⟩ K=(ahead pre hs=true/\XN (sQ hs idx l) P S dst t dfs ctx m x (aax P S pre idx m l hs rs K)):=_root_.id rfl
end
theorem ML:XN b P S (some k) (puts L t) dfs ctx m (.mem v m') K=K ⟨puts ((k,v)::L) t,dfs,ctx,m'⟩:=by cases b<;>rfl
theorem TB:XN b P S none (puts L t) dfs ctx m (.mem v m') K=K ⟨puts L t,dfs,ctx,m'⟩:=by cases b<;>rfl
theorem QJ {f:Nat} {args:List NV}:XN true P S dst t [] ctx m (.call f args) K=WF P S f args m (Mx dst t [] ctx K):=_root_.id rfl
theorem Nl {P:Program} {f:Nat} {args:List NV}:XN b P S dst t dfs ctx m (.call f args) K=WF P S f args m (Mx dst t dfs ctx K):=by cases b<;>cases dfs<;>rfl
theorem WI {x:Nat×NH} {i:Nat}:sQ (x::hs) i l=false:=_root_.id rfl
theorem RL {i:Nat}:sQ [] i l=bI i l:=_root_.id rfl
theorem UO {i:Nat}:bI i []=true:=_root_.id rfl
theorem Yi {i:Nat} {g:Option (D4×Bool)}:bI i (⟨dst,op,g,pre,idx⟩::l)=cond (Nat.testBit pre i) (bI i l) false:=_root_.id rfl
theorem Se:Mx (some k) (puts L t) dfs ctx K v m=K ⟨puts ((k,v)::L) t,dfs,ctx,m⟩:=_root_.id rfl
theorem VG {m0:NH}:aax P S pre idx m0 l hs rs K ⟨t,dfs,ctx,m⟩=(stays pre m rs=true/\wD P S l ((idx,m0)::hs) rs ⟨t,dfs,ctx,m⟩ K):=_root_.id rfl
theorem MC {B:NH} {e:Nat} {C:List (List NV)} {x:D4} {w:Bool} {cs:List NV} {kc bytes:Nat} (hv:aQ B m v e C) (hx:m.get x=some (.cells w cs)) (hox:ap m x) (hl:cs.length=e) (hB:∀id,ap B id->ap m id)
 (hr:(C.length+1)*bytes<=1099511627776) (hr':C.length+1<=1099511627776) (h:∀v' m',aQ B m' v' e (C++ [cs])->Chg (ids v) m m'->wO P S l ⟨puts ((k,v')::L) t,dfs,ctx,hp [] 0 m'⟩ K):
 HC P S (some k) (puts L t) dfs ctx m (GP e bytes m v (.slc x 0 1 e kc)) l K:=SG hv hx hox hl hB hr hr' h
theorem Tf {e a b:Nat} {C:List (List NV)} {lo hi:Option NOpd} (h:Sl m v e C) (hab:a<=b) (hb:b<=C.length) (hlo:∀K:Nat->NR,iX (puts L t) lo 0 K=K a) (hhi:∀(d:Nat) (K:Nat->NR),d=C.length->iX (puts L t) hi d K=K b)
 (hK:∀v',Sl m v' e ((C.drop a).take (b - a))->(∀i∈ids v',i∈ids v)->wO P S l ⟨puts ((k,v')::L) t,dfs,ctx,m⟩ K):HC P S (some k) (puts L t) dfs ctx m (Gd e (puts L t) lo hi v) l K:=by
 obtain⟨v',h1,h2,h3⟩:=h.ssl hab hb hlo hhi
 rw[h1];exact hK v' h2 h3
end
open Go Go.RowKit
section
variable {t:Tm} {m:NH}
def TU (v:NV):NR:=match v with| .str s=> .val (.int .i64 (.lit (s.length:Int)))|_=> .fail
theorem Vi {x:NOpd}:ai (.lenStr x) t m=oN (ρ t x) TU:=by
 show wV t x (λv=>match v with| .str s=>dJ s λn=> .val (.int .i64 (.lit (.ofNat n)))|_=> .fail)=_
 rw[bC]
 congr 1
 funext v
 cases v with
 |str s=>exact bS s (λn=>NR.val (.int .i64 (.lit (.ofNat n))))
 |_=>rfl
theorem S5 {s:List Nat}:TU (.str s)= .val (.int .i64 (.lit (s.length:Int))):=_root_.id rfl
def VD (v i:NV):NR:=aS (kJ i) λi=>match v with| .str s=>aS s[i]? λb=> .val (.int .u8 (.lit (.ofNat b)))|_=> .fail
theorem ZG {x i:NOpd}:ai (.indexStr x i) t m=oN (ρ t x) λv=>oN (ρ t i) λi=>VD v i:=by
 show wV t x (λv=>gR t i λi=>match v with
  | .str s=>aS (kD s i) λb=> .val (.int .u8 (.lit (.ofNat b)))
  |_=> .fail)=_
 rw[bC]
 congr 1
 funext v
 unfold gR
 rw[bC]
 congr 1
 funext i
 unfold VD
 congr 1
 funext i
 cases v with
 |str s=>dsimp only;rw[fH]
 |_=>rfl
def UZ (o:Option Nat):NR:=match o with|some b=> .val (.int .u8 (.lit (b:Int)))|none=> .fail
theorem aav {s:List Nat} {k:IntKind} {z:Int} (h0:0<=z):VD (.str s) (.int k (.lit z))=UZ s[z.toNat]? :=by
 obtain⟨i,rfl⟩:=adL h0
 show aS s[i]? (λb=> .val (.int .u8 (.lit (.ofNat b))))=UZ s[i]?
 cases s[i]? <;>rfl
theorem W2 {b:Nat}:UZ (some b)= .val (.int .u8 (.lit (b:Int))):=_root_.id rfl
def TE (s:List Nat) (a b:Nat):NR:=cond (Nat.ble a b) (aS (jt b s) λs=>aS (dN a s) λs=> .val (.str s)) .fail
def Wi (t:Tm) (lo hi:Option NOpd) (v:NV):NR:=match v with
 | .str s=>iX t hi s.length λb=>iX t lo 0 λa=>TE s a b
 |_=> .fail
theorem YF {x:NOpd} {lo hi:Option NOpd}:ai (.sliceStr x lo hi) t m=oN (ρ t x) (Wi t lo hi):=by
 show wV t x (λv=>match v with
  | .str s=>dJ s λn=>dD t hi n λb=>dD t lo 0 λa=>cond (Nat.ble a b) (aS (jt b s) λs=>aS (dN a s) λs=> .val (.str s)) .fail
  |_=> .fail)=_
 rw[bC]
 congr 1
 funext v
 cases v with
 |str s=>
  dsimp only[Wi]
  rw[bS,fQ]
  congr 1
  funext b
  rw[fQ]
  rfl
 |_=>rfl
theorem XL {s:List Nat} {lo hi:Option NOpd}:Wi t lo hi (.str s)=iX t hi s.length λb=>iX t lo 0 λa=>TE s a b:=_root_.id rfl
theorem ZZ {s:List Nat} {a b:Nat} (h:a<=b) (h':b<=s.length):TE s a b= .val (.str ((s.take b).drop a)):=by
 unfold TE
 rw[ab0 h,jH,adF h']
 show aS (dN a (s.take b)) _=_
 rw[fR,adF (by rw[aa7];omega)];rfl
abbrev up (s:List Nat):List (List NV):=s.map λ(b:Nat)=> [NV.int .u8 (.lit (b:Int))]
theorem KE (s:List Nat):(up s).flatten=s.map λx=>NV.int .u8 (.lit (.ofNat x)):=by
 induction s with
 |nil=>rfl
 |cons b s ih=>show [NV.int .u8 (.lit (b:Int))]++(up s).flatten=_;rw[ih];rfl
def Rf (m:NH) (v:NV):NR:=match v with| .str s=>(if s.length<=1099511627776 then .mem (.slc m.next 0 s.length 1 s.length) (m.add (.cells false (up s).flatten)) else .fail)|_=> .fail
theorem aaw {ty:Nat} {x:NOpd}:ai (.strToBytes ty x) t m=oN (ρ t x) (Rf m):=by
 show wV t x (λv=>match v with| .str s=>DA s λl=>dJ s λn=>cond (Nat.ble n 1099511627776) (m.new (.cells false l) λid h=> .mem (.slc id 0 n 1 n) h) .fail|_=> .fail)=_
 rw[bC]
 congr 1
 funext v
 cases v with
 |str s=>
  dsimp only[Rf]
  rw[jJ,bS,NH.new_eq,KE]
  split
  ·rename_i h;rw[ab0 h];rfl
  ·rename_i h;rw[show Nat.ble s.length 1099511627776=false from by cases hb:Nat.ble s.length 1099511627776 with|false=>rfl|true=>exact adD (ac4 hb) h];rfl
 |_=>rfl
theorem Uq {s:List Nat} (h:s.length<=1099511627776):Rf m (.str s)= .mem (.slc m.next 0 s.length 1 s.length) (m.add (.cells false (up s).flatten)):=adF h
def Rb (m:NH) (v:NV):NR:=iq 1 m v λ_ l=>aS (eN l) λs=> .val (.str s)
theorem Ys {x:NOpd}:ai (.bytesToStr x) t m=oN (ρ t x) (Rb m):=by
 show wV t x (λv=>iq 1 m v λ_ l=>aS (eN l) λs=> .val (.str s))=_
 rw[bC];rfl
theorem RV {s:List Nat} (h:∀b∈s,b<256):eN (up s).flatten=some s:=by
 induction s with
 |nil=>rfl
 |cons b s ih=>
  show RJ (.int .u8 (.lit (.ofNat b))) (eN (up s).flatten)=_
  rw[ih λx hx=>h x (aa8 _ hx)]
  show cond (Nat.ble b 255) (some (b::s)) none=_
  rw[ab0 (by have:=h b (ab2 ..);omega)];rfl
theorem Sl.bts {v:NV} {s:List Nat} (h:Sl m v 1 (up s)) (hb:∀b∈s,b<256):Rb m v= .val (.str s):=by
 unfold Rb
 rw[nI h,RV hb];rfl
theorem YN {a b:List Nat}:bH .num .eql (.str a) (.str b)=some (.bool (decide (a=b))):=by
 show cH (JM a b)=_
 rw[bn]
 congr 2
 rw[ad5,decide_eq_true_eq]
 constructor
 ·intro h
  induction a generalizing b with
  |nil=>cases b with
   |nil=>rfl
   |cons=>cases h
  |cons x a ih=>cases b with
   |nil=>cases h
   |cons y b=>
    change cond (Nat.beq x y) (JM a b) false=true at h
    cases hxy:Nat.beq x y with
    |false=>rw[hxy] at h;cases h
    |true=>rw[hxy] at h;rw[adK hxy,ih h]
 ·rintro rfl;exact DS a
theorem VS {a b:List Nat} (h:a.length+b.length<=1099511627776):bH .num .add (.str a) (.str b)=some (.str (a++b)):=by
 show iM a b (λl=>dJ l λn=>cond (Nat.ble n 1099511627776) (some (NV.str l)) none)=_
 rw[eP,bS,ab0 (by rw[aa5];exact h)];rfl
theorem wrap_u64 {n:Int}:bM .u64 n=n % 18446744073709551616:=by rw[cN];rfl
theorem wrap_u8 {n:Int}:bM .u8 n=n % 256:=by rw[cN];rfl
theorem Wt {a b:Int}:bH .num .add (.int .u64 (.lit a)) (.int .u64 (.lit b))=some (.int .u64 (.lit ((a+b) % 18446744073709551616))):=by
 refine (jy rfl).trans ?_
 show cS .u64 (bM .u64 (Jr a b))=_
 rw[Hj,wrap_u64,bc]
theorem Wm {a b:Int}:bH .num .mul (.int .u64 (.lit a)) (.int .u64 (.lit b))=some (.int .u64 (.lit ((a*b) % 18446744073709551616))):=by
 refine (jy rfl).trans ?_
 show cS .u64 (bM .u64 (xe a b))=_
 rw[kq,wrap_u64,bc]
theorem VY {a b:Int}:bH .num .sub (.int .u8 (.lit a)) (.int .u8 (.lit b))=some (.int .u8 (.lit ((a - b) % 256))):=by
 refine (jy rfl).trans ?_
 show cS .u8 (bM .u8 (Fd a b))=_
 rw[lW,wrap_u8,bc]
theorem ul {a:Nat} {k:IntKind} {n:Nat} (hn:n<=64):bH .num .shr (.int .u64 (.lit (a:Int))) (.int k (.lit (n:Int)))=some (.int .u64 (.lit ((a / 2 ^ n:Nat):Int))):=by
 show Jq .u64 (Int.ofNat a) (Int.ofNat n)=_
 show cS .u64 (.ofNat (Nat.div a (Nat.pow 2 (ss .u64 n))))=_
 rw[show ss .u64 n=n from by unfold ss;rw[show Nat.ble n (IntKind.bits .u64)=true from ab0 hn];rfl,bc];rfl
theorem GI {a b:Nat} (ha:a<18446744073709551616) (hb:b<18446744073709551616):bH .num .and (.int .u64 (.lit (a:Int))) (.int .u64 (.lit (b:Int)))=some (.int .u64 (.lit ((a&&& b:Nat):Int))):=by
 refine (jy rfl).trans ?_
 show gC .and .u64 (Int.ofNat a) (Int.ofNat b)=_
 unfold gC
 dsimp only
 rw[show Nat.ble (Nat.succ a) (bE .u64)=true from ab0 ha,show Nat.ble (Nat.succ b) (bE .u64)=true from ab0 hb]
 show cS .u64 (.ofNat (Nat.land a b))=_
 rw[bc];rfl
def yY (k:IntKind) (v:NV):NR:=match v with| .int _ (.lit n)=> .val (.int k (.lit (bM k n)))|_=> .fail
theorem YV {k:IntKind} {x:NOpd}:ai (.toInt k x) t m=oN (ρ t x) (yY k):=by
 show wV t x (λv=>match v with| .int _ (.lit n)=>vr (cS k (bM k n))|_=> .fail)=_
 rw[bC]
 congr 1
 funext v
 cases v with
 |int k' x=>cases x with
  |lit n=>show vr (cS k (bM k n))=_;rw[bc];rfl
 |_=>rfl
theorem Fh {k:IntKind} {n:Int}:yY .u64 (.int k (.lit n))= .val (.int .u64 (.lit (n % 18446744073709551616))):=by show NR.val (.int .u64 (.lit (bM .u64 n)))=_;rw[wrap_u64]
theorem Pn {k:IntKind} {n:Int} (h:-9223372036854775808<=n) (h':n<9223372036854775808):yY .i64 (.int k (.lit n))= .val (.int .i64 (.lit n)):=by show NR.val (.int .i64 (.lit (bM .i64 n)))=_;rw[wrap_small h h']
def Uk (v:NV):NR:=match v with| .ptr i o=> .val (.ptr i o)| .fn f c=> .val (.fn f c)| .yld l=> .val (.yld l)|_=> .fail
theorem XA {x:NOpd}:ai (.nilCheck x) t m=oN (ρ t x) Uk:=by
 show wV t x _=_
 rw[bC]
 cases ρ t x with
 |none=>rfl
 |some v=>cases v<;>rfl
theorem So {i:D4} {o:Nat}:Uk (.ptr i o)= .val (.ptr i o):=_root_.id rfl
def rR (x:NR) (K:NV->Prop):Prop:=match x with| .val v=>K v|_=>False
def sq (t:Tm) (m:NH):List NRes->(List NV->Prop)->Prop
 | [],K=>K []
 | .tmp k::l,K=>rK (NT.get k t) λv=>sq t m l λvs=>K (v::vs)
 | .cell1 k::l,K=>rR (ai (.load1 (.tmp k)) t m) λv=>sq t m l λvs=>K (v::vs)
 | .cellN k n::l,K=>rR (ai (.loadN n (.tmp k)) t m) λv=>sq t m l λvs=>K (v::vs)
theorem rQ:∀(rs:List NRes) (K:List NV->Prop) (G:List NV->CR),sq t m rs K->∃l,cD m t rs .fail G=G l/\K l:=by
 intro rs
 induction rs with
 |nil=>intro K G h;exact⟨[],rfl,h⟩
 |cons r rs ih=>
  intro K G h
  cases r with
  |tmp k=>
   cases hv:NT.get k t with
   |none=>unfold sq at h;rw[hv] at h;exact h.elim
   |some v=>
    unfold sq at h;rw[hv] at h
    obtain⟨l,h1,h2⟩:=ih (λvs=>K (v::vs)) (λl=>G (v::l)) h
    refine⟨v::l, ?_,h2⟩
    show (match (match NT.get k t with|some v=>NR.val v|none=> .fail) with| .val v=>cD m t rs .fail (λl=>G (v::l))|_=> .fail)=_
    rw[hv];exact h1
  |cell1 k=>
   cases hv:ai (.load1 (.tmp k)) t m with
   |val v=>
    unfold sq at h;rw[hv] at h
    obtain⟨l,h1,h2⟩:=ih (λvs=>K (v::vs)) (λl=>G (v::l)) h
    refine⟨v::l, ?_,h2⟩
    change gY (.tmp k) t m= .val v at hv
    show (match gY (.tmp k) t m with| .val v=>cD m t rs .fail (λl=>G (v::l))|_=> .fail)=_
    rw[hv];exact h1
   |_=>unfold sq at h;rw[hv] at h;exact h.elim
  |cellN k n=>
   cases hv:ai (.loadN n (.tmp k)) t m with
   |val v=>
    unfold sq at h;rw[hv] at h
    obtain⟨l,h1,h2⟩:=ih (λvs=>K (v::vs)) (λl=>G (v::l)) h
    refine⟨v::l, ?_,h2⟩
    change ig n (.tmp k) t m= .val v at hv
    show (match ig n (.tmp k) t m with| .val v=>cD m t rs .fail (λl=>G (v::l))|_=> .fail)=_
    rw[hv];exact h1
   |_=>unfold sq at h;rw[hv] at h;exact h.elim
def Qs (rs:List NRes) (K:NV->NH->Prop) (o:Out) (d:Dyn):Prop:=(o= .norm∨o= .ret)/\d.dfs= []/\sq d.t d.h rs λl=>K (gS l) d.h
theorem nP {rs:List NRes} {K:NV->NH->Prop} {o:Out} {d:Dyn} (h:Qs rs K o d):sH rs K o d:=by
 obtain⟨h1,h2,h3⟩:=h
 obtain⟨l,h4,h5⟩:=rQ rs _ (λl=> .val (gS l) d.ctx d.h) h3
 exact⟨h1,h2,gS l,h4,h5⟩
theorem EP {rs:List NRes} {K:NV->NH->Prop} {ctx:Option NV}:Qs rs K .ret ⟨t, [],ctx,m⟩=sq t m rs (λl=>K (gS l) m):=propext ⟨λh=>h.2.2,λh=>⟨.inr rfl,rfl,h⟩⟩
theorem RG {rs:List NRes} {K:NV->NH->Prop} {ctx:Option NV}:Qs rs K .norm ⟨t, [],ctx,m⟩=sq t m rs (λl=>K (gS l) m):=propext ⟨λh=>h.2.2,λh=>⟨.inl rfl,rfl,h⟩⟩
theorem Z2 {K:List NV->Prop}:sq t m [] K=K []:=_root_.id rfl
theorem YW {K:List NV->Prop} {k:D4} {l:List NRes}:sq t m (.tmp k::l) K=rK (NT.get k t) λv=>sq t m l λvs=>K (v::vs):=_root_.id rfl
theorem aab {K:List NV->Prop} {k:D4} {l:List NRes}:sq t m (.cell1 k::l) K=rR (ai (.load1 (.tmp k)) t m) λv=>sq t m l λvs=>K (v::vs):=_root_.id rfl
theorem YD {K:List NV->Prop} {k:D4} {n:Nat} {l:List NRes}:sq t m (.cellN k n::l) K=rR (ai (.loadN n (.tmp k)) t m) λv=>sq t m l λvs=>K (v::vs):=_root_.id rfl
theorem acO {v:NV} {K:NV->Prop}:rR (.val v) K=K v:=_root_.id rfl
theorem RH {v:NV}:gS [v]=v:=_root_.id rfl
theorem RB {a b:NV} {l:List NV}:gS (a::b::l)= .tup (a::b::l):=_root_.id rfl
theorem WF.of_wpG {P:Program} {E:NV->NH->Prop} {S:cE} {f:Nat} {args:List NV} {nf:NFun} (hs:∀l,S f l=λ_=>none) (hf:af P f=some (.code nf)) {K:NV->NH->Prop} {L:List (D4×NV)} (hL:cJ args 0 .leaf=puts L .leaf)
 (h:wp ⟨P,E⟩ S none nf.body ⟨puts L .leaf, [],none,hp [] 0 m⟩ (Qs nf.results K)):WF ⟨P,E⟩ S f args m K:=by
 rw[aa] at h
 obtain⟨o,d,h1,h2⟩:=av _ _ _ h
 rw[←hL] at h1
 cases o with
 |pan v=>exact Or.inr ⟨v,d.ctx,d.h,Call.of_pan hs hf h1 h2.1,h2.2⟩
 |_=>
  obtain⟨ho,hd,v,hv,hK⟩:=nP h2
  exact Or.inl ⟨v,d.ctx,d.h,Call.of_run hs hf ho h1 hd hv (by simp),hK⟩
theorem pE.ext {P:Program} {S:cE} {f:Nat} {args:List NV} {e:Ext} {v:NV} (hs:S f args=λ_=>none) (hf:af P f=some (.ext e)) (hv:gI e args=some v):pE P S f args m v m:=by
 refine⟨none,by simp,0, ?_⟩
 unfold bZ
 rw[hs]
 dsimp only
 rw[hf]
 dsimp only
 rw[hv]
theorem CS (c:Nat):∀(l:List Nat) (i:Nat),(∃j,pb c l i=some j)↔c∈l:=by
 intro l
 induction l with
 |nil=>
  intro i;constructor
  ·rintro⟨j,h⟩;cases h
  ·intro h;simp at h
 |cons x l ih=>
  intro i
  have e:pb c (x::l) i=cond (Nat.beq x c) (some i) (aG (Nat.succ i) (pb c l)):=rfl
  rw[e,aj]
  cases hb:Nat.beq x c with
  |true=>rw[adK hb];simp
  |false=>
   have hne:=ad3 hb
   show (∃j,pb c l (i+1)=some j)↔_
   rw[ih,adJ]
   exact⟨λh=>Or.inr h,λh=>h.elim (λq=>adD q.symm hne) λq=>q⟩
theorem QI (s:List Nat) {c:Nat} (hc:c<256):∃z:Int,gI .idxByte [.str s,.int .u8 (.lit (c:Int))]=some (.int .i64 (.lit z))/\(0<=z↔c∈s):=by
 have e:gI .idxByte [.str s,.int .u8 (.lit (c:Int))]=cond (Nat.ble c 255) (match pb c s 0 with|some i=>some (.int .i64 (.lit (.ofNat i)))|none=>some (.int .i64 (.lit (.negSucc 0)))) none:=rfl
 rw[e,ab0 (by omega)]
 cases hi:pb c s 0 with
 |some i=>exact⟨(i:Int),rfl,λ_=>(CS c s 0).mp ⟨i,hi⟩,λ_=>by omega⟩
 |none=>exact⟨-1,rfl,λh=>by omega,λh=>by obtain⟨j,hj⟩:=(CS c s 0).mpr h;rw[hi] at hj;cases hj⟩
theorem Q4 {x y c:Nat} (hc:c<=1):gI .add64 [.int .u64 (.lit (x:Int)),.int .u64 (.lit (y:Int)),.int .u64 (.lit (c:Int))]=some (NV.tup [NV.int .u64 (.lit (((x+y+c) % 18446744073709551616:Nat):Int)),.int .u64 (.lit (((x+y+c) / 18446744073709551616:Nat):Int))]):=by
 show cond (Nat.ble c 1) (aG (Nat.mod (Nat.add (Nat.add x y) c) 18446744073709551616) λa=>aG (Nat.div (Nat.add (Nat.add x y) c) 18446744073709551616) λb=>some (NV.tup [NV.int .u64 (.lit (.ofNat a)),.int .u64 (.lit (.ofNat b))])) none=_
 rw[ab0 hc,aj,aj];rfl
end
open Go Go.RowKit
section
variable {t:Tm} {m:NH}
def Xd (s:Bool) (z:NV) (ok:Bool) (k:NV) (l:List (NV×NV)):NR:=aS (gP s k l) λr=>Option.rec (Bool.rec (.val z) (.val (.tup [z,.bool false])) ok) (λv=>Bool.rec (.val v) (.val (.tup [v,.bool true])) ok) r
def lkG (s:Bool) (z:NV) (ok:Bool) (k:NV) (o:Option NO):NR:=match o with|some (.map l)=>Xd s z ok k l|_=> .fail
def lkV (s:Bool) (z:NV) (ok:Bool) (m:NH) (x k:NV):NR:=match x with| .nilm=>Xd s z ok k []| .map id=>lkG s z ok k (m.get id)|_=> .fail
theorem Ma {s ok:Bool} {z:NV} {x i:NOpd}:ai (.lookup s z ok x i) t m=oN (ρ t x) λx=>oN (ρ t i) λk=>lkV s z ok m x k:=by
 show wV t x (λx=>wV t i λk=>qO m x λl=>aS (gP s k l) λr=>Option.rec (Bool.rec (.val z) (.val (.tup [z,.bool false])) ok) (λv=>Bool.rec (.val v) (.val (.tup [v,.bool true])) ok) r)=_
 simp only[bC]
 cases ρ t x with
 |none=>rfl
 |some a=>
  cases ρ t i with
  |none=>rfl
  |some k=>
   cases a<;>try rfl
theorem ace {s ok:Bool} {z k:NV} {id:D4}:lkV s z ok m (.map id) k=lkG s z ok k (m.get id):=_root_.id rfl
theorem Yh {s ok:Bool} {z k:NV} {l:List (NV×NV)}:lkG s z ok k (some (.map l))=Xd s z ok k l:=_root_.id rfl
theorem Q3:ai .mkMap t m= .mem (.map m.next) (m.add (.map [])):=NH.new_eq m (.map []) (λid h=>NR.mem (.map id) h)
def JK (s:Bool) (id:D4) (k v:NV) (m:NH) (o:Option NO):NR:=match o with|some (.map l)=>aS (mN s k v l) λl=> .mem aK (m.put id (.map l))|_=> .fail
def muV (s:Bool) (m:NH) (x k v:NV):NR:=match x with| .map id=>JK s id k v m (m.get id)|_=> .fail
theorem Rz {s:Bool} {x i v:NOpd}:ai (.mapUpdate s x i v) t m=oN (ρ t x) λx=>oN (ρ t i) λk=>oN (ρ t v) λv=>muV s m x k v:=by
 show wV t x (λm'=>wV t i λk=>wV t v λv=>match m' with
  | .map id=>qO m (.map id) λl=>aS (mN s k v l) λl=>m.set id (.map l) λh=> .mem aK h
  |_=> .fail)=_
 simp only[bC]
 cases ρ t x with
 |none=>rfl
 |some a=>
  cases ρ t i with
  |none=>rfl
  |some k=>
   cases ρ t v with
   |none=>rfl
   |some v=>
    cases a<;>first|rfl|skip
    rename_i id
    show (match m.get id with|some (.map l)=>aS (mN s k v l) (λl=>m.set id (.map l) λh=> .mem aK h)|_=> .fail)=JK s id k v m (m.get id)
    cases m.get id with
    |none=>rfl
    |some o=>
     cases o<;>first|rfl|skip
     dsimp only[JK]
     congr 1;funext l;rw[NH.set_eq]
theorem abw {s:Bool} {k v:NV} {id:D4}:muV s m (.map id) k v=JK s id k v m (m.get id):=_root_.id rfl
abbrev ir (L:List (List Nat)):List (NV×NV):=L.map λs=>(.str s,.bool true)
theorem tH {a b:List Nat}:jw true (.str a) (.str b)=some (decide (a=b)):=by
 show some (JM a b)=_
 rw[qJ];by_cases h:a=b<;>simp[h]
theorem Ib {s:List Nat}:∀L:List (List Nat),gP true (.str s) (ir L)=some (if s∈L then some (.bool true) else none):=by
 intro L
 induction L with
 |nil=>rfl
 |cons a L ih=>
  show Option.rec (motive:=λ_=>Option (Option NV)) none (λb=>cond b (some (some (.bool true))) (gP true (.str s) (ir L))) (jw true (.str s) (.str a))=_
  rw[tH,ih]
  show cond (decide (s=a)) _ _=_
  by_cases h:s=a
  ·subst h;simp
  ·simp[h]
theorem YI {s:List Nat} {L:List (List Nat)}:Xd true (.bool false) false (.str s) (ir L)= .val (.bool (decide (s∈L))):=by
 unfold Xd
 rw[Ib]
 by_cases h:s∈L
 ·rw[adF h];simp only[h,decide_true];rfl
 ·rw[adE h];simp only[h,decide_false];rfl
def dg (l:List (List Nat)) (s:List Nat):List (List Nat):=if s∈l then l else l++ [s]
theorem KM {s:List Nat}:∀L:List (List Nat),mN true (.str s) (.bool true) (ir L)=some (ir (dg L s)):=by
 intro L
 induction L with
 |nil=>rfl
 |cons a L ih=>
  show Option.rec (motive:=λ_=>Option (List (NV×NV))) none (λb=>cond b (some ((.str s,.bool true)::ir L)) (Option.rec none (λt=>some ((.str a,.bool true)::t)) (mN true (.str s) (.bool true) (ir L)))) (jw true (.str s) (.str a))=_
  rw[tH,ih]
  show cond (decide (s=a)) _ _=_
  by_cases h:s=a
  ·subst h;simp[dg]
  ·simp only[h,decide_false,dg,adJ,false_or]
   by_cases h2:s∈L<;>simp[h2]
theorem aaM {id:D4} {s:List Nat} {L:List (List Nat)}:JK true id (.str s) (.bool true) m (some (.map (ir L)))= .mem aK (m.put id (.map (ir (dg L s)))):=by
 show aS (mN true (.str s) (.bool true) (ir L)) _=_
 rw[KM];rfl
end
open Go Go.RowKit
theorem iN {k:D4} {v:NV} {L:List (D4×NV)} {t:Tm}:NT.put k v (puts L t)=puts ((k,v)::L) t:=_root_.id rfl
theorem Vs {k:D4} {v:NV} {L:List (D4×NV)} {t:Tm}:NT.put k v (puts L t)=puts ((k,v)::L) t:=_root_.id rfl
theorem V8 {m:NH} {id:D4}:(hp [] 0 m).get id=m.get id:=by rw[aa]
def FI:Jump->Out
 | .none=> .norm
 | .ret=> .ret
 | .exit i=> .exit i
section
variable {P:Program} {S:cE}
theorem W.rangeJ {cap:List NV} {fx:NOpd} {ps:List D4} {a b:NC} {t:Tm} {dfs:List Dfr} {ctx:Option NV} {Q:Out->Dyn->Prop} {m m':NH} {v:NV} {f:Nat}
 (hf:ρ t fx=some (.fn f cap)) (hc:pE P S f (.yld (na m 1)::cap) (hp [(.n 1,.loop 0 .none t ps a b),(.n 0,.defd true)] 2 m) v m')
 {st:Nat} {p:Jump} {tm:NT NV} {ps':List D4} {a' b':NC} (hl:m'.get (na m 1)=some (.loop st p tm ps' a' b')) (hst:st≠1) (hQ:Q (FI p) ⟨t,.mark (na m 0)::dfs,ctx,hp [(.o (na m 1),.loop 3 p tm ps' a' b')] 0 m'⟩) (ho:ap m' (na m 1)):
 W P S none (.rangeFunc fx ps a b) ⟨t,dfs,ctx,m⟩ Q:=by
 have e1:(m.add (.defd true)).next=na m 1:=by rw[←rP];rfl
 have e0:m.next=na m 0:=(pg m).symm
 have e2:(m.add (.defd true)).add (.loop 0 .none t ps a b)=hp [(.n 1,.loop 0 .none t ps a b),(.n 0,.defd true)] 2 m:=by rw[←rP m (.defd true),Hd]
 rw[←fy ho,aa] at hQ
 rw[←e1] at hQ hl hc
 rw[←e2] at hc
 rw[←e0] at hQ
 obtain⟨c,hc⟩:=hc
 have hQ':qE P Q (FI p) ⟨t,.mark m.next::dfs,ctx,m'.put (m.add (.defd true)).next (.loop 3 p tm ps' a' b')⟩:=by cases p<;>exact hQ
 refine⟨FI p,_,dp.range hf hc ?_,hQ'⟩
 unfold fj
 rw[hl]
 dsimp only
 rw[show Nat.beq st 1=false from by cases h:Nat.beq st 1 with|false=>rfl|true=>exact adD (adK h) hst,cond_false,NH.set_eq]
 cases p<;>rfl
end
theorem OU {e bytes:Nat} {m m':NH} {v x v':NV} (h:GP e bytes m v x= .mem v' m'):∀i∈ids v',i∈ids v∨¬ap m i:=by
 have hn:¬ap m m.next:=λq=>ad6 _ q
 have new:∀{a b c d:Nat},∀i∈ids (.slc m.next a b c d),i∈ids v∨¬ap m i:=by
  intro a b c d i hi
  rcases aa1.mp hi with rfl|hi
  ·exact Or.inr hn
  ·exact adD hi (by simp)
 have key:∀(k:Nat) (nw:List NV),ia e bytes m v k nw= .mem v' m'->∀i∈ids v',i∈ids v∨¬ap m i:=by
  intro k nw h
  cases v with
  |nils=>
   cases k with
   |zero=>cases h
   |succ k=>
    obtain⟨-,h⟩:=aY (show cond (room (k+1) bytes) (m.new (.cells true nw) λid h=>NR.mem (.slc id 0 (k+1) e (k+1)) h) .fail=_ from h) (by simp)
    rw[NH.new_eq] at h;cases h;exact new
  |slc id off len e' kc=>
   cases k with
   |zero=>
    obtain⟨-,h⟩:=aY (show cond (Nat.beq e' e) (NR.val (.slc id off len e' kc)) .fail=_ from h) (by simp)
    cases h
   |succ k=>
    obtain⟨-,h⟩:=aY (show cond (Nat.beq e' e) (eA m id λc=>aG (Nat.add len (k+1)) λn=>cond (Nat.ble n kc)
     (aS (dx nw (Nat.add off (Nat.mul len e)) c) λc=>m.set id (.cells true c) λh=>NR.mem (.slc id off n e kc) h)
     (aS (dN off c) λc=>aS (jt (Nat.mul len e) c) λold=>cond (room n bytes)
      (iM old nw λl=>m.set id .dead λh=>h.new (.cells true l) λid h=>NR.mem (.slc id 0 n e n) h) .fail)) .fail=_ from h) (by simp)
    obtain⟨c,-,h⟩:=fg h (by simp)
    rw[aj] at h
    cases hb:Nat.ble (Nat.add len (k+1)) kc with
    |true=>
     rw[hb] at h
     obtain⟨c',-,h⟩:=aR h (by simp)
     rw[NH.set_eq] at h
     cases h
     exact λi hi=>Or.inl hi
    |false=>
     rw[hb] at h
     obtain⟨c',-,h⟩:=aR h (by simp)
     obtain⟨c'',-,h⟩:=aR h (by simp)
     obtain⟨-,h⟩:=aY h (by simp)
     rw[eP,NH.set_eq,NH.new_eq] at h
     cases h
     exact new
  |_=>cases h
 unfold GP at h
 cases x with
 |nils=>exact key 0 [] h
 |slc id off len esz kc=>
  obtain⟨-,h⟩:=aY (show cond (Nat.beq esz e) (cz m id (λc=>aS (fC c off (Nat.mul len e)) λl=>ia e bytes m v len l)) .fail=_ from h) (by simp)
  unfold cz at h
  split at h
  ·obtain⟨l,-,h⟩:=aR h (by simp)
   exact key _ _ h
  ·cases h
 |_=>cases h
theorem aQ.app2 {B m:NH} {v:NV} {e:Nat} {C:List (List NV)} {x:D4} {w:Bool} {cs:List NV} {kc bytes:Nat} (hv:aQ B m v e C) (hx:m.get x=some (.cells w cs)) (hox:ap m x) (hl:cs.length=e) (hB:∀id,ap B id->ap m id)
 (hr:(C.length+1)*bytes<=1099511627776) (hr':C.length+1<=1099511627776):∃v' m',GP e bytes m v (.slc x 0 1 e kc)= .mem v' m'/\aQ B m' v' e (C++ [cs])/\Chg (ids v) m m'/\∀i∈ids v',i∈ids v∨¬ap m i:=by
 obtain⟨v',m',h1,h2,h3⟩:=hv.app1 (bytes:=bytes) (kc:=kc) hx hox hl hB hr hr'
 exact⟨v',m',h1,h2,h3,OU h1⟩
section
variable {P:PE} {S:cE} {dst:D4} {L:List (D4×NV)} {t:Tm} {dfs:List Dfr} {ctx:Option NV} {l:List NOper} {K:Dyn->Prop} {B m:NH} {v:NV} {e:Nat} {C:List (List NV)} {x:D4} {w:Bool} {cs:List NV} {kc bytes:Nat}
theorem gh (hv:aQ B m v e C) (hx:m.get x=some (.cells w cs)) (hox:ap m x) (hl:cs.length=e) (hB:∀id,ap B id->ap m id)
 (hr:(C.length+1)*bytes<=1099511627776) (hr':C.length+1<=1099511627776) (h:∀v' m',aQ B m' v' e (C++ [cs])->Chg (ids v) m m'->(∀i∈ids v',i∈ids v∨¬ap m i)->wO P S l ⟨puts ((dst,v')::L) t,dfs,ctx,m'⟩ K):
 HC P S (some dst) (puts L t) dfs ctx m (GP e bytes m v (.slc x 0 1 e kc)) l K:=by
 obtain⟨v',m',h1,h2,h3,h4⟩:=hv.app2 (bytes:=bytes) (kc:=kc) hx hox hl hB hr hr'
 rw[h1]
 exact h v' m' h2 h3 h4
theorem zP {bb:Bool} (hv:aQ B m v e C) (hx:m.get x=some (.cells w cs)) (hox:ap m x) (hl:cs.length=e) (hB:∀id,ap B id->ap m id)
 (hr:(C.length+1)*bytes<=1099511627776) (hr':C.length+1<=1099511627776) (h:∀v' m',aQ B m' v' e (C++ [cs])->Chg (ids v) m m'->(∀i∈ids v',i∈ids v∨¬ap m i)->K ⟨puts ((dst,v')::L) t,dfs,ctx,hp [] 0 m'⟩):
 XN bb P S (some dst) (puts L t) dfs ctx m (GP e bytes m v (.slc x 0 1 e kc)) K:=by
 obtain⟨v',m',h1,h2,h3,h4⟩:=hv.app2 (bytes:=bytes) (kc:=kc) hx hox hl hB hr hr'
 rw[h1,ML]
 have:=h v' m' h2 h3 h4
 rwa [aa] at this
end
section
variable {P:Program} {S:cE} {f:Nat} {args:List NV} {m:NH} {K:NV->NH->Prop}
variable {E:NV->NH->Prop}
theorem WF.use {Φ:NV->NH->Prop} (h:∃v m',pE P S f args m v m'/\Φ v m') (hK:∀v m',Φ v m'->K v m'):WF ⟨P,E⟩ S f args m K:=by
 obtain⟨v,m',h1,h2⟩:=h
 rw[h1.wf'];exact hK v m' h2
theorem WF.use1 {v:NV} {Φ:NH->Prop} (h:∃m',pE P S f args m v m'/\Φ m') (hK:∀m',Φ m'->K v m'):WF ⟨P,E⟩ S f args m K:=by
 obtain⟨m',h1,h2⟩:=h
 rw[h1.wf'];exact hK m' h2
theorem WF.use1H {v:NV} {Φ:NH->Prop} (h:∃m',pE P S f args m v m'/\Φ m') (hK:∀m',Φ m'->K v (hp [] 0 m')):WF ⟨P,E⟩ S f args m K:=by
 obtain⟨m',h1,h2⟩:=h
 rw[h1.wf];exact hK m' h2
end
section
variable {P:PE} {S:cE} {r:Option D4} {a b:NC} {d:Dyn} {Q:Out->Dyn->Prop}
theorem K0 (Φ:Dyn->Prop) (h1:∀R:Dyn->Prop,(∀d',Φ d'->R d')->wp P S r a d (ld R Q)) (h2:∀d',Φ d'->wp P S r b d' Q):wp P S r (.seq a b) d Q:=h1 _ h2
end
section
variable {P:Program} {S:cE} {q:D4} {args:List NV} {m:NH} {K:NV->NH->Prop}
theorem WY.use1 {v:NV} {Φ:NH->Prop} (h:∃m',mH P S q args m v m'/\Φ m') (hK:∀m',Φ m'->K v m'):WY P S q args m K:=by
 obtain⟨m',h1,h2⟩:=h
 rw[h1.wy,aa];exact hK m' h2
end
section
variable {P:Program} {S:cE} {f:Nat} {q:D4} {args:List NV} {m:NH}
theorem WF.ex1 {v:NV} {Φ:NH->Prop} (h:∀K:NV->NH->Prop,(∀m',Φ m'->K v m')->WF P S f args m K):∃m',pE P S f args m v m'/\Φ m':=by
 obtain⟨w,m',h1,rfl,h2⟩:=WF.ret (h (λw m'=>w=v/\Φ m') λm' h=>⟨rfl,h⟩)
 exact⟨m',h1,h2⟩
theorem WY.ex1 {v:NV} {Φ:NH->Prop} (h:∀K:NV->NH->Prop,(∀m',Φ m'->K v m')->WY P S q args m K):∃m',mH P S q args m v m'/\Φ m':=by
 obtain⟨w,m',h1,rfl,h2⟩:=WY.ret (h (λw m'=>w=v/\Φ m') λm' h=>⟨rfl,h⟩)
 exact⟨m',h1,h2⟩
end
open Go Go.RowKit
def tP (P:Program):List Field->Nat->Nat->Bool
 | [],o,n=>o==n
 |f::fs,o,n=>(f.offset==o)&&tP P fs (o+P.cellsOf f.type) n
def kY (P:Program) (T:List TypeId) (t:TypeId):Bool:=match P.underlying t with
 |some .bool|some (.int _)|some .string=>true
 |some (.slice e)=>T.contains e&&decide (0<P.cellsOf e)
 |some (.struct fs)=>fs.toList.all (λf=>T.contains f.type)&&tP P fs.toList 0 (P.cellsOf t)
 |_=>false
def yI (P:Program) (T:List TypeId):Bool:=T.all (kY P T)
mutual
inductive Ty (P:Program) (m:NH):TypeId->List NV->Prop
 |bool {t:TypeId} (ht:P.underlying t=some .bool) (b:Bool):Ty P m t [.bool b]
 |int {t:TypeId} {k:IntKind} (ht:P.underlying t=some (.int k)) (n:Int) (h:(Lit.int k n).wf=true):Ty P m t [.int k (.lit n)]
 |str {t:TypeId} (ht:P.underlying t=some .string) (l:List Nat) (h:∀b∈l,b<256) (hl:l.length<=maxLen):Ty P m t [.str l]
 |slc {t e:TypeId} (ht:P.underlying t=some (.slice e)) (v:NV) (C:List (List NV)) (hS:Sl m v (P.cellsOf e) C) (hl:C.length<=maxLen) (h:∀c∈C,Ty P m e c):Ty P m t [v]
 |struct {t:TypeId} {fs:Array Field} (ht:P.underlying t=some (.struct fs)) (l:List NV) (h:TyL P m (fs.toList.map (·.type)) l):Ty P m t l
inductive TyL (P:Program) (m:NH):List TypeId->List NV->Prop
 |nil:TyL P m [] []
 |cons {t:TypeId} {ts:List TypeId} (a b:List NV) (h:Ty P m t a) (hl:TyL P m ts b):TyL P m (t::ts) (a++b)
end
mutual
theorem Ty.grew {P:Program} {m m':NH} (hC:Chg [] m m'):∀{t:TypeId} {l:List NV},Ty P m t l->Ty P m' t l
 |_,_,.bool ht b=> .bool ht b
 |_,_,.int ht n h=> .int ht n h
 |_,_,.str ht l h hl=> .str ht l h hl
 |_,_,.slc ht v C hS hl h=> .slc ht v C (hS.grew hC) hl (λc hc=>(h c hc).grew hC)
 |_,_,.struct ht l h=> .struct ht l (TyL.grew hC h)
theorem TyL.grew {P:Program} {m m':NH} (hC:Chg [] m m'):∀{ts:List TypeId} {l:List NV},TyL P m ts l->TyL P m' ts l
 |_,_,.nil=> .nil
 |_,_,.cons a b h hl=> .cons a b (h.grew hC) (TyL.grew hC hl)
end
section
def Ro (P:Program) (W:World) (ι:aZ) (m:NH):Prop:=Rel P ι W.heap.size m W/\∀i p,ι i=some p->¬Live (m.get i)
def ext (ι:aZ) (i:D4) (p:Pl):aZ:=λj=>if j.toNat=i.toNat then some p else ι j
theorem Ro.addE {P:Program} {W:World} {ι:aZ} {m:NH} (h:Ro P W ι m) {b o:Nat} {c:List NV} {cur:Array Value} {T:TypeId} {fz:Nat×Nat} (hb:W.heap[b]? =some (.cells cur T fz)) (hn:o+c.length<=cur.size)
 (hc:∀i v,c[i]? =some v->∃v',cur[o+i]? =some v'/\VR ι v v'/\v'.oneCell'=true):
 ∃ι',Ro P W ι' (m.add (.cells false c))/\ι.le ι'/\Chg [] m (m.add (.cells false c))/\ι' m.next=some ⟨b,o,cur.size⟩/\(m.add (.cells false c)).get m.next=some (.cells false c)/\ap (m.add (.cells false c)) m.next:=by
 obtain⟨hR,hL⟩:=h
 have hold:∀i p,ι i=some p->ap m i:=λi p hi=>by
  obtain⟨x,hx,_⟩:=hR.obj i p hi
  exact hR.fresh i x hx
 have hext:∀i p,ι i=some p->ext ι m.next ⟨b,o,cur.size⟩ i=some p:=λi p hi=>by
  unfold ext;rw[adE (Nat.ne_of_lt (hold i p hi))];exact hi
 have hle:ι.le (ext ι m.next ⟨b,o,cur.size⟩):=hext
 have hinv:∀i p,ext ι m.next ⟨b,o,cur.size⟩ i=some p->(i=m.next/\p=⟨b,o,cur.size⟩)∨(ι i=some p/\i≠m.next):=λi p hi=>by
  unfold ext at hi
  by_cases e:i.toNat=m.next.toNat
  ·rw[adF e] at hi;injection hi with hi;exact Or.inl ⟨D4.toNat_inj e,hi.symm⟩
  ·rw[adE e] at hi;exact Or.inr ⟨hi,λq=>e (by rw[q])⟩
 have hnl:∀i p,ext ι m.next ⟨b,o,cur.size⟩ i=some p->¬Live ((m.add (.cells false c)).get i):=λi p hi=>by
  rcases hinv i p hi with⟨rfl,_⟩|⟨hi,hne⟩
  ·rw[NH.get_add_same];exact λq=>q.2 c rfl
  ·rw[NH.get_add_ne _ _ hne];exact hL i p hi
 refine⟨ext ι m.next ⟨b,o,cur.size⟩,⟨⟨?_, ?_, ?_, ?_, ?_,hR.gl.mono hle⟩,hnl⟩,hle,Chg.add m _,by unfold ext;rw[adF rfl],NH.get_add_same m _,iA m _⟩
 ·intro i p hi
  rcases hinv i p hi with⟨rfl,rfl⟩|⟨hi,hne⟩
  ·refine⟨.cells false c,NH.get_add_same m _, ?_⟩
   show ∃(cur':Array Value) (T:TypeId) (fz:Nat×Nat),W.heap[b]? =some (.cells cur' T fz)/\(false=true->fz=(0,0))/\cur'.size=cur.size/\o+c.length<=cur.size/\∀i v,c[i]? =some v->∃v',cur'[o+i]? =some v'/\VR (ext ι m.next ⟨b,o,cur.size⟩) v v'/\v'.oneCell'=true
   refine⟨cur,T,fz,hb,λq=>Bool.noConfusion q,rfl,hn,λi v hv=> ?_⟩
   obtain⟨v',h1,h2,h3⟩:=hc i v hv
   exact⟨v',h1,h2.mono hle,h3⟩
  ·obtain⟨x,h1,h2⟩:=hR.obj i p hi
   exact⟨x,(NH.get_add_ne m _ hne).trans h1,h2.mono hle rfl⟩
 ·intro i j p q hi hj hne hl _
  exact adD hl (hnl i p hi)
 ·intro i p hi hl;exact adD hl (hnl i p hi)
 ·intro i p hi
  rcases hinv i p hi with⟨rfl,rfl⟩|⟨hi,_⟩
  ·exact (Array.getElem?_eq_some_iff.mp hb).1
  ·exact hR.lt i p hi
 ·intro i x hx
  by_cases e:i=m.next
  ·subst e;exact iA m _
  ·rw[NH.get_add_ne _ _ e] at hx
   exact (Chg.add m (.cells false c)).old (hR.fresh i x hx)
theorem Ro.add {P:Program} {W:World} {ι:aZ} {m:NH} (h:Ro P W ι m) {b o:Nat} {c:List NV} {cur:Array Value} {T:TypeId} {fz:Nat×Nat} (hb:W.heap[b]? =some (.cells cur T fz)) (hn:o+c.length<=cur.size)
 (hc:∀i v,c[i]? =some v->∃v',cur[o+i]? =some v'/\VR ι v v'/\v'.oneCell'=true):
 ∃ι' m',Ro P W ι' m'/\ι.le ι'/\Chg [] m m'/\ι' m.next=some ⟨b,o,cur.size⟩/\m'.get m.next=some (.cells false c)/\ap m' m.next:=by
 obtain⟨ι',h⟩:=h.addE hb hn hc
 exact⟨ι',_,h⟩
theorem Ro.nil (P:Program) (W:World) (hw:NG<=W.heap.size):Ro P W ι0 G0:=⟨aaJ P W hw,λi p h=>by rw[mD h];exact eO⟩
theorem PT (a:Addr) (j:Nat):(a.add j).block=a.block:=by unfold Addr.add;split<;>rfl
theorem VI (a:Addr) (j:Nat):(a.add j).off=a.off+j:=by
 unfold Addr.add;split
 ·rename_i h;subst h;rfl
 ·rfl
theorem Gg (a:Addr) (m n:Nat):(a.add m).add n=a.add (m+n):=by
 unfold Addr.add
 by_cases h:n=0
 ·subst h;simp
 ·by_cases h':m=0
  ·subst h';simp
  ·simp[h,h'];omega
theorem qd {w:World} {a:Addr} {v:Value} (h:w.cell? a=some v):∃cur T fz,w.heap[a.block]? =some (.cells cur T fz)/\cur[a.off]? =some v:=by
 unfold World.cell? at h
 split at h
 ·rename_i cur T fz hb
  refine⟨cur,T,fz,hb, ?_⟩
  split at h
  ·cases h
  ·exact h
 ·cases h
theorem VRL.append {ι:aZ} {a:List NV} {a':List Value} {b:List NV} {b':List Value} (h:VRL ι a a') (k:VRL ι b b'):VRL ι (a++b) (a'++b'):=by
 induction a generalizing a' with
 |nil=>cases h;exact k
 |cons v l ih=>cases h with
  |cons _ v' _ l' h hl=>exact .cons _ _ _ _ h (ih hl)
def Cs (W:World) (ι:aZ) (a:Addr) (l:List NV):Prop:=∀(j:Nat) (v:NV),l[j]? =some v->∃v',W.cell? (a.add j)=some v'/\VR ι v v'/\v'.oneCell'=true
theorem Cs.mono {W:World} {ι ι':aZ} (hι:ι.le ι') {a:Addr} {l:List NV} (h:Cs W ι a l):Cs W ι' a l:=λj v hv=>let ⟨v',h1,h2,h3⟩:=h j v hv;⟨v',h1,h2.mono hι,h3⟩
theorem Tk {P:Program} {W:World} {T:List TypeId} (hT:yI P T=true) (hne:∃(b:Nat) (cur:Array Value) (T:TypeId) (fz:Nat×Nat),W.heap[b]? =some (.cells cur T fz)) {H:Type} {enc:TypeId×Value->H}:∀(n:Nat) (t:TypeId),t∈T->∀(cs:List Value) (x:DataW H×List MemPlace),DataW.trod enc P W 0 (λ_=>true) true n t cs=some x->
 ∀(ι:aZ) (m:NH),Ro P W ι m->∃ι' m' l,Ro P W ι' m'/\ι.le ι'/\Chg [] m m'/\VRL ι' l cs/\(∀v∈cs,v.oneCell'=true)/\Ty P m' t l:=by
 intro n
 induction n with
 |zero=>intro t _ cs x h;simp[DataW.trod] at h
 |succ n ih=>
  intro t ht cs x h ι m hR
  have hok:kY P T t=true:=ae8.mp hT t ht
  unfold kY at hok
  split at hok
  ·rename_i hu
   obtain⟨b,rfl,_⟩:=DataW.trod_bool hu h
   exact⟨ι,m, [.bool b],hR,aZ.le_refl ι,Chg.refl m,.cons _ _ _ _ (.bool b) .nil,by simp[Value.oneCell'],.bool hu b⟩
  ·rename_i k hu
   obtain⟨z,rfl,_,hw⟩:=DataW.trod_int hu h
   exact⟨ι,m, [.int k (.lit z)],hR,aZ.le_refl ι,Chg.refl m,.cons _ _ _ _ (.int k z) .nil,by simp[Value.oneCell'],.int hu z hw⟩
  ·rename_i hu
   obtain⟨s,rfl,_,hs⟩:=DataW.trod_string hu h
   refine⟨ι,m, [.str (s.data.toList.map UInt8.toNat)],hR,aZ.le_refl ι,Chg.refl m,.cons _ _ _ _ (.str _ s rfl) .nil,by simp[Value.oneCell'],.str hu _ ?_ ?_⟩
   ·intro b hb
    obtain⟨c,_,rfl⟩:=ab3.mp hb
    exact c.toNat_lt
   ·rw[aa0];exact hs
  ·rename_i e hu
   rw[ab6,decide_eq_true_eq] at hok
   obtain⟨he,hce⟩:=hok
   have he:e∈T:=by simpa using he
   rcases DataW.trod_slice hu h with⟨rfl,_⟩|⟨a,len,cap,elems,rest,n',hn',rfl,_,_,hlc,hcm,hel,hE,hS,_⟩
   ·exact⟨ι,m, [.nils],hR,aZ.le_refl ι,Chg.refl m,.cons _ _ _ _ .nils .nil,by simp[Value.oneCell'],.slc hu .nils [] Sl.nil (by simp) (by simp)⟩
   ·have hn':n'=n:=by omega
    subst hn'
    obtain⟨hrl,hS⟩:=hS rfl
    have go:∀k,k<=len->∃(ι':aZ) (m':NH) (C:List (List NV)),Ro P W ι' m'/\ι.le ι'/\Chg [] m m'/\C.length=k/\(∀c∈C,Ty P m' e c/\c.length=P.cellsOf e)/\Cs W ι' a C.flatten:=by
     intro k
     induction k with
     |zero=>intro _;exact⟨ι,m, [],hR,aZ.le_refl ι,Chg.refl m,rfl,by simp,λj v hv=>by simp at hv⟩
     |succ k ihk=>
      intro hk
      obtain⟨ι1,m1,C,hR1,hle1,hC1,hlen,hall,hcs⟩:=ihk (by omega)
      have hEk:=hE k (by omega)
      rw[List.getElem?_eq_getElem (by omega)] at hEk
      obtain⟨cs',h1,h2⟩:=Option.bind_eq_some_iff.mp hEk
      obtain⟨_,hl',hcell⟩:=World.cells?_some h1
      obtain⟨ι2,m2,l,hR2,hle2,hC2,hvr,hone,hty⟩:=ih e he cs' _ h2 ι1 m1 hR1
      have hll:=hvr.length
      have hfl:C.flatten.length=k*P.cellsOf e:=by rw[eS λc hc=>(hall c hc).2,hlen]
      refine⟨ι2,m2,C++ [l],hR2,hle1.trans hle2,hC1.trans hC2 (λ_ h _=>h),by simp[hlen], ?_, ?_⟩
      ·intro c hc
       rcases aa6.mp hc with hc|hc
       ·exact⟨(hall c hc).1.grew hC2,(hall c hc).2⟩
       ·simp at hc;subst hc;exact⟨hty,by omega⟩
      ·intro j v hv
       rw[List.flatten_append] at hv
       by_cases hj:j<C.flatten.length
       ·rw[List.getElem?_append_left hj] at hv
        exact (hcs.mono hle2) j v hv
       ·rw[List.getElem?_append_right (by omega)] at hv
        simp only[af3,List.flatten_nil,ac7] at hv
        obtain⟨v',h3,h4⟩:=hvr.get hv
        have hjl:j - C.flatten.length<cs'.length:=by
         rcases ac2 (j - C.flatten.length) cs'.length with q|q
         ·exact q
         ·rw[List.getElem?_eq_none q] at h3;cases h3
        refine⟨v', ?_,h4,hone v' (List.mem_of_getElem? h3)⟩
        have:=hcell (j - C.flatten.length) (by omega)
        rw[h3] at this
        rw[←this]
        rw[Gg]
        congr 2
        omega
    obtain⟨ι1,m1,C,hR1,hle1,hC1,hlen,hall,hcs⟩:=go len (aa2 _)
    have hfl:C.flatten.length=len*P.cellsOf e:=by rw[eS λc hc=>(hall c hc).2,hlen]
    have hend:∀(b o:Nat) (cur:Array Value) (T':TypeId) (fz:Nat×Nat) (c:List NV),W.heap[b]? =some (.cells cur T' fz)->o+c.length<=cur.size->(∀i v,c[i]? =some v->∃v',cur[o+i]? =some v'/\VR ι1 v v'/\v'.oneCell'=true)->
     (0<cap->a=⟨b,o,none⟩/\o+cap*P.cellsOf e<=cur.size)->c=C.flatten->
     ∃ι' m' l,Ro P W ι' m'/\ι.le ι'/\Chg [] m m'/\VRL ι' l [.slice (some a) len cap]/\(∀v∈ [Value.slice (some a) len cap],v.oneCell'=true)/\Ty P m' t l:=by
     rintro b o cur T' fz c hb hoc hcc ha rfl
     obtain⟨ι2,m2,hR2,hle2,hC2,hi2,hg2,ho2⟩:=hR1.add hb hoc hcc
     refine⟨ι2,m2, [.slc m1.next 0 len (P.cellsOf e) 0],hR2,hle1.trans hle2,hC1.trans hC2 (λ_ h _=>h),.cons _ _ _ _ (.slc _ _ _ _ _ _ a cap hi2 hlc (Nat.zero_le _) hcm hce λhc=> ?_) .nil,by simp[Value.oneCell'], ?_⟩
     ·obtain⟨h1,h2⟩:=ha hc
      exact⟨h1,by simpa using h2⟩
     ·refine .slc hu _ C ⟨λc hc=>(hall c hc).2,Or.inr ⟨m1.next,0,0,false,_,by rw[hlen],hg2,ho2, ?_, ?_⟩⟩ (by rw[hlen];omega) λc hc=>((hall c hc).1).grew hC2
      ·rw[hfl,hlen];omega
      ·rw[List.drop_zero,hlen,←hfl,ae1]
    by_cases hcap:cap=0
    ·have hl0:len=0:=by omega
     have hC0:C= []:=List.length_eq_zero_iff.mp (by omega)
     subst hC0
     obtain⟨b,cur,T',fz,hb⟩:=hne
     exact hend b 0 cur T' fz [] hb (by simp) (λi v hv=>by simp at hv) (λh=>by omega) rfl
    ·
     have cells:∀i,i<cap->∃cs',W.cells? 0 (a.add (i*P.cellsOf e)) (P.cellsOf e)=some cs':=by
      intro i hi
      rcases ac2 i len with h|h
      ·have:=hE i h
       rw[List.getElem?_eq_getElem (by omega)] at this
       obtain⟨cs',h1,_⟩:=Option.bind_eq_some_iff.mp this
       exact⟨cs',h1⟩
      ·have:=hS (i - len) (by omega)
       rw[List.getElem?_eq_getElem (by omega),show len+(i - len)=i by omega] at this
       obtain⟨cs',h1,_⟩:=Option.bind_eq_some_iff.mp this
       exact⟨cs',h1⟩
     obtain⟨cs0,h0⟩:=cells 0 (by omega)
     obtain⟨_,hl0,hc0⟩:=World.cells?_some h0
     have hv0:=hc0 0 hce
     rw[List.getElem?_eq_getElem (by omega)] at hv0
     have hsp:=World.cell?_spot hv0
     obtain⟨cur,T',fz,hb,_⟩:=qd hv0
     have hab:(a.add (0*P.cellsOf e)).add 0=a:=by rw[Gg];simp[Addr.add]
     rw[hab] at hsp hb
     have hin:∀j v',W.cell? (a.add j)=some v'->cur[a.off+j]? =some v':=by
      intro j v' h
      obtain⟨cur',T2,fz2,hb',hc'⟩:=qd h
      rw[PT] at hb'
      rw[VI] at hc'
      rw[hb] at hb'
      injection hb' with hb'
      injection hb' with hb' _ _
      subst hb'
      exact hc'
     obtain⟨cs1,h1⟩:=cells (cap - 1) (by omega)
     obtain⟨_,hl1,hc1⟩:=World.cells?_some h1
     have hv1:=hc1 (P.cellsOf e - 1) (by omega)
     rw[List.getElem?_eq_getElem (by omega)] at hv1
     have hmul:(cap - 1)*P.cellsOf e+P.cellsOf e=cap*P.cellsOf e:=by
      rw[←Nat.succ_mul];congr 1;omega
     have hlast:cur[a.off+(cap*P.cellsOf e - 1)]? =some cs1[P.cellsOf e - 1]:=by
      refine hin (cap*P.cellsOf e - 1) _ ?_
      rw[←hv1]
      rw[Gg]
      congr 2
      omega
     have hsz:a.off+(cap*P.cellsOf e - 1)<cur.size:=(Array.getElem?_eq_some_iff.mp hlast).1
     have hcapp:0<cap*P.cellsOf e:=Nat.mul_pos (by omega) hce
     have hlm:len*P.cellsOf e<=cap*P.cellsOf e:=ae7 _ hlc
     refine hend a.block a.off cur T' fz C.flatten hb (by omega) (λi v hv=> ?_) (λ_=>⟨by cases a;simp at hsp;simp[hsp],by omega⟩) rfl
     obtain⟨v',q1,q2,q3⟩:=hcs i v hv
     exact⟨v',hin i v' q1,q2,q3⟩
  ·rename_i fs hu
   rw[ab6] at hok
   obtain⟨hft,htl⟩:=hok
   obtain⟨xs,n',hn',_,hcl,hxl,hF⟩:=DataW.trod_struct hu h
   have hn':n'=n:=by omega
   subst hn'
   have go:∀(fl:List Field) (o:Nat) (ys:List (DataW H×List MemPlace)),(∀f∈fl,f.type∈T)->tP P fl o (P.cellsOf t)=true->o<=cs.length->(∀(i:Nat) (f:Field),fl[i]? =some f->∃y,DataW.trod enc P W 0 (λ_=>true) true n' f.type ((cs.drop f.offset).take (P.cellsOf f.type))=some y)->
    ∀(ι:aZ) (m:NH),Ro P W ι m->∃ι' m' l,Ro P W ι' m'/\ι.le ι'/\Chg [] m m'/\VRL ι' l (cs.drop o)/\(∀v∈cs.drop o,v.oneCell'=true)/\TyL P m' (fl.map (·.type)) l:=by
    intro fl
    induction fl with
    |nil=>
     intro o ys _ htl _ _ ι m hR
     have ho:o=cs.length:=by rw[hcl];exact of_decide_eq_true htl
     subst ho
     rw[List.drop_length]
     exact⟨ι,m, [],hR,aZ.le_refl ι,Chg.refl m,.nil,by simp,.nil⟩
    |cons f fl ihf=>
     intro o ys hfT htl ho hF ι m hR
     have htl:((f.offset==o)&&tP P fl (o+P.cellsOf f.type) (P.cellsOf t))=true:=htl
     rw[ab6,beq_iff_eq] at htl
     obtain⟨rfl,htl⟩:=htl
     obtain⟨y,hy⟩:=hF 0 f rfl
     obtain⟨ι1,m1,l1,hR1,hle1,hC1,hvr1,hone1,hty1⟩:=ih f.type (hfT f (ab2 ..)) _ y hy ι m hR
     have hle:f.offset+P.cellsOf f.type<=cs.length:=by
      have:∀(fl:List Field) (o:Nat),tP P fl o (P.cellsOf t)=true->o<=P.cellsOf t:=by
       intro fl
       induction fl with
       |nil=>intro o h;exact Nat.le_of_eq (of_decide_eq_true h)
       |cons g fl ih=>
        intro o h
        have h:((g.offset==o)&&tP P fl (o+P.cellsOf g.type) (P.cellsOf t))=true:=h
        rw[ab6] at h
        have:=ih _ h.2
        omega
      have:=this fl _ htl
      omega
     obtain⟨ι2,m2,l2,hR2,hle2,hC2,hvr2,hone2,hty2⟩:=ihf (f.offset+P.cellsOf f.type) [] (λg hg=>hfT g (aa8 _ hg)) htl hle (λi g hg=>hF (i+1) g (by simpa using hg)) ι1 m1 hR1
     have hsplit:cs.drop f.offset=(cs.drop f.offset).take (P.cellsOf f.type)++cs.drop (f.offset+P.cellsOf f.type):=by
      rw[←List.drop_drop,af7]
     refine⟨ι2,m2,l1++l2,hR2,hle1.trans hle2,hC1.trans hC2 (λ_ h _=>h), ?_, ?_,.cons l1 l2 (hty1.grew hC2) hty2⟩
     ·rw[hsplit];exact VRL.append (hvr1.mono hle2) hvr2
     ·rw[hsplit];intro v hv
      rcases aa6.mp hv with hv|hv
      ·exact hone1 v hv
      ·exact hone2 v hv
   obtain⟨ι',m',l,h1,h2,h3,h4,h5,h6⟩:=go fs.toList 0 [] (λf hf=>by simpa using ae8.mp hft f hf) htl (Nat.zero_le _) (λi f hf=>by
    have hi:i<xs.length:=by
     rcases ac2 i fs.toList.length with q|q
     ·rw[hxl];simpa using q
     ·rw[List.getElem?_eq_none q] at hf;cases hf
    exact⟨xs[i],by rw[hF i f (by simpa using hf),List.getElem?_eq_getElem hi]⟩) ι m hR
   rw[List.drop_zero] at h4 h5
   exact⟨ι',m',l,h1,h2,h3,h4,h5,.struct hu l h6⟩
  ·cases hok
inductive TyA (P:Program) (m:NH):List TypeId->List NV->Prop
 |nil:TyA P m [] []
 |one {t:TypeId} {ts:List TypeId} {l:List NV} (x:NV) (hn:∀fs,P.underlying t≠some (.struct fs)) (h:Ty P m t [x]) (hl:TyA P m ts l):TyA P m (t::ts) (x::l)
 |agg {t:TypeId} {ts:List TypeId} {l:List NV} {fs:Array Field} (c:List NV) (ht:P.underlying t=some (.struct fs)) (h:Ty P m t c) (hl:TyA P m ts l):TyA P m (t::ts) (.agg c::l)
theorem TyA.grew {P:Program} {m m':NH} (hC:Chg [] m m'):∀{ts:List TypeId} {l:List NV},TyA P m ts l->TyA P m' ts l
 |_,_,.nil=> .nil
 |_,_,.one x hn h hl=> .one x hn (h.grew hC) (TyA.grew hC hl)
 |_,_,.agg c ht h hl=> .agg c ht (h.grew hC) (TyA.grew hC hl)
theorem IV {P:Program} {W:World} {base:Nat} {t:TypeId} {v:Value} (hok:∀fs,P.underlying t≠some (.struct fs)) (h:Value.okWide P W .any base t v) (ht:kY P [] t=true∨∃e,P.underlying t=some (.slice e)):v.cells=#[v]:=by
 unfold Value.okWide at h
 rcases ht with ht|⟨e,hu⟩
 ·unfold kY at ht
  split at ht
  ·rename_i hu;rw[hu] at h;unfold Cell.okWide Cell.ok at h;rw[hu] at h;dsimp only at h;cases v<;>first|rfl|exact h.elim
  ·rename_i hu;rw[hu] at h;unfold Cell.okWide Cell.ok at h;rw[hu] at h;dsimp only at h;cases v<;>first|rfl|exact h.elim
  ·rename_i hu;rw[hu] at h;unfold Cell.okWide Cell.ok at h;rw[hu] at h;dsimp only at h;cases v<;>first|rfl|exact h.elim
  ·rename_i e hu;rw[hu] at h;unfold Cell.okWide Cell.ok at h;rw[hu] at h;dsimp only at h;cases v<;>first|rfl|exact h.elim
  ·rename_i fs hu;exact adD hu (hok fs)
  ·cases ht
 ·rw[hu] at h;unfold Cell.okWide Cell.ok at h;rw[hu] at h;dsimp only at h;cases v<;>first|rfl|exact h.elim
theorem JG {P:Program} {W:World} {T:List TypeId} (hT:yI P T=true) (hne:∃(b:Nat) (cur:Array Value) (T:TypeId) (fz:Nat×Nat),W.heap[b]? =some (.cells cur T fz)) {base:Nat} {H:Type} {enc:TypeId×Value->H}:
 ∀(ts:List TypeId) (args:List Value) (ds:List (DataW H)) (ps:List MemPlace),(∀t∈ts,t∈T)->DataW.TrodAll enc P W 0 (λ_=>true) true ts args ds ps->(∀(j:Nat) t v,ts[j]? =some t->args[j]? =some v->Value.okWide P W .any base t v)->
 ∀(ι:aZ) (m:NH),Ro P W ι m->∃ι' m' l,Ro P W ι' m'/\ι.le ι'/\Chg [] m m'/\VRL ι' l args/\TyA P m' ts l:=by
 intro ts
 induction ts with
 |nil=>
  intro args ds ps _ h _ ι m hR
  cases args with
  |nil=>exact⟨ι,m, [],hR,aZ.le_refl ι,Chg.refl m,.nil,.nil⟩
  |cons=>cases h
 |cons t ts ih=>
  intro args ds ps hts h hval ι m hR
  cases args with
  |nil=>cases h
  |cons v args=>
   cases ds with
   |nil=>cases h
   |cons d ds=>
    obtain⟨p,q,⟨n,hd⟩,hr,_⟩:=h
    obtain⟨ι1,m1,c,hR1,hle1,hC1,hv1,hone1,hty1⟩:=Tk hT hne n t (hts t (ab2 ..)) _ _ hd ι m hR
    obtain⟨ι2,m2,l,hR2,hle2,hC2,hv2,hty2⟩:=ih args ds q (λt ht=>hts t (aa8 _ ht)) hr (λj t v h1 h2=>hval (j+1) t v (by simpa using h1) (by simpa using h2)) ι1 m1 hR1
    have hv:=hval 0 t v rfl rfl
    have hok:kY P T t=true:=ae8.mp hT t (hts t (ab2 ..))
    have hC:=hC1.trans hC2 (λ_ h _=>h)
    by_cases hst:∃fs,P.underlying t=some (.struct fs)
    ·obtain⟨fs,hu⟩:=hst
     have hv':=hv
     unfold Value.okWide at hv'
     rw[hu] at hv'
     obtain⟨cs,rfl,_,_⟩:=hv'
     refine⟨ι2,m2,.agg c::l,hR2,hle1.trans hle2,hC,.cons _ _ _ _ ?_ hv2,.agg c hu (hty1.grew hC2) hty2⟩
     have:=VR.agg (ι:=ι2) c cs.toList (hv1.mono hle2) hone1
     simpa using this
    ·have hn:∀fs,P.underlying t≠some (.struct fs):=λfs q=>hst ⟨fs,q⟩
     have hc:v.cells=#[v]:=by
      refine IV hn hv ?_
      unfold kY at hok ⊢
      split at hok
      ·rename_i hu;exact Or.inl rfl
      ·rename_i hu;exact Or.inl rfl
      ·rename_i hu;exact Or.inl rfl
      ·rename_i e hu;exact Or.inr ⟨e,hu⟩
      ·rename_i fs hu;exact adD hu (hn fs)
      ·cases hok
     rw[hc] at hv1
     cases hv1 with
     |cons x _ xl _ hx hxl=>
      cases hxl
      exact⟨ι2,m2,x::l,hR2,hle1.trans hle2,hC,.cons _ _ _ _ (hx.mono hle2) hv2,.one x hn (hty1.grew hC2) hty2⟩
theorem Gu {P:Program} (hM:P.follows .mixedOrders=true) (hP:P.check= .ok ()) {S:cE} (hS:dh P S) {T:List TypeId} (hT:yI P T=true) {f:Nat} {nf:NFun} (hf:af P f=some (.code nf)) (hs:∀l,S f l=λ_=>none) {ts:List TypeId} (hts:∀t∈ts,t∈T)
 {m0:NH} (law:∀(m:NH) (l:List NV),Chg [] m0 m->TyA P m ts l->∃m',pE P S f l m (.bool true) m') {W:World} {ι0:aZ} (h0:Ro P W ι0 m0) (hne:∃(b:Nat) (cur:Array Value) (T:TypeId) (fz:Nat×Nat),W.heap[b]? =some (.cells cur T fz)) {base:Nat} {H:Type} {enc:TypeId×Value->H} {args:List Value} {ds:List (DataW H)} {ps:List MemPlace}
 (h:DataW.TrodAll enc P W 0 (λ_=>true) true ts args ds ps) (hval:∀(j:Nat) t v,ts[j]? =some t->args[j]? =some v->Value.okWide P W .any base t v):
 Calls P f args.toArray W λe W'=>e= .returned (.bool true)/\Below W.heap.size W W':=by
 obtain⟨ι,m,l,hR,_,hC,hv,hty⟩:=JG hT hne ts args ds ps hts h hval ι0 m0 h0
 obtain⟨m',c,hc⟩:=law m l hC hty
 refine (Po hM hP hS hf (hs l) hc hR.1 hR.2 hv).mono ?_
 rintro e W' ⟨⟨ι',v',rfl,h1,_,_⟩,hb⟩
 cases h1
 exact⟨rfl,hb⟩
theorem H5 {P:Program} (hM:P.follows .mixedOrders=true) (hP:P.check= .ok ()) {S:cE} (hS:dh P S) {T:List TypeId} (hT:yI P T=true) {f:Nat} {nf:NFun} (hf:af P f=some (.code nf)) (hs:∀l,S f l=λ_=>none) {ts:List TypeId} (hts:∀t∈ts,t∈T)
 (law:∀(m:NH) (l:List NV),TyA P m ts l->∃m',pE P S f l m (.bool true) m') {W:World} (hw:NG<=W.heap.size) (hne:∃(b:Nat) (cur:Array Value) (T:TypeId) (fz:Nat×Nat),W.heap[b]? =some (.cells cur T fz)) {base:Nat} {H:Type} {enc:TypeId×Value->H} {args:List Value} {ds:List (DataW H)} {ps:List MemPlace}
 (h:DataW.TrodAll enc P W 0 (λ_=>true) true ts args ds ps) (hval:∀(j:Nat) t v,ts[j]? =some t->args[j]? =some v->Value.okWide P W .any base t v):
 Calls P f args.toArray W λe W'=>e= .returned (.bool true)/\Below W.heap.size W W':=
 Gu hM hP hS hT hf hs hts (λm l _ hl=>law m l hl) (Ro.nil P W hw) hne h hval
theorem trodAll_stays {P:Program} (hl:laidOutB P=true) {W W':World} (hb:Below W.heap.size W W') {H:Type} {enc:TypeId×Value->H} {sp:Nat->Bool}:∀(ts:List TypeId) (args:List Value) (ds:List (DataW H)) (ps:List MemPlace),(∀t∈ts,P.readableRec t=true/\t<P.types.size)->
 DataW.TrodAll enc P W 0 (λ_=>true) true ts args ds ps->(∀p∈ps,p.block<W.heap.size)->(∀p∈ps,sp p.block=true)->DataW.TrodAll enc P W' 0 sp true ts args ds ps:=by
 intro ts
 induction ts with
 |nil=>
  intro args ds ps _ h _ _
  cases args with
  |nil=>cases ds with
   |nil=>exact h
   |cons=>cases h
  |cons=>cases h
 |cons t ts ih=>
  intro args ds ps hr h hlt hsp
  cases args with
  |nil=>cases h
  |cons v args=>
   cases ds with
   |nil=>cases h
   |cons d ds=>
    obtain⟨p,q,hd,hq,rfl⟩:=h
    exact⟨p,q,WideElems.Trod_stays hl (hr t (ab2 ..)).1 (hr t (ab2 ..)).2 hd (λx hx=>hb.same (hlt x (List.mem_append_left _ hx))) (λx hx=>hsp x (List.mem_append_left _ hx)),
     ih args ds q (λt ht=>hr t (aa8 _ ht)) hq (λx hx=>hlt x (List.mem_append_right _ hx)) (λx hx=>hsp x (List.mem_append_right _ hx)),rfl⟩
theorem Ty.inv_bool {P:Program} {m:NH} {t:TypeId} {l:List NV} (hu:P.underlying t=some .bool) (h:Ty P m t l):∃b,l= [.bool b]:=by
 cases h with
 |bool _ b=>exact⟨b,rfl⟩
 |int ht=>rw[hu] at ht;cases ht
 |str ht=>rw[hu] at ht;cases ht
 |slc ht=>rw[hu] at ht;cases ht
 |struct ht=>rw[hu] at ht;cases ht
theorem Ty.inv_int {P:Program} {m:NH} {t:TypeId} {k:IntKind} {l:List NV} (hu:P.underlying t=some (.int k)) (h:Ty P m t l):∃n,l= [.int k (.lit n)]/\(Lit.int k n).wf=true:=by
 cases h with
 |bool ht=>rw[hu] at ht;cases ht
 |int ht n h=>rw[hu] at ht;injection ht with ht;injection ht with ht;subst ht;exact⟨n,rfl,h⟩
 |str ht=>rw[hu] at ht;cases ht
 |slc ht=>rw[hu] at ht;cases ht
 |struct ht=>rw[hu] at ht;cases ht
theorem TyL.inv {P:Program} {m:NH} {t:TypeId} {ts:List TypeId} {l:List NV} (h:TyL P m (t::ts) l):∃a b,l=a++b/\Ty P m t a/\TyL P m ts b:=by
 cases h with
 |cons a b h hl=>exact⟨a,b,rfl,h,hl⟩
theorem TyL.inv0 {P:Program} {m:NH} {l:List NV} (h:TyL P m [] l):l= []:=by cases h;rfl
theorem TyA.inv1 {P:Program} {m:NH} {t:TypeId} {ts:List TypeId} {l:List NV} (hn:∀fs,P.underlying t≠some (.struct fs)) (h:TyA P m (t::ts) l):∃x r,l=x::r/\Ty P m t [x]/\TyA P m ts r:=by
 cases h with
 |one x _ h hl=>exact⟨x,_,rfl,h,hl⟩
 |agg c ht=>exact adD ht (hn _)
theorem TyA.inv0 {P:Program} {m:NH} {l:List NV} (h:TyA P m [] l):l= []:=by cases h;rfl
theorem pE.kept {P:Program} {S:cE} {f:Nat} {args:List NV} {v:NV} (h:S f args=λh=>some (v,h)) (m:NH):pE P S f args m v m:=by
 refine⟨none,by simp,0, ?_⟩
 unfold bZ;rw[h]
theorem trodAll_len {P:Program} {W:World} {base:Nat} {sp:Nat->Bool} {hd:Bool} {H:Type} {enc:TypeId×Value->H}:∀{ts:List TypeId} {vs:List Value} {ds:List (DataW H)} {ps:List MemPlace},DataW.TrodAll enc P W base sp hd ts vs ds ps->ds.length=ts.length:=by
 intro ts
 induction ts with
 |nil=>intro vs ds ps h;cases vs<;>cases ds<;>first|rfl|cases h
 |cons t ts ih=>
  intro vs ds ps h
  cases vs with
  |nil=>cases h
  |cons v vs=>cases ds with
   |nil=>cases h
   |cons d ds=>obtain⟨_,_,_,h,_⟩:=h;simp[ih h]
def isC (o:Option Obj):Bool:=match o with|some (.cells _ _ _)=>true|_=>false
theorem BG {P:Program} (h:isC ((begin P (λ_ _=>0) default).world.heap[P.globals.size]?)=true) {W:World} (hs:W.ShapedOpen P):∃(b:Nat) (cur:Array Value) (T:TypeId) (fz:Nat×Nat),W.heap[b]? =some (.cells cur T fz):=by
 cases ho:(begin P (λ_ _=>0) default).world.heap[P.globals.size]? with
 |none=>rw[ho] at h;cases h
 |some x=>
  rw[ho] at h
  have hlt:P.globals.size<(begin P (λ_ _=>0) default).world.heap.size:=(Array.getElem?_eq_some_iff.mp ho).1
  obtain⟨o,o0,h1,h2,h3⟩:=hs.2 _ (aa2 _) hlt
  rw[Nat.sub_self,adE (by decide)] at h3
  rw[ho] at h2
  injection h2 with h2
  subst h2 h3
  cases o with
  |cells cur T fz=>exact⟨_,cur,T,fz,h1⟩
  |_=>cases h
end
open Go Go.RowKit
attribute [go_sem] UP Yt Xz YB Yl UK TJ YR Xc VH Sm Vr Xf TF Tc Xp Tw abV YJ Zn
attribute [go_sem] acB Yu YA Xe Zv Z4 WJ Ve TG SK Yz ZJ Sg TD acK acj K1 acD abB
attribute [go_sem] XJ ML TB QJ Nl WI RL UO Yi Se VG XE Qv TM J4 Rj Om OA K5 Rk
attribute [go_sem] SM Ta KO To Q0 RO Bool.and_true Bool.true_and Yw Yy ST Rh W0 acA abR acb abH abn
attribute [go_sem] abu abN abt acu aca abv abS abQ acI acF acW acC acf acg abM abJ abz acG abD acr
attribute [go_sem] abW abp acv Vs XF aan abE Y9 YE Zq Z8 Z3 Mi JS IG Vw Wj ZA Tn Sr
attribute [go_sem] Wf KH Ma ace Yh YI Q3 Rz abw aaM I3 Pk Qt XD Vi S5 ZG aav W2
attribute [go_sem] YF XL ZZ XA So aaw Uq Ys YN VS Wt Wm VY ul GI
attribute [go_sem] YV Fh Pn Zk TN Nn JW U2 aap Ww W4 Ye YO Zw WM YS XM YY acw YZ
attribute [go_sem] Yc ZM Ym aal Zg aaj aae Wv aam Yo HF aay ZH Xm Xx abC aau aaO
attribute [go_sem] QD Ru TA Zd Y4 abG aat aby Yj acP Z6 Vd Nat.sub_self Nat.sub_zero YG ZD Wl aaQ aao
attribute [go_sem] EP RG Z2 YW aab YD acO RH RB Wr Yb WL Z9 WP Wq WG Lj
attribute [go_sem] acE Hd US V8 bt aO VT fy JQ OB lT rL aC bf Wh ZT Yg Yp
attribute [go_sem] V3 Yv aak aar YT cn Bool.not_true Bool.not_false UI Xs ac8 Int.toNat_zero Int.toNat_one
attribute [go_sem] List.getElem?_cons_zero List.getElem?_cons_succ ab4 af0 List.set_cons_zero List.set_cons_succ List.take_zero List.drop_zero List.take_succ_cons List.drop_succ_cons List.take_nil List.drop_nil ae4 ad8 ac7 ad1 Nat.zero_mul Nat.testBit cond_true cond_false
attribute [go_sem] NT.get_leaf Wo Qw aB beq_self_eq_true decide_true decide_false if_true if_false ite_true ite_false eq_self true_and and_true true_implies
def aA:=And.intro (@List.length_set.{0})<|And.intro (@List.length_cons.{0})<|And.intro (@List.length_nil.{0})<|And.intro (@List.length_append.{0})<|And.intro (@List.length_map.{0,0})<|@List.length_replicate.{0}
namespace C
abbrev t (a:D4):NOpd:= .tmp a
abbrev k (z:Int):NOpd:= .const (.int .i64 (.lit z))
abbrev ku (z:Int):NOpd:= .const (.int .u64 (.lit z))
abbrev kt:NOpd:= .const (.bool true)
abbrev kf:NOpd:= .const (.bool false)
abbrev kn:NOpd:= .const .nils
abbrev F (n:Nat):NOpd:= .const (.fn n [])
abbrev o (d:D4) (p:NOp) (i:Nat):NOper:=⟨some d,p,none,0,i⟩
abbrev O (d:D4) (p:NOp) (q i:Nat):NOper:=⟨some d,p,none,q,i⟩
abbrev G (d:D4) (p:NOp) (g:D4) (b:Bool) (i:Nat):NOper:=⟨some d,p,some (g,b),0,i⟩
abbrev m (d s:D4) (i:Nat):NOper:=⟨some d,.move (.tmp s),none,0,i⟩
abbrev f (n:Nat) (d s:D4) (i:Nat):NOper:=⟨some d,.fieldAddr n (.tmp s),none,0,i⟩
abbrev l (d s:D4) (i:Nat):NOper:=⟨some d,.load1 (.tmp s),none,0,i⟩
abbrev L (d s:D4) (i:Nat):NOper:=⟨some d,.lenSlc (.tmp s),none,0,i⟩
abbrev n (d s:D4) (i:Nat):NOper:=⟨some d,.nilCheck (.tmp s),none,0,i⟩
abbrev x (d s:D4) (j i:Nat):NOper:=⟨some d,.extract (.tmp s) j,none,0,i⟩
abbrev q (p:NOp) (i:Nat):NOper:=⟨none,p,none,0,i⟩
abbrev b (d:D4) (p:BinOp) (a c:NOpd) (i:Nat):NOper:=⟨some d,.bin .num p a c,none,0,i⟩
end C
open Go Go.RowKit
section
variable {t:Tm} {m:NH}
end
open Go Go.RowKit
section
variable {t:Tm} {m:NH}
theorem YU {ty:Nat} {x:NOpd}:ai (.mkIfc ty x) t m=oN (ρ t x) λv=> .val (.ifc ty v):=by
 show wV t x _=_
 rw[bC]
def ZU (v:NV):NR:=match v with| .ifc ty v=> .pan (.ifc ty v)|_=> .fail
theorem aaH {x:NOpd}:ai (.panic x) t m=oN (ρ t x) ZU:=by
 show wV t x _=_
 rw[bC];rfl
theorem Zi {ty:Nat} {v:NV}:ZU (.ifc ty v)= .pan (.ifc ty v):=_root_.id rfl
def Zs (ty:Nat) (z v:NV):NR:=match v with
 | .ifc u v=>cond (Nat.beq u ty) (.val (.tup [v,.bool true])) (.val (.tup [z,.bool false]))
 | .nili=> .val (.tup [z,.bool false])
 |_=> .fail
theorem ZP {ty:Nat} {z:NV} {x:NOpd}:ai (.typeAssert ty z x) t m=oN (ρ t x) (Zs ty z):=by
 show wV t x _=_
 rw[bC];rfl
theorem YM {ty:Nat} {z v:NV}:Zs ty z (.ifc ty v)= .val (.tup [v,.bool true]):=by
 show cond (Nat.beq ty ty) _ _=_
 rw[Nat.beq_refl];rfl
end
attribute [go_sem] YU aaH Zi ZP YM
open Go
def NC.parts (c:NC):List NC:=NC.rec (motive:=λ_=>List NC) [] (λ_=> []) (λ_=> []) (λ_ _ x y=>x++y) (λ_ _ _ x y=>x++y) (λ_ _ x=>x) (λa x=>a::x) (λ_ _ a b x y=>a::x++b::y) (λ_=> []) [] c
def part (o:Option NFn) (i:Nat):NC:=match o with|some (.code c)=>(c.body.parts[i]?).getD .skip|_=> .skip
theorem bg (n:Nat):Int.ofNat (no_index (@OfNat.ofNat Nat n (instOfNatNat n)))=@OfNat.ofNat Int n instOfNat:=rfl
theorem aE:Int.negSucc 0=-1:=rfl
theorem aD:Int.negSucc 3=-4:=rfl
open Go Go.RowKit
def Vj (f:Nat) (F:List NV->NH->Option (NV×NH)) (S:cE):cE:=λg=>cond (Nat.beq g f) F (S g)
section
def nU (P:Program) (f:Nat) (F:List NV->NH->Option (NV×NH)):Prop:=
 ∀(ι:aZ) (B:Nat) (h:NH) (w:World) (args:List NV) (args':List Value) (v:NV) (h':NH),F args h=some (v,h')->Rel P ι B h w->B<=w.heap.size->VRL ι args args'->
  tD P ι B h w ((callFunc f args'.toArray).run P w) (.val v none h')
theorem QU {P:Program} {S:cE} {f:Nat} {F:List NV->NH->Option (NV×NH)} (hS:dh P S) (hF:nU P f F):dh P (Vj f F S):=by
 intro ι B h w g args args' v h' hg hR hB hl
 unfold Vj at hg
 cases hb:Nat.beq g f with
 |true=>
  rw[hb] at hg
  obtain rfl:=adK hb
  exact hF ι B h w args args' v h' hg hR hB hl
 |false=>
  rw[hb] at hg
  exact hS ι B h w g args args' v h' hg hR hB hl
theorem nU.of {P:Program} {f:Nat} {F:List NV->NH->Option (NV×NH)} (hen:∀args w,(callFunc f args).run P w= .ok (.enter f args) w)
 (H:∀(ι:aZ) (B:Nat) (h:NH) (w:World) (args:List NV) (args':List Value) (v:NV) (h':NH),F args h=some (v,h')->Rel P ι B h w->B<=w.heap.size->VRL ι args args'->
  Calls P f args'.toArray w λe w'=>∃ι' v',e= .returned v'/\VR ι' v v'/\Rel P ι' B h' w'/\B<=w'.heap.size/\Grow ι h w ι' h' w'):nU P f F:=by
 intro ι B h w args args' v h' hF hR hB hl c0 cs
 obtain⟨e,w',fr,⟨ι',v',he,hv,hR',hB',hG⟩,hcomes,hfn,hleave⟩:=H ι B h w args args' v h' hF hR hB hl (c0::cs)
 subst he
 exact⟨ι',v',w',hv,hR',hB',hG,.inr ⟨w,.inl ⟨f,args'.toArray,hen _ w,Steps.trans hcomes (.one (step_leave_returned hleave))⟩⟩⟩
theorem Rel.below {P:Program} {ι:aZ} {B:Nat} {h:NH} {w w':World} (hR:Rel P ι B h w) (hb:Below w.heap.size w w'):Rel P ι B h w':=
 ⟨λi p hi=>by
  obtain⟨o,o1,o2⟩:=hR.obj i p hi
  exact⟨o,o1,o2.mono (aZ.le_refl _) (hb.block _ (hR.lt i p hi))⟩,hR.inj,hR.base,λi p hi=>ad2 (hR.lt i p hi) hb.size,hR.fresh,hR.gl⟩
theorem Grow.below {ι:aZ} {h:NH} {w w':World} (hb:Below w.heap.size w w'):Grow ι h w ι h w':=
 ⟨aZ.le_refl _,aa2 _,λ_ _ x=> .inl x,λi p x y=> .inr ⟨i,p,x,y,rfl⟩,λ_ _ _=>rfl,hb.size,hb.os,hb.tape,hb.output,λb hb' _=>hb.block b hb'⟩
theorem nU.plain {P:Program} {f:Nat} {F:List NV->NH->Option (NV×NH)} (hen:∀args w,(callFunc f args).run P w= .ok (.enter f args) w)
 (H:∀(ι:aZ) (B:Nat) (h:NH) (w:World) (args:List NV) (args':List Value) (v:NV) (h':NH),F args h=some (v,h')->Rel P ι B h w->VRL ι args args'->
  h'=h/\Calls P f args'.toArray w λe w'=>(∃v',e= .returned v'/\VR ι v v')/\Below w.heap.size w w'):nU P f F:=
 nU.of hen λι B h w args args' v h' hF hR hB hl=>by
  obtain⟨rfl,hc⟩:=H ι B h w args args' v h' hF hR hl
  refine hc.mono ?_
  rintro e w' ⟨⟨v',he,hv⟩,hb⟩
  exact⟨ι,v',he,hv,hR.below hb,ab9 hB hb.size,.below hb⟩
theorem Rel.madeC {P:Program} {ι:aZ} {B:Nat} {h:NH} {w w':World} (hR:Rel P ι B h w) (hb:Below w.heap.size w w') {N:Nat} (hN:w.heap.size<=N) {cur:Array Value} {T:TypeId} {fz:Nat×Nat} (hc:w'.heap[N]? =some (.cells cur T fz)) {o:Nat} {c:List NV} (hlen:o+c.length<=cur.size) (hcs:∀(ι2:aZ) (i:Nat) (v:NV),c[i]? =some v->∃v',cur[o+i]? =some v'/\VR ι2 v v'/\v'.oneCell'=true):
 ∃ι',ι' h.next=some ⟨N,o,cur.size⟩/\Rel P ι' B (h.add (.cells false c)) w'/\Grow ι h w ι' (h.add (.cells false c)) w':=by
 have hR':=hR.below hb
 have hn:ι h.next=none:=by
  cases hi:ι h.next with
  |none=>rfl
  |some q=>obtain⟨o,h1,_⟩:=hR.obj _ _ hi;exact adD (hR.fresh _ _ h1) (ad6 _)
 have hle:ι.le (ext ι h.next ⟨N,o,cur.size⟩):=λi p hi=>by
  unfold ext
  by_cases e:i.toNat=h.next.toNat
  ·rw[D4.toNat_inj e,hn] at hi;cases hi
  ·rw[adE e];exact hi
 have hinv:∀i p,ext ι h.next ⟨N,o,cur.size⟩ i=some p->(i=h.next/\p=⟨N,o,cur.size⟩)∨(ι i=some p/\i≠h.next):=λi p hi=>by
  unfold ext at hi
  by_cases e:i.toNat=h.next.toNat
  ·rw[adF e] at hi;injection hi with hi;exact Or.inl ⟨D4.toNat_inj e,hi.symm⟩
  ·rw[adE e] at hi;exact Or.inr ⟨hi,λq=>e (by rw[q])⟩
 have hget:∀i,i≠h.next->(h.add (.cells false c)).get i=h.get i:=λi e=>NH.get_add_ne _ _ e
 have hnl:¬Live ((h.add (.cells false c)).get h.next):=by rw[NH.get_add_same];exact λq=>q.2 c rfl
 refine⟨ext ι h.next ⟨N,o,cur.size⟩,by unfold ext;rw[adF rfl],⟨λi p hi=> ?_,λi j p q hi hj hij d1 d2=> ?_,λi p hi d=> ?_,λi p hi=> ?_,λi o ho=> ?_,hR.gl.mono hle⟩,hle, ?_,λi p hi=> ?_,λi p hi d=> ?_,λi hi hl=> ?_,hb.size,hb.os,hb.tape,hb.output,λb hb' _=>hb.block b hb'⟩
 ·rcases hinv i p hi with⟨rfl,rfl⟩|⟨hi,hne⟩
  ·refine⟨_,NH.get_add_same _ _,cur,T,fz,hc,λq=>Bool.noConfusion q,rfl,hlen,λi v hv=>hcs _ i v hv⟩
  ·obtain⟨o,o1,o2⟩:=hR'.obj i p hi
   exact⟨o,by rw[hget i hne];exact o1,o2.mono hle rfl⟩
 ·rcases hinv i p hi with⟨rfl,rfl⟩|⟨hi,hne⟩
  ·exact adD d1 hnl
  ·rw[hget i hne] at d1
   rcases hinv j q hj with⟨rfl,rfl⟩|⟨hj,hne'⟩
   ·have:=hR.lt i p hi;show p.b≠N;omega
   ·rw[hget j hne'] at d2
    exact hR.inj i j p q hi hj hij d1 d2
 ·rcases hinv i p hi with⟨rfl,rfl⟩|⟨hi,hne⟩
  ·exact adD d hnl
  ·rw[hget i hne] at d;exact hR.base i p hi d
 ·rcases hinv i p hi with⟨rfl,rfl⟩|⟨hi,_⟩
  ·exact (Array.getElem?_eq_some_iff.1 hc).1
  ·exact hR'.lt i p hi
 ·show i.toNat<h.next.nxt.toNat
  rw[D4.toNat_nxt]
  by_cases e:i=h.next
  ·subst e;omega
  ·rw[hget i e] at ho;have:=hR.fresh i o ho;omega
 ·show h.next.toNat<=h.next.nxt.toNat
  rw[D4.toNat_nxt];omega
 ·rcases hinv i p hi with⟨rfl,_⟩|⟨hi,_⟩
  ·exact .inr (aa2 _)
  ·exact .inl hi
 ·rcases hinv i p hi with⟨rfl,_⟩|⟨hi,hne⟩
  ·exact adD d hnl
  ·rw[hget i hne] at d;exact .inr ⟨i,p,hi,d,rfl⟩
 ·exact hget i λe=>by rw[e] at hl;exact ad6 _ hl
def VE (args c:List NV) (off len e kc:Nat) (l:List NV) (h:NH):Option (NV×NH):=cond (eV (aU 3) l args) (h.new (.cells false c) λid h=>some (.slc id off len e kc,h)) none
def rY (cf:Nat->Option NFn) (S:cE) (n f:Nat) (args c:List NV) (off len e kc:Nat):Bool:=
 match uJ cf S n f args with
 | .val (.slc id o l k m) _ h=>cond (fZ args) (cond (fZ c) (cond (Nat.beq o off) (cond (Nat.beq l len) (cond (Nat.beq k e) (cond (Nat.beq m kc) (match h.get id with
  |some (.cells true d)=>eV (aU 3) d c
  |_=>false) false) false) false) false) false) false
 |_=>false
theorem gK.row {P:Program} {cf:Nat->Option NFn} (hc:gK P cf) {S:cE} {n f:Nat} {args c:List NV} {off len e kc:Nat} (hr:rY cf S n f args c off len e kc=true):rY P S n f args c off len e kc=true:=by
 have e:cf=af P:=funext hc
 rw[e] at hr;exact hr
theorem I8:∀{l:List NV} {i:Nat} {v:NV},fZ l=true->l[i]? =some v->eE v=true:=by
 intro l
 induction l with
 |nil=>intro i v _ h;simp at h
 |cons a l ih=>
  intro i v h hi
  simp only[fZ,ab6] at h
  cases i with
  |zero=>simp at hi;subst hi;exact h.1
  |succ i=>exact ih h.2 (by simpa using hi)
theorem U1 {P:Program} {S:cE} (hM:P.follows .mixedOrders=true) (hP:P.check= .ok ()) (hS:dh P S) {n f:Nat} {args c:List NV} {off len e kc:Nat} (hr:rY P S n f args c off len e kc=true)
 (hen:∀args w,(callFunc f args).run P w= .ok (.enter f args) w):nU P f (VE args c off len e kc):=
 nU.of hen λι B h w l args' v h' hF hR hB hl=>by
  unfold VE at hF
  obtain⟨h1,hF'⟩:=aP hF
  clear hF
  rw[NH.new_eq] at hF'
  have:=iD (iC 3) h1
  subst this
  injection hF' with hF
  injection hF with e1 e2
  subst e1;subst e2
  unfold rY at hr
  split at hr
  ·rename_i id o l' k m x h0 hrun
   obtain⟨p1,hr1⟩:=cG hr
   obtain⟨p2,hr2⟩:=cG hr1
   obtain⟨q1,hr3⟩:=cG hr2
   obtain⟨q2,hr4⟩:=cG hr3
   obtain⟨q3,hr5⟩:=cG hr4
   obtain⟨q4,hr6⟩:=cG hr5
   clear hr hr1 hr2 hr3 hr4 hr5
   obtain rfl:=adK q1
   obtain rfl:=adK q2
   obtain rfl:=adK q3
   obtain rfl:=adK q4
   split at hr6
   ·rename_i d hd
    have:=iD (iC 3) hr6
    subst this
    refine (H3 hM hP hS hrun (hl.plain p1) w hR.room).mono ?_
    rintro e w' ⟨⟨ι1,v',rfl,hv,hR1⟩,hb⟩
    cases hv with
    |slc _ _ _ _ _ p a cap z1 z2 z3 z4 z5 z6=>
     have hlive:Live (h0.get id):=by rw[hd];simp
     have hbase:=hR1.base id p z1 hlive
     obtain⟨ob,o1,o2⟩:=hR1.obj id p z1
     rw[hd] at o1;cases o1
     obtain⟨cur,T,fz,k1,k2,k3,k4,k5⟩:=o2
     obtain⟨ι',r1,r2,r3⟩:=hR.madeC hb hbase k1 (by rw[k3];exact k4) (λι2 i u hi=>by
      obtain⟨u',a1,a2,a3⟩:=k5 i u hi
      exact⟨u',a1,a2.plain (I8 p2 hi),a3⟩)
     exact⟨ι',_,rfl,.slc _ _ _ _ _ _ _ _ r1 z2 z3 z4 z5 (by rw[←k3] at z6;exact z6),r2,ab9 hB hb.size,r3⟩
   ·cases hr6
  ·cases hr
end
end Nm
set_option maxRecDepth 100000
set_option maxHeartbeats 4000000
namespace Nm.C
open Nm Nm.D4
instance:Coe D4 NOpd:=⟨.tmp⟩
abbrev cd:=NC.cond
abbrev sk:=NC.skip
abbrev rt:=NC.ret
abbrev bk:=NC.block
abbrev ex:=NC.exit
abbrev z0:NV:=.int .i64 (.lit 0)
abbrev z1:NV:=.int .u64 (.lit 0)
abbrev A0:=e.a
abbrev A1:=e.a.a.a
abbrev A2:=e.a.c
abbrev A3:=e.b.b
abbrev A4:=e.f.c
abbrev A5:=e.f.f
abbrev A6:=e.b
abbrev A7:=e.b.a
abbrev A8:=e.c
abbrev A9:=e.c.a
abbrev Aa:=e.a.f
abbrev Ab:=e.f.a
abbrev Ac:=e.a.c.a
abbrev Ad:=e.f.b
abbrev Ae:=e.a.a
abbrev Af:=e.a.a.f
abbrev Ag:=e.c.b
abbrev Ah:=e.a.a.c
abbrev Ai:=e.b.a.c
abbrev Aj:=e.b.c
abbrev Ak:=e.b.f
abbrev Al:=e.c.c
abbrev Am:=e.c.f
abbrev An:=e.a.b.a
abbrev Ao:=e.a.b.c
abbrev Ap:=e.a.a.b
abbrev Aq:=e.a.b.b
abbrev Ar:=e.a.b
abbrev As:=e.b.b.b
abbrev At:=e.a.c.b
abbrev Au:=e.a.c.c
abbrev Av:=e.a.c.f
abbrev Aw:=e.a.f.a
abbrev Ax:=e.a.f.b
abbrev Ay:=e.a.f.c
abbrev Az:=e.a.f.f
abbrev B0:=e.b.a.a
abbrev B1:=e.a.b.f
abbrev B2:=e.b.a.b
abbrev B3:=e.b.a.f
abbrev B4:=e.b.b.f
abbrev B5:=e.b.c.b
abbrev B6:=e.b.b.a
abbrev B7:=e.b.b.c
abbrev B8:=e.b.c.a
abbrev B9:=e.b.c.c
abbrev Ba:=e.f.a.a
abbrev Bb:=e.b.c.f
abbrev Bc:=e.b.f.b
abbrev Bd:=e.b.f.f
abbrev Be:=e.b.f.a
abbrev Bf:=e.b.f.c
abbrev Bg:=e.c.a.a
abbrev Bh:=e.f.b.b
abbrev Bi:=e.c.a.b
abbrev Bj:=e.c.a.c
abbrev Bk:=e.c.b.b
abbrev Bl:=e.c.b.f
abbrev Bm:=e.c.c.f
abbrev Bn:=e.c.f.b
abbrev Bo:=e.c.f.f
abbrev Bp:=e.c.a.f
abbrev Bq:=e.c.b.a
abbrev Br:=e.c.b.c
abbrev Bs:=e.c.c.a
abbrev Bt:=e.c.c.b
abbrev Bu:=e.c.c.c
abbrev Bv:=e.c.f.a
abbrev Bw:=e.c.f.c
abbrev Bx:=e.f.a.b
abbrev By:=e.b.c.a.a
abbrev Bz:=e.b.c.f.c
abbrev C0:=e.b.f.f.a
abbrev C1:=e.a.a.a.a
abbrev C2:=e.a.a.a.b
abbrev C3:=e.a.a.a.c
abbrev C4:=e.a.a.a.f
abbrev C5:=e.a.a.b.a
abbrev C6:=e.a.a.b.b
abbrev C7:=e.a.a.b.c
abbrev C8:=e.a.a.b.f
end Nm.C
namespace FR
open Go Nm Go.Proofs
open Nm.D4 (e)
open Nm.NC (reg regD)
open Nm.C
def LI:NFun:=by
 refine (λ_=> ?c:af af8 6=some (.code ?c)->NFun) ?h
 case h=>conv=>{lhs;reduce;dsimp only[bg,aE,aD]}
def Kw:NC:=by
 refine (λ_=> ?c:part (some (.code LI)) 0= ?c->NC) ?h
 case h=>
  conv=>{lhs;whnf}
def nf6:NFun:=by
 refine (λ_=> ?c:LI= ?c->NFun) ?h
 case h=>
  have f0:=Kw.eq_1
  dsimp only at f0
  conv=>{lhs;delta LI;simp only[←f0]}
theorem EL:af af8 6=some (.code nf6):=by kernel_rfl
def Zf:NFun:=by
 refine (λ_=> ?c:af af8 35=some (.code ?c)->NFun) ?h
 case h=>conv=>{lhs;reduce;dsimp only[bg,aE,aD]}
theorem Rg:af af8 35=some (.code Zf):=by kernel_rfl
def Vv:NFun:=by
 refine (λ_=> ?c:af af8 36=some (.code ?c)->NFun) ?h
 case h=>conv=>{lhs;reduce;dsimp only[bg,aE,aD]}
theorem Hh:af af8 36=some (.code Vv):=by kernel_rfl
def FB:NFun:=by
 refine (λ_=> ?c:af af8 37=some (.code ?c)->NFun) ?h
 case h=>conv=>{lhs;reduce;dsimp only[bg,aE,aD]}
def G9:NC:=by
 refine (λ_=> ?c:part (some (.code FB)) 0= ?c->NC) ?h
 case h=>
  conv=>{lhs;whnf}
def UT:NFun:=by
 refine (λ_=> ?c:FB= ?c->NFun) ?h
 case h=>
  have f0:=G9.eq_1
  dsimp only at f0
  conv=>{lhs;delta FB;simp only[←f0]}
theorem HM:af af8 37=some (.code UT):=by kernel_rfl
def VV:NFun:=by
 refine (λ_=> ?c:af af8 38=some (.code ?c)->NFun) ?h
 case h=>conv=>{lhs;reduce;dsimp only[bg,aE,aD]}
theorem HZ:af af8 38=some (.code VV):=by kernel_rfl
def Yq:NFun:=by
 refine (λ_=> ?c:af af8 51=some (.code ?c)->NFun) ?h
 case h=>conv=>{lhs;reduce;dsimp only[bg,aE,aD]}
theorem S3:af af8 51=some (.code Yq):=by kernel_rfl
def WH:NFun:=by
 refine (λ_=> ?c:af af8 52=some (.code ?c)->NFun) ?h
 case h=>conv=>{lhs;reduce;dsimp only[bg,aE,aD]}
theorem Hp:af af8 52=some (.code WH):=by kernel_rfl
def Lk:NFun:=by
 refine (λ_=> ?c:af af8 74=some (.code ?c)->NFun) ?h
 case h=>conv=>{lhs;reduce;dsimp only[bg,aE,aD]}
theorem pH:af af8 74=some (.code Lk):=by kernel_rfl
def uH:NFun:=by
 refine (λ_=> ?c:af af8 75=some (.code ?c)->NFun) ?h
 case h=>conv=>{lhs;reduce;dsimp only[bg,aE,aD]}
def uu:NC:=by
 refine (λ_=> ?c:part (some (.code uH)) 0= ?c->NC) ?h
 case h=>
  conv=>{lhs;whnf}
def G5:NC:=by
 refine (λ_=> ?c:part (some (.code uH)) 1= ?c->NC) ?h
 case h=>
  have f0:=uu.eq_1
  dsimp only at f0
  conv=>{lhs;whnf;simp only[←f0]}
def WA:NFun:=by
 refine (λ_=> ?c:uH= ?c->NFun) ?h
 case h=>
  have f0:=uu.eq_1
  dsimp only at f0
  have f1:=G5.eq_1
  dsimp only at f1
  conv=>{lhs;delta uH;simp only[←f0,←f1]}
theorem GV:af af8 75=some (.code WA):=by kernel_rfl
def Fm:NFun:=by
 refine (λ_=> ?c:af af8 76=some (.code ?c)->NFun) ?h
 case h=>conv=>{lhs;reduce;dsimp only[bg,aE,aD]}
def GT:NC:=by
 refine (λ_=> ?c:part (some (.code Fm)) 0= ?c->NC) ?h
 case h=>
  conv=>{lhs;whnf}
def Xi:NFun:=by
 refine (λ_=> ?c:Fm= ?c->NFun) ?h
 case h=>
  have f0:=GT.eq_1
  dsimp only at f0
  conv=>{lhs;delta Fm;simp only[←f0]}
theorem HB:af af8 76=some (.code Xi):=by kernel_rfl
def sj:NFun:=by
 refine (λ_=> ?c:af af8 77=some (.code ?c)->NFun) ?h
 case h=>conv=>{lhs;reduce;dsimp only[bg,aE,aD]}
def mA:NC:=by
 refine (λ_=> ?c:part (some (.code sj)) 1= ?c->NC) ?h
 case h=>
  conv=>{lhs;whnf}
def pq:NC:=by
 refine (λ_=> ?c:part (some (.code sj)) 0= ?c->NC) ?h
 case h=>
  have f0:=mA.eq_1
  dsimp only at f0
  conv=>{lhs;whnf;simp only[←f0]}
def uT:NC:=by
 refine (λ_=> ?c:part (some (.code sj)) 2= ?c->NC) ?h
 case h=>
  have f0:=mA.eq_1
  dsimp only at f0
  have f1:=pq.eq_1
  dsimp only at f1
  conv=>{lhs;whnf;simp only[←f0,←f1]}
def UN:NFun:=by
 refine (λ_=> ?c:sj= ?c->NFun) ?h
 case h=>
  have f0:=mA.eq_1
  dsimp only at f0
  have f1:=pq.eq_1
  dsimp only at f1
  have f2:=uT.eq_1
  dsimp only at f2
  conv=>{lhs;delta sj;simp only[←f0,←f1,←f2]}
theorem Hm:af af8 77=some (.code UN):=by kernel_rfl
def GA:NFun:=by
 refine (λ_=> ?c:af af8 78=some (.code ?c)->NFun) ?h
 case h=>conv=>{lhs;reduce;dsimp only[bg,aE,aD]}
def Hc:NC:=by
 refine (λ_=> ?c:part (some (.code GA)) 0= ?c->NC) ?h
 case h=>
  conv=>{lhs;whnf}
def VA:NFun:=by
 refine (λ_=> ?c:GA= ?c->NFun) ?h
 case h=>
  have f0:=Hc.eq_1
  dsimp only at f0
  conv=>{lhs;delta GA;simp only[←f0]}
theorem He:af af8 78=some (.code VA):=by kernel_rfl
def FF:NFun:=by
 refine (λ_=> ?c:af af8 79=some (.code ?c)->NFun) ?h
 case h=>conv=>{lhs;reduce;dsimp only[bg,aE,aD]}
def Hy:NC:=by
 refine (λ_=> ?c:part (some (.code FF)) 0= ?c->NC) ?h
 case h=>
  conv=>{lhs;whnf}
def U5:NFun:=by
 refine (λ_=> ?c:FF= ?c->NFun) ?h
 case h=>
  have f0:=Hy.eq_1
  dsimp only at f0
  conv=>{lhs;delta FF;simp only[←f0]}
theorem Hi:af af8 79=some (.code U5):=by kernel_rfl
def FV:NFun:=by
 refine (λ_=> ?c:af af8 80=some (.code ?c)->NFun) ?h
 case h=>conv=>{lhs;reduce;dsimp only[bg,aE,aD]}
def HD:NC:=by
 refine (λ_=> ?c:part (some (.code FV)) 0= ?c->NC) ?h
 case h=>
  conv=>{lhs;whnf}
def V5:NFun:=by
 refine (λ_=> ?c:FV= ?c->NFun) ?h
 case h=>
  have f0:=HD.eq_1
  dsimp only at f0
  conv=>{lhs;delta FV;simp only[←f0]}
theorem Ha:af af8 80=some (.code V5):=by kernel_rfl
def u9:NFun:=by
 refine (λ_=> ?c:af af8 106=some (.code ?c)->NFun) ?h
 case h=>conv=>{lhs;reduce;dsimp only[bg,aE,aD]}
def AN:NC:=by
 refine (λ_=> ?c:part (some (.code u9)) 0= ?c->NC) ?h
 case h=>
  conv=>{lhs;whnf}
def MO:NFun:=by
 refine (λ_=> ?c:u9= ?c->NFun) ?h
 case h=>
  have f0:=AN.eq_1
  dsimp only at f0
  conv=>{lhs;delta u9;simp only[←f0]}
theorem yW:af af8 106=some (.code MO):=by kernel_rfl
def pi:NFun:=by
 refine (λ_=> ?c:af af8 125=some (.code ?c)->NFun) ?h
 case h=>conv=>{lhs;reduce;dsimp only[bg,aE,aD]}
def cw:NC:=by
 refine (λ_=> ?c:part (some (.code pi)) 0= ?c->NC) ?h
 case h=>
  conv=>{lhs;whnf}
def cI:NC:=by
 refine (λ_=> ?c:part (some (.code pi)) 1= ?c->NC) ?h
 case h=>
  have f0:=cw.eq_1
  dsimp only at f0
  conv=>{lhs;whnf;simp only[←f0]}
def LU:NFun:=by
 refine (λ_=> ?c:pi= ?c->NFun) ?h
 case h=>
  have f0:=cw.eq_1
  dsimp only at f0
  have f1:=cI.eq_1
  dsimp only at f1
  conv=>{lhs;delta pi;simp only[←f0,←f1]}
theorem Dv:af af8 125=some (.code LU):=by kernel_rfl
def tY:NFun:=by
 refine (λ_=> ?c:af af8 126=some (.code ?c)->NFun) ?h
 case h=>conv=>{lhs;reduce;dsimp only[bg,aE,aD]}
theorem rj:af af8 126=some (.code tY):=by kernel_rfl
def Qm:NFun:=by
 refine (λ_=> ?c:af af8 127=some (.code ?c)->NFun) ?h
 case h=>conv=>{lhs;reduce;dsimp only[bg,aE,aD]}
theorem AG:af af8 127=some (.code Qm):=by kernel_rfl
def tZ:NFun:=by
 refine (λ_=> ?c:af af8 128=some (.code ?c)->NFun) ?h
 case h=>conv=>{lhs;reduce;dsimp only[bg,aE,aD]}
def AH:NC:=by
 refine (λ_=> ?c:part (some (.code tZ)) 0= ?c->NC) ?h
 case h=>
  conv=>{lhs;whnf}
def Li:NFun:=by
 refine (λ_=> ?c:tZ= ?c->NFun) ?h
 case h=>
  have f0:=AH.eq_1
  dsimp only at f0
  conv=>{lhs;delta tZ;simp only[←f0]}
theorem yE:af af8 128=some (.code Li):=by kernel_rfl
def Og:NFun:=by
 refine (λ_=> ?c:af af8 129=some (.code ?c)->NFun) ?h
 case h=>conv=>{lhs;reduce;dsimp only[bg,aE,aD]}
theorem yj:af af8 129=some (.code Og):=by kernel_rfl
def ph:NFun:=by
 refine (λ_=> ?c:af af8 130=some (.code ?c)->NFun) ?h
 case h=>conv=>{lhs;reduce;dsimp only[bg,aE,aD]}
def dL:NC:=by
 refine (λ_=> ?c:part (some (.code ph)) 0= ?c->NC) ?h
 case h=>
  conv=>{lhs;whnf}
def eq:NC:=by
 refine (λ_=> ?c:part (some (.code ph)) 1= ?c->NC) ?h
 case h=>
  have f0:=dL.eq_1
  dsimp only at f0
  conv=>{lhs;whnf;simp only[←f0]}
def Kb:NFun:=by
 refine (λ_=> ?c:ph= ?c->NFun) ?h
 case h=>
  have f0:=dL.eq_1
  dsimp only at f0
  have f1:=eq.eq_1
  dsimp only at f1
  conv=>{lhs;delta ph;simp only[←f0,←f1]}
theorem xr:af af8 130=some (.code Kb):=by kernel_rfl
def Nw:NFun:=by
 refine (λ_=> ?c:af af8 131=some (.code ?c)->NFun) ?h
 case h=>conv=>{lhs;reduce;dsimp only[bg,aE,aD]}
theorem Eh:af af8 131=some (.code Nw):=by kernel_rfl
def vS:NFun:=by
 refine (λ_=> ?c:af af8 132=some (.code ?c)->NFun) ?h
 case h=>conv=>{lhs;reduce;dsimp only[bg,aE,aD]}
def zl:NC:=by
 refine (λ_=> ?c:part (some (.code vS)) 0= ?c->NC) ?h
 case h=>
  conv=>{lhs;whnf}
def NW:NFun:=by
 refine (λ_=> ?c:vS= ?c->NFun) ?h
 case h=>
  have f0:=zl.eq_1
  dsimp only at f0
  conv=>{lhs;delta vS;simp only[←f0]}
theorem Du:af af8 132=some (.code NW):=by kernel_rfl
def pm:NFun:=by
 refine (λ_=> ?c:af af8 133=some (.code ?c)->NFun) ?h
 case h=>conv=>{lhs;reduce;dsimp only[bg,aE,aD]}
def lF:NC:=by
 refine (λ_=> ?c:part (some (.code pm)) 1= ?c->NC) ?h
 case h=>
  conv=>{lhs;whnf}
def zw:NC:=by
 refine (λ_=> ?c:part (some (.code pm)) 0= ?c->NC) ?h
 case h=>
  have f0:=lF.eq_1
  dsimp only at f0
  conv=>{lhs;whnf;simp only[←f0]}
def JU:NFun:=by
 refine (λ_=> ?c:pm= ?c->NFun) ?h
 case h=>
  have f0:=lF.eq_1
  dsimp only at f0
  have f1:=zw.eq_1
  dsimp only at f1
  conv=>{lhs;delta pm;simp only[←f0,←f1]}
theorem AF:af af8 133=some (.code JU):=by kernel_rfl
def uj:NFun:=by
 refine (λ_=> ?c:af af8 134=some (.code ?c)->NFun) ?h
 case h=>conv=>{lhs;reduce;dsimp only[bg,aE,aD]}
def AT:NC:=by
 refine (λ_=> ?c:part (some (.code uj)) 0= ?c->NC) ?h
 case h=>
  conv=>{lhs;whnf}
def MP:NFun:=by
 refine (λ_=> ?c:uj= ?c->NFun) ?h
 case h=>
  have f0:=AT.eq_1
  dsimp only at f0
  conv=>{lhs;delta uj;simp only[←f0]}
theorem zK:af af8 134=some (.code MP):=by kernel_rfl
def Nk:NFun:=by
 refine (λ_=> ?c:af af8 135=some (.code ?c)->NFun) ?h
 case h=>conv=>{lhs;reduce;dsimp only[bg,aE,aD]}
theorem zD:af af8 135=some (.code Nk):=by kernel_rfl
def uc:NFun:=by
 refine (λ_=> ?c:af af8 136=some (.code ?c)->NFun) ?h
 case h=>conv=>{lhs;reduce;dsimp only[bg,aE,aD]}
def Ej:NC:=by
 refine (λ_=> ?c:part (some (.code uc)) 0= ?c->NC) ?h
 case h=>
  conv=>{lhs;whnf}
def Mw:NFun:=by
 refine (λ_=> ?c:uc= ?c->NFun) ?h
 case h=>
  have f0:=Ej.eq_1
  dsimp only at f0
  conv=>{lhs;delta uc;simp only[←f0]}
theorem CN:af af8 136=some (.code Mw):=by kernel_rfl
def MY:NFun:=⟨(reg [o e (.move kn) 0]).seq ((reg [o A3 (.call (F 241) [k 0]) 0,o Aj (.call (F 241) [k 5]) 1,o Ak (.call (F 241) [k 16]) 2,o A0 (.alloc [z0,z0] 258) 3,o A6 (.alloc [z0,z0] 258) 4,o A8 (.alloc [z0,z0] 258) 5,q (.store 2 A0 A3) 6,q (.store 2 A6 Aj) 7,q (.store 2 A8 Ak) 8]).seq ((reg [o A9 (.mkFn 242 [A0]) 0,m e.f A9 1]).seq ((reg [o Ag (.mkFn 243 [A0,A6,A8]) 0,m Ae Ag 1]).seq ((reg [o Ar (.move (F 244)) 0]).seq ((reg [o Al (.mkFn 245 [A0,A6]) 0,m A2 Al 1]).seq ((reg [o Am (.mkFn 246 [A0,A6]) 0,m Aa Am 1]).seq ((reg [o A7 (.move (F 247)) 0]).seq ((regD [m Ab e.f 0,m A4 e.f 2,m A1 Ae 4,m Ah Ae 6,m An Ae 8,m Ao Ae 10,o Ac (.loadN 2 A6) 12,o At (.loadN 2 A8) 13,O Au (.build [.int .u32 (.lit 0),z0,z0,z0,z0,z0,z0,z0,z0,z0,z0,z0,z0,.bool false,.bool false] [(0,1,.const (.int .u32 (.lit 3942645791))),(3,2,Ac),(5,2,At)]) 12288 14,o Av (.loadN 2 A0) 15,o Aw (.build [z0,z0] [(0,1,k 12),(1,1,k 4)]) 16,O Ax (.build [.int .u32 (.lit 0),z0,z0,z0,z0,z0,z0,z0,z0,z0,z0,z0,z0,.bool false,.bool false] [(0,1,.const (.int .u32 (.lit 2594113504))),(1,2,Av),(11,2,Aw),(14,1,.const (.bool true))]) 98304 17,o Ay (.build [z0,z0] [(0,1,k 0),(1,1,k 26)]) 18,O Az (.build [.int .u32 (.lit 0),z0,z0,z0,z0,z0,z0,z0,z0,z0,z0,z0,z0,.bool false,.bool false] [(0,1,.const (.int .u32 (.lit 335544320))),(9,2,Ay),(13,1,.const (.bool true))]) 262144 19,o B0 (.build [z0,z0] [(0,1,k 5),(1,1,k 19)]) 20,o B2 (.build [z0,z0] [(0,1,k 0),(1,1,k 4)]) 21,O Ai (.build [.int .u32 (.lit 0),z0,z0,z0,z0,z0,z0,z0,z0,z0,z0,z0,z0,.bool false,.bool false] [(0,1,.const (.int .u32 (.lit 1409286144))),(9,2,B0),(13,1,.const (.bool true)),(11,2,B2)]) 3145728 22,m B3 Ar 23,m As Ar 25,m B4 A2 27,m B5 A2 29,m Bb Aa 31,m Bc Aa 33,m Bd Aa 35,o Bi (.loadN 2 A0) 37,o Bj (.loadN 2 A6) 38,m Bk A7 41,m Bl A7 43,m Bm A7 47,m Bn A7 49,m Bo A7 51,O Ad (.call Ab [.const (.int .u32 (.lit 3531603968))]) 1 1,O A5 (.call A4 [.const (.int .u32 (.lit 4068474880))]) 7 3,O Ap (.call A1 [.const (.int .u32 (.lit 2332033024))]) 31 5,O Af (.call Ah [.const (.int .u32 (.lit 3405774848))]) 127 7,O Aq (.call An [.const (.int .u32 (.lit 2600500224))]) 511 9,O B1 (.call Ao [.const (.int .u32 (.lit 2315255808))]) 2047 11,O B6 (.call B3 [.const (.int .u32 (.lit 3019898880))]) 8392703 24,O B7 (.call As [.const (.int .u32 (.lit 3036676096))]) 58724351 26,O B8 (.call B4 [.const (.int .u32 (.lit 4181721088))]) 260050943 28,O B9 (.call B5 [.const (.int .u32 (.lit 4177526784))]) 1065357311 30,O Be (.call Bb [.const (.int .u32 (.lit 3370122240))]) 4286582783 32,O Bf (.call Bc [.const (.int .u32 (.lit 3365927936))]) 17171484671 34,O Bg (.call Bd [.const (.int .u32 (.lit 3361700864))]) 68711092223 36,O Bp (.call (F 241) [k 16]) 137430568959 39,O Bq (.build [.int .u32 (.lit 0),z0,z0,z0,z0,z0,z0,z0,z0,z0,z0,z0,z0,.bool false,.bool false] [(0,1,.const (.int .u32 (.lit 3355474944))),(1,2,Bi),(3,2,Bj),(7,2,Bp)]) 1099503243263 40,O Br (.call Bk [.const (.int .u32 (.lit 3573758911))]) 2886209638399 42,O Bs (.call Bl [.const (.int .u32 (.lit 3573758879))]) 16080349171711 44,O Bt (.call (F 241) [k 0]) 33672535216127 45,O Bu (.build [.int .u32 (.lit 0),z0,z0,z0,z0,z0,z0,z0,z0,z0,z0,z0,z0,.bool false,.bool false] [(0,1,.const (.int .u32 (.lit 3574299680))),(3,2,Bt)]) 68856907304959 46,O Bv (.call Bm [.const (.int .u32 (.lit 3573751839))]) 209594395660287 48,O Bw (.call Bn [.const (.int .u32 (.lit 3560964096))]) 1054019325792255 50,O Ba (.call Bo [.const (.int .u32 (.lit 3556769793))]) 4431719046320127 52,O Bx (.buildSlice [.int .u32 (.lit 0),z0,z0,z0,z0,z0,z0,z0,z0,z0,z0,z0,z0,.bool false,.bool false,.int .u32 (.lit 0),z0,z0,z0,z0,z0,z0,z0,z0,z0,z0,z0,z0,.bool false,.bool false,.int .u32 (.lit 0),z0,z0,z0,z0,z0,z0,z0,z0,z0,z0,z0,z0,.bool false,.bool false,.int .u32 (.lit 0),z0,z0,z0,z0,z0,z0,z0,z0,z0,z0,z0,z0,.bool false,.bool false,.int .u32 (.lit 0),z0,z0,z0,z0,z0,z0,z0,z0,z0,z0,z0,z0,.bool false,.bool false,.int .u32 (.lit 0),z0,z0,z0,z0,z0,z0,z0,z0,z0,z0,z0,z0,.bool false,.bool false,.int .u32 (.lit 0),z0,z0,z0,z0,z0,z0,z0,z0,z0,z0,z0,z0,.bool false,.bool false,.int .u32 (.lit 0),z0,z0,z0,z0,z0,z0,z0,z0,z0,z0,z0,z0,.bool false,.bool false,.int .u32 (.lit 0),z0,z0,z0,z0,z0,z0,z0,z0,z0,z0,z0,z0,.bool false,.bool false,.int .u32 (.lit 0),z0,z0,z0,z0,z0,z0,z0,z0,z0,z0,z0,z0,.bool false,.bool false,.int .u32 (.lit 0),z0,z0,z0,z0,z0,z0,z0,z0,z0,z0,z0,z0,.bool false,.bool false,.int .u32 (.lit 0),z0,z0,z0,z0,z0,z0,z0,z0,z0,z0,z0,z0,.bool false,.bool false,.int .u32 (.lit 0),z0,z0,z0,z0,z0,z0,z0,z0,z0,z0,z0,z0,.bool false,.bool false,.int .u32 (.lit 0),z0,z0,z0,z0,z0,z0,z0,z0,z0,z0,z0,z0,.bool false,.bool false,.int .u32 (.lit 0),z0,z0,z0,z0,z0,z0,z0,z0,z0,z0,z0,z0,.bool false,.bool false,.int .u32 (.lit 0),z0,z0,z0,z0,z0,z0,z0,z0,z0,z0,z0,z0,.bool false,.bool false,.int .u32 (.lit 0),z0,z0,z0,z0,z0,z0,z0,z0,z0,z0,z0,z0,.bool false,.bool false,.int .u32 (.lit 0),z0,z0,z0,z0,z0,z0,z0,z0,z0,z0,z0,z0,.bool false,.bool false,.int .u32 (.lit 0),z0,z0,z0,z0,z0,z0,z0,z0,z0,z0,z0,z0,.bool false,.bool false,.int .u32 (.lit 0),z0,z0,z0,z0,z0,z0,z0,z0,z0,z0,z0,z0,.bool false,.bool false,.int .u32 (.lit 0),z0,z0,z0,z0,z0,z0,z0,z0,z0,z0,z0,z0,.bool false,.bool false,.int .u32 (.lit 0),z0,z0,z0,z0,z0,z0,z0,z0,z0,z0,z0,z0,.bool false,.bool false,.int .u32 (.lit 0),z0,z0,z0,z0,z0,z0,z0,z0,z0,z0,z0,z0,.bool false,.bool false,.int .u32 (.lit 0),z0,z0,z0,z0,z0,z0,z0,z0,z0,z0,z0,z0,.bool false,.bool false] 15 24 260 [(0,15,Ad),(15,15,A5),(30,15,Ap),(45,15,Af),(60,15,Aq),(75,15,B1),(90,15,Au),(105,15,Ax),(120,15,Az),(135,15,Ai),(150,15,B6),(165,15,B7),(180,15,B8),(195,15,B9),(210,15,Be),(225,15,Bf),(240,15,Bg),(255,15,Bq),(270,15,Br),(285,15,Bs),(300,15,Bu),(315,15,Bv),(330,15,Bw),(345,15,Ba)]) 9007199254740991 53,O e (.move Bx) 18014398509481983 54]).seq rt)))))))),71, [.tmp e]⟩
theorem y6:af af8 164=some (.code MY):=by kernel_rfl
def L7:NFun:=⟨(reg [o A8 (.box e 260) 0,o Ae (.box A6 75) 1,o Ar (.alloc [z0,z0,z0,z0,z0,z0,z0] 182) 2]).seq ((reg [o A7 (.mkFn 248 [Ae]) 0,m A2 A7 1]).seq ((regD [m A3 A0 0,m Aj A2 1,f 1 Ak A8 2,O A9 (.loadN 2 Ak) 4 3,m Al A2 5,f 3 Am A8 6,O Ab (.loadN 2 Am) 64 7,m A4 A2 9,f 5 A5 A8 10,O A1 (.loadN 2 A5) 1024 11,m Ah A2 13,f 7 Af A8 14,O An (.loadN 2 Af) 16384 15,m Ao A2 17,f 9 B1 A8 18,O Ac (.loadN 2 B1) 262144 19,m Au A2 21,f 11 Av A8 22,O Aw (.loadN 2 Av) 4194304 23,o Aa (.alloc [z0,z0,z0,z0,z0,z0,z0] 182) 26,O Ag (.call Aj [A9]) 14 4,O Ad (.call Al [Ab]) 254 8,O Ap (.call A4 [A1]) 4094 12,O Aq (.call Ah [An]) 65534 16,O At (.call Ao [Ac]) 1048574 20,O Ax (.call Au [Aw]) 16777214 24,O Ay (.build [z0,z0,z0,z0,z0,z0,z0] [(0,1,A3),(1,1,Ag),(2,1,Ad),(3,1,Ap),(4,1,Aq),(6,1,At),(5,1,Ax)]) 33554431 25,⟨none,.store 7 Aa Ay,none,134217727,27⟩]).seq (((reg [f 13 Az A8 0,l B0 Az 1]).seq (cd B0 (reg [l B2 Ae 0,f 9 Ai A8 1,f 0 B3 Ai 2,l B6 B3 3,f 9 As A8 4,f 1 B7 As 5,l B4 B7 6,o B8 (.call (F 250) [B2,B6,B4]) 7,f 6 B5 Aa 8,q (.store 1 B5 B8) 9]) sk)).seq (((reg [f 14 B9 A8 0,l Bb B9 1]).seq (cd Bb (reg [f 5 Be Aa 0,l Bc Be 1,b Bf .xor Bc (k 1) 2,f 5 Bd Aa 3,q (.store 1 Bd Bf) 4]) sk)).seq ((reg [o Bg (.loadN 7 Aa) 0,q (.store 7 Ar Bg) 1]).seq rt))))),54, [.cellN Ar 7]⟩
theorem xZ:af af8 165=some (.code L7):=by kernel_rfl
def PR:NFun:=by
 refine (λ_=> ?c:af af8 166=some (.code ?c)->NFun) ?h
 case h=>conv=>{lhs;reduce;dsimp only[bg,aE,aD]}
theorem xI:af af8 166=some (.code PR):=by kernel_rfl
def Ks:NFun:=by
 refine (λ_=> ?c:af af8 167=some (.code ?c)->NFun) ?h
 case h=>conv=>{lhs;reduce;dsimp only[bg,aE,aD]}
theorem Cu:af af8 167=some (.code Ks):=by kernel_rfl
def Pd:NFun:=by
 refine (λ_=> ?c:af af8 168=some (.code ?c)->NFun) ?h
 case h=>conv=>{lhs;reduce;dsimp only[bg,aE,aD]}
theorem AC:af af8 168=some (.code Pd):=by kernel_rfl
def OL:NFun:=by
 refine (λ_=> ?c:af af8 194=some (.code ?c)->NFun) ?h
 case h=>conv=>{lhs;reduce;dsimp only[bg,aE,aD]}
theorem Ch:af af8 194=some (.code OL):=by kernel_rfl
def Lh:NFun:=by
 refine (λ_=> ?c:af af8 195=some (.code ?c)->NFun) ?h
 case h=>conv=>{lhs;reduce;dsimp only[bg,aE,aD]}
theorem CU:af af8 195=some (.code Lh):=by kernel_rfl
def Pu:NFun:=by
 refine (λ_=> ?c:af af8 196=some (.code ?c)->NFun) ?h
 case h=>conv=>{lhs;reduce;dsimp only[bg,aE,aD]}
theorem BY:af af8 196=some (.code Pu):=by kernel_rfl
def Ls:NFun:=by
 refine (λ_=> ?c:af af8 197=some (.code ?c)->NFun) ?h
 case h=>conv=>{lhs;reduce;dsimp only[bg,aE,aD]}
theorem Eg:af af8 197=some (.code Ls):=by kernel_rfl
def LM:NFun:=by
 refine (λ_=> ?c:af af8 198=some (.code ?c)->NFun) ?h
 case h=>conv=>{lhs;reduce;dsimp only[bg,aE,aD]}
theorem CI:af af8 198=some (.code LM):=by kernel_rfl
def uk:NFun:=by
 refine (λ_=> ?c:af af8 199=some (.code ?c)->NFun) ?h
 case h=>conv=>{lhs;reduce;dsimp only[bg,aE,aD]}
def qB:NC:=by
 refine (λ_=> ?c:part (some (.code uk)) 0= ?c->NC) ?h
 case h=>
  conv=>{lhs;whnf}
def Pr:NFun:=by
 refine (λ_=> ?c:uk= ?c->NFun) ?h
 case h=>
  have f0:=qB.eq_1
  dsimp only at f0
  conv=>{lhs;delta uk;simp only[←f0]}
theorem z9:af af8 199=some (.code Pr):=by kernel_rfl
def NI:NFun:=by
 refine (λ_=> ?c:af af8 200=some (.code ?c)->NFun) ?h
 case h=>conv=>{lhs;reduce;dsimp only[bg,aE,aD]}
theorem Dc:af af8 200=some (.code NI):=by kernel_rfl
def JP:NFun:=by
 refine (λ_=> ?c:af af8 201=some (.code ?c)->NFun) ?h
 case h=>conv=>{lhs;reduce;dsimp only[bg,aE,aD]}
theorem yB:af af8 201=some (.code JP):=by kernel_rfl
def wo:NFun:=by
 refine (λ_=> ?c:af af8 202=some (.code ?c)->NFun) ?h
 case h=>conv=>{lhs;reduce;dsimp only[bg,aE,aD]}
def DB:NC:=by
 refine (λ_=> ?c:part (some (.code wo)) 0= ?c->NC) ?h
 case h=>
  conv=>{lhs;whnf}
def Nv:NFun:=by
 refine (λ_=> ?c:wo= ?c->NFun) ?h
 case h=>
  have f0:=DB.eq_1
  dsimp only at f0
  conv=>{lhs;delta wo;simp only[←f0]}
theorem Ca:af af8 202=some (.code Nv):=by kernel_rfl
def uC:NFun:=by
 refine (λ_=> ?c:af af8 203=some (.code ?c)->NFun) ?h
 case h=>conv=>{lhs;reduce;dsimp only[bg,aE,aD]}
def Ck:NC:=by
 refine (λ_=> ?c:part (some (.code uC)) 0= ?c->NC) ?h
 case h=>
  conv=>{lhs;whnf}
def PY:NFun:=by
 refine (λ_=> ?c:uC= ?c->NFun) ?h
 case h=>
  have f0:=Ck.eq_1
  dsimp only at f0
  conv=>{lhs;delta uC;simp only[←f0]}
theorem Ee:af af8 203=some (.code PY):=by kernel_rfl
def MJ:NFun:=by
 refine (λ_=> ?c:af af8 204=some (.code ?c)->NFun) ?h
 case h=>conv=>{lhs;reduce;dsimp only[bg,aE,aD]}
theorem zJ:af af8 204=some (.code MJ):=by kernel_rfl
def Qd:NFun:=by
 refine (λ_=> ?c:af af8 205=some (.code ?c)->NFun) ?h
 case h=>conv=>{lhs;reduce;dsimp only[bg,aE,aD]}
theorem xB:af af8 205=some (.code Qd):=by kernel_rfl
def NX:NFun:=by
 refine (λ_=> ?c:af af8 206=some (.code ?c)->NFun) ?h
 case h=>conv=>{lhs;reduce;dsimp only[bg,aE,aD]}
theorem CY:af af8 206=some (.code NX):=by kernel_rfl
end FR
set_option maxRecDepth 100000
set_option maxHeartbeats 4000000
namespace FR
open Go Nm Go.Proofs
open Nm.D4 (e)
open Nm.NC (reg regD)
open Nm.C
def Ot:NFun:=by
 refine (λ_=> ?c:af af8 207=some (.code ?c)->NFun) ?h
 case h=>conv=>{lhs;reduce;dsimp only[bg,aE,aD]}
theorem xu:af af8 207=some (.code Ot):=by kernel_rfl
def Ka:NFun:=by
 refine (λ_=> ?c:af af8 208=some (.code ?c)->NFun) ?h
 case h=>conv=>{lhs;reduce;dsimp only[bg,aE,aD]}
theorem CJ:af af8 208=some (.code Ka):=by kernel_rfl
def vF:NFun:=by
 refine (λ_=> ?c:af af8 209=some (.code ?c)->NFun) ?h
 case h=>conv=>{lhs;reduce;dsimp only[bg,aE,aD]}
def rX:NC:=by
 refine (λ_=> ?c:part (some (.code vF)) 0= ?c->NC) ?h
 case h=>
  conv=>{lhs;whnf}
def MD:NFun:=by
 refine (λ_=> ?c:vF= ?c->NFun) ?h
 case h=>
  have f0:=rX.eq_1
  dsimp only at f0
  conv=>{lhs;delta vF;simp only[←f0]}
theorem yq:af af8 209=some (.code MD):=by kernel_rfl
def po:NFun:=by
 refine (λ_=> ?c:af af8 210=some (.code ?c)->NFun) ?h
 case h=>conv=>{lhs;reduce;dsimp only[bg,aE,aD]}
def gE:NC:=by
 refine (λ_=> ?c:part (some (.code po)) 0= ?c->NC) ?h
 case h=>
  conv=>{lhs;whnf}
def iG:NC:=by
 refine (λ_=> ?c:part (some (.code po)) 1= ?c->NC) ?h
 case h=>
  have f0:=gE.eq_1
  dsimp only at f0
  conv=>{lhs;whnf;simp only[←f0]}
def Na:NFun:=by
 refine (λ_=> ?c:po= ?c->NFun) ?h
 case h=>
  have f0:=gE.eq_1
  dsimp only at f0
  have f1:=iG.eq_1
  dsimp only at f1
  conv=>{lhs;delta po;simp only[←f0,←f1]}
theorem xm:af af8 210=some (.code Na):=by kernel_rfl
def uN:NFun:=by
 refine (λ_=> ?c:af af8 211=some (.code ?c)->NFun) ?h
 case h=>conv=>{lhs;reduce;dsimp only[bg,aE,aD]}
def zA:NC:=by
 refine (λ_=> ?c:part (some (.code uN)) 0= ?c->NC) ?h
 case h=>
  conv=>{lhs;whnf}
def LF:NFun:=by
 refine (λ_=> ?c:uN= ?c->NFun) ?h
 case h=>
  have f0:=zA.eq_1
  dsimp only at f0
  conv=>{lhs;delta uN;simp only[←f0]}
theorem AX:af af8 211=some (.code LF):=by kernel_rfl
def Pe:NFun:=by
 refine (λ_=> ?c:af af8 212=some (.code ?c)->NFun) ?h
 case h=>conv=>{lhs;reduce;dsimp only[bg,aE,aD]}
theorem DL:af af8 212=some (.code Pe):=by kernel_rfl
def NA:NFun:=by
 refine (λ_=> ?c:af af8 213=some (.code ?c)->NFun) ?h
 case h=>conv=>{lhs;reduce;dsimp only[bg,aE,aD]}
theorem ym:af af8 213=some (.code NA):=by kernel_rfl
def wL:NFun:=by
 refine (λ_=> ?c:af af8 214=some (.code ?c)->NFun) ?h
 case h=>conv=>{lhs;reduce;dsimp only[bg,aE,aD]}
def CG:NC:=by
 refine (λ_=> ?c:part (some (.code wL)) 0= ?c->NC) ?h
 case h=>
  conv=>{lhs;whnf}
def Nu:NFun:=by
 refine (λ_=> ?c:wL= ?c->NFun) ?h
 case h=>
  have f0:=CG.eq_1
  dsimp only at f0
  conv=>{lhs;delta wL;simp only[←f0]}
theorem AY:af af8 214=some (.code Nu):=by kernel_rfl
def J3:NFun:=⟨(reg [o e.f (.move kf) 0]).seq (((reg [m Ar e 0,L A2 Ar 1,m Aa A0 2,b A7 .sub A2 Aa 3,b A3 .lss A7 (k 3) 4]).seq (cd A3 ((reg [o e.f (.move kf) 0]).seq rt) sk)).seq ((reg [m Aj e 0,m Ak A0 1,b A9 .add Ak (k 1) 2,o Ag (.indexSlc 9 Aj A9) 3,o Al (.loadN 9 Ag) 4,o Ae (.alloc [z0,z0,z0,z0,z0,z0,z0,z1,.int .u8 (.lit 0)] 236) 5,q (.store 9 Ae Al) 6]).seq ((regD [f 0 Am Ae 0,O Ab (.load1 Am) 1 1,O Ad (.bin .num .eql Ab (k 6)) 3 2,O A4 (.move Ad) 7 3,⟨some A5,.fieldAddr 2 Ae,some (A4,true),15,4⟩,⟨some A1,.load1 A5,some (A4,true),31,5⟩,⟨some Ap,.move e,some (A4,true),15,6⟩,⟨some Ah,.move A0,some (A4,true),15,7⟩,⟨some Af,.indexSlc 9 Ap Ah,some (A4,true),207,8⟩,⟨some An,.fieldAddr 2 Af,some (A4,true),463,9⟩,⟨some Aq,.load1 An,some (A4,true),975,10⟩,⟨some Ao,.bin .num .eql A1 Aq,some (A4,true),2047,11⟩,O B1 (.pick A4 Ao kf) 4095 12,O Ac (.move B1) 8191 13,⟨some At,.fieldAddr 6 Ae,some (Ac,true),16383,14⟩,⟨some Au,.load1 At,some (Ac,true),32767,15⟩,⟨some Av,.move e,some (Ac,true),16383,16⟩,⟨some Aw,.move A0,some (Ac,true),16383,17⟩,⟨some Ax,.indexSlc 9 Av Aw,some (Ac,true),212991,18⟩,⟨some Ay,.fieldAddr 6 Ax,some (Ac,true),475135,19⟩,⟨some Az,.load1 Ay,some (Ac,true),999423,20⟩,⟨some B0,.bin .num .eql Au Az,some (Ac,true),2097151,21⟩,O B2 (.pick Ac B0 kf) 4194303 22,O Ai (.move B2) 8388607 23,⟨some B3,.move e,some (Ai,true),16777215,24⟩,⟨some B6,.move A0,some (Ai,true),16777215,25⟩,⟨some As,.bin .num .add B6 (k 2),some (Ai,true),50331647,26⟩,⟨some B7,.indexSlc 9 B3 As,some (Ai,true),134217727,27⟩,⟨some B4,.fieldAddr 0 B7,some (Ai,true),268435455,28⟩,⟨some B8,.load1 B4,some (Ai,true),536870911,29⟩,⟨some B5,.bin .num .eql B8 (k 7),some (Ai,true),1073741823,30⟩,O B9 (.pick Ai B5 kf) 2147483647 31,O e.f (.move B9) 4294967295 32]).seq rt))),48, [.tmp e.f]⟩
theorem BO:af af8 215=some (.code J3):=by kernel_rfl
def wg:NFun:=by
 refine (λ_=> ?c:af af8 216=some (.code ?c)->NFun) ?h
 case h=>conv=>{lhs;reduce;dsimp only[bg,aE,aD]}
def yM:NC:=by
 refine (λ_=> ?c:part (some (.code wg)) 0= ?c->NC) ?h
 case h=>
  conv=>{lhs;whnf}
def Ny:NFun:=by
 refine (λ_=> ?c:wg= ?c->NFun) ?h
 case h=>
  have f0:=yM.eq_1
  dsimp only at f0
  conv=>{lhs;delta wg;simp only[←f0]}
theorem DY:af af8 216=some (.code Ny):=by kernel_rfl
def uO:NFun:=by
 refine (λ_=> ?c:af af8 217=some (.code ?c)->NFun) ?h
 case h=>conv=>{lhs;reduce;dsimp only[bg,aE,aD]}
def xw:NC:=by
 refine (λ_=> ?c:part (some (.code uO)) 0= ?c->NC) ?h
 case h=>
  conv=>{lhs;whnf}
def PK:NFun:=by
 refine (λ_=> ?c:uO= ?c->NFun) ?h
 case h=>
  have f0:=xw.eq_1
  dsimp only at f0
  conv=>{lhs;delta uO;simp only[←f0]}
theorem Dl:af af8 217=some (.code PK):=by kernel_rfl
def jk:NFun:=by
 refine (λ_=> ?c:af af8 218=some (.code ?c)->NFun) ?h
 case h=>conv=>{lhs;reduce;dsimp only[bg,aE,aD]}
def bV:NC:=by
 refine (λ_=> ?c:part (some (.code jk)) 2= ?c->NC) ?h
 case h=>
  conv=>{lhs;whnf}
def cA:NC:=by
 refine (λ_=> ?c:part (some (.code jk)) 3= ?c->NC) ?h
 case h=>
  have f0:=bV.eq_1
  dsimp only at f0
  conv=>{lhs;whnf;simp only[←f0]}
def jW:NC:=by
 refine (λ_=> ?c:part (some (.code jk)) 0= ?c->NC) ?h
 case h=>
  have f0:=bV.eq_1
  dsimp only at f0
  have f1:=cA.eq_1
  dsimp only at f1
  conv=>{lhs;whnf;simp only[←f0,←f1]}
def mt:NC:=by
 refine (λ_=> ?c:part (some (.code jk)) 4= ?c->NC) ?h
 case h=>
  have f0:=bV.eq_1
  dsimp only at f0
  have f1:=cA.eq_1
  dsimp only at f1
  have f2:=jW.eq_1
  dsimp only at f2
  conv=>{lhs;whnf;simp only[←f0,←f1,←f2]}
def rp:NC:=by
 refine (λ_=> ?c:part (some (.code jk)) 1= ?c->NC) ?h
 case h=>
  have f0:=bV.eq_1
  dsimp only at f0
  have f1:=cA.eq_1
  dsimp only at f1
  have f2:=jW.eq_1
  dsimp only at f2
  have f3:=mt.eq_1
  dsimp only at f3
  conv=>{lhs;whnf;simp only[←f0,←f1,←f2,←f3]}
def Lu:NFun:=by
 refine (λ_=> ?c:jk= ?c->NFun) ?h
 case h=>
  have f0:=bV.eq_1
  dsimp only at f0
  have f1:=cA.eq_1
  dsimp only at f1
  have f2:=jW.eq_1
  dsimp only at f2
  have f3:=mt.eq_1
  dsimp only at f3
  have f4:=rp.eq_1
  dsimp only at f4
  conv=>{lhs;delta jk;simp only[←f0,←f1,←f2,←f3,←f4]}
theorem yN:af af8 218=some (.code Lu):=by kernel_rfl
def uL:NFun:=by
 refine (λ_=> ?c:af af8 219=some (.code ?c)->NFun) ?h
 case h=>conv=>{lhs;reduce;dsimp only[bg,aE,aD]}
def BT:NC:=by
 refine (λ_=> ?c:part (some (.code uL)) 0= ?c->NC) ?h
 case h=>
  conv=>{lhs;whnf}
def Nf:NFun:=by
 refine (λ_=> ?c:uL= ?c->NFun) ?h
 case h=>
  have f0:=BT.eq_1
  dsimp only at f0
  conv=>{lhs;delta uL;simp only[←f0]}
theorem DK:af af8 219=some (.code Nf):=by kernel_rfl
def uf:NFun:=by
 refine (λ_=> ?c:af af8 220=some (.code ?c)->NFun) ?h
 case h=>conv=>{lhs;reduce;dsimp only[bg,aE,aD]}
def Cb:NC:=by
 refine (λ_=> ?c:part (some (.code uf)) 0= ?c->NC) ?h
 case h=>
  conv=>{lhs;whnf}
def PI:NFun:=by
 refine (λ_=> ?c:uf= ?c->NFun) ?h
 case h=>
  have f0:=Cb.eq_1
  dsimp only at f0
  conv=>{lhs;delta uf;simp only[←f0]}
theorem BI:af af8 220=some (.code PI):=by kernel_rfl
def wA:NFun:=by
 refine (λ_=> ?c:af af8 221=some (.code ?c)->NFun) ?h
 case h=>conv=>{lhs;reduce;dsimp only[bg,aE,aD]}
def zy:NC:=by
 refine (λ_=> ?c:part (some (.code wA)) 0= ?c->NC) ?h
 case h=>
  conv=>{lhs;whnf}
def Qg:NFun:=by
 refine (λ_=> ?c:wA= ?c->NFun) ?h
 case h=>
  have f0:=zy.eq_1
  dsimp only at f0
  conv=>{lhs;delta wA;simp only[←f0]}
theorem zf:af af8 221=some (.code Qg):=by kernel_rfl
def LL:NFun:=by
 refine (λ_=> ?c:af af8 241=some (.code ?c)->NFun) ?h
 case h=>conv=>{lhs;reduce;dsimp only[bg,aE,aD]}
theorem yS:af af8 241=some (.code LL):=by kernel_rfl
def LE:NFun:=by
 refine (λ_=> ?c:af af8 242=some (.code ?c)->NFun) ?h
 case h=>conv=>{lhs;reduce;dsimp only[bg,aE,aD]}
theorem ye:af af8 242=some (.code LE):=by kernel_rfl
def N3:NFun:=by
 refine (λ_=> ?c:af af8 243=some (.code ?c)->NFun) ?h
 case h=>conv=>{lhs;reduce;dsimp only[bg,aE,aD]}
theorem DC:af af8 243=some (.code N3):=by kernel_rfl
def P7:NFun:=by
 refine (λ_=> ?c:af af8 244=some (.code ?c)->NFun) ?h
 case h=>conv=>{lhs;reduce;dsimp only[bg,aE,aD]}
theorem BP:af af8 244=some (.code P7):=by kernel_rfl
def MG:NFun:=by
 refine (λ_=> ?c:af af8 245=some (.code ?c)->NFun) ?h
 case h=>conv=>{lhs;reduce;dsimp only[bg,aE,aD]}
theorem Dz:af af8 245=some (.code MG):=by kernel_rfl
def Ni:NFun:=by
 refine (λ_=> ?c:af af8 246=some (.code ?c)->NFun) ?h
 case h=>conv=>{lhs;reduce;dsimp only[bg,aE,aD]}
theorem Dh:af af8 246=some (.code Ni):=by kernel_rfl
def Kv:NFun:=by
 refine (λ_=> ?c:af af8 247=some (.code ?c)->NFun) ?h
 case h=>conv=>{lhs;reduce;dsimp only[bg,aE,aD]}
theorem yA:af af8 247=some (.code Kv):=by kernel_rfl
def OS:NFun:=by
 refine (λ_=> ?c:af af8 248=some (.code ?c)->NFun) ?h
 case h=>conv=>{lhs;reduce;dsimp only[bg,aE,aD]}
theorem zG:af af8 248=some (.code OS):=by kernel_rfl
def OM:NFun:=by
 refine (λ_=> ?c:af af8 249=some (.code ?c)->NFun) ?h
 case h=>conv=>{lhs;reduce;dsimp only[bg,aE,aD]}
theorem xV:af af8 249=some (.code OM):=by kernel_rfl
def Pz:NFun:=by
 refine (λ_=> ?c:af af8 250=some (.code ?c)->NFun) ?h
 case h=>conv=>{lhs;reduce;dsimp only[bg,aE,aD]}
theorem yu:af af8 250=some (.code Pz):=by kernel_rfl
def Kz:NFun:=by
 refine (λ_=> ?c:af af8 251=some (.code ?c)->NFun) ?h
 case h=>conv=>{lhs;reduce;dsimp only[bg,aE,aD]}
theorem zi:af af8 251=some (.code Kz):=by kernel_rfl
def MB:NFun:=by
 refine (λ_=> ?c:af af8 252=some (.code ?c)->NFun) ?h
 case h=>conv=>{lhs;reduce;dsimp only[bg,aE,aD]}
theorem Dk:af af8 252=some (.code MB):=by kernel_rfl
def P6:NFun:=by
 refine (λ_=> ?c:af af8 253=some (.code ?c)->NFun) ?h
 case h=>conv=>{lhs;reduce;dsimp only[bg,aE,aD]}
theorem Cw:af af8 253=some (.code P6):=by kernel_rfl
def N9:NFun:=by
 refine (λ_=> ?c:af af8 254=some (.code ?c)->NFun) ?h
 case h=>conv=>{lhs;reduce;dsimp only[bg,aE,aD]}
theorem xo:af af8 254=some (.code N9):=by kernel_rfl
def vu:NFun:=by
 refine (λ_=> ?c:af af8 264=some (.code ?c)->NFun) ?h
 case h=>conv=>{lhs;reduce;dsimp only[bg,aE,aD]}
def Dd:NC:=by
 refine (λ_=> ?c:part (some (.code vu)) 0= ?c->NC) ?h
 case h=>
  conv=>{lhs;whnf}
def KJ:NFun:=by
 refine (λ_=> ?c:vu= ?c->NFun) ?h
 case h=>
  have f0:=Dd.eq_1
  dsimp only at f0
  conv=>{lhs;delta vu;simp only[←f0]}
theorem yF:af af8 264=some (.code KJ):=by kernel_rfl
def ug:NFun:=by
 refine (λ_=> ?c:af af8 265=some (.code ?c)->NFun) ?h
 case h=>conv=>{lhs;reduce;dsimp only[bg,aE,aD]}
def DX:NC:=by
 refine (λ_=> ?c:part (some (.code ug)) 0= ?c->NC) ?h
 case h=>
  conv=>{lhs;whnf}
def LJ:NFun:=by
 refine (λ_=> ?c:ug= ?c->NFun) ?h
 case h=>
  have f0:=DX.eq_1
  dsimp only at f0
  conv=>{lhs;delta ug;simp only[←f0]}
theorem yP:af af8 265=some (.code LJ):=by kernel_rfl
def K3:NFun:=⟨(reg [o e.f (.alloc [z0,.str [],z1,z0] 139) 0,o Ae (.move (k 0)) 1,o Ar (.move kf) 2]).seq ((reg [m A9 A0 0,o Ag (.build [z0,.str [],z1,z0] [(3,1,A9)]) 1,o A2 (.alloc [z0,.str [],z1,z0] 139) 2,q (.store 4 A2 Ag) 3]).seq (((reg [m Al e 0,m Am A0 1,o Ab (.indexStr Al Am) 2,m Aa Ab 3]).seq (bk 0 ((reg [m A4 Aa 0,o A5 (.call (F 309) [A4]) 1,m Ad A5 2]).seq (cd Ad ((reg [m A1 e 0,m Ap A0 1,o Ah (.call (F 306) [A1,Ap,.const (.fn 310 [])]) 2,m A7 Ah 3]).seq ((regD [m Af e 0,m An A0 1,m Aq A7 2,O Ao (.sliceStr Af (some An) (some Aq)) 7 3,f 0 B1 A2 4,⟨none,.store 1 B1 (k 1),none,16,5⟩,O Ac (.fieldAddr 1 A2) 63 6,⟨none,.store 1 Ac Ao,none,127,7⟩]).seq (((regD [f 1 Au A2 1,O Av (.load1 Au) 2 2,o At (.call (F 311) []) 0,O Aw (.call (F 274) [At,Av]) 7 3]).seq (cd Aw (reg [f 0 Ax A2 0,q (.store 1 Ax (k 4)) 1]) sk)).seq ((regD [o Ay (.loadN 4 A2) 0,m Az A7 1,m B0 A0 2,O B2 (.bin .num .sub Az B0) 6 3,f 0 Ai A2 4,O B3 (.load1 Ai) 16 5,O B6 (.bin .num .eql B3 (k 4)) 48 6,O As (.move B6) 112 7,⟨some B7,.fieldAddr 1 A2,some (As,false),240,8⟩,⟨some B4,.load1 B7,some (As,false),496,9⟩,⟨some B8,.call (F 312) [B4],some (As,false),1008,10⟩,O B5 (.pick As kt B8) 2032 11,⟨none,.store 4 e.f Ay,none,2033,12⟩,O Ae (.move B2) 6143 13,O Ar (.move B5) 16383 14]).seq rt)))) ((reg [m Bb Aa 0,o Be (.call (F 313) [Bb]) 1,m B9 Be 2]).seq (cd B9 ((reg [m Bc e 0,m Bf A0 1,o Bd (.call (F 306) [Bc,Bf,.const (.fn 313 [])]) 2,m A3 Bd 3]).seq ((reg [m Bi e 0,m Bj A0 1,m Bp A3 2,o Bq (.sliceStr Bi (some Bj) (some Bp)) 3,o Bk (.call (F 314) [Bq]) 4,m Bg Bk 5,x Br Bg 0 6,x Bl Bg 1 7,m Aj Br 8,m Ak Bl 9]).seq ((reg [m Bs Aj 0,f 0 Bt A2 1,q (.store 1 Bt (k 2)) 2,f 2 Bu A2 3,q (.store 1 Bu Bs) 4]).seq ((regD [o Bm (.loadN 4 A2) 0,m Bv A3 1,m Bn A0 2,O Bw (.bin .num .sub Bv Bn) 6 3,m Bo Ak 4,O Ba (.move Bo) 16 5,⟨some Bx,.move A3,some (Ba,true),48,6⟩,⟨some e.f.a.c,.move e,some (Ba,true),48,7⟩,⟨some e.f.a.f,.lenStr e.f.a.c,some (Ba,true),176,8⟩,⟨some e.f.b.a,.bin .num .eql Bx e.f.a.f,some (Ba,true),496,9⟩,⟨some Bh,.move e.f.b.a,some (Ba,true),1008,10⟩,⟨some e.f.b.c,.move e,some (Bh,false),2032,11⟩,⟨some e.f.b.f,.move A3,some (Bh,false),2032,12⟩,⟨some e.f.c.a,.indexStr e.f.b.c e.f.b.f,some (Bh,false),8176,13⟩,⟨some e.f.c.b,.call (F 310) [e.f.c.a],some (Bh,false),16368,14⟩,⟨some e.f.c.c,.un .not e.f.c.b,some (Bh,false),32752,15⟩,⟨some e.f.c.f,.pick Bh kt e.f.c.c,some (Ba,true),65520,16⟩,O e.f.f.a (.pick Ba e.f.c.f kf) 131056 17,⟨none,.store 4 e.f Bm,none,32753,18⟩,O Ae (.move Bw) 294911 19,O Ar (.move e.f.f.a) 1048575 20]).seq rt)))) sk)))))).seq ((regD [m e.f.f.b e 0,m e.f.f.c A0 1,m e.f.f.f A0 2,O C1 (.bin .num .add e.f.f.f (k 1)) 4 3,O C2 (.sliceStr e.f.f.b (some e.f.f.c) (some C1)) 15 4,f 0 C3 A2 5,⟨none,.store 1 C3 (k 3),none,32,6⟩,O C4 (.fieldAddr 1 A2) 127 7,⟨none,.store 1 C4 C2,none,255,8⟩]).seq ((regD [o C5 (.loadN 4 A2) 0,f 1 C6 A2 1,O C7 (.load1 C6) 2 2,O C8 (.call (F 315) [.const (.str [123,125,40,41,91,93,59,43,45,42,38,61,60]),C7]) 6 3,⟨none,.store 4 e.f C5,none,15,4⟩,O Ae (.move (k 1)) 31 5,O Ar (.move C8) 63 6]).seq rt)))),93, [.cellN e.f 4,.tmp Ae,.tmp Ar]⟩
theorem yL:af af8 266=some (.code K3):=by kernel_rfl
def Mp:NFun:=by
 refine (λ_=> ?c:af af8 267=some (.code ?c)->NFun) ?h
 case h=>conv=>{lhs;reduce;dsimp only[bg,aE,aD]}
theorem CA:af af8 267=some (.code Mp):=by kernel_rfl
def MN:NFun:=by
 refine (λ_=> ?c:af af8 268=some (.code ?c)->NFun) ?h
 case h=>conv=>{lhs;reduce;dsimp only[bg,aE,aD]}
theorem xE:af af8 268=some (.code MN):=by kernel_rfl
def Oe:NFun:=by
 refine (λ_=> ?c:af af8 269=some (.code ?c)->NFun) ?h
 case h=>conv=>{lhs;reduce;dsimp only[bg,aE,aD]}
theorem CP:af af8 269=some (.code Oe):=by kernel_rfl
def vj:NFun:=by
 refine (λ_=> ?c:af af8 270=some (.code ?c)->NFun) ?h
 case h=>conv=>{lhs;reduce;dsimp only[bg,aE,aD]}
def mG:NC:=by
 refine (λ_=> ?c:part (some (.code vj)) 0= ?c->NC) ?h
 case h=>
  conv=>{lhs;whnf}
def L9:NFun:=by
 refine (λ_=> ?c:vj= ?c->NFun) ?h
 case h=>
  have f0:=mG.eq_1
  dsimp only at f0
  conv=>{lhs;delta vj;simp only[←f0]}
theorem xL:af af8 270=some (.code L9):=by kernel_rfl
def vU:NFun:=by
 refine (λ_=> ?c:af af8 271=some (.code ?c)->NFun) ?h
 case h=>conv=>{lhs;reduce;dsimp only[bg,aE,aD]}
def pT:NC:=by
 refine (λ_=> ?c:part (some (.code vU)) 0= ?c->NC) ?h
 case h=>
  conv=>{lhs;whnf}
def NB:NFun:=by
 refine (λ_=> ?c:vU= ?c->NFun) ?h
 case h=>
  have f0:=pT.eq_1
  dsimp only at f0
  conv=>{lhs;delta vU;simp only[←f0]}
theorem zd:af af8 271=some (.code NB):=by kernel_rfl
def OG:NFun:=by
 refine (λ_=> ?c:af af8 272=some (.code ?c)->NFun) ?h
 case h=>conv=>{lhs;reduce;dsimp only[bg,aE,aD]}
theorem Dx:af af8 272=some (.code OG):=by kernel_rfl
def xh:NFun:=by
 refine (λ_=> ?c:af af8 273=some (.code ?c)->NFun) ?h
 case h=>conv=>{lhs;reduce;dsimp only[bg,aE,aD]}
def Di:NC:=by
 refine (λ_=> ?c:part (some (.code xh)) 0= ?c->NC) ?h
 case h=>
  conv=>{lhs;whnf}
def Mt:NFun:=by
 refine (λ_=> ?c:xh= ?c->NFun) ?h
 case h=>
  have f0:=Di.eq_1
  dsimp only at f0
  conv=>{lhs;delta xh;simp only[←f0]}
theorem BF:af af8 273=some (.code Mt):=by kernel_rfl
def Hz:NFun:=by
 refine (λ_=> ?c:af af8 274=some (.code ?c)->NFun) ?h
 case h=>conv=>{lhs;reduce;dsimp only[bg,aE,aD]}
theorem sm:af af8 274=some (.code Hz):=by kernel_rfl
def MA:NFun:=by
 refine (λ_=> ?c:af af8 275=some (.code ?c)->NFun) ?h
 case h=>conv=>{lhs;reduce;dsimp only[bg,aE,aD]}
theorem xC:af af8 275=some (.code MA):=by kernel_rfl
def OJ:NFun:=by
 refine (λ_=> ?c:af af8 276=some (.code ?c)->NFun) ?h
 case h=>conv=>{lhs;reduce;dsimp only[bg,aE,aD]}
theorem Dg:af af8 276=some (.code OJ):=by kernel_rfl
def P3:NFun:=by
 refine (λ_=> ?c:af af8 277=some (.code ?c)->NFun) ?h
 case h=>conv=>{lhs;reduce;dsimp only[bg,aE,aD]}
theorem xQ:af af8 277=some (.code P3):=by kernel_rfl
def Nj:NFun:=by
 refine (λ_=> ?c:af af8 278=some (.code ?c)->NFun) ?h
 case h=>conv=>{lhs;reduce;dsimp only[bg,aE,aD]}
theorem zj:af af8 278=some (.code Nj):=by kernel_rfl
def LY:NFun:=by
 refine (λ_=> ?c:af af8 279=some (.code ?c)->NFun) ?h
 case h=>conv=>{lhs;reduce;dsimp only[bg,aE,aD]}
theorem yv:af af8 279=some (.code LY):=by kernel_rfl
open Go Nm Go.Proofs
open Nm.D4 (e)
open Nm.NC (reg regD)
open Nm.C
def pC:NFun:=by
 refine (λ_=> ?c:af af8 280=some (.code ?c)->NFun) ?h
 case h=>conv=>{lhs;reduce;dsimp only[bg,aE,aD]}
def mi:NC:=by
 refine (λ_=> ?c:part (some (.code pC)) 1= ?c->NC) ?h
 case h=>
  conv=>{lhs;whnf}
def xW:NC:=by
 refine (λ_=> ?c:part (some (.code pC)) 0= ?c->NC) ?h
 case h=>
  have f0:=mi.eq_1
  dsimp only at f0
  conv=>{lhs;whnf;simp only[←f0]}
def LR:NFun:=by
 refine (λ_=> ?c:pC= ?c->NFun) ?h
 case h=>
  have f0:=mi.eq_1
  dsimp only at f0
  have f1:=xW.eq_1
  dsimp only at f1
  conv=>{lhs;delta pC;simp only[←f0,←f1]}
theorem yC:af af8 280=some (.code LR):=by kernel_rfl
def Ph:NFun:=by
 refine (λ_=> ?c:af af8 281=some (.code ?c)->NFun) ?h
 case h=>conv=>{lhs;reduce;dsimp only[bg,aE,aD]}
theorem AU:af af8 281=some (.code Ph):=by kernel_rfl
def NM:NFun:=by
 refine (λ_=> ?c:af af8 282=some (.code ?c)->NFun) ?h
 case h=>conv=>{lhs;reduce;dsimp only[bg,aE,aD]}
theorem BK:af af8 282=some (.code NM):=by kernel_rfl
def Ok:NFun:=by
 refine (λ_=> ?c:af af8 283=some (.code ?c)->NFun) ?h
 case h=>conv=>{lhs;reduce;dsimp only[bg,aE,aD]}
theorem BX:af af8 283=some (.code Ok):=by kernel_rfl
def vY:NFun:=by
 refine (λ_=> ?c:af af8 284=some (.code ?c)->NFun) ?h
 case h=>conv=>{lhs;reduce;dsimp only[bg,aE,aD]}
def BN:NC:=by
 refine (λ_=> ?c:part (some (.code vY)) 0= ?c->NC) ?h
 case h=>
  conv=>{lhs;whnf}
def Ns:NFun:=by
 refine (λ_=> ?c:vY= ?c->NFun) ?h
 case h=>
  have f0:=BN.eq_1
  dsimp only at f0
  conv=>{lhs;delta vY;simp only[←f0]}
theorem DU:af af8 284=some (.code Ns):=by kernel_rfl
def N6:NFun:=by
 refine (λ_=> ?c:af af8 285=some (.code ?c)->NFun) ?h
 case h=>conv=>{lhs;reduce;dsimp only[bg,aE,aD]}
theorem Dq:af af8 285=some (.code N6):=by kernel_rfl
def Oi:NFun:=by
 refine (λ_=> ?c:af af8 286=some (.code ?c)->NFun) ?h
 case h=>conv=>{lhs;reduce;dsimp only[bg,aE,aD]}
theorem yw:af af8 286=some (.code Oi):=by kernel_rfl
def LW:NFun:=by
 refine (λ_=> ?c:af af8 287=some (.code ?c)->NFun) ?h
 case h=>conv=>{lhs;reduce;dsimp only[bg,aE,aD]}
theorem yU:af af8 287=some (.code LW):=by kernel_rfl
def PQ:NFun:=by
 refine (λ_=> ?c:af af8 288=some (.code ?c)->NFun) ?h
 case h=>conv=>{lhs;reduce;dsimp only[bg,aE,aD]}
theorem x9:af af8 288=some (.code PQ):=by kernel_rfl
def J5:NFun:=by
 refine (λ_=> ?c:af af8 289=some (.code ?c)->NFun) ?h
 case h=>conv=>{lhs;reduce;dsimp only[bg,aE,aD]}
theorem zt:af af8 289=some (.code J5):=by kernel_rfl
def NJ:NFun:=by
 refine (λ_=> ?c:af af8 290=some (.code ?c)->NFun) ?h
 case h=>conv=>{lhs;reduce;dsimp only[bg,aE,aD]}
theorem CD:af af8 290=some (.code NJ):=by kernel_rfl
def vO:NFun:=by
 refine (λ_=> ?c:af af8 291=some (.code ?c)->NFun) ?h
 case h=>conv=>{lhs;reduce;dsimp only[bg,aE,aD]}
def Cz:NC:=by
 refine (λ_=> ?c:part (some (.code vO)) 0= ?c->NC) ?h
 case h=>
  conv=>{lhs;whnf}
def NK:NFun:=by
 refine (λ_=> ?c:vO= ?c->NFun) ?h
 case h=>
  have f0:=Cz.eq_1
  dsimp only at f0
  conv=>{lhs;delta vO;simp only[←f0]}
theorem DM:af af8 291=some (.code NK):=by kernel_rfl
def GU:NFun:=by
 refine (λ_=> ?c:af af8 297=some (.code ?c)->NFun) ?h
 case h=>conv=>{lhs;reduce;dsimp only[bg,aE,aD]}
theorem rW:af af8 297=some (.code GU):=by kernel_rfl
def Kx:NFun:=by
 refine (λ_=> ?c:af af8 298=some (.code ?c)->NFun) ?h
 case h=>conv=>{lhs;reduce;dsimp only[bg,aE,aD]}
theorem zU:af af8 298=some (.code Kx):=by kernel_rfl
def Ku:NFun:=by
 refine (λ_=> ?c:af af8 299=some (.code ?c)->NFun) ?h
 case h=>conv=>{lhs;reduce;dsimp only[bg,aE,aD]}
theorem zm:af af8 299=some (.code Ku):=by kernel_rfl
def vN:NFun:=by
 refine (λ_=> ?c:af af8 306=some (.code ?c)->NFun) ?h
 case h=>conv=>{lhs;reduce;dsimp only[bg,aE,aD]}
def Db:NC:=by
 refine (λ_=> ?c:part (some (.code vN)) 0= ?c->NC) ?h
 case h=>
  conv=>{lhs;whnf}
def Kl:NFun:=by
 refine (λ_=> ?c:vN= ?c->NFun) ?h
 case h=>
  have f0:=Db.eq_1
  dsimp only at f0
  conv=>{lhs;delta vN;simp only[←f0]}
theorem DT:af af8 306=some (.code Kl):=by kernel_rfl
def JY:NFun:=by
 refine (λ_=> ?c:af af8 307=some (.code ?c)->NFun) ?h
 case h=>conv=>{lhs;reduce;dsimp only[bg,aE,aD]}
theorem BE:af af8 307=some (.code JY):=by kernel_rfl
def J2:NFun:=by
 refine (λ_=> ?c:af af8 308=some (.code ?c)->NFun) ?h
 case h=>conv=>{lhs;reduce;dsimp only[bg,aE,aD]}
theorem yV:af af8 308=some (.code J2):=by kernel_rfl
def Mk:NFun:=by
 refine (λ_=> ?c:af af8 309=some (.code ?c)->NFun) ?h
 case h=>conv=>{lhs;reduce;dsimp only[bg,aE,aD]}
theorem zS:af af8 309=some (.code Mk):=by kernel_rfl
def Pv:NFun:=by
 refine (λ_=> ?c:af af8 310=some (.code ?c)->NFun) ?h
 case h=>conv=>{lhs;reduce;dsimp only[bg,aE,aD]}
theorem xX:af af8 310=some (.code Pv):=by kernel_rfl
def O4:NFun:=by
 refine (λ_=> ?c:af af8 311=some (.code ?c)->NFun) ?h
 case h=>conv=>{lhs;reduce;dsimp only[bg,aE,aD]}
theorem BH:af af8 311=some (.code O4):=by kernel_rfl
def N5:NFun:=by
 refine (λ_=> ?c:af af8 312=some (.code ?c)->NFun) ?h
 case h=>conv=>{lhs;reduce;dsimp only[bg,aE,aD]}
theorem zT:af af8 312=some (.code N5):=by kernel_rfl
def Qk:NFun:=by
 refine (λ_=> ?c:af af8 313=some (.code ?c)->NFun) ?h
 case h=>conv=>{lhs;reduce;dsimp only[bg,aE,aD]}
theorem Df:af af8 313=some (.code Qk):=by kernel_rfl
def uZ:NFun:=by
 refine (λ_=> ?c:af af8 314=some (.code ?c)->NFun) ?h
 case h=>conv=>{lhs;reduce;dsimp only[bg,aE,aD]}
def qp:NC:=by
 refine (λ_=> ?c:part (some (.code uZ)) 0= ?c->NC) ?h
 case h=>
  conv=>{lhs;whnf}
def OQ:NFun:=by
 refine (λ_=> ?c:uZ= ?c->NFun) ?h
 case h=>
  have f0:=qp.eq_1
  dsimp only at f0
  conv=>{lhs;delta uZ;simp only[←f0]}
theorem zq:af af8 314=some (.code OQ):=by kernel_rfl
def J6:NFun:=by
 refine (λ_=> ?c:af af8 315=some (.code ?c)->NFun) ?h
 case h=>conv=>{lhs;reduce;dsimp only[bg,aE,aD]}
theorem y8:af af8 315=some (.code J6):=by kernel_rfl
def Mq:NFun:=by
 refine (λ_=> ?c:af af8 316=some (.code ?c)->NFun) ?h
 case h=>conv=>{lhs;reduce;dsimp only[bg,aE,aD]}
theorem yk:af af8 316=some (.code Mq):=by kernel_rfl
def Kd:NFun:=by
 refine (λ_=> ?c:af af8 317=some (.code ?c)->NFun) ?h
 case h=>conv=>{lhs;reduce;dsimp only[bg,aE,aD]}
theorem AV:af af8 317=some (.code Kd):=by kernel_rfl
def wE:NFun:=by
 refine (λ_=> ?c:af af8 318=some (.code ?c)->NFun) ?h
 case h=>conv=>{lhs;reduce;dsimp only[bg,aE,aD]}
def AZ:NC:=by
 refine (λ_=> ?c:part (some (.code wE)) 0= ?c->NC) ?h
 case h=>
  conv=>{lhs;whnf}
def Oc:NFun:=by
 refine (λ_=> ?c:wE= ?c->NFun) ?h
 case h=>
  have f0:=AZ.eq_1
  dsimp only at f0
  conv=>{lhs;delta wE;simp only[←f0]}
theorem DE:af af8 318=some (.code Oc):=by kernel_rfl
def wP:NFun:=by
 refine (λ_=> ?c:af af8 319=some (.code ?c)->NFun) ?h
 case h=>conv=>{lhs;reduce;dsimp only[bg,aE,aD]}
def qG:NC:=by
 refine (λ_=> ?c:part (some (.code wP)) 0= ?c->NC) ?h
 case h=>
  conv=>{lhs;whnf}
def GW:NFun:=by
 refine (λ_=> ?c:wP= ?c->NFun) ?h
 case h=>
  have f0:=qG.eq_1
  dsimp only at f0
  conv=>{lhs;delta wP;simp only[←f0]}
theorem p8:af af8 319=some (.code GW):=by kernel_rfl
def Lw:NFun:=by
 refine (λ_=> ?c:af af8 320=some (.code ?c)->NFun) ?h
 case h=>conv=>{lhs;reduce;dsimp only[bg,aE,aD]}
theorem zp:af af8 320=some (.code Lw):=by kernel_rfl
def Qh:NFun:=by
 refine (λ_=> ?c:af af8 321=some (.code ?c)->NFun) ?h
 case h=>conv=>{lhs;reduce;dsimp only[bg,aE,aD]}
theorem xF:af af8 321=some (.code Qh):=by kernel_rfl
def Pb:NFun:=by
 refine (λ_=> ?c:af af8 322=some (.code ?c)->NFun) ?h
 case h=>conv=>{lhs;reduce;dsimp only[bg,aE,aD]}
theorem zo:af af8 322=some (.code Pb):=by kernel_rfl
def LZ:NFun:=by
 refine (λ_=> ?c:af af8 323=some (.code ?c)->NFun) ?h
 case h=>conv=>{lhs;reduce;dsimp only[bg,aE,aD]}
theorem yn:af af8 323=some (.code LZ):=by kernel_rfl
def uP:NFun:=by
 refine (λ_=> ?c:af af8 324=some (.code ?c)->NFun) ?h
 case h=>conv=>{lhs;reduce;dsimp only[bg,aE,aD]}
def AE:NC:=by
 refine (λ_=> ?c:part (some (.code uP)) 0= ?c->NC) ?h
 case h=>
  conv=>{lhs;whnf}
def Mf:NFun:=by
 refine (λ_=> ?c:uP= ?c->NFun) ?h
 case h=>
  have f0:=AE.eq_1
  dsimp only at f0
  conv=>{lhs;delta uP;simp only[←f0]}
theorem zZ:af af8 324=some (.code Mf):=by kernel_rfl
def O5:NFun:=by
 refine (λ_=> ?c:af af8 325=some (.code ?c)->NFun) ?h
 case h=>conv=>{lhs;reduce;dsimp only[bg,aE,aD]}
theorem DD:af af8 325=some (.code O5):=by kernel_rfl
def Kr:NFun:=by
 refine (λ_=> ?c:af af8 326=some (.code ?c)->NFun) ?h
 case h=>conv=>{lhs;reduce;dsimp only[bg,aE,aD]}
theorem CW:af af8 326=some (.code Kr):=by kernel_rfl
def MH:NFun:=by
 refine (λ_=> ?c:af af8 327=some (.code ?c)->NFun) ?h
 case h=>conv=>{lhs;reduce;dsimp only[bg,aE,aD]}
theorem yp:af af8 327=some (.code MH):=by kernel_rfl
def LA:NFun:=by
 refine (λ_=> ?c:af af8 328=some (.code ?c)->NFun) ?h
 case h=>conv=>{lhs;reduce;dsimp only[bg,aE,aD]}
theorem yi:af af8 328=some (.code LA):=by kernel_rfl
def wM:NFun:=by
 refine (λ_=> ?c:af af8 329=some (.code ?c)->NFun) ?h
 case h=>conv=>{lhs;reduce;dsimp only[bg,aE,aD]}
def qh:NC:=by
 refine (λ_=> ?c:part (some (.code wM)) 0= ?c->NC) ?h
 case h=>
  conv=>{lhs;whnf}
def PS:NFun:=by
 refine (λ_=> ?c:wM= ?c->NFun) ?h
 case h=>
  have f0:=qh.eq_1
  dsimp only at f0
  conv=>{lhs;delta wM;simp only[←f0]}
theorem xH:af af8 329=some (.code PS):=by kernel_rfl
def Qb:NFun:=by
 refine (λ_=> ?c:af af8 330=some (.code ?c)->NFun) ?h
 case h=>conv=>{lhs;reduce;dsimp only[bg,aE,aD]}
theorem zx:af af8 330=some (.code Qb):=by kernel_rfl
def No:NFun:=by
 refine (λ_=> ?c:af af8 331=some (.code ?c)->NFun) ?h
 case h=>conv=>{lhs;reduce;dsimp only[bg,aE,aD]}
theorem y7:af af8 331=some (.code No):=by kernel_rfl
def KK:NFun:=by
 refine (λ_=> ?c:af af8 332=some (.code ?c)->NFun) ?h
 case h=>conv=>{lhs;reduce;dsimp only[bg,aE,aD]}
theorem BJ:af af8 332=some (.code KK):=by kernel_rfl
def OC:NFun:=by
 refine (λ_=> ?c:af af8 333=some (.code ?c)->NFun) ?h
 case h=>conv=>{lhs;reduce;dsimp only[bg,aE,aD]}
theorem yX:af af8 333=some (.code OC):=by kernel_rfl
def N7:NFun:=by
 refine (λ_=> ?c:af af8 334=some (.code ?c)->NFun) ?h
 case h=>conv=>{lhs;reduce;dsimp only[bg,aE,aD]}
theorem AW:af af8 334=some (.code N7):=by kernel_rfl
def vz:NFun:=by
 refine (λ_=> ?c:af af8 335=some (.code ?c)->NFun) ?h
 case h=>conv=>{lhs;reduce;dsimp only[bg,aE,aD]}
def yZ:NC:=by
 refine (λ_=> ?c:part (some (.code vz)) 0= ?c->NC) ?h
 case h=>
  conv=>{lhs;whnf}
def JO:NFun:=by
 refine (λ_=> ?c:vz= ?c->NFun) ?h
 case h=>
  have f0:=yZ.eq_1
  dsimp only at f0
  conv=>{lhs;delta vz;simp only[←f0]}
theorem Eb:af af8 335=some (.code JO):=by kernel_rfl
open Go Nm Go.Proofs
open Nm.D4 (e)
open Nm.NC (reg regD)
open Nm.C
def Ub:NFun:=by
 refine (λ_=> ?c:af af8 336=some (.code ?c)->NFun) ?h
 case h=>conv=>{lhs;reduce;dsimp only[bg,aE,aD]}
theorem Nz:af af8 336=some (.code Ub):=by kernel_rfl
def Us:NFun:=by
 refine (λ_=> ?c:af af8 337=some (.code ?c)->NFun) ?h
 case h=>conv=>{lhs;reduce;dsimp only[bg,aE,aD]}
theorem O3:af af8 337=some (.code Us):=by kernel_rfl
def wi:NFun:=by
 refine (λ_=> ?c:af af8 338=some (.code ?c)->NFun) ?h
 case h=>conv=>{lhs;reduce;dsimp only[bg,aE,aD]}
def mC:NC:=by
 refine (λ_=> ?c:part (some (.code wi)) 0= ?c->NC) ?h
 case h=>
  conv=>{lhs;whnf}
def NE:NFun:=by
 refine (λ_=> ?c:wi= ?c->NFun) ?h
 case h=>
  have f0:=mC.eq_1
  dsimp only at f0
  conv=>{lhs;delta wi;simp only[←f0]}
theorem DW:af af8 338=some (.code NE):=by kernel_rfl
def PJ:NFun:=by
 refine (λ_=> ?c:af af8 349=some (.code ?c)->NFun) ?h
 case h=>conv=>{lhs;reduce;dsimp only[bg,aE,aD]}
theorem BL:af af8 349=some (.code PJ):=by kernel_rfl
def KN:NFun:=by
 refine (λ_=> ?c:af af8 351=some (.code ?c)->NFun) ?h
 case h=>conv=>{lhs;reduce;dsimp only[bg,aE,aD]}
theorem Da:af af8 351=some (.code KN):=by kernel_rfl
def vE:NFun:=by
 refine (λ_=> ?c:af af8 352=some (.code ?c)->NFun) ?h
 case h=>conv=>{lhs;reduce;dsimp only[bg,aE,aD]}
def BR:NC:=by
 refine (λ_=> ?c:part (some (.code vE)) 0= ?c->NC) ?h
 case h=>
  conv=>{lhs;whnf}
def Ld:NFun:=by
 refine (λ_=> ?c:vE= ?c->NFun) ?h
 case h=>
  have f0:=BR.eq_1
  dsimp only at f0
  conv=>{lhs;delta vE;simp only[←f0]}
theorem Cq:af af8 352=some (.code Ld):=by kernel_rfl
def Nh:NFun:=by
 refine (λ_=> ?c:af af8 353=some (.code ?c)->NFun) ?h
 case h=>conv=>{lhs;reduce;dsimp only[bg,aE,aD]}
theorem xN:af af8 353=some (.code Nh):=by kernel_rfl
def Lf:NFun:=by
 refine (λ_=> ?c:af af8 354=some (.code ?c)->NFun) ?h
 case h=>conv=>{lhs;reduce;dsimp only[bg,aE,aD]}
theorem Co:af af8 354=some (.code Lf):=by kernel_rfl
def Kf:NFun:=by
 refine (λ_=> ?c:af af8 355=some (.code ?c)->NFun) ?h
 case h=>conv=>{lhs;reduce;dsimp only[bg,aE,aD]}
theorem xR:af af8 355=some (.code Kf):=by kernel_rfl
def OO:NFun:=by
 refine (λ_=> ?c:af af8 356=some (.code ?c)->NFun) ?h
 case h=>conv=>{lhs;reduce;dsimp only[bg,aE,aD]}
theorem Ei:af af8 356=some (.code OO):=by kernel_rfl
def PL:NFun:=by
 refine (λ_=> ?c:af af8 357=some (.code ?c)->NFun) ?h
 case h=>conv=>{lhs;reduce;dsimp only[bg,aE,aD]}
theorem AM:af af8 357=some (.code PL):=by kernel_rfl
def my:NFun:=by
 refine (λ_=> ?c:af af8 358=some (.code ?c)->NFun) ?h
 case h=>conv=>{lhs;reduce;dsimp only[bg,aE,aD]}
def mj:NC:=by
 refine (λ_=> ?c:part (some (.code my)) 0= ?c->NC) ?h
 case h=>
  conv=>{lhs;whnf}
def qC:NC:=by
 refine (λ_=> ?c:part (some (.code my)) 2= ?c->NC) ?h
 case h=>
  have f0:=mj.eq_1
  dsimp only at f0
  conv=>{lhs;whnf;simp only[←f0]}
def zY:NC:=by
 refine (λ_=> ?c:part (some (.code my)) 1= ?c->NC) ?h
 case h=>
  have f0:=mj.eq_1
  dsimp only at f0
  have f1:=qC.eq_1
  dsimp only at f1
  conv=>{lhs;whnf;simp only[←f0,←f1]}
def NP:NFun:=by
 refine (λ_=> ?c:my= ?c->NFun) ?h
 case h=>
  have f0:=mj.eq_1
  dsimp only at f0
  have f1:=qC.eq_1
  dsimp only at f1
  have f2:=zY.eq_1
  dsimp only at f2
  conv=>{lhs;delta my;simp only[←f0,←f1,←f2]}
theorem xz:af af8 358=some (.code NP):=by kernel_rfl
def Pj:NFun:=by
 refine (λ_=> ?c:af af8 359=some (.code ?c)->NFun) ?h
 case h=>conv=>{lhs;reduce;dsimp only[bg,aE,aD]}
theorem DP:af af8 359=some (.code Pj):=by kernel_rfl
def vG:NFun:=by
 refine (λ_=> ?c:af af8 360=some (.code ?c)->NFun) ?h
 case h=>conv=>{lhs;reduce;dsimp only[bg,aE,aD]}
def Cm:NC:=by
 refine (λ_=> ?c:part (some (.code vG)) 0= ?c->NC) ?h
 case h=>
  conv=>{lhs;whnf}
def Nq:NFun:=by
 refine (λ_=> ?c:vG= ?c->NFun) ?h
 case h=>
  have f0:=Cm.eq_1
  dsimp only at f0
  conv=>{lhs;delta vG;simp only[←f0]}
theorem Dj:af af8 360=some (.code Nq):=by kernel_rfl
def Oj:NFun:=by
 refine (λ_=> ?c:af af8 361=some (.code ?c)->NFun) ?h
 case h=>conv=>{lhs;reduce;dsimp only[bg,aE,aD]}
theorem yQ:af af8 361=some (.code Oj):=by kernel_rfl
def uV:NFun:=by
 refine (λ_=> ?c:af af8 362=some (.code ?c)->NFun) ?h
 case h=>conv=>{lhs;reduce;dsimp only[bg,aE,aD]}
def J7:NC:=by
 refine (λ_=> ?c:part (some (.code uV)) 0= ?c->NC) ?h
 case h=>
  conv=>{lhs;whnf}
def Ud:NFun:=by
 refine (λ_=> ?c:uV= ?c->NFun) ?h
 case h=>
  have f0:=J7.eq_1
  dsimp only at f0
  conv=>{lhs;delta uV;simp only[←f0]}
theorem KQ:af af8 362=some (.code Ud):=by kernel_rfl
def T0:NFun:=⟨(reg [o Ae (.move (k 0)) 0]).seq ((regD [l Ar A6 0,O A2 (.nilCheck Ar) 1 1,O Aa (.fieldAddr 0 A2) 3 2,O A7 (.load1 Aa) 7 3,m A3 e 4,O Aj (.indexSlc 2 A7 A3) 31 5,O Ak (.fieldAddr 1 Aj) 63 6,O A9 (.load1 Ak) 127 7,l Ag A6 8,O Al (.nilCheck Ag) 256 9,O Am (.fieldAddr 0 Al) 768 10,O Ab (.load1 Am) 1792 11,m Ad A0 12,O A4 (.indexSlc 2 Ab Ad) 7936 13,O A5 (.fieldAddr 1 A4) 16128 14,O A1 (.load1 A5) 32512 15,m Ah e 17,m Af A0 18,O Ap (.call (F 333) [A9,A1]) 65535 16,O An (.call (F 333) [Ah,Af]) 524287 19,O Aq (.buildSlice [z0,z0] 1 2 3 [(0,1,Ap),(1,1,An)]) 1048575 20,O Ao (.call (F 364) [Aq]) 2097151 21,O Ae (.move Ao) 4194303 22]).seq rt),28, [.tmp Ae]⟩
theorem PU:af af8 363=some (.code T0):=by kernel_rfl
def wF:NFun:=by
 refine (λ_=> ?c:af af8 364=some (.code ?c)->NFun) ?h
 case h=>conv=>{lhs;reduce;dsimp only[bg,aE,aD]}
def Mn:NC:=by
 refine (λ_=> ?c:part (some (.code wF)) 0= ?c->NC) ?h
 case h=>
  conv=>{lhs;whnf}
def Uf:NFun:=by
 refine (λ_=> ?c:wF= ?c->NFun) ?h
 case h=>
  have f0:=Mn.eq_1
  dsimp only at f0
  conv=>{lhs;delta wF;simp only[←f0]}
theorem PH:af af8 364=some (.code Uf):=by kernel_rfl
def wc:NFun:=by
 refine (λ_=> ?c:af af8 369=some (.code ?c)->NFun) ?h
 case h=>conv=>{lhs;reduce;dsimp only[bg,aE,aD]}
def Mh:NC:=by
 refine (λ_=> ?c:part (some (.code wc)) 0= ?c->NC) ?h
 case h=>
  conv=>{lhs;whnf}
def LX:NFun:=by
 refine (λ_=> ?c:wc= ?c->NFun) ?h
 case h=>
  have f0:=Mh.eq_1
  dsimp only at f0
  conv=>{lhs;delta wc;simp only[←f0]}
theorem zg:af af8 369=some (.code LX):=by kernel_rfl
def LH:NFun:=by
 refine (λ_=> ?c:af af8 370=some (.code ?c)->NFun) ?h
 case h=>conv=>{lhs;reduce;dsimp only[bg,aE,aD]}
theorem BM:af af8 370=some (.code LH):=by kernel_rfl
def LS:NFun:=by
 refine (λ_=> ?c:af af8 371=some (.code ?c)->NFun) ?h
 case h=>conv=>{lhs;reduce;dsimp only[bg,aE,aD]}
theorem AR:af af8 371=some (.code LS):=by kernel_rfl
def uR:NFun:=by
 refine (λ_=> ?c:af af8 372=some (.code ?c)->NFun) ?h
 case h=>conv=>{lhs;reduce;dsimp only[bg,aE,aD]}
def AJ:NC:=by
 refine (λ_=> ?c:part (some (.code uR)) 0= ?c->NC) ?h
 case h=>
  conv=>{lhs;whnf}
def Pt:NFun:=by
 refine (λ_=> ?c:uR= ?c->NFun) ?h
 case h=>
  have f0:=AJ.eq_1
  dsimp only at f0
  conv=>{lhs;delta uR;simp only[←f0]}
theorem AA:af af8 372=some (.code Pt):=by kernel_rfl
def NU:NFun:=by
 refine (λ_=> ?c:af af8 373=some (.code ?c)->NFun) ?h
 case h=>conv=>{lhs;reduce;dsimp only[bg,aE,aD]}
theorem yg:af af8 373=some (.code NU):=by kernel_rfl
def AP:NC:=(((regD [m Ad A7 0,m A4 A0 1,O A5 (.bin .num .gtr Ad A4) 3 2,O A1 (.move A5) 7 3,⟨some Ap,.move A8,some (A1,true),15,4⟩,⟨some Ah,.move e,some (A1,true),15,5⟩,⟨some Af,.move A7,some (A1,true),15,6⟩,⟨some An,.indexSlc 1 Ah Af,some (A1,true),111,7⟩,⟨some Aq,.load1 An,some (A1,true),239,8⟩,⟨some Ao,.move e,some (A1,true),15,9⟩,⟨some B1,.move A7,some (A1,true),15,10⟩,⟨some Ac,.bin .num .sub B1 (k 1),some (A1,true),1039,11⟩,⟨some At,.indexSlc 1 Ao Ac,some (A1,true),3599,12⟩,⟨some Au,.load1 At,some (A1,true),7695,13⟩,⟨some Av,.call Ap [Aq,Au],some (A1,true),16383,14⟩,⟨some Aw,.bin .num .lss Av (k 0),some (A1,true),32767,15⟩,O Ax (.pick A1 Aw kf) 65535 16]).seq (cd Ax sk (ex 2))).seq ((bk 3 (regD [m B0 e 0,m B2 A7 1,m Ai e 2,m B3 A7 3,O B6 (.bin .num .sub B3 (k 1)) 8 4,m As e 5,m B7 A7 6,O B4 (.bin .num .sub B7 (k 1)) 64 7,O B8 (.indexSlc 1 As B4) 224 8,O B5 (.load1 B8) 480 9,m B9 e 10,m Bb A7 11,O Be (.indexSlc 1 B9 Bb) 3072 12,O Bc (.load1 Be) 7168 13,O Bf (.indexSlc 1 B0 B2) 16355 14,⟨none,.store 1 Bf B5,none,32739,15⟩,O Bd (.indexSlc 1 Ai B6) 65535 16,⟨none,.store 1 Bd Bc,none,131071,17⟩])).seq (reg [m Ay A7 0,b Az .sub Ay (k 1) 1,m A7 Az 2])))
def DO:NC:=(((reg [m Ak Aa 0,m A9 A6 1,b Ag .lss Ak A9 2]).seq (cd Ag sk (ex 0))).seq ((bk 1 ((reg [m Ab Aa 0,m A7 Ab 1]).seq (bk 2 AP.loop))).seq (reg [m Al Aa 0,b Am .add Al (k 1) 1,m Aa Am 2])))
def Os:NFun:=⟨(reg [m A3 A0 0,b Aj .add A3 (k 1) 1,m Aa Aj 2]).seq (bk 0 DO.loop),53, []⟩
theorem yd:af af8 374=some (.code Os):=by kernel_rfl
def zr:NC:=(((reg [m e.a.b.b.f Ab 0,m e.a.b.c.a Ag 1,b e.a.b.c.b .gtr e.a.b.b.f e.a.b.c.a 2]).seq (cd e.a.b.c.b sk (ex 6))).seq ((bk 7 (regD [m e.a.b.f.a e 0,m e.a.b.f.b Ab 1,m e.a.b.f.c e 2,m e.a.b.f.f Ab 3,O e.a.c.a.a (.bin .num .sub e.a.b.f.f (k 1)) 8 4,m e.a.c.a.b e 5,m e.a.c.a.c Ab 6,O e.a.c.a.f (.bin .num .sub e.a.c.a.c (k 1)) 64 7,O e.a.c.b.a (.indexSlc 1 e.a.c.a.b e.a.c.a.f) 224 8,O e.a.c.b.b (.load1 e.a.c.b.a) 480 9,m e.a.c.b.c e 10,m e.a.c.b.f Ab 11,O e.a.c.c.a (.indexSlc 1 e.a.c.b.c e.a.c.b.f) 3072 12,O e.a.c.c.b (.load1 e.a.c.c.a) 7168 13,O e.a.c.c.c (.indexSlc 1 e.a.b.f.a e.a.b.f.b) 16355 14,⟨none,.store 1 e.a.c.c.c e.a.c.b.b,none,32739,15⟩,O e.a.c.c.f (.indexSlc 1 e.a.b.f.c e.a.c.a.a) 65535 16,⟨none,.store 1 e.a.c.c.f e.a.c.c.b,none,131071,17⟩])).seq (reg [m e.a.b.c.c Ab 0,b e.a.b.c.f .sub e.a.b.c.c (k 1) 1,m Ab e.a.b.c.f 2])))
def Cj:NC:=(((reg [m Bj A9 0,m Bp A3 1,b Bq .sub Bp (k 1) 2,b Bk .lss Bj Bq 3]).seq (cd Bk sk (ex 2))).seq ((bk 3 (regD [m Bs e 0,m Bt A9 1,m Bu e 2,m Bm A9 3,O Bv (.bin .num .add Bm (k 1)) 8 4,m Bn e 5,m Bw A9 6,O Bo (.bin .num .add Bw (k 1)) 64 7,O Ba (.indexSlc 1 Bn Bo) 224 8,O Bx (.load1 Ba) 480 9,m e.f.a.c e 10,m e.f.a.f A9 11,O e.f.b.a (.indexSlc 1 e.f.a.c e.f.a.f) 3072 12,O Bh (.load1 e.f.b.a) 7168 13,O e.f.b.c (.indexSlc 1 Bs Bt) 16355 14,⟨none,.store 1 e.f.b.c Bx,none,32739,15⟩,O e.f.b.f (.indexSlc 1 Bu Bv) 65535 16,⟨none,.store 1 e.f.b.f Bh,none,131071,17⟩])).seq (reg [m Br A9 0,b Bl .add Br (k 1) 1,m A9 Bl 2])))
def DH:NC:=(((reg [m Au A3 0,m Av Aj 1,b Aw .lss Au Av 2]).seq (cd Aw sk (ex 0))).seq (bk 1 ((reg [m Ax A3 0,m Ay Aj 1,b Az .add Ax Ay 2,o B0 (.toInt .u64 Az) 3,b B2 .shr B0 (ku 1) 4,o Ai (.toInt .i64 B2) 5,m Ak Ai 6]).seq ((regD [m B3 e.f 0,m B6 e 1,m As Ak 2,O B7 (.indexSlc 1 B6 As) 6 3,O B4 (.load1 B7) 14 4,m B8 e 5,m B5 A0 6,O B9 (.indexSlc 1 B8 B5) 96 7,O Bb (.load1 B9) 224 8,O Be (.call B3 [B4,Bb]) 511 9,O Bc (.bin .num .lss Be (k 0)) 1023 10]).seq (cd Bc (reg [m Bf Ak 0,b Bd .add Bf (k 1) 1,m A3 Bd 2]) (reg [m Bg Ak 0,m Aj Bg 1]))))))
def xJ:NC:=(((reg [m e.f.f.c Ag 0,m e.f.f.f Al 1,b C1 .lss e.f.f.c e.f.f.f 2]).seq (cd C1 sk (ex 4))).seq (bk 5 ((reg [m C2 Ag 0,m C3 Al 1,b C4 .add C2 C3 2,o C5 (.toInt .u64 C4) 3,b C6 .shr C5 (ku 1) 4,o C7 (.toInt .i64 C6) 5,m Am C7 6]).seq ((regD [m C8 e.f 0,m e.a.a.c.a e 1,m e.a.a.c.b A6 2,O e.a.a.c.c (.indexSlc 1 e.a.a.c.a e.a.a.c.b) 6 3,O e.a.a.c.f (.load1 e.a.a.c.c) 14 4,m e.a.a.f.a e 5,m e.a.a.f.b Am 6,O e.a.a.f.c (.indexSlc 1 e.a.a.f.a e.a.a.f.b) 96 7,O e.a.a.f.f (.load1 e.a.a.f.c) 224 8,O e.a.b.a.a (.call C8 [e.a.a.c.f,e.a.a.f.f]) 511 9,O e.a.b.a.b (.bin .num .lss e.a.b.a.a (k 0)) 1023 10,O e.a.b.a.c (.un .not e.a.b.a.b) 2047 11]).seq (cd e.a.b.a.c (reg [m e.a.b.a.f Am 0,b e.a.b.b.a .add e.a.b.a.f (k 1) 1,m Ag e.a.b.b.a 2]) (reg [m e.a.b.b.b Am 0,m Al e.a.b.b.b 1]))))))
def qM:NC:=(((reg [m e.b.a.a.a A5 0,m e.b.a.a.b A1 1,b e.b.a.a.c .lss e.b.a.a.a e.b.a.a.b 2]).seq (cd e.b.a.a.c sk (ex 8))).seq (bk 9 ((reg [m e.b.a.a.f A5 0,m e.b.a.b.a A1 1,b e.b.a.b.b .add e.b.a.a.f e.b.a.b.a 2,o e.b.a.b.c (.toInt .u64 e.b.a.b.b) 3,b e.b.a.b.f .shr e.b.a.b.c (ku 1) 4,o e.b.a.c.a (.toInt .i64 e.b.a.b.f) 5,m Ah e.b.a.c.a 6]).seq ((regD [m e.b.a.c.b e.f 0,m e.b.a.c.c e 1,m e.b.a.c.f Ap 2,m e.b.a.f.a Ah 3,O e.b.a.f.b (.bin .num .sub e.b.a.c.f e.b.a.f.a) 12 4,O e.b.a.f.c (.indexSlc 1 e.b.a.c.c e.b.a.f.b) 30 5,O e.b.a.f.f (.load1 e.b.a.f.c) 62 6,m e.b.b.a.a e 7,m e.b.b.a.b Ah 8,O e.b.b.a.c (.indexSlc 1 e.b.b.a.a e.b.b.a.b) 384 9,O e.b.b.a.f (.load1 e.b.b.a.c) 896 10,O e.b.b.b.a (.call e.b.a.c.b [e.b.a.f.f,e.b.b.a.f]) 2047 11,O e.b.b.b.b (.bin .num .lss e.b.b.b.a (k 0)) 4095 12,O e.b.b.b.c (.un .not e.b.b.b.b) 8191 13]).seq (cd e.b.b.b.c (reg [m e.b.b.b.f Ah 0,b e.b.b.c.a .add e.b.b.b.f (k 1) 1,m A5 e.b.b.c.a 2]) (reg [m e.b.b.c.b Ah 0,m A1 e.b.b.c.b 1]))))))
def y9:NFun:=⟨((reg [m An A6 0,m Aq A0 1,b Ao .sub An Aq 2,b B1 .eql Ao (k 1) 3]).seq (cd B1 ((reg [m Ac A6 0,m A3 Ac 1]).seq ((reg [m At A8 0,m Aj At 1]).seq ((bk 0 DH.loop).seq (((reg [m Bi A0 0,m A9 Bi 1]).seq (bk 2 Cj.loop)).seq rt)))) sk)).seq (((reg [m e.f.c.a A8 0,m e.f.c.b A6 1,b e.f.c.c .sub e.f.c.a e.f.c.b 2,b e.f.c.f .eql e.f.c.c (k 1) 3]).seq (cd e.f.c.f ((reg [m e.f.f.a A0 0,m Ag e.f.f.a 1]).seq ((reg [m e.f.f.b A6 0,m Al e.f.f.b 1]).seq ((bk 4 xJ.loop).seq (((reg [m e.a.b.b.c A6 0,m Ab e.a.b.b.c 1]).seq (bk 6 zr.loop)).seq rt)))) sk)).seq ((reg [m e.a.c.f.a A0 0,m e.a.c.f.b A8 1,b e.a.c.f.c .add e.a.c.f.a e.a.c.f.b 2,o e.a.c.f.f (.toInt .u64 e.a.c.f.c) 3,b e.a.f.a.a .shr e.a.c.f.f (ku 1) 4,o e.a.f.a.b (.toInt .i64 e.a.f.a.a) 5,m Ad e.a.f.a.b 6]).seq ((reg [m e.a.f.a.c Ad 0,m e.a.f.a.f A6 1,b e.a.f.b.a .add e.a.f.a.c e.a.f.a.f 2,m A4 e.a.f.b.a 3]).seq ((reg [o A5 (.move (k 0)) 0,o A1 (.move (k 0)) 1]).seq (((reg [m e.a.f.b.b A6 0,m e.a.f.b.c Ad 1,b e.a.f.b.f .gtr e.a.f.b.b e.a.f.b.c 2]).seq (cd e.a.f.b.f ((reg [m e.a.f.c.a A4 0,m e.a.f.c.b A8 1,b e.a.f.c.c .sub e.a.f.c.a e.a.f.c.b 2,m A5 e.a.f.c.c 3]).seq (reg [m e.a.f.c.f Ad 0,m A1 e.a.f.c.f 1])) ((reg [m e.a.f.f.a A0 0,m A5 e.a.f.f.a 1]).seq (reg [m e.a.f.f.b A6 0,m A1 e.a.f.f.b 1])))).seq ((reg [m e.a.f.f.c A4 0,b e.a.f.f.f .sub e.a.f.f.c (k 1) 1,m Ap e.a.f.f.f 2]).seq ((bk 8 qM.loop).seq ((reg [m e.b.b.c.c A4 0,m e.b.b.c.f A5 1,b e.b.b.f.a .sub e.b.b.c.c e.b.b.c.f 2,m Af e.b.b.f.a 3]).seq (((reg [m e.b.b.f.b A5 0,m e.b.b.f.c A6 1,b e.b.b.f.f .lss e.b.b.f.b e.b.b.f.c 2,m By e.b.b.f.f 3,G e.b.c.a.b (.move A6) By true 4,G e.b.c.a.c (.move Af) By true 5,G e.b.c.a.f (.bin .num .lss e.b.c.a.b e.b.c.a.c) By true 6,o e.b.c.b.a (.pick By e.b.c.a.f kf) 7]).seq (cd e.b.c.b.a (reg [m e.b.c.b.b e 0,m e.b.c.b.c A5 1,m e.b.c.b.f A6 2,m e.b.c.c.a Af 3,m e.b.c.c.b e.f 4,o e.b.c.c.c (.call (F 383) [e.b.c.b.b,e.b.c.b.c,e.b.c.b.f,e.b.c.c.a,e.b.c.c.b]) 5]) sk)).seq (((reg [m e.b.c.c.f A0 0,m e.b.c.f.a A5 1,b e.b.c.f.b .lss e.b.c.c.f e.b.c.f.a 2,m Bz e.b.c.f.b 3,G e.b.c.f.f (.move A5) Bz true 4,G e.b.f.a.a (.move Ad) Bz true 5,G e.b.f.a.b (.bin .num .lss e.b.c.f.f e.b.f.a.a) Bz true 6,o e.b.f.a.c (.pick Bz e.b.f.a.b kf) 7]).seq (cd e.b.f.a.c (reg [m e.b.f.a.f e 0,m e.b.f.b.a A0 1,m e.b.f.b.b A5 2,m e.b.f.b.c Ad 3,m e.b.f.b.f e.f 4,o e.b.f.c.a (.call (F 375) [e.b.f.a.f,e.b.f.b.a,e.b.f.b.b,e.b.f.b.c,e.b.f.b.f]) 5]) sk)).seq ((reg [m e.b.f.c.b Ad 0,m e.b.f.c.c Af 1,b e.b.f.c.f .lss e.b.f.c.b e.b.f.c.c 2,m C0 e.b.f.c.f 3,G e.b.f.f.b (.move Af) C0 true 4,G e.b.f.f.c (.move A8) C0 true 5,G e.b.f.f.f (.bin .num .lss e.b.f.f.b e.b.f.f.c) C0 true 6,o e.c.a.a.a (.pick C0 e.b.f.f.f kf) 7]).seq (cd e.c.a.a.a (reg [m e.c.a.a.b e 0,m e.c.a.a.c Ad 1,m e.c.a.a.f Af 2,m e.c.a.b.a A8 3,m e.c.a.b.b e.f 4,o e.c.a.b.c (.call (F 375) [e.c.a.a.b,e.c.a.a.c,e.c.a.a.f,e.c.a.b.a,e.c.a.b.b]) 5]) sk)))))))))))),220, []⟩
theorem lY:af af8 375=some (.code y9):=by kernel_rfl
def wm:NFun:=by
 refine (λ_=> ?c:af af8 376=some (.code ?c)->NFun) ?h
 case h=>conv=>{lhs;reduce;dsimp only[bg,aE,aD]}
def zV:NC:=by
 refine (λ_=> ?c:part (some (.code wm)) 0= ?c->NC) ?h
 case h=>
  conv=>{lhs;whnf}
def PC:NFun:=by
 refine (λ_=> ?c:wm= ?c->NFun) ?h
 case h=>
  have f0:=zV.eq_1
  dsimp only at f0
  conv=>{lhs;delta wm;simp only[←f0]}
theorem CO:af af8 376=some (.code PC):=by kernel_rfl
def Kq:NFun:=by
 refine (λ_=> ?c:af af8 379=some (.code ?c)->NFun) ?h
 case h=>conv=>{lhs;reduce;dsimp only[bg,aE,aD]}
theorem DI:af af8 379=some (.code Kq):=by kernel_rfl
def UB:NFun:=by
 refine (λ_=> ?c:af af8 381=some (.code ?c)->NFun) ?h
 case h=>conv=>{lhs;reduce;dsimp only[bg,aE,aD]}
theorem KV:af af8 381=some (.code UB):=by kernel_rfl
def pF:NFun:=by
 refine (λ_=> ?c:af af8 382=some (.code ?c)->NFun) ?h
 case h=>conv=>{lhs;reduce;dsimp only[bg,aE,aD]}
def zX:NC:=by
 refine (λ_=> ?c:part (some (.code pF)) 0= ?c->NC) ?h
 case h=>
  conv=>{lhs;whnf}
def Ox:NC:=by
 refine (λ_=> ?c:part (some (.code pF)) 1= ?c->NC) ?h
 case h=>
  have f0:=zX.eq_1
  dsimp only at f0
  conv=>{lhs;whnf;simp only[←f0]}
def TW:NFun:=by
 refine (λ_=> ?c:pF= ?c->NFun) ?h
 case h=>
  have f0:=zX.eq_1
  dsimp only at f0
  have f1:=Ox.eq_1
  dsimp only at f1
  conv=>{lhs;delta pF;simp only[←f0,←f1]}
theorem JX:af af8 382=some (.code TW):=by kernel_rfl
def uM:NFun:=by
 refine (λ_=> ?c:af af8 383=some (.code ?c)->NFun) ?h
 case h=>conv=>{lhs;reduce;dsimp only[bg,aE,aD]}
def CQ:NC:=by
 refine (λ_=> ?c:part (some (.code uM)) 0= ?c->NC) ?h
 case h=>
  conv=>{lhs;whnf}
def Pm:NFun:=by
 refine (λ_=> ?c:uM= ?c->NFun) ?h
 case h=>
  have f0:=CQ.eq_1
  dsimp only at f0
  conv=>{lhs;delta uM;simp only[←f0]}
theorem zQ:af af8 383=some (.code Pm):=by kernel_rfl
def pL:NFun:=by
 refine (λ_=> ?c:af af8 385=some (.code ?c)->NFun) ?h
 case h=>conv=>{lhs;reduce;dsimp only[bg,aE,aD]}
def zn:NC:=by
 refine (λ_=> ?c:part (some (.code pL)) 0= ?c->NC) ?h
 case h=>
  conv=>{lhs;whnf}
def Of:NC:=by
 refine (λ_=> ?c:part (some (.code pL)) 1= ?c->NC) ?h
 case h=>
  have f0:=zn.eq_1
  dsimp only at f0
  conv=>{lhs;whnf;simp only[←f0]}
def Ux:NFun:=by
 refine (λ_=> ?c:pL= ?c->NFun) ?h
 case h=>
  have f0:=zn.eq_1
  dsimp only at f0
  have f1:=Of.eq_1
  dsimp only at f1
  conv=>{lhs;delta pL;simp only[←f0,←f1]}
theorem Lr:af af8 385=some (.code Ux):=by kernel_rfl
def DZ:NC:=(((reg [m Aj A3 0,m Ak A8 1,b A9 .lss Aj Ak 2]).seq (cd A9 sk (ex 0))).seq ((bk 1 (regD [m Am e 0,m Ab A0 1,m Ad A3 2,O A4 (.bin .num .add Ab Ad) 6 3,m A5 e 4,m A1 A6 5,m Ap A3 6,O Ah (.bin .num .add A1 Ap) 96 7,m Af e 8,m An A6 9,m Aq A3 10,O Ao (.bin .num .add An Aq) 1536 11,O B1 (.indexSlc 1 Af Ao) 3840 12,O Ac (.load1 B1) 7936 13,m At e 14,m Au A0 15,m Av A3 16,O Aw (.bin .num .add Au Av) 98304 17,O Ax (.indexSlc 1 At Aw) 245760 18,O Ay (.load1 Ax) 507904 19,O Az (.indexSlc 1 Am A4) 1048335 20,⟨none,.store 1 Az Ac,none,2096911,21⟩,O B0 (.indexSlc 1 A5 Ah) 4194303 22,⟨none,.store 1 B0 Ay,none,8388607,23⟩])).seq (reg [m Ag A3 0,b Al .add Ag (k 1) 1,m A3 Al 2])))
def LT:NFun:=⟨(reg [o A3 (.move (k 0)) 0]).seq (bk 0 DZ.loop),38, []⟩
theorem xt:af af8 386=some (.code LT):=by kernel_rfl
open Go Nm Go.Proofs
open Nm.D4 (e)
open Nm.NC (reg regD)
open Nm.C
def code:Nat->Option NFn:=(ao 272 (ao 202 (ao 129 (ao 76 (ao 38 (ao 35 (ao 6 (an af8 6 nf6) (an af8 35 Zf)) (ao 36 (an af8 36 Vv) (ao 37 (an af8 37 UT) (an af8 38 VV)))) (ao 52 (ao 51 (an af8 51 Yq) (an af8 52 WH)) (ao 74 (an af8 74 Lk) (ao 75 (an af8 75 WA) (an af8 76 Xi))))) (ao 106 (ao 78 (ao 77 (an af8 77 UN) (an af8 78 VA)) (ao 79 (an af8 79 U5) (ao 80 (an af8 80 V5) (an af8 106 MO)))) (ao 126 (ao 125 (an af8 125 LU) (an af8 126 tY)) (ao 127 (an af8 127 Qm) (ao 128 (an af8 128 Li) (an af8 129 Og)))))) (ao 166 (ao 134 (ao 131 (ao 130 (an af8 130 Kb) (an af8 131 Nw)) (ao 132 (an af8 132 NW) (ao 133 (an af8 133 JU) (an af8 134 MP)))) (ao 136 (ao 135 (an af8 135 Nk) (an af8 136 Mw)) (ao 164 (an af8 164 MY) (ao 165 (an af8 165 L7) (an af8 166 PR))))) (ao 196 (ao 168 (ao 167 (an af8 167 Ks) (an af8 168 Pd)) (ao 194 (an af8 194 OL) (ao 195 (an af8 195 Lh) (an af8 196 Pu)))) (ao 199 (ao 197 (an af8 197 Ls) (ao 198 (an af8 198 LM) (an af8 199 Pr))) (ao 200 (an af8 200 NI) (ao 201 (an af8 201 JP) (an af8 202 Nv))))))) (ao 242 (ao 212 (ao 207 (ao 204 (ao 203 (an af8 203 PY) (an af8 204 MJ)) (ao 205 (an af8 205 Qd) (ao 206 (an af8 206 NX) (an af8 207 Ot)))) (ao 209 (ao 208 (an af8 208 Ka) (an af8 209 MD)) (ao 210 (an af8 210 Na) (ao 211 (an af8 211 LF) (an af8 212 Pe))))) (ao 217 (ao 214 (ao 213 (an af8 213 NA) (an af8 214 Nu)) (ao 215 (an af8 215 J3) (ao 216 (an af8 216 Ny) (an af8 217 PK)))) (ao 220 (ao 218 (an af8 218 Lu) (ao 219 (an af8 219 Nf) (an af8 220 PI))) (ao 221 (an af8 221 Qg) (ao 241 (an af8 241 LL) (an af8 242 LE)))))) (ao 252 (ao 247 (ao 244 (ao 243 (an af8 243 N3) (an af8 244 P7)) (ao 245 (an af8 245 MG) (ao 246 (an af8 246 Ni) (an af8 247 Kv)))) (ao 249 (ao 248 (an af8 248 OS) (an af8 249 OM)) (ao 250 (an af8 250 Pz) (ao 251 (an af8 251 Kz) (an af8 252 MB))))) (ao 266 (ao 254 (ao 253 (an af8 253 P6) (an af8 254 N9)) (ao 264 (an af8 264 KJ) (ao 265 (an af8 265 LJ) (an af8 266 K3)))) (ao 269 (ao 267 (an af8 267 Mp) (ao 268 (an af8 268 MN) (an af8 269 Oe))) (ao 270 (an af8 270 L9) (ao 271 (an af8 271 NB) (an af8 272 OG)))))))) (ao 325 (ao 298 (ao 282 (ao 277 (ao 274 (ao 273 (an af8 273 Mt) (an af8 274 Hz)) (ao 275 (an af8 275 MA) (ao 276 (an af8 276 OJ) (an af8 277 P3)))) (ao 279 (ao 278 (an af8 278 Nj) (an af8 279 LY)) (ao 280 (an af8 280 LR) (ao 281 (an af8 281 Ph) (an af8 282 NM))))) (ao 287 (ao 284 (ao 283 (an af8 283 Ok) (an af8 284 Ns)) (ao 285 (an af8 285 N6) (ao 286 (an af8 286 Oi) (an af8 287 LW)))) (ao 290 (ao 288 (an af8 288 PQ) (ao 289 (an af8 289 J5) (an af8 290 NJ))) (ao 291 (an af8 291 NK) (ao 297 (an af8 297 GU) (an af8 298 Kx)))))) (ao 314 (ao 309 (ao 306 (ao 299 (an af8 299 Ku) (an af8 306 Kl)) (ao 307 (an af8 307 JY) (ao 308 (an af8 308 J2) (an af8 309 Mk)))) (ao 311 (ao 310 (an af8 310 Pv) (an af8 311 O4)) (ao 312 (an af8 312 N5) (ao 313 (an af8 313 Qk) (an af8 314 OQ))))) (ao 319 (ao 316 (ao 315 (an af8 315 J6) (an af8 316 Mq)) (ao 317 (an af8 317 Kd) (ao 318 (an af8 318 Oc) (an af8 319 GW)))) (ao 322 (ao 320 (an af8 320 Lw) (ao 321 (an af8 321 Qh) (an af8 322 Pb))) (ao 323 (an af8 323 LZ) (ao 324 (an af8 324 Mf) (an af8 325 O5))))))) (ao 357 (ao 335 (ao 330 (ao 327 (ao 326 (an af8 326 Kr) (an af8 327 MH)) (ao 328 (an af8 328 LA) (ao 329 (an af8 329 PS) (an af8 330 Qb)))) (ao 332 (ao 331 (an af8 331 No) (an af8 332 KK)) (ao 333 (an af8 333 OC) (ao 334 (an af8 334 N7) (an af8 335 JO))))) (ao 351 (ao 337 (ao 336 (an af8 336 Ub) (an af8 337 Us)) (ao 338 (an af8 338 NE) (ao 349 (an af8 349 PJ) (an af8 351 KN)))) (ao 354 (ao 352 (an af8 352 Ld) (ao 353 (an af8 353 Nh) (an af8 354 Lf))) (ao 355 (an af8 355 Kf) (ao 356 (an af8 356 OO) (an af8 357 PL)))))) (ao 371 (ao 362 (ao 359 (ao 358 (an af8 358 NP) (an af8 359 Pj)) (ao 360 (an af8 360 Nq) (ao 361 (an af8 361 Oj) (an af8 362 Ud)))) (ao 364 (ao 363 (an af8 363 T0) (an af8 364 Uf)) (ao 369 (an af8 369 LX) (ao 370 (an af8 370 LH) (an af8 371 LS))))) (ao 376 (ao 373 (ao 372 (an af8 372 Pt) (an af8 373 NU)) (ao 374 (an af8 374 Os) (ao 375 (an af8 375 y9) (an af8 376 PC)))) (ao 382 (ao 379 (an af8 379 Kq) (ao 381 (an af8 381 UB) (an af8 382 TW))) (ao 383 (an af8 383 Pm) (ao 385 (an af8 385 Ux) (an af8 386 LT)))))))))
theorem fI:gK af8 code:=(ah (ah (ah (ah (ah (ah (ah (ag EL) (ag Rg)) (ah (ag Hh) (ah (ag HM) (ag HZ)))) (ah (ah (ag S3) (ag Hp)) (ah (ag pH) (ah (ag GV) (ag HB))))) (ah (ah (ah (ag Hm) (ag He)) (ah (ag Hi) (ah (ag Ha) (ag yW)))) (ah (ah (ag Dv) (ag rj)) (ah (ag AG) (ah (ag yE) (ag yj)))))) (ah (ah (ah (ah (ag xr) (ag Eh)) (ah (ag Du) (ah (ag AF) (ag zK)))) (ah (ah (ag zD) (ag CN)) (ah (ag y6) (ah (ag xZ) (ag xI))))) (ah (ah (ah (ag Cu) (ag AC)) (ah (ag Ch) (ah (ag CU) (ag BY)))) (ah (ah (ag Eg) (ah (ag CI) (ag z9))) (ah (ag Dc) (ah (ag yB) (ag Ca))))))) (ah (ah (ah (ah (ah (ag Ee) (ag zJ)) (ah (ag xB) (ah (ag CY) (ag xu)))) (ah (ah (ag CJ) (ag yq)) (ah (ag xm) (ah (ag AX) (ag DL))))) (ah (ah (ah (ag ym) (ag AY)) (ah (ag BO) (ah (ag DY) (ag Dl)))) (ah (ah (ag yN) (ah (ag DK) (ag BI))) (ah (ag zf) (ah (ag yS) (ag ye)))))) (ah (ah (ah (ah (ag DC) (ag BP)) (ah (ag Dz) (ah (ag Dh) (ag yA)))) (ah (ah (ag zG) (ag xV)) (ah (ag yu) (ah (ag zi) (ag Dk))))) (ah (ah (ah (ag Cw) (ag xo)) (ah (ag yF) (ah (ag yP) (ag yL)))) (ah (ah (ag CA) (ah (ag xE) (ag CP))) (ah (ag xL) (ah (ag zd) (ag Dx)))))))) (ah (ah (ah (ah (ah (ah (ag BF) (ag sm)) (ah (ag xC) (ah (ag Dg) (ag xQ)))) (ah (ah (ag zj) (ag yv)) (ah (ag yC) (ah (ag AU) (ag BK))))) (ah (ah (ah (ag BX) (ag DU)) (ah (ag Dq) (ah (ag yw) (ag yU)))) (ah (ah (ag x9) (ah (ag zt) (ag CD))) (ah (ag DM) (ah (ag rW) (ag zU)))))) (ah (ah (ah (ah (ag zm) (ag DT)) (ah (ag BE) (ah (ag yV) (ag zS)))) (ah (ah (ag xX) (ag BH)) (ah (ag zT) (ah (ag Df) (ag zq))))) (ah (ah (ah (ag y8) (ag yk)) (ah (ag AV) (ah (ag DE) (ag p8)))) (ah (ah (ag zp) (ah (ag xF) (ag zo))) (ah (ag yn) (ah (ag zZ) (ag DD))))))) (ah (ah (ah (ah (ah (ag CW) (ag yp)) (ah (ag yi) (ah (ag xH) (ag zx)))) (ah (ah (ag y7) (ag BJ)) (ah (ag yX) (ah (ag AW) (ag Eb))))) (ah (ah (ah (ag Nz) (ag O3)) (ah (ag DW) (ah (ag BL) (ag Da)))) (ah (ah (ag Cq) (ah (ag xN) (ag Co))) (ah (ag xR) (ah (ag Ei) (ag AM)))))) (ah (ah (ah (ah (ag xz) (ag DP)) (ah (ag Dj) (ah (ag yQ) (ag KQ)))) (ah (ah (ag PU) (ag PH)) (ah (ag zg) (ah (ag BM) (ag AR))))) (ah (ah (ah (ag AA) (ag yg)) (ah (ag yd) (ah (ag lY) (ag CO)))) (ah (ah (ag DI) (ah (ag KV) (ag JX))) (ah (ag zQ) (ah (ag Lr) (ag xt)))))))))
end FR
open Go Nm Go.Proofs
namespace FR
variable {T:D4->Prop} {v:NV} {C:List (List NV)} {c:List NV} {m' m0 B:NH} {α:Type} {Q:Out->Dyn->Prop} {ns more:List (List Nat)}
theorem gq {k:D4} {L:List (D4×NV)} {t:Tm} {v:Option NV} (h:fk k L (NT.get k t)=v):NT.get k (puts L t)=v:=(eY k L t).trans h
theorem one {a b:D4} (h:a∈ [b]):a=b:=by simpa using h
section
variable {l:List (AK×NO)} {k j:Nat} {m M:NH} {id:D4} {o:NO} {S:List D4}
theorem nF (ho:ap m id) (h:hp ((.o id,o)::l) k m=M):M.get id=some o:=by rw[←h];exact (aO ho).trans aC
theorem Qz (h:hp l k m=M) (hs:∀i,i∈bj l->ap m i->i∈S):Chg S m M:=by rw[←h];exact (fA _ _ _).weak hs
theorem az (h:hp l k m=M) (hs:bj l=S):Chg S m M:=by rw[←h];exact aw hs
theorem aL (h:hp l k m=M) (hj:j<k):ap M (na m j):=by rw[←h];exact aq hj
theorem aI (h:hp l k m=M):M.get (na m j)=kH j l (m.get (na m j)):=by rw[←h];exact bt
end
abbrev u8 (c:Nat):NV:= .int .u8 (.lit (c:Int))
abbrev u64 (n:Nat):NV:= .int .u64 (.lit (n:Int))
inductive Ex where
 |mk (k:Int) (n o:Nat) (s:List Nat) (ks:List Ex)
inductive Stm where
 |mk (k a:Int) (nm ce:List Nat) (i x y:Ex) (b e:List Stm)
theorem Ex.ind {P:Ex->Prop} (h:∀k n o s ks,(∀x∈ks,P x)->P (.mk k n o s ks)):∀x,P x
 | .mk k n o s ks=>h k n o s ks λx _=>Ex.ind h x
theorem Stm.ind {P:Stm->Prop} (h:∀k a nm ce i x y b e,(∀s∈b,P s)->(∀s∈e,P s)->P (.mk k a nm ce i x y b e)):∀s,P s
 | .mk k a nm ce i x y b e=>h k a nm ce i x y b e (λs _=>Stm.ind h s) (λs _=>Stm.ind h s)
inductive RE (m:NH) (T:D4->Prop):Ex->List NV->Prop
 |mk {k:Int} {n o:Nat} {s:List Nat} {ks:List Ex} {v:NV} {C:List (List NV)} (hv:Sl m v 5 C) (hT:∀i∈ids v,T i) (hl:C.length=ks.length) (h:∀(i:Nat) (x:Ex) (c:List NV),ks[i]? =some x->C[i]? =some c->RE m T x c):
  RE m T (.mk k n o s ks) [ii k,u64 n,u8 o,.str s,v]
inductive RS (m:NH) (T:D4->Prop):Stm->List NV->Prop
 |mk {k a:Int} {nm ce:List Nat} {i x y:Ex} {b e:List Stm} {ci cx cy:List NV} {vb ve:NV} {B E:List (List NV)} (hi:RE m T i ci) (hx:RE m T x cx) (hy:RE m T y cy)
  (hb:Sl m vb 21 B) (hbT:∀i∈ids vb,T i) (hbl:B.length=b.length) (hbR:∀(j:Nat) (s:Stm) (c:List NV),b[j]? =some s->B[j]? =some c->RS m T s c)
  (he:Sl m ve 21 E) (heT:∀i∈ids ve,T i) (hel:E.length=e.length) (heR:∀(j:Nat) (s:Stm) (c:List NV),e[j]? =some s->E[j]? =some c->RS m T s c):
  RS m T (.mk k a nm ce i x y b e) ([ii k,ii a,.str nm,.str ce]++ci++cx++cy++ [vb,ve])
def bz (T:D4->Prop) (m m':NH):Prop:=∀i,T i->ap m i->m'.get i=m.get i/\ap m' i
theorem sw  {m:NH} (h:Chg [] m m') (T:D4->Prop):bz T m m':=λ_ _ ho=>⟨h.get ho (by simp),h.old ho⟩
theorem bz.of {S:List D4} {m:NH} (h:Chg S m m') (hT:∀i,T i->i∉S):bz T m m':=λi hi ho=>⟨h.get ho (hT i hi),h.old ho⟩
theorem kQ {m M:NH} {l:List (AK×NO)} {k:Nat} (h:Chg [] m M) (e:bj l= []):Chg [] m (hp l k M):=h.trans (aw e) (by simp)
theorem gi  {m:NH} {e:Nat} (h:Sl m v e C) (hT:∀i∈ids v,T i) (hs:bz T m m'):Sl m' v e C:=by
 obtain⟨h0,⟨rfl,rfl⟩|⟨id,off,kc,w,c,rfl,h1,h2,h3,h4⟩⟩:=h
 ·exact⟨h0,Or.inl ⟨rfl,rfl⟩⟩
 ·obtain⟨g1,g2⟩:=hs id (hT id (ab2 ..)) h2
  exact⟨h0,Or.inr ⟨id,off,kc,w,c,rfl,g1.trans h1,g2,h3,h4⟩⟩
theorem RE.stays  {m:NH} (hs:bz T m m') {x:Ex} (h:RE m T x c):RE m' T x c:=by
 induction h with
 |mk hv hT hl h ih=>exact .mk (gi hv hT hs) hT hl ih
theorem RE.weak {m:NH} {T':D4->Prop} (hT':∀i,T i->T' i) {x:Ex} (h:RE m T x c):RE m T' x c:=by
 induction h with
 |mk hv hT hl h ih=>exact .mk hv (λi hi=>hT' i (hT i hi)) hl ih
theorem RS.stays  {m:NH} (hs:bz T m m') {x:Stm} (h:RS m T x c):RS m' T x c:=by
 induction h with
 |mk hi hx hy hb hbT hbl hbR he heT hel heR ih1 ih2=>exact .mk (hi.stays hs) (hx.stays hs) (hy.stays hs) (gi hb hbT hs) hbT hbl ih1 (gi he heT hs) heT hel ih2
theorem RS.weak {m:NH} {T':D4->Prop} (hT':∀i,T i->T' i) {x:Stm} (h:RS m T x c):RS m T' x c:=by
 induction h with
 |mk hi hx hy hb hbT hbl hbR he heT hel heR ih1 ih2=>exact .mk (hi.weak hT') (hx.weak hT') (hy.weak hT') hb (λi q=>hT' i (hbT i q)) hbl ih1 he (λi q=>hT' i (heT i q)) hel ih2
structure SE (m:NH) (T:D4->Prop) (v:NV) (l:List Ex) (C:List (List NV)):Prop where
 sl:Sl m v 5 C
 hT:∀i∈ids v,T i
 len:C.length=l.length
 R:∀(i:Nat) (x:Ex) (c:List NV),l[i]? =some x->C[i]? =some c->RE m T x c
structure SS (m:NH) (T:D4->Prop) (v:NV) (l:List Stm) (C:List (List NV)):Prop where
 sl:Sl m v 21 C
 hT:∀i∈ids v,T i
 len:C.length=l.length
 R:∀(i:Nat) (x:Stm) (c:List NV),l[i]? =some x->C[i]? =some c->RS m T x c
theorem RE.inv {m:NH} {k:Int} {n o:Nat} {s:List Nat} {ks:List Ex} (h:RE m T (.mk k n o s ks) c):∃v C,c= [ii k,u64 n,u8 o,.str s,v]/\SE m T v ks C:=by
 cases h with
 |mk hv hT hl h=>exact⟨_,_,rfl,hv,hT,hl,h⟩
theorem RE.of {m:NH} {k:Int} {n o:Nat} {s:List Nat} {ks:List Ex} (h:SE m T v ks C):RE m T (.mk k n o s ks) [ii k,u64 n,u8 o,.str s,v]:= .mk h.sl h.hT h.len h.R
theorem RE.len {m:NH} {x:Ex} (h:RE m T x c):c.length=5:=by cases h;rfl
theorem RS.len {m:NH} {x:Stm} (h:RS m T x c):c.length=21:=by
 cases h with
 |mk hi hx hy=>simp[hi.len,hx.len,hy.len]
def Ex.k:Ex->Int| .mk k _ _ _ _=>k
def Ex.n:Ex->Nat| .mk _ n _ _ _=>n
def Ex.o:Ex->Nat| .mk _ _ o _ _=>o
def Ex.s:Ex->List Nat| .mk _ _ _ s _=>s
def Ex.ks:Ex->List Ex| .mk _ _ _ _ ks=>ks
abbrev Ex.l (x:Ex) (v:NV):List NV:= [ii x.k,u64 x.n,u8 x.o,.str x.s,v]
theorem RE.inv' {m:NH} {x:Ex} (h:RE m T x c):∃v C,c=x.l v/\SE m T v x.ks C:=by
 cases x;exact h.inv
theorem RS.inv {m:NH} {k a:Int} {nm ce:List Nat} {i x y:Ex} {b e:List Stm} (h:RS m T (.mk k a nm ce i x y b e) c):
 ∃vi vx vy vb ve B E,c= [ii k,ii a,.str nm,.str ce,ii i.k,u64 i.n,u8 i.o,.str i.s,vi,ii x.k,u64 x.n,u8 x.o,.str x.s,vx,ii y.k,u64 y.n,u8 y.o,.str y.s,vy,vb,ve]/\
  RE m T i (i.l vi)/\RE m T x (x.l vx)/\RE m T y (y.l vy)/\SS m T vb b B/\SS m T ve e E:=by
 cases h with
 |mk hi hx hy hb hbT hbl hbR he heT hel heR=>
  obtain⟨vi,Ci,rfl,-⟩:=hi.inv'
  obtain⟨vx,Cx,rfl,-⟩:=hx.inv'
  obtain⟨vy,Cy,rfl,-⟩:=hy.inv'
  exact⟨vi,vx,vy,_,_,_,_,rfl,hi,hx,hy,⟨hb,hbT,hbl,hbR⟩,⟨he,heT,hel,heR⟩⟩
theorem SE.stays  {m:NH} (hs:bz T m m') {l:List Ex} (h:SE m T v l C):SE m' T v l C:=⟨gi h.sl h.hT hs,h.hT,h.len,λi x c a b=>(h.R i x c a b).stays hs⟩
theorem SS.stays  {m:NH} (hs:bz T m m') {l:List Stm} (h:SS m T v l C):SS m' T v l C:=⟨gi h.sl h.hT hs,h.hT,h.len,λi x c a b=>(h.R i x c a b).stays hs⟩
theorem SE.at {m:NH} {l:List Ex} (h:SE m T v l C) (i:Nat) (hi:i<l.length):∃c,C[i]? =some c/\RE m T l[i] c:=by
 have hc:i<C.length:=by rw[h.len];exact hi
 exact⟨C[i],List.getElem?_eq_getElem hc,h.R i _ _ (List.getElem?_eq_getElem hi) (List.getElem?_eq_getElem hc)⟩
theorem SS.at {m:NH} {l:List Stm} (h:SS m T v l C) (i:Nat) (hi:i<l.length):∃c,C[i]? =some c/\RS m T l[i] c:=by
 have hc:i<C.length:=by rw[h.len];exact hi
 exact⟨C[i],List.getElem?_eq_getElem hc,h.R i _ _ (List.getElem?_eq_getElem hi) (List.getElem?_eq_getElem hc)⟩
def zE:Ex:= .mk 0 0 0 [] []
theorem re0 (m:NH) (T:D4->Prop) (k:Int) (n o:Nat) (s:List Nat):RE m T (.mk k n o s []) [ii k,u64 n,u8 o,.str s,.nils]:= .mk (C:= []) Sl.nil (by simp[ids]) rfl (by simp)
structure SV where
 (vi vx vy vb ve:NV)
def Stm.k:Stm->Int| .mk k _ _ _ _ _ _ _ _=>k
def Stm.a:Stm->Int| .mk _ a _ _ _ _ _ _ _=>a
def Stm.nm:Stm->List Nat| .mk _ _ s _ _ _ _ _ _=>s
def Stm.ce:Stm->List Nat| .mk _ _ _ s _ _ _ _ _=>s
def Stm.i:Stm->Ex| .mk _ _ _ _ x _ _ _ _=>x
def Stm.x:Stm->Ex| .mk _ _ _ _ _ x _ _ _=>x
def Stm.y:Stm->Ex| .mk _ _ _ _ _ _ x _ _=>x
def Stm.b:Stm->List Stm| .mk _ _ _ _ _ _ _ b _=>b
def Stm.e:Stm->List Stm| .mk _ _ _ _ _ _ _ _ e=>e
abbrev Stm.l (s:Stm) (w:SV):List NV:= [ii s.k,ii s.a,.str s.nm,.str s.ce,ii s.i.k,u64 s.i.n,u8 s.i.o,.str s.i.s,w.vi,ii s.x.k,u64 s.x.n,u8 s.x.o,.str s.x.s,w.vx,ii s.y.k,u64 s.y.n,u8 s.y.o,.str s.y.s,w.vy,w.vb,w.ve]
structure SP (m:NH) (T:D4->Prop) (s:Stm) (w:SV):Prop where
 i:RE m T s.i (s.i.l w.vi)
 x:RE m T s.x (s.x.l w.vx)
 y:RE m T s.y (s.y.l w.vy)
 b:∃B,SS m T w.vb s.b B
 e:∃E,SS m T w.ve s.e E
theorem RS.inv' {m:NH} {s:Stm} (h:RS m T s c):∃w,c=s.l w/\SP m T s w:=by
 cases s
 obtain⟨vi,vx,vy,vb,ve,B,E,rfl,h1,h2,h3,h4,h5⟩:=h.inv
 exact⟨⟨vi,vx,vy,vb,ve⟩,rfl,h1,h2,h3,⟨B,h4⟩,⟨E,h5⟩⟩
mutual
def Ex.names:Ex->List (List Nat)
 | .mk k _ _ s ks=>if k=1 then [s] else if k=2 then cQ ks else []
def cQ:List Ex->List (List Nat)
 | []=> []
 |x::xs=>x.names++cQ xs
end
mutual
def Stm.all:Stm->List Stm
 | .mk k a nm ce i x y b e=> .mk k a nm ce i x y b e::((if k=6∨k=7 then ch b else [])++(if k=6 then ch e else []))
def ch:List Stm->List Stm
 | []=> []
 |s::l=>s.all++ch l
end
def Stm.own:Stm->List (List Nat)
 | .mk k _ nm _ i x y _ _=>(if k=0∨k=1∨k=3 then [nm] else [])++((if k=1∨k=2∨k=3 then i.names else [])++((if k=0∨k=2∨k=3∨k=5∨k=6∨k=7 then x.names else [])++(if k=3 then y.names else [])))
def locals (l:List Stm):List (List Nat):=((ch l).flatMap Stm.own).foldl dg []
mutual
def Ex.sz:Ex->Nat
 | .mk _ _ _ _ ks=>1+HJ ks
def HJ:List Ex->Nat
 | []=>0
 |x::xs=>x.sz+HJ xs
end
mutual
def Stm.sz:Stm->Nat
 | .mk _ _ _ _ i x y b e=>1+i.sz+x.sz+y.sz+dC b+dC e
def dC:List Stm->Nat
 | []=>0
 |s::l=>s.sz+dC l
end
theorem W7 (x:Ex):1<=x.sz:=by cases x;rw[Ex.sz];omega
theorem QK (ks:List Ex):ks.length<=HJ ks:=by
 induction ks with
 |nil=>simp
 |cons x ks ih=>have:=W7 x;rw[HJ,ab4];omega
theorem RN (x:Stm):1<=x.sz:=by cases x;rw[Stm.sz];omega
theorem GZ (ks:List Stm):ks.length<=dC ks:=by
 induction ks with
 |nil=>simp
 |cons x ks ih=>have:=RN x;rw[dC,ab4];omega
theorem fY:∀x:Ex,x.names.length<=x.sz:=by
 apply Ex.ind
 intro k n o s ks ih
 rw[Ex.names,Ex.sz]
 have:∀ks:List Ex,(∀x∈ks,x.names.length<=x.sz)->(cQ ks).length<=HJ ks:=by
  intro ks
  induction ks with
  |nil=>intro _;simp[cQ]
  |cons x xs ih=>
   intro h
   have h1:=h x (ab2 ..)
   have h2:=ih λy hy=>h y (aa8 _ hy)
   rw[cQ,HJ,aa5];omega
 have:=this ks ih
 split
 ·simp
 ·split
  ·omega
  ·simp
theorem sJ (a b:List Ex):cQ (a++b)=cQ a++cQ b:=by
 induction a with
 |nil=>rfl
 |cons x a ih=>rw[ad8,cQ,cQ,ih,ab1]
theorem nV (a b:List Stm):ch (a++b)=ch a++ch b:=by
 induction a with
 |nil=>rfl
 |cons x a ih=>rw[ad8,ch,ch,ih,ab1]
def S0:cE:=sK 35 [] (.bool true)<|noS
abbrev rT:=pE af8 S0
abbrev dM (l:List Int):List (List NV):=l.map λz=> [ii z]
abbrev db (l:List (List Nat)):List (List NV):=l.map λs=> [.str s]
def gH {α:Type} [DecidableEq α] (l:List α) (x:α):Int:=match l.findIdx? (λa=>decide (x=a)) with|some i=>(i:Int)|none=>-1
theorem nE  [DecidableEq α] {l:List α} {x:α} {i:Nat} (hi:i<l.length) (h:x=l[i]) (hn:∀j (hj:j<i),x≠l[j]'(by omega)):gH l x=i:=by
 unfold gH
 rw[List.findIdx?_eq_some_iff_getElem.mpr ⟨hi,by simp[h],λj hj=>by simpa using hn j hj⟩]
theorem ky  [DecidableEq α] {l:List α} {x:α} (hn:∀j (hj:j<l.length),x≠l[j]):gH l x=-1:=by
 unfold gH
 rw[List.findIdx?_eq_none_iff.mpr]
 intro y hy
 obtain⟨j,hj,rfl⟩:=List.getElem_of_mem hy
 simpa using hn j hj
theorem zI  [DecidableEq α] {l:List α} {x:α}:0<=gH l x↔x∈l:=by
 constructor
 ·intro h
  rcases Decidable.em (x∈l) with q|q
  ·exact q
  ·rw[ky λj hj e=>q (by rw[e];exact aa9 hj)] at h;omega
 ·intro h
  unfold gH
  cases hf:l.findIdx? (λa=>decide (x=a)) with
  |some i=>dsimp only;omega
  |none=>have:=List.findIdx?_eq_none_iff.mp hf x h;simp at this
theorem TL  [DecidableEq α] {l:List α} {x:α}:gH l x<l.length/\-1<=gH l x:=by
 unfold gH
 cases hf:l.findIdx? (λa=>decide (x=a)) with
 |some i=>obtain⟨h,-⟩:=List.findIdx?_eq_some_iff_getElem.mp hf;dsimp only;omega
 |none=>dsimp only;omega
theorem Io {m:NH} {l:List Int} (hv:Sl m v 1 (dM l)) (hsz:l.length<=1099511627776) (x:Int):rT 318 [v,ii x] m (ii (gH l x)) m:=by
 have h:∃r m',rT 318 [v,ii x] m r m'/\r=ii (gH l x)/\m'=m:=by
  refine WF.ex λK hK=> ?_
  refine WF.of_wpG (λ_=>rfl) DE (L:= [(.a .e,ii x),(.e,v)]) rfl ?_
  unfold Oc
  have hlen:=hv.len
  rw[aa0] at hlen
  simp only[go_sem,seval,hlen]
  refine W.loop (λk d=>∃t i,d=⟨t, [],none,hp [] 0 m⟩/\NT.get D4.e t=some v/\NT.get D4.e.a t=some (ii x)/\NT.get D4.e.a.c t=some (ii l.length)/\NT.get D4.e.a.f t=some (ii (i:Nat))/\i+k=l.length/\∀j (hj:j<i) (hl:j<l.length),x≠l[j]) ?_ l.length _ ⟨_,0,rfl,by exact gq rfl,by exact gq rfl,by exact gq rfl,by exact gq rfl,by omega,by simp⟩
  rintro k d ⟨t,i,rfl,g1,g2,g3,g4,hik,hn⟩
  apply av
  unfold AZ
  change wp _ _ _ _ ⟨puts [] t, [],none,hp [] 0 m⟩ _
  by_cases hi:i<l.length
  ·obtain⟨id,off,w,c,a1,a2,a3,a4,a5⟩:=hv.at i (by simpa using hi)
   rw[aa4] at a5
   have c0:=bm a5 0 (by omega)
   rw[ad7] at c0
   by_cases he:x=l[i]
   ·have he':decide (x=l[i])=true:=adH he
    simp (disch:=omega) only[go_sem,seval,g1,g2,g3,g4,a1,a2,c0,he']
    exact hK _ _ ⟨by rw[nE hi he λj hj=>hn j hj (by omega)],aa m⟩
   ·have he':decide (x=l[i])=false:=adG he
    simp (disch:=omega) only[go_sem,seval,g1,g2,g3,g4,a1,a2,c0,he']
    refine⟨k - 1,by omega,_,i+1,by rfl, ?_, ?_, ?_, ?_,by omega, ?_⟩
    ·simp only[go_sem,seval,g1]
    ·simp only[go_sem,seval,g2]
    ·simp only[go_sem,seval,g3]
    ·simp only[go_sem,seval]<;>rfl
    ·intro j hj hl
     rcases ac2 j i with h|h
     ·exact hn j h hl
     ·have:j=i:=by omega
      subst this;exact he
  ·simp (disch:=omega) only[go_sem,seval,g1,g2,g3,g4]
   exact hK _ _ ⟨by rw[ky λj hj=>hn j (by omega) hj],aa m⟩
 obtain⟨r,m',h1,rfl,rfl⟩:=h
 exact h1
theorem tG {m:NH} {l:List (List Nat)} (hv:Sl m v 1 (db l)) (hsz:l.length<=1099511627776) (x:List Nat):rT 319 [v,(.str x)] m (ii (gH l x)) m:=by
 have h:∃r m',rT 319 [v,(.str x)] m r m'/\r=ii (gH l x)/\m'=m:=by
  refine WF.ex λK hK=> ?_
  refine WF.of_wpG (λ_=>rfl) p8 (L:= [(.a .e,(.str x)),(.e,v)]) rfl ?_
  unfold GW
  have hlen:=hv.len
  rw[aa0] at hlen
  simp only[go_sem,seval,hlen]
  refine W.loop (λk d=>∃t i,d=⟨t, [],none,hp [] 0 m⟩/\NT.get D4.e t=some v/\NT.get D4.e.a t=some ((.str x))/\NT.get D4.e.a.c t=some (ii l.length)/\NT.get D4.e.a.f t=some (ii (i:Nat))/\i+k=l.length/\∀j (hj:j<i) (hl:j<l.length),x≠l[j]) ?_ l.length _ ⟨_,0,rfl,by exact gq rfl,by exact gq rfl,by exact gq rfl,by exact gq rfl,by omega,by simp⟩
  rintro k d ⟨t,i,rfl,g1,g2,g3,g4,hik,hn⟩
  apply av
  unfold qG
  change wp _ _ _ _ ⟨puts [] t, [],none,hp [] 0 m⟩ _
  by_cases hi:i<l.length
  ·obtain⟨id,off,w,c,a1,a2,a3,a4,a5⟩:=hv.at i (by simpa using hi)
   rw[aa4] at a5
   have c0:=bm a5 0 (by omega)
   rw[ad7] at c0
   by_cases he:x=l[i]
   ·have he':decide (x=l[i])=true:=adH he
    simp (disch:=omega) only[go_sem,seval,g1,g2,g3,g4,a1,a2,c0,he']
    exact hK _ _ ⟨by rw[nE hi he λj hj=>hn j hj (by omega)],aa m⟩
   ·have he':decide (x=l[i])=false:=adG he
    simp (disch:=omega) only[go_sem,seval,g1,g2,g3,g4,a1,a2,c0,he']
    refine⟨k - 1,by omega,_,i+1,by rfl, ?_, ?_, ?_, ?_,by omega, ?_⟩
    ·simp only[go_sem,seval,g1]
    ·simp only[go_sem,seval,g2]
    ·simp only[go_sem,seval,g3]
    ·simp only[go_sem,seval]<;>rfl
    ·intro j hj hl
     rcases ac2 j i with h|h
     ·exact hn j h hl
     ·have:j=i:=by omega
      subst this;exact he
  ·simp (disch:=omega) only[go_sem,seval,g1,g2,g3,g4]
   exact hK _ _ ⟨by rw[ky λj hj=>hn j (by omega) hj],aa m⟩
 obtain⟨r,m',h1,rfl,rfl⟩:=h
 exact h1
theorem wR {m:NH} {l:List Int} (hv:Sl m v 1 (dM l)) (hsz:l.length<=1099511627776) (x:Int):rT 272 [v,ii x] m (.bool (decide (x∈l))) m:=by
 have h:∃r m',rT 272 [v,ii x] m r m'/\r= .bool (decide (x∈l))/\m'=m:=by
  refine WF.ex λK hK=> ?_
  refine WF.of_wpG (λ_=>rfl) Dx (L:= [(.a .e,ii x),(.e,v)]) rfl ?_
  unfold OG
  simp only[go_sem,seval,aa,(Io hv hsz x).wf']
  exact hK _ _ ⟨by simp only[zI],rfl⟩
 obtain⟨r,m',h1,rfl,rfl⟩:=h
 exact h1
theorem wH {m:NH} {l:List (List Nat)} (hv:Sl m v 1 (db l)) (hsz:l.length<=1099511627776) (x:List Nat):rT 274 [v,(.str x)] m (.bool (decide (x∈l))) m:=by
 have h:∃r m',rT 274 [v,(.str x)] m r m'/\r= .bool (decide (x∈l))/\m'=m:=by
  refine WF.ex λK hK=> ?_
  refine WF.of_wpG (λ_=>rfl) sm (L:= [(.a .e,(.str x)),(.e,v)]) rfl ?_
  unfold Hz
  simp only[go_sem,seval,aa,(tG hv hsz x).wf']
  exact hK _ _ ⟨by simp only[zI],rfl⟩
 obtain⟨r,m',h1,rfl,rfl⟩:=h
 exact h1
theorem Z7 (m:NH) {l:List Int} (hv:Sl m v 1 (dM l)) (hsz:l.length<=1099511627776) {k:Int} (hc:c.length=20):∃m',rT 206 [.agg (ii k::c),v] m (.bool (decide (k∈l))) m'/\Chg [] m m':=by
 have h:∃r m',rT 206 [.agg (ii k::c),v] m r m'/\r= .bool (decide (k∈l))/\Chg [] m m':=by
  refine WF.ex λK hK=> ?_
  refine WF.of_wpG (λ_=>rfl) CY (L:= [(.a .e,v),(.e,.agg (ii k::c))]) rfl ?_
  unfold NX
  have hC:Chg [] m (hp [(.n 0,.cells true (ii k::c))] 1 m):=aw rfl
  simp only[go_sem,seval,(wR (hv.chg hC λ_ _=>by simp) hsz k).wf']
  exact hK _ _ ⟨rfl,hC⟩
 obtain⟨r,m',h1,rfl,h2⟩:=h
 exact⟨m',h1,h2⟩
def iO (m:NH) (v v':NV):Prop:=∀i∈ids v',i∈ids v∨¬ap m i
theorem iO.refl (m:NH) (v:NV):iO m v v:=λ_ h=>Or.inl h
theorem iO.trans  {m:NH} {v' v'':NV} (h:iO m v v') (h':iO m' v' v'') (ho:∀i,ap m i->ap m' i):iO m v v'':=λi hi=>by
 rcases h' i hi with q|q
 ·exact h i q
 ·exact Or.inr λo=>q (ho i o)
theorem iO.chg  {m m'':NH} {v':NV} (h:iO m v v') (hC:Chg (ids v) m m') (hC':Chg (ids v') m' m''):Chg (ids v) m m'':=hC.trans hC' λi hi ho=>(h i hi).elim _root_.id λq=>adD ho q
theorem Q5 (l:List (List Nat)) (s:List Nat):(dg l s).length<=l.length+1:=by unfold dg;split<;>simp
theorem jL (more:List (List Nat)):∀l:List (List Nat),(more.foldl dg l).length<=l.length+more.length:=by
 induction more with
 |nil=>intro l;simp
 |cons s more ih=>intro l;have:=ih (dg l s);have:=Q5 l s;simp only[List.foldl_cons,ab4];omega
theorem xD (l:List (List Nat)) (s:List Nat):db (l++ [s])=db l++ [[.str s]]:=by simp
theorem IY  {m:NH} {w:NV} {l:List (List Nat)} (hv:aQ B m v 1 (db l)) (hw:Sl m w 1 (db more)) (hd:∀i∈ids w,i∉ids v) (hB:∀id,ap B id->ap m id) (hsz:l.length+more.length<=1000000000) {t:Tm}
 (g1:NT.get D4.e t=some v) (g2:NT.get D4.e.a.c t=some w) (g3:NT.get D4.e.a.f t=some (ii more.length)) (g4:NT.get D4.e.b.a t=some (ii 0))
 (hQ:∀t' M v',NT.get D4.e t'=some v'->aQ B M v' 1 (db (more.foldl dg l))->Chg (ids v) m M->iO m v v'->Q (.exit 0) ⟨puts [] t', [],none,M⟩):
 W af8 S0 none rX.loop ⟨t, [],none,m⟩ Q:=by
 refine W.loop (λk d=>∃t M i v',d=⟨t, [],none,M⟩/\NT.get D4.e t=some v'/\NT.get D4.e.a.c t=some w/\NT.get D4.e.a.f t=some (ii more.length)/\NT.get D4.e.b.a t=some (ii (i:Nat))/\i+k=more.length/\aQ B M v' 1 (db ((more.take i).foldl dg l))/\Chg (ids v) m M/\iO m v v') ?_ more.length _ ⟨t,m,0,v,rfl,g1,g2,g3,g4,by omega,hv,(Chg.refl m).weak (by simp),iO.refl m v⟩
 rintro k d ⟨t,M,i,v',rfl,g1,g2,g3,g4,hik,hv,hC,hF⟩
 apply av
 unfold rX
 change wp _ _ _ _ ⟨puts [] t, [],none,M⟩ _
 by_cases hi:i<more.length
 ·have hwM:=hw.chg hC hd
  obtain⟨id,off,wr,c,a1,a2,a3,a4,a5⟩:=hwM.at i (by simpa using hi)
  rw[aa4] at a5
  have c0:=bm a5 0 (by omega)
  rw[ad7] at c0
  have hle:=jL (more.take i) l
  rw[aa7] at hle
  have hct:=wH hv.sl (by omega) more[i]
  have htk:(more.take (i+1)).foldl dg l=dg ((more.take i).foldl dg l) more[i]:=by
   rw[ab7,List.getElem?_eq_getElem hi,ae6,List.foldl_append];rfl
  by_cases hin:more[i]∈(more.take i).foldl dg l
  ·rw[adH hin] at hct
   simp (disch:=omega) only[go_sem,seval,g1,g2,g3,g4,a1,a2,c0,hct.wf']
   refine⟨k - 1,by omega,_,M,i+1,v',by rfl, ?_, ?_, ?_, ?_,by omega, ?_,hC,hF⟩
   ·simp only[go_sem,seval,g1]
   ·simp only[go_sem,seval,g2]
   ·simp only[go_sem,seval,g3]
   ·simp only[go_sem,seval]<;>rfl
   ·rw[htk,show dg _ _=_ from adF hin];exact hv
  ·rw[adG hin] at hct
   rw[←aa M] at hct ⊢
   simp (disch:=first|omega|(simp only[aA]<;>omega)) only[go_sem,seval,g1,g2,g3,g4,a1,a2,c0,hct.wf']
   have hC1:Chg [] M (hp [(.n 0,.cells true [.str more[i]])] 1 M):=aw rfl
   refine gh (hv.chg hC1 λ_ _=>by simp) bt (aq (by omega)) rfl (λi hi=>hC1.old (hC.old (hB i hi))) (by simp;omega) (by simp;omega) ?_
   intro v2 M2 hv2 hC2 hF2
   simp (disch:=omega) only[go_sem,seval,g1,g2,g3,g4]
   have hF1:iO M v' v2:=λi hi=>(hF2 i hi).imp _root_.id λq o=>q (hC1.old o)
   have hC3:Chg (ids v') M M2:=(hC1.weak (by simp)).trans hC2 λ_ h _=>h
   refine⟨k - 1,by omega,_,M2,i+1,v2,by rfl, ?_, ?_, ?_, ?_,by omega, ?_,hF.chg hC hC3,hF.trans hF1 λi hi=>hC.old hi⟩
   ·simp only[go_sem,seval]
   ·simp only[go_sem,seval,g2]
   ·simp only[go_sem,seval,g3]
   ·simp only[go_sem,seval]<;>rfl
   ·rw[htk,show dg _ _=_ from adE hin,xD];exact hv2
 ·simp (disch:=omega) only[go_sem,seval,g1,g2,g3,g4]
  have e:(more.take i)=more:=ac9 (by omega)
  rw[e] at hv
  refine hQ _ _ v' ?_ hv hC hF
  simp only[go_sem,seval,iN,g1]
theorem GO  {m:NH} {w:NV} {l:List (List Nat)} (hv:aQ B m v 1 (db l)) (hw:Sl m w 1 (db more)) (hd:∀i∈ids w,i∉ids v) (hB:∀id,ap B id->ap m id) (hsz:l.length+more.length<=1000000000):
 ∃v' m',rT 209 [v,w] m v' m'/\aQ B m' v' 1 (db (more.foldl dg l))/\Chg (ids v) m m'/\iO m v v':=by
 refine WF.ex λK hK=> ?_
 refine WF.of_wpG (λ_=>rfl) yq (L:= [(.a .e,w),(.e,v)]) rfl ?_
 unfold MD
 have hlen:=hw.len
 rw[aa0] at hlen
 simp only[go_sem,seval,hlen,aa]
 refine IY hv hw hd hB hsz (by exact gq rfl) (by exact gq rfl) (by exact gq rfl) (by exact gq rfl) ?_
 intro t' M v' g1 h1 h2 h3
 simp only[go_sem,seval,g1]
 exact hK _ _ ⟨h1,h2,h3⟩
def InE (x:Ex):Prop:=∀{m0:NH} {T:D4->Prop} {c:List NV} {B m:NH} {v:NV} {l:List (List Nat)},RE m0 T x c->Chg [] m0 m->aQ B m v 1 (db l)->(∀i,ap m0 i->ap B i)->(∀i,ap B i->ap m i)->l.length+x.sz<=1000000000->
 ∃v' m',rT 271 [v,.agg c] m v' m'/\aQ B m' v' 1 (db (l++x.names))/\Chg (ids v) m m'/\iO m v v'
theorem rS  {m:NH} {e:Nat} (hv:aQ B m v e C) (h0:∀i,ap m0 i->ap B i) (hC0:Chg [] m0 m) (hC:Chg (ids v) m m'):Chg [] m0 m':=
 hC0.trans hC λi hi ho=>adD (h0 i ho) (hv.new i hi)
theorem oY {ks:List Ex} {i:Nat} (hi:i<ks.length):cQ (ks.take (i+1))=cQ (ks.take i)++ks[i].names:=by
 rw[ab7,List.getElem?_eq_getElem hi,ae6,sJ,cQ,cQ,ac7]
theorem L4 (ks:List Ex) (i:Nat) (hi:i<ks.length):(cQ (ks.take i)).length+ks[i].sz<=HJ ks:=by
 induction ks generalizing i with
 |nil=>simp at hi
 |cons x ks ih=>
  cases i with
  |zero=>simp[cQ,HJ]
  |succ i=>
   have h1:=fY x
   have:=ih i (by simpa using hi)
   simp only[List.take_succ_cons,cQ,HJ,aa5,List.getElem_cons_succ];omega
theorem CK  {ks:List Ex} {vk:NV} (hS:SE m0 T vk ks C) (ih:∀x∈ks,InE x) {m:NH} {l:List (List Nat)} (hC0:Chg [] m0 m) (hv:aQ B m v 1 (db l)) (h0:∀i,ap m0 i->ap B i) (hB:∀i,ap B i->ap m i)
 (hsz:l.length+HJ ks<=1000000000) {t:Tm} (g1:NT.get D4.e t=some v) (g2:NT.get D4.e.f.c t=some vk) (g3:NT.get D4.e.f.f t=some (ii ks.length)) (g4:NT.get D4.e.a.a.a t=some (ii 0))
 (hQ:∀t' M v',NT.get D4.e t'=some v'->aQ B M v' 1 (db (l++cQ ks))->Chg (ids v) m M->iO m v v'->Q (.exit 1) ⟨puts [] t', [],none,M⟩):
 W af8 S0 none pT.loop ⟨t, [],none,m⟩ Q:=by
 refine W.loop (λk d=>∃t M i v',d=⟨t, [],none,M⟩/\NT.get D4.e t=some v'/\NT.get D4.e.f.c t=some vk/\NT.get D4.e.f.f t=some (ii ks.length)/\NT.get D4.e.a.a.a t=some (ii (i:Nat))/\i+k=ks.length/\aQ B M v' 1 (db (l++cQ (ks.take i)))/\Chg (ids v) m M/\iO m v v') ?_ ks.length _ ⟨t,m,0,v,rfl,g1,g2,g3,g4,by omega,by simpa [cQ] using hv,(Chg.refl m).weak (by simp),iO.refl m v⟩
 rintro k d ⟨t,M,i,v',rfl,g1,g2,g3,g4,hik,hv',hC,hF⟩
 apply av
 unfold pT
 change wp _ _ _ _ ⟨puts [] t, [],none,M⟩ _
 have hCM:=rS hv h0 hC0 hC
 by_cases hi:i<ks.length
 ·have hSM:=(hS.stays (sw hCM T))
  obtain⟨cx,hcx,hRx⟩:=hS.at i hi
  obtain⟨id,off,wr,c,a1,a2,a3,a4,a5⟩:=hSM.sl.at i (by rw[hS.len];exact hi)
  have ecx:C[i]'(by rw[hS.len];exact hi)=cx:=by
   have:=List.getElem?_eq_getElem (l:=C) (i:=i) (by rw[hS.len];exact hi)
   rw[this] at hcx;injection hcx
  rw[ecx] at a5
  obtain⟨vx,Cx,rfl,-⟩:=hRx.inv'
  have hszi:=L4 ks i hi
  rw[←aa M]
  have hl5:(ks[i].l vx).length=5:=rfl
  have hls:=QK ks
  have hl5':(ks[i].l vx).take 5=ks[i].l vx:=rfl
  simp (disch:=first|omega|(simp only[aA]<;>omega)) only[go_sem,seval,g1,g2,g3,g4,a1,a2,a5,hl5,hl5']
  generalize hM1:hp _ 1 M=M1
  have hC1:Chg [] M M1:=az hM1 rfl
  refine WF.use (ih ks[i] (aa9 hi) hRx (hCM.tr hC1) (hv'.chg hC1 λ_ _=>by simp) h0 (λi hi=>hC1.old (hC.old (hB i hi))) (by rw[aa5];omega)) ?_
  rintro v2 M2 ⟨hv2,hC2,hF2⟩
  simp (disch:=omega) only[go_sem,seval,g1,g2,g3,g4]
  have hC3:Chg (ids v') M M2:=(hC1.weak (by simp)).trans hC2 λ_ h _=>h
  refine⟨k - 1,by omega,_,M2,i+1,v2,by rfl, ?_, ?_, ?_, ?_,by omega, ?_,hF.chg hC hC3,hF.trans (λi hi=>(hF2 i hi).imp _root_.id λq o=>q (hC1.old o)) λi hi=>hC.old hi⟩
  ·simp only[go_sem,seval]
  ·simp only[go_sem,seval,g2]
  ·simp only[go_sem,seval,g3]
  ·simp only[go_sem,seval]<;>rfl
  ·rw[oY hi,←ab1];exact hv2
 ·simp (disch:=omega) only[go_sem,seval,g1,g2,g3,g4]
  have e:(ks.take i)=ks:=ac9 (by omega)
  rw[e] at hv'
  refine hQ _ _ v' ?_ hv' hC hF
  simp only[go_sem,seval,iN,g1]
theorem OD:∀x,InE x:=by
 apply Ex.ind
 intro kd n o s ks ih m0 T c B m v l hR hC0 hv h0 hB hsz
 obtain⟨vk,C,rfl,hS⟩:=hR.inv
 rw[Ex.sz] at hsz
 refine WF.ex λK hK=> ?_
 refine WF.of_wpG (λ_=>rfl) zd (L:= [(.a .e,.agg [ii kd,u64 n,u8 o,.str s,vk]),(.e,v)]) rfl ?_
 unfold NB
 have hC1:Chg [] m (hp [(.n 0,.cells true [ii kd,u64 n,u8 o,.str s,vk])] 1 m):=aw rfl
 have hlen:=(hS.stays (sw (hC0.tr hC1) T)).sl.len
 rw[hS.len] at hlen
 by_cases h1:kd=1
 ·subst h1
  simp (disch:=first|omega|(simp only[aA]<;>omega)) only[go_sem,seval]
  have hC2:Chg [] m (hp [(.n 1,.cells true [.str s]),(.n 0,.cells true [ii 1,u64 n,u8 o,.str s,vk])] 2 m):=aw rfl
  refine gh (hv.chg hC2 λ_ _=>by simp) bt (aq (by omega)) rfl (λi hi=>hC2.old (hB i hi)) (by simp;omega) (by simp;omega) ?_
  intro v2 M2 hv2 hC3 hF2
  simp only[go_sem,seval]
  refine hK _ _ ⟨?_,(hC2.weak (by simp)).trans hC3 λ_ h _=>h,λi hi=>(hF2 i hi).imp _root_.id λq o=>q (hC2.old o)⟩
  rw[Ex.names,adF rfl,xD];exact hv2
 ·by_cases h2:kd=2
  ·subst h2
   simp only[go_sem,seval,hlen]
   refine CK hS ih (hC0.tr hC1) (hv.chg hC1 λ_ _=>by simp) h0 (λi hi=>hC1.old (hB i hi)) (by omega) (by exact gq rfl) (by exact gq rfl) (by exact gq rfl) (by exact gq rfl) ?_
   intro t' M v' g1 q1 q2 q3
   simp only[go_sem,seval,g1]
   refine hK _ _ ⟨?_,(hC1.weak (by simp)).trans q2 λ_ h _=>h,λi hi=>(q3 i hi).imp _root_.id λq o=>q (hC1.old o)⟩
   rw[Ex.names,adE (by omega),adF rfl];exact q1
  ·simp (disch:=omega) only[go_sem,seval]
   refine hK _ _ ⟨?_,hC1.weak (by simp),iO.refl m v⟩
   rw[Ex.names,adE h1,adE h2,ac7];exact hv.chg hC1 λ_ _=>by simp
theorem Vk (s:Stm):s.own=(if s.k=0∨s.k=1∨s.k=3 then [s.nm] else [])++((if s.k=1∨s.k=2∨s.k=3 then s.i.names else [])++((if s.k=0∨s.k=2∨s.k=3∨s.k=5∨s.k=6∨s.k=7 then s.x.names else [])++(if s.k=3 then s.y.names else []))):=by cases s;rfl
theorem Um (s:Stm):s.sz=1+s.i.sz+s.x.sz+s.y.sz+dC s.b+dC s.e:=by cases s;rfl
theorem Jt (l:List Int):(dM l).flatten=l.map ii:=by
 induction l with
 |nil=>rfl
 |cons a l ih=>show [ii a]++(dM l).flatten=_;rw[ih];rfl
theorem xK (M:NH) {k:Int} (l:List Int) {n:Nat} (hc:c.length=20) (hn:n=l.length) (hl:l.length<=10):∃m',rT 206 [.agg (ii k::c),.slc M.next 0 n 1 n] (M.add (.cells true (l.map ii))) (.bool (decide (k∈l))) m'/\Chg [] M m':=by
 subst hn
 have h:Sl (M.add (.cells true (l.map ii))) (.slc M.next 0 l.length 1 l.length) 1 (dM l):=
  (aQ.of (B:=M) (by simp) (λq=>ad6 _ q) (NH.get_add_same M _) (iA M _) (Jt l).symm (by simp) (by simp)).sl
 obtain⟨m',h1,h2⟩:=Z7 _ h (by omega) (k:=k) hc
 exact⟨m',h1,(Chg.add M _).tr h2⟩
theorem G3  {m:NH} {s:Stm} (hR:RS m0 T s c) (hC0:Chg [] m0 m) (hsz:s.sz<=100000000):
 ∃v m',rT 205 [.agg c] m v m'/\aQ m m' v 1 (db s.own)/\Chg [] m m':=by
 obtain⟨w,rfl,hP⟩:=hR.inv'
 refine WF.ex λK hK=> ?_
 refine WF.of_wpG (λ_=>rfl) xB (L:= [(.e,.agg (s.l w))]) rfl ?_
 unfold Qd
 rw[Um] at hsz
 have hni:=fY s.i
 have hnx:=fY s.x
 have hny:=fY s.y
 generalize hm1:hp [(.n 0,.cells true (s.l w))] 1 m=m1
 have hC1:Chg [] m m1:=az hm1 rfl
 have hC01:Chg [] m0 m1:=hC0.tr hC1
 have hg0:m1.get (na m 0)=some (.cells true (s.l w)):=aI hm1
 have ho0:ap m1 (na m 0):=aL hm1 (by omega)
 let Φ:List (List Nat)->Dyn->Prop:=λl d=>∃t M v,d=⟨t, [],none,M⟩/\NT.get D4.e.a t=some (.ptr (na m 0) 0)/\NT.get D4.e.c t=some v/\aQ m1 M v 1 (db l)/\Chg [] m1 M
 have hl21:(s.l w).length=21:=rfl
 have hl21':(s.l w).take 21=s.l w:=rfl
 have hins:∀{M M':NH} {v:NV} {l:List (List Nat)} {x:Ex} {c:List NV},Chg [] m1 M->Chg [] M M'->aQ m1 M v 1 (db l)->RE m0 T x c->l.length+x.sz<=1000000000->∃v' M'',rT 271 [v,.agg c] M' v' M''/\aQ m1 M'' v' 1 (db (l++x.names))/\Chg [] m1 M'':=by
  intro M M' v l x c h1 h2 h3 h4 h5
  have hC':=h1.tr h2
  obtain⟨v',M'',q1,q2,q3,-⟩:=OD x h4 (hC01.tr hC') (h3.chg h2 λ_ _=>by simp) (λi hi=>hC01.old hi) (λi hi=>hC'.old hi) h5
  exact⟨v',M'',q1,q2,rS h3 (λi hi=>hi) h1 ((h2.weak (by simp)).trans q3 λ_ h _=>h)⟩
 refine K0 (λd=>d=⟨puts [(.a .e,.ptr (na m 0) 0),(.b .e,.nils),(.e,.agg (s.l w))] .leaf, [],none,m1⟩) (λR hR=> ?_) ?_
 ·simp only[go_sem,seval,hm1]
  exact hR _ rfl
 rintro d rfl
 refine K0 (Φ []) (λR hR=> ?_) ?_
 ·simp only[go_sem,seval]
  exact hR _ ⟨_,_,.nils,rfl,by exact gq rfl,by exact gq rfl,aQ.nil,Chg.refl m1⟩
 rintro d ⟨t,M,v,rfl,g1,g2,hv,hC⟩
 change wp _ _ _ _ ⟨puts [] t, [],none,M⟩ _
 refine K0 (Φ (if s.k=0∨s.k=1∨s.k=3 then [s.nm] else [])) (λR hR=> ?_) ?_
 ·have hgM:=(hC.get ho0 (by simp)).trans hg0
  simp (disch:=first|omega|(simp only[aA]<;>omega)) only[go_sem,seval,g1,g2,hgM,hl21,hl21']
  refine WF.use1H (xK M [0,1,3] rfl rfl (by decide)) ?_
  intro M' hC'
  have hgM':=(hC'.get (hC.old ho0) (by simp)).trans hgM
  have hoM':=hC'.old (hC.old ho0)
  by_cases hk:s.k∈ [0,1,3]
  ·rw[adH hk]
   simp (disch:=first|omega|(simp only[aA]<;>omega)) only[go_sem,seval,g1,g2,hgM',hoM']
   have hC2:Chg [] M' (hp [(.n 0,.cells true [.str s.nm])] 1 M'):=aw rfl
   have hC3:=hC'.tr hC2
   refine gh (C:= []) (B:=m1) (hv.chg hC3 λ_ _=>by simp) bt (aq (by omega)) rfl (λi hi=>hC3.old (hC.old hi)) (by simp) (by simp) ?_
   intro v2 M2 hv2 hC4 hF
   simp only[go_sem,seval,g1,g2]
   refine hR _ ⟨_,_,v2,rfl,by exact gq g1,by exact gq rfl, ?_, ?_⟩
   ·rw[adF (by simpa using hk)];exact hv2
   ·exact rS hv (λi hi=>hi) hC ((hC3.weak (by simp)).trans hC4 λ_ h _=>h)
  ·rw[adG hk]
   simp only[go_sem,seval,g1,g2,aa]
   refine hR _ ⟨_,_,v,rfl,by exact gq g1,by exact gq g2, ?_,hC.tr hC'⟩
   rw[adE (by simpa using hk)];exact hv.chg hC' λ_ _=>by simp
 clear g1 g2 hv hC
 rintro d ⟨t,M,v,rfl,g1,g2,hv,hC⟩
 change wp _ _ _ _ ⟨puts [] t, [],none,M⟩ _
 generalize hL1:(if s.k=0∨s.k=1∨s.k=3 then [s.nm] else [])=L1 at hv
 have hn1:L1.length<=1:=by rw[←hL1];split<;>simp
 refine K0 (Φ (L1++if s.k=1∨s.k=2∨s.k=3 then s.i.names else [])) (λR hR=> ?_) ?_
 ·have hgM:=(hC.get ho0 (by simp)).trans hg0
  simp (disch:=first|omega|(simp only[aA]<;>omega)) only[go_sem,seval,g1,g2,hgM,hl21,hl21']
  refine WF.use1H (xK M [1,2,3] rfl rfl (by decide)) ?_
  intro M' hC'
  have hgM':=(hC'.get (hC.old ho0) (by simp)).trans hgM
  have hoM':=hC'.old (hC.old ho0)
  by_cases hk:s.k∈ [1,2,3]
  ·rw[adH hk]
   simp only[go_sem,seval,g1,g2,hgM',hoM',aa]
   refine WF.use (hins hC hC' hv hP.i (by omega)) ?_
   rintro v2 M2 ⟨hv2,hC2⟩
   simp only[go_sem,seval,g1,g2]
   refine hR _ ⟨_,_,v2,rfl,by exact gq g1,by exact gq rfl, ?_,hC2⟩
   rw[adF (by simpa using hk)];exact hv2
  ·rw[adG hk]
   simp only[go_sem,seval,g1,g2,aa]
   refine hR _ ⟨_,_,v,rfl,by exact gq g1,by exact gq g2, ?_,hC.tr hC'⟩
   rw[adE (by simpa using hk),ac7];exact hv.chg hC' λ_ _=>by simp
 clear g1 g2 hv hC
 rintro d ⟨t,M,v,rfl,g1,g2,hv,hC⟩
 change wp _ _ _ _ ⟨puts [] t, [],none,M⟩ _
 generalize hL2:(L1++if s.k=1∨s.k=2∨s.k=3 then s.i.names else [])=L2 at hv
 have hn2:L2.length<=1+s.i.sz:=by rw[←hL2,aa5];split<;>first|omega|(rw[af0];omega)
 refine K0 (Φ (L2++if s.k=0∨s.k=2∨s.k=3∨s.k=5∨s.k=6∨s.k=7 then s.x.names else [])) (λR hR=> ?_) ?_
 ·have hgM:=(hC.get ho0 (by simp)).trans hg0
  simp (disch:=first|omega|(simp only[aA]<;>omega)) only[go_sem,seval,g1,g2,hgM,hl21,hl21']
  refine WF.use1H (xK M [0,2,3,5,6,7] rfl rfl (by decide)) ?_
  intro M' hC'
  have hgM':=(hC'.get (hC.old ho0) (by simp)).trans hgM
  have hoM':=hC'.old (hC.old ho0)
  by_cases hk:s.k∈ [0,2,3,5,6,7]
  ·rw[adH hk]
   simp only[go_sem,seval,g1,g2,hgM',hoM',aa]
   refine WF.use (hins hC hC' hv hP.x (by omega)) ?_
   rintro v2 M2 ⟨hv2,hC2⟩
   simp only[go_sem,seval,g1,g2]
   refine hR _ ⟨_,_,v2,rfl,by exact gq g1,by exact gq rfl, ?_,hC2⟩
   rw[adF (by simpa using hk)];exact hv2
  ·rw[adG hk]
   simp only[go_sem,seval,g1,g2,aa]
   refine hR _ ⟨_,_,v,rfl,by exact gq g1,by exact gq g2, ?_,hC.tr hC'⟩
   rw[adE (by simpa using hk),ac7];exact hv.chg hC' λ_ _=>by simp
 clear g1 g2 hv hC
 rintro d ⟨t,M,v,rfl,g1,g2,hv,hC⟩
 change wp _ _ _ _ ⟨puts [] t, [],none,M⟩ _
 generalize hL3:(L2++if s.k=0∨s.k=2∨s.k=3∨s.k=5∨s.k=6∨s.k=7 then s.x.names else [])=L3 at hv
 have hn3:L3.length<=1+s.i.sz+s.x.sz:=by rw[←hL3,aa5];split<;>first|omega|(rw[af0];omega)
 have hown:s.own=L3++if s.k=3 then s.y.names else []:=by rw[Vk,←hL3,←hL2,←hL1];simp only[ab1]
 have hgM:=(hC.get ho0 (by simp)).trans hg0
 have fin:∀{v M},aQ m1 M v 1 (db s.own)->Chg [] m1 M->aQ m M v 1 (db s.own)/\Chg [] m M:=λh1 h2=>⟨h1.back λi hi=>hC1.old hi,hC1.tr h2⟩
 by_cases hk:s.k=3
 ·rw[adF hk] at hown
  have hd:decide (s.k=3)=true:=adH hk
  simp only[go_sem,seval,g1,g2,hgM,hl21,hl21',hd]
  refine WF.use (hins hC (Chg.refl M) hv hP.y (by omega)) ?_
  rintro v2 M2 ⟨hv2,hC2⟩
  simp only[go_sem,seval,g1,g2]
  rw[←hown] at hv2
  exact hK _ _ (fin hv2 hC2)
 ·rw[adE hk,ac7] at hown
  have hd:decide (s.k=3)=false:=adG hk
  simp only[go_sem,seval,g1,g2,hgM,hl21,hl21',hd]
  rw[←hown] at hv
  exact hK _ _ (fin hv hC)
def bD {σ:Type} (f:σ->Stm->σ×Bool):List Stm->σ->σ×Bool
 | [],s=>(s,true)
 |x::l,s=>if (f s x).2 then bD f l (f s x).1 else f s x
theorem fL {σ:Type} (f:σ->Stm->σ×Bool) (a b:List Stm):∀s,bD f (a++b) s=if (bD f a s).2 then bD f b (bD f a s).1 else bD f a s:=by
 induction a with
 |nil=>intro s;simp[bD]
 |cons x a ih=>
  intro s
  simp only[ad8,bD]
  split
  ·exact ih _
  ·rename_i h;simp[h]
def Al {σ:Type} (A:σ->Stm->Prop) (f:σ->Stm->σ×Bool):List Stm->σ->Prop
 | [],_=>True
 |x::l,s=>A s x/\((f s x).2=true->Al A f l (f s x).1)
theorem mM {σ:Type} {A:σ->Stm->Prop} {f:σ->Stm->σ×Bool} (a b:List Stm):∀s,Al A f (a++b) s↔Al A f a s/\((bD f a s).2=true->Al A f b (bD f a s).1):=by
 induction a with
 |nil=>intro s;simp[Al,bD]
 |cons x a ih=>
  intro s
  simp only[ad8,Al,bD,ih]
  constructor
  ·rintro⟨h1,h2⟩
   refine⟨⟨h1,λh=>(h2 h).1⟩,λh=> ?_⟩
   cases hb:(f s x).2 with
   |true=>rw[hb] at h;simp only[if_true] at h ⊢;exact (h2 hb).2 h
   |false=>rw[hb] at h;simp[hb] at h
  ·rintro⟨⟨h1,h2⟩,h3⟩
   refine⟨h1,λh=>⟨h2 h,λh4=> ?_⟩⟩
   rw[h] at h3;simp only[if_true] at h3;exact h3 h4
structure Ylds {σ:Type} (q:D4) (m0:NH) (T:D4->Prop) (A:σ->Stm->Prop) (f:σ->Stm->σ×Bool) (Φ:σ->List D4->NH->Prop):Prop where
 base:∀{s F N},Φ s F N->Chg [] m0 N
 old:∀{s F N},Φ s F N->∀i∈F,ap N i
 grow:∀{s F N N'},Φ s F N->Chg [] N N'->Φ s F N'
 y:∀{s F N x c},Φ s F N->RS m0 T x c->A s x->∃N',mH af8 S0 q [.agg c] N (.bool (f s x).2) N'/\∃F',Φ (f s x).1 F' N'/\Chg F N N'/\∀i∈F',i∈F∨¬ap N i
section
variable {σ:Type} {q:D4} {m0:NH} {T:D4->Prop} {A:σ->Stm->Prop} {f:σ->Stm->σ×Bool} {Φ:σ->List D4->NH->Prop}
def oD (q:D4) (m0:NH) (T:D4->Prop) (A:σ->Stm->Prop) (f:σ->Stm->σ×Bool) (Φ:σ->List D4->NH->Prop) (l:List Stm):Prop:=
 ∀{v C N s F},SS m0 T v l C->Φ s F N->Al A f (ch l) s->dC l<=1000000000->
  ∃N',rT 270 [v,.yld q] N (.bool (bD f (ch l) s).2) N'/\∃F',Φ (bD f (ch l) s).1 F' N'/\Chg F N N'/\∀i∈F',i∈F∨¬ap N i
theorem Xg (x:Stm):x.all=x::((if x.k=6∨x.k=7 then ch x.b else [])++(if x.k=6 then ch x.e else [])):=by cases x;rfl
theorem Jh {l:List Stm} {i:Nat} (hi:i<l.length):ch (l.take (i+1))=ch (l.take i)++l[i].all:=by
 rw[ab7,List.getElem?_eq_getElem hi,ae6,nV,ch,ch,ac7]
theorem R0 {l:List Stm} {x:Stm} (hx:x∈l):x.sz<=dC l:=by
 induction l with
 |nil=>simp at hx
 |cons a l ih=>
  rw[dC]
  rcases aa1.mp hx with rfl|hx
  ·omega
  ·have:=ih hx;omega
theorem Ez (hy:Ylds q m0 T A f Φ) {x:Stm} {w:SV} (hR:RS m0 T x (x.l w)) (hP:SP m0 T x w) (hb:oD q m0 T A f Φ x.b) (he:oD q m0 T A f Φ x.e) {s:σ} (hA:Al A f x.all s) (hsz:x.sz<=1000000000) {N:NH} {F:List D4} (hΦ:Φ s F N) {i n:Nat} {id:D4} {off:Nat} {wr:Bool} {C:List NV} (hi:i<n) (hn:n<=1000000000) (a1:fi 21 v (ii i)= .val (.ptr id off)) (a2:N.get id=some (.cells wr C)) (a3:ap N id) (a4:off+21<=C.length) (a5:(C.drop off).take 21=x.l w) {t:Tm}
 (g1:NT.get D4.e.a t=some (.yld q)) (g2:NT.get D4.e.a.c t=some v) (g3:NT.get D4.e.a.f t=some (ii n)) (g4:NT.get D4.e.b.a t=some (ii i))
 (hN:(bD f x.all s).2=true->∀t' N' F',Φ (bD f x.all s).1 F' N'->Chg F N N'->(∀i∈F',i∈F∨¬ap N i)->NT.get D4.e.a t'=some (.yld q)->NT.get D4.e.a.c t'=some v->NT.get D4.e.a.f t'=some (ii n)->NT.get D4.e.b.a t'=some (ii (i+1:Nat))->Q .norm ⟨t', [],none,N'⟩)
 (hF:(bD f x.all s).2=false->∀t' N' F',Φ (bD f x.all s).1 F' N'->Chg F N N'->(∀i∈F',i∈F∨¬ap N i)->NT.get D4.e.f t'=some (.bool false)->Q .ret ⟨puts [] t', [],none,N'⟩):
 wp af8 S0 none mG ⟨puts [] t, [],none,N⟩ Q:=by
 unfold mG
 have hl21:(x.l w).length=21:=rfl
 have hl21':(x.l w).take 21=x.l w:=rfl
 rw[←aa N]
 simp (disch:=first|omega|(simp only[aA]<;>omega)) only[go_sem,seval,g1,g2,g3,g4,a1,a2,a5,hl21,hl21']
 generalize hM1:hp _ 1 N=M1
 have hC1:Chg [] N M1:=az hM1 rfl
 have hg0:M1.get (na N 0)=some (.cells true (x.l w)):=aI hM1
 have ho0:ap M1 (na N 0):=aL hM1 (by omega)
 have hal:=Xg x
 rw[hal] at hA
 refine WY.use1 (hy.y (hy.grow hΦ hC1) hR hA.1) ?_
 rintro M2 ⟨F2,hΦ2,hC2,hF2⟩
 have hn0:na N 0∉F:=λh=>(hy.old hΦ _ h).ne 0 rfl
 have hg2:=(hC2.get ho0 hn0).trans hg0
 have ho2:=hC2.old ho0
 have hC02:Chg F N M2:=(hC1.weak (by simp)).trans hC2 λ_ h _=>h
 have hN2:∀i∈F2,i∈F∨¬ap N i:=λi hi=>(hF2 i hi).imp _root_.id λq o=>q (hC1.old o)
 cases hb1:(f s x).2 with
 |false=>
  have hfo:bD f x.all s=f s x:=by rw[hal,bD,hb1];rfl
  simp only[go_sem,seval,g1,g2,g3,g4,hg2,ho2]
  rw[hfo] at hF
  exact hF hb1 _ M2 F2 hΦ2 hC02 hN2 (by simp only[go_sem,seval])
 |true=>
  have hfo:bD f x.all s=bD f ((if x.k=6∨x.k=7 then ch x.b else [])++(if x.k=6 then ch x.e else [])) (f s x).1:=by rw[hal,bD,hb1];rfl
  rw[hfo] at hN hF
  simp (disch:=first|omega|(simp only[aA]<;>omega)) only[go_sem,seval,g1,g2,g3,g4,hg2,ho2,hl21,hl21']
  refine WF.use1 (xK M2 [6,7] rfl rfl (by decide)) ?_
  intro M3 hC3
  have hΦ3:=hy.grow hΦ2 hC3
  have hg3:=(hC3.get ho2 (by simp)).trans hg2
  have ho3:=hC3.old ho2
  have hC03:Chg F N M3:=hC02.tr hC3
  have hrb:=Um x
  by_cases hk:x.k=6∨x.k=7
  ·rw[adH (by simpa using hk:x.k∈ [6,7])]
   rw[adF hk] at hN hF hal
   obtain⟨B,hB⟩:=hP.b
   obtain⟨E,hE⟩:=hP.e
   have hA2:=hA.2 hb1
   rw[adF hk,mM] at hA2
   have hAb:=hA2.1
   simp only[go_sem,seval,g1,g2,g3,g4,hg3,ho3]
   refine WF.use1 (hb hB hΦ3 hAb (by omega)) ?_
   rintro M4 ⟨F4,hΦ4,hC4,hF4⟩
   have hn3:na N 0∉F2:=λh=>(hN2 _ h).elim hn0 λq=>by
    rcases hF2 _ h with h|h
    ·exact hn0 h
    ·exact h ho0
   have hg4:=(hC4.get ho3 hn3).trans hg3
   have ho4:=hC4.old ho3
   have hC04:Chg F N M4:=hC03.trans hC4 λi hi ho=>(hN2 i hi).elim _root_.id λq=>adD ho q
   have hN4:∀i∈F4,i∈F∨¬ap N i:=λi hi=>(hF4 i hi).elim (hN2 i) λq=>Or.inr λo=>q (hC03.old o)
   rw[fL] at hN hF
   cases hb2:(bD f (ch x.b) (f s x).1).2 with
   |false=>
    rw[hb2] at hF
    simp only[go_sem,seval,g1,g2,g3,g4,hg4,ho4]
    refine hF hb2 _ M4 F4 hΦ4 hC04 hN4 (by simp only[go_sem,seval])
   |true=>
    rw[hb2,adF rfl] at hN hF
    by_cases h6:x.k=6
    ·rw[adF h6] at hN hF hal
     have hAe:=hA2.2 hb2
     rw[adF h6] at hAe
     have hd:decide (x.k=6)=true:=adH h6
     simp only[go_sem,seval,g1,g2,g3,g4,hg4,ho4,hd]
     refine WF.use1 (he hE hΦ4 hAe (by omega)) ?_
     rintro M5 ⟨F5,hΦ5,hC5,hF5⟩
     have hC05:Chg F N M5:=hC04.trans hC5 λi hi ho=>(hN4 i hi).elim _root_.id λq=>adD ho q
     have hN5:∀i∈F5,i∈F∨¬ap N i:=λi hi=>(hF5 i hi).elim (hN4 i) λq=>Or.inr λo=>q (hC04.old o)
     cases hb3:(bD f (ch x.e) (bD f (ch x.b) (f s x).1).1).2 with
     |false=>
      simp only[go_sem,seval,g1,g2,g3,g4]
      refine hF hb3 _ M5 F5 hΦ5 hC05 hN5 (by simp only[go_sem,seval])
     |true=>
      simp (disch:=omega) only[go_sem,seval,g1,g2,g3,g4]
      refine hN hb3 _ M5 F5 hΦ5 hC05 hN5 (by simp only[go_sem,seval,g1]) (by simp only[go_sem,seval,g2]) (by simp only[go_sem,seval,g3]) (by simp only[go_sem,seval]<;>rfl)
    ·rw[adE h6] at hN hF
     have hd:decide (x.k=6)=false:=adG h6
     simp (disch:=omega) only[go_sem,seval,g1,g2,g3,g4,hg4,ho4,hd]
     refine hN rfl _ M4 F4 hΦ4 hC04 hN4 (by simp only[go_sem,seval,g1]) (by simp only[go_sem,seval,g2]) (by simp only[go_sem,seval,g3]) (by simp only[go_sem,seval]<;>rfl)
  ·rw[adG (by simpa using hk:x.k∉ [6,7])]
   have h6:x.k≠6:=λe=>hk (Or.inl e)
   rw[adE hk,adE h6] at hN hF
   have hd:decide (x.k=6)=false:=adG h6
   simp (disch:=omega) only[go_sem,seval,g1,g2,g3,g4,hg3,ho3,hd]
   refine hN rfl _ M3 F2 hΦ3 hC03 hN2 (by simp only[go_sem,seval,g1]) (by simp only[go_sem,seval,g2]) (by simp only[go_sem,seval,g3]) (by simp only[go_sem,seval]<;>rfl)
end
section
variable {σ:Type} {q:D4} {m0:NH} {T:D4->Prop} {A:σ->Stm->Prop} {f:σ->Stm->σ×Bool} {Φ:σ->List D4->NH->Prop}
theorem qD (l:List Stm) (i:Nat) (hi:i<l.length):ch l=ch (l.take i)++(l[i].all++ch (l.drop (i+1))):=by
 conv=>lhs;rw[←af7 i l,ab8 hi]
 rw[nV,ch]
theorem nD (hy:Ylds q m0 T A f Φ) {l:List Stm} (ih:∀x∈l,oD q m0 T A f Φ x.b/\oD q m0 T A f Φ x.e):oD q m0 T A f Φ l:=by
 intro v C N s F hS hΦ hA hsz
 refine WF.ex1 λK hK=> ?_
 refine WF.of_wpG (λ_=>rfl) xL (L:= [(.a .e,.yld q),(.e,v)]) rfl ?_
 unfold L9
 have hlen:=(hS.stays (sw (hy.base hΦ) T)).sl.len
 rw[hS.len] at hlen
 have hll:=GZ l
 simp only[go_sem,seval,hlen,aa]
 refine W.loop (λk d=>∃t M i F',d=⟨t, [],none,M⟩/\NT.get D4.e.a t=some (.yld q)/\NT.get D4.e.a.c t=some v/\NT.get D4.e.a.f t=some (ii l.length)/\NT.get D4.e.b.a t=some (ii (i:Nat))/\i+k=l.length/\(bD f (ch (l.take i)) s).2=true/\Φ (bD f (ch (l.take i)) s).1 F' M/\Chg F N M/\(∀i∈F',i∈F∨¬ap N i)) ?_ l.length _ ⟨_,N,0,F,rfl,by exact gq rfl,by exact gq rfl,by exact gq rfl,by exact gq rfl,by omega,rfl,hΦ,(Chg.refl N).weak (by simp),λ_ h=>Or.inl h⟩
 rintro k d ⟨t,M,i,F',rfl,g1,g2,g3,g4,hik,hb,hΦ',hC,hF⟩
 apply av
 change wp _ _ _ _ ⟨puts [] t, [],none,M⟩ _
 by_cases hi:i<l.length
 ·have hCM:=hy.base hΦ'
  have hSM:=hS.stays (sw hCM T)
  obtain⟨cx,hcx,hRx⟩:=hS.at i hi
  obtain⟨id,off,wr,c,a1,a2,a3,a4,a5⟩:=hSM.sl.at i (by rw[hS.len];exact hi)
  have ecx:C[i]'(by rw[hS.len];exact hi)=cx:=by
   have:=List.getElem?_eq_getElem (l:=C) (i:=i) (by rw[hS.len];exact hi)
   rw[this] at hcx;injection hcx
  rw[ecx] at a5
  obtain⟨w,rfl,hP⟩:=hRx.inv'
  have hsx:=R0 (aa9 hi)
  obtain⟨h1,h2⟩:=ih _ (aa9 hi)
  have hst:bD f (ch (l.take (i+1))) s=bD f l[i].all (bD f (ch (l.take i)) s).1:=by rw[Jh hi,fL,hb,adF rfl]
  rw[qD l i hi,mM,mM] at hA
  have hAi:=(hA.2 hb).1
  refine Ez hy hRx hP h1 h2 hAi (by omega) hΦ' (n:=l.length) hi (by omega) a1 a2 a3 a4 a5 g1 g2 g3 g4 ?_ ?_
  ·intro hb2 t' N' F2 hΦ2 hC2 hF2 g1 g2 g3 g4
   refine⟨k - 1,by omega,t',N',i+1,F2,rfl,g1,g2,g3,g4,by omega, ?_, ?_,hC.trans hC2 λj hj ho=>(hF j hj).elim _root_.id λq=>adD ho q,λj hj=>(hF2 j hj).elim (hF j) λq=>Or.inr λo=>q (hC.old o)⟩
   ·rw[hst];exact hb2
   ·rw[hst];exact hΦ2
  ·intro hb2 t' N' F2 hΦ2 hC2 hF2 g1
   have hfin:bD f (ch l) s=bD f l[i].all (bD f (ch (l.take i)) s).1:=by
    rw[qD l i hi,fL,hb,adF rfl,fL,hb2];rfl
   simp only[go_sem,seval,g1]
   rw[hfin] at hK
   rw[←hb2]
   exact hK _ ⟨F2,hΦ2,hC.trans hC2 λj hj ho=>(hF j hj).elim _root_.id λq=>adD ho q,λj hj=>(hF2 j hj).elim (hF j) λq=>Or.inr λo=>q (hC.old o)⟩
 ·have e:(l.take i)=l:=ac9 (by omega)
  rw[e] at hb hΦ'
  rw[hb] at hK
  unfold mG
  simp (disch:=omega) only[go_sem,seval,g1,g2,g3,g4]
  exact hK _ ⟨F',hΦ',hC,hF⟩
theorem Ov (hy:Ylds q m0 T A f Φ):∀l:List Stm,oD q m0 T A f Φ l:=by
 have key:∀x:Stm,oD q m0 T A f Φ x.b/\oD q m0 T A f Φ x.e:=by
  apply Stm.ind
  intro k a nm ce i x y b e hb he
  exact⟨nD hy hb,nD hy he⟩
 exact λl=>nD hy λx _=>key x
theorem Qi (hy:Ylds q m0 T A f Φ) {l:List Stm} {N:NH} {s:σ} {F:List D4} {id:D4} (hg:N.get id=some (.cells true [v])) (hS:SS m0 T v l C) (hΦ:Φ s F N) (hA:Al A f (ch l) s) (hsz:dC l<=1000000000):
 ∃N',rT 269 [.yld q,.ptr id 0] N (.tup []) N'/\∃F',Φ (bD f (ch l) s).1 F' N'/\Chg F N N'/\∀i∈F',i∈F∨¬ap N i:=by
 refine WF.ex1 λK hK=> ?_
 refine WF.of_wpG (λ_=>rfl) CP (L:= [(.a .e,.ptr id 0),(.e,.yld q)]) rfl ?_
 unfold Oe
 simp only[go_sem,seval,hg,aa]
 refine WF.use1 (Ov hy l hS hΦ hA hsz) ?_
 intro N' h
 simp only[go_sem,seval]
 exact hK _ h
end
theorem TO (m:NH) (hv:cellsOf v=some [v]):rT 204 [v] m (.fn 269 [.ptr (na m 0) 0]) (hp [(.n 0,.cells true [v])] 1 m):=by
 have h:∃r m',rT 204 [v] m r m'/\r= .fn 269 [.ptr (na m 0) 0]/\m'=(hp [(.n 0,.cells true [v])] 1 m):=by
  refine WF.ex λK hK=> ?_
  refine WF.of_wpG (λ_=>rfl) zJ (L:= [(.e,v)]) rfl ?_
  unfold MJ
  simp only[go_sem,seval,hv]
  exact hK _ _ ⟨rfl,rfl⟩
 obtain⟨r,m',h1,rfl,rfl⟩:=h
 exact h1
def LcΦ (q o:D4) (t:Tm) (M1:NH) (st:List (List Nat)×Nat) (F:List D4) (N:NH):Prop:=∃u,F=q::o::ids u/\Chg [q,o] M1 N/\N.get q=some (.loop 0 .none t [D4.e.a.c] gE iG)/\N.get o=some (.cells true [u])/\aQ M1 N u 1 (db st.1)/\st.1.length<=st.2
def LcA (st:List (List Nat)×Nat) (x:Stm):Prop:=x.sz<=100000000/\st.2+x.own.length<=100000000
def TY (st:List (List Nat)×Nat) (x:Stm):(List (List Nat)×Nat)×Bool:=((x.own.foldl dg st.1,st.2+x.own.length),true)
theorem Tt  {M1:NH} {q o:D4} {t:Tm} (h1:NT.get D4.e.c t=some (.ptr o 0)) (h0:∀S,Chg [q,o] M1 S->Chg [] m0 S) (hoq:o≠q) (hqo:ap M1 q) (hoo:ap M1 o):Ylds q m0 T LcA TY (LcΦ q o t M1):=by
 refine⟨?_, ?_, ?_, ?_⟩
 ·rintro s F N ⟨u,rfl,hC,hq,ho,hu,hl⟩;exact h0 _ hC
 ·rintro s F N ⟨u,rfl,hC,hq,ho,hu,hl⟩ i hi
  rcases aa1.mp hi with rfl|hi
  ·exact hC.old hqo
  ·rcases aa1.mp hi with rfl|hi
   ·exact hC.old hoo
   ·exact hu.sl.old i hi
 ·rintro s F N N' ⟨u,rfl,hC,hq,ho,hu,hl⟩ hC'
  exact⟨u,rfl,hC.tr hC',(hC'.get (hC.old hqo) (by simp)).trans hq,(hC'.get (hC.old hoo) (by simp)).trans ho,hu.chg hC' λ_ _=>by simp,hl⟩
 ·rintro s F N x c ⟨u,rfl,hC,hq,ho,hu,hl⟩ hR ⟨hA1,hA2⟩
  obtain⟨w,rfl,hP⟩:=hR.inv'
  refine WY.ex1 λK hK=> ?_
  refine WY.of_wp hq rfl gE.eq_1 iG.eq_1 ?_
  change wp _ _ _ _ ⟨puts [(D4.e.a.c,.agg (x.l w))] t, [],none,hp [] 0 N⟩ _
  have hl21:(x.l w).length=21:=rfl
  have hl21':(x.l w).take 21=x.l w:=rfl
  have oq:=hC.old hqo
  have oo:=hC.old hoo
  have hqo':q≠o:=λe=>hoq e.symm
  simp (disch:=first|omega|(simp only[aA]<;>omega)) only[go_sem,seval,h1,hq,ho,hl21,hl21']
  generalize hM2:hp _ 1 N=M2
  have hC2:Chg [q] N M2:=az hM2 rfl
  have q2:M2.get q=some (.loop 1 .none t [D4.e.a.c] gE iG):=nF oq hM2
  have o2:M2.get o=some (.cells true [u]):=(hC2.get oo (by simpa using hoq)).trans ho
  have b2:M2.get (na N 0)=some (.cells true (x.l w)):=aI hM2
  have ob2:ap M2 (na N 0):=aL hM2 (by omega)
  have hC02:Chg [] m0 M2:=h0 _ (hC.trans (hC2.weak (T:= [q,o]) (by simp)) λ_ h _=>h)
  refine WF.use (G3 hR hC02 hA1) ?_
  rintro v3 M3 ⟨hv3,hC3⟩
  have q3:=(hC3.get (hC2.old oq) (by simp)).trans q2
  have o3:=(hC3.get (hC2.old oo) (by simp)).trans o2
  have b3:=(hC3.get ob2 (by simp)).trans b2
  have hqu:q∉ids u:=λh=>hu.new _ h hqo
  have hou:o∉ids u:=λh=>hu.new _ h hoo
  have hu3:aQ M1 M3 u 1 (db s.1):=(hu.chg hC2 λi hi=>by simp;rintro rfl;exact hqu hi).chg hC3 λ_ _=>by simp
  have hus:aU 4 u u=true:=hu.sl.same
  simp only[go_sem,seval,h1,q3,o3,b3,hl21,hl21',hus]
  refine WF.use (GO hu3 hv3.sl (λi hi hiu=>hv3.new i hi (hC2.old (hu.sl.old i hiu))) (λi hi=>hC3.old (hC2.old (hC.old hi))) (by omega)) ?_
  rintro v4 M4 ⟨hv4,hC4,hF4⟩
  have q4:=(hC4.get (hC3.old (hC2.old oq)) hqu).trans q3
  have o4:=(hC4.get (hC3.old (hC2.old oo)) hou).trans o3
  have oq4:=hC4.old (hC3.old (hC2.old oq))
  have oo4:=hC4.old (hC3.old (hC2.old oo))
  rw[←aa M4]
  simp (disch:=first|omega|(simp only[aA]<;>omega)) only[go_sem,seval,h1,q4,o4,b3,hl21,hl21',hus,hv4.sl.one]
  generalize hM5:hp _ 0 M4=M5
  have hC5:Chg [q,o] M4 M5:=az hM5 rfl
  have hqv:q∉ids v4:=λh=>hv4.new _ h hqo
  have hov:o∉ids v4:=λh=>hv4.new _ h hoo
  have hCN:Chg (q::o::ids u) N M5:=(((hC2.weak (T:=q::o::ids u) (by simp)).tr hC3).trans hC4 (λ_ h _=>by simp[h])).trans hC5 (λi h _=>by simp at h ⊢;rcases h with h|h<;>simp[h])
  refine hK _ ⟨_,⟨v4,rfl, ?_, ?_, ?_, ?_, ?_⟩,hCN, ?_⟩
  ·refine hC.trans hCN λi hi ho=> ?_
   simp only[adJ] at hi
   rcases hi with rfl|rfl|hi
   ·simp
   ·simp
   ·exact adD ho (hu.new i hi)
  ·rw[←hM5];exact (aO oq4).trans aC
  ·rw[←hM5];exact (aO oo4).trans ((bf hoq).trans aC)
  ·refine hv4.chg hC5 λi hi=> ?_
   simp only[adJ,adI,or_false,not_or]
   exact⟨λe=>hqv (e▸hi),λe=>hov (e▸hi)⟩
  ·have:=jL x.own s.1
   show _<=s.2+x.own.length
   simp only[TY]
   omega
  ·intro i hi
   simp only[adJ] at hi ⊢
   rcases hi with rfl|rfl|hi
   ·simp
   ·simp
   ·rcases hF4 i hi with h|h
    ·exact Or.inl (Or.inr (Or.inr h))
    ·exact Or.inr λho=>h (hC3.old (hC2.old ho))
theorem Rm (l:List Stm):∀st,bD TY l st=(((l.flatMap Stm.own).foldl dg st.1,st.2+(l.flatMap Stm.own).length),true):=by
 induction l with
 |nil=>intro st;rfl
 |cons x l ih=>
  intro st
  show (if true then bD TY l (TY st x).1 else _)=_
  rw[adF rfl,ih]
  simp only[TY,List.flatMap_cons,List.foldl_append,aa5]
  rw[Nat.add_assoc]
theorem ZW (l:List Stm):∀st:List (List Nat)×Nat,(∀x∈l,x.sz<=100000000)->st.2+(l.flatMap Stm.own).length<=100000000->Al LcA TY l st:=by
 induction l with
 |nil=>intro st _ _;trivial
 |cons x l ih=>
  intro st h1 h2
  rw[List.flatMap_cons,aa5] at h2
  exact⟨⟨h1 x (ab2 ..),by omega⟩,λ_=>ih _ (λy hy=>h1 y (aa8 _ hy)) (by simp only[TY];omega)⟩
theorem WB:∀x:Stm,(∀y∈x.all,y.sz<=x.sz)/\(x.all.flatMap Stm.own).length<=2*x.sz:=by
 apply Stm.ind
 intro k a nm ce i x y b e hb he
 have key:∀l:List Stm,(∀s∈l,(∀y∈s.all,y.sz<=s.sz)/\(s.all.flatMap Stm.own).length<=2*s.sz)->(∀y∈ch l,y.sz<=dC l)/\((ch l).flatMap Stm.own).length<=2*dC l:=by
  intro l
  induction l with
  |nil=>intro _;exact⟨by simp[ch],by simp[ch]⟩
  |cons s l ih=>
   intro h
   obtain⟨h1,h2⟩:=h s (ab2 ..)
   obtain⟨h3,h4⟩:=ih λy hy=>h y (aa8 _ hy)
   rw[ch,dC,List.flatMap_append,aa5]
   refine⟨λy hy=> ?_,by omega⟩
   rcases aa6.mp hy with hy|hy
   ·have:=h1 y hy;omega
   ·have:=h3 y hy;omega
 obtain⟨b1,b2⟩:=key b hb
 obtain⟨e1,e2⟩:=key e he
 have hi:=fY i
 have hx:=fY x
 have hy:=fY y
 have ho:(Stm.mk k a nm ce i x y b e).own.length<=1+i.sz+x.sz+y.sz:=by
  rw[Stm.own]
  simp only[aa5]
  have:∀(p:Prop) [Decidable p] (l:List (List Nat)),(if p then l else []).length<=l.length:=by intro p _ l;split<;>simp
  have a1:=this (k=0∨k=1∨k=3) [nm]
  have a2:=this (k=1∨k=2∨k=3) i.names
  have a3:=this (k=0∨k=2∨k=3∨k=5∨k=6∨k=7) x.names
  have a4:=this (k=3) y.names
  simp only[List.length_singleton] at a1
  omega
 rw[Stm.all,Stm.sz]
 constructor
 ·intro z hz
  rcases aa1.mp hz with rfl|hz
  ·rw[Stm.sz];omega
  ·rcases aa6.mp hz with hz|hz
   ·split at hz
    ·have:=b1 z hz;omega
    ·simp at hz
   ·split at hz
    ·have:=e1 z hz;omega
    ·simp at hz
 ·rw[List.flatMap_cons,List.flatMap_append,aa5,aa5]
  have c1:((if k=6∨k=7 then ch b else []).flatMap Stm.own).length<=2*dC b:=by split<;>first|exact b2|simp
  have c2:((if k=6 then ch e else []).flatMap Stm.own).length<=2*dC e:=by split<;>first|exact e2|simp
  omega
theorem wn (l:List Stm):(∀y∈ch l,y.sz<=dC l)/\((ch l).flatMap Stm.own).length<=2*dC l:=by
 induction l with
 |nil=>exact⟨by simp[ch],by simp[ch]⟩
 |cons s l ih=>
  obtain⟨h1,h2⟩:=WB s
  obtain⟨h3,h4⟩:=ih
  rw[ch,dC,List.flatMap_append,aa5]
  refine⟨λy hy=> ?_,by omega⟩
  rcases aa6.mp hy with hy|hy
  ·have:=h1 y hy;omega
  ·have:=h3 y hy;omega
theorem MS  {m:NH} {l:List Stm} (hS:SS m0 T v l C) (hC0:Chg [] m0 m) (hsz:dC l<=10000000):
 ∃r m',rT 210 [v] m r m'/\aQ m m' r 1 (db (locals l))/\Chg [] m m':=by
 refine WF.ex λK hK=> ?_
 refine WF.of_wpM (λ_=>rfl) xm (L:= [(.e,v)]) rfl ?_
 unfold Na
 simp only[go_sem,seval,(TO _ hS.sl.one).wf']
 generalize hM0:hp [(.n 0,.cells true [.nils])] 1 m=M0
 have hC1:Chg [] m M0:=az hM0 rfl
 have go0:M0.get (na m 0)=some (.cells true [.nils]):=aI hM0
 have oo0:ap M0 (na m 0):=aL hM0 (by omega)
 generalize hM:hp [(.n 0,.cells true [v])] 1 M0=M
 have hC2:Chg [] M0 M:=az hM rfl
 have gz:M.get (na M0 0)=some (.cells true [v]):=aI hM
 have oz:ap M (na M0 0):=aL hM (by omega)
 have go:=(hC2.get oo0 (by simp)).trans go0
 have oo:=hC2.old oo0
 have hCm:Chg [] m M:=hC1.tr hC2
 generalize ht:puts [(D4.e.a.b,NV.fn 269 [NV.ptr (na M0 0) 0]),(D4.e.a.a,v),(D4.e.c,NV.ptr (na m 0) 0),(D4.e.b,NV.nils),(D4.e,v)] NT.leaf=t
 have g1:NT.get D4.e.c t=some (.ptr (na m 0) 0):=by rw[←ht];simp only[go_sem,seval]
 have g2:NT.get D4.e.a.b t=some (.fn 269 [.ptr (na M0 0) 0]):=by rw[←ht];simp only[go_sem,seval]
 clear ht
 generalize hM1:hp [(.n 1,.loop 0 .none t [D4.e.a.c] gE iG),(.n 0,.defd true)] 2 M=M1
 have hG:Chg [] M M1:=az hM1 rfl
 have oq:ap M1 (na M 1):=aL hM1 (by omega)
 have om:ap M1 (na M 0):=aL hM1 (by omega)
 have gq:M1.get (na M 1)=some (.loop 0 .none t [D4.e.a.c] gE iG):=aI hM1
 have gm:M1.get (na M 0)=some (.defd true):=aI hM1
 have hoq:na m 0≠na M 1:=oo.ne 1
 have hCm1:Chg [] m M1:=hCm.tr hG
 have h0:∀S,Chg [na M 1,na m 0] M1 S->Chg [] m0 S:=λS h=>(hC0.tr hCm1).trans h λi hi ho=>by
  simp only[adJ,adI,or_false] at hi
  rcases hi with rfl|rfl
  ·exact adD (hCm.old (hC0.old ho)) ak
  ·exact adD (hC0.old ho) ak
 have hY:=Tt (T:=T) g1 h0 hoq oq (hG.old oo)
 obtain⟨hA1,hA2⟩:=wn l
 obtain⟨m',hr,F',⟨u,rfl,hC3,hq3,ho3,hu3,-⟩,hC4,-⟩:=Qi hY (s:=([],0)) (F:= [na M 1,na m 0]) (id:=na M0 0) ((hG.get oz (by simp)).trans gz) hS ⟨.nils,rfl,(Chg.refl M1).weak (by simp),gq,(hG.get oo (by simp)).trans go,aQ.nil,by simp⟩ (ZW _ _ (λx hx=>by have:=hA1 x hx;omega) (by show 0+_<=_;omega)) (by omega)
 rw[Rm] at hu3
 refine W.rangeN g2 (hM1▸hr) hq3 ?_ (hC3.old oq)
 have gm3:m'.get (na M 0)=some (.defd true):=(hC3.get om (by
  simp only[adJ,adI,or_false,not_or]
  exact⟨λe=>by have:=fp e;omega,λe=>oo.ne 0 e.symm⟩)).trans gm
 have om3:=hC3.old om
 have oo3:=hC3.old (hG.old oo)
 have hne:na M 0≠na M 1:=λe=>by have:=fp e;omega
 change jX _ _ _ ⟨puts [] t,_,_,_⟩
 simp (disch:=omega) only[go_sem,seval,g1,gm3,om3,ho3,oo3,hoq,hne]
 generalize hMe:hp _ 0 m'=Me
 have hCe:Chg [na M 1,na M 0] m' Me:=by rw[←hMe];exact (aw rfl:Chg [na M 0,na M 1] m' _).weak (by intro i hi _;simp at hi ⊢;exact hi.symm)
 refine hK _ _ ⟨?_, ?_⟩
 ·refine (hu3.chg hCe λi hi=> ?_).back λi hi=>hCm1.old hi
  simp only[adJ,adI,or_false,not_or]
  exact⟨λe=>hu3.new i hi (e▸oq),λe=>hu3.new i hi (e▸om)⟩
 ·refine ((hCm1.weak (T:= [na M 1,na m 0,na M 0]) (by simp)).trans hC3 λi h _=>by simp at h ⊢;rcases h with h|h<;>simp[h]).trans hCe (λi h _=>by simp at h ⊢;rcases h with h|h<;>simp[h]) |>.weak λi hi ho=> ?_
  simp only[adJ,adI,or_false] at hi
  rcases hi with rfl|rfl|rfl
  ·exact adD (hCm.old ho) ak
  ·exact adD ho ak
  ·exact adD (hCm.old ho) ak
theorem Zt {m:NH} {l:List Stm} (h:SS m T v l C) (i:Nat) (hi:i<l.length):∃w,C[i]? =some (l[i].l w)/\RS m T l[i] (l[i].l w)/\SP m T l[i] w:=by
 obtain⟨c,h1,h2⟩:=h.at i hi
 obtain⟨w,rfl,h3⟩:=h2.inv'
 exact⟨w,h1,h2,h3⟩
theorem Vt {m:NH} {l:List Stm} (h:SS m T v l C) (i:Nat) (hi:i<l.length) {cs:List NV} (hc:C[i]? =some cs):∃id off w c,fi 21 v (.int .i64 (.lit (i:Int)))= .val (.ptr id off)/\m.get id=some (.cells w c)/\ap m id/\off+21<=c.length/\(c.drop off).take 21=cs:=by
 have hl:i<C.length:=by rw[h.len];exact hi
 obtain⟨id,off,w,c,a1,a2,a3,a4,a5⟩:=h.sl.at i hl
 rw[List.getElem?_eq_getElem hl] at hc
 injection hc with hc
 exact⟨id,off,w,c,a1,a2,a3,a4,a5.trans hc⟩
abbrev iu (z:Int):NV:= .int .u64 (.lit z)
def acd (z:Int):Prop:=0<=z/\z<18446744073709551616
abbrev acm (l:List Int):List (List NV):=l.map λz=> [iu z]
structure Env (m0:NH) (vn vv:NV) (ns:List (List Nat)) (vs:List Int):Prop where
 n:Sl m0 vn 1 (db ns)
 v:Sl m0 vv 1 (acm vs)
 i:∀z∈vs,acd z
 ln:ns.length<=1000000
 lv:vs.length<=1000000
theorem Env.grow  {m:NH} {vn vv:NV} {vs:List Int} (h:Env m0 vn vv ns vs) (hC:Chg [] m0 m):Env m vn vv ns vs:=⟨h.n.chg hC λ_ _=>by simp,h.v.chg hC λ_ _=>by simp,h.i,h.ln,h.lv⟩
theorem bz.grow  {a b c:NH} (h:bz T a b) (hC:Chg [] b c):bz T a c:=λi hi ho=>by
 obtain⟨h1,h2⟩:=h i hi ho
 exact⟨(hC.get h2 (by simp)).trans h1,hC.old h2⟩
theorem Sy  {M:NH} {ks:List Ex} {vk:NV} (hS:SE m0 T vk ks C) (hst:bz T m0 M) (i:Nat) (hi:i<ks.length):∃u id off w c,RE m0 T ks[i] (ks[i].l u)/\fi 5 vk (.int .i64 (.lit (i:Int)))= .val (.ptr id off)/\M.get id=some (.cells w c)/\ap M id/\off+5<=c.length/\(c.drop off).take 5=ks[i].l u:=by
 obtain⟨cx,hcx,hRx⟩:=hS.at i hi
 have hc:i<C.length:=by rw[hS.len];exact hi
 obtain⟨id,off,wr,c,a1,a2,a3,a4,a5⟩:=(hS.stays hst).sl.at i hc
 obtain⟨u,Cx,rfl,-⟩:=hRx.inv'
 rw[List.getElem?_eq_getElem hc] at hcx
 injection hcx with hcx
 exact⟨u,id,off,wr,c,hRx,a1,a2,a3,a4,a5.trans hcx⟩
theorem wt {m:NH} {x:Ex} {u:NV} (h:RE m T x (x.l u)):aU 4 (.agg (x.l u)) (.agg (x.l u))=true:=by
 cases x
 obtain⟨v,C,e,hS⟩:=h.inv
 refine qK ?_
 intro w hw
 rw[e] at hw
 simp only[adJ,adI,or_false] at hw
 rcases hw with rfl|rfl|rfl|rfl|rfl
 ·trivial
 ·trivial
 ·trivial
 ·trivial
 ·exact hS.sl.flat
abbrev jx (l:List (List Nat×Int)):List (List NV):=l.map λc=> [.str c.1,ii c.2]
structure Ths (m:NH) (T:D4->Prop) (v:NV) (l:List (List Nat×List Stm)) (C:List (List NV)):Prop where
 sl:Sl m v 2 C
 hT:∀i∈ids v,T i
 len:C.length=l.length
 R:∀(i:Nat) (x:List Nat×List Stm) (c:List NV),l[i]? =some x->C[i]? =some c->∃vb B,c= [.str x.1,vb]/\SS m T vb x.2 B
theorem Ths.stays  {m:NH} (hs:bz T m m') {l:List (List Nat×List Stm)} (h:Ths m T v l C):Ths m' T v l C:=
 ⟨gi h.sl h.hT hs,h.hT,h.len,λi x c a b=>by obtain⟨vb,B,e,h⟩:=h.R i x c a b;exact⟨vb,B,e,h.stays hs⟩⟩
theorem Ths.at {m:NH} {l:List (List Nat×List Stm)} (h:Ths m T v l C) (i:Nat) (hi:i<l.length):∃vb B id off w c,SS m T vb l[i].2 B/\fi 2 v (.int .i64 (.lit (i:Int)))= .val (.ptr id off)/\m.get id=some (.cells w c)/\ap m id/\off+2<=c.length/\(c.drop off).take 2= [.str l[i].1,vb]:=by
 have hc:i<C.length:=by rw[h.len];exact hi
 obtain⟨vb,B,e,hS⟩:=h.R i _ _ (List.getElem?_eq_getElem hi) (List.getElem?_eq_getElem hc)
 obtain⟨id,off,w,c,a1,a2,a3,a4,a5⟩:=h.sl.at i hc
 exact⟨vb,B,id,off,w,c,hS,a1,a2,a3,a4,a5.trans e⟩
structure Prg where
 cs:List (List Nat×Int)
 ts:List (List Nat×List Stm)
 r:List Stm
structure RP (m:NH) (T:D4->Prop) (p:Prg) (vc vt vr:NV):Prop where
 c:Sl m vc 2 (jx p.cs)
 cT:∀i∈ids vc,T i
 t:∃C,Ths m T vt p.ts C
 r:∃C,SS m T vr p.r C
theorem RP.stays  {m:NH} (hs:bz T m m') {p:Prg} {vc vt vr:NV} (h:RP m T p vc vt vr):RP m' T p vc vt vr:=
 ⟨gi h.c h.cT hs,h.cT,let ⟨C,q⟩:=h.t;⟨C,q.stays hs⟩,let ⟨C,q⟩:=h.r;⟨C,q.stays hs⟩⟩
def WT (s:Int):Bool:=decide (1<=s/\s<=64/\s.toNat&&& (s.toNat - 1)=0)
def io:List (List Nat)->Int->List (List Nat×Int)->Int
 |_,_, []=>0
 |seen,w,c::l=>if c.1∈seen then 5 else if WT c.2=false then 7 else if 64 - w<c.2 then 3 else io (dg seen c.1) (w+c.2) l
def kT:List (List Nat)->List (List Nat)->Int
 |_, []=>0
 |seen,n::l=>if n∈seen then 5 else kT (dg seen n) l
theorem SD {a b:Nat} (ha:a<1000) (hb:b<1000):bH .num .and (ii a) (ii b)=some (ii ((a&&& b:Nat):Int)):=
 (jy rfl).trans (bits_nat (k:= .i64) (Or.inl rfl) (by show a<9223372036854775808;omega) (by show b<9223372036854775808;omega) rfl)
theorem HL {s:Int} (h1:1<=s) (h2:s<=64):bH .num .and (ii s) (ii (s - 1))=some (ii (s.toNat&&& (s.toNat - 1):Nat)):=by
 obtain⟨n,rfl⟩:=adL (by omega:0<=s)
 rw[show ((n:Int) - 1)=((n - 1:Nat):Int) by omega]
 exact SD (by omega) (by omega)
theorem Sw {m:NH} {l:List (List Nat×Int)} (hv:Sl m v 2 (jx l)) (hsz:l.length<=1000000):∃m',rT 202 [v] m (ii (io [] 0 l)) m'/\Chg [] m m':=by
 refine WF.ex1 λK hK=> ?_
 refine WF.of_wpG (λ_=>rfl) Ca (L:= [(.e,v)]) rfl ?_
 unfold Nv
 have hlen:=hv.len
 rw[aa0] at hlen
 simp only[go_sem,seval,hlen]
 generalize hM0:hp _ 1 m=M0
 have hC0:Chg [] m M0:=az hM0 rfl
 have hg0:M0.get (na m 0)=some (.map (ir [])):=aI hM0
 have ho0:ap M0 (na m 0):=aL hM0 (by omega)
 refine W.loop (λk d=>∃t M i seen w,d=⟨t, [],none,M⟩/\NT.get D4.e.c t=some (ii w)/\NT.get D4.e.f t=some (.map (na m 0))/\NT.get D4.e.a.f t=some v/\NT.get D4.e.b.a t=some (ii l.length)/\NT.get D4.e.b.b t=some (ii (i:Nat))/\i+k=l.length/\0<=w/\w<=64/\io seen w (l.drop i)=io [] 0 l/\M.get (na m 0)=some (.map (ir seen))/\ap M (na m 0)/\Chg [] m M) ?_ l.length _ ⟨_,M0,0, [],0,rfl,by exact gq rfl,by exact gq rfl,by exact gq rfl,by exact gq rfl,by exact gq rfl,by omega,by omega,by omega,rfl,hg0,ho0,hC0⟩
 rintro k d ⟨t,M,i,seen,w,rfl,g1,g2,g3,g4,g5,hik,hw0,hw,hE,hg,ho,hC⟩
 apply av
 unfold DB
 change wp _ _ _ _ ⟨puts [] t, [],none,M⟩ _
 rw[←aa M]
 by_cases hi:i<l.length
 ·obtain⟨id,off,wr,c,a1,a2,a3,a4,a5⟩:=hv.at i (by simpa using hi)
  rw[aa4] at a5
  have a2':=(hC.get a3 (by simp)).trans a2
  have a3':=hC.old a3
  rw[ab8 hi] at hE
  generalize hc:l[i]=cc at hE a5
  obtain⟨n,s⟩:=cc
  rw[io] at hE
  dsimp only at hE a5
  by_cases hin:n∈seen
  ·rw[adF hin] at hE
   have hd:decide (n∈seen)=true:=adH hin
   simp (disch:=first|omega|(simp only[aA]<;>omega)) only[go_sem,seval,g1,g2,g3,g4,g5,hlen,a1,a2',a5,hg,hd]
   rw[←hE] at hK
   exact hK _ (kQ hC rfl)
  ·rw[adE hin] at hE
   have hd:decide (n∈seen)=false:=adG hin
   by_cases hpw:WT s=true
   ·rw[adE (by simp[hpw])] at hE
    have hp':=of_decide_eq_true hpw
    obtain⟨p1,p2,p3⟩:=hp'
    have hpa:=HL p1 p2
    rw[p3] at hpa
    by_cases hlw:64 - w<s
    ·rw[adF hlw] at hE
     simp (disch:=first|omega|(simp only[aA]<;>omega)) only[go_sem,seval,g1,g2,g3,g4,g5,hlen,a1,a2',a5,hg,hd,hpa]
     rw[←hE] at hK
     exact hK _ (kQ hC rfl)
    ·rw[adE hlw] at hE
     simp (disch:=first|omega|(simp only[aA]<;>omega)) only[go_sem,seval,g1,g2,g3,g4,g5,hlen,a1,a2',a5,hg,hd,hpa]
     generalize hM1:hp _ 1 M=M1
     have hC1:Chg [na m 0] M M1:=az hM1 rfl
     refine⟨k - 1,by omega,_,M1,i+1,_,w+s,by rfl,by exact gq rfl,by exact gq g2,by exact gq g3,by exact gq g4,by exact gq rfl,by omega,by omega,by omega,hE, ?_,hC1.old ho,hC.trans hC1 λi hi ho=> ?_⟩
     ·rw[←hM1];exact (aO ho).trans aC
     ·have hi:=one hi;subst hi;exact adD ho ak
   ·have hpw:WT s=false:=by simpa using hpw
    rw[adF hpw] at hE
    have hp':=of_decide_eq_false hpw
    by_cases h1:s<1
    ·simp (disch:=first|omega|(simp only[aA]<;>omega)) only[go_sem,seval,g1,g2,g3,g4,g5,hlen,a1,a2',a5,hg,hd]
     rw[←hE] at hK
     exact hK _ (kQ hC rfl)
    ·by_cases h2:64<s
     ·simp (disch:=first|omega|(simp only[aA]<;>omega)) only[go_sem,seval,g1,g2,g3,g4,g5,hlen,a1,a2',a5,hg,hd]
      rw[←hE] at hK
      exact hK _ (kQ hC rfl)
     ·have hpa:=HL (by omega:1<=s) (by omega)
      have hne:s.toNat&&& (s.toNat - 1)≠0:=λh=>hp' ⟨by omega,by omega,h⟩
      generalize s.toNat&&& (s.toNat - 1)=r at hpa hne
      simp (disch:=first|omega|(simp only[aA]<;>omega)) only[go_sem,seval,g1,g2,g3,g4,g5,hlen,a1,a2',a5,hg,hd,hpa]
      rw[←hE] at hK
      exact hK _ (kQ hC rfl)
 ·simp (disch:=omega) only[go_sem,seval,g1,g2,g3,g4,g5,hlen]
  rw[ad0 (by omega),io] at hE
  rw[←hE] at hK
  rw[aa]
  exact hK _ hC
theorem Ig {m:NH} {l:List (List Nat×List Stm)} (hT:Ths m T v l C) (hsz:l.length<=1000000):∃m',rT 203 [v] m (ii (kT [] (l.map (·.1)))) m'/\Chg [] m m':=by
 refine WF.ex1 λK hK=> ?_
 refine WF.of_wpG (λ_=>rfl) Ee (L:= [(.e,v)]) rfl ?_
 unfold PY
 have hlen:=hT.sl.len
 rw[hT.len] at hlen
 simp only[go_sem,seval,hlen]
 generalize hM0:hp _ 1 m=M0
 have hC0:Chg [] m M0:=az hM0 rfl
 have hg0:M0.get (na m 0)=some (.map (ir [])):=aI hM0
 have ho0:ap M0 (na m 0):=aL hM0 (by omega)
 refine W.loop (λk d=>∃t M i seen,d=⟨t, [],none,M⟩/\NT.get D4.e.c t=some (.map (na m 0))/\NT.get D4.e.a.c t=some v/\NT.get D4.e.a.f t=some (ii l.length)/\NT.get D4.e.b.a t=some (ii (i:Nat))/\i+k=l.length/\kT seen ((l.map (·.1)).drop i)=kT [] (l.map (·.1))/\M.get (na m 0)=some (.map (ir seen))/\ap M (na m 0)/\Chg [] m M) ?_ l.length _ ⟨_,M0,0, [],rfl,by exact gq rfl,by exact gq rfl,by exact gq rfl,by exact gq rfl,by omega,rfl,hg0,ho0,hC0⟩
 rintro k d ⟨t,M,i,seen,rfl,g1,g2,g3,g4,hik,hE,hg,ho,hC⟩
 apply av
 unfold Ck
 change wp _ _ _ _ ⟨puts [] t, [],none,M⟩ _
 rw[←aa M]
 by_cases hi:i<l.length
 ·obtain⟨vb,B,id,off,wr,c,-,a1,a2,a3,a4,a5⟩:=hT.at i hi
  have a2':=(hC.get a3 (by simp)).trans a2
  have a3':=hC.old a3
  rw[ab8 (by simpa using hi),aa4,kT] at hE
  generalize l[i].1=n at hE a5
  by_cases hin:n∈seen
  ·rw[adF hin] at hE
   have hd:decide (n∈seen)=true:=adH hin
   simp (disch:=first|omega|(simp only[aA]<;>omega)) only[go_sem,seval,g1,g2,g3,g4,hlen,a1,a2',a5,hg,hd]
   rw[←hE] at hK
   exact hK _ (kQ hC rfl)
  ·rw[adE hin] at hE
   have hd:decide (n∈seen)=false:=adG hin
   simp (disch:=first|omega|(simp only[aA]<;>omega)) only[go_sem,seval,g1,g2,g3,g4,hlen,a1,a2',a5,hg,hd]
   generalize hM1:hp _ 1 M=M1
   have hC1:Chg [na m 0] M M1:=az hM1 rfl
   refine⟨k - 1,by omega,_,M1,i+1,_,by rfl,by exact gq g1,by exact gq g2,by exact gq g3,by exact gq rfl,by omega,hE, ?_,hC1.old ho,hC.trans hC1 λi hi ho=> ?_⟩
   ·rw[←hM1];exact (aO ho).trans aC
   ·have hi:=one hi;subst hi;exact adD ho ak
 ·simp (disch:=omega) only[go_sem,seval,g1,g2,g3,g4,hlen]
  rw[ad0 (by simp;omega),kT] at hE
  rw[←hE] at hK
  rw[aa]
  exact hK _ hC
def BZ (p:Prg):Int:=if 16<p.cs.length∨p.ts.length=0∨4<p.ts.length then 3 else if io [] 0 p.cs≠0 then io [] 0 p.cs else kT [] (p.ts.map (·.1))
theorem Vy {m:NH} {p:Prg} {vc vt vr:NV} (h:RP m T p vc vt vr) (hs:p.cs.length<=1000000/\p.ts.length<=1000000):∃m',rT 129 [.agg [vc,vt,vr]] m (ii (BZ p)) m'/\Chg [] m m':=by
 refine WF.ex1 λK hK=> ?_
 refine WF.of_wpG (λ_=>rfl) yj (L:= [(.e,.agg [vc,vt,vr])]) rfl ?_
 unfold Og
 obtain⟨C,hT⟩:=h.t
 have l1:=h.c.len
 have l2:=hT.sl.len
 rw[aa0] at l1
 rw[hT.len] at l2
 unfold BZ at hK
 by_cases h1:16<p.cs.length
 ·rw[adF (Or.inl h1)] at hK
  simp (disch:=omega) only[go_sem,seval,l1,l2]
  exact hK _ (aw rfl)
 ·by_cases h2:p.ts.length=0
  ·rw[adF (Or.inr (Or.inl h2))] at hK
   simp (disch:=omega) only[go_sem,seval,l1,l2]
   exact hK _ (aw rfl)
  ·by_cases h3:4<p.ts.length
   ·rw[adF (Or.inr (Or.inr h3))] at hK
    simp (disch:=omega) only[go_sem,seval,l1,l2]
    exact hK _ (aw rfl)
   ·rw[adE (by omega)] at hK
    have hC1:Chg [] m (hp [(.n 0,.cells true [vc,vt,vr])] 1 m):=aw rfl
    obtain⟨m2,hr,hC2⟩:=Sw (h.c.chg hC1 λ_ _=>by simp) hs.1
    have g2:m2.get (na m 0)=some (.cells true [vc,vt,vr]):=(hC2.get (aq (by omega)) (by simp)).trans bt
    have o2:ap m2 (na m 0):=hC2.old (aq (by omega))
    have hC:=hC1.tr hC2
    simp (disch:=omega) only[go_sem,seval,l1,l2,hr.wf',g2,o2]
    by_cases h4:io [] 0 p.cs=0
    ·rw[adE (by simpa using h4)] at hK
     rw[h4]
     obtain⟨m3,hr3,hC3⟩:=Ig (hT.stays (sw hC T)) hs.2
     simp only[go_sem,seval,g2,o2,hr3.wf']
     exact hK _ (hC.tr hC3)
    ·rw[adF h4] at hK
     have hd:decide (io [] 0 p.cs≠0)=true:=adH h4
     simp only[go_sem,seval,g2,o2,hd]
     exact hK _ hC
structure Sp where
 (k d a b c t ce n o:Int)
abbrev ib (z:Int):NV:= .int .u8 (.lit z)
abbrev Sp.l (s:Sp):List NV:= [ii s.k,ii s.d,ii s.a,ii s.b,ii s.c,ii s.t,ii s.ce,iu s.n,ib s.o]
structure Ms where
 st:List Sp
 (v lb:Int)
variable {X:Ms}
def bR (s:Sp) (X:Ms):Ms:=⟨X.st++ [s],X.v,X.lb⟩
def cR (n:Int) (X:Ms):Ms:=bR ⟨0,X.v,0,0,0,0,0,n,0⟩ ⟨X.st,X.v+1,X.lb⟩
def En (o a b:Int) (X:Ms):Ms:=bR ⟨2,X.v,a,b,0,0,0,0,o⟩ ⟨X.st,X.v+1,X.lb⟩
structure Ms.ok (X:Ms) (k:Nat):Prop where
 s:X.st.length+k<=1000000000
 v0:0<=X.v
 v:X.v+k<=1000000000
 l0:0<=X.lb
 l:X.lb+k<=1000000000
theorem Ms.ok.weak  {k j:Nat} (h:X.ok k) (hj:j<=k):X.ok j:=⟨by have:=h.s;omega,h.v0,by have:=h.v;omega,h.l0,by have:=h.l;omega⟩
theorem cO  {k:Nat} (h:X.ok (k+1)) (s:Sp):(bR s X).ok k:=⟨by have:=h.s;simp[bR];omega,h.v0,by have:=h.v;simp only[bR];omega,h.l0,by have:=h.l;simp only[bR];omega⟩
theorem gv  {k:Nat} (h:X.ok (k+1)) (n:Int):(cR n X).ok k:=⟨by have:=h.s;simp[cR,bR];omega,by have:=h.v0;simp only[cR,bR];omega,by have:=h.v;simp only[cR,bR];omega,h.l0,by have:=h.l;simp only[cR,bR];omega⟩
theorem tJ  {k:Nat} (h:X.ok (k+1)) (o a b:Int):(En o a b X).ok k:=⟨by have:=h.s;simp[En,bR];omega,by have:=h.v0;simp only[En,bR];omega,by have:=h.v;simp only[En,bR];omega,h.l0,by have:=h.l;simp only[En,bR];omega⟩
structure MK (B m:NH) (r:D4) (vc vn:NV) (lo:Int) (vs:NV) (X:Ms):Prop where
 g:m.get r=some (.cells true [vc,vn,ii X.v,ii lo,vs,ii X.lb])
 o:ap m r
 nB:¬ap B r
 s:aQ B m vs 9 (X.st.map Sp.l)
 n:r∉ids vs
 c:Chg [] B m
structure Ev (r:D4) (vs vs':NV) (m m':NH):Prop where
 c:Chg (r::ids vs) m m'
 f:∀j∈ids vs',j∈ids vs∨¬ap m j
section
variable {B m m' m'' M:NH} {r i:D4} {vc vn vs vs' vs'':NV} {lo:Int} {X X':Ms}
theorem Ev.trans (h:Ev r vs vs' m m') (h':Ev r vs' vs'' m' m''):Ev r vs vs'' m m'':=
 ⟨h.c.trans h'.c λi hi ho=>by
  rcases aa1.mp hi with rfl|hi
  ·exact ab2 ..
  ·exact (h.f i hi).elim (λq=>aa8 _ q) λq=>adD ho q,
 λj hj=>(h'.f j hj).elim (h.f j) λq=>Or.inr λho=>q (h.c.old ho)⟩
theorem Ev.pre (hC:Chg [] m m') (h:Ev r vs vs' m' m''):Ev r vs vs' m m'':=
 ⟨(hC.weak (T:=r::ids vs) (by simp)).trans h.c λi hi _=>hi,λj hj=>(h.f j hj).imp id λq ho=>q (hC.old ho)⟩
theorem Ev.grow (hC:Chg [] m m'):Ev r vs vs m m':=⟨hC.weak (by simp),λj hj=>Or.inl hj⟩
theorem Ev.get (h:Ev r vs vs' m m') (ho:ap m i) (hr:i≠r) (hi:i∉ids vs):m'.get i=m.get i:=h.c.get ho (by simp[hr,hi])
theorem Ev.nin (h:Ev r vs vs' m m') (ho:ap m i) (hi:i∉ids vs):i∉ids vs':=λq=>(h.f i q).elim hi λq=>q ho
theorem MK.grow (h:MK B m r vc vn lo vs X) (hC:Chg [] m m'):MK B m' r vc vn lo vs X:=
 ⟨(hC.get h.o (by simp)).trans h.g,hC.old h.o,h.nB,h.s.chg hC λ_ _=>by simp,h.n,h.c.tr hC⟩
theorem MK.new (h:MK B m r vc vn lo vs X) (k:Nat):na m k≠r/\na m k∉ids vs:=⟨λe=>h.o.ne k e.symm,λq=>ak (h.s.sl.old _ q)⟩
theorem MK.chg (h:MK B m r vc vn lo vs X) (hE:Ev r vs vs' m m'):Chg [] B m':=h.c.trans hE.c λi hi ho=>by
 rcases aa1.mp hi with rfl|hi
 ·exact adD ho h.nB
 ·exact adD ho (h.s.new i hi)
end
section
variable {B m:NH} {r:D4} {vc vn vs:NV} {lo:Int} {X:Ms}
theorem fm (h:MK B m r vc vn lo vs X) (s:Sp) (hl:X.st.length<=10000000000):∃m',rT 212 [.ptr r 0,.agg s.l] m (.tup []) m'/\∃vs',MK B m' r vc vn lo vs' (bR s X)/\Ev r vs vs' m m':=by
 refine WF.ex1 λK hK=> ?_
 refine WF.of_wpG (λ_=>rfl) DL (L:= [(.a .e,.agg s.l),(.e,.ptr r 0)]) rfl ?_
 unfold Pe
 have hg:=h.g
 have ho:=h.o
 have hs1:=h.s.sl.same (n:=3)
 simp (disch:=first|omega|(simp only[aA]<;>omega)) only[go_sem,seval,hg]
 generalize hM:hp _ 2 m=M
 have hC:Chg [] m M:=az hM rfl
 have gx:M.get (na m 1)=some (.cells true s.l):=aI hM
 have g0:M.get (na m 0)=some (.cells true s.l):=aI hM
 have o0:ap M (na m 0):=aL hM (by omega)
 have ox:ap M (na m 1):=aL hM (by omega)
 have h1:=h.grow hC
 refine zP h1.s gx ox rfl (λi hi=>h1.c.old hi) (by simp;omega) (by simp;omega) ?_
 intro vs2 M2 hs2 hC2 hF2
 have hg2:=(hC2.get h1.o h1.n).trans h1.g
 have ho2:=hC2.old h1.o
 have hs2o:=hs2.sl.one
 have gx2:=(hC2.get o0 (h.new 0).2).trans g0
 simp (disch:=first|omega|(simp only[aA]<;>omega)) only[go_sem,seval,hg2,hs1,gx2,hC2.old o0,hs2o]
 refine hK _ ⟨vs2, ?_, ?_⟩
 ·generalize hM3:hp _ 0 M2=M3
  have hC3:Chg [r] M2 M3:=az hM3 rfl
  have hn:r∉ids vs2:=λq=>(hF2 r q).elim h.n λq=>q h1.o
  refine⟨by rw[←hM3];exact (aO ho2).trans aC,hC3.old ho2,h.nB, ?_,hn, ?_⟩
  ·have:=hs2.chg hC3 λi hi q=>hn (by simp at q;exact q▸hi)
   simpa [bR] using this
  ·refine (h1.c.trans hC2 λi hi q=>adD q (h1.s.new i hi)).trans hC3 λi hi q=> ?_
   have hi:=one hi;subst hi;exact adD q h.nB
 ·refine⟨?_,λj hj=>(hF2 j hj).imp id λq ho=>q (hC.old ho)⟩
  refine ((hC.weak (T:=r::ids vs) (by simp)).trans hC2 λi hi _=>aa8 _ hi).trans (aw rfl) λi hi _=> ?_
  simp only[bj,adJ,adI,or_false] at hi;subst hi;exact ab2 ..
theorem Ui (h:MK B m r vc vn lo vs X) {k:Nat} (hk:X.ok (k+1)):∃m',rT 354 [.ptr r 0] m (ii X.v) m'/\∃vs',MK B m' r vc vn lo vs' ⟨X.st,X.v+1,X.lb⟩/\Ev r vs vs' m m':=by
 refine WF.ex1 λK hK=> ?_
 refine WF.of_wpG (λ_=>rfl) Co (L:= [(.e,.ptr r 0)]) rfl ?_
 unfold Lf
 have hg:=h.g
 have ho:=h.o
 have hl:=hk.v
 have hl0:=hk.v0
 have e1:X.v+1 - 1=X.v:=by omega
 simp (disch:=first|omega|(simp only[aA]<;>omega)) only[go_sem,seval,hg,e1]
 generalize hM3:hp _ 0 m=M3
 have hC3:Chg [r] m M3:=az hM3 rfl
 refine hK _ ⟨vs,⟨?_,hC3.old ho,h.nB,h.s.chg hC3 λi hi q=>h.n (by simp at q;exact q▸hi),h.n, ?_⟩,⟨hC3.weak (by simp),λj hj=>Or.inl hj⟩⟩
 ·rw[←hM3];exact (aO ho).trans aC
 ·refine h.c.trans hC3 λi hi q=> ?_
  have hi:=one hi;subst hi;exact adD q h.nB
theorem pn (h:MK B m r vc vn lo vs X) (n:Int) {k:Nat} (hk:X.ok (k+1)):∃m',rT 320 [.ptr r 0,iu n] m (ii X.v) m'/\∃vs',MK B m' r vc vn lo vs' (cR n X)/\Ev r vs vs' m m':=by
 refine WF.ex1 λK hK=> ?_
 refine WF.of_wpG (λ_=>rfl) zp (L:= [(.a .e,iu n),(.e,.ptr r 0)]) rfl ?_
 unfold Lw
 obtain⟨m1,h1,v1,k1,e1⟩:=Ui h hk
 have hk1:=hk.s
 obtain⟨m2,h2,v2,k2,e2⟩:=fm k1 ⟨0,X.v,0,0,0,0,0,n,0⟩ (by dsimp only;omega)
 simp (disch:=first|omega|(simp only[aA]<;>omega)) only[go_sem,seval,aa,h1.wf',h2.wf']
 exact hK _ ⟨v2,k2,e1.trans e2⟩
theorem H4 (h:MK B m r vc vn lo vs X) (o a b:Int) {k:Nat} (hk:X.ok (k+1)):∃m',rT 321 [.ptr r 0,ib o,ii a,ii b] m (ii X.v) m'/\∃vs',MK B m' r vc vn lo vs' (En o a b X)/\Ev r vs vs' m m':=by
 refine WF.ex1 λK hK=> ?_
 refine WF.of_wpG (λ_=>rfl) xF (L:= [(.c .e,ii b),(.b .e,ii a),(.a .e,ib o),(.e,.ptr r 0)]) rfl ?_
 unfold Qh
 obtain⟨m1,h1,v1,k1,e1⟩:=Ui h hk
 have hk1:=hk.s
 obtain⟨m2,h2,v2,k2,e2⟩:=fm k1 ⟨2,X.v,a,b,0,0,0,0,o⟩ (by dsimp only;omega)
 simp (disch:=first|omega|(simp only[aA]<;>omega)) only[go_sem,seval,aa,h1.wf',h2.wf']
 exact hK _ ⟨v2,k2,e1.trans e2⟩
end
section
variable {B m:NH} {r:D4} {vc vn vs:NV} {lo:Int} {X:Ms}
end
def tV (z:Int):Int:=max 1 (min z 64)
theorem H1 (z:Int):1<=tV z/\tV z<=64:=by unfold tV;omega
def de:List (List Nat×Int)->Int
 | []=>0
 |c::l=>tV c.2+de l
theorem vZ (l:List (List Nat×Int)):0<=de l/\de l<=64*l.length:=by
 induction l with
 |nil=>simp[de]
 |cons c l ih=>have:=H1 c.2;rw[de,ab4];omega
theorem FO (l:List (List Nat×Int)):∀(i:Nat) (hi:i<l.length),de (l.take (i+1))=de (l.take i)+tV l[i].2:=by
 induction l with
 |nil=>intro i hi;simp at hi
 |cons c l ih=>
  intro i hi
  cases i with
  |zero=>simp[de]
  |succ i=>
   have:=ih i (by simpa using hi)
   rw[List.take_succ_cons,de,this,List.take_succ_cons,de,List.getElem_cons_succ];omega
def atC (l:List (List Nat×Int)) (i:Int):Int:=if 0<=i/\i<l.length then 4096+8*de (l.take i.toNat) else 4096
theorem Hr {m:NH} {l:List (List Nat×Int)} (hv:Sl m v 2 (jx l)) (hsz:l.length<=1000000):∃m',rT 79 [v] m (ii (de l)) m'/\Chg [] m m':=by
 refine WF.ex1 λK hK=> ?_
 refine WF.of_wpG (λ_=>rfl) Hi (L:= [(.e,v)]) rfl ?_
 unfold U5
 have hlen:=hv.len
 rw[aa0] at hlen
 simp only[go_sem,seval,hlen,aa]
 refine W.loop (λk d=>∃t M i,d=⟨t, [],none,M⟩/\NT.get D4.e.c t=some (ii (de (l.take i)))/\NT.get D4.e.a.b t=some v/\NT.get D4.e.a.c t=some (ii l.length)/\NT.get D4.e.a.f t=some (ii (i:Nat))/\i+k=l.length/\Chg [] m M) ?_ l.length _ ⟨_,m,0,rfl,by simp only[go_sem,seval]<;>rfl,by simp only[go_sem,seval],by simp only[go_sem,seval],by simp only[go_sem,seval]<;>rfl,by omega,Chg.refl m⟩
 rintro k d ⟨t,M,i,rfl,g1,g2,g3,g4,hik,hC⟩
 apply av
 unfold Hy
 change wp _ _ _ _ ⟨puts [] t, [],none,M⟩ _
 rw[←aa M]
 by_cases hi:i<l.length
 ·obtain⟨id,off,wr,c,a1,a2,a3,a4,a5⟩:=hv.at i (by simpa using hi)
  rw[aa4] at a5
  have a2':=(hC.get a3 (by simp)).trans a2
  have a3':=hC.old a3
  have hw:=FO l i hi
  have hb:=vZ (l.take i)
  rw[aa7] at hb
  have hc:=H1 l[i].2
  unfold tV at hw hc
  simp (disch:=first|omega|(simp only[aA]<;>omega)) only[go_sem,seval,g1,g2,g3,g4,hlen,a1,a2',a5]
  exact⟨k - 1,by omega,_,_,i+1,by rfl,by simp only[go_sem,seval,hw],by simp only[go_sem,seval,g2],by simp only[go_sem,seval,g3],by simp only[go_sem,seval]<;>rfl,by omega,kQ hC rfl⟩
 ·rw[ac9 (by omega)] at g1
  simp (disch:=omega) only[go_sem,seval,g1,g2,g3,g4,hlen,aa]
  exact hK _ hC
theorem WD {m:NH} {oc:D4} {s nm:List Nat} {z:Int} (hc:m.get oc=some (.cells true [.str s])) (ho:ap m oc):∃m',rT 373 [.agg [.str nm,ii z],.ptr oc 0] m (.bool (decide (nm=s))) m'/\Chg [] m m':=by
 refine WF.ex1 λK hK=> ?_
 refine WF.of_wpG (λ_=>rfl) yg (L:= [(.a .e,.ptr oc 0),(.e,.agg [.str nm,ii z])]) rfl ?_
 unfold NU
 simp (disch:=omega) only[go_sem,seval,hc]
 exact hK _ (aw rfl)
theorem Wd {m:NH} {l:List (List Nat×Int)} {oc:D4} {s:List Nat} (hv:Sl m v 2 (jx l)) (hsz:l.length<=1000000) (hc:m.get oc=some (.cells true [.str s])) (ho:ap m oc):
 ∃m',rT 372 [v,.fn 373 [.ptr oc 0]] m (ii (gH (l.map (·.1)) s)) m'/\Chg [] m m':=by
 refine WF.ex1 λK hK=> ?_
 refine WF.of_wpG (λ_=>rfl) AA (L:= [(.a .e,.fn 373 [.ptr oc 0]),(.e,v)]) rfl ?_
 unfold Pt
 have hlen:=hv.len
 rw[aa0] at hlen
 simp only[go_sem,seval,hlen,aa]
 refine W.loop (λk d=>∃t M i,d=⟨t, [],none,M⟩/\NT.get D4.e t=some v/\NT.get D4.e.a t=some (.fn 373 [.ptr oc 0])/\NT.get D4.e.a.c t=some (ii l.length)/\NT.get D4.e.a.f t=some (ii (i:Nat))/\i+k=l.length/\Chg [] m M/\∀j (hj:j<i) (hl:j<l.length),s≠l[j].1) ?_ l.length _ ⟨_,m,0,rfl,by exact gq rfl,by exact gq rfl,by exact gq rfl,by exact gq rfl,by omega,Chg.refl m,by simp⟩
 rintro k d ⟨t,M,i,rfl,g1,g2,g3,g4,hik,hC,hn⟩
 apply av
 unfold AJ
 change wp _ _ _ _ ⟨puts [] t, [],none,M⟩ _
 by_cases hi:i<l.length
 ·obtain⟨id,off,wr,c,a1,a2,a3,a4,a5⟩:=hv.at i (by simpa using hi)
  rw[aa4] at a5
  have a2':=(hC.get a3 (by simp)).trans a2
  obtain⟨M2,hr,hC2⟩:=WD (nm:=l[i].1) (z:=l[i].2) ((hC.get ho (by simp)).trans hc) (hC.old ho)
  by_cases he:l[i].1=s
  ·rw[adH he] at hr
   simp (disch:=omega) only[go_sem,seval,g1,g2,g3,g4,a1,a2',a5,hr.wf']
   have hf:gH (l.map (·.1)) s=i:=nE (by simpa using hi) (by simp[he]) λj hj=>by rw[aa4];exact hn j hj (by omega)
   rw[hf] at hK
   exact hK _ (hC.tr hC2)
  ·rw[adG he] at hr
   simp (disch:=omega) only[go_sem,seval,g1,g2,g3,g4,a1,a2',a5,hr.wf']
   refine⟨k - 1,by omega,_,M2,i+1,by rfl,by exact gq g1,by exact gq g2,by exact gq g3,by exact gq rfl,by omega,hC.tr hC2,λj hj hl=> ?_⟩
   rcases ac2 j i with q|q
   ·exact hn j q hl
   ·obtain rfl:j=i:=by omega
    exact λq=>he q.symm
 ·simp (disch:=omega) only[go_sem,seval,g1,g2,g3,g4]
  have hf:gH (l.map (·.1)) s=-1:=ky λj hj=>by rw[aa4];exact hn j (by simp at hj;omega) (by simpa using hj)
  rw[hf] at hK
  exact hK _ hC
theorem XG {m:NH} {l:List (List Nat×Int)} (hv:Sl m v 2 (jx l)) (hsz:l.length<=1000000) (s:List Nat):∃m',rT 355 [v,.str s] m (ii (gH (l.map (·.1)) s)) m'/\Chg [] m m':=by
 refine WF.ex1 λK hK=> ?_
 refine WF.of_wpG (λ_=>rfl) xR (L:= [(.a .e,.str s),(.e,v)]) rfl ?_
 unfold Kf
 have hC:Chg [] m (hp [(.n 0,.cells true [.str s])] 1 m):=aw rfl
 have hg:(hp [(.n 0,.cells true [.str s])] 1 m).get (na m 0)=some (.cells true [.str s]):=bt
 have ho:ap (hp [(.n 0,.cells true [.str s])] 1 m) (na m 0):=aq (by omega)
 obtain⟨m2,hr,hC2⟩:=Wd (hv.chg hC λ_ _=>by simp) hsz hg ho
 simp only[go_sem,seval,hr.wf']
 exact hK _ (hC.tr hC2)
theorem ack {m:NH} {l:List (List Nat×Int)} (hv:Sl m v 2 (jx l)) (hsz:l.length<=1000000) (i:Int):∃m',rT 356 [v,ii i] m (ii (atC l i)) m'/\Chg [] m m':=by
 refine WF.ex1 λK hK=> ?_
 refine WF.of_wpG (λ_=>rfl) Ei (L:= [(.a .e,ii i),(.e,v)]) rfl ?_
 unfold OO
 have hlen:=hv.len
 rw[aa0] at hlen
 unfold atC at hK
 by_cases h0:i<0
 ·rw[adE (by omega)] at hK
  simp (disch:=omega) only[go_sem,seval,aa]
  exact hK _ (Chg.refl m)
 ·by_cases h1:i<l.length
  ·rw[adF (by omega)] at hK
   simp (disch:=omega) only[go_sem,seval,aa,hlen]
   obtain⟨n,rfl⟩:=adL (by omega:0<=i)
   refine Tf hv (a:=0) (b:=n) (by omega) (by simp;omega) (λK=>by (simp (disch:=first|assumption|omega) only[go_sem,seval])) (λd K hd=>by (simp (disch:=first|assumption|omega) only[go_sem,seval])) ?_
   intro v2 hv2 hi2
   have hw:((jx l).drop 0).take (n - 0)=jx (l.take n):=by simp[List.map_take]
   rw[hw] at hv2
   obtain⟨m2,hr,hC2⟩:=Hr hv2 (by simp;omega)
   have hb:=vZ (l.take n)
   rw[aa7] at hb
   simp (disch:=omega) only[go_sem,seval,hr.wf',AS]
   exact hK _ hC2
  ·rw[adE (by omega)] at hK
   simp (disch:=omega) only[go_sem,seval,aa,hlen]
   exact hK _ (Chg.refl m)
def mT (ns:List (List Nat)) (s:List Nat):Int:=max 0 (gH ns s)
mutual
def Ex.lw (ns:List (List Nat)):Ex->Ms->Int×Ms
 | .mk k n o s ks,X=>if k=0 then (X.v,cR n X) else if k=1 then (mT ns s,X) else if k=2 then lwL ns o ks X else (0,X)
def lwL (ns:List (List Nat)) (o:Nat):List Ex->Ms->Int×Ms
 | [],X=>(0,X)
 | [_],X=>(0,X)
 |a::b::_,X=>((b.lw ns (a.lw ns X).2).2.v,En o (a.lw ns X).1 (b.lw ns (a.lw ns X).2).1 (b.lw ns (a.lw ns X).2).2)
end
theorem eB :∀(x:Ex) {X:Ms} {k:Nat},X.ok (k+x.sz)->(x.lw ns X).2.ok k:=by
 apply Ex.ind (P:=λx=>∀{X:Ms} {k:Nat},X.ok (k+x.sz)->(x.lw ns X).2.ok k)
 intro c n o s ks ih X k h
 rw[Ex.sz] at h
 rw[Ex.lw]
 split
 ·exact gv (h.weak (by omega)) _
 ·split
  ·exact h.weak (by omega)
  ·split
   ·match ks,ih,h with
    | [],_,h=>exact h.weak (by omega)
    | [_],_,h=>exact h.weak (by omega)
    |a::b::l,ih,h=>
     rw[HJ,HJ] at h
     rw[lwL]
     refine tJ ?_ _ _ _
     refine ih b (by simp) ?_
     refine ih a (by simp) (h.weak ?_)
     omega
   ·exact h.weak (by omega)
def LwC (f:Nat) (ns:List (List Nat)) (x:Ex):Prop:=∀{B m:NH} {T:D4->Prop} {c:List NV} {r:D4} {vc vn vs:NV} {lo:Int} {X:Ms} {k:Nat},RE B T x c->Sl B vn 1 (db ns)->ns.length<=1000000->MK B m r vc vn lo vs X->X.ok (k+x.sz)->
 ∃m',rT f [.ptr r 0,.agg c] m (ii (x.lw ns X).1) m'/\∃vs',MK B m' r vc vn lo vs' (x.lw ns X).2/\Ev r vs vs' m m'
theorem Zl  {ks:List Ex} {vk:NV} (hS:SE B T vk ks C) (i:Nat) (hi:i<ks.length):∃u id off w c,RE B T ks[i] (ks[i].l u)/\fi 5 vk (.int .i64 (.lit (i:Int)))= .val (.ptr id off)/\B.get id=some (.cells w c)/\ap B id/\off+5<=c.length/\(c.drop off).take 5=ks[i].l u:=
 Sy hS (sw (Chg.refl B) T) i hi
section
variable {B m:NH} {r:D4} {vc vn vs:NV} {lo:Int} {X:Ms} {ns:List (List Nat)}
theorem pv (h:MK B m r vc vn lo vs X) (hn:Sl B vn 1 (db ns)) (hsz:ns.length<=1000000) (s:List Nat):rT 276 [.ptr r 0,.str s] m (ii (mT ns s)) m:=by
 have h:∃m',rT 276 [.ptr r 0,.str s] m (ii (mT ns s)) m'/\m'=m:=by
  refine WF.ex1 λK hK=> ?_
  refine WF.of_wpG (λ_=>rfl) Dg (L:= [(.a .e,.str s),(.e,.ptr r 0)]) rfl ?_
  unfold OJ
  have hg:=h.g
  have hi:=tG (hn.chg h.c λ_ _=>by simp) (by omega) s
  simp only[go_sem,seval,aa,hg,hi.wf']
  exact hK _ rfl
 obtain⟨m',h1,rfl⟩:=h
 exact h1
end
theorem ij :∀x:Ex,LwC 275 ns x:=by
 apply Ex.ind
 intro cd n o s ks ih B m T c r vc vn vs lo X k hR hn hsz h hk
 obtain⟨vk,C,rfl,hS⟩:=hR.inv
 refine WF.ex1 λK hK=> ?_
 refine WF.of_wpG (λ_=>rfl) xC (L:= [(.a .e,.agg [ii cd,u64 n,u8 o,.str s,vk]),(.e,.ptr r 0)]) rfl ?_
 unfold MA
 generalize hM1:hp [(.n 0,.cells true [ii cd,u64 n,u8 o,.str s,vk])] 1 m=M1
 have hC1:Chg [] m M1:=az hM1 rfl
 have hg1:M1.get (na m 0)=some (.cells true [ii cd,u64 n,u8 o,.str s,vk]):=aI hM1
 have ho1:ap M1 (na m 0):=aL hM1 (by omega)
 have k1:=h.grow hC1
 obtain⟨nr1,ns1⟩:=h.new 0
 rw[Ex.lw] at hK
 have hlen:=hS.sl.len
 rw[hS.len] at hlen
 rw[Ex.sz] at hk
 by_cases h0:cd=0
 ·rw[adF h0] at hK
  subst h0
  obtain⟨m2,h2,v2,k2,e2⟩:=pn k1 n (hk.weak (by omega:0+1<=_))
  simp only[go_sem,seval,hM1,hg1,h2.wf']
  exact hK _ ⟨v2,k2,Ev.pre hC1 e2⟩
 rw[adE h0] at hK
 by_cases h1:cd=1
 ·rw[adF h1] at hK
  subst h1
  have h2:=pv k1 hn hsz s
  simp only[go_sem,seval,hM1,hg1,h2.wf']
  exact hK _ ⟨vs,k1,Ev.grow hC1⟩
 rw[adE h1] at hK
 by_cases h2:cd=2
 ·rw[adF h2] at hK
  subst h2
  match ks,ih,hS,hlen,hk,hK with
  | [],_,_,hlen,_,hK=>
   simp only[go_sem,seval,hM1,hg1,hlen]
   exact hK _ ⟨vs,k1,Ev.grow hC1⟩
  | [_],_,_,hlen,_,hK=>
   simp only[go_sem,seval,hM1,hg1,hlen]
   exact hK _ ⟨vs,k1,Ev.grow hC1⟩
  |a::b::l,ih,hS,hlen,hk,hK=>
   rw[HJ,HJ] at hk
   rw[lwL] at hK
   have hlr:(((a::b::l).length:Nat):Int)=l.length+2:=by simp;omega
   rw[hlr] at hlen
   obtain⟨ua,ida,offa,wa,ca,hRa,a1,a2,a3,a4,a5⟩:=Zl hS 0 (by simp)
   obtain⟨ub,idb,offb,wb,cb,hRb,b1,b2,b3,b4,b5⟩:=Zl hS 1 (by simp)
   have a1':fi 5 vk (.int .i64 (.lit 0))= .val (.ptr ida offa):=a1
   have b1':fi 5 vk (.int .i64 (.lit 1))= .val (.ptr idb offb):=b1
   dsimp only[List.getElem_cons_zero,List.getElem_cons_succ] at hRa hRb a5 b5
   obtain⟨m2,r2,v2,k2,e2⟩:=ih a (by simp) hRa hn hsz k1 (k:=k+1+b.sz) (hk.weak (by omega))
   have ok2:=eB a (ns:=ns) (X:=X) (k:=k+1+b.sz) (hk.weak (by omega))
   have hg2:=(e2.get ho1 nr1 ns1).trans hg1
   have ho2:=e2.c.old ho1
   have ns2:=e2.nin ho1 ns1
   obtain⟨m3,r3,v3,k3,e3⟩:=ih b (by simp) hRb hn hsz k2 (k:=k+1) (ok2.weak (by omega))
   have ok3:=eB b (ns:=ns) (X:=(a.lw ns X).2) (k:=k+1) (ok2.weak (by omega))
   have hg3:=(e3.get ho2 nr1 ns2).trans hg2
   have a2':=(k1.c.get a3 (by simp)).trans a2
   have b2':=(k2.c.get b3 (by simp)).trans b2
   have b2'':=(k3.c.get b3 (by simp)).trans b2
   obtain⟨m4,r4,v4,k4,e4⟩:=H4 k3 (o:Int) (a.lw ns X).1 (b.lw ns (a.lw ns X).2).1 (k:=k) ok3
   have hvk:=hS.sl.same (n:=3)
   have sb:=wt hRb
   have e0:(0:Int)<=l.length+2:=by omega
   simp (disch:=omega) only[go_sem,seval,hM1,hg1,hlen,a1',a2',a5,r2.wf',hg2,b1',b2',b5,r3.wf',hg3,b2'',hvk,sb,r4.wf']
   exact hK _ ⟨v4,k4,(Ev.pre hC1 e2).trans (e3.trans e4)⟩
 ·rw[adE h2] at hK
  simp (disch:=omega) only[go_sem,seval,hM1,hg1]
  exact hK _ ⟨vs,k1,Ev.grow hC1⟩
end FR
