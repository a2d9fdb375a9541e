/- A machine that runs the given program with memory and order of evaluation taken apart from the model's, the proof that what it answers is what the model answers, and rules to reason of its runs. Part 4 of 4. -/
import Derived.WideKeyArgs
import Derived.Carry
import Derived.ChangeArms
import Derived.HandedShaped
import Derived.Test.YtcpilcplobihkaaLfmC
namespace Nm
open Go Go.RowKit
def ids:NV->List D4
 | .slc id _ _ _ _=> [id]
 |_=> []
def Sl (m:NH) (v:NV) (e:Nat) (C:List (List NV)):Prop:=(∀x∈C,x.length=e)/\((v= .nils/\C= [])∨
 ∃id off kc w c,v= .slc id off C.length e kc/\m.get id=some (.cells w c)/\aC m id/\off+C.length*e<=c.length/\(c.drop off).take (C.length*e)=C.flatten)
def bL (B m:NH) (v:NV) (e:Nat) (C:List (List NV)):Prop:=(∀x∈C,x.length=e)/\((v= .nils/\C= [])∨
 ∃id off kc c,v= .slc id off C.length e kc/\¬aC B id/\m.get id=some (.cells true c)/\aC m id/\off+C.length*e<=c.length/\off+kc*e<=c.length/\(c.drop off).take (C.length*e)=C.flatten)
theorem ff {e:Nat} {C:List (List NV)} (h:∀x∈C,x.length=e):C.flatten.length=C.length*e:=by
 induction C with
 |nil=>simp
 |cons a C ih=>
  rw[List.flatten_cons,List.length_append,h a (List.mem_cons_self ..),ih fun x hx=>h x (List.mem_cons_of_mem _ hx),List.length_cons,Nat.succ_mul]
  omega
theorem Au {e:Nat}:∀{C:List (List NV)} (_:∀x∈C,x.length=e) (i:Nat) (hi:i<C.length),(C.flatten.drop (i*e)).take e=C[i]:=by
 intro C
 induction C with
 |nil=>intro _ i hi;simp at hi
 |cons a C ih=>
  intro h i hi
  have ha:=h a (List.mem_cons_self ..)
  cases i with
  |zero=>
   rw[Nat.zero_mul,List.drop_zero,List.flatten_cons,List.take_append,ha,Nat.sub_self,List.take_zero,List.append_nil,←ha]
   simp
  |succ i=>
   rw[List.flatten_cons,List.drop_append,Nat.succ_mul,List.drop_eq_nil_of_le (by omega),List.nil_append,ha,Nat.add_sub_cancel]
   exact ih (fun x hx=>h x (List.mem_cons_of_mem _ hx)) i (by simpa using hi)
theorem bL.sl {B m:NH} {v:NV} {e:Nat} {C:List (List NV)} (h:bL B m v e C):Sl m v e C:=by
 obtain ⟨h0,h|⟨id,off,kc,c,h1,_,h2,h3,h4,_,h5⟩⟩:=h
 ·exact ⟨h0,Or.inl h⟩
 ·exact ⟨h0,Or.inr ⟨id,off,kc,true,c,h1,h2,h3,h4,h5⟩⟩
section
variable {m:NH} {v:NV} {e:Nat} {C:List (List NV)}
theorem Sl.len (h:Sl m v e C):Hf v= .val (.int .i64 (.lit (C.length:Int))):=by
 obtain ⟨_,⟨rfl,rfl⟩|⟨id,off,kc,w,c,rfl,_⟩⟩:=h<;>rfl
theorem Sl.one (h:Sl m v e C):cellsOf v=some [v]:=by
 obtain ⟨_,⟨rfl,rfl⟩|⟨id,off,kc,w,c,rfl,_⟩⟩:=h<;>rfl
theorem xA {c:List NV} {off n e:Nat} (h:∀x∈C,x.length=e) (hn:C.length=n) (hc:off+n*e<=c.length) (hf:(c.drop off).take (n*e)=C.flatten) (i:Nat) (hi:i<C.length):
 off+i*e+e<=c.length/\(c.drop (off+i*e)).take e=C[i]:=by
 subst hn
 have h1:i*e+e<=C.length*e:=by rw[←Nat.succ_mul];exact Nat.mul_le_mul_right e hi
 refine ⟨by omega, ?_⟩
 rw[←Au h i hi,←hf,List.drop_take,List.take_take,List.drop_drop,Nat.min_eq_left (by omega)]
theorem Sl.at (h:Sl m v e C) (i:Nat) (hi:i<C.length):∃id off w c,my e v (.int .i64 (.lit (i:Int)))= .val (.ptr id off)/\m.get id=some (.cells w c)/\aC m id/\off+e<=c.length/\(c.drop off).take e=C[i]:=by
 obtain ⟨h0,⟨rfl,rfl⟩|⟨id,off,kc,w,c,rfl,h1,h2,h3,h4⟩⟩:=h
 ·simp at hi
 ·obtain ⟨h5,h6⟩:=xA h0 rfl h3 h4 i hi
  exact ⟨id,off+i*e,w,c,BI (by omega) (by omega),h1,h2,h5,h6⟩
theorem Sl.chg {T:List D4} {m':NH} (h:Sl m v e C) (hc:Chg T m m') (ht:∀id∈ids v,id∉T):Sl m' v e C:=by
 obtain ⟨h0,⟨rfl,rfl⟩|⟨id,off,kc,w,c,rfl,h1,h2,h3,h4⟩⟩:=h
 ·exact ⟨h0,Or.inl ⟨rfl,rfl⟩⟩
 ·exact ⟨h0,Or.inr ⟨id,off,kc,w,c,rfl,(hc.get h2 (ht id (List.mem_cons_self ..))).trans h1,hc.old h2,h3,h4⟩⟩
theorem Sl.grew {m':NH} (h:Sl m v e C) (hc:Chg [] m m'):Sl m' v e C:=h.chg hc fun _ _=>List.not_mem_nil
theorem Sl.old (h:Sl m v e C):∀id∈ids v,aC m id:=by
 obtain ⟨h0,⟨rfl,rfl⟩|⟨id,off,kc,w,c,rfl,h1,h2,h3,h4⟩⟩:=h
 ·intro id hid;simp[ids] at hid
 ·intro i hi;simp[ids] at hi;rw[hi];exact h2
theorem bL.chg {B m:NH} {T:List D4} {m':NH} (h:bL B m v e C) (hc:Chg T m m') (ht:∀id∈ids v,id∉T):bL B m' v e C:=by
 obtain ⟨h0,⟨rfl,rfl⟩|⟨id,off,kc,c,rfl,hb,h1,h2,h3,h4⟩⟩:=h
 ·exact ⟨h0,Or.inl ⟨rfl,rfl⟩⟩
 ·exact ⟨h0,Or.inr ⟨id,off,kc,c,rfl,hb,(hc.get h2 (ht id (List.mem_cons_self ..))).trans h1,hc.old h2,h3,h4⟩⟩
theorem bL.new {B m:NH} (h:bL B m v e C):∀id∈ids v,¬aC B id:=by
 obtain ⟨h0,⟨rfl,rfl⟩|⟨id,off,kc,c,rfl,hb,h1,h2,h3,h4⟩⟩:=h
 ·intro id hid;simp[ids] at hid
 ·intro i hi;simp[ids] at hi;rw[hi];exact hb
theorem bL.nil {B m:NH}:bL B m .nils e []:=⟨fun x hx=>by simp at hx,Or.inl ⟨rfl,rfl⟩⟩
theorem Sl.nil:Sl m .nils e []:=⟨fun x hx=>by simp at hx,Or.inl ⟨rfl,rfl⟩⟩
theorem bL.of {B m:NH} {id:D4} {n k:Nat} {c:List NV} (h:∀x∈C,x.length=e) (hb:¬aC B id) (hg:m.get id=some (.cells true c)) (ho:aC m id) (hc:c=C.flatten) (hn:n=C.length) (hk:k=C.length):bL B m (.slc id 0 n e k) e C:=by
 subst hn hk hc
 have hl:=ff h
 exact ⟨h,Or.inr ⟨id,0,_,_,rfl,hb,hg,ho,by omega,by omega,by rw[List.drop_zero,←hl,List.take_length]⟩⟩
theorem bL.back {B B' m:NH} (h:bL B m v e C) (hb:∀id,aC B' id->aC B id):bL B' m v e C:=by
 obtain ⟨h0,⟨rfl,rfl⟩|⟨id,off,kc,c,rfl,hb',h1,h2,h3,h4⟩⟩:=h
 ·exact ⟨h0,Or.inl ⟨rfl,rfl⟩⟩
 ·exact ⟨h0,Or.inr ⟨id,off,kc,c,rfl,fun q=>hb' (hb _ q),h1,h2,h3,h4⟩⟩
theorem qr {n:Nat} {x:NV} {D:List (List NV)} (h:Sl m x n D) {K:Nat->List NV->NR}:fB n m x K=K D.length D.flatten:=by
 obtain ⟨h0,⟨rfl,rfl⟩|⟨id,off,kc,w,c,rfl,h1,h2,h3,h4⟩⟩:=h
 ·rfl
 ·show cond (Nat.beq n n) (bS m id fun c=>aR (fC c off (Nat.mul D.length n)) fun l=>K D.length l) .fail=_
  rw[Nat.beq_refl]
  show bS m id (fun c=>aR (fC c off (Nat.mul D.length n)) fun l=>K D.length l)=_
  unfold bS
  rw[h1]
  show aR (fC c off (D.length*n)) (fun l=>K D.length l)=_
  rw[gl,if_pos h3,h4];rfl
theorem Chg.put (m:NH) (id:D4) (o:NO):Chg [id] m (m.put id o):=
 ⟨Nat.le_refl _,fun {i} _ hn=>NH.get_put_ne m o (by simpa using hn)⟩
theorem aC.next_ne {m:NH} {i:D4} (h:aC m i):i≠m.next:=by
 intro e;rw[e] at h;exact Nat.lt_irrefl _ h
theorem Chg.add (m:NH) (o:NO):Chg [] m (m.add o):=
 ⟨by show m.next.toNat<=m.next.nxt.toNat;rw[D4.toNat_nxt];omega,fun {i} ho _=>NH.get_add_ne m o ho.next_ne⟩
theorem io (m:NH) (o:NO):aC (m.add o) m.next:=by
 show m.next.toNat<m.next.nxt.toNat;rw[D4.toNat_nxt];omega
theorem xL {n bytes:Nat} (h:n*bytes<=1099511627776) (h':n<=1099511627776):room n bytes=true:=by
 unfold room
 rw[show Nat.ble (Nat.mul n bytes) 1099511627776=true from Nat.ble_eq_true_of_le h,show Nat.ble n 1099511627776=true from Nat.ble_eq_true_of_le h']
 rfl
theorem bL.app {B:NH} {x:NV} {D:List (List NV)} {bytes:Nat} (hv:bL B m v e C) (hx:Sl m x e D) (hD:D≠ []) (hB:∀id,aC B id->aC m id) (hr:(C.length+D.length)*bytes<=1099511627776) (hr':C.length+D.length<=1099511627776):
 ∃v' m',Ce e bytes m v x= .mem v' m'/\bL B m' v' e (C++D)/\Chg (ids v) m m':=by
 unfold Ce
 rw[qr hx]
 have hDl:∀y∈D,y.length=e:=hx.1
 have hDp:0<D.length:=List.length_pos_iff.mpr hD
 obtain ⟨k,hk⟩:∃k,D.length=k+1:=⟨D.length - 1,by omega⟩
 have hall:∀y∈C++D,y.length=e:=fun y hy=>(List.mem_append.mp hy).elim (hv.1 y) (hDl y)
 have hnext:¬aC B m.next:=fun q=>Nat.lt_irrefl _ (hB _ q)
 obtain ⟨h0,⟨rfl,rfl⟩|⟨id,off,kc,c,rfl,hb,h1,h2,h3,h3',h4⟩⟩:=hv
 ·refine ⟨.slc m.next 0 D.length e D.length,m.add (.cells true D.flatten), ?_, ?_,Chg.add m _⟩
  ·show Nat.rec (motive:=fun _=>NR) (.val .nils) (fun _ _=>cond (room D.length bytes) (m.new (.cells true D.flatten) fun id h=> .mem (.slc id 0 D.length e D.length) h) .fail) D.length=_
   rw[xL (by simpa using hr) (by simpa using hr'),NH.new_eq,hk];rfl
  ·exact bL.of hall hnext (NH.get_add_same m _) (io m _) (by simp) (by simp) (by simp)
 ·have e1:eS e bytes m (.slc id off C.length e kc) D.length D.flatten=(cond (Nat.ble (C.length+D.length) kc)
   (aR (dx D.flatten (off+C.length*e) c) fun c=>m.set id (.cells true c) fun h=> .mem (.slc id off (C.length+D.length) e kc) h)
   (aR (dh off c) fun c=>aR (gw (C.length*e) c) fun old=>cond (room (C.length+D.length) bytes)
    (ia old D.flatten fun l=>m.set id .dead fun h=>h.new (.cells true l) fun id h=> .mem (.slc id 0 (C.length+D.length) e (C.length+D.length)) h) .fail)):=by
   show cond (Nat.beq e e) (Nat.rec (motive:=fun _=>NR) (.val (.slc id off C.length e kc)) (fun _ _=>ee m id fun c=>aw (Nat.add C.length D.length) fun n=>cond (Nat.ble n kc)
    (aR (dx D.flatten (Nat.add off (Nat.mul C.length e)) c) fun c=>m.set id (.cells true c) fun h=> .mem (.slc id off n e kc) h)
    (aR (dh off c) fun c=>aR (gw (Nat.mul C.length e) c) fun old=>cond (room n bytes)
     (ia old D.flatten fun l=>m.set id .dead fun h=>h.new (.cells true l) fun id h=> .mem (.slc id 0 n e n) h) .fail)) D.length) .fail=_
   rw[Nat.beq_refl,hk]
   show ee m id _=_
   unfold ee
   rw[h1]
   show aw (C.length+(k+1)) _=_
   rw[ae]
   rfl
  rw[e1]
  have fl:=ff hDl
  have fc:=ff h0
  cases hle:Nat.ble (C.length+D.length) kc with
  |true=>
   have hle:=Nat.le_of_ble_eq_true hle
   have hm:C.length*e+D.length*e<=kc*e:=by rw[←Nat.add_mul];exact Nat.mul_le_mul_right e hle
   refine ⟨.slc id off (C.length+D.length) e kc,m.put id (.cells true (c.take (off+C.length*e)++D.flatten++c.drop (off+C.length*e+D.flatten.length))), ?_, ?_,Chg.put m id _⟩
   ·show aR (dx D.flatten (off+C.length*e) c) _=_
    rw[fy,if_pos (by omega)]
    show m.set id _ _=_
    rw[NH.set_eq]
   ·refine ⟨hall,Or.inr ⟨id,off,kc,_,by rw[List.length_append],hb,NH.get_put_same m id _,h2, ?_, ?_, ?_⟩⟩
    ·simp only[List.length_append,List.length_take,List.length_drop,Nat.add_mul];omega
    ·simp only[List.length_append,List.length_take,List.length_drop];omega
    ·have e3:c.take (off+C.length*e)=c.take off++C.flatten:=by rw[List.take_add,h4]
     have e4:(c.take off).length=off:=by rw[List.length_take];omega
     have e5:(c.take off++C.flatten++D.flatten++c.drop (off+C.length*e+D.flatten.length)).drop off=C.flatten++D.flatten++c.drop (off+C.length*e+D.flatten.length):=by
      rw[List.append_assoc,List.append_assoc]
      have:=List.drop_left (l₁:=c.take off) (l₂:=C.flatten++(D.flatten++c.drop (off+C.length*e+D.flatten.length)))
      rw[e4] at this
      rw[this,List.append_assoc]
     rw[e3,e5,List.flatten_append,List.length_append,Nat.add_mul]
     rw[show C.length*e+D.length*e=(C.flatten++D.flatten).length by rw[List.length_append,fl,fc]]
     exact List.take_left
  |false=>
   refine ⟨.slc m.next 0 (C.length+D.length) e (C.length+D.length),(m.put id .dead).add (.cells true (C.flatten++D.flatten)), ?_, ?_, ?_⟩
   ·show aR (dh off c) _=_
    rw[fg,if_pos (by omega)]
    show aR (gw (C.length*e) (c.drop off)) _=_
    rw[fW,if_pos (by rw[List.length_drop];omega),h4]
    show cond (room (C.length+D.length) bytes) _ _=_
    rw[xL hr hr']
    show ia C.flatten D.flatten _=_
    rw[eM,NH.set_eq,NH.new_eq];rfl
   ·exact bL.of hall hnext (NH.get_add_same (m.put id .dead) _) (io (m.put id .dead) _) (by simp) (by simp) (by simp)
   ·exact (Chg.put m id .dead).trans (Chg.add _ _) fun i hi _=>by simp at hi
def nI (off:Nat):List (Nat×NV)->List NV->List NV
 | [],c=>c
 |(k,x)::us,c=>nI off us (c.set (off+k) x)
theorem nV {off:Nat}:∀(us:List (Nat×NV)) (c:List NV),(nI off us c).length=c.length:=by
 intro us
 induction us with
 |nil=>intro c;rfl
 |cons u us ih=>intro c;obtain ⟨k,x⟩:=u;show (nI off us (c.set (off+k) x)).length=_;rw[ih,List.length_set]
theorem bL.at {B:NH} (h:bL B m v e C) (i:Nat) (hi:i<C.length):∃id off c,my e v (.int .i64 (.lit (i:Int)))= .val (.ptr id off)/\ids v= [id]/\¬aC B id/\m.get id=some (.cells true c)/\aC m id/\off+e<=c.length/\(c.drop off).take e=C[i]/\
 ∀(us:List (Nat×NV)) (M:NH),(∀u∈us,u.1<e)->M.get id=some (.cells true (nI off us c))->aC M id->bL B M v e (C.set i (nI 0 us C[i])):=by
 obtain ⟨h0,⟨rfl,rfl⟩|⟨id,off,kc,c,rfl,hb,h1,h2,h3,h3',h4⟩⟩:=h
 ·simp at hi
 ·obtain ⟨h5,h6⟩:=xA h0 rfl h3 h4 i hi
  refine ⟨id,off+i*e,c,BI (by omega) (by omega),rfl,hb,h1,h2,h5,h6,fun us M hk hM hMo=> ?_⟩
  have hlen:∀y∈C.set i (nI 0 us C[i]),y.length=e:=by
   intro y hy
   rcases List.mem_or_eq_of_mem_set hy with hy|hy
   ·exact h0 y hy
   ·rw[hy,nV];exact h0 _ (List.getElem_mem hi)
  refine ⟨hlen,Or.inr ⟨id,off,kc,_,by rw[List.length_set],hb,hM,hMo,by rw[nV,List.length_set];exact h3,by rw[nV];exact h3', ?_⟩⟩
  rw[List.length_set]
  have hone:∀(k:Nat) (x:NV) (_:k<e) (C:List (List NV)) (_:∀x∈C,x.length=e) (i:Nat) (hi:i<C.length),(C.set i (C[i].set k x)).flatten=C.flatten.set (i*e+k) x:=by
   intro k x hk C
   induction C with
   |nil=>intro _ i hi;simp at hi
   |cons a C ih=>
    intro h i hi
    have ha:=h a (List.mem_cons_self ..)
    cases i with
    |zero=>simp only[List.set_cons_zero,List.flatten_cons,List.getElem_cons_zero,Nat.zero_mul,Nat.zero_add];rw[List.set_append_left _ _ (by omega)]
    |succ i=>
     simp only[List.set_cons_succ,List.flatten_cons,List.getElem_cons_succ]
     rw[ih (fun x hx=>h x (List.mem_cons_of_mem _ hx)) i (by simpa using hi),List.set_append_right _ _ (by rw[ha,Nat.succ_mul];omega),ha,Nat.succ_mul]
     congr 2;omega
  have hall:∀(us:List (Nat×NV)) (_:∀u∈us,u.1<e) (c:List NV) (C:List (List NV)) (_:∀x∈C,x.length=e) (hi:i<C.length),(c.drop off).take (C.length*e)=C.flatten->
   ((nI (off+i*e) us c).drop off).take (C.length*e)=(C.set i (nI 0 us C[i])).flatten:=by
   intro us
   induction us with
   |nil=>intro _ c C _ hi hf;simp[nI];exact hf
   |cons u us ih=>
    obtain ⟨k,x⟩:=u
    intro hk c C hC hi hf
    have hk0:k<e:=hk (k,x) (List.mem_cons_self ..)
    have:=ih (fun u hu=>hk u (List.mem_cons_of_mem _ hu)) (c.set (off+i*e+k) x) (C.set i (C[i].set k x))
     (fun y hy=>by
      rcases List.mem_or_eq_of_mem_set hy with hy|hy
      ·exact hC y hy
      ·rw[hy,List.length_set];exact hC _ (List.getElem_mem hi))
     (by rw[List.length_set];exact hi)
     (by rw[List.length_set,hone k x hk0 C hC i hi,←hf,List.drop_set,if_neg (by omega),List.take_set];congr 1;omega)
    rw[List.getElem_set_self,List.set_set] at this
    simp only[List.length_set] at this
    show ((nI (off+i*e) us (c.set (off+i*e+k) x)).drop off).take (C.length*e)=(C.set i (nI 0 us (C[i].set (0+k) x))).flatten
    rw[Nat.zero_add];exact this
  exact hall us hk c C h0 hi h4
theorem Sl.flat (h:Sl m v e C):zc v:=by
 obtain ⟨_,⟨rfl,rfl⟩|⟨id,off,kc,w,c,rfl,_⟩⟩:=h<;>trivial
theorem Sl.same (h:Sl m v e C) {n:Nat}:bP (n+1) v v=true:=jl h.flat
theorem Sl.ssl (h:Sl m v e C) {t:Tm} {lo hi:Option NOpd} {a b:Nat} (hab:a<=b) (hb:b<=C.length) (hlo:∀K:Nat->NR,gE t lo 0 K=K a) (hhi:∀(d:Nat) (K:Nat->NR),d=C.length->gE t hi d K=K b):
 ∃v',wH e t lo hi v= .val v'/\Sl m v' e ((C.drop a).take (b - a))/\(∀i∈ids v',i∈ids v):=by
 obtain ⟨h0,⟨rfl,rfl⟩|⟨id,off,kc,w,c,rfl,h1,h2,h3,h4⟩⟩:=h
 ·simp at hb
  subst hb
  have ha:a=0:=by omega
  subst ha
  refine ⟨.nils, ?_,⟨by simp,Or.inl ⟨rfl,by simp⟩⟩,fun _ h=>h⟩
  rw[BN,hhi 0 _ rfl,hlo];rfl
 ·have hlen:((C.drop a).take (b - a)).length=b - a:=by rw[List.length_take,List.length_drop];omega
  have hall:∀x∈(C.drop a).take (b - a),x.length=e:=fun x hx=>h0 x (List.mem_of_mem_drop (List.mem_of_mem_take hx))
  have hmul:a*e+(b - a)*e<=C.length*e:=by rw[←Nat.add_mul];exact Nat.mul_le_mul_right e (by omega)
  refine ⟨.slc id (off+a*e) (b - a) e (kc - a), ?_,⟨hall,Or.inr ⟨id,off+a*e,kc - a,w,c,by rw[hlen],h1,h2,by rw[hlen];omega, ?_⟩⟩,fun _ h=>h⟩
  ·rw[A3,hhi _ _ rfl,hlo,Gs hab hb]
  ·rw[hlen]
   have e1:(c.drop (off+a*e)).take ((b - a)*e)=(((c.drop off).take (C.length*e)).drop (a*e)).take ((b - a)*e):=by
    rw[List.drop_take,List.take_take,List.drop_drop,Nat.min_eq_left (by omega)]
   rw[e1,h4]
   have e2:C.flatten=(C.take a).flatten++(((C.drop a).take (b - a)).flatten++((C.drop a).drop (b - a)).flatten):=by
    rw[←List.flatten_append,List.take_append_drop,←List.flatten_append,List.take_append_drop]
   have e3:((C.take a).flatten).length=a*e:=by
    rw[ff fun x hx=>h0 x (List.mem_of_mem_take hx),List.length_take,Nat.min_eq_left (by omega)]
   have e4:(((C.drop a).take (b - a)).flatten).length=(b - a)*e:=by rw[ff hall,hlen]
   rw[e2,←e3,List.drop_left,←e4,List.take_left]
theorem IS {α:Type} (n:Nat) (z:List α):Nm.rep n z=(List.replicate n z).flatten:=by
 induction n with
 |zero=>rfl
 |succ n ih=>show z++Nm.rep n z=_;rw[ih,List.replicate_succ,List.flatten_cons]
theorem bz {c cs:List NV} {off e:Nat} (h:(c.drop off).take e=cs) (k:Nat) (hk:k<e):c[off+k]? =cs[k]? :=by
 rw[←h,List.getElem?_take_of_lt hk,List.getElem?_drop]
end
end Nm
namespace Nm
open Go Go.RowKit
section
variable {L:List (D4×NV)} {t:Tm} {ctx:Option NV} {m:NH} {K:NV->NH->Prop}
theorem GJ {q:Bool}:(q==true)=q:=by cases q<;>rfl
theorem GW {q:Bool}:(q==false)= !q:=by cases q<;>rfl
theorem an {l:List (AK×NO)} {k:Nat} {m:NH} {S:List D4} (h:aU l=S):Chg S m (hp l k m):=h▸jA l k m
def FD (f:List NV->List NV) (o:Option (List NV)):Option (List NV):=match o with|some l=>some (f l)|none=>none
theorem IL {f:List NV->List NV} {l:List NV}:FD f (some l)=some (f l):=_root_.id rfl
noncomputable def ME (t:Tm) (ps:List (Nat×Nat×NOpd)) (off k cur:Nat) (l:List NV) (o:Option (List NV)):Option (List NV):=match o with
 |some cs=>if cs.length=k/\cur<=off/\off - cur+k<=l.length then FD (fun r=>l.take (off - cur)++(cs++r)) (cw t ps (off+k) (l.drop (off - cur+k))) else none
 |none=>none
theorem KK {t:Tm} {cur:Nat} {l:List NV}:cw t [] cur l=some l:=_root_.id rfl
theorem Cl {α:Type} (K:List α->Option (List α)):∀(k:Nat) (l:List α),fN k K l=if k<=l.length then (match K (l.drop k) with|some r=>some (l.take k++r)|none=>none) else none:=by
 intro k
 induction k with
 |zero=>intro l;show K l=_;simp;cases K l<;>rfl
 |succ k ih=>
  intro l
  cases l with
  |nil=>simp;rfl
  |cons a l=>
   show Option.rec (motive:=fun _=>Option (List α)) none (fun t'=>some (a::t')) (fN k K l)=_
   rw[ih]
   by_cases h:k<=l.length
   ·rw[if_pos h,if_pos (by simpa using h),List.drop_succ_cons]
    cases K (l.drop k)<;>rfl
   ·rw[if_neg h,if_neg (by simpa using h)]
theorem LQ {t:Tm} {ps:List (Nat×Nat×NOpd)} {off k cur:Nat} {x:NOpd} {l:List NV}:cw t ((off,k,x)::ps) cur l=oO (ρ t x) fun v=>ME t ps off k cur l (cellsOf v):=by
 show Option.rec (motive:=fun _=>Option (List NV)) none (fun v:NV=>Option.rec (motive:=fun _=>Option (List NV)) none (fun cs=>db cs fun j=>cond (Nat.beq j k) (cond (Nat.ble cur off)
  (fN (Nat.sub off cur) (fun l=>Option.rec (motive:=fun _=>Option (List NV)) none (fun l=>Option.rec (motive:=fun _=>Option (List NV)) none (fun l=>ia cs l some) (cw t ps (Nat.add off j) l)) (dh j l)) l) none) none) (cellsOf v)) (ρ t x)=_
 cases ρ t x with
 |none=>rfl
 |some v=>
  show Option.rec (motive:=fun _=>Option (List NV)) none (fun cs=>db cs fun j=>cond (Nat.beq j k) (cond (Nat.ble cur off)
   (fN (Nat.sub off cur) (fun l=>Option.rec (motive:=fun _=>Option (List NV)) none (fun l=>Option.rec (motive:=fun _=>Option (List NV)) none (fun l=>ia cs l some) (cw t ps (Nat.add off j) l)) (dh j l)) l) none) none) (cellsOf v)=ME t ps off k cur l (cellsOf v)
  cases cellsOf v with
  |none=>rfl
  |some cs=>
   show db cs (fun j=>cond (Nat.beq j k) (cond (Nat.ble cur off)
    (fN (Nat.sub off cur) (fun l=>Option.rec (motive:=fun _=>Option (List NV)) none (fun l=>Option.rec (motive:=fun _=>Option (List NV)) none (fun l=>ia cs l some) (cw t ps (Nat.add off j) l)) (dh j l)) l) none) none)=if cs.length=k/\cur<=off/\off - cur+k<=l.length then _ else _
   rw[bF]
   cases hb:Nat.beq cs.length k with
   |false=>rw[if_neg (fun h=>Nat.ne_of_beq_eq_false hb h.1)];rfl
   |true=>
    have hk:=Nat.eq_of_beq_eq_true hb
    subst hk
    cases hle:Nat.ble cur off with
    |false=>rw[if_neg (fun h=>by rw[Nat.ble_eq_true_of_le h.2.1] at hle;cases hle)];rfl
    |true=>
     have hle:=Nat.le_of_ble_eq_true hle
     show fN (off - cur) (fun l=>Option.rec (motive:=fun _=>Option (List NV)) none (fun l=>Option.rec (motive:=fun _=>Option (List NV)) none (fun l=>ia cs l some) (cw t ps (off+cs.length) l)) (dh cs.length l)) l=_
     rw[Cl]
     by_cases h1:off - cur<=l.length
     ·rw[if_pos h1,fg,List.length_drop]
      by_cases h2:cs.length<=l.length - (off - cur)
      ·rw[if_pos h2,if_pos ⟨rfl,hle,by omega⟩,List.drop_drop]
       dsimp only
       cases cw t ps (off+cs.length) (l.drop (off - cur+cs.length)) with
       |none=>rfl
       |some r=>dsimp only[FD];rw[eM]
      ·rw[if_neg h2,if_neg (fun h=>h2 (by omega))]
     ·rw[if_neg h1,if_neg (fun h=>h1 (by omega))]
theorem Jj {t:Tm} {ps:List (Nat×Nat×NOpd)} {off k cur:Nat} {cs l:List NV} (h1:cs.length=k) (h2:cur<=off) (h3:off - cur+k<=l.length):
 ME t ps off k cur l (some cs)=FD (fun r=>l.take (off - cur)++(cs++r)) (cw t ps (off+k) (l.drop (off - cur+k))):=if_pos ⟨h1,h2,h3⟩
theorem bI.wf' {P:Program} {S:Nat->List NV->Option NV} {f:Nat} {args:List NV} {m m':NH} {v:NV} (h:bI P S f args m v m') {K:NV->NH->Prop}:WF P S f args m K=K v m':=by
 rw[h.wf,ai]
theorem qI (m:NH) (o:NO):hp [(.n 0,o)] 1 m=m.add o:=by
 have:=tJ (m:=m) (l:= []) (k:=0) (o:=o)
 rw[ai] at this
 exact this.symm
theorem bL.app1 {B m:NH} {v:NV} {e:Nat} {C:List (List NV)} {x:D4} {w:Bool} {cs:List NV} {kc bytes:Nat} (hv:bL B m v e C) (hx:m.get x=some (.cells w cs)) (hox:aC m x) (hl:cs.length=e) (hB:∀id,aC B id->aC m id)
 (hr:(C.length+1)*bytes<=1099511627776) (hr':C.length+1<=1099511627776):∃v' m',Ce e bytes m v (.slc x 0 1 e kc)= .mem v' m'/\bL B m' v' e (C++ [cs])/\Chg (ids v) m m':=
 hv.app (D:= [cs]) ⟨fun y hy=>by simp at hy;rw[hy];exact hl,Or.inr ⟨x,0,kc,w,cs,rfl,hx,hox,by subst hl;simp,by subst hl;simp⟩⟩ (by simp) hB hr hr'
theorem EO {P:Program} {S:Nat->List NV->Option NV} {dst:D4} {L:List (D4×NV)} {t:Tm} {dfs:List Dfr} {ctx:Option NV} {K:Dyn->Prop} {B m:NH} {v:NV} {e:Nat} {C:List (List NV)} {x:D4} {w:Bool} {cs:List NV} {kc bytes:Nat} (hv:bL B m v e C) (hx:m.get x=some (.cells w cs)) (hox:aC m x) (hl:cs.length=e) (hB:∀id,aC B id->aC m id)
 (hr:(C.length+1)*bytes<=1099511627776) (hr':C.length+1<=1099511627776) (h:∀v' m',bL B m' v' e (C++ [cs])->Chg (ids v) m m'->K ⟨ak ((dst,v')::L) t,dfs,ctx,hp [] 0 m'⟩):
 wN P S (some dst) (ak L t) dfs ctx m (Ce e bytes m v (.slc x 0 1 e kc)) K:=by
 obtain ⟨v',m',h1,h2,h3⟩:=hv.app1 (bytes:=bytes) (kc:=kc) hx hox hl hB hr hr'
 have:=h v' m' h2 h3
 rw[ai] at this
 rw[h1];exact this
theorem Hg {b:Bool}:cellsOf (.bool b)=some [.bool b]:=_root_.id rfl
theorem KE {k:IntKind} {x:SI}:cellsOf (.int k x)=some [.int k x]:=_root_.id rfl
theorem Ko {l:List Nat}:cellsOf (.str l)=some [.str l]:=_root_.id rfl
theorem K2 {i:D4} {o n e k:Nat}:cellsOf (.slc i o n e k)=some [.slc i o n e k]:=_root_.id rfl
theorem KI {i:D4}:cellsOf (.map i)=some [.map i]:=_root_.id rfl
theorem K1 {l:List NV}:cellsOf (.agg l)=some l:=_root_.id rfl
noncomputable def JW (m:NH) (o:Option (List NV)):NR:=match o with|some cs=> .mem (.ptr m.next 0) (m.add (.cells true cs))|none=> .fail
theorem Jm {t:Tm} {m:NH} {x:NOpd} {ty:Nat}:ag (.box x ty) t m=oN (ρ t x) fun v=>JW m (cellsOf v):=GE
theorem Kr {m:NH} {cs:List NV}:JW m (some cs)= .mem (.ptr m.next 0) (m.add (.cells true cs)):=_root_.id rfl
abbrev ii (z:Int):NV:= .int .i64 (.lit z)
end
end Nm
namespace Nm
open Go Go.RowKit
def uQ (P:Program) (S:Nat->List NV->Option NV) (q:D4) (args:List NV) (m:NH) (v:NV) (m':NH):Prop:=∃c,yp P S q args m (.val v c m')
def WY (P:Program) (S:Nat->List NV->Option NV) (q:D4) (args:List NV) (m:NH) (K:NV->NH->Prop):Prop:=∃v c m',yp P S q args m (.val v c m')/\K v m'
section
variable {P:Program} {S:Nat->List NV->Option NV} {f:Nat} {q:D4} {args:List NV} {m:NH}
theorem yp.det {x y:CR} (h:yp P S q args m x) (h':yp P S q args m y):x=y:=by
 obtain ⟨hn,n,e⟩:=h
 obtain ⟨hn',k,e'⟩:=h'
 rw[←fj (bV (Nat.le_max_left n k)) e hn,fj (bV (Nat.le_max_right n k)) e' hn']
theorem uQ.wy {v:NV} {m':NH} (h:uQ P S q args m v m') {K:NV->NH->Prop}:WY P S q args m K=K v (hp [] 0 m'):=by
 rw[ai]
 apply propext
 constructor
 ·rintro ⟨u,c,n,hc,hk⟩
  obtain ⟨c',h'⟩:=h
  have:=yp.det hc h'
  injection this with a _ b
  rw[←a,←b];exact hk
 ·intro hk
  obtain ⟨c,h⟩:=h
  exact ⟨v,c,m',h,hk⟩
def IH (q:D4) (K:NV->NH->Prop) (o:Out) (d:Dyn):Prop:=match d.h.get q with
 |some (.loop _ _ tm ps a b)=>(match o with
  | .norm=>K (.bool true) (d.h.put q (.loop 0 .none tm ps a b))
  | .ret=>K (.bool false) (d.h.put q (.loop 2 .ret tm ps a b))
  | .exit i=>K (.bool false) (d.h.put q (.loop 2 (.exit i) tm ps a b))
  | .pan _=>False)
 |_=>False
theorem WY.of_wp {p:Jump} {tm:NT NV} {ps:List D4} {a b A B:NC} {K:NV->NH->Prop} (hm:m.get q=some (.loop 0 p tm ps a b)) (hlen:args.length=ps.length) (ea:a=A) (eb:b=B)
 (h:wp P S (some q) A ⟨po ps args tm, [],none,hp [] 0 m⟩ (fun o d=>o= .norm/\d.dfs= []/\d.h.get q=some (.loop 0 p tm ps a b)/\wp P S (some q) B ⟨d.t, [],none,d.h.put q (.loop 1 p tm ps a b)⟩ (IH q K))):WY P S q args m K:=by
 subst ea eb
 rw[ai] at h
 obtain ⟨o,d1,h1,rfl,hd,hq,h2⟩:=aK _ _ _ h
 obtain ⟨o,d2,h3,h4⟩:=aK _ _ _ h2
 unfold IH at h4
 cases hg:d2.h.get q with
 |none=>rw[hg] at h4;exact h4.elim
 |some w=>
  rw[hg] at h4
  cases w with
  |loop st p2 tm2 ps2 a2 b2=>
   cases o with
   |norm=>exact ⟨_,none,_,yp.of hm hlen h1 hd hq h3 (by simp) (by unfold dK;rw[hg];exact NH.set_eq _ _ _ _) (by simp),h4⟩
   |ret=>exact ⟨_,none,_,yp.of hm hlen h1 hd hq h3 (by simp) (by unfold dK;rw[hg];exact NH.set_eq _ _ _ _) (by simp),h4⟩
   |exit i=>exact ⟨_,none,_,yp.of hm hlen h1 hd hq h3 (by simp) (by unfold dK;rw[hg];exact NH.set_eq _ _ _ _) (by simp),h4⟩
   |pan v=>exact h4.elim
  |_=>exact h4.elim
noncomputable def LU (q:D4) (K:NV->NH->Prop) (o:Out) (m:NH) (x:Option NO):Prop:=match x with
 |some (.loop _ _ tm ps a b)=>(match o with
  | .norm=>K (.bool true) (m.put q (.loop 0 .none tm ps a b))
  | .ret=>K (.bool false) (m.put q (.loop 2 .ret tm ps a b))
  | .exit i=>K (.bool false) (m.put q (.loop 2 (.exit i) tm ps a b))
  | .pan _=>False)
 |_=>False
theorem Iz {K:NV->NH->Prop} {o:Out} {t:Tm} {dfs:List Dfr} {ctx:Option NV}:IH q K o ⟨t,dfs,ctx,m⟩=LU q K o m (m.get q):=_root_.id rfl
section
variable {K:NV->NH->Prop} {st:Nat} {p:Jump} {tm:NT NV} {ps:List D4} {a b:NC} {i:Nat}
theorem Kv:LU q K .norm m (some (.loop st p tm ps a b))=K (.bool true) (m.put q (.loop 0 .none tm ps a b)):=_root_.id rfl
theorem JX:LU q K .ret m (some (.loop st p tm ps a b))=K (.bool false) (m.put q (.loop 2 .ret tm ps a b)):=_root_.id rfl
end
theorem WY.ret {K:NV->NH->Prop} (h:WY P S q args m K):∃v m',uQ P S q args m v m'/\K v m':=by
 obtain ⟨v,c,m',hc,hk⟩:=h;exact ⟨v,m',⟨c,hc⟩,hk⟩
theorem WY.ex {Φ:NV->NH->Prop} (h:∀K:NV->NH->Prop,(∀v m',Φ v m'->K v m')->WY P S q args m K):∃v m',uQ P S q args m v m'/\Φ v m':=(h Φ fun _ _ h=>h).ret
theorem WF.ex {Φ:NV->NH->Prop} (h:∀K:NV->NH->Prop,(∀v m',Φ v m'->K v m')->WF P S f args m K):∃v m',bI P S f args m v m'/\Φ v m':=(h Φ fun _ _ h=>h).ret
theorem CX {t:Tm}:ak [] t=t:=rfl
def sI (ks:List D4) (t t':Tm):Prop:=∀k,k∉ks->NT.get k t'=NT.get k t
theorem sI.refl (ks:List D4) (t:Tm):sI ks t t:=fun _ _=>rfl
theorem sI.get {ks:List D4} {t t':Tm} (h:sI ks t t') {k:D4} {v:Option NV} (g:NT.get k t=v) (hk:k∉ks):NT.get k t'=v:=(h k hk).trans g
theorem sI.trans {ks ls:List D4} {a b c:Tm} (h:sI ks a b) (h':sI ls b c) (hs:∀k∈ls,k∈ks):sI ks a c:=fun k hk=>(h' k fun q=>hk (hs k q)).trans (h k hk)
noncomputable def AG:List Dfr->NH->Option NH
 | [],m=>some m
 | .mark id::l,m=>(match m.get id with|some (.defd true)=>AG l (m.put id (.defd false))|_=>none)
 | .call ..::_,_=>none
def Hk (rs:List NRes) (K:NV->NH->Prop) (o:Out) (d:Dyn):Prop:=(o= .norm∨o= .ret)/\∃m',AG d.dfs d.h=some m'/\∃v,cp m' d.t rs .fail (fun l=> .val (ic l) d.ctx m')= .val v d.ctx m'/\K v m'
theorem oL {F:Nat->List NV->Option NV->NH->CR} {K:Option NV->NH->CR}:∀(l:List Dfr) (m m':NH) (p:Option NV),AG l m=some m'->unwind F K l p m=K p m':=by
 intro l
 induction l with
 |nil=>intro m m' p h;injection h with h;rw[←h];rfl
 |cons c l ih=>
  intro m m' p h
  cases c with
  |call f cap=>cases h
  |mark id=>
   show (match m.get id with
    |some (.defd true)=>m.set id (.defd false) fun h=>unwind F K l p h
    |_=>CR.fail)=_
   change (match m.get id with|some (.defd true)=>AG l (m.put id (.defd false))|_=>none)=some m' at h
   cases hg:m.get id with
   |none=>rw[hg] at h;cases h
   |some o=>
    rw[hg] at h
    cases o with
    |defd b=>cases b with
     |true=>dsimp only at h ⊢;rw[NH.set_eq];exact ih _ _ _ h
     |false=>cases h
    |_=>cases h
theorem Call.of_runM {nf:NFun} (hs:∀l,S f l=none) (hf:aD P f=some (.code nf)) {o:Out} {d:Dyn} {m':NH} (ho:o= .norm∨o= .ret) (h:eG P S none nf.body ⟨dL args 0 .leaf, [],none,m⟩ o d)
 (hd:AG d.dfs d.h=some m') {v:NV} (hv:cp m' d.t nf.results .fail (fun l=> .val (ic l) d.ctx m')= .val v d.ctx m'):Call P S f args m (.val v d.ctx m'):=by
 obtain ⟨n,hn⟩:=h
 refine ⟨by simp,n, ?_⟩
 unfold cm
 rw[hs args]
 dsimp only
 rw[hf]
 show cQ P (ev P S n) 3 f args none m=_
 rw[fb,hf]
 dsimp only
 rw[hn]
 rcases ho with rfl|rfl
 ·show unwind _ (finish nf.results d) d.dfs none d.h=_
  rw[oL _ _ _ _ hd];exact hv
 ·show unwind _ (finish nf.results d) d.dfs none d.h=_
  rw[oL _ _ _ _ hd];exact hv
theorem WF.of_wpM {nf:NFun} (hs:∀l,S f l=none) (hf:aD P f=some (.code nf)) {K:NV->NH->Prop} {L:List (D4×NV)} (hL:dL args 0 .leaf=ak L .leaf)
 (h:wp P S none nf.body ⟨ak L .leaf, [],none,hp [] 0 m⟩ (Hk nf.results K)):WF P S f args m K:=by
 rw[ai] at h
 obtain ⟨o,d,h1,ho,m',hd,v,hv,hK⟩:=aK _ _ _ h
 rw[←hL] at h1
 exact ⟨v,d.ctx,m',Call.of_runM hs hf ho h1 hd hv,hK⟩
noncomputable def LR (rs:List NRes) (K:NV->NH->Prop) (t:Tm) (ctx:Option NV) (o:Option NH):Prop:=match o with|some m'=>AI rs K .ret ⟨t, [],ctx,m'⟩|none=>False
theorem FJ {rs:List NRes} {K:NV->NH->Prop} {t:Tm} {ctx:Option NV} {dfs:List Dfr} {o:Out} (ho:o= .norm∨o= .ret):Hk rs K o ⟨t,dfs,ctx,m⟩=LR rs K t ctx (AG dfs m):=by
 apply propext
 constructor
 ·rintro ⟨_,m',h1,v,h2,h3⟩
  change AG dfs m=some m' at h1
  rw[h1]
  exact ⟨Or.inr rfl,rfl,v,h2,h3⟩
 ·intro h
  cases hu:AG dfs m with
  |none=>rw[hu] at h;exact h.elim
  |some m'=>
   rw[hu] at h
   obtain ⟨_,_,v,h2,h3⟩:=h
   exact ⟨ho,m',hu,v,h2,h3⟩
theorem Iw {rs:List NRes} {K:NV->NH->Prop} {t:Tm} {ctx:Option NV} {dfs:List Dfr}:Hk rs K .ret ⟨t,dfs,ctx,m⟩=LR rs K t ctx (AG dfs m):=FJ (.inr rfl)
theorem Ke {rs:List NRes} {K:NV->NH->Prop} {t:Tm} {ctx:Option NV}:LR rs K t ctx (some m)=AI rs K .ret ⟨t, [],ctx,m⟩:=_root_.id rfl
theorem E0 {r:Option D4} {g:NOpd} {ps:List D4} {a b:NC} {d:Dyn} {Q:Out->Dyn->Prop}:wp P S r (.rangeFunc g ps a b) d Q=W P S r (.rangeFunc g ps a b) d Q:=_root_.id rfl
theorem G5:AG [] m=some m:=_root_.id rfl
noncomputable def Jt (l:List Dfr) (i:D4) (m:NH) (o:Option NO):Option NH:=match o with|some (.defd true)=>AG l (m.put i (.defd false))|_=>none
theorem KP {l:List Dfr} {i:D4}:AG (.mark i::l) m=Jt l i m (m.get i):=_root_.id rfl
theorem H5 {l:List Dfr} {i:D4}:Jt l i m (some (.defd true))=AG l (m.put i (.defd false)):=_root_.id rfl
theorem W.range {cap:List NV} {fx:NOpd} {ps:List D4} {a b:NC} {t:Tm} {dfs:List Dfr} {ctx:Option NV} {Q:Out->Dyn->Prop} {M m':NH} {v:NV}
 (hf:ρ t fx=some (.fn f cap)) {x:D4} (hx:m.next=x) {y:D4} (hy:(m.add (.defd true)).next=y) (hM:(m.add (.defd true)).add (.loop 0 .none t ps a b)=M) (hc:bI P S f (.yld y::cap) M v m')
 {tm:NT NV} {ps':List D4} {a' b':NC} (hl:m'.get y=some (.loop 0 .none tm ps' a' b')) (hQ:Q .norm ⟨t,.mark x::dfs,ctx,hp [] 0 (m'.put y (.loop 3 .none tm ps' a' b'))⟩):
 W P S none (.rangeFunc fx ps a b) ⟨t,dfs,ctx,m⟩ Q:=by
 subst hx hy hM
 rw[ai] at hQ
 obtain ⟨c,hc⟩:=hc
 refine ⟨_,_,eG.range hf hc ?_,hQ⟩
 unfold eu
 rw[hl]
 dsimp only
 rw[show Nat.beq 0 1=false from rfl,cond_false,NH.set_eq]
theorem W.rangeN {cap:List NV} {fx:NOpd} {ps:List D4} {a b:NC} {t:Tm} {dfs:List Dfr} {ctx:Option NV} {Q:Out->Dyn->Prop} {m':NH} {v:NV}
 (hf:ρ t fx=some (.fn f cap)) (hc:bI P S f (.yld (na m 1)::cap) (hp [(.n 1,.loop 0 .none t ps a b),(.n 0,.defd true)] 2 m) v m')
 {tm:NT NV} {ps':List D4} {a' b':NC} (hl:m'.get (na m 1)=some (.loop 0 .none tm ps' a' b')) (hQ:Q .norm ⟨t,.mark (na m 0)::dfs,ctx,hp [(.o (na m 1),.loop 3 .none tm ps' a' b')] 0 m'⟩) (ho:aC m' (na m 1)):
 W P S none (.rangeFunc fx ps a b) ⟨t,dfs,ctx,m⟩ Q:=by
 have e1:(m.add (.defd true)).next=na m 1:=by rw[←qI];rfl
 refine W.range hf (qL m).symm e1 ?_ hc hl ?_
 ·rw[←qI m (.defd true),tJ]
 ·rw[←qD ho,ai] at hQ
  rw[ai];exact hQ
end
end Nm
namespace Nm
open Go Go.RowKit
section
variable (P:Program) (S:Nat->List NV->Option NV) (r:Option D4)
def Ea (c:NC) (Q:Out->Dyn->Prop) (d:Dyn):Prop:=wp P S r c d Q
def D0 (dst:Option D4) (t:Tm) (dfs:List Dfr) (ctx:Option NV) (m:NH) (x:NR) (l:List NOper) (K:Dyn->Prop):Prop:=wN P S dst t dfs ctx m x fun d=>wO P S l d K
def Cb (dst:Option D4) (t:Tm) (dfs:List Dfr) (ctx:Option NV) (l:List NOper) (K:Dyn->Prop) (v:NV) (m:NH):Prop:=wO P S l ⟨aT dst v t,dfs,ctx,m⟩ K
def gA (dst:Option D4) (op:NOp) (l:List NOper) (K:Dyn->Prop) (d:Dyn):Prop:=D0 P S dst d.t d.dfs d.ctx d.h (ag op d.t d.h) l K
def gB (dst:Option D4) (l:List NOper) (K:Dyn->Prop) (d:Dyn):Prop:=wO P S l ⟨aT dst aM d.t,d.dfs,d.ctx,d.h⟩ K
def dA (dst:Option D4) (op:NOp) (pre idx:Nat) (l:List NOper) (hs:List (Nat×NH)) (rs:List (Nat×(NH->NR)×NV)) (K:Dyn->Prop) (d:Dyn):Prop:=wX (aj op) (ag op d.t d.h) P S (ag op d.t) dst pre idx l hs rs d K
def dB (dst:Option D4) (l:List NOper) (hs:List (Nat×NH)) (rs:List (Nat×(NH->NR)×NV)) (K:Dyn->Prop) (d:Dyn):Prop:=wD P S l hs rs ⟨aT dst aM d.t,d.dfs,d.ctx,d.h⟩ K
def Ku (pre idx:Nat) (m:NH) (l:List NOper) (hs:List (Nat×NH)) (rs:List (Nat×(NH->NR)×NV)) (K:Dyn->Prop) (d:Dyn):Prop:=stays pre d.h rs=true/\wD P S l ((idx,m)::hs) rs d K
def Gu (dst:Option D4) (t:Tm) (dfs:List Dfr) (ctx:Option NV) (K:Dyn->Prop) (v:NV) (m:NH):Prop:=K ⟨aT dst v t,dfs,ctx,m⟩
end
section
variable {P:Program} {S:Nat->List NV->Option NV} {r:Option D4} {dst:Option D4} {op:NOp} {pre idx:Nat} {l:List NOper} {hs:List (Nat×NH)} {rs:List (Nat×(NH->NR)×NV)}
 {L:List (D4×NV)} {t:Tm} {dfs:List Dfr} {ctx:Option NV} {m m':NH} {v:NV} {k g:D4} {d:Dyn} {Q:Out->Dyn->Prop} {K:Dyn->Prop} {b:Bool}
theorem J8 {x y:NC}:wp P S r (.seq x y) d Q=wp P S r x d (dr (Ea P S r y Q) Q):=_root_.id rfl
theorem J1 {c:NC}:Ea P S r c Q d=wp P S r c d Q:=_root_.id rfl
theorem Ht {g:NOpd} {x y:NC}:wp P S r (.cond g x y) ⟨ak L t,dfs,ctx,m⟩ Q=wC (ρ (ak L t) g) (Ea P S r x Q) (Ea P S r y Q) ⟨ak L t,dfs,ctx,m⟩:=_root_.id rfl
theorem GO:wO P S (⟨dst,op,none,pre,idx⟩::l) ⟨ak L t,dfs,ctx,m⟩ K=D0 P S dst (ak L t) dfs ctx m (ag op (ak L t) m) l K:=_root_.id rfl
theorem KF:D0 P S (some k) (ak L t) dfs ctx m (.val v) l K=wO P S l ⟨ak ((k,v)::L) t,dfs,ctx,m⟩ K:=_root_.id rfl
theorem JN:D0 P S (some k) (ak L t) dfs ctx m (.mem v m') l K=wO P S l ⟨ak ((k,v)::L) t,dfs,ctx,m'⟩ K:=_root_.id rfl
theorem G0:D0 P S none (ak L t) dfs ctx m (.mem v m') l K=wO P S l ⟨ak L t,dfs,ctx,m'⟩ K:=_root_.id rfl
theorem Il {f:Nat} {args:List NV}:D0 P S dst t dfs ctx m (.call f args) l K=WF P S f args m (Cb P S dst t dfs ctx l K):=_root_.id rfl
theorem Li {q:D4} {args:List NV}:D0 P S dst t dfs ctx m (.yld q args) l K=WY P S q args m (Cb P S dst t dfs ctx l K):=_root_.id rfl
theorem E3:Cb P S (some k) (ak L t) dfs ctx l K v m=wO P S l ⟨ak ((k,v)::L) t,dfs,ctx,m⟩ K:=_root_.id rfl
theorem Ep:wO P S (⟨dst,op,some (g,b),pre,idx⟩::l) ⟨ak L t,dfs,ctx,m⟩ K=wG (eJ g L (NT.get g t)) b (gA P S dst op l K) (gB P S dst l K) ⟨ak L t,dfs,ctx,m⟩:=E9
theorem MU:gA P S dst op l K ⟨ak L t,dfs,ctx,m⟩=D0 P S dst (ak L t) dfs ctx m (ag op (ak L t) m) l K:=_root_.id rfl
theorem LE:gB P S (some k) l K ⟨ak L t,dfs,ctx,m⟩=wO P S l ⟨ak ((k,aM)::L) t,dfs,ctx,m⟩ K:=_root_.id rfl
theorem Ba:wD P S (⟨dst,op,some (g,b),pre,idx⟩::l) hs rs ⟨ak L t,dfs,ctx,m⟩ K=wG (eJ g L (NT.get g t)) b (dA P S dst op pre idx l hs rs K) (dB P S dst l hs rs K) ⟨ak L t,dfs,ctx,m⟩:=BE
theorem LM:dA P S dst op pre idx l hs rs K ⟨ak L t,dfs,ctx,m⟩=wX (aj op) (ag op (ak L t) m) P S (ag op (ak L t)) dst pre idx l hs rs ⟨ak L t,dfs,ctx,m⟩ K:=_root_.id rfl
theorem MJ:dB P S (some k) l hs rs K ⟨ak L t,dfs,ctx,m⟩=wD P S l hs rs ⟨ak ((k,aM)::L) t,dfs,ctx,m⟩ K:=_root_.id rfl
def Kl (P:Program) (S:Nat->List NV->Option NV) (dst:Option D4) (t:Tm) (dfs:List Dfr) (ctx:Option NV) (m:NH) (x:NR) (K:Dyn->Prop):Prop:=wN P S dst t dfs ctx m x K
section
variable {f:NH->NR}
theorem Io {x:NR}:wX .eff x P S f dst pre idx l hs rs ⟨t,dfs,ctx,m⟩ K=(ahead pre hs=true/\Kl P S dst t dfs ctx m x (Ku P S pre idx m l hs rs K)):=_root_.id rfl
end
theorem BY:Kl P S (some k) (ak L t) dfs ctx m (.mem v m') K=K ⟨ak ((k,v)::L) t,dfs,ctx,m'⟩:=_root_.id rfl
theorem FP:Kl P S none (ak L t) dfs ctx m (.mem v m') K=K ⟨ak L t,dfs,ctx,m'⟩:=_root_.id rfl
theorem EJ {f:Nat} {args:List NV}:Kl P S dst t dfs ctx m (.call f args) K=WF P S f args m (Gu dst t dfs ctx K):=_root_.id rfl
theorem EC:Gu (some k) (ak L t) dfs ctx K v m=K ⟨ak ((k,v)::L) t,dfs,ctx,m⟩:=_root_.id rfl
theorem Hy {m0:NH}:Ku P S pre idx m0 l hs rs K ⟨t,dfs,ctx,m⟩=(stays pre m rs=true/\wD P S l ((idx,m0)::hs) rs ⟨t,dfs,ctx,m⟩ K):=_root_.id rfl
theorem sJ {B:NH} {e:Nat} {C:List (List NV)} {x:D4} {w:Bool} {cs:List NV} {kc bytes:Nat} (hv:bL B m v e C) (hx:m.get x=some (.cells w cs)) (hox:aC m x) (hl:cs.length=e) (hB:∀id,aC B id->aC m id)
 (hr:(C.length+1)*bytes<=1099511627776) (hr':C.length+1<=1099511627776) (h:∀v' m',bL B m' v' e (C++ [cs])->Chg (ids v) m m'->wO P S l ⟨ak ((k,v')::L) t,dfs,ctx,hp [] 0 m'⟩ K):
 D0 P S (some k) (ak L t) dfs ctx m (Ce e bytes m v (.slc x 0 1 e kc)) l K:=EO hv hx hox hl hB hr hr' h
theorem xW {e a b:Nat} {C:List (List NV)} {lo hi:Option NOpd} (h:Sl m v e C) (hab:a<=b) (hb:b<=C.length) (hlo:∀K:Nat->NR,gE (ak L t) lo 0 K=K a) (hhi:∀(d:Nat) (K:Nat->NR),d=C.length->gE (ak L t) hi d K=K b)
 (hK:∀v',Sl m v' e ((C.drop a).take (b - a))->(∀i∈ids v',i∈ids v)->wO P S l ⟨ak ((k,v')::L) t,dfs,ctx,m⟩ K):D0 P S (some k) (ak L t) dfs ctx m (wH e (ak L t) lo hi v) l K:=by
 obtain ⟨v',h1,h2,h3⟩:=h.ssl hab hb hlo hhi
 rw[h1];exact hK v' h2 h3
end
end Nm
namespace Nm
open Go Go.RowKit
section
variable {t:Tm} {m:NH}
def Gi (v:NV):NR:=match v with| .str s=> .val (.int .i64 (.lit (s.length:Int)))|_=> .fail
theorem GZ {x:NOpd}:ag (.lenStr x) t m=oN (ρ t x) Gi:=by
 show wV t x (fun v=>match v with| .str s=>db s fun n=> .val (.int .i64 (.lit (.ofNat n)))|_=> .fail)=_
 rw[bR]
 congr 1
 funext v
 cases v with
 |str s=>exact bF s (fun n=>NR.val (.int .i64 (.lit (.ofNat n))))
 |_=>rfl
theorem Ek {s:List Nat}:Gi (.str s)= .val (.int .i64 (.lit (s.length:Int))):=_root_.id rfl
noncomputable def Is (v i:NV):NR:=aR (jp i) fun i=>match v with| .str s=>aR s[i]? fun b=> .val (.int .u8 (.lit (.ofNat b)))|_=> .fail
theorem KS {x i:NOpd}:ag (.indexStr x i) t m=oN (ρ t x) fun v=>oN (ρ t i) fun i=>Is v i:=by
 show wV t x (fun v=>dS t i fun i=>match v with
  | .str s=>aR (ij s i) fun b=> .val (.int .u8 (.lit (.ofNat b)))
  |_=> .fail)=_
 rw[bR]
 congr 1
 funext v
 unfold dS
 rw[bR]
 congr 1
 funext i
 unfold Is
 congr 1
 funext i
 cases v with
 |str s=>dsimp only;rw[d7]
 |_=>rfl
def HY (o:Option Nat):NR:=match o with|some b=> .val (.int .u8 (.lit (b:Int)))|none=> .fail
theorem J4 {s:List Nat} {k:IntKind} {z:Int} (h0:0<=z):Is (.str s) (.int k (.lit z))=HY s[z.toNat]? :=by
 obtain ⟨i,rfl⟩:=Int.eq_ofNat_of_zero_le h0
 show aR s[i]? (fun b=> .val (.int .u8 (.lit (.ofNat b))))=HY s[i]?
 cases s[i]? <;>rfl
theorem H3 {b:Nat}:HY (some b)= .val (.int .u8 (.lit (b:Int))):=_root_.id rfl
noncomputable def EV (s:List Nat) (a b:Nat):NR:=cond (Nat.ble a b) (aR (gw b s) fun s=>aR (dh a s) fun s=> .val (.str s)) .fail
noncomputable def H2 (t:Tm) (lo hi:Option NOpd) (v:NV):NR:=match v with
 | .str s=>gE t hi s.length fun b=>gE t lo 0 fun a=>EV s a b
 |_=> .fail
theorem Ky {x:NOpd} {lo hi:Option NOpd}:ag (.sliceStr x lo hi) t m=oN (ρ t x) (H2 t lo hi):=by
 show wV t x (fun v=>match v with
  | .str s=>db s fun n=>dc t hi n fun b=>dc t lo 0 fun a=>cond (Nat.ble a b) (aR (gw b s) fun s=>aR (dh a s) fun s=> .val (.str s)) .fail
  |_=> .fail)=_
 rw[bR]
 congr 1
 funext v
 cases v with
 |str s=>
  dsimp only[H2]
  rw[bF,eX]
  congr 1
  funext b
  rw[eX]
  rfl
 |_=>rfl
theorem He {s:List Nat} {lo hi:Option NOpd}:H2 t lo hi (.str s)=gE t hi s.length fun b=>gE t lo 0 fun a=>EV s a b:=_root_.id rfl
theorem JU {s:List Nat} {a b:Nat} (h:a<=b) (h':b<=s.length):EV s a b= .val (.str ((s.take b).drop a)):=by
 unfold EV
 rw[Nat.ble_eq_true_of_le h,fW,if_pos h']
 show aR (dh a (s.take b)) _=_
 rw[fg,if_pos (by rw[List.length_take];omega)];rfl
abbrev o9 (s:List Nat):List (List NV):=s.map fun (b:Nat)=> [NV.int .u8 (.lit (b:Int))]
noncomputable def Fp (m:NH) (v:NV):NR:=fB 1 m v fun _ l=>aR (d6 l) fun s=> .val (.str s)
theorem KR {x:NOpd}:ag (.bytesToStr x) t m=oN (ρ t x) (Fp m):=by
 show wV t x (fun v=>fB 1 m v fun _ l=>aR (d6 l) fun s=> .val (.str s))=_
 rw[bR];rfl
theorem Fz {s:List Nat} (h:∀b∈s,b<256):d6 (o9 s).flatten=some s:=by
 induction s with
 |nil=>rfl
 |cons b s ih=>
  show Eh (.int .u8 (.lit (.ofNat b))) (d6 (o9 s).flatten)=_
  rw[ih fun x hx=>h x (List.mem_cons_of_mem _ hx)]
  show cond (Nat.ble b 255) (some (b::s)) none=_
  rw[Nat.ble_eq_true_of_le (by have:=h b (List.mem_cons_self ..);omega)];rfl
theorem Sl.bts {v:NV} {s:List Nat} (h:Sl m v 1 (o9 s)) (hb:∀b∈s,b<256):Fp m v= .val (.str s):=by
 unfold Fp
 rw[qr h,Fz hb];rfl
theorem JS {a b:List Nat}:dH .num .eql (.str a) (.str b)=some (.bool (decide (a=b))):=by
 show bj (x8 a b)=_
 rw[aL]
 congr 2
 rw[Bool.eq_iff_iff,decide_eq_true_eq]
 constructor
 ·intro h
  induction a generalizing b with
  |nil=>cases b with
   |nil=>rfl
   |cons=>cases h
  |cons x a ih=>cases b with
   |nil=>cases h
   |cons y b=>
    change cond (Nat.beq x y) (x8 a b) false=true at h
    cases hxy:Nat.beq x y with
    |false=>rw[hxy] at h;cases h
    |true=>rw[hxy] at h;rw[Nat.eq_of_beq_eq_true hxy,ih h]
 ·rintro rfl;exact sP a
theorem wrap_u64 {n:Int}:bE .u64 n=n % 18446744073709551616:=by rw[bJ];rfl
theorem wrap_u8 {n:Int}:bE .u8 n=n % 256:=by rw[bJ];rfl
theorem ID {a b:Int}:dH .num .add (.int .u64 (.lit a)) (.int .u64 (.lit b))=some (.int .u64 (.lit ((a+b) % 18446744073709551616))):=by
 refine (jU rfl).trans ?_
 show b9 .u64 (bE .u64 (pg a b))=_
 rw[ja,wrap_u64,aX]
theorem HU {a b:Int}:dH .num .sub (.int .u64 (.lit a)) (.int .u64 (.lit b))=some (.int .u64 (.lit ((a - b) % 18446744073709551616))):=by
 refine (jU rfl).trans ?_
 show b9 .u64 (bE .u64 (ni a b))=_
 rw[eQ,wrap_u64,aX]
theorem HW {a b:Int}:dH .num .mul (.int .u64 (.lit a)) (.int .u64 (.lit b))=some (.int .u64 (.lit ((a*b) % 18446744073709551616))):=by
 refine (jU rfl).trans ?_
 show b9 .u64 (bE .u64 (pM a b))=_
 rw[fE,wrap_u64,aX]
theorem H7 {a b:Int}:dH .num .sub (.int .u8 (.lit a)) (.int .u8 (.lit b))=some (.int .u8 (.lit ((a - b) % 256))):=by
 refine (jU rfl).trans ?_
 show b9 .u8 (bE .u8 (ni a b))=_
 rw[eQ,wrap_u8,aX]
theorem Dj {a b:Nat} (hb:0<b):dH .num .quo (.int .u64 (.lit (a:Int))) (.int .u64 (.lit (b:Int)))=some (.int .u64 (.lit (((a / b % 18446744073709551616:Nat)):Int))):=by
 refine (jU rfl).trans ?_
 show cond (GU (Int.ofNat b)) none (b9 .u64 (bE .u64 (.ofNat (Nat.div a b))))=_
 rw[show GU (Int.ofNat b)=false from by show Nat.beq b 0=false;cases hz:Nat.beq b 0 with|false=>rfl|true=>have:=Nat.eq_of_beq_eq_true hz;omega]
 show b9 .u64 (bE .u64 (Int.ofNat (a / b)))=_
 rw[wrap_u64,aX]
 rfl
noncomputable def E8 (k:IntKind) (v:NV):NR:=match v with| .int _ (.lit n)=> .val (.int k (.lit (bE k n)))| .int _ (.sym c ts)=>vr (iH k c ts)|_=> .fail
theorem KO {k:IntKind} {x:NOpd}:ag (.toInt k x) t m=oN (ρ t x) (E8 k):=by
 show wV t x (fun v=>match v with| .int _ (.lit n)=>vr (b9 k (bE k n))| .int _ (.sym c ts)=>vr (iH k c ts)|_=> .fail)=_
 rw[bR]
 congr 1
 funext v
 cases v with
 |int k' x=>cases x with
  |lit n=>show vr (b9 k (bE k n))=_;rw[aX];rfl
  |_=>rfl
 |_=>rfl
theorem Dz {k:IntKind} {n:Int}:E8 .u64 (.int k (.lit n))= .val (.int .u64 (.lit (n % 18446744073709551616))):=by show NR.val (.int .u64 (.lit (bE .u64 n)))=_;rw[wrap_u64]
theorem Id {k:IntKind} {n:Int} (h:-9223372036854775808<=n) (h':n<9223372036854775808):E8 .i64 (.int k (.lit n))= .val (.int .i64 (.lit n)):=by show NR.val (.int .i64 (.lit (bE .i64 n)))=_;rw[wrap_small h h']
noncomputable def Gq (v:NV):NR:=match v with| .ptr i o=> .val (.ptr i o)| .fn f c=> .val (.fn f c)| .yld l=> .val (.yld l)|_=> .fail
theorem G6 {x:NOpd}:ag (.nilCheck x) t m=oN (ρ t x) Gq:=by
 show wV t x _=_
 rw[bR]
 cases ρ t x with
 |none=>rfl
 |some v=>cases v<;>rfl
theorem FO {i:D4} {o:Nat}:Gq (.ptr i o)= .val (.ptr i o):=_root_.id rfl
noncomputable def rR (x:NR) (K:NV->Prop):Prop:=match x with| .val v=>K v|_=>False
noncomputable def pZ (t:Tm) (m:NH):List NRes->(List NV->Prop)->Prop
 | [],K=>K []
 | .tmp k::l,K=>rK (NT.get k t) fun v=>pZ t m l fun vs=>K (v::vs)
 | .cell1 k::l,K=>rR (ag (.load1 (.tmp k)) t m) fun v=>pZ t m l fun vs=>K (v::vs)
 | .cellN k n::l,K=>rR (ag (.loadN n (.tmp k)) t m) fun v=>pZ t m l fun vs=>K (v::vs)
theorem CV:∀(rs:List NRes) (K:List NV->Prop) (G:List NV->CR),pZ t m rs K->∃l,cp m t rs .fail G=G l/\K l:=by
 intro rs
 induction rs with
 |nil=>intro K G h;exact ⟨[],rfl,h⟩
 |cons r rs ih=>
  intro K G h
  cases r with
  |tmp k=>
   cases hv:NT.get k t with
   |none=>unfold pZ at h;rw[hv] at h;exact h.elim
   |some v=>
    unfold pZ at h;rw[hv] at h
    obtain ⟨l,h1,h2⟩:=ih (fun vs=>K (v::vs)) (fun l=>G (v::l)) h
    refine ⟨v::l, ?_,h2⟩
    show (match (match NT.get k t with|some v=>NR.val v|none=> .fail) with| .val v=>cp m t rs .fail (fun l=>G (v::l))|_=> .fail)=_
    rw[hv];exact h1
  |cell1 k=>
   cases hv:ag (.load1 (.tmp k)) t m with
   |val v=>
    unfold pZ at h;rw[hv] at h
    obtain ⟨l,h1,h2⟩:=ih (fun vs=>K (v::vs)) (fun l=>G (v::l)) h
    refine ⟨v::l, ?_,h2⟩
    change fF (.tmp k) t m= .val v at hv
    show (match fF (.tmp k) t m with| .val v=>cp m t rs .fail (fun l=>G (v::l))|_=> .fail)=_
    rw[hv];exact h1
   |_=>unfold pZ at h;rw[hv] at h;exact h.elim
  |cellN k n=>
   cases hv:ag (.loadN n (.tmp k)) t m with
   |val v=>
    unfold pZ at h;rw[hv] at h
    obtain ⟨l,h1,h2⟩:=ih (fun vs=>K (v::vs)) (fun l=>G (v::l)) h
    refine ⟨v::l, ?_,h2⟩
    change fD n (.tmp k) t m= .val v at hv
    show (match fD n (.tmp k) t m with| .val v=>cp m t rs .fail (fun l=>G (v::l))|_=> .fail)=_
    rw[hv];exact h1
   |_=>unfold pZ at h;rw[hv] at h;exact h.elim
def wU (rs:List NRes) (K:NV->NH->Prop) (o:Out) (d:Dyn):Prop:=(o= .norm∨o= .ret)/\d.dfs= []/\pZ d.t d.h rs fun l=>K (ic l) d.h
theorem wT {rs:List NRes} {K:NV->NH->Prop} {o:Out} {d:Dyn} (h:wU rs K o d):AI rs K o d:=by
 obtain ⟨h1,h2,h3⟩:=h
 obtain ⟨l,h4,h5⟩:=CV rs _ (fun l=> .val (ic l) d.ctx d.h) h3
 exact ⟨h1,h2,ic l,h4,h5⟩
theorem wz {rs:List NRes} {K:NV->NH->Prop} {ctx:Option NV}:wU rs K .ret ⟨t, [],ctx,m⟩=pZ t m rs (fun l=>K (ic l) m):=propext ⟨fun h=>h.2.2,fun h=>⟨.inr rfl,rfl,h⟩⟩
theorem EU {rs:List NRes} {K:NV->NH->Prop} {ctx:Option NV}:wU rs K .norm ⟨t, [],ctx,m⟩=pZ t m rs (fun l=>K (ic l) m):=propext ⟨fun h=>h.2.2,fun h=>⟨.inl rfl,rfl,h⟩⟩
theorem JQ {K:List NV->Prop}:pZ t m [] K=K []:=_root_.id rfl
theorem J6 {K:List NV->Prop} {k:D4} {l:List NRes}:pZ t m (.tmp k::l) K=rK (NT.get k t) fun v=>pZ t m l fun vs=>K (v::vs):=_root_.id rfl
theorem Jo {K:List NV->Prop} {k:D4} {l:List NRes}:pZ t m (.cell1 k::l) K=rR (ag (.load1 (.tmp k)) t m) fun v=>pZ t m l fun vs=>K (v::vs):=_root_.id rfl
theorem Jx {K:List NV->Prop} {k:D4} {n:Nat} {l:List NRes}:pZ t m (.cellN k n::l) K=rR (ag (.loadN n (.tmp k)) t m) fun v=>pZ t m l fun vs=>K (v::vs):=_root_.id rfl
theorem Mh {v:NV} {K:NV->Prop}:rR (.val v) K=K v:=_root_.id rfl
theorem FE {v:NV}:ic [v]=v:=_root_.id rfl
theorem Ej {a b:NV} {l:List NV}:ic (a::b::l)= .tup (a::b::l):=_root_.id rfl
theorem WF.of_wpG {P:Program} {S:Nat->List NV->Option NV} {f:Nat} {args:List NV} {nf:NFun} (hs:∀l,S f l=none) (hf:aD P f=some (.code nf)) {K:NV->NH->Prop} {L:List (D4×NV)} (hL:dL args 0 .leaf=ak L .leaf)
 (h:wp P S none nf.body ⟨ak L .leaf, [],none,hp [] 0 m⟩ (wU nf.results K)):WF P S f args m K:=by
 rw[ai] at h
 obtain ⟨o,d,h1,h2⟩:=aK _ _ _ h
 obtain ⟨ho,hd,v,hv,hK⟩:=wT h2
 rw[←hL] at h1
 exact ⟨v,d.ctx,d.h,Call.of_run hs hf ho h1 hd hv (by simp),hK⟩
end
end Nm
namespace Nm
open Go Go.RowKit
section
variable {t:Tm} {m:NH}
noncomputable def Kg (s:Bool) (z:NV) (ok:Bool) (k:NV) (l:List (NV×NV)):NR:=aR (jt s k l) fun r=>Option.rec (Bool.rec (.val z) (.val (.tup [z,.bool false])) ok) (fun v=>Bool.rec (.val v) (.val (.tup [v,.bool true])) ok) r
noncomputable def LJ (s:Bool) (z:NV) (ok:Bool) (k:NV) (o:Option NO):NR:=match o with|some (.map l)=>Kg s z ok k l|_=> .fail
noncomputable def MV (s:Bool) (z:NV) (ok:Bool) (m:NH) (x k:NV):NR:=match x with| .nilm=>Kg s z ok k []| .map id=>LJ s z ok k (m.get id)|_=> .fail
theorem C8 {s ok:Bool} {z:NV} {x i:NOpd}:ag (.lookup s z ok x i) t m=oN (ρ t x) fun x=>oN (ρ t i) fun k=>MV s z ok m x k:=by
 show wV t x (fun x=>wV t i fun k=>jZ m x fun l=>aR (jt s k l) fun r=>Option.rec (Bool.rec (.val z) (.val (.tup [z,.bool false])) ok) (fun v=>Bool.rec (.val v) (.val (.tup [v,.bool true])) ok) r)=_
 simp only[bR]
 cases ρ t x with
 |none=>rfl
 |some a=>
  cases ρ t i with
  |none=>rfl
  |some k=>
   cases a<;>try rfl
theorem LP {s ok:Bool} {z k:NV} {id:D4}:MV s z ok m (.map id) k=LJ s z ok k (m.get id):=_root_.id rfl
theorem JJ {s ok:Bool} {z k:NV} {l:List (NV×NV)}:LJ s z ok k (some (.map l))=Kg s z ok k l:=_root_.id rfl
theorem EF:ag .mkMap t m= .mem (.map m.next) (m.add (.map [])):=NH.new_eq m (.map []) (fun id h=>NR.mem (.map id) h)
noncomputable def J3 (s:Bool) (id:D4) (k v:NV) (m:NH) (o:Option NO):NR:=match o with|some (.map l)=>aR (nz s k v l) fun l=> .mem aM (m.put id (.map l))|_=> .fail
noncomputable def Nf (s:Bool) (m:NH) (x k v:NV):NR:=match x with| .map id=>J3 s id k v m (m.get id)|_=> .fail
theorem FU {s:Bool} {x i v:NOpd}:ag (.mapUpdate s x i v) t m=oN (ρ t x) fun x=>oN (ρ t i) fun k=>oN (ρ t v) fun v=>Nf s m x k v:=by
 show wV t x (fun m'=>wV t i fun k=>wV t v fun v=>match m' with
  | .map id=>jZ m (.map id) fun l=>aR (nz s k v l) fun l=>m.set id (.map l) fun h=> .mem aM h
  |_=> .fail)=_
 simp only[bR]
 cases ρ t x with
 |none=>rfl
 |some a=>
  cases ρ t i with
  |none=>rfl
  |some k=>
   cases ρ t v with
   |none=>rfl
   |some v=>
    cases a<;>first|rfl|skip
    rename_i id
    show (match m.get id with|some (.map l)=>aR (nz s k v l) (fun l=>m.set id (.map l) fun h=> .mem aM h)|_=> .fail)=J3 s id k v m (m.get id)
    cases m.get id with
    |none=>rfl
    |some o=>
     cases o<;>first|rfl|skip
     dsimp only[J3]
     congr 1;funext l;rw[NH.set_eq]
theorem Lx {s:Bool} {k v:NV} {id:D4}:Nf s m (.map id) k v=J3 s id k v m (m.get id):=_root_.id rfl
abbrev fR (L:List (List Nat)):List (NV×NV):=L.map fun s=>(.str s,.bool true)
theorem pW {a b:List Nat}:fI true (.str a) (.str b)=some (decide (a=b)):=by
 show some (x8 a b)=_
 rw[kZ];by_cases h:a=b<;>simp[h]
theorem AO {s:List Nat}:∀L:List (List Nat),jt true (.str s) (fR L)=some (if s∈L then some (.bool true) else none):=by
 intro L
 induction L with
 |nil=>rfl
 |cons a L ih=>
  show Option.rec (motive:=fun _=>Option (Option NV)) none (fun b=>cond b (some (some (.bool true))) (jt true (.str s) (fR L))) (fI true (.str s) (.str a))=_
  rw[pW,ih]
  show cond (decide (s=a)) _ _=_
  by_cases h:s=a
  ·subst h;simp
  ·simp[h]
theorem Js {s:List Nat} {L:List (List Nat)}:Kg true (.bool false) false (.str s) (fR L)= .val (.bool (decide (s∈L))):=by
 unfold Kg
 rw[AO]
 by_cases h:s∈L
 ·rw[if_pos h];simp only[h,decide_true];rfl
 ·rw[if_neg h];simp only[h,decide_false];rfl
def cH (l:List (List Nat)) (s:List Nat):List (List Nat):=if s∈l then l else l++ [s]
theorem CH {s:List Nat}:∀L:List (List Nat),nz true (.str s) (.bool true) (fR L)=some (fR (cH L s)):=by
 intro L
 induction L with
 |nil=>rfl
 |cons a L ih=>
  show Option.rec (motive:=fun _=>Option (List (NV×NV))) none (fun b=>cond b (some ((.str s,.bool true)::fR L)) (Option.rec none (fun t=>some ((.str a,.bool true)::t)) (nz true (.str s) (.bool true) (fR L)))) (fI true (.str s) (.str a))=_
  rw[pW,ih]
  show cond (decide (s=a)) _ _=_
  by_cases h:s=a
  ·subst h;simp[cH]
  ·simp only[h,decide_false,cH,List.mem_cons,false_or]
   by_cases h2:s∈L<;>simp[h2]
theorem JL {id:D4} {s:List Nat} {L:List (List Nat)}:J3 true id (.str s) (.bool true) m (some (.map (fR L)))= .mem aM (m.put id (.map (fR (cH L s)))):=by
 show aR (nz true (.str s) (.bool true) (fR L)) _=_
 rw[CH];rfl
end
end Nm
namespace Nm
open Go Go.RowKit
theorem th {k:D4} {v:NV} {L:List (D4×NV)} {t:Tm}:NT.put k v (ak L t)=ak ((k,v)::L) t:=_root_.id rfl
theorem GF {k:D4} {v:NV} {L:List (D4×NV)} {t:Tm}:NT.put k v (ak L t)=ak ((k,v)::L) t:=_root_.id rfl
theorem G3 {m:NH} {id:D4}:(hp [] 0 m).get id=m.get id:=by rw[ai]
def Bw:Jump->Out
 | .none=> .norm
 | .ret=> .ret
 | .exit i=> .exit i
section
variable {P:Program} {S:Nat->List NV->Option NV}
theorem W.rangeJ {cap:List NV} {fx:NOpd} {ps:List D4} {a b:NC} {t:Tm} {dfs:List Dfr} {ctx:Option NV} {Q:Out->Dyn->Prop} {m m':NH} {v:NV} {f:Nat}
 (hf:ρ t fx=some (.fn f cap)) (hc:bI P S f (.yld (na m 1)::cap) (hp [(.n 1,.loop 0 .none t ps a b),(.n 0,.defd true)] 2 m) v m')
 {st:Nat} {p:Jump} {tm:NT NV} {ps':List D4} {a' b':NC} (hl:m'.get (na m 1)=some (.loop st p tm ps' a' b')) (hst:st≠1) (hQ:Q (Bw p) ⟨t,.mark (na m 0)::dfs,ctx,hp [(.o (na m 1),.loop 3 p tm ps' a' b')] 0 m'⟩) (ho:aC m' (na m 1)):
 W P S none (.rangeFunc fx ps a b) ⟨t,dfs,ctx,m⟩ Q:=by
 have e1:(m.add (.defd true)).next=na m 1:=by rw[←qI];rfl
 have e0:m.next=na m 0:=(qL m).symm
 have e2:(m.add (.defd true)).add (.loop 0 .none t ps a b)=hp [(.n 1,.loop 0 .none t ps a b),(.n 0,.defd true)] 2 m:=by rw[←qI m (.defd true),tJ]
 rw[←qD ho,ai] at hQ
 rw[←e1] at hQ hl hc
 rw[←e2] at hc
 rw[←e0] at hQ
 obtain ⟨c,hc⟩:=hc
 refine ⟨_,_,eG.range hf hc ?_,hQ⟩
 unfold eu
 rw[hl]
 dsimp only
 rw[show Nat.beq st 1=false from by cases h:Nat.beq st 1 with|false=>rfl|true=>exact absurd (Nat.eq_of_beq_eq_true h) hst,cond_false,NH.set_eq]
 cases p<;>rfl
end
theorem Iy {e bytes:Nat} {m m':NH} {v x v':NV} (h:Ce e bytes m v x= .mem v' m'):∀i∈ids v',i∈ids v∨¬aC m i:=by
 have hn:¬aC m m.next:=fun q=>Nat.lt_irrefl _ q
 have new:∀{a b c d:Nat},∀i∈ids (.slc m.next a b c d),i∈ids v∨¬aC m i:=by
  intro a b c d i hi
  rcases List.mem_cons.mp hi with rfl|hi
  ·exact Or.inr hn
  ·exact absurd hi (by simp)
 have key:∀(k:Nat) (nw:List NV),eS e bytes m v k nw= .mem v' m'->∀i∈ids v',i∈ids v∨¬aC m i:=by
  intro k nw h
  cases v with
  |nils=>
   cases k with
   |zero=>cases h
   |succ k=>
    obtain ⟨-,h⟩:=aJ (show cond (room (k+1) bytes) (m.new (.cells true nw) fun id h=>NR.mem (.slc id 0 (k+1) e (k+1)) h) .fail=_ from h) (by simp)
    rw[NH.new_eq] at h;cases h;exact new
  |slc id off len e' kc=>
   cases k with
   |zero=>
    obtain ⟨-,h⟩:=aJ (show cond (Nat.beq e' e) (NR.val (.slc id off len e' kc)) .fail=_ from h) (by simp)
    cases h
   |succ k=>
    obtain ⟨-,h⟩:=aJ (show cond (Nat.beq e' e) (ee m id fun c=>aw (Nat.add len (k+1)) fun n=>cond (Nat.ble n kc)
     (aR (dx nw (Nat.add off (Nat.mul len e)) c) fun c=>m.set id (.cells true c) fun h=>NR.mem (.slc id off n e kc) h)
     (aR (dh off c) fun c=>aR (gw (Nat.mul len e) c) fun old=>cond (room n bytes)
      (ia old nw fun l=>m.set id .dead fun h=>h.new (.cells true l) fun id h=>NR.mem (.slc id 0 n e n) h) .fail)) .fail=_ from h) (by simp)
    obtain ⟨c,-,h⟩:=ej h (by simp)
    rw[ae] at h
    cases hb:Nat.ble (Nat.add len (k+1)) kc with
    |true=>
     rw[hb] at h
     obtain ⟨c',-,h⟩:=aF h (by simp)
     rw[NH.set_eq] at h
     cases h
     exact fun i hi=>Or.inl hi
    |false=>
     rw[hb] at h
     obtain ⟨c',-,h⟩:=aF h (by simp)
     obtain ⟨c'',-,h⟩:=aF h (by simp)
     obtain ⟨-,h⟩:=aJ h (by simp)
     rw[eM,NH.set_eq,NH.new_eq] at h
     cases h
     exact new
  |_=>cases h
 unfold Ce at h
 cases x with
 |nils=>exact key 0 [] h
 |slc id off len esz kc=>
  obtain ⟨-,h⟩:=aJ (show cond (Nat.beq esz e) (bS m id (fun c=>aR (fC c off (Nat.mul len e)) fun l=>eS e bytes m v len l)) .fail=_ from h) (by simp)
  unfold bS at h
  split at h
  ·obtain ⟨l,-,h⟩:=aF h (by simp)
   exact key _ _ h
  ·cases h
 |_=>cases h
theorem bL.app2 {B m:NH} {v:NV} {e:Nat} {C:List (List NV)} {x:D4} {w:Bool} {cs:List NV} {kc bytes:Nat} (hv:bL B m v e C) (hx:m.get x=some (.cells w cs)) (hox:aC m x) (hl:cs.length=e) (hB:∀id,aC B id->aC m id)
 (hr:(C.length+1)*bytes<=1099511627776) (hr':C.length+1<=1099511627776):∃v' m',Ce e bytes m v (.slc x 0 1 e kc)= .mem v' m'/\bL B m' v' e (C++ [cs])/\Chg (ids v) m m'/\∀i∈ids v',i∈ids v∨¬aC m i:=by
 obtain ⟨v',m',h1,h2,h3⟩:=hv.app1 (bytes:=bytes) (kc:=kc) hx hox hl hB hr hr'
 exact ⟨v',m',h1,h2,h3,Iy h1⟩
section
variable {P:Program} {S:Nat->List NV->Option NV} {dst:D4} {L:List (D4×NV)} {t:Tm} {dfs:List Dfr} {ctx:Option NV} {l:List NOper} {K:Dyn->Prop} {B m:NH} {v:NV} {e:Nat} {C:List (List NV)} {x:D4} {w:Bool} {cs:List NV} {kc bytes:Nat}
theorem gy (hv:bL B m v e C) (hx:m.get x=some (.cells w cs)) (hox:aC m x) (hl:cs.length=e) (hB:∀id,aC B id->aC m id)
 (hr:(C.length+1)*bytes<=1099511627776) (hr':C.length+1<=1099511627776) (h:∀v' m',bL B m' v' e (C++ [cs])->Chg (ids v) m m'->(∀i∈ids v',i∈ids v∨¬aC m i)->wO P S l ⟨ak ((dst,v')::L) t,dfs,ctx,m'⟩ K):
 D0 P S (some dst) (ak L t) dfs ctx m (Ce e bytes m v (.slc x 0 1 e kc)) l K:=by
 obtain ⟨v',m',h1,h2,h3,h4⟩:=hv.app2 (bytes:=bytes) (kc:=kc) hx hox hl hB hr hr'
 rw[h1]
 exact h v' m' h2 h3 h4
theorem gv (hv:bL B m v e C) (hx:m.get x=some (.cells w cs)) (hox:aC m x) (hl:cs.length=e) (hB:∀id,aC B id->aC m id)
 (hr:(C.length+1)*bytes<=1099511627776) (hr':C.length+1<=1099511627776) (h:∀v' m',bL B m' v' e (C++ [cs])->Chg (ids v) m m'->(∀i∈ids v',i∈ids v∨¬aC m i)->K ⟨ak ((dst,v')::L) t,dfs,ctx,hp [] 0 m'⟩):
 Kl P S (some dst) (ak L t) dfs ctx m (Ce e bytes m v (.slc x 0 1 e kc)) K:=by
 obtain ⟨v',m',h1,h2,h3,h4⟩:=hv.app2 (bytes:=bytes) (kc:=kc) hx hox hl hB hr hr'
 rw[h1,BY]
 have:=h v' m' h2 h3 h4
 rwa [ai] at this
end
section
variable {P:Program} {S:Nat->List NV->Option NV} {f:Nat} {args:List NV} {m:NH} {K:NV->NH->Prop}
theorem WF.use {Φ:NV->NH->Prop} (h:∃v m',bI P S f args m v m'/\Φ v m') (hK:∀v m',Φ v m'->K v m'):WF P S f args m K:=by
 obtain ⟨v,m',h1,h2⟩:=h
 rw[h1.wf'];exact hK v m' h2
theorem WF.useH {Φ:NV->NH->Prop} (h:∃v m',bI P S f args m v m'/\Φ v m') (hK:∀v m',Φ v m'->K v (hp [] 0 m')):WF P S f args m K:=by
 obtain ⟨v,m',h1,h2⟩:=h
 rw[h1.wf];exact hK v m' h2
theorem WF.use1 {v:NV} {Φ:NH->Prop} (h:∃m',bI P S f args m v m'/\Φ m') (hK:∀m',Φ m'->K v m'):WF P S f args m K:=by
 obtain ⟨m',h1,h2⟩:=h
 rw[h1.wf'];exact hK m' h2
theorem WF.use1H {v:NV} {Φ:NH->Prop} (h:∃m',bI P S f args m v m'/\Φ m') (hK:∀m',Φ m'->K v (hp [] 0 m')):WF P S f args m K:=by
 obtain ⟨m',h1,h2⟩:=h
 rw[h1.wf];exact hK m' h2
end
section
variable {P:Program} {S:Nat->List NV->Option NV} {r:Option D4} {a b:NC} {d:Dyn} {Q:Out->Dyn->Prop}
theorem Mr {c:NC} (Φ:Dyn->Prop) (h1:∀R:Dyn->Prop,(∀d',Φ d'->R d')->wp P S r a d (dr (Ea P S r b (dr R Q)) Q)) (h2:∀d',Φ d'->wp P S r c d' Q):wp P S r (.seq a (.seq b c)) d Q:=h1 _ h2
theorem Mp {c e:NC} (Φ:Dyn->Prop) (h1:∀R:Dyn->Prop,(∀d',Φ d'->R d')->wp P S r a d (dr (Ea P S r b (dr (Ea P S r c (dr R Q)) Q)) Q)) (h2:∀d',Φ d'->wp P S r e d' Q):wp P S r (.seq a (.seq b (.seq c e))) d Q:=h1 _ h2
theorem MC {c e g:NC} (Φ:Dyn->Prop) (h1:∀R:Dyn->Prop,(∀d',Φ d'->R d')->wp P S r a d (dr (Ea P S r b (dr (Ea P S r c (dr (Ea P S r e (dr R Q)) Q)) Q)) Q)) (h2:∀d',Φ d'->wp P S r g d' Q):wp P S r (.seq a (.seq b (.seq c (.seq e g)))) d Q:=h1 _ h2
theorem s7 (Φ:Dyn->Prop) (h1:∀R:Dyn->Prop,(∀d',Φ d'->R d')->wp P S r a d (dr R Q)) (h2:∀d',Φ d'->wp P S r b d' Q):wp P S r (.seq a b) d Q:=h1 _ h2
end
section
variable {P:Program} {S:Nat->List NV->Option NV} {q:D4} {args:List NV} {m:NH} {K:NV->NH->Prop}
theorem WY.use1 {v:NV} {Φ:NH->Prop} (h:∃m',uQ P S q args m v m'/\Φ m') (hK:∀m',Φ m'->K v m'):WY P S q args m K:=by
 obtain ⟨m',h1,h2⟩:=h
 rw[h1.wy,ai];exact hK m' h2
end
section
variable {P:Program} {S:Nat->List NV->Option NV} {f:Nat} {q:D4} {args:List NV} {m:NH}
theorem WF.ex1 {v:NV} {Φ:NH->Prop} (h:∀K:NV->NH->Prop,(∀m',Φ m'->K v m')->WF P S f args m K):∃m',bI P S f args m v m'/\Φ m':=by
 obtain ⟨w,m',h1,rfl,h2⟩:=WF.ret (h (fun w m'=>w=v/\Φ m') fun m' h=>⟨rfl,h⟩)
 exact ⟨m',h1,h2⟩
theorem WY.ex1 {v:NV} {Φ:NH->Prop} (h:∀K:NV->NH->Prop,(∀m',Φ m'->K v m')->WY P S q args m K):∃m',uQ P S q args m v m'/\Φ m':=by
 obtain ⟨w,m',h1,rfl,h2⟩:=WY.ret (h (fun w m'=>w=v/\Φ m') fun m' h=>⟨rfl,h⟩)
 exact ⟨m',h1,h2⟩
end
end Nm
namespace Nm
open Go Go.RowKit
def qd (P:Program):List Field->Nat->Nat->Bool
 | [],o,n=>o==n
 |f::fs,o,n=>(f.offset==o)&&qd P fs (o+P.cellsOf f.type) n
def jX (P:Program) (T:List TypeId) (t:TypeId):Bool:=match P.underlying t with
 |some .bool|some (.int _)|some .string=>true
 |some (.slice e)=>T.contains e&&decide (0<P.cellsOf e)
 |some (.struct fs)=>fs.toList.all (fun f=>T.contains f.type)&&qd P fs.toList 0 (P.cellsOf t)
 |_=>false
def yS (P:Program) (T:List TypeId):Bool:=T.all (jX P T)
mutual
inductive Ty (P:Program) (m:NH):TypeId->List NV->Prop
 |bool {t:TypeId} (ht:P.underlying t=some .bool) (b:Bool):Ty P m t [.bool b]
 |int {t:TypeId} {k:IntKind} (ht:P.underlying t=some (.int k)) (n:Int) (h:(Lit.int k n).wf=true):Ty P m t [.int k (.lit n)]
 |str {t:TypeId} (ht:P.underlying t=some .string) (l:List Nat) (h:∀b∈l,b<256) (hl:l.length<=maxLen):Ty P m t [.str l]
 |slc {t e:TypeId} (ht:P.underlying t=some (.slice e)) (v:NV) (C:List (List NV)) (hS:Sl m v (P.cellsOf e) C) (hl:C.length<=maxLen) (h:∀c∈C,Ty P m e c):Ty P m t [v]
 |struct {t:TypeId} {fs:Array Field} (ht:P.underlying t=some (.struct fs)) (l:List NV) (h:TyL P m (fs.toList.map (·.type)) l):Ty P m t l
inductive TyL (P:Program) (m:NH):List TypeId->List NV->Prop
 |nil:TyL P m [] []
 |cons {t:TypeId} {ts:List TypeId} (a b:List NV) (h:Ty P m t a) (hl:TyL P m ts b):TyL P m (t::ts) (a++b)
end
mutual
theorem Ty.grew {P:Program} {m m':NH} (hC:Chg [] m m'):∀{t:TypeId} {l:List NV},Ty P m t l->Ty P m' t l
 |_,_,.bool ht b=> .bool ht b
 |_,_,.int ht n h=> .int ht n h
 |_,_,.str ht l h hl=> .str ht l h hl
 |_,_,.slc ht v C hS hl h=> .slc ht v C (hS.grew hC) hl (fun c hc=>(h c hc).grew hC)
 |_,_,.struct ht l h=> .struct ht l (TyL.grew hC h)
theorem TyL.grew {P:Program} {m m':NH} (hC:Chg [] m m'):∀{ts:List TypeId} {l:List NV},TyL P m ts l->TyL P m' ts l
 |_,_,.nil=> .nil
 |_,_,.cons a b h hl=> .cons a b (h.grew hC) (TyL.grew hC hl)
end
section
variable [Val]
def Ro (P:Program) (W:World) (ι:aW) (m:NH):Prop:=Rel P ι W.heap.size m W/\∀i p,ι i=some p->¬Live (m.get i)
def ext (ι:aW) (i:D4) (p:Pl):aW:=fun j=>if j.toNat=i.toNat then some p else ι j
theorem Ro.add {P:Program} {W:World} {ι:aW} {m:NH} (h:Ro P W ι m) {b o:Nat} {c:List NV} {cur:Array Value} {T:TypeId} {fz:Nat×Nat} (hb:W.heap[b]? =some (.cells cur T fz)) (hn:o+c.length<=cur.size)
 (hc:∀i v,c[i]? =some v->∃v',cur[o+i]? =some v'/\VR ι v v'/\v'.oneCell'=true):
 ∃ι' m',Ro P W ι' m'/\ι.le ι'/\Chg [] m m'/\ι' m.next=some ⟨b,o,cur.size⟩/\m'.get m.next=some (.cells false c)/\aC m' m.next:=by
 obtain ⟨hR,hL⟩:=h
 have hold:∀i p,ι i=some p->aC m i:=fun i p hi=>by
  obtain ⟨x,hx,_⟩:=hR.obj i p hi
  exact hR.fresh i x hx
 have hext:∀i p,ι i=some p->ext ι m.next ⟨b,o,cur.size⟩ i=some p:=fun i p hi=>by
  unfold ext;rw[if_neg (Nat.ne_of_lt (hold i p hi))];exact hi
 have hle:ι.le (ext ι m.next ⟨b,o,cur.size⟩):=hext
 have hinv:∀i p,ext ι m.next ⟨b,o,cur.size⟩ i=some p->(i=m.next/\p=⟨b,o,cur.size⟩)∨(ι i=some p/\i≠m.next):=fun i p hi=>by
  unfold ext at hi
  by_cases e:i.toNat=m.next.toNat
  ·rw[if_pos e] at hi;injection hi with hi;exact Or.inl ⟨D4.toNat_inj e,hi.symm⟩
  ·rw[if_neg e] at hi;exact Or.inr ⟨hi,fun q=>e (by rw[q])⟩
 have hnl:∀i p,ext ι m.next ⟨b,o,cur.size⟩ i=some p->¬Live ((m.add (.cells false c)).get i):=fun i p hi=>by
  rcases hinv i p hi with ⟨rfl,_⟩|⟨hi,hne⟩
  ·rw[NH.get_add_same];exact fun q=>q.2 c rfl
  ·rw[NH.get_add_ne _ _ hne];exact hL i p hi
 refine ⟨ext ι m.next ⟨b,o,cur.size⟩,m.add (.cells false c),⟨⟨?_, ?_, ?_, ?_, ?_⟩,hnl⟩,hle,Chg.add m _,by unfold ext;rw[if_pos rfl],NH.get_add_same m _,io m _⟩
 ·intro i p hi
  rcases hinv i p hi with ⟨rfl,rfl⟩|⟨hi,hne⟩
  ·refine ⟨.cells false c,NH.get_add_same m _, ?_⟩
   show ∃(cur':Array Value) (T:TypeId) (fz:Nat×Nat),W.heap[b]? =some (.cells cur' T fz)/\(false=true->fz=(0,0))/\cur'.size=cur.size/\o+c.length<=cur.size/\∀i v,c[i]? =some v->∃v',cur'[o+i]? =some v'/\VR (ext ι m.next ⟨b,o,cur.size⟩) v v'/\v'.oneCell'=true
   refine ⟨cur,T,fz,hb,fun q=>Bool.noConfusion q,rfl,hn,fun i v hv=> ?_⟩
   obtain ⟨v',h1,h2,h3⟩:=hc i v hv
   exact ⟨v',h1,h2.mono hle,h3⟩
  ·obtain ⟨x,h1,h2⟩:=hR.obj i p hi
   exact ⟨x,(NH.get_add_ne m _ hne).trans h1,h2.mono hle rfl⟩
 ·intro i j p q hi hj hne hl _
  exact absurd hl (hnl i p hi)
 ·intro i p hi hl;exact absurd hl (hnl i p hi)
 ·intro i p hi
  rcases hinv i p hi with ⟨rfl,rfl⟩|⟨hi,_⟩
  ·exact (Array.getElem?_eq_some_iff.mp hb).1
  ·exact hR.lt i p hi
 ·intro i x hx
  by_cases e:i=m.next
  ·subst e;exact io m _
  ·rw[NH.get_add_ne _ _ e] at hx
   exact (Chg.add m (.cells false c)).old (hR.fresh i x hx)
theorem Ro.nil (P:Program) (W:World):Ro P W ι0 ⟨.leaf,.e⟩:=⟨KV P W,fun i p h=>by cases h⟩
omit [Val] in
theorem BF (a:Addr) (j:Nat):(a.add j).block=a.block:=by unfold Addr.add;split<;>rfl
omit [Val] in
theorem IE (a:Addr) (j:Nat):(a.add j).off=a.off+j:=by
 unfold Addr.add;split
 ·rename_i h;subst h;rfl
 ·rfl
omit [Val] in
theorem xn (a:Addr) (m n:Nat):(a.add m).add n=a.add (m+n):=by
 unfold Addr.add
 by_cases h:n=0
 ·subst h;simp
 ·by_cases h':m=0
  ·subst h';simp
  ·simp[h,h'];omega
omit [Val] in
theorem oA {w:World} {a:Addr} {v:Value} (h:w.cell? a=some v):∃cur T fz,w.heap[a.block]? =some (.cells cur T fz)/\cur[a.off]? =some v:=by
 unfold World.cell? at h
 split at h
 ·rename_i cur T fz hb
  refine ⟨cur,T,fz,hb, ?_⟩
  split at h
  ·cases h
  ·exact h
 ·cases h
theorem VRL.append {ι:aW} {a:List NV} {a':List Value} {b:List NV} {b':List Value} (h:VRL ι a a') (k:VRL ι b b'):VRL ι (a++b) (a'++b'):=by
 induction a generalizing a' with
 |nil=>cases h;exact k
 |cons v l ih=>cases h with
  |cons _ v' _ l' h hl=>exact .cons _ _ _ _ h (ih hl)
def Cs (W:World) (ι:aW) (a:Addr) (l:List NV):Prop:=∀(j:Nat) (v:NV),l[j]? =some v->∃v',W.cell? (a.add j)=some v'/\VR ι v v'/\v'.oneCell'=true
theorem Cs.mono {W:World} {ι ι':aW} (hι:ι.le ι') {a:Addr} {l:List NV} (h:Cs W ι a l):Cs W ι' a l:=fun j v hv=>let ⟨v',h1,h2,h3⟩:=h j v hv;⟨v',h1,h2.mono hι,h3⟩
theorem FV {P:Program} {W:World} {T:List TypeId} (hT:yS P T=true) (hne:∃(b:Nat) (cur:Array Value) (T:TypeId) (fz:Nat×Nat),W.heap[b]? =some (.cells cur T fz)) {H:Type} {enc:TypeId×Value->H}:∀(n:Nat) (t:TypeId),t∈T->∀(cs:List Value) (x:DataW H×List MemPlace),DataW.trod enc P W 0 (fun _=>true) true n t cs=some x->
 ∀(ι:aW) (m:NH),Ro P W ι m->∃ι' m' l,Ro P W ι' m'/\ι.le ι'/\Chg [] m m'/\VRL ι' l cs/\(∀v∈cs,v.oneCell'=true)/\Ty P m' t l:=by
 intro n
 induction n with
 |zero=>intro t _ cs x h;simp[DataW.trod] at h
 |succ n ih=>
  intro t ht cs x h ι m hR
  have hok:jX P T t=true:=List.all_eq_true.mp hT t ht
  unfold jX at hok
  split at hok
  ·rename_i hu
   obtain ⟨b,rfl,_⟩:=DataW.trod_bool hu h
   exact ⟨ι,m, [.bool b],hR,aW.le_refl ι,Chg.refl m,.cons _ _ _ _ (.bool b) .nil,by simp[Value.oneCell'],.bool hu b⟩
  ·rename_i k hu
   obtain ⟨z,rfl,_,hw⟩:=DataW.trod_int hu h
   exact ⟨ι,m, [.int k (.lit z)],hR,aW.le_refl ι,Chg.refl m,.cons _ _ _ _ (.int k z) .nil,by simp[Value.oneCell'],.int hu z hw⟩
  ·rename_i hu
   obtain ⟨s,rfl,_,hs⟩:=DataW.trod_string hu h
   refine ⟨ι,m, [.str (s.data.toList.map UInt8.toNat)],hR,aW.le_refl ι,Chg.refl m,.cons _ _ _ _ (.str _ s rfl) .nil,by simp[Value.oneCell'],.str hu _ ?_ ?_⟩
   ·intro b hb
    obtain ⟨c,_,rfl⟩:=List.mem_map.mp hb
    exact c.toNat_lt
   ·rw[List.length_map];exact hs
  ·rename_i e hu
   rw[Bool.and_eq_true,decide_eq_true_eq] at hok
   obtain ⟨he,hce⟩:=hok
   have he:e∈T:=by simpa using he
   rcases DataW.trod_slice hu h with ⟨rfl,_⟩|⟨a,len,cap,elems,rest,n',hn',rfl,_,_,hlc,hcm,hel,hE,hS,_⟩
   ·exact ⟨ι,m, [.nils],hR,aW.le_refl ι,Chg.refl m,.cons _ _ _ _ .nils .nil,by simp[Value.oneCell'],.slc hu .nils [] Sl.nil (by simp) (by simp)⟩
   ·have hn':n'=n:=by omega
    subst hn'
    obtain ⟨hrl,hS⟩:=hS rfl
    have go:∀k,k<=len->∃(ι':aW) (m':NH) (C:List (List NV)),Ro P W ι' m'/\ι.le ι'/\Chg [] m m'/\C.length=k/\(∀c∈C,Ty P m' e c/\c.length=P.cellsOf e)/\Cs W ι' a C.flatten:=by
     intro k
     induction k with
     |zero=>intro _;exact ⟨ι,m, [],hR,aW.le_refl ι,Chg.refl m,rfl,by simp,fun j v hv=>by simp at hv⟩
     |succ k ihk=>
      intro hk
      obtain ⟨ι1,m1,C,hR1,hle1,hC1,hlen,hall,hcs⟩:=ihk (by omega)
      have hEk:=hE k (by omega)
      rw[List.getElem?_eq_getElem (by omega)] at hEk
      obtain ⟨cs',h1,h2⟩:=Option.bind_eq_some_iff.mp hEk
      obtain ⟨_,hl',hcell⟩:=World.cells?_some h1
      obtain ⟨ι2,m2,l,hR2,hle2,hC2,hvr,hone,hty⟩:=ih e he cs' _ h2 ι1 m1 hR1
      have hll:=hvr.length
      have hfl:C.flatten.length=k*P.cellsOf e:=by rw[ff fun c hc=>(hall c hc).2,hlen]
      refine ⟨ι2,m2,C++ [l],hR2,hle1.trans hle2,hC1.trans hC2 (fun _ h _=>h),by simp[hlen], ?_, ?_⟩
      ·intro c hc
       rcases List.mem_append.mp hc with hc|hc
       ·exact ⟨(hall c hc).1.grew hC2,(hall c hc).2⟩
       ·simp at hc;subst hc;exact ⟨hty,by omega⟩
      ·intro j v hv
       rw[List.flatten_append] at hv
       by_cases hj:j<C.flatten.length
       ·rw[List.getElem?_append_left hj] at hv
        exact (hcs.mono hle2) j v hv
       ·rw[List.getElem?_append_right (by omega)] at hv
        simp only[List.flatten_cons,List.flatten_nil,List.append_nil] at hv
        obtain ⟨v',h3,h4⟩:=hvr.get hv
        have hjl:j - C.flatten.length<cs'.length:=by
         rcases Nat.lt_or_ge (j - C.flatten.length) cs'.length with q|q
         ·exact q
         ·rw[List.getElem?_eq_none q] at h3;cases h3
        refine ⟨v', ?_,h4,hone v' (List.mem_of_getElem? h3)⟩
        have:=hcell (j - C.flatten.length) (by omega)
        rw[h3] at this
        rw[←this]
        rw[xn]
        congr 2
        omega
    obtain ⟨ι1,m1,C,hR1,hle1,hC1,hlen,hall,hcs⟩:=go len (Nat.le_refl _)
    have hfl:C.flatten.length=len*P.cellsOf e:=by rw[ff fun c hc=>(hall c hc).2,hlen]
    have hend:∀(b o:Nat) (cur:Array Value) (T':TypeId) (fz:Nat×Nat) (c:List NV),W.heap[b]? =some (.cells cur T' fz)->o+c.length<=cur.size->(∀i v,c[i]? =some v->∃v',cur[o+i]? =some v'/\VR ι1 v v'/\v'.oneCell'=true)->
     (0<cap->a=⟨b,o,none⟩/\o+cap*P.cellsOf e<=cur.size)->c=C.flatten->
     ∃ι' m' l,Ro P W ι' m'/\ι.le ι'/\Chg [] m m'/\VRL ι' l [.slice (some a) len cap]/\(∀v∈ [Value.slice (some a) len cap],v.oneCell'=true)/\Ty P m' t l:=by
     rintro b o cur T' fz c hb hoc hcc ha rfl
     obtain ⟨ι2,m2,hR2,hle2,hC2,hi2,hg2,ho2⟩:=hR1.add hb hoc hcc
     refine ⟨ι2,m2, [.slc m1.next 0 len (P.cellsOf e) 0],hR2,hle1.trans hle2,hC1.trans hC2 (fun _ h _=>h),.cons _ _ _ _ (.slc _ _ _ _ _ _ a cap hi2 hlc (Nat.zero_le _) hcm hce fun hc=> ?_) .nil,by simp[Value.oneCell'], ?_⟩
     ·obtain ⟨h1,h2⟩:=ha hc
      exact ⟨h1,by simpa using h2⟩
     ·refine .slc hu _ C ⟨fun c hc=>(hall c hc).2,Or.inr ⟨m1.next,0,0,false,_,by rw[hlen],hg2,ho2, ?_, ?_⟩⟩ (by rw[hlen];omega) fun c hc=>((hall c hc).1).grew hC2
      ·rw[hfl,hlen];omega
      ·rw[List.drop_zero,hlen,←hfl,List.take_length]
    by_cases hcap:cap=0
    ·have hl0:len=0:=by omega
     have hC0:C= []:=List.length_eq_zero_iff.mp (by omega)
     subst hC0
     obtain ⟨b,cur,T',fz,hb⟩:=hne
     exact hend b 0 cur T' fz [] hb (by simp) (fun i v hv=>by simp at hv) (fun h=>by omega) rfl
    ·
     have cells:∀i,i<cap->∃cs',W.cells? 0 (a.add (i*P.cellsOf e)) (P.cellsOf e)=some cs':=by
      intro i hi
      rcases Nat.lt_or_ge i len with h|h
      ·have:=hE i h
       rw[List.getElem?_eq_getElem (by omega)] at this
       obtain ⟨cs',h1,_⟩:=Option.bind_eq_some_iff.mp this
       exact ⟨cs',h1⟩
      ·have:=hS (i - len) (by omega)
       rw[List.getElem?_eq_getElem (by omega),show len+(i - len)=i by omega] at this
       obtain ⟨cs',h1,_⟩:=Option.bind_eq_some_iff.mp this
       exact ⟨cs',h1⟩
     obtain ⟨cs0,h0⟩:=cells 0 (by omega)
     obtain ⟨_,hl0,hc0⟩:=World.cells?_some h0
     have hv0:=hc0 0 hce
     rw[List.getElem?_eq_getElem (by omega)] at hv0
     have hsp:=World.cell?_spot hv0
     obtain ⟨cur,T',fz,hb,_⟩:=oA hv0
     have hab:(a.add (0*P.cellsOf e)).add 0=a:=by rw[xn];simp[Addr.add]
     rw[hab] at hsp hb
     have hin:∀j v',W.cell? (a.add j)=some v'->cur[a.off+j]? =some v':=by
      intro j v' h
      obtain ⟨cur',T2,fz2,hb',hc'⟩:=oA h
      rw[BF] at hb'
      rw[IE] at hc'
      rw[hb] at hb'
      injection hb' with hb'
      injection hb' with hb' _ _
      subst hb'
      exact hc'
     obtain ⟨cs1,h1⟩:=cells (cap - 1) (by omega)
     obtain ⟨_,hl1,hc1⟩:=World.cells?_some h1
     have hv1:=hc1 (P.cellsOf e - 1) (by omega)
     rw[List.getElem?_eq_getElem (by omega)] at hv1
     have hmul:(cap - 1)*P.cellsOf e+P.cellsOf e=cap*P.cellsOf e:=by
      rw[←Nat.succ_mul];congr 1;omega
     have hlast:cur[a.off+(cap*P.cellsOf e - 1)]? =some cs1[P.cellsOf e - 1]:=by
      refine hin (cap*P.cellsOf e - 1) _ ?_
      rw[←hv1]
      rw[xn]
      congr 2
      omega
     have hsz:a.off+(cap*P.cellsOf e - 1)<cur.size:=(Array.getElem?_eq_some_iff.mp hlast).1
     have hcapp:0<cap*P.cellsOf e:=Nat.mul_pos (by omega) hce
     have hlm:len*P.cellsOf e<=cap*P.cellsOf e:=Nat.mul_le_mul_right _ hlc
     refine hend a.block a.off cur T' fz C.flatten hb (by omega) (fun i v hv=> ?_) (fun _=>⟨by cases a;simp at hsp;simp[hsp],by omega⟩) rfl
     obtain ⟨v',q1,q2,q3⟩:=hcs i v hv
     exact ⟨v',hin i v' q1,q2,q3⟩
  ·rename_i fs hu
   rw[Bool.and_eq_true] at hok
   obtain ⟨hft,htl⟩:=hok
   obtain ⟨xs,n',hn',_,hcl,hxl,hF⟩:=DataW.trod_struct hu h
   have hn':n'=n:=by omega
   subst hn'
   have go:∀(fl:List Field) (o:Nat) (ys:List (DataW H×List MemPlace)),(∀f∈fl,f.type∈T)->qd P fl o (P.cellsOf t)=true->o<=cs.length->(∀(i:Nat) (f:Field),fl[i]? =some f->∃y,DataW.trod enc P W 0 (fun _=>true) true n' f.type ((cs.drop f.offset).take (P.cellsOf f.type))=some y)->
    ∀(ι:aW) (m:NH),Ro P W ι m->∃ι' m' l,Ro P W ι' m'/\ι.le ι'/\Chg [] m m'/\VRL ι' l (cs.drop o)/\(∀v∈cs.drop o,v.oneCell'=true)/\TyL P m' (fl.map (·.type)) l:=by
    intro fl
    induction fl with
    |nil=>
     intro o ys _ htl _ _ ι m hR
     have ho:o=cs.length:=by rw[hcl];exact of_decide_eq_true htl
     subst ho
     rw[List.drop_length]
     exact ⟨ι,m, [],hR,aW.le_refl ι,Chg.refl m,.nil,by simp,.nil⟩
    |cons f fl ihf=>
     intro o ys hfT htl ho hF ι m hR
     have htl:((f.offset==o)&&qd P fl (o+P.cellsOf f.type) (P.cellsOf t))=true:=htl
     rw[Bool.and_eq_true,beq_iff_eq] at htl
     obtain ⟨rfl,htl⟩:=htl
     obtain ⟨y,hy⟩:=hF 0 f rfl
     obtain ⟨ι1,m1,l1,hR1,hle1,hC1,hvr1,hone1,hty1⟩:=ih f.type (hfT f (List.mem_cons_self ..)) _ y hy ι m hR
     have hle:f.offset+P.cellsOf f.type<=cs.length:=by
      have:∀(fl:List Field) (o:Nat),qd P fl o (P.cellsOf t)=true->o<=P.cellsOf t:=by
       intro fl
       induction fl with
       |nil=>intro o h;exact Nat.le_of_eq (of_decide_eq_true h)
       |cons g fl ih=>
        intro o h
        have h:((g.offset==o)&&qd P fl (o+P.cellsOf g.type) (P.cellsOf t))=true:=h
        rw[Bool.and_eq_true] at h
        have:=ih _ h.2
        omega
      have:=this fl _ htl
      omega
     obtain ⟨ι2,m2,l2,hR2,hle2,hC2,hvr2,hone2,hty2⟩:=ihf (f.offset+P.cellsOf f.type) [] (fun g hg=>hfT g (List.mem_cons_of_mem _ hg)) htl hle (fun i g hg=>hF (i+1) g (by simpa using hg)) ι1 m1 hR1
     have hsplit:cs.drop f.offset=(cs.drop f.offset).take (P.cellsOf f.type)++cs.drop (f.offset+P.cellsOf f.type):=by
      rw[←List.drop_drop,List.take_append_drop]
     refine ⟨ι2,m2,l1++l2,hR2,hle1.trans hle2,hC1.trans hC2 (fun _ h _=>h), ?_, ?_,.cons l1 l2 (hty1.grew hC2) hty2⟩
     ·rw[hsplit];exact VRL.append (hvr1.mono hle2) hvr2
     ·rw[hsplit];intro v hv
      rcases List.mem_append.mp hv with hv|hv
      ·exact hone1 v hv
      ·exact hone2 v hv
   obtain ⟨ι',m',l,h1,h2,h3,h4,h5,h6⟩:=go fs.toList 0 [] (fun f hf=>by simpa using List.all_eq_true.mp hft f hf) htl (Nat.zero_le _) (fun i f hf=>by
    have hi:i<xs.length:=by
     rcases Nat.lt_or_ge i fs.toList.length with q|q
     ·rw[hxl];simpa using q
     ·rw[List.getElem?_eq_none q] at hf;cases hf
    exact ⟨xs[i],by rw[hF i f (by simpa using hf),List.getElem?_eq_getElem hi]⟩) ι m hR
   rw[List.drop_zero] at h4 h5
   exact ⟨ι',m',l,h1,h2,h3,h4,h5,.struct hu l h6⟩
  ·cases hok
inductive TyA (P:Program) (m:NH):List TypeId->List NV->Prop
 |nil:TyA P m [] []
 |one {t:TypeId} {ts:List TypeId} {l:List NV} (x:NV) (hn:∀fs,P.underlying t≠some (.struct fs)) (h:Ty P m t [x]) (hl:TyA P m ts l):TyA P m (t::ts) (x::l)
 |agg {t:TypeId} {ts:List TypeId} {l:List NV} {fs:Array Field} (c:List NV) (ht:P.underlying t=some (.struct fs)) (h:Ty P m t c) (hl:TyA P m ts l):TyA P m (t::ts) (.agg c::l)
omit [Val] in
theorem TyA.grew {P:Program} {m m':NH} (hC:Chg [] m m'):∀{ts:List TypeId} {l:List NV},TyA P m ts l->TyA P m' ts l
 |_,_,.nil=> .nil
 |_,_,.one x hn h hl=> .one x hn (h.grew hC) (TyA.grew hC hl)
 |_,_,.agg c ht h hl=> .agg c ht (h.grew hC) (TyA.grew hC hl)
omit [Val] in
theorem z7 {P:Program} {W:World} {base:Nat} {t:TypeId} {v:Value} (hok:∀fs,P.underlying t≠some (.struct fs)) (h:Value.okWide P W .any base t v) (ht:jX P [] t=true∨∃e,P.underlying t=some (.slice e)):v.cells=#[v]:=by
 unfold Value.okWide at h
 rcases ht with ht|⟨e,hu⟩
 ·unfold jX at ht
  split at ht
  ·rename_i hu;rw[hu] at h;unfold Cell.okWide Cell.ok at h;rw[hu] at h;dsimp only at h;cases v<;>first|rfl|exact h.elim
  ·rename_i hu;rw[hu] at h;unfold Cell.okWide Cell.ok at h;rw[hu] at h;dsimp only at h;cases v<;>first|rfl|exact h.elim
  ·rename_i hu;rw[hu] at h;unfold Cell.okWide Cell.ok at h;rw[hu] at h;dsimp only at h;cases v<;>first|rfl|exact h.elim
  ·rename_i e hu;rw[hu] at h;unfold Cell.okWide Cell.ok at h;rw[hu] at h;dsimp only at h;cases v<;>first|rfl|exact h.elim
  ·rename_i fs hu;exact absurd hu (hok fs)
  ·cases ht
 ·rw[hu] at h;unfold Cell.okWide Cell.ok at h;rw[hu] at h;dsimp only at h;cases v<;>first|rfl|exact h.elim
theorem Aa {P:Program} {W:World} {T:List TypeId} (hT:yS P T=true) (hne:∃(b:Nat) (cur:Array Value) (T:TypeId) (fz:Nat×Nat),W.heap[b]? =some (.cells cur T fz)) {base:Nat} {H:Type} {enc:TypeId×Value->H}:
 ∀(ts:List TypeId) (args:List Value) (ds:List (DataW H)) (ps:List MemPlace),(∀t∈ts,t∈T)->DataW.TrodAll enc P W 0 (fun _=>true) true ts args ds ps->(∀(j:Nat) t v,ts[j]? =some t->args[j]? =some v->Value.okWide P W .any base t v)->
 ∀(ι:aW) (m:NH),Ro P W ι m->∃ι' m' l,Ro P W ι' m'/\ι.le ι'/\Chg [] m m'/\VRL ι' l args/\TyA P m' ts l:=by
 intro ts
 induction ts with
 |nil=>
  intro args ds ps _ h _ ι m hR
  cases args with
  |nil=>exact ⟨ι,m, [],hR,aW.le_refl ι,Chg.refl m,.nil,.nil⟩
  |cons=>cases h
 |cons t ts ih=>
  intro args ds ps hts h hval ι m hR
  cases args with
  |nil=>cases h
  |cons v args=>
   cases ds with
   |nil=>cases h
   |cons d ds=>
    obtain ⟨p,q,⟨n,hd⟩,hr,_⟩:=h
    obtain ⟨ι1,m1,c,hR1,hle1,hC1,hv1,hone1,hty1⟩:=FV hT hne n t (hts t (List.mem_cons_self ..)) _ _ hd ι m hR
    obtain ⟨ι2,m2,l,hR2,hle2,hC2,hv2,hty2⟩:=ih args ds q (fun t ht=>hts t (List.mem_cons_of_mem _ ht)) hr (fun j t v h1 h2=>hval (j+1) t v (by simpa using h1) (by simpa using h2)) ι1 m1 hR1
    have hv:=hval 0 t v rfl rfl
    have hok:jX P T t=true:=List.all_eq_true.mp hT t (hts t (List.mem_cons_self ..))
    have hC:=hC1.trans hC2 (fun _ h _=>h)
    by_cases hst:∃fs,P.underlying t=some (.struct fs)
    ·obtain ⟨fs,hu⟩:=hst
     have hv':=hv
     unfold Value.okWide at hv'
     rw[hu] at hv'
     obtain ⟨cs,rfl,_,_⟩:=hv'
     refine ⟨ι2,m2,.agg c::l,hR2,hle1.trans hle2,hC,.cons _ _ _ _ ?_ hv2,.agg c hu (hty1.grew hC2) hty2⟩
     have:=VR.agg (ι:=ι2) c cs.toList (hv1.mono hle2) hone1
     simpa using this
    ·have hn:∀fs,P.underlying t≠some (.struct fs):=fun fs q=>hst ⟨fs,q⟩
     have hc:v.cells=#[v]:=by
      refine z7 hn hv ?_
      unfold jX at hok ⊢
      split at hok
      ·rename_i hu;exact Or.inl rfl
      ·rename_i hu;exact Or.inl rfl
      ·rename_i hu;exact Or.inl rfl
      ·rename_i e hu;exact Or.inr ⟨e,hu⟩
      ·rename_i fs hu;exact absurd hu (hn fs)
      ·cases hok
     rw[hc] at hv1
     cases hv1 with
     |cons x _ xl _ hx hxl=>
      cases hxl
      exact ⟨ι2,m2,x::l,hR2,hle1.trans hle2,hC,.cons _ _ _ _ (hx.mono hle2) hv2,.one x hn (hty1.grew hC2) hty2⟩
theorem zo {P:Program} (hM:P.follows .mixedOrders=true) (hP:P.check= .ok ()) {S:Nat->List NV->Option NV} (hS:kD P S) {T:List TypeId} (hT:yS P T=true) {f:Nat} {nf:NFun} (hf:aD P f=some (.code nf)) (hs:∀l,S f l=none) {ts:List TypeId} (hts:∀t∈ts,t∈T)
 (law:∀(m:NH) (l:List NV),TyA P m ts l->∃m',bI P S f l m (.bool true) m') {W:World} (hne:∃(b:Nat) (cur:Array Value) (T:TypeId) (fz:Nat×Nat),W.heap[b]? =some (.cells cur T fz)) {base:Nat} {H:Type} {enc:TypeId×Value->H} {args:List Value} {ds:List (DataW H)} {ps:List MemPlace}
 (h:DataW.TrodAll enc P W 0 (fun _=>true) true ts args ds ps) (hval:∀(j:Nat) t v,ts[j]? =some t->args[j]? =some v->Value.okWide P W .any base t v):
 Calls P f args.toArray W fun e W'=>e= .returned (.bool true)/\Below W.heap.size W W':=by
 obtain ⟨ι,m,l,hR,_,_,hv,hty⟩:=Aa hT hne ts args ds ps hts h hval ι0 ⟨.leaf,.e⟩ (Ro.nil P W)
 obtain ⟨m',c,hc⟩:=law m l hty
 refine (A6 hM hP hS hf (hs l) hc hR.1 hR.2 hv).mono ?_
 rintro e W' ⟨⟨ι',v',rfl,h1,_,_⟩,hb⟩
 cases h1
 exact ⟨rfl,hb⟩
omit [Val] in
theorem pq {P:Program} (hl:laidOutB P=true) {W W':World} (hb:Below W.heap.size W W') {H:Type} {enc:TypeId×Value->H} {sp:Nat->Bool}:∀(ts:List TypeId) (args:List Value) (ds:List (DataW H)) (ps:List MemPlace),(∀t∈ts,P.readableRec t=true/\t<P.types.size)->
 DataW.TrodAll enc P W 0 (fun _=>true) true ts args ds ps->(∀p∈ps,p.block<W.heap.size)->(∀p∈ps,sp p.block=true)->DataW.TrodAll enc P W' 0 sp true ts args ds ps:=by
 intro ts
 induction ts with
 |nil=>
  intro args ds ps _ h _ _
  cases args with
  |nil=>cases ds with
   |nil=>exact h
   |cons=>cases h
  |cons=>cases h
 |cons t ts ih=>
  intro args ds ps hr h hlt hsp
  cases args with
  |nil=>cases h
  |cons v args=>
   cases ds with
   |nil=>cases h
   |cons d ds=>
    obtain ⟨p,q,hd,hq,rfl⟩:=h
    exact ⟨p,q,WideElems.Trod_stays hl (hr t (List.mem_cons_self ..)).1 (hr t (List.mem_cons_self ..)).2 hd (fun x hx=>hb.same (hlt x (List.mem_append_left _ hx))) (fun x hx=>hsp x (List.mem_append_left _ hx)),
     ih args ds q (fun t ht=>hr t (List.mem_cons_of_mem _ ht)) hq (fun x hx=>hlt x (List.mem_append_right _ hx)) (fun x hx=>hsp x (List.mem_append_right _ hx)),rfl⟩
omit [Val] in
theorem Ty.inv_int {P:Program} {m:NH} {t:TypeId} {k:IntKind} {l:List NV} (hu:P.underlying t=some (.int k)) (h:Ty P m t l):∃n,l= [.int k (.lit n)]/\(Lit.int k n).wf=true:=by
 cases h with
 |bool ht=>rw[hu] at ht;cases ht
 |int ht n h=>rw[hu] at ht;injection ht with ht;injection ht with ht;subst ht;exact ⟨n,rfl,h⟩
 |str ht=>rw[hu] at ht;cases ht
 |slc ht=>rw[hu] at ht;cases ht
 |struct ht=>rw[hu] at ht;cases ht
omit [Val] in
theorem Ty.inv_slc {P:Program} {m:NH} {t e:TypeId} {l:List NV} (hu:P.underlying t=some (.slice e)) (h:Ty P m t l):∃v C,l= [v]/\Sl m v (P.cellsOf e) C/\C.length<=maxLen/\∀c∈C,Ty P m e c:=by
 cases h with
 |bool ht=>rw[hu] at ht;cases ht
 |int ht=>rw[hu] at ht;cases ht
 |str ht=>rw[hu] at ht;cases ht
 |slc ht v C hS hl h=>rw[hu] at ht;injection ht with ht;injection ht with ht;subst ht;exact ⟨v,C,rfl,hS,hl,h⟩
 |struct ht=>rw[hu] at ht;cases ht
omit [Val] in
theorem TyL.inv {P:Program} {m:NH} {t:TypeId} {ts:List TypeId} {l:List NV} (h:TyL P m (t::ts) l):∃a b,l=a++b/\Ty P m t a/\TyL P m ts b:=by
 cases h with
 |cons a b h hl=>exact ⟨a,b,rfl,h,hl⟩
omit [Val] in
theorem TyL.inv0 {P:Program} {m:NH} {l:List NV} (h:TyL P m [] l):l= []:=by cases h;rfl
omit [Val] in
theorem TyA.inv1 {P:Program} {m:NH} {t:TypeId} {ts:List TypeId} {l:List NV} (hn:∀fs,P.underlying t≠some (.struct fs)) (h:TyA P m (t::ts) l):∃x r,l=x::r/\Ty P m t [x]/\TyA P m ts r:=by
 cases h with
 |one x _ h hl=>exact ⟨x,_,rfl,h,hl⟩
 |agg c ht=>exact absurd ht (hn _)
omit [Val] in
theorem TyA.inv0 {P:Program} {m:NH} {l:List NV} (h:TyA P m [] l):l= []:=by cases h;rfl
omit [Val] in
theorem bI.kept {P:Program} {S:Nat->List NV->Option NV} {f:Nat} {args:List NV} {v:NV} (h:S f args=some v) (m:NH):bI P S f args m v m:=by
 refine ⟨none,by simp,0, ?_⟩
 unfold cm;rw[h]
omit [Val] in
theorem sr {P:Program} {W:World} {base:Nat} {sp:Nat->Bool} {hd:Bool} {H:Type} {enc:TypeId×Value->H}:∀{ts:List TypeId} {vs:List Value} {ds:List (DataW H)} {ps:List MemPlace},DataW.TrodAll enc P W base sp hd ts vs ds ps->ds.length=ts.length:=by
 intro ts
 induction ts with
 |nil=>intro vs ds ps h;cases vs<;>cases ds<;>first|rfl|cases h
 |cons t ts ih=>
  intro vs ds ps h
  cases vs with
  |nil=>cases h
  |cons v vs=>cases ds with
   |nil=>cases h
   |cons d ds=>obtain ⟨_,_,_,h,_⟩:=h;simp[ih h]
def MY (o:Option Obj):Bool:=match o with|some (.cells _ _ _)=>true|_=>false
omit [Val] in
theorem uq {P:Program} (h:MY ((begin P (fun _ _=>0) default).world.heap[P.globals.size]?)=true) {W:World} (hs:W.ShapedOpen P):∃(b:Nat) (cur:Array Value) (T:TypeId) (fz:Nat×Nat),W.heap[b]? =some (.cells cur T fz):=by
 cases ho:(begin P (fun _ _=>0) default).world.heap[P.globals.size]? with
 |none=>rw[ho] at h;cases h
 |some x=>
  rw[ho] at h
  have hlt:P.globals.size<(begin P (fun _ _=>0) default).world.heap.size:=(Array.getElem?_eq_some_iff.mp ho).1
  obtain ⟨o,o0,h1,h2,h3⟩:=hs.2 _ (Nat.le_refl _) hlt
  rw[Nat.sub_self,if_neg (by decide)] at h3
  rw[ho] at h2
  injection h2 with h2
  subst h2 h3
  cases o with
  |cells cur T fz=>exact ⟨_,cur,T,fz,h1⟩
  |_=>cases h
end
end Nm
set_option linter.defProp false
namespace Nm
open Go Go.RowKit
attribute [go_sem] G2 JB GH J8 J1 Ht qJ KW Hx IY E0 HK Ib FQ Eq Hi E5 Md Jg K5
attribute [go_sem] Mo Jl KG GO KF JN G0 Il Li E3 Ep MU LE Ba LM MJ
attribute [go_sem] Io BY FP EJ EC Hy Ix Eo Fs DZ El DS Cj B1
attribute [go_sem] Gd Fb CD F7 FT Bool.and_true Bool.true_and Jy Ld Gb FI It Mx LH MN L7 LO
attribute [go_sem] LG Ly LS L9 Mn LY LL MD LX MP L8 Ml Mi LW LN Mg LC LI Mf MI
attribute [go_sem] Mj LD MQ GF Ij KA MB KC Je KH Kj J0 Bj AA IB Im Jm Fg EQ
attribute [go_sem] GN BR C8 LP JJ Js EF FU Lx JL z4 CZ Fo Iu GZ Ek KS J4 H3
attribute [go_sem] Ky He JU G6 FO KR JS ID HU HW H7 Dj
attribute [go_sem] KO Dz Id Kd Gs A3 BN HE JK IT Hb JY Lc K3 HO JE HC KL ML KB
attribute [go_sem] Kb Lf J5 Jv J7 K4 JT Jz Kk BI Kn Kx GQ Ik Mm Kt Jh
attribute [go_sem] EG EW F3 Kq K9 Mt Lk Lz KK LQ Jj IL Nat.sub_self Nat.sub_zero K6 Iz Kv JX
attribute [go_sem] wz EU JQ J6 Jo Jx Mh FE Ej Iw Ke G5 KP H5 HZ
attribute [go_sem] L0 tJ IN G3 ax aQ HN qD Bx Bc B8 tG ay bc Hg KE Ko
attribute [go_sem] K2 KI K1 Kr Bool.not_true Bool.not_false GJ GW Int.toNat_natCast Int.toNat_zero Int.toNat_one
attribute [go_sem] List.getElem?_cons_zero List.getElem?_cons_succ List.length_cons List.length_nil List.set_cons_zero List.set_cons_succ List.take_zero List.drop_zero List.take_succ_cons List.drop_succ_cons List.take_nil List.drop_nil List.nil_append List.cons_append List.append_nil Nat.zero_add Nat.zero_mul Nat.testBit cond_true cond_false
attribute [go_sem] NT.get_leaf HD FC aj beq_self_eq_true decide_true decide_false if_true if_false ite_true ite_false eq_self true_and and_true true_implies
noncomputable def ao:=And.intro (@List.length_set.{0})<|And.intro (@List.length_cons.{0})<|And.intro (@List.length_nil.{0})<|And.intro (@List.length_append.{0})<|And.intro (@List.length_map.{0,0})<|@List.length_replicate.{0}
namespace C
abbrev t (a:D4):NOpd:= .tmp a
abbrev k (z:Int):NOpd:= .const (.int .i64 (.lit z))
abbrev kb (z:Int):NOpd:= .const (.int .u8 (.lit z))
abbrev ku (z:Int):NOpd:= .const (.int .u64 (.lit z))
abbrev kt:NOpd:= .const (.bool true)
abbrev kf:NOpd:= .const (.bool false)
abbrev kn:NOpd:= .const .nils
abbrev F (n:Nat):NOpd:= .const (.fn n [])
abbrev o (d:D4) (p:NOp) (i:Nat):NOper:=⟨some d,p,none,0,i⟩
abbrev O (d:D4) (p:NOp) (q i:Nat):NOper:=⟨some d,p,none,q,i⟩
abbrev G (d:D4) (p:NOp) (g:D4) (b:Bool) (i:Nat):NOper:=⟨some d,p,some (g,b),0,i⟩
abbrev m (d s:D4) (i:Nat):NOper:=⟨some d,.move (.tmp s),none,0,i⟩
abbrev f (n:Nat) (d s:D4) (i:Nat):NOper:=⟨some d,.fieldAddr n (.tmp s),none,0,i⟩
abbrev l (d s:D4) (i:Nat):NOper:=⟨some d,.load1 (.tmp s),none,0,i⟩
abbrev L (d s:D4) (i:Nat):NOper:=⟨some d,.lenSlc (.tmp s),none,0,i⟩
abbrev n (d s:D4) (i:Nat):NOper:=⟨some d,.nilCheck (.tmp s),none,0,i⟩
abbrev x (d s:D4) (j i:Nat):NOper:=⟨some d,.extract (.tmp s) j,none,0,i⟩
abbrev q (p:NOp) (i:Nat):NOper:=⟨none,p,none,0,i⟩
abbrev b (d:D4) (p:BinOp) (a c:NOpd) (i:Nat):NOper:=⟨some d,.bin .num p a c,none,0,i⟩
end C
end Nm
