/- A machine that runs the given program with memory and order of evaluation taken apart from the model's, the proof that what it answers is what the model answers, and rules to reason of its runs. Part 4 of 4. -/
import Derived.WideKeyArgs
import Derived.Carry
import Derived.ChangeArms
import Derived.HandedShaped
import Derived.Test.YtcpilcplobihkaaLomC
namespace Nm
open Go Go.RowKit
def ids:NV->List D4
 | .slc id _ _ _ _=> [id]
 |_=> []
def Sl (m:NH) (v:NV) (e:Nat) (C:List (List NV)):Prop:=(∀x∈C,x.length=e)/\((v= .nils/\C= [])∨
 ∃id off kc w c,v= .slc id off C.length e kc/\m.get id=some (.cells w c)/\ay m id/\off+C.length*e<=c.length/\(c.drop off).take (C.length*e)=C.flatten)
def bz (B m:NH) (v:NV) (e:Nat) (C:List (List NV)):Prop:=(∀x∈C,x.length=e)/\((v= .nils/\C= [])∨
 ∃id off kc c,v= .slc id off C.length e kc/\¬ay B id/\m.get id=some (.cells true c)/\ay m id/\off+C.length*e<=c.length/\off+kc*e<=c.length/\(c.drop off).take (C.length*e)=C.flatten)
theorem fg {e:Nat} {C:List (List NV)} (h:∀x∈C,x.length=e):C.flatten.length=C.length*e:=by
 induction C with
 |nil=>simp
 |cons a C ih=>
  rw[List.flatten_cons,List.length_append,h a (List.mem_cons_self ..),ih fun x hx=>h x (List.mem_cons_of_mem _ hx),List.length_cons,Nat.succ_mul]
  omega
theorem BX {e:Nat}:∀{C:List (List NV)} (_:∀x∈C,x.length=e) (i:Nat) (hi:i<C.length),(C.flatten.drop (i*e)).take e=C[i]:=by
 intro C
 induction C with
 |nil=>intro _ i hi;simp at hi
 |cons a C ih=>
  intro h i hi
  have ha:=h a (List.mem_cons_self ..)
  cases i with
  |zero=>
   rw[Nat.zero_mul,List.drop_zero,List.flatten_cons,List.take_append,ha,Nat.sub_self,List.take_zero,List.append_nil,←ha]
   simp
  |succ i=>
   rw[List.flatten_cons,List.drop_append,Nat.succ_mul,List.drop_eq_nil_of_le (by omega),List.nil_append,ha,Nat.add_sub_cancel]
   exact ih (fun x hx=>h x (List.mem_cons_of_mem _ hx)) i (by simpa using hi)
theorem bz.sl {B m:NH} {v:NV} {e:Nat} {C:List (List NV)} (h:bz B m v e C):Sl m v e C:=by
 obtain ⟨h0,h|⟨id,off,kc,c,h1,_,h2,h3,h4,_,h5⟩⟩:=h
 ·exact ⟨h0,Or.inl h⟩
 ·exact ⟨h0,Or.inr ⟨id,off,kc,true,c,h1,h2,h3,h4,h5⟩⟩
section
variable {m:NH} {v:NV} {e:Nat} {C:List (List NV)}
theorem Sl.len (h:Sl m v e C):CO v= .val (.int .i64 (.lit (C.length:Int))):=by
 obtain ⟨_,⟨rfl,rfl⟩|⟨id,off,kc,w,c,rfl,_⟩⟩:=h<;>rfl
theorem Sl.one (h:Sl m v e C):cellsOf v=some [v]:=by
 obtain ⟨_,⟨rfl,rfl⟩|⟨id,off,kc,w,c,rfl,_⟩⟩:=h<;>rfl
theorem zA {c:List NV} {off n e:Nat} (h:∀x∈C,x.length=e) (hn:C.length=n) (hc:off+n*e<=c.length) (hf:(c.drop off).take (n*e)=C.flatten) (i:Nat) (hi:i<C.length):
 off+i*e+e<=c.length/\(c.drop (off+i*e)).take e=C[i]:=by
 subst hn
 have h1:i*e+e<=C.length*e:=by rw[←Nat.succ_mul];exact Nat.mul_le_mul_right e hi
 refine ⟨by omega, ?_⟩
 rw[←BX h i hi,←hf,List.drop_take,List.take_take,List.drop_drop,Nat.min_eq_left (by omega)]
theorem Sl.at (h:Sl m v e C) (i:Nat) (hi:i<C.length):∃id off w c,jw e v (.int .i64 (.lit (i:Int)))= .val (.ptr id off)/\m.get id=some (.cells w c)/\ay m id/\off+e<=c.length/\(c.drop off).take e=C[i]:=by
 obtain ⟨h0,⟨rfl,rfl⟩|⟨id,off,kc,w,c,rfl,h1,h2,h3,h4⟩⟩:=h
 ·simp at hi
 ·obtain ⟨h5,h6⟩:=zA h0 rfl h3 h4 i hi
  exact ⟨id,off+i*e,w,c,Eg (by omega) (by omega),h1,h2,h5,h6⟩
theorem Sl.chg {T:List D4} {m':NH} (h:Sl m v e C) (hc:Chg T m m') (ht:∀id∈ids v,id∉T):Sl m' v e C:=by
 obtain ⟨h0,⟨rfl,rfl⟩|⟨id,off,kc,w,c,rfl,h1,h2,h3,h4⟩⟩:=h
 ·exact ⟨h0,Or.inl ⟨rfl,rfl⟩⟩
 ·exact ⟨h0,Or.inr ⟨id,off,kc,w,c,rfl,(hc.get h2 (ht id (List.mem_cons_self ..))).trans h1,hc.old h2,h3,h4⟩⟩
theorem Sl.grew {m':NH} (h:Sl m v e C) (hc:Chg [] m m'):Sl m' v e C:=h.chg hc fun _ _=>List.not_mem_nil
theorem Sl.old (h:Sl m v e C):∀id∈ids v,ay m id:=by
 obtain ⟨h0,⟨rfl,rfl⟩|⟨id,off,kc,w,c,rfl,h1,h2,h3,h4⟩⟩:=h
 ·intro id hid;simp[ids] at hid
 ·intro i hi;simp[ids] at hi;rw[hi];exact h2
theorem bz.chg {B m:NH} {T:List D4} {m':NH} (h:bz B m v e C) (hc:Chg T m m') (ht:∀id∈ids v,id∉T):bz B m' v e C:=by
 obtain ⟨h0,⟨rfl,rfl⟩|⟨id,off,kc,c,rfl,hb,h1,h2,h3,h4⟩⟩:=h
 ·exact ⟨h0,Or.inl ⟨rfl,rfl⟩⟩
 ·exact ⟨h0,Or.inr ⟨id,off,kc,c,rfl,hb,(hc.get h2 (ht id (List.mem_cons_self ..))).trans h1,hc.old h2,h3,h4⟩⟩
theorem bz.new {B m:NH} (h:bz B m v e C):∀id∈ids v,¬ay B id:=by
 obtain ⟨h0,⟨rfl,rfl⟩|⟨id,off,kc,c,rfl,hb,h1,h2,h3,h4⟩⟩:=h
 ·intro id hid;simp[ids] at hid
 ·intro i hi;simp[ids] at hi;rw[hi];exact hb
theorem bz.nil {B m:NH}:bz B m .nils e []:=⟨fun x hx=>by simp at hx,Or.inl ⟨rfl,rfl⟩⟩
theorem Sl.nil:Sl m .nils e []:=⟨fun x hx=>by simp at hx,Or.inl ⟨rfl,rfl⟩⟩
theorem bz.of {B m:NH} {id:D4} {n k:Nat} {c:List NV} (h:∀x∈C,x.length=e) (hb:¬ay B id) (hg:m.get id=some (.cells true c)) (ho:ay m id) (hc:c=C.flatten) (hn:n=C.length) (hk:k=C.length):bz B m (.slc id 0 n e k) e C:=by
 subst hn hk hc
 have hl:=fg h
 exact ⟨h,Or.inr ⟨id,0,_,_,rfl,hb,hg,ho,by omega,by omega,by rw[List.drop_zero,←hl,List.take_length]⟩⟩
theorem bz.back {B B' m:NH} (h:bz B m v e C) (hb:∀id,ay B' id->ay B id):bz B' m v e C:=by
 obtain ⟨h0,⟨rfl,rfl⟩|⟨id,off,kc,c,rfl,hb',h1,h2,h3,h4⟩⟩:=h
 ·exact ⟨h0,Or.inl ⟨rfl,rfl⟩⟩
 ·exact ⟨h0,Or.inr ⟨id,off,kc,c,rfl,fun q=>hb' (hb _ q),h1,h2,h3,h4⟩⟩
theorem qi {n:Nat} {x:NV} {D:List (List NV)} (h:Sl m x n D) {K:Nat->List NV->NR}:fi n m x K=K D.length D.flatten:=by
 obtain ⟨h0,⟨rfl,rfl⟩|⟨id,off,kc,w,c,rfl,h1,h2,h3,h4⟩⟩:=h
 ·rfl
 ·show cond (Nat.beq n n) (bU m id fun c=>aS (fu c off (Nat.mul D.length n)) fun l=>K D.length l) .fail=_
  rw[Nat.beq_refl]
  show bU m id (fun c=>aS (fu c off (Nat.mul D.length n)) fun l=>K D.length l)=_
  unfold bU
  rw[h1]
  show aS (fu c off (D.length*n)) (fun l=>K D.length l)=_
  rw[gF,if_pos h3,h4];rfl
theorem Chg.put (m:NH) (id:D4) (o:NO):Chg [id] m (m.put id o):=
 ⟨Nat.le_refl _,fun {i} _ hn=>NH.get_put_ne m o (by simpa using hn)⟩
theorem ay.next_ne {m:NH} {i:D4} (h:ay m i):i≠m.next:=by
 intro e;rw[e] at h;exact Nat.lt_irrefl _ h
theorem Chg.add (m:NH) (o:NO):Chg [] m (m.add o):=
 ⟨by show m.next.toNat<=m.next.nxt.toNat;rw[D4.toNat_nxt];omega,fun {i} ho _=>NH.get_add_ne m o ho.next_ne⟩
theorem jh (m:NH) (o:NO):ay (m.add o) m.next:=by
 show m.next.toNat<m.next.nxt.toNat;rw[D4.toNat_nxt];omega
theorem Af {n bytes:Nat} (h:n*bytes<=1099511627776) (h':n<=1099511627776):room n bytes=true:=by
 unfold room
 rw[show Nat.ble (Nat.mul n bytes) 1099511627776=true from Nat.ble_eq_true_of_le h,show Nat.ble n 1099511627776=true from Nat.ble_eq_true_of_le h']
 rfl
theorem bz.app {B:NH} {x:NV} {D:List (List NV)} {bytes:Nat} (hv:bz B m v e C) (hx:Sl m x e D) (hD:D≠ []) (hB:∀id,ay B id->ay m id) (hr:(C.length+D.length)*bytes<=1099511627776) (hr':C.length+D.length<=1099511627776):
 ∃v' m',ES e bytes m v x= .mem v' m'/\bz B m' v' e (C++D)/\Chg (ids v) m m':=by
 unfold ES
 rw[qi hx]
 have hDl:∀y∈D,y.length=e:=hx.1
 have hDp:0<D.length:=List.length_pos_iff.mpr hD
 obtain ⟨k,hk⟩:∃k,D.length=k+1:=⟨D.length - 1,by omega⟩
 have hall:∀y∈C++D,y.length=e:=fun y hy=>(List.mem_append.mp hy).elim (hv.1 y) (hDl y)
 have hnext:¬ay B m.next:=fun q=>Nat.lt_irrefl _ (hB _ q)
 obtain ⟨h0,⟨rfl,rfl⟩|⟨id,off,kc,c,rfl,hb,h1,h2,h3,h3',h4⟩⟩:=hv
 ·refine ⟨.slc m.next 0 D.length e D.length,m.add (.cells true D.flatten), ?_, ?_,Chg.add m _⟩
  ·show Nat.rec (motive:=fun _=>NR) (.val .nils) (fun _ _=>cond (room D.length bytes) (m.new (.cells true D.flatten) fun id h=> .mem (.slc id 0 D.length e D.length) h) .fail) D.length=_
   rw[Af (by simpa using hr) (by simpa using hr'),NH.new_eq,hk];rfl
  ·exact bz.of hall hnext (NH.get_add_same m _) (jh m _) (by simp) (by simp) (by simp)
 ·have e1:eU e bytes m (.slc id off C.length e kc) D.length D.flatten=(cond (Nat.ble (C.length+D.length) kc)
   (aS (dr D.flatten (off+C.length*e) c) fun c=>m.set id (.cells true c) fun h=> .mem (.slc id off (C.length+D.length) e kc) h)
   (aS (dk off c) fun c=>aS (gw (C.length*e) c) fun old=>cond (room (C.length+D.length) bytes)
    (ip old D.flatten fun l=>m.set id .dead fun h=>h.new (.cells true l) fun id h=> .mem (.slc id 0 (C.length+D.length) e (C.length+D.length)) h) .fail)):=by
   show cond (Nat.beq e e) (Nat.rec (motive:=fun _=>NR) (.val (.slc id off C.length e kc)) (fun _ _=>d9 m id fun c=>aw (Nat.add C.length D.length) fun n=>cond (Nat.ble n kc)
    (aS (dr D.flatten (Nat.add off (Nat.mul C.length e)) c) fun c=>m.set id (.cells true c) fun h=> .mem (.slc id off n e kc) h)
    (aS (dk off c) fun c=>aS (gw (Nat.mul C.length e) c) fun old=>cond (room n bytes)
     (ip old D.flatten fun l=>m.set id .dead fun h=>h.new (.cells true l) fun id h=> .mem (.slc id 0 n e n) h) .fail)) D.length) .fail=_
   rw[Nat.beq_refl,hk]
   show d9 m id _=_
   unfold d9
   rw[h1]
   show aw (C.length+(k+1)) _=_
   rw[ae]
   rfl
  rw[e1]
  have fl:=fg hDl
  have fc:=fg h0
  cases hle:Nat.ble (C.length+D.length) kc with
  |true=>
   have hle:=Nat.le_of_ble_eq_true hle
   have hm:C.length*e+D.length*e<=kc*e:=by rw[←Nat.add_mul];exact Nat.mul_le_mul_right e hle
   refine ⟨.slc id off (C.length+D.length) e kc,m.put id (.cells true (c.take (off+C.length*e)++D.flatten++c.drop (off+C.length*e+D.flatten.length))), ?_, ?_,Chg.put m id _⟩
   ·show aS (dr D.flatten (off+C.length*e) c) _=_
    rw[ez,if_pos (by omega)]
    show m.set id _ _=_
    rw[NH.set_eq]
   ·refine ⟨hall,Or.inr ⟨id,off,kc,_,by rw[List.length_append],hb,NH.get_put_same m id _,h2, ?_, ?_, ?_⟩⟩
    ·simp only[List.length_append,List.length_take,List.length_drop,Nat.add_mul];omega
    ·simp only[List.length_append,List.length_take,List.length_drop];omega
    ·have e3:c.take (off+C.length*e)=c.take off++C.flatten:=by rw[List.take_add,h4]
     have e4:(c.take off).length=off:=by rw[List.length_take];omega
     have e5:(c.take off++C.flatten++D.flatten++c.drop (off+C.length*e+D.flatten.length)).drop off=C.flatten++D.flatten++c.drop (off+C.length*e+D.flatten.length):=by
      rw[List.append_assoc,List.append_assoc]
      have:=List.drop_left (l₁:=c.take off) (l₂:=C.flatten++(D.flatten++c.drop (off+C.length*e+D.flatten.length)))
      rw[e4] at this
      rw[this,List.append_assoc]
     rw[e3,e5,List.flatten_append,List.length_append,Nat.add_mul]
     rw[show C.length*e+D.length*e=(C.flatten++D.flatten).length by rw[List.length_append,fl,fc]]
     exact List.take_left
  |false=>
   refine ⟨.slc m.next 0 (C.length+D.length) e (C.length+D.length),(m.put id .dead).add (.cells true (C.flatten++D.flatten)), ?_, ?_, ?_⟩
   ·show aS (dk off c) _=_
    rw[fp,if_pos (by omega)]
    show aS (gw (C.length*e) (c.drop off)) _=_
    rw[gn,if_pos (by rw[List.length_drop];omega),h4]
    show cond (room (C.length+D.length) bytes) _ _=_
    rw[Af hr hr']
    show ip C.flatten D.flatten _=_
    rw[eP,NH.set_eq,NH.new_eq];rfl
   ·exact bz.of hall hnext (NH.get_add_same (m.put id .dead) _) (jh (m.put id .dead) _) (by simp) (by simp) (by simp)
   ·exact (Chg.put m id .dead).trans (Chg.add _ _) fun i hi _=>by simp at hi
def pe (off:Nat):List (Nat×NV)->List NV->List NV
 | [],c=>c
 |(k,x)::us,c=>pe off us (c.set (off+k) x)
theorem n6 {off:Nat}:∀(us:List (Nat×NV)) (c:List NV),(pe off us c).length=c.length:=by
 intro us
 induction us with
 |nil=>intro c;rfl
 |cons u us ih=>intro c;obtain ⟨k,x⟩:=u;show (pe off us (c.set (off+k) x)).length=_;rw[ih,List.length_set]
theorem bz.at {B:NH} (h:bz B m v e C) (i:Nat) (hi:i<C.length):∃id off c,jw e v (.int .i64 (.lit (i:Int)))= .val (.ptr id off)/\ids v= [id]/\¬ay B id/\m.get id=some (.cells true c)/\ay m id/\off+e<=c.length/\(c.drop off).take e=C[i]/\
 ∀(us:List (Nat×NV)) (M:NH),(∀u∈us,u.1<e)->M.get id=some (.cells true (pe off us c))->ay M id->bz B M v e (C.set i (pe 0 us C[i])):=by
 obtain ⟨h0,⟨rfl,rfl⟩|⟨id,off,kc,c,rfl,hb,h1,h2,h3,h3',h4⟩⟩:=h
 ·simp at hi
 ·obtain ⟨h5,h6⟩:=zA h0 rfl h3 h4 i hi
  refine ⟨id,off+i*e,c,Eg (by omega) (by omega),rfl,hb,h1,h2,h5,h6,fun us M hk hM hMo=> ?_⟩
  have hlen:∀y∈C.set i (pe 0 us C[i]),y.length=e:=by
   intro y hy
   rcases List.mem_or_eq_of_mem_set hy with hy|hy
   ·exact h0 y hy
   ·rw[hy,n6];exact h0 _ (List.getElem_mem hi)
  refine ⟨hlen,Or.inr ⟨id,off,kc,_,by rw[List.length_set],hb,hM,hMo,by rw[n6,List.length_set];exact h3,by rw[n6];exact h3', ?_⟩⟩
  rw[List.length_set]
  have hone:∀(k:Nat) (x:NV) (_:k<e) (C:List (List NV)) (_:∀x∈C,x.length=e) (i:Nat) (hi:i<C.length),(C.set i (C[i].set k x)).flatten=C.flatten.set (i*e+k) x:=by
   intro k x hk C
   induction C with
   |nil=>intro _ i hi;simp at hi
   |cons a C ih=>
    intro h i hi
    have ha:=h a (List.mem_cons_self ..)
    cases i with
    |zero=>simp only[List.set_cons_zero,List.flatten_cons,List.getElem_cons_zero,Nat.zero_mul,Nat.zero_add];rw[List.set_append_left _ _ (by omega)]
    |succ i=>
     simp only[List.set_cons_succ,List.flatten_cons,List.getElem_cons_succ]
     rw[ih (fun x hx=>h x (List.mem_cons_of_mem _ hx)) i (by simpa using hi),List.set_append_right _ _ (by rw[ha,Nat.succ_mul];omega),ha,Nat.succ_mul]
     congr 2;omega
  have hall:∀(us:List (Nat×NV)) (_:∀u∈us,u.1<e) (c:List NV) (C:List (List NV)) (_:∀x∈C,x.length=e) (hi:i<C.length),(c.drop off).take (C.length*e)=C.flatten->
   ((pe (off+i*e) us c).drop off).take (C.length*e)=(C.set i (pe 0 us C[i])).flatten:=by
   intro us
   induction us with
   |nil=>intro _ c C _ hi hf;simp[pe];exact hf
   |cons u us ih=>
    obtain ⟨k,x⟩:=u
    intro hk c C hC hi hf
    have hk0:k<e:=hk (k,x) (List.mem_cons_self ..)
    have:=ih (fun u hu=>hk u (List.mem_cons_of_mem _ hu)) (c.set (off+i*e+k) x) (C.set i (C[i].set k x))
     (fun y hy=>by
      rcases List.mem_or_eq_of_mem_set hy with hy|hy
      ·exact hC y hy
      ·rw[hy,List.length_set];exact hC _ (List.getElem_mem hi))
     (by rw[List.length_set];exact hi)
     (by rw[List.length_set,hone k x hk0 C hC i hi,←hf,List.drop_set,if_neg (by omega),List.take_set];congr 1;omega)
    rw[List.getElem_set_self,List.set_set] at this
    simp only[List.length_set] at this
    show ((pe (off+i*e) us (c.set (off+i*e+k) x)).drop off).take (C.length*e)=(C.set i (pe 0 us (C[i].set (0+k) x))).flatten
    rw[Nat.zero_add];exact this
  exact hall us hk c C h0 hi h4
theorem Sl.flat (h:Sl m v e C):yi v:=by
 obtain ⟨_,⟨rfl,rfl⟩|⟨id,off,kc,w,c,rfl,_⟩⟩:=h<;>trivial
theorem Sl.same (h:Sl m v e C) {n:Nat}:br (n+1) v v=true:=jq h.flat
theorem Sl.ssl (h:Sl m v e C) {t:Tm} {lo hi:Option NOpd} {a b:Nat} (hab:a<=b) (hb:b<=C.length) (hlo:∀K:Nat->NR,gY t lo 0 K=K a) (hhi:∀(d:Nat) (K:Nat->NR),d=C.length->gY t hi d K=K b):
 ∃v',vO e t lo hi v= .val v'/\Sl m v' e ((C.drop a).take (b - a))/\(∀i∈ids v',i∈ids v):=by
 obtain ⟨h0,⟨rfl,rfl⟩|⟨id,off,kc,w,c,rfl,h1,h2,h3,h4⟩⟩:=h
 ·simp at hb
  subst hb
  have ha:a=0:=by omega
  subst ha
  refine ⟨.nils, ?_,⟨by simp,Or.inl ⟨rfl,by simp⟩⟩,fun _ h=>h⟩
  rw[DJ,hhi 0 _ rfl,hlo];rfl
 ·have hlen:((C.drop a).take (b - a)).length=b - a:=by rw[List.length_take,List.length_drop];omega
  have hall:∀x∈(C.drop a).take (b - a),x.length=e:=fun x hx=>h0 x (List.mem_of_mem_drop (List.mem_of_mem_take hx))
  have hmul:a*e+(b - a)*e<=C.length*e:=by rw[←Nat.add_mul];exact Nat.mul_le_mul_right e (by omega)
  refine ⟨.slc id (off+a*e) (b - a) e (kc - a), ?_,⟨hall,Or.inr ⟨id,off+a*e,kc - a,w,c,by rw[hlen],h1,h2,by rw[hlen];omega, ?_⟩⟩,fun _ h=>h⟩
  ·rw[CI,hhi _ _ rfl,hlo,HA hab hb]
  ·rw[hlen]
   have e1:(c.drop (off+a*e)).take ((b - a)*e)=(((c.drop off).take (C.length*e)).drop (a*e)).take ((b - a)*e):=by
    rw[List.drop_take,List.take_take,List.drop_drop,Nat.min_eq_left (by omega)]
   rw[e1,h4]
   have e2:C.flatten=(C.take a).flatten++(((C.drop a).take (b - a)).flatten++((C.drop a).drop (b - a)).flatten):=by
    rw[←List.flatten_append,List.take_append_drop,←List.flatten_append,List.take_append_drop]
   have e3:((C.take a).flatten).length=a*e:=by
    rw[fg fun x hx=>h0 x (List.mem_of_mem_take hx),List.length_take,Nat.min_eq_left (by omega)]
   have e4:(((C.drop a).take (b - a)).flatten).length=(b - a)*e:=by rw[fg hall,hlen]
   rw[e2,←e3,List.drop_left,←e4,List.take_left]
theorem bg {c cs:List NV} {off e:Nat} (h:(c.drop off).take e=cs) (k:Nat) (hk:k<e):c[off+k]? =cs[k]? :=by
 rw[←h,List.getElem?_take_of_lt hk,List.getElem?_drop]
end
end Nm
namespace Nm
open Go Go.RowKit
section
variable {L:List (D4×NV)} {t:Tm} {ctx:Option NV} {m:NH} {K:NV->NH->Prop}
theorem HU {q:Bool}:(q==true)=q:=by cases q<;>rfl
theorem JN {q:Bool}:(q==false)= !q:=by cases q<;>rfl
theorem ao {l:List (AK×NO)} {k:Nat} {m:NH} {S:List D4} (h:aR l=S):Chg S m (hp l k m):=h▸iV l k m
def F9 (f:List NV->List NV) (o:Option (List NV)):Option (List NV):=match o with|some l=>some (f l)|none=>none
theorem H3 {f:List NV->List NV} {l:List NV}:F9 f (some l)=some (f l):=_root_.id rfl
noncomputable def Ow (t:Tm) (ps:List (Nat×Nat×NOpd)) (off k cur:Nat) (l:List NV) (o:Option (List NV)):Option (List NV):=match o with
 |some cs=>if cs.length=k/\cur<=off/\off - cur+k<=l.length then F9 (fun r=>l.take (off - cur)++(cs++r)) (cC t ps (off+k) (l.drop (off - cur+k))) else none
 |none=>none
theorem Mw {t:Tm} {cur:Nat} {l:List NV}:cC t [] cur l=some l:=_root_.id rfl
theorem Do {α:Type} (K:List α->Option (List α)):∀(k:Nat) (l:List α),fL k K l=if k<=l.length then (match K (l.drop k) with|some r=>some (l.take k++r)|none=>none) else none:=by
 intro k
 induction k with
 |zero=>intro l;show K l=_;simp;cases K l<;>rfl
 |succ k ih=>
  intro l
  cases l with
  |nil=>simp;rfl
  |cons a l=>
   show Option.rec (motive:=fun _=>Option (List α)) none (fun t'=>some (a::t')) (fL k K l)=_
   rw[ih]
   by_cases h:k<=l.length
   ·rw[if_pos h,if_pos (by simpa using h),List.drop_succ_cons]
    cases K (l.drop k)<;>rfl
   ·rw[if_neg h,if_neg (by simpa using h)]
theorem Nt {t:Tm} {ps:List (Nat×Nat×NOpd)} {off k cur:Nat} {x:NOpd} {l:List NV}:cC t ((off,k,x)::ps) cur l=oO (ρ t x) fun v=>Ow t ps off k cur l (cellsOf v):=by
 show Option.rec (motive:=fun _=>Option (List NV)) none (fun v:NV=>Option.rec (motive:=fun _=>Option (List NV)) none (fun cs=>dg cs fun j=>cond (Nat.beq j k) (cond (Nat.ble cur off)
  (fL (Nat.sub off cur) (fun l=>Option.rec (motive:=fun _=>Option (List NV)) none (fun l=>Option.rec (motive:=fun _=>Option (List NV)) none (fun l=>ip cs l some) (cC t ps (Nat.add off j) l)) (dk j l)) l) none) none) (cellsOf v)) (ρ t x)=_
 cases ρ t x with
 |none=>rfl
 |some v=>
  show Option.rec (motive:=fun _=>Option (List NV)) none (fun cs=>dg cs fun j=>cond (Nat.beq j k) (cond (Nat.ble cur off)
   (fL (Nat.sub off cur) (fun l=>Option.rec (motive:=fun _=>Option (List NV)) none (fun l=>Option.rec (motive:=fun _=>Option (List NV)) none (fun l=>ip cs l some) (cC t ps (Nat.add off j) l)) (dk j l)) l) none) none) (cellsOf v)=Ow t ps off k cur l (cellsOf v)
  cases cellsOf v with
  |none=>rfl
  |some cs=>
   show dg cs (fun j=>cond (Nat.beq j k) (cond (Nat.ble cur off)
    (fL (Nat.sub off cur) (fun l=>Option.rec (motive:=fun _=>Option (List NV)) none (fun l=>Option.rec (motive:=fun _=>Option (List NV)) none (fun l=>ip cs l some) (cC t ps (Nat.add off j) l)) (dk j l)) l) none) none)=if cs.length=k/\cur<=off/\off - cur+k<=l.length then _ else _
   rw[bK]
   cases hb:Nat.beq cs.length k with
   |false=>rw[if_neg (fun h=>Nat.ne_of_beq_eq_false hb h.1)];rfl
   |true=>
    have hk:=Nat.eq_of_beq_eq_true hb
    subst hk
    cases hle:Nat.ble cur off with
    |false=>rw[if_neg (fun h=>by rw[Nat.ble_eq_true_of_le h.2.1] at hle;cases hle)];rfl
    |true=>
     have hle:=Nat.le_of_ble_eq_true hle
     show fL (off - cur) (fun l=>Option.rec (motive:=fun _=>Option (List NV)) none (fun l=>Option.rec (motive:=fun _=>Option (List NV)) none (fun l=>ip cs l some) (cC t ps (off+cs.length) l)) (dk cs.length l)) l=_
     rw[Do]
     by_cases h1:off - cur<=l.length
     ·rw[if_pos h1,fp,List.length_drop]
      by_cases h2:cs.length<=l.length - (off - cur)
      ·rw[if_pos h2,if_pos ⟨rfl,hle,by omega⟩,List.drop_drop]
       dsimp only
       cases cC t ps (off+cs.length) (l.drop (off - cur+cs.length)) with
       |none=>rfl
       |some r=>dsimp only[F9];rw[eP]
      ·rw[if_neg h2,if_neg (fun h=>h2 (by omega))]
     ·rw[if_neg h1,if_neg (fun h=>h1 (by omega))]
theorem KN {t:Tm} {ps:List (Nat×Nat×NOpd)} {off k cur:Nat} {cs l:List NV} (h1:cs.length=k) (h2:cur<=off) (h3:off - cur+k<=l.length):
 Ow t ps off k cur l (some cs)=F9 (fun r=>l.take (off - cur)++(cs++r)) (cC t ps (off+k) (l.drop (off - cur+k))):=if_pos ⟨h1,h2,h3⟩
theorem bm.wf' {P:Program} {S:Nat->List NV->Option NV} {f:Nat} {args:List NV} {m m':NH} {v:NV} (h:bm P S f args m v m') {K:NV->NH->Prop}:WF P S f args m K=K v m':=by
 rw[h.wf,ag]
theorem rA (m:NH) (o:NO):hp [(.n 0,o)] 1 m=m.add o:=by
 have:=y6 (m:=m) (l:= []) (k:=0) (o:=o)
 rw[ag] at this
 exact this.symm
theorem bz.app1 {B m:NH} {v:NV} {e:Nat} {C:List (List NV)} {x:D4} {w:Bool} {cs:List NV} {kc bytes:Nat} (hv:bz B m v e C) (hx:m.get x=some (.cells w cs)) (hox:ay m x) (hl:cs.length=e) (hB:∀id,ay B id->ay m id)
 (hr:(C.length+1)*bytes<=1099511627776) (hr':C.length+1<=1099511627776):∃v' m',ES e bytes m v (.slc x 0 1 e kc)= .mem v' m'/\bz B m' v' e (C++ [cs])/\Chg (ids v) m m':=
 hv.app (D:= [cs]) ⟨fun y hy=>by simp at hy;rw[hy];exact hl,Or.inr ⟨x,0,kc,w,cs,rfl,hx,hox,by subst hl;simp,by subst hl;simp⟩⟩ (by simp) hB hr hr'
theorem Ft {P:Program} {S:Nat->List NV->Option NV} {dst:D4} {L:List (D4×NV)} {t:Tm} {dfs:List Dfr} {ctx:Option NV} {K:Dyn->Prop} {B m:NH} {v:NV} {e:Nat} {C:List (List NV)} {x:D4} {w:Bool} {cs:List NV} {kc bytes:Nat} (hv:bz B m v e C) (hx:m.get x=some (.cells w cs)) (hox:ay m x) (hl:cs.length=e) (hB:∀id,ay B id->ay m id)
 (hr:(C.length+1)*bytes<=1099511627776) (hr':C.length+1<=1099511627776) (h:∀v' m',bz B m' v' e (C++ [cs])->Chg (ids v) m m'->K ⟨an ((dst,v')::L) t,dfs,ctx,hp [] 0 m'⟩):
 wN P S (some dst) (an L t) dfs ctx m (ES e bytes m v (.slc x 0 1 e kc)) K:=by
 obtain ⟨v',m',h1,h2,h3⟩:=hv.app1 (bytes:=bytes) (kc:=kc) hx hox hl hB hr hr'
 have:=h v' m' h2 h3
 rw[ag] at this
 rw[h1];exact this
theorem I0 {b:Bool}:cellsOf (.bool b)=some [.bool b]:=_root_.id rfl
theorem ME {k:IntKind} {x:SI}:cellsOf (.int k x)=some [.int k x]:=_root_.id rfl
theorem KS {l:List Nat}:cellsOf (.str l)=some [.str l]:=_root_.id rfl
theorem Lh {i:D4} {o n e k:Nat}:cellsOf (.slc i o n e k)=some [.slc i o n e k]:=_root_.id rfl
theorem MG {i:D4}:cellsOf (.map i)=some [.map i]:=_root_.id rfl
theorem L7 {l:List NV}:cellsOf (.agg l)=some l:=_root_.id rfl
noncomputable def Lf (m:NH) (o:Option (List NV)):NR:=match o with|some cs=> .mem (.ptr m.next 0) (m.add (.cells true cs))|none=> .fail
theorem LA {t:Tm} {m:NH} {x:NOpd} {ty:Nat}:ah (.box x ty) t m=oN (ρ t x) fun v=>Lf m (cellsOf v):=JP
theorem MN {m:NH} {cs:List NV}:Lf m (some cs)= .mem (.ptr m.next 0) (m.add (.cells true cs)):=_root_.id rfl
abbrev ii (z:Int):NV:= .int .i64 (.lit z)
end
end Nm
namespace Nm
open Go Go.RowKit
def vH (P:Program) (S:Nat->List NV->Option NV) (q:D4) (args:List NV) (m:NH) (v:NV) (m':NH):Prop:=∃c,zZ P S q args m (.val v c m')
def WY (P:Program) (S:Nat->List NV->Option NV) (q:D4) (args:List NV) (m:NH) (K:NV->NH->Prop):Prop:=∃v c m',zZ P S q args m (.val v c m')/\K v m'
section
variable {P:Program} {S:Nat->List NV->Option NV} {f:Nat} {q:D4} {args:List NV} {m:NH}
theorem zZ.det {x y:CR} (h:zZ P S q args m x) (h':zZ P S q args m y):x=y:=by
 obtain ⟨hn,n,e⟩:=h
 obtain ⟨hn',k,e'⟩:=h'
 rw[←fG (b6 (Nat.le_max_left n k)) e hn,fG (b6 (Nat.le_max_right n k)) e' hn']
theorem vH.wy {v:NV} {m':NH} (h:vH P S q args m v m') {K:NV->NH->Prop}:WY P S q args m K=K v (hp [] 0 m'):=by
 rw[ag]
 apply propext
 constructor
 ·rintro ⟨u,c,n,hc,hk⟩
  obtain ⟨c',h'⟩:=h
  have:=zZ.det hc h'
  injection this with a _ b
  rw[←a,←b];exact hk
 ·intro hk
  obtain ⟨c,h⟩:=h
  exact ⟨v,c,m',h,hk⟩
def JT (q:D4) (K:NV->NH->Prop) (o:Out) (d:Dyn):Prop:=match d.h.get q with
 |some (.loop _ _ tm ps a b)=>(match o with
  | .norm=>K (.bool true) (d.h.put q (.loop 0 .none tm ps a b))
  | .ret=>K (.bool false) (d.h.put q (.loop 2 .ret tm ps a b))
  | .exit i=>K (.bool false) (d.h.put q (.loop 2 (.exit i) tm ps a b))
  | .pan _=>False)
 |_=>False
theorem WY.of_wp {p:Jump} {tm:NT NV} {ps:List D4} {a b A B:NC} {K:NV->NH->Prop} (hm:m.get q=some (.loop 0 p tm ps a b)) (hlen:args.length=ps.length) (ea:a=A) (eb:b=B)
 (h:wp P S (some q) A ⟨p8 ps args tm, [],none,hp [] 0 m⟩ (fun o d=>o= .norm/\d.dfs= []/\d.h.get q=some (.loop 0 p tm ps a b)/\wp P S (some q) B ⟨d.t, [],none,d.h.put q (.loop 1 p tm ps a b)⟩ (JT q K))):WY P S q args m K:=by
 subst ea eb
 rw[ag] at h
 obtain ⟨o,d1,h1,rfl,hd,hq,h2⟩:=aA _ _ _ h
 obtain ⟨o,d2,h3,h4⟩:=aA _ _ _ h2
 unfold JT at h4
 cases hg:d2.h.get q with
 |none=>rw[hg] at h4;exact h4.elim
 |some w=>
  rw[hg] at h4
  cases w with
  |loop st p2 tm2 ps2 a2 b2=>
   cases o with
   |norm=>exact ⟨_,none,_,zZ.of hm hlen h1 hd hq h3 (by simp) (by unfold dQ;rw[hg];exact NH.set_eq _ _ _ _) (by simp),h4⟩
   |ret=>exact ⟨_,none,_,zZ.of hm hlen h1 hd hq h3 (by simp) (by unfold dQ;rw[hg];exact NH.set_eq _ _ _ _) (by simp),h4⟩
   |exit i=>exact ⟨_,none,_,zZ.of hm hlen h1 hd hq h3 (by simp) (by unfold dQ;rw[hg];exact NH.set_eq _ _ _ _) (by simp),h4⟩
   |pan v=>exact h4.elim
  |_=>exact h4.elim
noncomputable def Ol (q:D4) (K:NV->NH->Prop) (o:Out) (m:NH) (x:Option NO):Prop:=match x with
 |some (.loop _ _ tm ps a b)=>(match o with
  | .norm=>K (.bool true) (m.put q (.loop 0 .none tm ps a b))
  | .ret=>K (.bool false) (m.put q (.loop 2 .ret tm ps a b))
  | .exit i=>K (.bool false) (m.put q (.loop 2 (.exit i) tm ps a b))
  | .pan _=>False)
 |_=>False
theorem Ku {K:NV->NH->Prop} {o:Out} {t:Tm} {dfs:List Dfr} {ctx:Option NV}:JT q K o ⟨t,dfs,ctx,m⟩=Ol q K o m (m.get q):=_root_.id rfl
section
variable {K:NV->NH->Prop} {st:Nat} {p:Jump} {tm:NT NV} {ps:List D4} {a b:NC} {i:Nat}
theorem LU:Ol q K .norm m (some (.loop st p tm ps a b))=K (.bool true) (m.put q (.loop 0 .none tm ps a b)):=_root_.id rfl
theorem Mm:Ol q K .ret m (some (.loop st p tm ps a b))=K (.bool false) (m.put q (.loop 2 .ret tm ps a b)):=_root_.id rfl
end
theorem WY.ret {K:NV->NH->Prop} (h:WY P S q args m K):∃v m',vH P S q args m v m'/\K v m':=by
 obtain ⟨v,c,m',hc,hk⟩:=h;exact ⟨v,m',⟨c,hc⟩,hk⟩
theorem WY.ex {Φ:NV->NH->Prop} (h:∀K:NV->NH->Prop,(∀v m',Φ v m'->K v m')->WY P S q args m K):∃v m',vH P S q args m v m'/\Φ v m':=(h Φ fun _ _ h=>h).ret
theorem WF.ex {Φ:NV->NH->Prop} (h:∀K:NV->NH->Prop,(∀v m',Φ v m'->K v m')->WF P S f args m K):∃v m',bm P S f args m v m'/\Φ v m':=(h Φ fun _ _ h=>h).ret
theorem E4 {t:Tm}:an [] t=t:=rfl
def t9 (ks:List D4) (t t':Tm):Prop:=∀k,k∉ks->NT.get k t'=NT.get k t
theorem t9.refl (ks:List D4) (t:Tm):t9 ks t t:=fun _ _=>rfl
theorem t9.get {ks:List D4} {t t':Tm} (h:t9 ks t t') {k:D4} {v:Option NV} (g:NT.get k t=v) (hk:k∉ks):NT.get k t'=v:=(h k hk).trans g
theorem t9.trans {ks ls:List D4} {a b c:Tm} (h:t9 ks a b) (h':t9 ls b c) (hs:∀k∈ls,k∈ks):t9 ks a c:=fun k hk=>(h' k fun q=>hk (hs k q)).trans (h k hk)
noncomputable def Aq:List Dfr->NH->Option NH
 | [],m=>some m
 | .mark id::l,m=>(match m.get id with|some (.defd true)=>Aq l (m.put id (.defd false))|_=>none)
 | .call ..::_,_=>none
def Ig (rs:List NRes) (K:NV->NH->Prop) (o:Out) (d:Dyn):Prop:=(o= .norm∨o= .ret)/\∃m',Aq d.dfs d.h=some m'/\∃v,cw m' d.t rs .fail (fun l=> .val (ir l) d.ctx m')= .val v d.ctx m'/\K v m'
theorem po {F:Nat->List NV->Option NV->NH->CR} {K:Option NV->NH->CR}:∀(l:List Dfr) (m m':NH) (p:Option NV),Aq l m=some m'->unwind F K l p m=K p m':=by
 intro l
 induction l with
 |nil=>intro m m' p h;injection h with h;rw[←h];rfl
 |cons c l ih=>
  intro m m' p h
  cases c with
  |call f cap=>cases h
  |mark id=>
   show (match m.get id with
    |some (.defd true)=>m.set id (.defd false) fun h=>unwind F K l p h
    |_=>CR.fail)=_
   change (match m.get id with|some (.defd true)=>Aq l (m.put id (.defd false))|_=>none)=some m' at h
   cases hg:m.get id with
   |none=>rw[hg] at h;cases h
   |some o=>
    rw[hg] at h
    cases o with
    |defd b=>cases b with
     |true=>dsimp only at h ⊢;rw[NH.set_eq];exact ih _ _ _ h
     |false=>cases h
    |_=>cases h
theorem Call.of_runM {nf:NFun} (hs:∀l,S f l=none) (hf:ax P f=some (.code nf)) {o:Out} {d:Dyn} {m':NH} (ho:o= .norm∨o= .ret) (h:eJ P S none nf.body ⟨dJ args 0 .leaf, [],none,m⟩ o d)
 (hd:Aq d.dfs d.h=some m') {v:NV} (hv:cw m' d.t nf.results .fail (fun l=> .val (ir l) d.ctx m')= .val v d.ctx m'):Call P S f args m (.val v d.ctx m'):=by
 obtain ⟨n,hn⟩:=h
 refine ⟨by simp,n, ?_⟩
 unfold cq
 rw[hs args]
 dsimp only
 rw[hf]
 show cR P (ev P S n) 3 f args none m=_
 rw[fh,hf]
 dsimp only
 rw[hn]
 rcases ho with rfl|rfl
 ·show unwind _ (finish nf.results d) d.dfs none d.h=_
  rw[po _ _ _ _ hd];exact hv
 ·show unwind _ (finish nf.results d) d.dfs none d.h=_
  rw[po _ _ _ _ hd];exact hv
theorem WF.of_wpM {nf:NFun} (hs:∀l,S f l=none) (hf:ax P f=some (.code nf)) {K:NV->NH->Prop} {L:List (D4×NV)} (hL:dJ args 0 .leaf=an L .leaf)
 (h:wp P S none nf.body ⟨an L .leaf, [],none,hp [] 0 m⟩ (Ig nf.results K)):WF P S f args m K:=by
 rw[ag] at h
 obtain ⟨o,d,h1,ho,m',hd,v,hv,hK⟩:=aA _ _ _ h
 rw[←hL] at h1
 exact ⟨v,d.ctx,m',Call.of_runM hs hf ho h1 hd hv,hK⟩
noncomputable def OF (rs:List NRes) (K:NV->NH->Prop) (t:Tm) (ctx:Option NV) (o:Option NH):Prop:=match o with|some m'=>BQ rs K .ret ⟨t, [],ctx,m'⟩|none=>False
theorem G7 {rs:List NRes} {K:NV->NH->Prop} {t:Tm} {ctx:Option NV} {dfs:List Dfr} {o:Out} (ho:o= .norm∨o= .ret):Ig rs K o ⟨t,dfs,ctx,m⟩=OF rs K t ctx (Aq dfs m):=by
 apply propext
 constructor
 ·rintro ⟨_,m',h1,v,h2,h3⟩
  change Aq dfs m=some m' at h1
  rw[h1]
  exact ⟨Or.inr rfl,rfl,v,h2,h3⟩
 ·intro h
  cases hu:Aq dfs m with
  |none=>rw[hu] at h;exact h.elim
  |some m'=>
   rw[hu] at h
   obtain ⟨_,_,v,h2,h3⟩:=h
   exact ⟨ho,m',hu,v,h2,h3⟩
theorem Jz {rs:List NRes} {K:NV->NH->Prop} {t:Tm} {ctx:Option NV} {dfs:List Dfr}:Ig rs K .ret ⟨t,dfs,ctx,m⟩=OF rs K t ctx (Aq dfs m):=G7 (.inr rfl)
theorem L8 {rs:List NRes} {K:NV->NH->Prop} {t:Tm} {ctx:Option NV}:OF rs K t ctx (some m)=BQ rs K .ret ⟨t, [],ctx,m⟩:=_root_.id rfl
theorem GM {r:Option D4} {g:NOpd} {ps:List D4} {a b:NC} {d:Dyn} {Q:Out->Dyn->Prop}:wp P S r (.rangeFunc g ps a b) d Q=W P S r (.rangeFunc g ps a b) d Q:=_root_.id rfl
theorem Kl:Aq [] m=some m:=_root_.id rfl
noncomputable def MM (l:List Dfr) (i:D4) (m:NH) (o:Option NO):Option NH:=match o with|some (.defd true)=>Aq l (m.put i (.defd false))|_=>none
theorem Lw {l:List Dfr} {i:D4}:Aq (.mark i::l) m=MM l i m (m.get i):=_root_.id rfl
theorem J6 {l:List Dfr} {i:D4}:MM l i m (some (.defd true))=Aq l (m.put i (.defd false)):=_root_.id rfl
theorem W.range {cap:List NV} {fx:NOpd} {ps:List D4} {a b:NC} {t:Tm} {dfs:List Dfr} {ctx:Option NV} {Q:Out->Dyn->Prop} {M m':NH} {v:NV}
 (hf:ρ t fx=some (.fn f cap)) {x:D4} (hx:m.next=x) {y:D4} (hy:(m.add (.defd true)).next=y) (hM:(m.add (.defd true)).add (.loop 0 .none t ps a b)=M) (hc:bm P S f (.yld y::cap) M v m')
 {tm:NT NV} {ps':List D4} {a' b':NC} (hl:m'.get y=some (.loop 0 .none tm ps' a' b')) (hQ:Q .norm ⟨t,.mark x::dfs,ctx,hp [] 0 (m'.put y (.loop 3 .none tm ps' a' b'))⟩):
 W P S none (.rangeFunc fx ps a b) ⟨t,dfs,ctx,m⟩ Q:=by
 subst hx hy hM
 rw[ag] at hQ
 obtain ⟨c,hc⟩:=hc
 refine ⟨_,_,eJ.range hf hc ?_,hQ⟩
 unfold eC
 rw[hl]
 dsimp only
 rw[show Nat.beq 0 1=false from rfl,cond_false,NH.set_eq]
theorem W.rangeN {cap:List NV} {fx:NOpd} {ps:List D4} {a b:NC} {t:Tm} {dfs:List Dfr} {ctx:Option NV} {Q:Out->Dyn->Prop} {m':NH} {v:NV}
 (hf:ρ t fx=some (.fn f cap)) (hc:bm P S f (.yld (na m 1)::cap) (hp [(.n 1,.loop 0 .none t ps a b),(.n 0,.defd true)] 2 m) v m')
 {tm:NT NV} {ps':List D4} {a' b':NC} (hl:m'.get (na m 1)=some (.loop 0 .none tm ps' a' b')) (hQ:Q .norm ⟨t,.mark (na m 0)::dfs,ctx,hp [(.o (na m 1),.loop 3 .none tm ps' a' b')] 0 m'⟩) (ho:ay m' (na m 1)):
 W P S none (.rangeFunc fx ps a b) ⟨t,dfs,ctx,m⟩ Q:=by
 have e1:(m.add (.defd true)).next=na m 1:=by rw[←rA];rfl
 refine W.range hf (su m).symm e1 ?_ hc hl ?_
 ·rw[←rA m (.defd true),y6]
 ·rw[←qT ho,ag] at hQ
  rw[ag];exact hQ
end
end Nm
namespace Nm
open Go Go.RowKit
section
variable (P:Program) (S:Nat->List NV->Option NV) (r:Option D4)
def Dy (c:NC) (Q:Out->Dyn->Prop) (d:Dyn):Prop:=wp P S r c d Q
def E3 (dst:Option D4) (t:Tm) (dfs:List Dfr) (ctx:Option NV) (m:NH) (x:NR) (l:List NOper) (K:Dyn->Prop):Prop:=wN P S dst t dfs ctx m x fun d=>wO P S l d K
def CD (dst:Option D4) (t:Tm) (dfs:List Dfr) (ctx:Option NV) (l:List NOper) (K:Dyn->Prop) (v:NV) (m:NH):Prop:=wO P S l ⟨aU dst v t,dfs,ctx,m⟩ K
def gA (dst:Option D4) (op:NOp) (l:List NOper) (K:Dyn->Prop) (d:Dyn):Prop:=E3 P S dst d.t d.dfs d.ctx d.h (ah op d.t d.h) l K
def gB (dst:Option D4) (l:List NOper) (K:Dyn->Prop) (d:Dyn):Prop:=wO P S l ⟨aU dst aQ d.t,d.dfs,d.ctx,d.h⟩ K
def dA (dst:Option D4) (op:NOp) (pre idx:Nat) (l:List NOper) (hs:List (Nat×NH)) (rs:List (Nat×(NH->NR)×NV)) (K:Dyn->Prop) (d:Dyn):Prop:=wX (aj op) (ah op d.t d.h) P S (ah op d.t) dst pre idx l hs rs d K
def dB (dst:Option D4) (l:List NOper) (hs:List (Nat×NH)) (rs:List (Nat×(NH->NR)×NV)) (K:Dyn->Prop) (d:Dyn):Prop:=wD P S l hs rs ⟨aU dst aQ d.t,d.dfs,d.ctx,d.h⟩ K
def Mc (pre idx:Nat) (m:NH) (l:List NOper) (hs:List (Nat×NH)) (rs:List (Nat×(NH->NR)×NV)) (K:Dyn->Prop) (d:Dyn):Prop:=stays pre d.h rs=true/\wD P S l ((idx,m)::hs) rs d K
def HB (dst:Option D4) (t:Tm) (dfs:List Dfr) (ctx:Option NV) (K:Dyn->Prop) (v:NV) (m:NH):Prop:=K ⟨aU dst v t,dfs,ctx,m⟩
end
section
variable {P:Program} {S:Nat->List NV->Option NV} {r:Option D4} {dst:Option D4} {op:NOp} {pre idx:Nat} {l:List NOper} {hs:List (Nat×NH)} {rs:List (Nat×(NH->NR)×NV)}
 {L:List (D4×NV)} {t:Tm} {dfs:List Dfr} {ctx:Option NV} {m m':NH} {v:NV} {k g:D4} {d:Dyn} {Q:Out->Dyn->Prop} {K:Dyn->Prop} {b:Bool}
theorem Lm {x y:NC}:wp P S r (.seq x y) d Q=wp P S r x d (cW (Dy P S r y Q) Q):=_root_.id rfl
theorem Ma {c:NC}:Dy P S r c Q d=wp P S r c d Q:=_root_.id rfl
theorem IQ {g:NOpd} {x y:NC}:wp P S r (.cond g x y) ⟨an L t,dfs,ctx,m⟩ Q=wC (ρ (an L t) g) (Dy P S r x Q) (Dy P S r y Q) ⟨an L t,dfs,ctx,m⟩:=_root_.id rfl
theorem JM:wO P S (⟨dst,op,none,pre,idx⟩::l) ⟨an L t,dfs,ctx,m⟩ K=E3 P S dst (an L t) dfs ctx m (ah op (an L t) m) l K:=_root_.id rfl
theorem Mq:E3 P S (some k) (an L t) dfs ctx m (.val v) l K=wO P S l ⟨an ((k,v)::L) t,dfs,ctx,m⟩ K:=_root_.id rfl
theorem K9:E3 P S (some k) (an L t) dfs ctx m (.mem v m') l K=wO P S l ⟨an ((k,v)::L) t,dfs,ctx,m'⟩ K:=_root_.id rfl
theorem Kc:E3 P S none (an L t) dfs ctx m (.mem v m') l K=wO P S l ⟨an L t,dfs,ctx,m'⟩ K:=_root_.id rfl
theorem HX {f:Nat} {args:List NV}:E3 P S dst t dfs ctx m (.call f args) l K=WF P S f args m (CD P S dst t dfs ctx l K):=_root_.id rfl
theorem L5 {q:D4} {args:List NV}:E3 P S dst t dfs ctx m (.yld q args) l K=WY P S q args m (CD P S dst t dfs ctx l K):=_root_.id rfl
theorem Hl:CD P S (some k) (an L t) dfs ctx l K v m=wO P S l ⟨an ((k,v)::L) t,dfs,ctx,m⟩ K:=_root_.id rfl
theorem Hf:wO P S (⟨dst,op,some (g,b),pre,idx⟩::l) ⟨an L t,dfs,ctx,m⟩ K=wG (eK g L (NT.get g t)) b (gA P S dst op l K) (gB P S dst l K) ⟨an L t,dfs,ctx,m⟩:=Gm
theorem Nl:gA P S dst op l K ⟨an L t,dfs,ctx,m⟩=E3 P S dst (an L t) dfs ctx m (ah op (an L t) m) l K:=_root_.id rfl
theorem Oq:gB P S (some k) l K ⟨an L t,dfs,ctx,m⟩=wO P S l ⟨an ((k,aQ)::L) t,dfs,ctx,m⟩ K:=_root_.id rfl
theorem Fg:wD P S (⟨dst,op,some (g,b),pre,idx⟩::l) hs rs ⟨an L t,dfs,ctx,m⟩ K=wG (eK g L (NT.get g t)) b (dA P S dst op pre idx l hs rs K) (dB P S dst l hs rs K) ⟨an L t,dfs,ctx,m⟩:=C0
theorem Oz:dA P S dst op pre idx l hs rs K ⟨an L t,dfs,ctx,m⟩=wX (aj op) (ah op (an L t) m) P S (ah op (an L t)) dst pre idx l hs rs ⟨an L t,dfs,ctx,m⟩ K:=_root_.id rfl
theorem Oy:dB P S (some k) l hs rs K ⟨an L t,dfs,ctx,m⟩=wD P S l hs rs ⟨an ((k,aQ)::L) t,dfs,ctx,m⟩ K:=_root_.id rfl
def LR (P:Program) (S:Nat->List NV->Option NV) (dst:Option D4) (t:Tm) (dfs:List Dfr) (ctx:Option NV) (m:NH) (x:NR) (K:Dyn->Prop):Prop:=wN P S dst t dfs ctx m x K
section
variable {f:NH->NR}
theorem IW {x:NR}:wX .eff x P S f dst pre idx l hs rs ⟨t,dfs,ctx,m⟩ K=(ahead pre hs=true/\LR P S dst t dfs ctx m x (Mc P S pre idx m l hs rs K)):=_root_.id rfl
end
theorem Dz:LR P S (some k) (an L t) dfs ctx m (.mem v m') K=K ⟨an ((k,v)::L) t,dfs,ctx,m'⟩:=_root_.id rfl
theorem Fz:LR P S none (an L t) dfs ctx m (.mem v m') K=K ⟨an L t,dfs,ctx,m'⟩:=_root_.id rfl
theorem Gv {f:Nat} {args:List NV}:LR P S dst t dfs ctx m (.call f args) K=WF P S f args m (HB dst t dfs ctx K):=_root_.id rfl
theorem GY:HB (some k) (an L t) dfs ctx K v m=K ⟨an ((k,v)::L) t,dfs,ctx,m⟩:=_root_.id rfl
theorem Kk {m0:NH}:Mc P S pre idx m0 l hs rs K ⟨t,dfs,ctx,m⟩=(stays pre m rs=true/\wD P S l ((idx,m0)::hs) rs ⟨t,dfs,ctx,m⟩ K):=_root_.id rfl
theorem tM {B:NH} {e:Nat} {C:List (List NV)} {x:D4} {w:Bool} {cs:List NV} {kc bytes:Nat} (hv:bz B m v e C) (hx:m.get x=some (.cells w cs)) (hox:ay m x) (hl:cs.length=e) (hB:∀id,ay B id->ay m id)
 (hr:(C.length+1)*bytes<=1099511627776) (hr':C.length+1<=1099511627776) (h:∀v' m',bz B m' v' e (C++ [cs])->Chg (ids v) m m'->wO P S l ⟨an ((k,v')::L) t,dfs,ctx,hp [] 0 m'⟩ K):
 E3 P S (some k) (an L t) dfs ctx m (ES e bytes m v (.slc x 0 1 e kc)) l K:=Ft hv hx hox hl hB hr hr' h
theorem zp {e a b:Nat} {C:List (List NV)} {lo hi:Option NOpd} (h:Sl m v e C) (hab:a<=b) (hb:b<=C.length) (hlo:∀K:Nat->NR,gY (an L t) lo 0 K=K a) (hhi:∀(d:Nat) (K:Nat->NR),d=C.length->gY (an L t) hi d K=K b)
 (hK:∀v',Sl m v' e ((C.drop a).take (b - a))->(∀i∈ids v',i∈ids v)->wO P S l ⟨an ((k,v')::L) t,dfs,ctx,m⟩ K):E3 P S (some k) (an L t) dfs ctx m (vO e (an L t) lo hi v) l K:=by
 obtain ⟨v',h1,h2,h3⟩:=h.ssl hab hb hlo hhi
 rw[h1];exact hK v' h2 h3
end
end Nm
namespace Nm
open Go Go.RowKit
section
variable {t:Tm} {m:NH}
def Hy (v:NV):NR:=match v with| .str s=> .val (.int .i64 (.lit (s.length:Int)))|_=> .fail
theorem IP {x:NOpd}:ah (.lenStr x) t m=oN (ρ t x) Hy:=by
 show wV t x (fun v=>match v with| .str s=>dg s fun n=> .val (.int .i64 (.lit (.ofNat n)))|_=> .fail)=_
 rw[bY]
 congr 1
 funext v
 cases v with
 |str s=>exact bK s (fun n=>NR.val (.int .i64 (.lit (.ofNat n))))
 |_=>rfl
theorem GR {s:List Nat}:Hy (.str s)= .val (.int .i64 (.lit (s.length:Int))):=_root_.id rfl
noncomputable def I4 (v i:NV):NR:=aS (mD i) fun i=>match v with| .str s=>aS s[i]? fun b=> .val (.int .u8 (.lit (.ofNat b)))|_=> .fail
theorem Li {x i:NOpd}:ah (.indexStr x i) t m=oN (ρ t x) fun v=>oN (ρ t i) fun i=>I4 v i:=by
 show wV t x (fun v=>eT t i fun i=>match v with
  | .str s=>aS (iX s i) fun b=> .val (.int .u8 (.lit (.ofNat b)))
  |_=> .fail)=_
 rw[bY]
 congr 1
 funext v
 unfold eT
 rw[bY]
 congr 1
 funext i
 unfold I4
 congr 1
 funext i
 cases v with
 |str s=>dsimp only;rw[ed]
 |_=>rfl
def Ic (o:Option Nat):NR:=match o with|some b=> .val (.int .u8 (.lit (b:Int)))|none=> .fail
theorem L0 {s:List Nat} {k:IntKind} {z:Int} (h0:0<=z):I4 (.str s) (.int k (.lit z))=Ic s[z.toNat]? :=by
 obtain ⟨i,rfl⟩:=Int.eq_ofNat_of_zero_le h0
 show aS s[i]? (fun b=> .val (.int .u8 (.lit (.ofNat b))))=Ic s[i]?
 cases s[i]? <;>rfl
theorem II {b:Nat}:Ic (some b)= .val (.int .u8 (.lit (b:Int))):=_root_.id rfl
noncomputable def Gb (s:List Nat) (a b:Nat):NR:=cond (Nat.ble a b) (aS (gw b s) fun s=>aS (dk a s) fun s=> .val (.str s)) .fail
noncomputable def Ie (t:Tm) (lo hi:Option NOpd) (v:NV):NR:=match v with
 | .str s=>gY t hi s.length fun b=>gY t lo 0 fun a=>Gb s a b
 |_=> .fail
theorem LX {x:NOpd} {lo hi:Option NOpd}:ah (.sliceStr x lo hi) t m=oN (ρ t x) (Ie t lo hi):=by
 show wV t x (fun v=>match v with
  | .str s=>dg s fun n=>de t hi n fun b=>de t lo 0 fun a=>cond (Nat.ble a b) (aS (gw b s) fun s=>aS (dk a s) fun s=> .val (.str s)) .fail
  |_=> .fail)=_
 rw[bY]
 congr 1
 funext v
 cases v with
 |str s=>
  dsimp only[Ie]
  rw[bK,eZ]
  congr 1
  funext b
  rw[eZ]
  rfl
 |_=>rfl
theorem Ks {s:List Nat} {lo hi:Option NOpd}:Ie t lo hi (.str s)=gY t hi s.length fun b=>gY t lo 0 fun a=>Gb s a b:=_root_.id rfl
theorem MH {s:List Nat} {a b:Nat} (h:a<=b) (h':b<=s.length):Gb s a b= .val (.str ((s.take b).drop a)):=by
 unfold Gb
 rw[Nat.ble_eq_true_of_le h,gn,if_pos h']
 show aS (dk a (s.take b)) _=_
 rw[fp,if_pos (by rw[List.length_take];omega)];rfl
abbrev oh (s:List Nat):List (List NV):=s.map fun (b:Nat)=> [NV.int .u8 (.lit (b:Int))]
noncomputable def Gs (m:NH) (v:NV):NR:=fi 1 m v fun _ l=>aS (eg l) fun s=> .val (.str s)
theorem KY {x:NOpd}:ah (.bytesToStr x) t m=oN (ρ t x) (Gs m):=by
 show wV t x (fun v=>fi 1 m v fun _ l=>aS (eg l) fun s=> .val (.str s))=_
 rw[bY];rfl
theorem GI {s:List Nat} (h:∀b∈s,b<256):eg (oh s).flatten=some s:=by
 induction s with
 |nil=>rfl
 |cons b s ih=>
  show GG (.int .u8 (.lit (.ofNat b))) (eg (oh s).flatten)=_
  rw[ih fun x hx=>h x (List.mem_cons_of_mem _ hx)]
  show cond (Nat.ble b 255) (some (b::s)) none=_
  rw[Nat.ble_eq_true_of_le (by have:=h b (List.mem_cons_self ..);omega)];rfl
theorem Sl.bts {v:NV} {s:List Nat} (h:Sl m v 1 (oh s)) (hb:∀b∈s,b<256):Gs m v= .val (.str s):=by
 unfold Gs
 rw[qi h,GI hb];rfl
theorem Md {a b:List Nat}:dK .num .eql (.str a) (.str b)=some (.bool (decide (a=b))):=by
 show bj (yg a b)=_
 rw[aM]
 congr 2
 rw[Bool.eq_iff_iff,decide_eq_true_eq]
 constructor
 ·intro h
  induction a generalizing b with
  |nil=>cases b with
   |nil=>rfl
   |cons=>cases h
  |cons x a ih=>cases b with
   |nil=>cases h
   |cons y b=>
    change cond (Nat.beq x y) (yg a b) false=true at h
    cases hxy:Nat.beq x y with
    |false=>rw[hxy] at h;cases h
    |true=>rw[hxy] at h;rw[Nat.eq_of_beq_eq_true hxy,ih h]
 ·rintro rfl;exact vp a
theorem wrap_u64 {n:Int}:bJ .u64 n=n % 18446744073709551616:=by rw[bN];rfl
theorem wrap_u8 {n:Int}:bJ .u8 n=n % 256:=by rw[bN];rfl
theorem JD {a b:Int}:dK .num .add (.int .u64 (.lit a)) (.int .u64 (.lit b))=some (.int .u64 (.lit ((a+b) % 18446744073709551616))):=by
 refine (j6 rfl).trans ?_
 show cg .u64 (bJ .u64 (pQ a b))=_
 rw[jk,wrap_u64,aX]
theorem Iz {a b:Int}:dK .num .sub (.int .u64 (.lit a)) (.int .u64 (.lit b))=some (.int .u64 (.lit ((a - b) % 18446744073709551616))):=by
 refine (j6 rfl).trans ?_
 show cg .u64 (bJ .u64 (oE a b))=_
 rw[eN,wrap_u64,aX]
theorem H7 {a b:Int}:dK .num .mul (.int .u64 (.lit a)) (.int .u64 (.lit b))=some (.int .u64 (.lit ((a*b) % 18446744073709551616))):=by
 refine (j6 rfl).trans ?_
 show cg .u64 (bJ .u64 (pW a b))=_
 rw[fW,wrap_u64,aX]
theorem Ka {a b:Int}:dK .num .sub (.int .u8 (.lit a)) (.int .u8 (.lit b))=some (.int .u8 (.lit ((a - b) % 256))):=by
 refine (j6 rfl).trans ?_
 show cg .u8 (bJ .u8 (oE a b))=_
 rw[eN,wrap_u8,aX]
theorem C1 {a b:Nat} (hb:0<b):dK .num .quo (.int .u64 (.lit (a:Int))) (.int .u64 (.lit (b:Int)))=some (.int .u64 (.lit (((a / b % 18446744073709551616:Nat)):Int))):=by
 refine (j6 rfl).trans ?_
 show cond (HS (Int.ofNat b)) none (cg .u64 (bJ .u64 (.ofNat (Nat.div a b))))=_
 rw[show HS (Int.ofNat b)=false from by show Nat.beq b 0=false;cases hz:Nat.beq b 0 with|false=>rfl|true=>have:=Nat.eq_of_beq_eq_true hz;omega]
 show cg .u64 (bJ .u64 (Int.ofNat (a / b)))=_
 rw[wrap_u64,aX]
 rfl
noncomputable def Gl (k:IntKind) (v:NV):NR:=match v with| .int _ (.lit n)=> .val (.int k (.lit (bJ k n)))| .int _ (.sym c ts)=>vr (iN k c ts)|_=> .fail
theorem Mt {k:IntKind} {x:NOpd}:ah (.toInt k x) t m=oN (ρ t x) (Gl k):=by
 show wV t x (fun v=>match v with| .int _ (.lit n)=>vr (cg k (bJ k n))| .int _ (.sym c ts)=>vr (iN k c ts)|_=> .fail)=_
 rw[bY]
 congr 1
 funext v
 cases v with
 |int k' x=>cases x with
  |lit n=>show vr (cg k (bJ k n))=_;rw[aX];rfl
  |_=>rfl
 |_=>rfl
theorem Cl {k:IntKind} {n:Int}:Gl .u64 (.int k (.lit n))= .val (.int .u64 (.lit (n % 18446744073709551616))):=by show NR.val (.int .u64 (.lit (bJ .u64 n)))=_;rw[wrap_u64]
theorem J2 {k:IntKind} {n:Int} (h:-9223372036854775808<=n) (h':n<9223372036854775808):Gl .i64 (.int k (.lit n))= .val (.int .i64 (.lit n)):=by show NR.val (.int .i64 (.lit (bJ .i64 n)))=_;rw[wrap_small h h']
noncomputable def HQ (v:NV):NR:=match v with| .ptr i o=> .val (.ptr i o)| .fn f c=> .val (.fn f c)| .yld l=> .val (.yld l)|_=> .fail
theorem I1 {x:NOpd}:ah (.nilCheck x) t m=oN (ρ t x) HQ:=by
 show wV t x _=_
 rw[bY]
 cases ρ t x with
 |none=>rfl
 |some v=>cases v<;>rfl
theorem F7 {i:D4} {o:Nat}:HQ (.ptr i o)= .val (.ptr i o):=_root_.id rfl
noncomputable def rR (x:NR) (K:NV->Prop):Prop:=match x with| .val v=>K v|_=>False
noncomputable def qG (t:Tm) (m:NH):List NRes->(List NV->Prop)->Prop
 | [],K=>K []
 | .tmp k::l,K=>rK (NT.get k t) fun v=>qG t m l fun vs=>K (v::vs)
 | .cell1 k::l,K=>rR (ah (.load1 (.tmp k)) t m) fun v=>qG t m l fun vs=>K (v::vs)
 | .cellN k n::l,K=>rR (ah (.loadN n (.tmp k)) t m) fun v=>qG t m l fun vs=>K (v::vs)
theorem C6:∀(rs:List NRes) (K:List NV->Prop) (G:List NV->CR),qG t m rs K->∃l,cw m t rs .fail G=G l/\K l:=by
 intro rs
 induction rs with
 |nil=>intro K G h;exact ⟨[],rfl,h⟩
 |cons r rs ih=>
  intro K G h
  cases r with
  |tmp k=>
   cases hv:NT.get k t with
   |none=>unfold qG at h;rw[hv] at h;exact h.elim
   |some v=>
    unfold qG at h;rw[hv] at h
    obtain ⟨l,h1,h2⟩:=ih (fun vs=>K (v::vs)) (fun l=>G (v::l)) h
    refine ⟨v::l, ?_,h2⟩
    show (match (match NT.get k t with|some v=>NR.val v|none=> .fail) with| .val v=>cw m t rs .fail (fun l=>G (v::l))|_=> .fail)=_
    rw[hv];exact h1
  |cell1 k=>
   cases hv:ah (.load1 (.tmp k)) t m with
   |val v=>
    unfold qG at h;rw[hv] at h
    obtain ⟨l,h1,h2⟩:=ih (fun vs=>K (v::vs)) (fun l=>G (v::l)) h
    refine ⟨v::l, ?_,h2⟩
    change fS (.tmp k) t m= .val v at hv
    show (match fS (.tmp k) t m with| .val v=>cw m t rs .fail (fun l=>G (v::l))|_=> .fail)=_
    rw[hv];exact h1
   |_=>unfold qG at h;rw[hv] at h;exact h.elim
  |cellN k n=>
   cases hv:ah (.loadN n (.tmp k)) t m with
   |val v=>
    unfold qG at h;rw[hv] at h
    obtain ⟨l,h1,h2⟩:=ih (fun vs=>K (v::vs)) (fun l=>G (v::l)) h
    refine ⟨v::l, ?_,h2⟩
    change fQ n (.tmp k) t m= .val v at hv
    show (match fQ n (.tmp k) t m with| .val v=>cw m t rs .fail (fun l=>G (v::l))|_=> .fail)=_
    rw[hv];exact h1
   |_=>unfold qG at h;rw[hv] at h;exact h.elim
def xz (rs:List NRes) (K:NV->NH->Prop) (o:Out) (d:Dyn):Prop:=(o= .norm∨o= .ret)/\d.dfs= []/\qG d.t d.h rs fun l=>K (ir l) d.h
theorem wA {rs:List NRes} {K:NV->NH->Prop} {o:Out} {d:Dyn} (h:xz rs K o d):BQ rs K o d:=by
 obtain ⟨h1,h2,h3⟩:=h
 obtain ⟨l,h4,h5⟩:=C6 rs _ (fun l=> .val (ir l) d.ctx d.h) h3
 exact ⟨h1,h2,ir l,h4,h5⟩
theorem wz {rs:List NRes} {K:NV->NH->Prop} {ctx:Option NV}:xz rs K .ret ⟨t, [],ctx,m⟩=qG t m rs (fun l=>K (ir l) m):=propext ⟨fun h=>h.2.2,fun h=>⟨.inr rfl,rfl,h⟩⟩
theorem FI {rs:List NRes} {K:NV->NH->Prop} {ctx:Option NV}:xz rs K .norm ⟨t, [],ctx,m⟩=qG t m rs (fun l=>K (ir l) m):=propext ⟨fun h=>h.2.2,fun h=>⟨.inl rfl,rfl,h⟩⟩
theorem LZ {K:List NV->Prop}:qG t m [] K=K []:=_root_.id rfl
theorem LH {K:List NV->Prop} {k:D4} {l:List NRes}:qG t m (.tmp k::l) K=rK (NT.get k t) fun v=>qG t m l fun vs=>K (v::vs):=_root_.id rfl
theorem KR {K:List NV->Prop} {k:D4} {l:List NRes}:qG t m (.cell1 k::l) K=rR (ah (.load1 (.tmp k)) t m) fun v=>qG t m l fun vs=>K (v::vs):=_root_.id rfl
theorem LL {K:List NV->Prop} {k:D4} {n:Nat} {l:List NRes}:qG t m (.cellN k n::l) K=rR (ah (.loadN n (.tmp k)) t m) fun v=>qG t m l fun vs=>K (v::vs):=_root_.id rfl
theorem On {v:NV} {K:NV->Prop}:rR (.val v) K=K v:=_root_.id rfl
theorem FN {v:NV}:ir [v]=v:=_root_.id rfl
theorem Gr {a b:NV} {l:List NV}:ir (a::b::l)= .tup (a::b::l):=_root_.id rfl
theorem WF.of_wpG {P:Program} {S:Nat->List NV->Option NV} {f:Nat} {args:List NV} {nf:NFun} (hs:∀l,S f l=none) (hf:ax P f=some (.code nf)) {K:NV->NH->Prop} {L:List (D4×NV)} (hL:dJ args 0 .leaf=an L .leaf)
 (h:wp P S none nf.body ⟨an L .leaf, [],none,hp [] 0 m⟩ (xz nf.results K)):WF P S f args m K:=by
 rw[ag] at h
 obtain ⟨o,d,h1,h2⟩:=aA _ _ _ h
 obtain ⟨ho,hd,v,hv,hK⟩:=wA h2
 rw[←hL] at h1
 exact ⟨v,d.ctx,d.h,Call.of_run hs hf ho h1 hd hv (by simp),hK⟩
end
end Nm
namespace Nm
open Go Go.RowKit
section
variable {t:Tm} {m:NH}
noncomputable def LD (s:Bool) (z:NV) (ok:Bool) (k:NV) (l:List (NV×NV)):NR:=aS (jC s k l) fun r=>Option.rec (Bool.rec (.val z) (.val (.tup [z,.bool false])) ok) (fun v=>Bool.rec (.val v) (.val (.tup [v,.bool true])) ok) r
noncomputable def NP (s:Bool) (z:NV) (ok:Bool) (k:NV) (o:Option NO):NR:=match o with|some (.map l)=>LD s z ok k l|_=> .fail
noncomputable def OW (s:Bool) (z:NV) (ok:Bool) (m:NH) (x k:NV):NR:=match x with| .nilm=>LD s z ok k []| .map id=>NP s z ok k (m.get id)|_=> .fail
theorem Dd {s ok:Bool} {z:NV} {x i:NOpd}:ah (.lookup s z ok x i) t m=oN (ρ t x) fun x=>oN (ρ t i) fun k=>OW s z ok m x k:=by
 show wV t x (fun x=>wV t i fun k=>jT m x fun l=>aS (jC s k l) fun r=>Option.rec (Bool.rec (.val z) (.val (.tup [z,.bool false])) ok) (fun v=>Bool.rec (.val v) (.val (.tup [v,.bool true])) ok) r)=_
 simp only[bY]
 cases ρ t x with
 |none=>rfl
 |some a=>
  cases ρ t i with
  |none=>rfl
  |some k=>
   cases a<;>try rfl
theorem Nc {s ok:Bool} {z k:NV} {id:D4}:OW s z ok m (.map id) k=NP s z ok k (m.get id):=_root_.id rfl
theorem My {s ok:Bool} {z k:NV} {l:List (NV×NV)}:NP s z ok k (some (.map l))=LD s z ok k l:=_root_.id rfl
theorem FU:ah .mkMap t m= .mem (.map m.next) (m.add (.map [])):=NH.new_eq m (.map []) (fun id h=>NR.mem (.map id) h)
noncomputable def La (s:Bool) (id:D4) (k v:NV) (m:NH) (o:Option NO):NR:=match o with|some (.map l)=>aS (np s k v l) fun l=> .mem aQ (m.put id (.map l))|_=> .fail
noncomputable def O3 (s:Bool) (m:NH) (x k v:NV):NR:=match x with| .map id=>La s id k v m (m.get id)|_=> .fail
theorem F0 {s:Bool} {x i v:NOpd}:ah (.mapUpdate s x i v) t m=oN (ρ t x) fun x=>oN (ρ t i) fun k=>oN (ρ t v) fun v=>O3 s m x k v:=by
 show wV t x (fun m'=>wV t i fun k=>wV t v fun v=>match m' with
  | .map id=>jT m (.map id) fun l=>aS (np s k v l) fun l=>m.set id (.map l) fun h=> .mem aQ h
  |_=> .fail)=_
 simp only[bY]
 cases ρ t x with
 |none=>rfl
 |some a=>
  cases ρ t i with
  |none=>rfl
  |some k=>
   cases ρ t v with
   |none=>rfl
   |some v=>
    cases a<;>first|rfl|skip
    rename_i id
    show (match m.get id with|some (.map l)=>aS (np s k v l) (fun l=>m.set id (.map l) fun h=> .mem aQ h)|_=> .fail)=La s id k v m (m.get id)
    cases m.get id with
    |none=>rfl
    |some o=>
     cases o<;>first|rfl|skip
     dsimp only[La]
     congr 1;funext l;rw[NH.set_eq]
theorem Oi {s:Bool} {k v:NV} {id:D4}:O3 s m (.map id) k v=La s id k v m (m.get id):=_root_.id rfl
abbrev fZ (L:List (List Nat)):List (NV×NV):=L.map fun s=>(.str s,.bool true)
theorem qt {a b:List Nat}:fR true (.str a) (.str b)=some (decide (a=b)):=by
 show some (yg a b)=_
 rw[lC];by_cases h:a=b<;>simp[h]
theorem AQ {s:List Nat}:∀L:List (List Nat),jC true (.str s) (fZ L)=some (if s∈L then some (.bool true) else none):=by
 intro L
 induction L with
 |nil=>rfl
 |cons a L ih=>
  show Option.rec (motive:=fun _=>Option (Option NV)) none (fun b=>cond b (some (some (.bool true))) (jC true (.str s) (fZ L))) (fR true (.str s) (.str a))=_
  rw[qt,ih]
  show cond (decide (s=a)) _ _=_
  by_cases h:s=a
  ·subst h;simp
  ·simp[h]
theorem Ln {s:List Nat} {L:List (List Nat)}:LD true (.bool false) false (.str s) (fZ L)= .val (.bool (decide (s∈L))):=by
 unfold LD
 rw[AQ]
 by_cases h:s∈L
 ·rw[if_pos h];simp only[h,decide_true];rfl
 ·rw[if_neg h];simp only[h,decide_false];rfl
def aP (l:List (List Nat)) (s:List Nat):List (List Nat):=if s∈l then l else l++ [s]
theorem CG {s:List Nat}:∀L:List (List Nat),np true (.str s) (.bool true) (fZ L)=some (fZ (aP L s)):=by
 intro L
 induction L with
 |nil=>rfl
 |cons a L ih=>
  show Option.rec (motive:=fun _=>Option (List (NV×NV))) none (fun b=>cond b (some ((.str s,.bool true)::fZ L)) (Option.rec none (fun t=>some ((.str a,.bool true)::t)) (np true (.str s) (.bool true) (fZ L)))) (fR true (.str s) (.str a))=_
  rw[qt,ih]
  show cond (decide (s=a)) _ _=_
  by_cases h:s=a
  ·subst h;simp[aP]
  ·simp only[h,decide_false,aP,List.mem_cons,false_or]
   by_cases h2:s∈L<;>simp[h2]
theorem KK {id:D4} {s:List Nat} {L:List (List Nat)}:La true id (.str s) (.bool true) m (some (.map (fZ L)))= .mem aQ (m.put id (.map (fZ (aP L s)))):=by
 show aS (np true (.str s) (.bool true) (fZ L)) _=_
 rw[CG];rfl
end
end Nm
namespace Nm
open Go Go.RowKit
theorem sO {k:D4} {v:NV} {L:List (D4×NV)} {t:Tm}:NT.put k v (an L t)=an ((k,v)::L) t:=_root_.id rfl
theorem JE {k:D4} {v:NV} {L:List (D4×NV)} {t:Tm}:NT.put k v (an L t)=an ((k,v)::L) t:=_root_.id rfl
theorem Jr {m:NH} {id:D4}:(hp [] 0 m).get id=m.get id:=by rw[ag]
def D8:Jump->Out
 | .none=> .norm
 | .ret=> .ret
 | .exit i=> .exit i
section
variable {P:Program} {S:Nat->List NV->Option NV}
theorem W.rangeJ {cap:List NV} {fx:NOpd} {ps:List D4} {a b:NC} {t:Tm} {dfs:List Dfr} {ctx:Option NV} {Q:Out->Dyn->Prop} {m m':NH} {v:NV} {f:Nat}
 (hf:ρ t fx=some (.fn f cap)) (hc:bm P S f (.yld (na m 1)::cap) (hp [(.n 1,.loop 0 .none t ps a b),(.n 0,.defd true)] 2 m) v m')
 {st:Nat} {p:Jump} {tm:NT NV} {ps':List D4} {a' b':NC} (hl:m'.get (na m 1)=some (.loop st p tm ps' a' b')) (hst:st≠1) (hQ:Q (D8 p) ⟨t,.mark (na m 0)::dfs,ctx,hp [(.o (na m 1),.loop 3 p tm ps' a' b')] 0 m'⟩) (ho:ay m' (na m 1)):
 W P S none (.rangeFunc fx ps a b) ⟨t,dfs,ctx,m⟩ Q:=by
 have e1:(m.add (.defd true)).next=na m 1:=by rw[←rA];rfl
 have e0:m.next=na m 0:=(su m).symm
 have e2:(m.add (.defd true)).add (.loop 0 .none t ps a b)=hp [(.n 1,.loop 0 .none t ps a b),(.n 0,.defd true)] 2 m:=by rw[←rA m (.defd true),y6]
 rw[←qT ho,ag] at hQ
 rw[←e1] at hQ hl hc
 rw[←e2] at hc
 rw[←e0] at hQ
 obtain ⟨c,hc⟩:=hc
 refine ⟨_,_,eJ.range hf hc ?_,hQ⟩
 unfold eC
 rw[hl]
 dsimp only
 rw[show Nat.beq st 1=false from by cases h:Nat.beq st 1 with|false=>rfl|true=>exact absurd (Nat.eq_of_beq_eq_true h) hst,cond_false,NH.set_eq]
 cases p<;>rfl
end
theorem HV {e bytes:Nat} {m m':NH} {v x v':NV} (h:ES e bytes m v x= .mem v' m'):∀i∈ids v',i∈ids v∨¬ay m i:=by
 have hn:¬ay m m.next:=fun q=>Nat.lt_irrefl _ q
 have new:∀{a b c d:Nat},∀i∈ids (.slc m.next a b c d),i∈ids v∨¬ay m i:=by
  intro a b c d i hi
  rcases List.mem_cons.mp hi with rfl|hi
  ·exact Or.inr hn
  ·exact absurd hi (by simp)
 have key:∀(k:Nat) (nw:List NV),eU e bytes m v k nw= .mem v' m'->∀i∈ids v',i∈ids v∨¬ay m i:=by
  intro k nw h
  cases v with
  |nils=>
   cases k with
   |zero=>cases h
   |succ k=>
    obtain ⟨-,h⟩:=aL (show cond (room (k+1) bytes) (m.new (.cells true nw) fun id h=>NR.mem (.slc id 0 (k+1) e (k+1)) h) .fail=_ from h) (by simp)
    rw[NH.new_eq] at h;cases h;exact new
  |slc id off len e' kc=>
   cases k with
   |zero=>
    obtain ⟨-,h⟩:=aL (show cond (Nat.beq e' e) (NR.val (.slc id off len e' kc)) .fail=_ from h) (by simp)
    cases h
   |succ k=>
    obtain ⟨-,h⟩:=aL (show cond (Nat.beq e' e) (d9 m id fun c=>aw (Nat.add len (k+1)) fun n=>cond (Nat.ble n kc)
     (aS (dr nw (Nat.add off (Nat.mul len e)) c) fun c=>m.set id (.cells true c) fun h=>NR.mem (.slc id off n e kc) h)
     (aS (dk off c) fun c=>aS (gw (Nat.mul len e) c) fun old=>cond (room n bytes)
      (ip old nw fun l=>m.set id .dead fun h=>h.new (.cells true l) fun id h=>NR.mem (.slc id 0 n e n) h) .fail)) .fail=_ from h) (by simp)
    obtain ⟨c,-,h⟩:=eo h (by simp)
    rw[ae] at h
    cases hb:Nat.ble (Nat.add len (k+1)) kc with
    |true=>
     rw[hb] at h
     obtain ⟨c',-,h⟩:=aH h (by simp)
     rw[NH.set_eq] at h
     cases h
     exact fun i hi=>Or.inl hi
    |false=>
     rw[hb] at h
     obtain ⟨c',-,h⟩:=aH h (by simp)
     obtain ⟨c'',-,h⟩:=aH h (by simp)
     obtain ⟨-,h⟩:=aL h (by simp)
     rw[eP,NH.set_eq,NH.new_eq] at h
     cases h
     exact new
  |_=>cases h
 unfold ES at h
 cases x with
 |nils=>exact key 0 [] h
 |slc id off len esz kc=>
  obtain ⟨-,h⟩:=aL (show cond (Nat.beq esz e) (bU m id (fun c=>aS (fu c off (Nat.mul len e)) fun l=>eU e bytes m v len l)) .fail=_ from h) (by simp)
  unfold bU at h
  split at h
  ·obtain ⟨l,-,h⟩:=aH h (by simp)
   exact key _ _ h
  ·cases h
 |_=>cases h
theorem bz.app2 {B m:NH} {v:NV} {e:Nat} {C:List (List NV)} {x:D4} {w:Bool} {cs:List NV} {kc bytes:Nat} (hv:bz B m v e C) (hx:m.get x=some (.cells w cs)) (hox:ay m x) (hl:cs.length=e) (hB:∀id,ay B id->ay m id)
 (hr:(C.length+1)*bytes<=1099511627776) (hr':C.length+1<=1099511627776):∃v' m',ES e bytes m v (.slc x 0 1 e kc)= .mem v' m'/\bz B m' v' e (C++ [cs])/\Chg (ids v) m m'/\∀i∈ids v',i∈ids v∨¬ay m i:=by
 obtain ⟨v',m',h1,h2,h3⟩:=hv.app1 (bytes:=bytes) (kc:=kc) hx hox hl hB hr hr'
 exact ⟨v',m',h1,h2,h3,HV h1⟩
section
variable {P:Program} {S:Nat->List NV->Option NV} {dst:D4} {L:List (D4×NV)} {t:Tm} {dfs:List Dfr} {ctx:Option NV} {l:List NOper} {K:Dyn->Prop} {B m:NH} {v:NV} {e:Nat} {C:List (List NV)} {x:D4} {w:Bool} {cs:List NV} {kc bytes:Nat}
theorem dR (hv:bz B m v e C) (hx:m.get x=some (.cells w cs)) (hox:ay m x) (hl:cs.length=e) (hB:∀id,ay B id->ay m id)
 (hr:(C.length+1)*bytes<=1099511627776) (hr':C.length+1<=1099511627776) (h:∀v' m',bz B m' v' e (C++ [cs])->Chg (ids v) m m'->(∀i∈ids v',i∈ids v∨¬ay m i)->wO P S l ⟨an ((dst,v')::L) t,dfs,ctx,m'⟩ K):
 E3 P S (some dst) (an L t) dfs ctx m (ES e bytes m v (.slc x 0 1 e kc)) l K:=by
 obtain ⟨v',m',h1,h2,h3,h4⟩:=hv.app2 (bytes:=bytes) (kc:=kc) hx hox hl hB hr hr'
 rw[h1]
 exact h v' m' h2 h3 h4
theorem fj (hv:bz B m v e C) (hx:m.get x=some (.cells w cs)) (hox:ay m x) (hl:cs.length=e) (hB:∀id,ay B id->ay m id)
 (hr:(C.length+1)*bytes<=1099511627776) (hr':C.length+1<=1099511627776) (h:∀v' m',bz B m' v' e (C++ [cs])->Chg (ids v) m m'->(∀i∈ids v',i∈ids v∨¬ay m i)->K ⟨an ((dst,v')::L) t,dfs,ctx,hp [] 0 m'⟩):
 LR P S (some dst) (an L t) dfs ctx m (ES e bytes m v (.slc x 0 1 e kc)) K:=by
 obtain ⟨v',m',h1,h2,h3,h4⟩:=hv.app2 (bytes:=bytes) (kc:=kc) hx hox hl hB hr hr'
 rw[h1,Dz]
 have:=h v' m' h2 h3 h4
 rwa [ag] at this
end
section
variable {P:Program} {S:Nat->List NV->Option NV} {f:Nat} {args:List NV} {m:NH} {K:NV->NH->Prop}
theorem WF.use {Φ:NV->NH->Prop} (h:∃v m',bm P S f args m v m'/\Φ v m') (hK:∀v m',Φ v m'->K v m'):WF P S f args m K:=by
 obtain ⟨v,m',h1,h2⟩:=h
 rw[h1.wf'];exact hK v m' h2
theorem WF.useH {Φ:NV->NH->Prop} (h:∃v m',bm P S f args m v m'/\Φ v m') (hK:∀v m',Φ v m'->K v (hp [] 0 m')):WF P S f args m K:=by
 obtain ⟨v,m',h1,h2⟩:=h
 rw[h1.wf];exact hK v m' h2
theorem WF.use1 {v:NV} {Φ:NH->Prop} (h:∃m',bm P S f args m v m'/\Φ m') (hK:∀m',Φ m'->K v m'):WF P S f args m K:=by
 obtain ⟨m',h1,h2⟩:=h
 rw[h1.wf'];exact hK m' h2
theorem WF.use1H {v:NV} {Φ:NH->Prop} (h:∃m',bm P S f args m v m'/\Φ m') (hK:∀m',Φ m'->K v (hp [] 0 m')):WF P S f args m K:=by
 obtain ⟨m',h1,h2⟩:=h
 rw[h1.wf];exact hK m' h2
end
section
variable {P:Program} {S:Nat->List NV->Option NV} {r:Option D4} {a b:NC} {d:Dyn} {Q:Out->Dyn->Prop}
theorem NK {c:NC} (Φ:Dyn->Prop) (h1:∀R:Dyn->Prop,(∀d',Φ d'->R d')->wp P S r a d (cW (Dy P S r b (cW R Q)) Q)) (h2:∀d',Φ d'->wp P S r c d' Q):wp P S r (.seq a (.seq b c)) d Q:=h1 _ h2
theorem Of {c e:NC} (Φ:Dyn->Prop) (h1:∀R:Dyn->Prop,(∀d',Φ d'->R d')->wp P S r a d (cW (Dy P S r b (cW (Dy P S r c (cW R Q)) Q)) Q)) (h2:∀d',Φ d'->wp P S r e d' Q):wp P S r (.seq a (.seq b (.seq c e))) d Q:=h1 _ h2
theorem NG {c e g:NC} (Φ:Dyn->Prop) (h1:∀R:Dyn->Prop,(∀d',Φ d'->R d')->wp P S r a d (cW (Dy P S r b (cW (Dy P S r c (cW (Dy P S r e (cW R Q)) Q)) Q)) Q)) (h2:∀d',Φ d'->wp P S r g d' Q):wp P S r (.seq a (.seq b (.seq c (.seq e g)))) d Q:=h1 _ h2
theorem gD (Φ:Dyn->Prop) (h1:∀R:Dyn->Prop,(∀d',Φ d'->R d')->wp P S r a d (cW R Q)) (h2:∀d',Φ d'->wp P S r b d' Q):wp P S r (.seq a b) d Q:=h1 _ h2
end
section
variable {P:Program} {S:Nat->List NV->Option NV} {q:D4} {args:List NV} {m:NH} {K:NV->NH->Prop}
theorem WY.use1 {v:NV} {Φ:NH->Prop} (h:∃m',vH P S q args m v m'/\Φ m') (hK:∀m',Φ m'->K v m'):WY P S q args m K:=by
 obtain ⟨m',h1,h2⟩:=h
 rw[h1.wy,ag];exact hK m' h2
end
section
variable {P:Program} {S:Nat->List NV->Option NV} {f:Nat} {q:D4} {args:List NV} {m:NH}
theorem WF.ex1 {v:NV} {Φ:NH->Prop} (h:∀K:NV->NH->Prop,(∀m',Φ m'->K v m')->WF P S f args m K):∃m',bm P S f args m v m'/\Φ m':=by
 obtain ⟨w,m',h1,rfl,h2⟩:=WF.ret (h (fun w m'=>w=v/\Φ m') fun m' h=>⟨rfl,h⟩)
 exact ⟨m',h1,h2⟩
theorem WY.ex1 {v:NV} {Φ:NH->Prop} (h:∀K:NV->NH->Prop,(∀m',Φ m'->K v m')->WY P S q args m K):∃m',vH P S q args m v m'/\Φ m':=by
 obtain ⟨w,m',h1,rfl,h2⟩:=WY.ret (h (fun w m'=>w=v/\Φ m') fun m' h=>⟨rfl,h⟩)
 exact ⟨m',h1,h2⟩
end
end Nm
namespace Nm
open Go Go.RowKit
def qh (P:Program):List Field->Nat->Nat->Bool
 | [],o,n=>o==n
 |f::fs,o,n=>(f.offset==o)&&qh P fs (o+P.cellsOf f.type) n
def jK (P:Program) (T:List TypeId) (t:TypeId):Bool:=match P.underlying t with
 |some .bool|some (.int _)|some .string=>true
 |some (.slice e)=>T.contains e&&decide (0<P.cellsOf e)
 |some (.struct fs)=>fs.toList.all (fun f=>T.contains f.type)&&qh P fs.toList 0 (P.cellsOf t)
 |_=>false
def zL (P:Program) (T:List TypeId):Bool:=T.all (jK P T)
mutual
inductive Ty (P:Program) (m:NH):TypeId->List NV->Prop
 |bool {t:TypeId} (ht:P.underlying t=some .bool) (b:Bool):Ty P m t [.bool b]
 |int {t:TypeId} {k:IntKind} (ht:P.underlying t=some (.int k)) (n:Int) (h:(Lit.int k n).wf=true):Ty P m t [.int k (.lit n)]
 |str {t:TypeId} (ht:P.underlying t=some .string) (l:List Nat) (h:∀b∈l,b<256) (hl:l.length<=maxLen):Ty P m t [.str l]
 |slc {t e:TypeId} (ht:P.underlying t=some (.slice e)) (v:NV) (C:List (List NV)) (hS:Sl m v (P.cellsOf e) C) (hl:C.length<=maxLen) (h:∀c∈C,Ty P m e c):Ty P m t [v]
 |struct {t:TypeId} {fs:Array Field} (ht:P.underlying t=some (.struct fs)) (l:List NV) (h:TyL P m (fs.toList.map (·.type)) l):Ty P m t l
inductive TyL (P:Program) (m:NH):List TypeId->List NV->Prop
 |nil:TyL P m [] []
 |cons {t:TypeId} {ts:List TypeId} (a b:List NV) (h:Ty P m t a) (hl:TyL P m ts b):TyL P m (t::ts) (a++b)
end
mutual
theorem Ty.grew {P:Program} {m m':NH} (hC:Chg [] m m'):∀{t:TypeId} {l:List NV},Ty P m t l->Ty P m' t l
 |_,_,.bool ht b=> .bool ht b
 |_,_,.int ht n h=> .int ht n h
 |_,_,.str ht l h hl=> .str ht l h hl
 |_,_,.slc ht v C hS hl h=> .slc ht v C (hS.grew hC) hl (fun c hc=>(h c hc).grew hC)
 |_,_,.struct ht l h=> .struct ht l (TyL.grew hC h)
theorem TyL.grew {P:Program} {m m':NH} (hC:Chg [] m m'):∀{ts:List TypeId} {l:List NV},TyL P m ts l->TyL P m' ts l
 |_,_,.nil=> .nil
 |_,_,.cons a b h hl=> .cons a b (h.grew hC) (TyL.grew hC hl)
end
section
variable [Val]
def Ro (P:Program) (W:World) (ι:aW) (m:NH):Prop:=Rel P ι W.heap.size m W/\∀i p,ι i=some p->¬Live (m.get i)
def ext (ι:aW) (i:D4) (p:Pl):aW:=fun j=>if j.toNat=i.toNat then some p else ι j
theorem Ro.add {P:Program} {W:World} {ι:aW} {m:NH} (h:Ro P W ι m) {b o:Nat} {c:List NV} {cur:Array Value} {T:TypeId} {fz:Nat×Nat} (hb:W.heap[b]? =some (.cells cur T fz)) (hn:o+c.length<=cur.size)
 (hc:∀i v,c[i]? =some v->∃v',cur[o+i]? =some v'/\VR ι v v'/\v'.oneCell'=true):
 ∃ι' m',Ro P W ι' m'/\ι.le ι'/\Chg [] m m'/\ι' m.next=some ⟨b,o,cur.size⟩/\m'.get m.next=some (.cells false c)/\ay m' m.next:=by
 obtain ⟨hR,hL⟩:=h
 have hold:∀i p,ι i=some p->ay m i:=fun i p hi=>by
  obtain ⟨x,hx,_⟩:=hR.obj i p hi
  exact hR.fresh i x hx
 have hext:∀i p,ι i=some p->ext ι m.next ⟨b,o,cur.size⟩ i=some p:=fun i p hi=>by
  unfold ext;rw[if_neg (Nat.ne_of_lt (hold i p hi))];exact hi
 have hle:ι.le (ext ι m.next ⟨b,o,cur.size⟩):=hext
 have hinv:∀i p,ext ι m.next ⟨b,o,cur.size⟩ i=some p->(i=m.next/\p=⟨b,o,cur.size⟩)∨(ι i=some p/\i≠m.next):=fun i p hi=>by
  unfold ext at hi
  by_cases e:i.toNat=m.next.toNat
  ·rw[if_pos e] at hi;injection hi with hi;exact Or.inl ⟨D4.toNat_inj e,hi.symm⟩
  ·rw[if_neg e] at hi;exact Or.inr ⟨hi,fun q=>e (by rw[q])⟩
 have hnl:∀i p,ext ι m.next ⟨b,o,cur.size⟩ i=some p->¬Live ((m.add (.cells false c)).get i):=fun i p hi=>by
  rcases hinv i p hi with ⟨rfl,_⟩|⟨hi,hne⟩
  ·rw[NH.get_add_same];exact fun q=>q.2 c rfl
  ·rw[NH.get_add_ne _ _ hne];exact hL i p hi
 refine ⟨ext ι m.next ⟨b,o,cur.size⟩,m.add (.cells false c),⟨⟨?_, ?_, ?_, ?_, ?_⟩,hnl⟩,hle,Chg.add m _,by unfold ext;rw[if_pos rfl],NH.get_add_same m _,jh m _⟩
 ·intro i p hi
  rcases hinv i p hi with ⟨rfl,rfl⟩|⟨hi,hne⟩
  ·refine ⟨.cells false c,NH.get_add_same m _, ?_⟩
   show ∃(cur':Array Value) (T:TypeId) (fz:Nat×Nat),W.heap[b]? =some (.cells cur' T fz)/\(false=true->fz=(0,0))/\cur'.size=cur.size/\o+c.length<=cur.size/\∀i v,c[i]? =some v->∃v',cur'[o+i]? =some v'/\VR (ext ι m.next ⟨b,o,cur.size⟩) v v'/\v'.oneCell'=true
   refine ⟨cur,T,fz,hb,fun q=>Bool.noConfusion q,rfl,hn,fun i v hv=> ?_⟩
   obtain ⟨v',h1,h2,h3⟩:=hc i v hv
   exact ⟨v',h1,h2.mono hle,h3⟩
  ·obtain ⟨x,h1,h2⟩:=hR.obj i p hi
   exact ⟨x,(NH.get_add_ne m _ hne).trans h1,h2.mono hle rfl⟩
 ·intro i j p q hi hj hne hl _
  exact absurd hl (hnl i p hi)
 ·intro i p hi hl;exact absurd hl (hnl i p hi)
 ·intro i p hi
  rcases hinv i p hi with ⟨rfl,rfl⟩|⟨hi,_⟩
  ·exact (Array.getElem?_eq_some_iff.mp hb).1
  ·exact hR.lt i p hi
 ·intro i x hx
  by_cases e:i=m.next
  ·subst e;exact jh m _
  ·rw[NH.get_add_ne _ _ e] at hx
   exact (Chg.add m (.cells false c)).old (hR.fresh i x hx)
theorem Ro.nil (P:Program) (W:World):Ro P W ι0 ⟨.leaf,.e⟩:=⟨LW P W,fun i p h=>by cases h⟩
omit [Val] in
theorem Da (a:Addr) (j:Nat):(a.add j).block=a.block:=by unfold Addr.add;split<;>rfl
omit [Val] in
theorem Kb (a:Addr) (j:Nat):(a.add j).off=a.off+j:=by
 unfold Addr.add;split
 ·rename_i h;subst h;rfl
 ·rfl
omit [Val] in
theorem wo (a:Addr) (m n:Nat):(a.add m).add n=a.add (m+n):=by
 unfold Addr.add
 by_cases h:n=0
 ·subst h;simp
 ·by_cases h':m=0
  ·subst h';simp
  ·simp[h,h'];omega
omit [Val] in
theorem nA {w:World} {a:Addr} {v:Value} (h:w.cell? a=some v):∃cur T fz,w.heap[a.block]? =some (.cells cur T fz)/\cur[a.off]? =some v:=by
 unfold World.cell? at h
 split at h
 ·rename_i cur T fz hb
  refine ⟨cur,T,fz,hb, ?_⟩
  split at h
  ·cases h
  ·exact h
 ·cases h
theorem VRL.append {ι:aW} {a:List NV} {a':List Value} {b:List NV} {b':List Value} (h:VRL ι a a') (k:VRL ι b b'):VRL ι (a++b) (a'++b'):=by
 induction a generalizing a' with
 |nil=>cases h;exact k
 |cons v l ih=>cases h with
  |cons _ v' _ l' h hl=>exact .cons _ _ _ _ h (ih hl)
def Cs (W:World) (ι:aW) (a:Addr) (l:List NV):Prop:=∀(j:Nat) (v:NV),l[j]? =some v->∃v',W.cell? (a.add j)=some v'/\VR ι v v'/\v'.oneCell'=true
theorem Cs.mono {W:World} {ι ι':aW} (hι:ι.le ι') {a:Addr} {l:List NV} (h:Cs W ι a l):Cs W ι' a l:=fun j v hv=>let ⟨v',h1,h2,h3⟩:=h j v hv;⟨v',h1,h2.mono hι,h3⟩
theorem Gf {P:Program} {W:World} {T:List TypeId} (hT:zL P T=true) (hne:∃(b:Nat) (cur:Array Value) (T:TypeId) (fz:Nat×Nat),W.heap[b]? =some (.cells cur T fz)) {H:Type} {enc:TypeId×Value->H}:∀(n:Nat) (t:TypeId),t∈T->∀(cs:List Value) (x:DataW H×List MemPlace),DataW.trod enc P W 0 (fun _=>true) true n t cs=some x->
 ∀(ι:aW) (m:NH),Ro P W ι m->∃ι' m' l,Ro P W ι' m'/\ι.le ι'/\Chg [] m m'/\VRL ι' l cs/\(∀v∈cs,v.oneCell'=true)/\Ty P m' t l:=by
 intro n
 induction n with
 |zero=>intro t _ cs x h;simp[DataW.trod] at h
 |succ n ih=>
  intro t ht cs x h ι m hR
  have hok:jK P T t=true:=List.all_eq_true.mp hT t ht
  unfold jK at hok
  split at hok
  ·rename_i hu
   obtain ⟨b,rfl,_⟩:=DataW.trod_bool hu h
   exact ⟨ι,m, [.bool b],hR,aW.le_refl ι,Chg.refl m,.cons _ _ _ _ (.bool b) .nil,by simp[Value.oneCell'],.bool hu b⟩
  ·rename_i k hu
   obtain ⟨z,rfl,_,hw⟩:=DataW.trod_int hu h
   exact ⟨ι,m, [.int k (.lit z)],hR,aW.le_refl ι,Chg.refl m,.cons _ _ _ _ (.int k z) .nil,by simp[Value.oneCell'],.int hu z hw⟩
  ·rename_i hu
   obtain ⟨s,rfl,_,hs⟩:=DataW.trod_string hu h
   refine ⟨ι,m, [.str (s.data.toList.map UInt8.toNat)],hR,aW.le_refl ι,Chg.refl m,.cons _ _ _ _ (.str _ s rfl) .nil,by simp[Value.oneCell'],.str hu _ ?_ ?_⟩
   ·intro b hb
    obtain ⟨c,_,rfl⟩:=List.mem_map.mp hb
    exact c.toNat_lt
   ·rw[List.length_map];exact hs
  ·rename_i e hu
   rw[Bool.and_eq_true,decide_eq_true_eq] at hok
   obtain ⟨he,hce⟩:=hok
   have he:e∈T:=by simpa using he
   rcases DataW.trod_slice hu h with ⟨rfl,_⟩|⟨a,len,cap,elems,rest,n',hn',rfl,_,_,hlc,hcm,hel,hE,hS,_⟩
   ·exact ⟨ι,m, [.nils],hR,aW.le_refl ι,Chg.refl m,.cons _ _ _ _ .nils .nil,by simp[Value.oneCell'],.slc hu .nils [] Sl.nil (by simp) (by simp)⟩
   ·have hn':n'=n:=by omega
    subst hn'
    obtain ⟨hrl,hS⟩:=hS rfl
    have go:∀k,k<=len->∃(ι':aW) (m':NH) (C:List (List NV)),Ro P W ι' m'/\ι.le ι'/\Chg [] m m'/\C.length=k/\(∀c∈C,Ty P m' e c/\c.length=P.cellsOf e)/\Cs W ι' a C.flatten:=by
     intro k
     induction k with
     |zero=>intro _;exact ⟨ι,m, [],hR,aW.le_refl ι,Chg.refl m,rfl,by simp,fun j v hv=>by simp at hv⟩
     |succ k ihk=>
      intro hk
      obtain ⟨ι1,m1,C,hR1,hle1,hC1,hlen,hall,hcs⟩:=ihk (by omega)
      have hEk:=hE k (by omega)
      rw[List.getElem?_eq_getElem (by omega)] at hEk
      obtain ⟨cs',h1,h2⟩:=Option.bind_eq_some_iff.mp hEk
      obtain ⟨_,hl',hcell⟩:=World.cells?_some h1
      obtain ⟨ι2,m2,l,hR2,hle2,hC2,hvr,hone,hty⟩:=ih e he cs' _ h2 ι1 m1 hR1
      have hll:=hvr.length
      have hfl:C.flatten.length=k*P.cellsOf e:=by rw[fg fun c hc=>(hall c hc).2,hlen]
      refine ⟨ι2,m2,C++ [l],hR2,hle1.trans hle2,hC1.trans hC2 (fun _ h _=>h),by simp[hlen], ?_, ?_⟩
      ·intro c hc
       rcases List.mem_append.mp hc with hc|hc
       ·exact ⟨(hall c hc).1.grew hC2,(hall c hc).2⟩
       ·simp at hc;subst hc;exact ⟨hty,by omega⟩
      ·intro j v hv
       rw[List.flatten_append] at hv
       by_cases hj:j<C.flatten.length
       ·rw[List.getElem?_append_left hj] at hv
        exact (hcs.mono hle2) j v hv
       ·rw[List.getElem?_append_right (by omega)] at hv
        simp only[List.flatten_cons,List.flatten_nil,List.append_nil] at hv
        obtain ⟨v',h3,h4⟩:=hvr.get hv
        have hjl:j - C.flatten.length<cs'.length:=by
         rcases Nat.lt_or_ge (j - C.flatten.length) cs'.length with q|q
         ·exact q
         ·rw[List.getElem?_eq_none q] at h3;cases h3
        refine ⟨v', ?_,h4,hone v' (List.mem_of_getElem? h3)⟩
        have:=hcell (j - C.flatten.length) (by omega)
        rw[h3] at this
        rw[←this]
        rw[wo]
        congr 2
        omega
    obtain ⟨ι1,m1,C,hR1,hle1,hC1,hlen,hall,hcs⟩:=go len (Nat.le_refl _)
    have hfl:C.flatten.length=len*P.cellsOf e:=by rw[fg fun c hc=>(hall c hc).2,hlen]
    have hend:∀(b o:Nat) (cur:Array Value) (T':TypeId) (fz:Nat×Nat) (c:List NV),W.heap[b]? =some (.cells cur T' fz)->o+c.length<=cur.size->(∀i v,c[i]? =some v->∃v',cur[o+i]? =some v'/\VR ι1 v v'/\v'.oneCell'=true)->
     (0<cap->a=⟨b,o,none⟩/\o+cap*P.cellsOf e<=cur.size)->c=C.flatten->
     ∃ι' m' l,Ro P W ι' m'/\ι.le ι'/\Chg [] m m'/\VRL ι' l [.slice (some a) len cap]/\(∀v∈ [Value.slice (some a) len cap],v.oneCell'=true)/\Ty P m' t l:=by
     rintro b o cur T' fz c hb hoc hcc ha rfl
     obtain ⟨ι2,m2,hR2,hle2,hC2,hi2,hg2,ho2⟩:=hR1.add hb hoc hcc
     refine ⟨ι2,m2, [.slc m1.next 0 len (P.cellsOf e) 0],hR2,hle1.trans hle2,hC1.trans hC2 (fun _ h _=>h),.cons _ _ _ _ (.slc _ _ _ _ _ _ a cap hi2 hlc (Nat.zero_le _) hcm hce fun hc=> ?_) .nil,by simp[Value.oneCell'], ?_⟩
     ·obtain ⟨h1,h2⟩:=ha hc
      exact ⟨h1,by simpa using h2⟩
     ·refine .slc hu _ C ⟨fun c hc=>(hall c hc).2,Or.inr ⟨m1.next,0,0,false,_,by rw[hlen],hg2,ho2, ?_, ?_⟩⟩ (by rw[hlen];omega) fun c hc=>((hall c hc).1).grew hC2
      ·rw[hfl,hlen];omega
      ·rw[List.drop_zero,hlen,←hfl,List.take_length]
    by_cases hcap:cap=0
    ·have hl0:len=0:=by omega
     have hC0:C= []:=List.length_eq_zero_iff.mp (by omega)
     subst hC0
     obtain ⟨b,cur,T',fz,hb⟩:=hne
     exact hend b 0 cur T' fz [] hb (by simp) (fun i v hv=>by simp at hv) (fun h=>by omega) rfl
    ·
     have cells:∀i,i<cap->∃cs',W.cells? 0 (a.add (i*P.cellsOf e)) (P.cellsOf e)=some cs':=by
      intro i hi
      rcases Nat.lt_or_ge i len with h|h
      ·have:=hE i h
       rw[List.getElem?_eq_getElem (by omega)] at this
       obtain ⟨cs',h1,_⟩:=Option.bind_eq_some_iff.mp this
       exact ⟨cs',h1⟩
      ·have:=hS (i - len) (by omega)
       rw[List.getElem?_eq_getElem (by omega),show len+(i - len)=i by omega] at this
       obtain ⟨cs',h1,_⟩:=Option.bind_eq_some_iff.mp this
       exact ⟨cs',h1⟩
     obtain ⟨cs0,h0⟩:=cells 0 (by omega)
     obtain ⟨_,hl0,hc0⟩:=World.cells?_some h0
     have hv0:=hc0 0 hce
     rw[List.getElem?_eq_getElem (by omega)] at hv0
     have hsp:=World.cell?_spot hv0
     obtain ⟨cur,T',fz,hb,_⟩:=nA hv0
     have hab:(a.add (0*P.cellsOf e)).add 0=a:=by rw[wo];simp[Addr.add]
     rw[hab] at hsp hb
     have hin:∀j v',W.cell? (a.add j)=some v'->cur[a.off+j]? =some v':=by
      intro j v' h
      obtain ⟨cur',T2,fz2,hb',hc'⟩:=nA h
      rw[Da] at hb'
      rw[Kb] at hc'
      rw[hb] at hb'
      injection hb' with hb'
      injection hb' with hb' _ _
      subst hb'
      exact hc'
     obtain ⟨cs1,h1⟩:=cells (cap - 1) (by omega)
     obtain ⟨_,hl1,hc1⟩:=World.cells?_some h1
     have hv1:=hc1 (P.cellsOf e - 1) (by omega)
     rw[List.getElem?_eq_getElem (by omega)] at hv1
     have hmul:(cap - 1)*P.cellsOf e+P.cellsOf e=cap*P.cellsOf e:=by
      rw[←Nat.succ_mul];congr 1;omega
     have hlast:cur[a.off+(cap*P.cellsOf e - 1)]? =some cs1[P.cellsOf e - 1]:=by
      refine hin (cap*P.cellsOf e - 1) _ ?_
      rw[←hv1]
      rw[wo]
      congr 2
      omega
     have hsz:a.off+(cap*P.cellsOf e - 1)<cur.size:=(Array.getElem?_eq_some_iff.mp hlast).1
     have hcapp:0<cap*P.cellsOf e:=Nat.mul_pos (by omega) hce
     have hlm:len*P.cellsOf e<=cap*P.cellsOf e:=Nat.mul_le_mul_right _ hlc
     refine hend a.block a.off cur T' fz C.flatten hb (by omega) (fun i v hv=> ?_) (fun _=>⟨by cases a;simp at hsp;simp[hsp],by omega⟩) rfl
     obtain ⟨v',q1,q2,q3⟩:=hcs i v hv
     exact ⟨v',hin i v' q1,q2,q3⟩
  ·rename_i fs hu
   rw[Bool.and_eq_true] at hok
   obtain ⟨hft,htl⟩:=hok
   obtain ⟨xs,n',hn',_,hcl,hxl,hF⟩:=DataW.trod_struct hu h
   have hn':n'=n:=by omega
   subst hn'
   have go:∀(fl:List Field) (o:Nat) (ys:List (DataW H×List MemPlace)),(∀f∈fl,f.type∈T)->qh P fl o (P.cellsOf t)=true->o<=cs.length->(∀(i:Nat) (f:Field),fl[i]? =some f->∃y,DataW.trod enc P W 0 (fun _=>true) true n' f.type ((cs.drop f.offset).take (P.cellsOf f.type))=some y)->
    ∀(ι:aW) (m:NH),Ro P W ι m->∃ι' m' l,Ro P W ι' m'/\ι.le ι'/\Chg [] m m'/\VRL ι' l (cs.drop o)/\(∀v∈cs.drop o,v.oneCell'=true)/\TyL P m' (fl.map (·.type)) l:=by
    intro fl
    induction fl with
    |nil=>
     intro o ys _ htl _ _ ι m hR
     have ho:o=cs.length:=by rw[hcl];exact of_decide_eq_true htl
     subst ho
     rw[List.drop_length]
     exact ⟨ι,m, [],hR,aW.le_refl ι,Chg.refl m,.nil,by simp,.nil⟩
    |cons f fl ihf=>
     intro o ys hfT htl ho hF ι m hR
     have htl:((f.offset==o)&&qh P fl (o+P.cellsOf f.type) (P.cellsOf t))=true:=htl
     rw[Bool.and_eq_true,beq_iff_eq] at htl
     obtain ⟨rfl,htl⟩:=htl
     obtain ⟨y,hy⟩:=hF 0 f rfl
     obtain ⟨ι1,m1,l1,hR1,hle1,hC1,hvr1,hone1,hty1⟩:=ih f.type (hfT f (List.mem_cons_self ..)) _ y hy ι m hR
     have hle:f.offset+P.cellsOf f.type<=cs.length:=by
      have:∀(fl:List Field) (o:Nat),qh P fl o (P.cellsOf t)=true->o<=P.cellsOf t:=by
       intro fl
       induction fl with
       |nil=>intro o h;exact Nat.le_of_eq (of_decide_eq_true h)
       |cons g fl ih=>
        intro o h
        have h:((g.offset==o)&&qh P fl (o+P.cellsOf g.type) (P.cellsOf t))=true:=h
        rw[Bool.and_eq_true] at h
        have:=ih _ h.2
        omega
      have:=this fl _ htl
      omega
     obtain ⟨ι2,m2,l2,hR2,hle2,hC2,hvr2,hone2,hty2⟩:=ihf (f.offset+P.cellsOf f.type) [] (fun g hg=>hfT g (List.mem_cons_of_mem _ hg)) htl hle (fun i g hg=>hF (i+1) g (by simpa using hg)) ι1 m1 hR1
     have hsplit:cs.drop f.offset=(cs.drop f.offset).take (P.cellsOf f.type)++cs.drop (f.offset+P.cellsOf f.type):=by
      rw[←List.drop_drop,List.take_append_drop]
     refine ⟨ι2,m2,l1++l2,hR2,hle1.trans hle2,hC1.trans hC2 (fun _ h _=>h), ?_, ?_,.cons l1 l2 (hty1.grew hC2) hty2⟩
     ·rw[hsplit];exact VRL.append (hvr1.mono hle2) hvr2
     ·rw[hsplit];intro v hv
      rcases List.mem_append.mp hv with hv|hv
      ·exact hone1 v hv
      ·exact hone2 v hv
   obtain ⟨ι',m',l,h1,h2,h3,h4,h5,h6⟩:=go fs.toList 0 [] (fun f hf=>by simpa using List.all_eq_true.mp hft f hf) htl (Nat.zero_le _) (fun i f hf=>by
    have hi:i<xs.length:=by
     rcases Nat.lt_or_ge i fs.toList.length with q|q
     ·rw[hxl];simpa using q
     ·rw[List.getElem?_eq_none q] at hf;cases hf
    exact ⟨xs[i],by rw[hF i f (by simpa using hf),List.getElem?_eq_getElem hi]⟩) ι m hR
   rw[List.drop_zero] at h4 h5
   exact ⟨ι',m',l,h1,h2,h3,h4,h5,.struct hu l h6⟩
  ·cases hok
inductive TyA (P:Program) (m:NH):List TypeId->List NV->Prop
 |nil:TyA P m [] []
 |one {t:TypeId} {ts:List TypeId} {l:List NV} (x:NV) (hn:∀fs,P.underlying t≠some (.struct fs)) (h:Ty P m t [x]) (hl:TyA P m ts l):TyA P m (t::ts) (x::l)
 |agg {t:TypeId} {ts:List TypeId} {l:List NV} {fs:Array Field} (c:List NV) (ht:P.underlying t=some (.struct fs)) (h:Ty P m t c) (hl:TyA P m ts l):TyA P m (t::ts) (.agg c::l)
omit [Val] in
theorem TyA.grew {P:Program} {m m':NH} (hC:Chg [] m m'):∀{ts:List TypeId} {l:List NV},TyA P m ts l->TyA P m' ts l
 |_,_,.nil=> .nil
 |_,_,.one x hn h hl=> .one x hn (h.grew hC) (TyA.grew hC hl)
 |_,_,.agg c ht h hl=> .agg c ht (h.grew hC) (TyA.grew hC hl)
omit [Val] in
theorem BU {P:Program} {W:World} {base:Nat} {t:TypeId} {v:Value} (hok:∀fs,P.underlying t≠some (.struct fs)) (h:Value.okWide P W .any base t v) (ht:jK P [] t=true∨∃e,P.underlying t=some (.slice e)):v.cells=#[v]:=by
 unfold Value.okWide at h
 rcases ht with ht|⟨e,hu⟩
 ·unfold jK at ht
  split at ht
  ·rename_i hu;rw[hu] at h;unfold Cell.okWide Cell.ok at h;rw[hu] at h;dsimp only at h;cases v<;>first|rfl|exact h.elim
  ·rename_i hu;rw[hu] at h;unfold Cell.okWide Cell.ok at h;rw[hu] at h;dsimp only at h;cases v<;>first|rfl|exact h.elim
  ·rename_i hu;rw[hu] at h;unfold Cell.okWide Cell.ok at h;rw[hu] at h;dsimp only at h;cases v<;>first|rfl|exact h.elim
  ·rename_i e hu;rw[hu] at h;unfold Cell.okWide Cell.ok at h;rw[hu] at h;dsimp only at h;cases v<;>first|rfl|exact h.elim
  ·rename_i fs hu;exact absurd hu (hok fs)
  ·cases ht
 ·rw[hu] at h;unfold Cell.okWide Cell.ok at h;rw[hu] at h;dsimp only at h;cases v<;>first|rfl|exact h.elim
theorem BE {P:Program} {W:World} {T:List TypeId} (hT:zL P T=true) (hne:∃(b:Nat) (cur:Array Value) (T:TypeId) (fz:Nat×Nat),W.heap[b]? =some (.cells cur T fz)) {base:Nat} {H:Type} {enc:TypeId×Value->H}:
 ∀(ts:List TypeId) (args:List Value) (ds:List (DataW H)) (ps:List MemPlace),(∀t∈ts,t∈T)->DataW.TrodAll enc P W 0 (fun _=>true) true ts args ds ps->(∀(j:Nat) t v,ts[j]? =some t->args[j]? =some v->Value.okWide P W .any base t v)->
 ∀(ι:aW) (m:NH),Ro P W ι m->∃ι' m' l,Ro P W ι' m'/\ι.le ι'/\Chg [] m m'/\VRL ι' l args/\TyA P m' ts l:=by
 intro ts
 induction ts with
 |nil=>
  intro args ds ps _ h _ ι m hR
  cases args with
  |nil=>exact ⟨ι,m, [],hR,aW.le_refl ι,Chg.refl m,.nil,.nil⟩
  |cons=>cases h
 |cons t ts ih=>
  intro args ds ps hts h hval ι m hR
  cases args with
  |nil=>cases h
  |cons v args=>
   cases ds with
   |nil=>cases h
   |cons d ds=>
    obtain ⟨p,q,⟨n,hd⟩,hr,_⟩:=h
    obtain ⟨ι1,m1,c,hR1,hle1,hC1,hv1,hone1,hty1⟩:=Gf hT hne n t (hts t (List.mem_cons_self ..)) _ _ hd ι m hR
    obtain ⟨ι2,m2,l,hR2,hle2,hC2,hv2,hty2⟩:=ih args ds q (fun t ht=>hts t (List.mem_cons_of_mem _ ht)) hr (fun j t v h1 h2=>hval (j+1) t v (by simpa using h1) (by simpa using h2)) ι1 m1 hR1
    have hv:=hval 0 t v rfl rfl
    have hok:jK P T t=true:=List.all_eq_true.mp hT t (hts t (List.mem_cons_self ..))
    have hC:=hC1.trans hC2 (fun _ h _=>h)
    by_cases hst:∃fs,P.underlying t=some (.struct fs)
    ·obtain ⟨fs,hu⟩:=hst
     have hv':=hv
     unfold Value.okWide at hv'
     rw[hu] at hv'
     obtain ⟨cs,rfl,_,_⟩:=hv'
     refine ⟨ι2,m2,.agg c::l,hR2,hle1.trans hle2,hC,.cons _ _ _ _ ?_ hv2,.agg c hu (hty1.grew hC2) hty2⟩
     have:=VR.agg (ι:=ι2) c cs.toList (hv1.mono hle2) hone1
     simpa using this
    ·have hn:∀fs,P.underlying t≠some (.struct fs):=fun fs q=>hst ⟨fs,q⟩
     have hc:v.cells=#[v]:=by
      refine BU hn hv ?_
      unfold jK at hok ⊢
      split at hok
      ·rename_i hu;exact Or.inl rfl
      ·rename_i hu;exact Or.inl rfl
      ·rename_i hu;exact Or.inl rfl
      ·rename_i e hu;exact Or.inr ⟨e,hu⟩
      ·rename_i fs hu;exact absurd hu (hn fs)
      ·cases hok
     rw[hc] at hv1
     cases hv1 with
     |cons x _ xl _ hx hxl=>
      cases hxl
      exact ⟨ι2,m2,x::l,hR2,hle1.trans hle2,hC,.cons _ _ _ _ (hx.mono hle2) hv2,.one x hn (hty1.grew hC2) hty2⟩
theorem AO {P:Program} (hM:P.follows .mixedOrders=true) (hP:P.check= .ok ()) {S:Nat->List NV->Option NV} (hS:kK P S) {T:List TypeId} (hT:zL P T=true) {f:Nat} {nf:NFun} (hf:ax P f=some (.code nf)) (hs:∀l,S f l=none) {ts:List TypeId} (hts:∀t∈ts,t∈T)
 (law:∀(m:NH) (l:List NV),TyA P m ts l->∃m',bm P S f l m (.bool true) m') {W:World} (hne:∃(b:Nat) (cur:Array Value) (T:TypeId) (fz:Nat×Nat),W.heap[b]? =some (.cells cur T fz)) {base:Nat} {H:Type} {enc:TypeId×Value->H} {args:List Value} {ds:List (DataW H)} {ps:List MemPlace}
 (h:DataW.TrodAll enc P W 0 (fun _=>true) true ts args ds ps) (hval:∀(j:Nat) t v,ts[j]? =some t->args[j]? =some v->Value.okWide P W .any base t v):
 Calls P f args.toArray W fun e W'=>e= .returned (.bool true)/\Below W.heap.size W W':=by
 obtain ⟨ι,m,l,hR,_,_,hv,hty⟩:=BE hT hne ts args ds ps hts h hval ι0 ⟨.leaf,.e⟩ (Ro.nil P W)
 obtain ⟨m',c,hc⟩:=law m l hty
 refine (CJ hM hP hS hf (hs l) hc hR.1 hR.2 hv).mono ?_
 rintro e W' ⟨⟨ι',v',rfl,h1,_,_⟩,hb⟩
 cases h1
 exact ⟨rfl,hb⟩
omit [Val] in
theorem qa {P:Program} (hl:laidOutB P=true) {W W':World} (hb:Below W.heap.size W W') {H:Type} {enc:TypeId×Value->H} {sp:Nat->Bool}:∀(ts:List TypeId) (args:List Value) (ds:List (DataW H)) (ps:List MemPlace),(∀t∈ts,P.readableRec t=true/\t<P.types.size)->
 DataW.TrodAll enc P W 0 (fun _=>true) true ts args ds ps->(∀p∈ps,p.block<W.heap.size)->(∀p∈ps,sp p.block=true)->DataW.TrodAll enc P W' 0 sp true ts args ds ps:=by
 intro ts
 induction ts with
 |nil=>
  intro args ds ps _ h _ _
  cases args with
  |nil=>cases ds with
   |nil=>exact h
   |cons=>cases h
  |cons=>cases h
 |cons t ts ih=>
  intro args ds ps hr h hlt hsp
  cases args with
  |nil=>cases h
  |cons v args=>
   cases ds with
   |nil=>cases h
   |cons d ds=>
    obtain ⟨p,q,hd,hq,rfl⟩:=h
    exact ⟨p,q,WideElems.Trod_stays hl (hr t (List.mem_cons_self ..)).1 (hr t (List.mem_cons_self ..)).2 hd (fun x hx=>hb.same (hlt x (List.mem_append_left _ hx))) (fun x hx=>hsp x (List.mem_append_left _ hx)),
     ih args ds q (fun t ht=>hr t (List.mem_cons_of_mem _ ht)) hq (fun x hx=>hlt x (List.mem_append_right _ hx)) (fun x hx=>hsp x (List.mem_append_right _ hx)),rfl⟩
omit [Val] in
theorem Ty.inv_int {P:Program} {m:NH} {t:TypeId} {k:IntKind} {l:List NV} (hu:P.underlying t=some (.int k)) (h:Ty P m t l):∃n,l= [.int k (.lit n)]/\(Lit.int k n).wf=true:=by
 cases h with
 |bool ht=>rw[hu] at ht;cases ht
 |int ht n h=>rw[hu] at ht;injection ht with ht;injection ht with ht;subst ht;exact ⟨n,rfl,h⟩
 |str ht=>rw[hu] at ht;cases ht
 |slc ht=>rw[hu] at ht;cases ht
 |struct ht=>rw[hu] at ht;cases ht
omit [Val] in
theorem Ty.inv_slc {P:Program} {m:NH} {t e:TypeId} {l:List NV} (hu:P.underlying t=some (.slice e)) (h:Ty P m t l):∃v C,l= [v]/\Sl m v (P.cellsOf e) C/\C.length<=maxLen/\∀c∈C,Ty P m e c:=by
 cases h with
 |bool ht=>rw[hu] at ht;cases ht
 |int ht=>rw[hu] at ht;cases ht
 |str ht=>rw[hu] at ht;cases ht
 |slc ht v C hS hl h=>rw[hu] at ht;injection ht with ht;injection ht with ht;subst ht;exact ⟨v,C,rfl,hS,hl,h⟩
 |struct ht=>rw[hu] at ht;cases ht
omit [Val] in
theorem TyL.inv {P:Program} {m:NH} {t:TypeId} {ts:List TypeId} {l:List NV} (h:TyL P m (t::ts) l):∃a b,l=a++b/\Ty P m t a/\TyL P m ts b:=by
 cases h with
 |cons a b h hl=>exact ⟨a,b,rfl,h,hl⟩
omit [Val] in
theorem TyL.inv0 {P:Program} {m:NH} {l:List NV} (h:TyL P m [] l):l= []:=by cases h;rfl
omit [Val] in
theorem TyA.inv1 {P:Program} {m:NH} {t:TypeId} {ts:List TypeId} {l:List NV} (hn:∀fs,P.underlying t≠some (.struct fs)) (h:TyA P m (t::ts) l):∃x r,l=x::r/\Ty P m t [x]/\TyA P m ts r:=by
 cases h with
 |one x _ h hl=>exact ⟨x,_,rfl,h,hl⟩
 |agg c ht=>exact absurd ht (hn _)
omit [Val] in
theorem TyA.inv0 {P:Program} {m:NH} {l:List NV} (h:TyA P m [] l):l= []:=by cases h;rfl
omit [Val] in
theorem bm.kept {P:Program} {S:Nat->List NV->Option NV} {f:Nat} {args:List NV} {v:NV} (h:S f args=some v) (m:NH):bm P S f args m v m:=by
 refine ⟨none,by simp,0, ?_⟩
 unfold cq;rw[h]
omit [Val] in
theorem tU {P:Program} {W:World} {base:Nat} {sp:Nat->Bool} {hd:Bool} {H:Type} {enc:TypeId×Value->H}:∀{ts:List TypeId} {vs:List Value} {ds:List (DataW H)} {ps:List MemPlace},DataW.TrodAll enc P W base sp hd ts vs ds ps->ds.length=ts.length:=by
 intro ts
 induction ts with
 |nil=>intro vs ds ps h;cases vs<;>cases ds<;>first|rfl|cases h
 |cons t ts ih=>
  intro vs ds ps h
  cases vs with
  |nil=>cases h
  |cons v vs=>cases ds with
   |nil=>cases h
   |cons d ds=>obtain ⟨_,_,_,h,_⟩:=h;simp[ih h]
def OT (o:Option Obj):Bool:=match o with|some (.cells _ _ _)=>true|_=>false
omit [Val] in
theorem tN {P:Program} (h:OT ((begin P (fun _ _=>0) default).world.heap[P.globals.size]?)=true) {W:World} (hs:W.ShapedOpen P):∃(b:Nat) (cur:Array Value) (T:TypeId) (fz:Nat×Nat),W.heap[b]? =some (.cells cur T fz):=by
 cases ho:(begin P (fun _ _=>0) default).world.heap[P.globals.size]? with
 |none=>rw[ho] at h;cases h
 |some x=>
  rw[ho] at h
  have hlt:P.globals.size<(begin P (fun _ _=>0) default).world.heap.size:=(Array.getElem?_eq_some_iff.mp ho).1
  obtain ⟨o,o0,h1,h2,h3⟩:=hs.2 _ (Nat.le_refl _) hlt
  rw[Nat.sub_self,if_neg (by decide)] at h3
  rw[ho] at h2
  injection h2 with h2
  subst h2 h3
  cases o with
  |cells cur T fz=>exact ⟨_,cur,T,fz,h1⟩
  |_=>cases h
end
end Nm
set_option linter.defProp false
namespace Nm
open Go Go.RowKit
attribute [go_sem] Kr Mf Jm Lm Ma IQ rp Lp Jj H4 GM Ja H5 Hn G4 Kg Gz Om Lc LS
attribute [go_sem] NI LF K7 JM Mq K9 Kc HX L5 Hl Hf Nl Oq Fg Oz Oy
attribute [go_sem] IW Dz Fz Gv GY Kk I7 Ho F3 Fk GK CL BZ Dv G9
attribute [go_sem] GU GT ET GF Hj Bool.and_true Bool.true_and KW MC FX GP Jv OH NA Oe OJ NE
attribute [go_sem] Nh Nr Ov Ny Ou Nx NW OL Np OK Og NM Ni OC Nj Od OI Oa OB Nv
attribute [go_sem] Ot Oj Ox JE Jc K4 Oo KV KF K0 MD LG DA BB Io Kq LA Gi Fy
attribute [go_sem] JB Ej Dd Nc My Ln FU F0 Oi KK C4 Gq Gd I5 IP GR Li L0 II
attribute [go_sem] LX Ks MH I1 F7 KY Md JD Iz H7 Ka C1
attribute [go_sem] Mt Cl J2 Mk HA CI DJ Ji KP ID Lr LP LJ IB MP IC Lg Nd Lk
attribute [go_sem] ML K8 MJ Mg KG L6 K6 KO Lj Eg Mj L9 Ii Ij NL LN Lb
attribute [go_sem] FZ GH G3 MB Mi Ns LQ OD Mw Nt KN H3 Nat.sub_self Nat.sub_zero KH KL Ku LU Mm
attribute [go_sem] wz FI LZ LH KR LL On FN Gr Jz L8 Kl Lw J6 JH
attribute [go_sem] NY y6 Ju Jr av aO Ih qT CY Df DN uw az bh I0 ME KS
attribute [go_sem] Lh MG L7 MN Bool.not_true Bool.not_false HU JN Int.toNat_natCast Int.toNat_zero Int.toNat_one
attribute [go_sem] List.getElem?_cons_zero List.getElem?_cons_succ List.length_cons List.length_nil List.set_cons_zero List.set_cons_succ List.take_zero List.drop_zero List.take_succ_cons List.drop_succ_cons List.take_nil List.drop_nil List.nil_append List.cons_append List.append_nil Nat.zero_add Nat.zero_mul Nat.testBit cond_true cond_false
attribute [go_sem] NT.get_leaf Is GD aj beq_self_eq_true decide_true decide_false if_true if_false ite_true ite_false eq_self true_and and_true true_implies
noncomputable def ap:=And.intro (@List.length_set.{0})<|And.intro (@List.length_cons.{0})<|And.intro (@List.length_nil.{0})<|And.intro (@List.length_append.{0})<|And.intro (@List.length_map.{0,0})<|@List.length_replicate.{0}
namespace C
abbrev t (a:D4):NOpd:= .tmp a
abbrev k (z:Int):NOpd:= .const (.int .i64 (.lit z))
abbrev kb (z:Int):NOpd:= .const (.int .u8 (.lit z))
abbrev ku (z:Int):NOpd:= .const (.int .u64 (.lit z))
abbrev kt:NOpd:= .const (.bool true)
abbrev kf:NOpd:= .const (.bool false)
abbrev kn:NOpd:= .const .nils
abbrev F (n:Nat):NOpd:= .const (.fn n [])
abbrev o (d:D4) (p:NOp) (i:Nat):NOper:=⟨some d,p,none,0,i⟩
abbrev O (d:D4) (p:NOp) (q i:Nat):NOper:=⟨some d,p,none,q,i⟩
abbrev G (d:D4) (p:NOp) (g:D4) (b:Bool) (i:Nat):NOper:=⟨some d,p,some (g,b),0,i⟩
abbrev m (d s:D4) (i:Nat):NOper:=⟨some d,.move (.tmp s),none,0,i⟩
abbrev f (n:Nat) (d s:D4) (i:Nat):NOper:=⟨some d,.fieldAddr n (.tmp s),none,0,i⟩
abbrev l (d s:D4) (i:Nat):NOper:=⟨some d,.load1 (.tmp s),none,0,i⟩
abbrev L (d s:D4) (i:Nat):NOper:=⟨some d,.lenSlc (.tmp s),none,0,i⟩
abbrev n (d s:D4) (i:Nat):NOper:=⟨some d,.nilCheck (.tmp s),none,0,i⟩
abbrev x (d s:D4) (j i:Nat):NOper:=⟨some d,.extract (.tmp s) j,none,0,i⟩
abbrev q (p:NOp) (i:Nat):NOper:=⟨none,p,none,0,i⟩
abbrev b (d:D4) (p:BinOp) (a c:NOpd) (i:Nat):NOper:=⟨some d,.bin .num p a c,none,0,i⟩
end C
end Nm
