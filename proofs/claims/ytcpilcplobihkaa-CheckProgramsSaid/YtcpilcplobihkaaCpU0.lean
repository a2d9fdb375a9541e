/- Contracts of functions that the law CheckPrograms reaches, part 0. -/
import Derived.Test.YtcpilcplobihkaaCpc
open Go Nm Go.Proofs
namespace FR
set_option linter.unusedSimpArgs false
set_option linter.unusedVariables false
abbrev u8 (c:Nat):NV:= .int .u8 (.lit (c:Int))
abbrev u64 (n:Nat):NV:= .int .u64 (.lit (n:Int))
inductive Ex where
 |mk (k:Int) (n o:Nat) (s:List Nat) (ks:List Ex)
inductive Stm where
 |mk (k a:Int) (nm ce:List Nat) (i x y:Ex) (b e:List Stm)
theorem Ex.ind {P:Ex->Prop} (h:∀k n o s ks,(∀x∈ks,P x)->P (.mk k n o s ks)):∀x,P x
 | .mk k n o s ks=>h k n o s ks fun x _=>Ex.ind h x
theorem Stm.ind {P:Stm->Prop} (h:∀k a nm ce i x y b e,(∀s∈b,P s)->(∀s∈e,P s)->P (.mk k a nm ce i x y b e)):∀s,P s
 | .mk k a nm ce i x y b e=>h k a nm ce i x y b e (fun s _=>Stm.ind h s) (fun s _=>Stm.ind h s)
inductive RE (m:NH) (T:D4->Prop):Ex->List NV->Prop
 |mk {k:Int} {n o:Nat} {s:List Nat} {ks:List Ex} {v:NV} {C:List (List NV)} (hv:Sl m v 5 C) (hT:∀i∈ids v,T i) (hl:C.length=ks.length) (h:∀(i:Nat) (x:Ex) (c:List NV),ks[i]? =some x->C[i]? =some c->RE m T x c):
  RE m T (.mk k n o s ks) [ii k,u64 n,u8 o,.str s,v]
inductive RS (m:NH) (T:D4->Prop):Stm->List NV->Prop
 |mk {k a:Int} {nm ce:List Nat} {i x y:Ex} {b e:List Stm} {ci cx cy:List NV} {vb ve:NV} {B E:List (List NV)} (hi:RE m T i ci) (hx:RE m T x cx) (hy:RE m T y cy)
  (hb:Sl m vb 21 B) (hbT:∀i∈ids vb,T i) (hbl:B.length=b.length) (hbR:∀(j:Nat) (s:Stm) (c:List NV),b[j]? =some s->B[j]? =some c->RS m T s c)
  (he:Sl m ve 21 E) (heT:∀i∈ids ve,T i) (hel:E.length=e.length) (heR:∀(j:Nat) (s:Stm) (c:List NV),e[j]? =some s->E[j]? =some c->RS m T s c):
  RS m T (.mk k a nm ce i x y b e) ([ii k,ii a,.str nm,.str ce]++ci++cx++cy++ [vb,ve])
def Stays (T:D4->Prop) (m m':NH):Prop:=∀i,T i->Old m i->m'.get i=m.get i/\Old m' i
theorem stN {m m':NH} (h:Chg [] m m') (T:D4->Prop):Stays T m m':=fun _ _ ho=>⟨h.get ho (by simp),h.old ho⟩
theorem Stays.of {S:List D4} {m m':NH} {T:D4->Prop} (h:Chg S m m') (hT:∀i,T i->i∉S):Stays T m m':=fun i hi ho=>⟨h.get ho (hT i hi),h.old ho⟩
theorem chg_hp {m M:NH} {l:List (AK×NO)} {k:Nat} (h:Chg [] m M) (e:oldK l= []):Chg [] m (hp l k M):=h.trans (hp_of e) (by simp)
theorem sl_stays {m m':NH} {T:D4->Prop} {v:NV} {e:Nat} {C:List (List NV)} (h:Sl m v e C) (hT:∀i∈ids v,T i) (hs:Stays T m m'):Sl m' v e C:=by
 obtain ⟨h0,⟨rfl,rfl⟩|⟨id,off,kc,w,c,rfl,h1,h2,h3,h4⟩⟩:=h
 ·exact ⟨h0,Or.inl ⟨rfl,rfl⟩⟩
 ·obtain ⟨g1,g2⟩:=hs id (hT id (List.mem_cons_self ..)) h2
  exact ⟨h0,Or.inr ⟨id,off,kc,w,c,rfl,g1.trans h1,g2,h3,h4⟩⟩
theorem RE.stays {m m':NH} {T:D4->Prop} (hs:Stays T m m') {x:Ex} {c:List NV} (h:RE m T x c):RE m' T x c:=by
 induction h with
 |mk hv hT hl h ih=>exact .mk (sl_stays hv hT hs) hT hl ih
theorem RE.weak {m:NH} {T T':D4->Prop} (hT':∀i,T i->T' i) {x:Ex} {c:List NV} (h:RE m T x c):RE m T' x c:=by
 induction h with
 |mk hv hT hl h ih=>exact .mk hv (fun i hi=>hT' i (hT i hi)) hl ih
theorem RS.stays {m m':NH} {T:D4->Prop} (hs:Stays T m m') {x:Stm} {c:List NV} (h:RS m T x c):RS m' T x c:=by
 induction h with
 |mk hi hx hy hb hbT hbl hbR he heT hel heR ih1 ih2=>exact .mk (hi.stays hs) (hx.stays hs) (hy.stays hs) (sl_stays hb hbT hs) hbT hbl ih1 (sl_stays he heT hs) heT hel ih2
theorem RS.weak {m:NH} {T T':D4->Prop} (hT':∀i,T i->T' i) {x:Stm} {c:List NV} (h:RS m T x c):RS m T' x c:=by
 induction h with
 |mk hi hx hy hb hbT hbl hbR he heT hel heR ih1 ih2=>exact .mk (hi.weak hT') (hx.weak hT') (hy.weak hT') hb (fun i q=>hT' i (hbT i q)) hbl ih1 he (fun i q=>hT' i (heT i q)) hel ih2
structure SE (m:NH) (T:D4->Prop) (v:NV) (l:List Ex) (C:List (List NV)):Prop where
 sl:Sl m v 5 C
 hT:∀i∈ids v,T i
 len:C.length=l.length
 R:∀(i:Nat) (x:Ex) (c:List NV),l[i]? =some x->C[i]? =some c->RE m T x c
structure SS (m:NH) (T:D4->Prop) (v:NV) (l:List Stm) (C:List (List NV)):Prop where
 sl:Sl m v 21 C
 hT:∀i∈ids v,T i
 len:C.length=l.length
 R:∀(i:Nat) (x:Stm) (c:List NV),l[i]? =some x->C[i]? =some c->RS m T x c
theorem RE.inv {m:NH} {T:D4->Prop} {k:Int} {n o:Nat} {s:List Nat} {ks:List Ex} {c:List NV} (h:RE m T (.mk k n o s ks) c):∃v C,c= [ii k,u64 n,u8 o,.str s,v]/\SE m T v ks C:=by
 cases h with
 |mk hv hT hl h=>exact ⟨_,_,rfl,hv,hT,hl,h⟩
theorem RE.of {m:NH} {T:D4->Prop} {k:Int} {n o:Nat} {s:List Nat} {ks:List Ex} {v:NV} {C:List (List NV)} (h:SE m T v ks C):RE m T (.mk k n o s ks) [ii k,u64 n,u8 o,.str s,v]:= .mk h.sl h.hT h.len h.R
theorem RE.len {m:NH} {T:D4->Prop} {x:Ex} {c:List NV} (h:RE m T x c):c.length=5:=by cases h;rfl
theorem RS.len {m:NH} {T:D4->Prop} {x:Stm} {c:List NV} (h:RS m T x c):c.length=21:=by
 cases h with
 |mk hi hx hy=>simp[hi.len,hx.len,hy.len]
def Ex.k:Ex->Int| .mk k _ _ _ _=>k
def Ex.n:Ex->Nat| .mk _ n _ _ _=>n
def Ex.o:Ex->Nat| .mk _ _ o _ _=>o
def Ex.s:Ex->List Nat| .mk _ _ _ s _=>s
def Ex.ks:Ex->List Ex| .mk _ _ _ _ ks=>ks
abbrev Ex.l (x:Ex) (v:NV):List NV:= [ii x.k,u64 x.n,u8 x.o,.str x.s,v]
theorem RE.inv' {m:NH} {T:D4->Prop} {x:Ex} {c:List NV} (h:RE m T x c):∃v C,c=x.l v/\SE m T v x.ks C:=by
 cases x;exact h.inv
theorem RS.inv {m:NH} {T:D4->Prop} {k a:Int} {nm ce:List Nat} {i x y:Ex} {b e:List Stm} {c:List NV} (h:RS m T (.mk k a nm ce i x y b e) c):
 ∃vi vx vy vb ve B E,c= [ii k,ii a,.str nm,.str ce,ii i.k,u64 i.n,u8 i.o,.str i.s,vi,ii x.k,u64 x.n,u8 x.o,.str x.s,vx,ii y.k,u64 y.n,u8 y.o,.str y.s,vy,vb,ve]/\
  RE m T i (i.l vi)/\RE m T x (x.l vx)/\RE m T y (y.l vy)/\SS m T vb b B/\SS m T ve e E:=by
 cases h with
 |mk hi hx hy hb hbT hbl hbR he heT hel heR=>
  obtain ⟨vi,Ci,rfl,-⟩:=hi.inv'
  obtain ⟨vx,Cx,rfl,-⟩:=hx.inv'
  obtain ⟨vy,Cy,rfl,-⟩:=hy.inv'
  exact ⟨vi,vx,vy,_,_,_,_,rfl,hi,hx,hy,⟨hb,hbT,hbl,hbR⟩,⟨he,heT,hel,heR⟩⟩
theorem SE.stays {m m':NH} {T:D4->Prop} (hs:Stays T m m') {v:NV} {l:List Ex} {C:List (List NV)} (h:SE m T v l C):SE m' T v l C:=⟨sl_stays h.sl h.hT hs,h.hT,h.len,fun i x c a b=>(h.R i x c a b).stays hs⟩
theorem SS.stays {m m':NH} {T:D4->Prop} (hs:Stays T m m') {v:NV} {l:List Stm} {C:List (List NV)} (h:SS m T v l C):SS m' T v l C:=⟨sl_stays h.sl h.hT hs,h.hT,h.len,fun i x c a b=>(h.R i x c a b).stays hs⟩
theorem SE.at {m:NH} {T:D4->Prop} {v:NV} {l:List Ex} {C:List (List NV)} (h:SE m T v l C) (i:Nat) (hi:i<l.length):∃c,C[i]? =some c/\RE m T l[i] c:=by
 have hc:i<C.length:=by rw[h.len];exact hi
 exact ⟨C[i],List.getElem?_eq_getElem hc,h.R i _ _ (List.getElem?_eq_getElem hi) (List.getElem?_eq_getElem hc)⟩
theorem SS.at {m:NH} {T:D4->Prop} {v:NV} {l:List Stm} {C:List (List NV)} (h:SS m T v l C) (i:Nat) (hi:i<l.length):∃c,C[i]? =some c/\RS m T l[i] c:=by
 have hc:i<C.length:=by rw[h.len];exact hi
 exact ⟨C[i],List.getElem?_eq_getElem hc,h.R i _ _ (List.getElem?_eq_getElem hi) (List.getElem?_eq_getElem hc)⟩
def zE:Ex:= .mk 0 0 0 [] []
theorem re0 (m:NH) (T:D4->Prop) (k:Int) (n o:Nat) (s:List Nat):RE m T (.mk k n o s []) [ii k,u64 n,u8 o,.str s,.nils]:= .mk (C:= []) Sl.nil (by simp[ids]) rfl (by simp)
structure SV where
 (vi vx vy vb ve:NV)
def Stm.k:Stm->Int| .mk k _ _ _ _ _ _ _ _=>k
def Stm.a:Stm->Int| .mk _ a _ _ _ _ _ _ _=>a
def Stm.nm:Stm->List Nat| .mk _ _ s _ _ _ _ _ _=>s
def Stm.ce:Stm->List Nat| .mk _ _ _ s _ _ _ _ _=>s
def Stm.i:Stm->Ex| .mk _ _ _ _ x _ _ _ _=>x
def Stm.x:Stm->Ex| .mk _ _ _ _ _ x _ _ _=>x
def Stm.y:Stm->Ex| .mk _ _ _ _ _ _ x _ _=>x
def Stm.b:Stm->List Stm| .mk _ _ _ _ _ _ _ b _=>b
def Stm.e:Stm->List Stm| .mk _ _ _ _ _ _ _ _ e=>e
abbrev Stm.l (s:Stm) (w:SV):List NV:= [ii s.k,ii s.a,.str s.nm,.str s.ce,ii s.i.k,u64 s.i.n,u8 s.i.o,.str s.i.s,w.vi,ii s.x.k,u64 s.x.n,u8 s.x.o,.str s.x.s,w.vx,ii s.y.k,u64 s.y.n,u8 s.y.o,.str s.y.s,w.vy,w.vb,w.ve]
structure SP (m:NH) (T:D4->Prop) (s:Stm) (w:SV):Prop where
 i:RE m T s.i (s.i.l w.vi)
 x:RE m T s.x (s.x.l w.vx)
 y:RE m T s.y (s.y.l w.vy)
 b:∃B,SS m T w.vb s.b B
 e:∃E,SS m T w.ve s.e E
theorem RS.inv' {m:NH} {T:D4->Prop} {s:Stm} {c:List NV} (h:RS m T s c):∃w,c=s.l w/\SP m T s w:=by
 cases s
 obtain ⟨vi,vx,vy,vb,ve,B,E,rfl,h1,h2,h3,h4,h5⟩:=h.inv
 exact ⟨⟨vi,vx,vy,vb,ve⟩,rfl,h1,h2,h3,⟨B,h4⟩,⟨E,h5⟩⟩
end FR
open Go Nm Go.Proofs
namespace FR
set_option linter.unusedSimpArgs false
set_option linter.unusedVariables false
mutual
def Ex.names:Ex->List (List Nat)
 | .mk k _ _ s ks=>if k=1 then [s] else if k=2 then namesL ks else []
def namesL:List Ex->List (List Nat)
 | []=> []
 |x::xs=>x.names++namesL xs
end
mutual
def Stm.all:Stm->List Stm
 | .mk k a nm ce i x y b e=> .mk k a nm ce i x y b e::((if k=6∨k=7 then allL b else [])++(if k=6 then allL e else []))
def allL:List Stm->List Stm
 | []=> []
 |s::l=>s.all++allL l
end
def Stm.own:Stm->List (List Nat)
 | .mk k _ nm _ i x y _ _=>(if k=0∨k=1∨k=3 then [nm] else [])++((if k=1∨k=2∨k=3 then i.names else [])++((if k=0∨k=2∨k=3∨k=5∨k=6∨k=7 then x.names else [])++(if k=3 then y.names else [])))
def locals (l:List Stm):List (List Nat):=((allL l).flatMap Stm.own).foldl insN []
mutual
def Ex.sz:Ex->Nat
 | .mk _ _ _ _ ks=>1+szL ks
def szL:List Ex->Nat
 | []=>0
 |x::xs=>x.sz+szL xs
end
mutual
def Stm.sz:Stm->Nat
 | .mk _ _ _ _ i x y b e=>1+i.sz+x.sz+y.sz+szB b+szB e
def szB:List Stm->Nat
 | []=>0
 |s::l=>s.sz+szB l
end
theorem sz_pos (x:Ex):1<=x.sz:=by cases x;rw[Ex.sz];omega
theorem len_szL (ks:List Ex):ks.length<=szL ks:=by
 induction ks with
 |nil=>simp
 |cons x ks ih=>have:=sz_pos x;rw[szL,List.length_cons];omega
theorem ssz_pos (x:Stm):1<=x.sz:=by cases x;rw[Stm.sz];omega
theorem len_szB (ks:List Stm):ks.length<=szB ks:=by
 induction ks with
 |nil=>simp
 |cons x ks ih=>have:=ssz_pos x;rw[szB,List.length_cons];omega
theorem names_le:∀x:Ex,x.names.length<=x.sz:=by
 apply Ex.ind
 intro k n o s ks ih
 rw[Ex.names,Ex.sz]
 have:∀ks:List Ex,(∀x∈ks,x.names.length<=x.sz)->(namesL ks).length<=szL ks:=by
  intro ks
  induction ks with
  |nil=>intro _;simp[namesL]
  |cons x xs ih=>
   intro h
   have h1:=h x (List.mem_cons_self ..)
   have h2:=ih fun y hy=>h y (List.mem_cons_of_mem _ hy)
   rw[namesL,szL,List.length_append];omega
 have:=this ks ih
 split
 ·simp
 ·split
  ·omega
  ·simp
theorem namesL_append (a b:List Ex):namesL (a++b)=namesL a++namesL b:=by
 induction a with
 |nil=>rfl
 |cons x a ih=>rw[List.cons_append,namesL,namesL,ih,List.append_assoc]
theorem allL_append (a b:List Stm):allL (a++b)=allL a++allL b:=by
 induction a with
 |nil=>rfl
 |cons x a ih=>rw[List.cons_append,allL,allL,ih,List.append_assoc]
end FR
open Go Nm Go.Proofs
namespace FR
set_option linter.unusedSimpArgs false
set_option linter.unusedVariables false
noncomputable def S0:Nat->List NV->Option NV:=addS 11 [] (.bool true)<|noS
abbrev Ints (l:List Int):List (List NV):=l.map fun z=> [ii z]
abbrev Strs (l:List (List Nat)):List (List NV):=l.map fun s=> [.str s]
def fndI {α:Type} [DecidableEq α] (l:List α) (x:α):Int:=match l.findIdx? (fun a=>decide (x=a)) with|some i=>(i:Int)|none=>-1
theorem fndI_some {α:Type} [DecidableEq α] {l:List α} {x:α} {i:Nat} (hi:i<l.length) (h:x=l[i]) (hn:∀j (hj:j<i),x≠l[j]'(by omega)):fndI l x=i:=by
 unfold fndI
 rw[List.findIdx?_eq_some_iff_getElem.mpr ⟨hi,by simp[h],fun j hj=>by simpa using hn j hj⟩]
theorem fndI_none {α:Type} [DecidableEq α] {l:List α} {x:α} (hn:∀j (hj:j<l.length),x≠l[j]):fndI l x=-1:=by
 unfold fndI
 rw[List.findIdx?_eq_none_iff.mpr]
 intro y hy
 obtain ⟨j,hj,rfl⟩:=List.getElem_of_mem hy
 simpa using hn j hj
theorem fndI_mem {α:Type} [DecidableEq α] {l:List α} {x:α}:0<=fndI l x↔x∈l:=by
 constructor
 ·intro h
  rcases Decidable.em (x∈l) with q|q
  ·exact q
  ·rw[fndI_none fun j hj e=>q (by rw[e];exact List.getElem_mem hj)] at h;omega
 ·intro h
  unfold fndI
  cases hf:l.findIdx? (fun a=>decide (x=a)) with
  |some i=>dsimp only;omega
  |none=>have:=List.findIdx?_eq_none_iff.mp hf x h;simp at this
theorem fndI_lt {α:Type} [DecidableEq α] {l:List α} {x:α}:fndI l x<l.length/\-1<=fndI l x:=by
 unfold fndI
 cases hf:l.findIdx? (fun a=>decide (x=a)) with
 |some i=>obtain ⟨h,-⟩:=List.findIdx?_eq_some_iff_getElem.mp hf;dsimp only;omega
 |none=>dsimp only;omega
theorem index_int {m:NH} {v:NV} {l:List Int} (hv:Sl m v 1 (Ints l)) (hsz:l.length<=1099511627776) (x:Int):Ret Try.prog S0 115 [v,ii x] m (ii (fndI l x)) m:=by
 have h:∃r m',Ret Try.prog S0 115 [v,ii x] m r m'/\r=ii (fndI l x)/\m'=m:=by
  refine WF.ex fun K hK=> ?_
  refine WF.of_wpG (fun _=>rfl) nf115_eq (L:= [(.a .e,ii x),(.e,v)]) rfl ?_
  unfold nf115
  have hlen:=hv.len
  rw[List.length_map] at hlen
  simp (config:={maxSteps:=1000000}) (disch:=(first|assumption|omega|exact old_n (by omega)|exact old_hp (by assumption)|(simp only[nmL]<;>omega))) only[go_sem,seval,hlen]
  refine W.loop (fun k d=>∃t i,d=⟨t, [],none,hp [] 0 m⟩/\NT.get D4.e t=some v/\NT.get D4.e.a t=some (ii x)/\NT.get D4.e.a.c t=some (ii l.length)/\NT.get D4.e.a.f t=some (ii (i:Nat))/\i+k=l.length/\∀j (hj:j<i) (hl:j<l.length),x≠l[j]) ?_ l.length _ ⟨_,0,rfl,by simp only[go_sem,seval],by simp only[go_sem,seval],by simp only[go_sem,seval],by simp only[go_sem,seval]<;>rfl,by omega,by simp⟩
  rintro k d ⟨t,i,rfl,g1,g2,g3,g4,hik,hn⟩
  apply wp_sound
  unfold nf115_l1
  change wp _ _ _ _ ⟨puts [] t, [],none,hp [] 0 m⟩ _
  by_cases hi:i<l.length
  ·obtain ⟨id,off,w,c,a1,a2,a3,a4,a5⟩:=hv.at i (by simpa using hi)
   rw[List.getElem_map] at a5
   have c0:=cell_at a5 0 (by omega)
   rw[Nat.add_zero] at c0
   by_cases he:x=l[i]
   ·have he':decide (x=l[i])=true:=decide_eq_true he
    simp (config:={maxSteps:=1000000}) (disch:=(first|assumption|omega|exact old_n (by omega)|exact old_hp (by assumption)|(simp only[nmL]<;>omega))) only[go_sem,seval,g1,g2,g3,g4,a1,a2,c0,he']
    exact hK _ _ ⟨by rw[fndI_some hi he fun j hj=>hn j hj (by omega)],hp_nil m⟩
   ·have he':decide (x=l[i])=false:=decide_eq_false he
    simp (config:={maxSteps:=1000000}) (disch:=(first|assumption|omega|exact old_n (by omega)|exact old_hp (by assumption)|(simp only[nmL]<;>omega))) only[go_sem,seval,g1,g2,g3,g4,a1,a2,c0,he']
    refine ⟨k - 1,by omega,_,i+1,by rfl, ?_, ?_, ?_, ?_,by omega, ?_⟩
    ·simp (config:={maxSteps:=1000000}) (disch:=(first|assumption|omega|exact old_n (by omega)|exact old_hp (by assumption)|(simp only[nmL]<;>omega))) only[go_sem,seval,g1]
    ·simp (config:={maxSteps:=1000000}) (disch:=(first|assumption|omega|exact old_n (by omega)|exact old_hp (by assumption)|(simp only[nmL]<;>omega))) only[go_sem,seval,g2]
    ·simp (config:={maxSteps:=1000000}) (disch:=(first|assumption|omega|exact old_n (by omega)|exact old_hp (by assumption)|(simp only[nmL]<;>omega))) only[go_sem,seval,g3]
    ·simp (config:={maxSteps:=1000000}) (disch:=(first|assumption|omega|exact old_n (by omega)|exact old_hp (by assumption)|(simp only[nmL]<;>omega))) only[go_sem,seval]<;>rfl
    ·intro j hj hl
     rcases Nat.lt_or_ge j i with h|h
     ·exact hn j h hl
     ·have:j=i:=by omega
      subst this;exact he
  ·simp (config:={maxSteps:=1000000}) (disch:=(first|assumption|omega|exact old_n (by omega)|exact old_hp (by assumption)|(simp only[nmL]<;>omega))) only[go_sem,seval,g1,g2,g3,g4]
   exact hK _ _ ⟨by rw[fndI_none fun j hj=>hn j (by omega) hj],hp_nil m⟩
 obtain ⟨r,m',h1,rfl,rfl⟩:=h
 exact h1
theorem index_str {m:NH} {v:NV} {l:List (List Nat)} (hv:Sl m v 1 (Strs l)) (hsz:l.length<=1099511627776) (x:List Nat):Ret Try.prog S0 66 [v,(.str x)] m (ii (fndI l x)) m:=by
 have h:∃r m',Ret Try.prog S0 66 [v,(.str x)] m r m'/\r=ii (fndI l x)/\m'=m:=by
  refine WF.ex fun K hK=> ?_
  refine WF.of_wpG (fun _=>rfl) nf66_eq (L:= [(.a .e,(.str x)),(.e,v)]) rfl ?_
  unfold nf66
  have hlen:=hv.len
  rw[List.length_map] at hlen
  simp (config:={maxSteps:=1000000}) (disch:=(first|assumption|omega|exact old_n (by omega)|exact old_hp (by assumption)|(simp only[nmL]<;>omega))) only[go_sem,seval,hlen]
  refine W.loop (fun k d=>∃t i,d=⟨t, [],none,hp [] 0 m⟩/\NT.get D4.e t=some v/\NT.get D4.e.a t=some ((.str x))/\NT.get D4.e.a.c t=some (ii l.length)/\NT.get D4.e.a.f t=some (ii (i:Nat))/\i+k=l.length/\∀j (hj:j<i) (hl:j<l.length),x≠l[j]) ?_ l.length _ ⟨_,0,rfl,by simp only[go_sem,seval],by simp only[go_sem,seval],by simp only[go_sem,seval],by simp only[go_sem,seval]<;>rfl,by omega,by simp⟩
  rintro k d ⟨t,i,rfl,g1,g2,g3,g4,hik,hn⟩
  apply wp_sound
  unfold nf66_l1
  change wp _ _ _ _ ⟨puts [] t, [],none,hp [] 0 m⟩ _
  by_cases hi:i<l.length
  ·obtain ⟨id,off,w,c,a1,a2,a3,a4,a5⟩:=hv.at i (by simpa using hi)
   rw[List.getElem_map] at a5
   have c0:=cell_at a5 0 (by omega)
   rw[Nat.add_zero] at c0
   by_cases he:x=l[i]
   ·have he':decide (x=l[i])=true:=decide_eq_true he
    simp (config:={maxSteps:=1000000}) (disch:=(first|assumption|omega|exact old_n (by omega)|exact old_hp (by assumption)|(simp only[nmL]<;>omega))) only[go_sem,seval,g1,g2,g3,g4,a1,a2,c0,he']
    exact hK _ _ ⟨by rw[fndI_some hi he fun j hj=>hn j hj (by omega)],hp_nil m⟩
   ·have he':decide (x=l[i])=false:=decide_eq_false he
    simp (config:={maxSteps:=1000000}) (disch:=(first|assumption|omega|exact old_n (by omega)|exact old_hp (by assumption)|(simp only[nmL]<;>omega))) only[go_sem,seval,g1,g2,g3,g4,a1,a2,c0,he']
    refine ⟨k - 1,by omega,_,i+1,by rfl, ?_, ?_, ?_, ?_,by omega, ?_⟩
    ·simp (config:={maxSteps:=1000000}) (disch:=(first|assumption|omega|exact old_n (by omega)|exact old_hp (by assumption)|(simp only[nmL]<;>omega))) only[go_sem,seval,g1]
    ·simp (config:={maxSteps:=1000000}) (disch:=(first|assumption|omega|exact old_n (by omega)|exact old_hp (by assumption)|(simp only[nmL]<;>omega))) only[go_sem,seval,g2]
    ·simp (config:={maxSteps:=1000000}) (disch:=(first|assumption|omega|exact old_n (by omega)|exact old_hp (by assumption)|(simp only[nmL]<;>omega))) only[go_sem,seval,g3]
    ·simp (config:={maxSteps:=1000000}) (disch:=(first|assumption|omega|exact old_n (by omega)|exact old_hp (by assumption)|(simp only[nmL]<;>omega))) only[go_sem,seval]<;>rfl
    ·intro j hj hl
     rcases Nat.lt_or_ge j i with h|h
     ·exact hn j h hl
     ·have:j=i:=by omega
      subst this;exact he
  ·simp (config:={maxSteps:=1000000}) (disch:=(first|assumption|omega|exact old_n (by omega)|exact old_hp (by assumption)|(simp only[nmL]<;>omega))) only[go_sem,seval,g1,g2,g3,g4]
   exact hK _ _ ⟨by rw[fndI_none fun j hj=>hn j (by omega) hj],hp_nil m⟩
 obtain ⟨r,m',h1,rfl,rfl⟩:=h
 exact h1
theorem contains_int {m:NH} {v:NV} {l:List Int} (hv:Sl m v 1 (Ints l)) (hsz:l.length<=1099511627776) (x:Int):Ret Try.prog S0 136 [v,ii x] m (.bool (decide (x∈l))) m:=by
 have h:∃r m',Ret Try.prog S0 136 [v,ii x] m r m'/\r= .bool (decide (x∈l))/\m'=m:=by
  refine WF.ex fun K hK=> ?_
  refine WF.of_wpG (fun _=>rfl) nf136_eq (L:= [(.a .e,ii x),(.e,v)]) rfl ?_
  unfold nf136
  simp (config:={maxSteps:=1000000}) (disch:=(first|assumption|omega|exact old_n (by omega)|exact old_hp (by assumption)|(simp only[nmL]<;>omega))) only[go_sem,seval,hp_nil,(index_int hv hsz x).wf']
  exact hK _ _ ⟨by simp only[fndI_mem],rfl⟩
 obtain ⟨r,m',h1,rfl,rfl⟩:=h
 exact h1
theorem contains_str {m:NH} {v:NV} {l:List (List Nat)} (hv:Sl m v 1 (Strs l)) (hsz:l.length<=1099511627776) (x:List Nat):Ret Try.prog S0 99 [v,(.str x)] m (.bool (decide (x∈l))) m:=by
 have h:∃r m',Ret Try.prog S0 99 [v,(.str x)] m r m'/\r= .bool (decide (x∈l))/\m'=m:=by
  refine WF.ex fun K hK=> ?_
  refine WF.of_wpG (fun _=>rfl) nf99_eq (L:= [(.a .e,(.str x)),(.e,v)]) rfl ?_
  unfold nf99
  simp (config:={maxSteps:=1000000}) (disch:=(first|assumption|omega|exact old_n (by omega)|exact old_hp (by assumption)|(simp only[nmL]<;>omega))) only[go_sem,seval,hp_nil,(index_str hv hsz x).wf']
  exact hK _ _ ⟨by simp only[fndI_mem],rfl⟩
 obtain ⟨r,m',h1,rfl,rfl⟩:=h
 exact h1
theorem has_p (m:NH) {v:NV} {l:List Int} (hv:Sl m v 1 (Ints l)) (hsz:l.length<=1099511627776) {k:Int} {c:List NV} (hc:c.length=20):∃m',Ret Try.prog S0 91 [.agg (ii k::c),v] m (.bool (decide (k∈l))) m'/\Chg [] m m':=by
 have h:∃r m',Ret Try.prog S0 91 [.agg (ii k::c),v] m r m'/\r= .bool (decide (k∈l))/\Chg [] m m':=by
  refine WF.ex fun K hK=> ?_
  refine WF.of_wpG (fun _=>rfl) nf91_eq (L:= [(.a .e,v),(.e,.agg (ii k::c))]) rfl ?_
  unfold nf91
  have hC:Chg [] m (hp [(.n 0,.cells true (ii k::c))] 1 m):=hp_of rfl
  simp (config:={maxSteps:=1000000}) (disch:=(first|assumption|omega|exact old_n (by omega)|exact old_hp (by assumption)|(simp only[nmL]<;>omega))) only[go_sem,seval,(contains_int (hv.chg hC fun _ _=>by simp) hsz k).wf']
  exact hK _ _ ⟨rfl,hC⟩
 obtain ⟨r,m',h1,rfl,h2⟩:=h
 exact ⟨m',h1,h2⟩
end FR
open Go Nm Go.Proofs
namespace FR
set_option linter.unusedSimpArgs false
set_option linter.unusedVariables false
def From (m:NH) (v v':NV):Prop:=∀i∈ids v',i∈ids v∨¬Old m i
theorem From.refl (m:NH) (v:NV):From m v v:=fun _ h=>Or.inl h
theorem From.trans {m m':NH} {v v' v'':NV} (h:From m v v') (h':From m' v' v'') (ho:∀i,Old m i->Old m' i):From m v v'':=fun i hi=>by
 rcases h' i hi with q|q
 ·exact h i q
 ·exact Or.inr fun o=>q (ho i o)
theorem From.chg {m m' m'':NH} {v v':NV} (h:From m v v') (hC:Chg (ids v) m m') (hC':Chg (ids v') m' m''):Chg (ids v) m m'':=hC.trans hC' fun i hi ho=>(h i hi).elim _root_.id fun q=>absurd ho q
theorem insN_le (l:List (List Nat)) (s:List Nat):(insN l s).length<=l.length+1:=by unfold insN;split<;>simp
theorem foldN_le (more:List (List Nat)):∀l:List (List Nat),(more.foldl insN l).length<=l.length+more.length:=by
 induction more with
 |nil=>intro l;simp
 |cons s more ih=>intro l;have:=ih (insN l s);have:=insN_le l s;simp only[List.foldl_cons,List.length_cons];omega
theorem strs_app (l:List (List Nat)) (s:List Nat):Strs (l++ [s])=Strs l++ [[.str s]]:=by simp
theorem join_loop {B m:NH} {v w:NV} {l more:List (List Nat)} (hv:Own B m v 1 (Strs l)) (hw:Sl m w 1 (Strs more)) (hd:∀i∈ids w,i∉ids v) (hB:∀id,Old B id->Old m id) (hsz:l.length+more.length<=1000000000) {t:Tm}
 (g1:NT.get D4.e t=some v) (g2:NT.get D4.e.a.c t=some w) (g3:NT.get D4.e.a.f t=some (ii more.length)) (g4:NT.get D4.e.b.a t=some (ii 0)) {Q:Out->Dyn->Prop}
 (hQ:∀t' M v',NT.get D4.e t'=some v'->Own B M v' 1 (Strs (more.foldl insN l))->Chg (ids v) m M->From m v v'->Q (.exit 0) ⟨puts [] t', [],none,M⟩):
 W Try.prog S0 none nf54_l1.loop ⟨t, [],none,m⟩ Q:=by
 refine W.loop (fun k d=>∃t M i v',d=⟨t, [],none,M⟩/\NT.get D4.e t=some v'/\NT.get D4.e.a.c t=some w/\NT.get D4.e.a.f t=some (ii more.length)/\NT.get D4.e.b.a t=some (ii (i:Nat))/\i+k=more.length/\Own B M v' 1 (Strs ((more.take i).foldl insN l))/\Chg (ids v) m M/\From m v v') ?_ more.length _ ⟨t,m,0,v,rfl,g1,g2,g3,g4,by omega,hv,(Chg.refl m).weak (by simp),From.refl m v⟩
 rintro k d ⟨t,M,i,v',rfl,g1,g2,g3,g4,hik,hv,hC,hF⟩
 apply wp_sound
 unfold nf54_l1
 change wp _ _ _ _ ⟨puts [] t, [],none,M⟩ _
 by_cases hi:i<more.length
 ·have hwM:=hw.chg hC hd
  obtain ⟨id,off,wr,c,a1,a2,a3,a4,a5⟩:=hwM.at i (by simpa using hi)
  rw[List.getElem_map] at a5
  have c0:=cell_at a5 0 (by omega)
  rw[Nat.add_zero] at c0
  have hle:=foldN_le (more.take i) l
  rw[List.length_take] at hle
  have hct:=contains_str hv.sl (by omega) more[i]
  have htk:(more.take (i+1)).foldl insN l=insN ((more.take i).foldl insN l) more[i]:=by
   rw[List.take_add_one,List.getElem?_eq_getElem hi,Option.toList_some,List.foldl_append];rfl
  by_cases hin:more[i]∈(more.take i).foldl insN l
  ·rw[decide_eq_true hin] at hct
   simp (config:={maxSteps:=1000000}) (disch:=(first|assumption|omega|exact old_n (by omega)|exact old_hp (by assumption)|(simp only[nmL]<;>omega))) only[go_sem,seval,g1,g2,g3,g4,a1,a2,c0,hct.wf']
   refine ⟨k - 1,by omega,_,M,i+1,v',by rfl, ?_, ?_, ?_, ?_,by omega, ?_,hC,hF⟩
   ·simp (config:={maxSteps:=1000000}) (disch:=(first|assumption|omega|exact old_n (by omega)|exact old_hp (by assumption)|(simp only[nmL]<;>omega))) only[go_sem,seval,g1]
   ·simp (config:={maxSteps:=1000000}) (disch:=(first|assumption|omega|exact old_n (by omega)|exact old_hp (by assumption)|(simp only[nmL]<;>omega))) only[go_sem,seval,g2]
   ·simp (config:={maxSteps:=1000000}) (disch:=(first|assumption|omega|exact old_n (by omega)|exact old_hp (by assumption)|(simp only[nmL]<;>omega))) only[go_sem,seval,g3]
   ·simp (config:={maxSteps:=1000000}) (disch:=(first|assumption|omega|exact old_n (by omega)|exact old_hp (by assumption)|(simp only[nmL]<;>omega))) only[go_sem,seval]<;>rfl
   ·rw[htk,show insN _ _=_ from if_pos hin];exact hv
  ·rw[decide_eq_false hin] at hct
   rw[←hp_nil M] at hct ⊢
   simp (config:={maxSteps:=1000000}) (disch:=(first|assumption|omega|exact old_n (by omega)|exact old_hp (by assumption)|(simp only[nmL]<;>omega))) only[go_sem,seval,g1,g2,g3,g4,a1,a2,c0,hct.wf']
   have hC1:Chg [] M (hp [(.n 0,.cells true [.str more[i]])] 1 M):=hp_of rfl
   refine wNT_app2 (hv.chg hC1 fun _ _=>by simp) h_getN (old_n (by omega)) rfl (fun i hi=>hC1.old (hC.old (hB i hi))) (by simp;omega) (by simp;omega) ?_
   intro v2 M2 hv2 hC2 hF2
   simp (config:={maxSteps:=1000000}) (disch:=(first|assumption|omega|exact old_n (by omega)|exact old_hp (by assumption)|(simp only[nmL]<;>omega))) only[go_sem,seval,g1,g2,g3,g4]
   have hF1:From M v' v2:=fun i hi=>(hF2 i hi).imp _root_.id fun q o=>q (hC1.old o)
   have hC3:Chg (ids v') M M2:=(hC1.weak (by simp)).trans hC2 fun _ h _=>h
   refine ⟨k - 1,by omega,_,M2,i+1,v2,by rfl, ?_, ?_, ?_, ?_,by omega, ?_,hF.chg hC hC3,hF.trans hF1 fun i hi=>hC.old hi⟩
   ·simp (config:={maxSteps:=1000000}) (disch:=(first|assumption|omega|exact old_n (by omega)|exact old_hp (by assumption)|(simp only[nmL]<;>omega))) only[go_sem,seval]
   ·simp (config:={maxSteps:=1000000}) (disch:=(first|assumption|omega|exact old_n (by omega)|exact old_hp (by assumption)|(simp only[nmL]<;>omega))) only[go_sem,seval,g2]
   ·simp (config:={maxSteps:=1000000}) (disch:=(first|assumption|omega|exact old_n (by omega)|exact old_hp (by assumption)|(simp only[nmL]<;>omega))) only[go_sem,seval,g3]
   ·simp (config:={maxSteps:=1000000}) (disch:=(first|assumption|omega|exact old_n (by omega)|exact old_hp (by assumption)|(simp only[nmL]<;>omega))) only[go_sem,seval]<;>rfl
   ·rw[htk,show insN _ _=_ from if_neg hin,strs_app];exact hv2
 ·simp (config:={maxSteps:=1000000}) (disch:=(first|assumption|omega|exact old_n (by omega)|exact old_hp (by assumption)|(simp only[nmL]<;>omega))) only[go_sem,seval,g1,g2,g3,g4]
  have e:(more.take i)=more:=List.take_of_length_le (by omega)
  rw[e] at hv
  refine hQ _ _ v' ?_ hv hC hF
  simp (config:={maxSteps:=1000000}) (disch:=(first|assumption|omega|exact old_n (by omega)|exact old_hp (by assumption)|(simp only[nmL]<;>omega))) only[go_sem,seval,put_puts,g1]
theorem join_p {B m:NH} {v w:NV} {l more:List (List Nat)} (hv:Own B m v 1 (Strs l)) (hw:Sl m w 1 (Strs more)) (hd:∀i∈ids w,i∉ids v) (hB:∀id,Old B id->Old m id) (hsz:l.length+more.length<=1000000000):
 ∃v' m',Ret Try.prog S0 54 [v,w] m v' m'/\Own B m' v' 1 (Strs (more.foldl insN l))/\Chg (ids v) m m'/\From m v v':=by
 refine WF.ex fun K hK=> ?_
 refine WF.of_wpG (fun _=>rfl) nf54_eq (L:= [(.a .e,w),(.e,v)]) rfl ?_
 unfold nf54
 have hlen:=hw.len
 rw[List.length_map] at hlen
 simp (config:={maxSteps:=1000000}) (disch:=(first|assumption|omega|exact old_n (by omega)|exact old_hp (by assumption)|(simp only[nmL]<;>omega))) only[go_sem,seval,hlen,hp_nil]
 refine join_loop hv hw hd hB hsz (by simp only[go_sem,seval]) (by simp only[go_sem,seval]) (by simp only[go_sem,seval]) (by simp only[go_sem,seval]) ?_
 intro t' M v' g1 h1 h2 h3
 simp (config:={maxSteps:=1000000}) (disch:=(first|assumption|omega|exact old_n (by omega)|exact old_hp (by assumption)|(simp only[nmL]<;>omega))) only[go_sem,seval,g1]
 exact hK _ _ ⟨h1,h2,h3⟩
end FR
open Go Nm Go.Proofs
namespace FR
set_option linter.unusedSimpArgs false
set_option linter.unusedVariables false
def InE (x:Ex):Prop:=∀{m0:NH} {T:D4->Prop} {c:List NV} {B m:NH} {v:NV} {l:List (List Nat)},RE m0 T x c->Chg [] m0 m->Own B m v 1 (Strs l)->(∀i,Old m0 i->Old B i)->(∀i,Old B i->Old m i)->l.length+x.sz<=1000000000->
 ∃v' m',Ret Try.prog S0 100 [v,.agg c] m v' m'/\Own B m' v' 1 (Strs (l++x.names))/\Chg (ids v) m m'/\From m v v'
theorem own_base {m0 B m m':NH} {v:NV} {e:Nat} {C:List (List NV)} (hv:Own B m v e C) (h0:∀i,Old m0 i->Old B i) (hC0:Chg [] m0 m) (hC:Chg (ids v) m m'):Chg [] m0 m':=
 hC0.trans hC fun i hi ho=>absurd (h0 i ho) (hv.new i hi)
theorem take_succ_names {ks:List Ex} {i:Nat} (hi:i<ks.length):namesL (ks.take (i+1))=namesL (ks.take i)++ks[i].names:=by
 rw[List.take_add_one,List.getElem?_eq_getElem hi,Option.toList_some,namesL_append,namesL,namesL,List.append_nil]
theorem szL_take (ks:List Ex) (i:Nat) (hi:i<ks.length):(namesL (ks.take i)).length+ks[i].sz<=szL ks:=by
 induction ks generalizing i with
 |nil=>simp at hi
 |cons x ks ih=>
  cases i with
  |zero=>simp[namesL,szL]
  |succ i=>
   have h1:=names_le x
   have:=ih i (by simpa using hi)
   simp only[List.take_succ_cons,namesL,szL,List.length_append,List.getElem_cons_succ];omega
theorem inExpr_loop {m0:NH} {T:D4->Prop} {ks:List Ex} {vk:NV} {C:List (List NV)} (hS:SE m0 T vk ks C) (ih:∀x∈ks,InE x) {B m:NH} {v:NV} {l:List (List Nat)} (hC0:Chg [] m0 m) (hv:Own B m v 1 (Strs l)) (h0:∀i,Old m0 i->Old B i) (hB:∀i,Old B i->Old m i)
 (hsz:l.length+szL ks<=1000000000) {t:Tm} (g1:NT.get D4.e t=some v) (g2:NT.get D4.e.f.c t=some vk) (g3:NT.get D4.e.f.f t=some (ii ks.length)) (g4:NT.get D4.e.a.a.a t=some (ii 0)) {Q:Out->Dyn->Prop}
 (hQ:∀t' M v',NT.get D4.e t'=some v'->Own B M v' 1 (Strs (l++namesL ks))->Chg (ids v) m M->From m v v'->Q (.exit 1) ⟨puts [] t', [],none,M⟩):
 W Try.prog S0 none nf100_l1.loop ⟨t, [],none,m⟩ Q:=by
 refine W.loop (fun k d=>∃t M i v',d=⟨t, [],none,M⟩/\NT.get D4.e t=some v'/\NT.get D4.e.f.c t=some vk/\NT.get D4.e.f.f t=some (ii ks.length)/\NT.get D4.e.a.a.a t=some (ii (i:Nat))/\i+k=ks.length/\Own B M v' 1 (Strs (l++namesL (ks.take i)))/\Chg (ids v) m M/\From m v v') ?_ ks.length _ ⟨t,m,0,v,rfl,g1,g2,g3,g4,by omega,by simpa [namesL] using hv,(Chg.refl m).weak (by simp),From.refl m v⟩
 rintro k d ⟨t,M,i,v',rfl,g1,g2,g3,g4,hik,hv',hC,hF⟩
 apply wp_sound
 unfold nf100_l1
 change wp _ _ _ _ ⟨puts [] t, [],none,M⟩ _
 have hCM:=own_base hv h0 hC0 hC
 by_cases hi:i<ks.length
 ·have hSM:=(hS.stays (stN hCM T))
  obtain ⟨cx,hcx,hRx⟩:=hS.at i hi
  obtain ⟨id,off,wr,c,a1,a2,a3,a4,a5⟩:=hSM.sl.at i (by rw[hS.len];exact hi)
  have ecx:C[i]'(by rw[hS.len];exact hi)=cx:=by
   have:=List.getElem?_eq_getElem (l:=C) (i:=i) (by rw[hS.len];exact hi)
   rw[this] at hcx;injection hcx
  rw[ecx] at a5
  obtain ⟨vx,Cx,rfl,-⟩:=hRx.inv'
  have hszi:=szL_take ks i hi
  rw[←hp_nil M]
  have hl5:(ks[i].l vx).length=5:=rfl
  have hls:=len_szL ks
  have hl5':(ks[i].l vx).take 5=ks[i].l vx:=rfl
  simp (config:={maxSteps:=1000000}) (disch:=(first|assumption|omega|exact old_n (by omega)|exact old_hp (by assumption)|(simp only[nmL]<;>omega))) only[go_sem,seval,g1,g2,g3,g4,a1,a2,a5,hl5,hl5']
  generalize hM1:hp _ 1 M=M1
  have hC1:Chg [] M M1:=by rw[←hM1];exact hp_of rfl
  refine WF.use (ih ks[i] (List.getElem_mem hi) hRx (hCM.trans hC1 (by simp)) (hv'.chg hC1 fun _ _=>by simp) h0 (fun i hi=>hC1.old (hC.old (hB i hi))) (by rw[List.length_append];omega)) ?_
  rintro v2 M2 ⟨hv2,hC2,hF2⟩
  simp (config:={maxSteps:=1000000}) (disch:=(first|assumption|omega|exact old_n (by omega)|exact old_hp (by assumption)|(simp only[nmL]<;>omega))) only[go_sem,seval,g1,g2,g3,g4]
  have hC3:Chg (ids v') M M2:=(hC1.weak (by simp)).trans hC2 fun _ h _=>h
  refine ⟨k - 1,by omega,_,M2,i+1,v2,by rfl, ?_, ?_, ?_, ?_,by omega, ?_,hF.chg hC hC3,hF.trans (fun i hi=>(hF2 i hi).imp _root_.id fun q o=>q (hC1.old o)) fun i hi=>hC.old hi⟩
  ·simp (config:={maxSteps:=1000000}) (disch:=(first|assumption|omega|exact old_n (by omega)|exact old_hp (by assumption)|(simp only[nmL]<;>omega))) only[go_sem,seval]
  ·simp (config:={maxSteps:=1000000}) (disch:=(first|assumption|omega|exact old_n (by omega)|exact old_hp (by assumption)|(simp only[nmL]<;>omega))) only[go_sem,seval,g2]
  ·simp (config:={maxSteps:=1000000}) (disch:=(first|assumption|omega|exact old_n (by omega)|exact old_hp (by assumption)|(simp only[nmL]<;>omega))) only[go_sem,seval,g3]
  ·simp (config:={maxSteps:=1000000}) (disch:=(first|assumption|omega|exact old_n (by omega)|exact old_hp (by assumption)|(simp only[nmL]<;>omega))) only[go_sem,seval]<;>rfl
  ·rw[take_succ_names hi,←List.append_assoc];exact hv2
 ·simp (config:={maxSteps:=1000000}) (disch:=(first|assumption|omega|exact old_n (by omega)|exact old_hp (by assumption)|(simp only[nmL]<;>omega))) only[go_sem,seval,g1,g2,g3,g4]
  have e:(ks.take i)=ks:=List.take_of_length_le (by omega)
  rw[e] at hv'
  refine hQ _ _ v' ?_ hv' hC hF
  simp (config:={maxSteps:=1000000}) (disch:=(first|assumption|omega|exact old_n (by omega)|exact old_hp (by assumption)|(simp only[nmL]<;>omega))) only[go_sem,seval,put_puts,g1]
theorem inExpr_p:∀x,InE x:=by
 apply Ex.ind
 intro kd n o s ks ih m0 T c B m v l hR hC0 hv h0 hB hsz
 obtain ⟨vk,C,rfl,hS⟩:=hR.inv
 rw[Ex.sz] at hsz
 refine WF.ex fun K hK=> ?_
 refine WF.of_wpG (fun _=>rfl) nf100_eq (L:= [(.a .e,.agg [ii kd,u64 n,u8 o,.str s,vk]),(.e,v)]) rfl ?_
 unfold nf100
 have hC1:Chg [] m (hp [(.n 0,.cells true [ii kd,u64 n,u8 o,.str s,vk])] 1 m):=hp_of rfl
 have hlen:=(hS.stays (stN (hC0.trans hC1 (by simp)) T)).sl.len
 rw[hS.len] at hlen
 by_cases h1:kd=1
 ·subst h1
  simp (config:={maxSteps:=1000000}) (disch:=(first|assumption|omega|exact old_n (by omega)|exact old_hp (by assumption)|(simp only[nmL]<;>omega))) only[go_sem,seval]
  have hC2:Chg [] m (hp [(.n 1,.cells true [.str s]),(.n 0,.cells true [ii 1,u64 n,u8 o,.str s,vk])] 2 m):=hp_of rfl
  refine wNT_app2 (hv.chg hC2 fun _ _=>by simp) h_getN (old_n (by omega)) rfl (fun i hi=>hC2.old (hB i hi)) (by simp;omega) (by simp;omega) ?_
  intro v2 M2 hv2 hC3 hF2
  simp (config:={maxSteps:=1000000}) (disch:=(first|assumption|omega|exact old_n (by omega)|exact old_hp (by assumption)|(simp only[nmL]<;>omega))) only[go_sem,seval]
  refine hK _ _ ⟨?_,(hC2.weak (by simp)).trans hC3 fun _ h _=>h,fun i hi=>(hF2 i hi).imp _root_.id fun q o=>q (hC2.old o)⟩
  rw[Ex.names,if_pos rfl,strs_app];exact hv2
 ·by_cases h2:kd=2
  ·subst h2
   simp (config:={maxSteps:=1000000}) (disch:=(first|assumption|omega|exact old_n (by omega)|exact old_hp (by assumption)|(simp only[nmL]<;>omega))) only[go_sem,seval,hlen]
   refine inExpr_loop hS ih (hC0.trans hC1 (by simp)) (hv.chg hC1 fun _ _=>by simp) h0 (fun i hi=>hC1.old (hB i hi)) (by omega) (by simp only[go_sem,seval]) (by simp only[go_sem,seval]) (by simp only[go_sem,seval]) (by simp only[go_sem,seval]) ?_
   intro t' M v' g1 q1 q2 q3
   simp (config:={maxSteps:=1000000}) (disch:=(first|assumption|omega|exact old_n (by omega)|exact old_hp (by assumption)|(simp only[nmL]<;>omega))) only[go_sem,seval,g1]
   refine hK _ _ ⟨?_,(hC1.weak (by simp)).trans q2 fun _ h _=>h,fun i hi=>(q3 i hi).imp _root_.id fun q o=>q (hC1.old o)⟩
   rw[Ex.names,if_neg (by omega),if_pos rfl];exact q1
  ·simp (config:={maxSteps:=1000000}) (disch:=(first|assumption|omega|exact old_n (by omega)|exact old_hp (by assumption)|(simp only[nmL]<;>omega))) only[go_sem,seval]
   refine hK _ _ ⟨?_,hC1.weak (by simp),From.refl m v⟩
   rw[Ex.names,if_neg h1,if_neg h2,List.append_nil];exact hv.chg hC1 fun _ _=>by simp
end FR
open Go Nm Go.Proofs
namespace FR
set_option linter.unusedSimpArgs false
set_option linter.unusedVariables false
theorem own_eq (s:Stm):s.own=(if s.k=0∨s.k=1∨s.k=3 then [s.nm] else [])++((if s.k=1∨s.k=2∨s.k=3 then s.i.names else [])++((if s.k=0∨s.k=2∨s.k=3∨s.k=5∨s.k=6∨s.k=7 then s.x.names else [])++(if s.k=3 then s.y.names else []))):=by cases s;rfl
theorem sz_eq (s:Stm):s.sz=1+s.i.sz+s.x.sz+s.y.sz+szB s.b+szB s.e:=by cases s;rfl
theorem ints_flat (l:List Int):(Ints l).flatten=l.map ii:=by
 induction l with
 |nil=>rfl
 |cons a l ih=>show [ii a]++(Ints l).flatten=_;rw[ih];rfl
theorem has_w (M:NH) {k:Int} (l:List Int) {n:Nat} {c:List NV} (hc:c.length=20) (hn:n=l.length) (hl:l.length<=10):∃m',Ret Try.prog S0 91 [.agg (ii k::c),.slc M.next 0 n 1 n] (M.add (.cells true (l.map ii))) (.bool (decide (k∈l))) m'/\Chg [] M m':=by
 subst hn
 have h:Sl (M.add (.cells true (l.map ii))) (.slc M.next 0 l.length 1 l.length) 1 (Ints l):=
  (Own.of (B:=M) (by simp) (fun q=>Nat.lt_irrefl _ q) (NH.get_add_same M _) (old_next M _) (ints_flat l).symm (by simp) (by simp)).sl
 obtain ⟨m',h1,h2⟩:=has_p _ h (by omega) (k:=k) hc
 exact ⟨m',h1,(Chg.add M _).trans h2 (by simp)⟩
theorem names_p {m0 m:NH} {T:D4->Prop} {s:Stm} {c:List NV} (hR:RS m0 T s c) (hC0:Chg [] m0 m) (hsz:s.sz<=100000000):
 ∃v m',Ret Try.prog S0 55 [.agg c] m v m'/\Own m m' v 1 (Strs s.own)/\Chg [] m m':=by
 obtain ⟨w,rfl,hP⟩:=hR.inv'
 refine WF.ex fun K hK=> ?_
 refine WF.of_wpG (fun _=>rfl) nf55_eq (L:= [(.e,.agg (s.l w))]) rfl ?_
 unfold nf55
 rw[sz_eq] at hsz
 have hni:=names_le s.i
 have hnx:=names_le s.x
 have hny:=names_le s.y
 generalize hm1:hp [(.n 0,.cells true (s.l w))] 1 m=m1
 have hC1:Chg [] m m1:=by rw[←hm1];exact hp_of rfl
 have hC01:Chg [] m0 m1:=hC0.trans hC1 (by simp)
 have hg0:m1.get (na m 0)=some (.cells true (s.l w)):=by rw[←hm1];exact h_getN
 have ho0:Old m1 (na m 0):=by rw[←hm1];exact old_n (by omega)
 let Φ:List (List Nat)->Dyn->Prop:=fun l d=>∃t M v,d=⟨t, [],none,M⟩/\NT.get D4.e.a t=some (.ptr (na m 0) 0)/\NT.get D4.e.c t=some v/\Own m1 M v 1 (Strs l)/\Chg [] m1 M
 have hl21:(s.l w).length=21:=rfl
 have hl21':(s.l w).take 21=s.l w:=rfl
 have hins:∀{M M':NH} {v:NV} {l:List (List Nat)} {x:Ex} {c:List NV},Chg [] m1 M->Chg [] M M'->Own m1 M v 1 (Strs l)->RE m0 T x c->l.length+x.sz<=1000000000->∃v' M'',Ret Try.prog S0 100 [v,.agg c] M' v' M''/\Own m1 M'' v' 1 (Strs (l++x.names))/\Chg [] m1 M'':=by
  intro M M' v l x c h1 h2 h3 h4 h5
  have hC':=h1.trans h2 (by simp)
  obtain ⟨v',M'',q1,q2,q3,-⟩:=inExpr_p x h4 (hC01.trans hC' (by simp)) (h3.chg h2 fun _ _=>by simp) (fun i hi=>hC01.old hi) (fun i hi=>hC'.old hi) h5
  exact ⟨v',M'',q1,q2,own_base h3 (fun i hi=>hi) h1 ((h2.weak (by simp)).trans q3 fun _ h _=>h)⟩
 refine cutK (fun d=>d=⟨puts [(.a .e,.ptr (na m 0) 0),(.b .e,.nils),(.e,.agg (s.l w))] .leaf, [],none,m1⟩) (fun R hR=> ?_) ?_
 ·simp (config:={maxSteps:=1000000}) (disch:=(first|assumption|omega|exact old_n (by omega)|exact old_hp (by assumption)|(simp only[nmL]<;>omega))) only[go_sem,seval,hm1]
  exact hR _ rfl
 rintro d rfl
 refine cutK (Φ []) (fun R hR=> ?_) ?_
 ·simp (config:={maxSteps:=1000000}) (disch:=(first|assumption|omega|exact old_n (by omega)|exact old_hp (by assumption)|(simp only[nmL]<;>omega))) only[go_sem,seval]
  exact hR _ ⟨_,_,.nils,rfl,by simp only[go_sem,seval],by simp only[go_sem,seval],Own.nil,Chg.refl m1⟩
 rintro d ⟨t,M,v,rfl,g1,g2,hv,hC⟩
 change wp _ _ _ _ ⟨puts [] t, [],none,M⟩ _
 refine cutK (Φ (if s.k=0∨s.k=1∨s.k=3 then [s.nm] else [])) (fun R hR=> ?_) ?_
 ·have hgM:=(hC.get ho0 (by simp)).trans hg0
  simp (config:={maxSteps:=1000000}) (disch:=(first|assumption|omega|exact old_n (by omega)|exact old_hp (by assumption)|(simp only[nmL]<;>omega))) only[go_sem,seval,g1,g2,hgM,hl21,hl21']
  refine WF.use1H (has_w M [0,1,3] rfl rfl (by decide)) ?_
  intro M' hC'
  have hgM':=(hC'.get (hC.old ho0) (by simp)).trans hgM
  have hoM':=hC'.old (hC.old ho0)
  by_cases hk:s.k∈ [0,1,3]
  ·rw[decide_eq_true hk]
   simp (config:={maxSteps:=1000000}) (disch:=(first|assumption|omega|exact old_n (by omega)|exact old_hp (by assumption)|(simp only[nmL]<;>omega))) only[go_sem,seval,g1,g2,hgM',hoM']
   have hC2:Chg [] M' (hp [(.n 0,.cells true [.str s.nm])] 1 M'):=hp_of rfl
   have hC3:=hC'.trans hC2 (by simp)
   refine wNT_app2 (C:= []) (B:=m1) (hv.chg hC3 fun _ _=>by simp) h_getN (old_n (by omega)) rfl (fun i hi=>hC3.old (hC.old hi)) (by simp) (by simp) ?_
   intro v2 M2 hv2 hC4 hF
   simp (config:={maxSteps:=1000000}) (disch:=(first|assumption|omega|exact old_n (by omega)|exact old_hp (by assumption)|(simp only[nmL]<;>omega))) only[go_sem,seval,g1,g2]
   refine hR _ ⟨_,_,v2,rfl,by simp only[go_sem,seval,g1],by simp only[go_sem,seval], ?_, ?_⟩
   ·rw[if_pos (by simpa using hk)];exact hv2
   ·exact own_base hv (fun i hi=>hi) hC ((hC3.weak (by simp)).trans hC4 fun _ h _=>h)
  ·rw[decide_eq_false hk]
   simp (config:={maxSteps:=1000000}) (disch:=(first|assumption|omega|exact old_n (by omega)|exact old_hp (by assumption)|(simp only[nmL]<;>omega))) only[go_sem,seval,g1,g2,hp_nil]
   refine hR _ ⟨_,_,v,rfl,by simp only[go_sem,seval,g1],by simp only[go_sem,seval,g2], ?_,hC.trans hC' (by simp)⟩
   rw[if_neg (by simpa using hk)];exact hv.chg hC' fun _ _=>by simp
 clear g1 g2 hv hC
 rintro d ⟨t,M,v,rfl,g1,g2,hv,hC⟩
 change wp _ _ _ _ ⟨puts [] t, [],none,M⟩ _
 generalize hL1:(if s.k=0∨s.k=1∨s.k=3 then [s.nm] else [])=L1 at hv
 have hn1:L1.length<=1:=by rw[←hL1];split<;>simp
 refine cutK (Φ (L1++if s.k=1∨s.k=2∨s.k=3 then s.i.names else [])) (fun R hR=> ?_) ?_
 ·have hgM:=(hC.get ho0 (by simp)).trans hg0
  simp (config:={maxSteps:=1000000}) (disch:=(first|assumption|omega|exact old_n (by omega)|exact old_hp (by assumption)|(simp only[nmL]<;>omega))) only[go_sem,seval,g1,g2,hgM,hl21,hl21']
  refine WF.use1H (has_w M [1,2,3] rfl rfl (by decide)) ?_
  intro M' hC'
  have hgM':=(hC'.get (hC.old ho0) (by simp)).trans hgM
  have hoM':=hC'.old (hC.old ho0)
  by_cases hk:s.k∈ [1,2,3]
  ·rw[decide_eq_true hk]
   simp (config:={maxSteps:=1000000}) (disch:=(first|assumption|omega|exact old_n (by omega)|exact old_hp (by assumption)|(simp only[nmL]<;>omega))) only[go_sem,seval,g1,g2,hgM',hoM',hp_nil]
   refine WF.use (hins hC hC' hv hP.i (by omega)) ?_
   rintro v2 M2 ⟨hv2,hC2⟩
   simp (config:={maxSteps:=1000000}) (disch:=(first|assumption|omega|exact old_n (by omega)|exact old_hp (by assumption)|(simp only[nmL]<;>omega))) only[go_sem,seval,g1,g2]
   refine hR _ ⟨_,_,v2,rfl,by simp only[go_sem,seval,g1],by simp only[go_sem,seval], ?_,hC2⟩
   rw[if_pos (by simpa using hk)];exact hv2
  ·rw[decide_eq_false hk]
   simp (config:={maxSteps:=1000000}) (disch:=(first|assumption|omega|exact old_n (by omega)|exact old_hp (by assumption)|(simp only[nmL]<;>omega))) only[go_sem,seval,g1,g2,hp_nil]
   refine hR _ ⟨_,_,v,rfl,by simp only[go_sem,seval,g1],by simp only[go_sem,seval,g2], ?_,hC.trans hC' (by simp)⟩
   rw[if_neg (by simpa using hk),List.append_nil];exact hv.chg hC' fun _ _=>by simp
 clear g1 g2 hv hC
 rintro d ⟨t,M,v,rfl,g1,g2,hv,hC⟩
 change wp _ _ _ _ ⟨puts [] t, [],none,M⟩ _
 generalize hL2:(L1++if s.k=1∨s.k=2∨s.k=3 then s.i.names else [])=L2 at hv
 have hn2:L2.length<=1+s.i.sz:=by rw[←hL2,List.length_append];split<;>first|omega|(rw[List.length_nil];omega)
 refine cutK (Φ (L2++if s.k=0∨s.k=2∨s.k=3∨s.k=5∨s.k=6∨s.k=7 then s.x.names else [])) (fun R hR=> ?_) ?_
 ·have hgM:=(hC.get ho0 (by simp)).trans hg0
  simp (config:={maxSteps:=1000000}) (disch:=(first|assumption|omega|exact old_n (by omega)|exact old_hp (by assumption)|(simp only[nmL]<;>omega))) only[go_sem,seval,g1,g2,hgM,hl21,hl21']
  refine WF.use1H (has_w M [0,2,3,5,6,7] rfl rfl (by decide)) ?_
  intro M' hC'
  have hgM':=(hC'.get (hC.old ho0) (by simp)).trans hgM
  have hoM':=hC'.old (hC.old ho0)
  by_cases hk:s.k∈ [0,2,3,5,6,7]
  ·rw[decide_eq_true hk]
   simp (config:={maxSteps:=1000000}) (disch:=(first|assumption|omega|exact old_n (by omega)|exact old_hp (by assumption)|(simp only[nmL]<;>omega))) only[go_sem,seval,g1,g2,hgM',hoM',hp_nil]
   refine WF.use (hins hC hC' hv hP.x (by omega)) ?_
   rintro v2 M2 ⟨hv2,hC2⟩
   simp (config:={maxSteps:=1000000}) (disch:=(first|assumption|omega|exact old_n (by omega)|exact old_hp (by assumption)|(simp only[nmL]<;>omega))) only[go_sem,seval,g1,g2]
   refine hR _ ⟨_,_,v2,rfl,by simp only[go_sem,seval,g1],by simp only[go_sem,seval], ?_,hC2⟩
   rw[if_pos (by simpa using hk)];exact hv2
  ·rw[decide_eq_false hk]
   simp (config:={maxSteps:=1000000}) (disch:=(first|assumption|omega|exact old_n (by omega)|exact old_hp (by assumption)|(simp only[nmL]<;>omega))) only[go_sem,seval,g1,g2,hp_nil]
   refine hR _ ⟨_,_,v,rfl,by simp only[go_sem,seval,g1],by simp only[go_sem,seval,g2], ?_,hC.trans hC' (by simp)⟩
   rw[if_neg (by simpa using hk),List.append_nil];exact hv.chg hC' fun _ _=>by simp
 clear g1 g2 hv hC
 rintro d ⟨t,M,v,rfl,g1,g2,hv,hC⟩
 change wp _ _ _ _ ⟨puts [] t, [],none,M⟩ _
 generalize hL3:(L2++if s.k=0∨s.k=2∨s.k=3∨s.k=5∨s.k=6∨s.k=7 then s.x.names else [])=L3 at hv
 have hn3:L3.length<=1+s.i.sz+s.x.sz:=by rw[←hL3,List.length_append];split<;>first|omega|(rw[List.length_nil];omega)
 have hown:s.own=L3++if s.k=3 then s.y.names else []:=by rw[own_eq,←hL3,←hL2,←hL1];simp only[List.append_assoc]
 have hgM:=(hC.get ho0 (by simp)).trans hg0
 have fin:∀{v M},Own m1 M v 1 (Strs s.own)->Chg [] m1 M->Own m M v 1 (Strs s.own)/\Chg [] m M:=fun h1 h2=>⟨h1.back fun i hi=>hC1.old hi,hC1.trans h2 (by simp)⟩
 by_cases hk:s.k=3
 ·rw[if_pos hk] at hown
  have hd:decide (s.k=3)=true:=decide_eq_true hk
  simp (config:={maxSteps:=1000000}) (disch:=(first|assumption|omega|exact old_n (by omega)|exact old_hp (by assumption)|(simp only[nmL]<;>omega))) only[go_sem,seval,g1,g2,hgM,hl21,hl21',hd]
  refine WF.use (hins hC (Chg.refl M) hv hP.y (by omega)) ?_
  rintro v2 M2 ⟨hv2,hC2⟩
  simp (config:={maxSteps:=1000000}) (disch:=(first|assumption|omega|exact old_n (by omega)|exact old_hp (by assumption)|(simp only[nmL]<;>omega))) only[go_sem,seval,g1,g2]
  rw[←hown] at hv2
  exact hK _ _ (fin hv2 hC2)
 ·rw[if_neg hk,List.append_nil] at hown
  have hd:decide (s.k=3)=false:=decide_eq_false hk
  simp (config:={maxSteps:=1000000}) (disch:=(first|assumption|omega|exact old_n (by omega)|exact old_hp (by assumption)|(simp only[nmL]<;>omega))) only[go_sem,seval,g1,g2,hgM,hl21,hl21',hd]
  rw[←hown] at hv
  exact hK _ _ (fin hv hC)
end FR
open Go Nm Go.Proofs
namespace FR
set_option linter.unusedSimpArgs false
set_option linter.unusedVariables false
def foldS {σ:Type} (f:σ->Stm->σ×Bool):List Stm->σ->σ×Bool
 | [],s=>(s,true)
 |x::l,s=>if (f s x).2 then foldS f l (f s x).1 else f s x
theorem foldS_append {σ:Type} (f:σ->Stm->σ×Bool) (a b:List Stm):∀s,foldS f (a++b) s=if (foldS f a s).2 then foldS f b (foldS f a s).1 else foldS f a s:=by
 induction a with
 |nil=>intro s;simp[foldS]
 |cons x a ih=>
  intro s
  simp only[List.cons_append,foldS]
  split
  ·exact ih _
  ·rename_i h;simp[h]
def Al {σ:Type} (A:σ->Stm->Prop) (f:σ->Stm->σ×Bool):List Stm->σ->Prop
 | [],_=>True
 |x::l,s=>A s x/\((f s x).2=true->Al A f l (f s x).1)
theorem Al_append {σ:Type} {A:σ->Stm->Prop} {f:σ->Stm->σ×Bool} (a b:List Stm):∀s,Al A f (a++b) s↔Al A f a s/\((foldS f a s).2=true->Al A f b (foldS f a s).1):=by
 induction a with
 |nil=>intro s;simp[Al,foldS]
 |cons x a ih=>
  intro s
  simp only[List.cons_append,Al,foldS,ih]
  constructor
  ·rintro ⟨h1,h2⟩
   refine ⟨⟨h1,fun h=>(h2 h).1⟩,fun h=> ?_⟩
   cases hb:(f s x).2 with
   |true=>rw[hb] at h;simp only[if_true] at h ⊢;exact (h2 hb).2 h
   |false=>rw[hb] at h;simp[hb] at h
  ·rintro ⟨⟨h1,h2⟩,h3⟩
   refine ⟨h1,fun h=>⟨h2 h,fun h4=> ?_⟩⟩
   rw[h] at h3;simp only[if_true] at h3;exact h3 h4
structure Ylds {σ:Type} (q:D4) (m0:NH) (T:D4->Prop) (A:σ->Stm->Prop) (f:σ->Stm->σ×Bool) (Φ:σ->List D4->NH->Prop):Prop where
 base:∀{s F N},Φ s F N->Chg [] m0 N
 old:∀{s F N},Φ s F N->∀i∈F,Old N i
 grow:∀{s F N N'},Φ s F N->Chg [] N N'->Φ s F N'
 y:∀{s F N x c},Φ s F N->RS m0 T x c->A s x->∃N',RetY Try.prog S0 q [.agg c] N (.bool (f s x).2) N'/\∃F',Φ (f s x).1 F' N'/\Chg F N N'/\∀i∈F',i∈F∨¬Old N i
section
variable {σ:Type} {q:D4} {m0:NH} {T:D4->Prop} {A:σ->Stm->Prop} {f:σ->Stm->σ×Bool} {Φ:σ->List D4->NH->Prop}
def EachL (q:D4) (m0:NH) (T:D4->Prop) (A:σ->Stm->Prop) (f:σ->Stm->σ×Bool) (Φ:σ->List D4->NH->Prop) (l:List Stm):Prop:=
 ∀{v C N s F},SS m0 T v l C->Φ s F N->Al A f (allL l) s->szB l<=1000000000->
  ∃N',Ret Try.prog S0 98 [v,.yld q] N (.bool (foldS f (allL l) s).2) N'/\∃F',Φ (foldS f (allL l) s).1 F' N'/\Chg F N N'/\∀i∈F',i∈F∨¬Old N i
theorem all_eq (x:Stm):x.all=x::((if x.k=6∨x.k=7 then allL x.b else [])++(if x.k=6 then allL x.e else [])):=by cases x;rfl
theorem allL_take {l:List Stm} {i:Nat} (hi:i<l.length):allL (l.take (i+1))=allL (l.take i)++l[i].all:=by
 rw[List.take_add_one,List.getElem?_eq_getElem hi,Option.toList_some,allL_append,allL,allL,List.append_nil]
theorem szB_mem {l:List Stm} {x:Stm} (hx:x∈l):x.sz<=szB l:=by
 induction l with
 |nil=>simp at hx
 |cons a l ih=>
  rw[szB]
  rcases List.mem_cons.mp hx with rfl|hx
  ·omega
  ·have:=ih hx;omega
theorem each_round (hy:Ylds q m0 T A f Φ) {x:Stm} {w:SV} (hR:RS m0 T x (x.l w)) (hP:SP m0 T x w) (hb:EachL q m0 T A f Φ x.b) (he:EachL q m0 T A f Φ x.e) {s:σ} (hA:Al A f x.all s) (hsz:x.sz<=1000000000)
 {v:NV} {N:NH} {F:List D4} (hΦ:Φ s F N) {i n:Nat} {id:D4} {off:Nat} {wr:Bool} {C:List NV} (hi:i<n) (hn:n<=1000000000) (a1:idxV 21 v (ii i)= .val (.ptr id off)) (a2:N.get id=some (.cells wr C)) (a3:Old N id) (a4:off+21<=C.length) (a5:(C.drop off).take 21=x.l w) {t:Tm}
 (g1:NT.get D4.e.a t=some (.yld q)) (g2:NT.get D4.e.a.c t=some v) (g3:NT.get D4.e.a.f t=some (ii n)) (g4:NT.get D4.e.b.a t=some (ii i)) {Q:Out->Dyn->Prop}
 (hN:(foldS f x.all s).2=true->∀t' N' F',Φ (foldS f x.all s).1 F' N'->Chg F N N'->(∀i∈F',i∈F∨¬Old N i)->NT.get D4.e.a t'=some (.yld q)->NT.get D4.e.a.c t'=some v->NT.get D4.e.a.f t'=some (ii n)->NT.get D4.e.b.a t'=some (ii (i+1:Nat))->Q .norm ⟨t', [],none,N'⟩)
 (hF:(foldS f x.all s).2=false->∀t' N' F',Φ (foldS f x.all s).1 F' N'->Chg F N N'->(∀i∈F',i∈F∨¬Old N i)->NT.get D4.e.f t'=some (.bool false)->Q .ret ⟨puts [] t', [],none,N'⟩):
 wp Try.prog S0 none nf98_l1 ⟨puts [] t, [],none,N⟩ Q:=by
 unfold nf98_l1
 have hl21:(x.l w).length=21:=rfl
 have hl21':(x.l w).take 21=x.l w:=rfl
 rw[←hp_nil N]
 simp (config:={maxSteps:=1000000}) (disch:=(first|assumption|omega|exact old_n (by omega)|exact old_hp (by assumption)|(simp only[nmL]<;>omega))) only[go_sem,seval,g1,g2,g3,g4,a1,a2,a5,hl21,hl21']
 generalize hM1:hp _ 1 N=M1
 have hC1:Chg [] N M1:=by rw[←hM1];exact hp_of rfl
 have hg0:M1.get (na N 0)=some (.cells true (x.l w)):=by rw[←hM1];exact h_getN
 have ho0:Old M1 (na N 0):=by rw[←hM1];exact old_n (by omega)
 have hal:=all_eq x
 rw[hal] at hA
 refine WY.use1 (hy.y (hy.grow hΦ hC1) hR hA.1) ?_
 rintro M2 ⟨F2,hΦ2,hC2,hF2⟩
 have hn0:na N 0∉F:=fun h=>(hy.old hΦ _ h).ne 0 rfl
 have hg2:=(hC2.get ho0 hn0).trans hg0
 have ho2:=hC2.old ho0
 have hC02:Chg F N M2:=(hC1.weak (by simp)).trans hC2 fun _ h _=>h
 have hN2:∀i∈F2,i∈F∨¬Old N i:=fun i hi=>(hF2 i hi).imp _root_.id fun q o=>q (hC1.old o)
 cases hb1:(f s x).2 with
 |false=>
  have hfo:foldS f x.all s=f s x:=by rw[hal,foldS,hb1];rfl
  simp (config:={maxSteps:=1000000}) (disch:=(first|assumption|omega|exact old_n (by omega)|exact old_hp (by assumption)|(simp only[nmL]<;>omega))) only[go_sem,seval,g1,g2,g3,g4,hg2,ho2]
  rw[hfo] at hF
  exact hF hb1 _ M2 F2 hΦ2 hC02 hN2 (by simp only[go_sem,seval])
 |true=>
  have hfo:foldS f x.all s=foldS f ((if x.k=6∨x.k=7 then allL x.b else [])++(if x.k=6 then allL x.e else [])) (f s x).1:=by rw[hal,foldS,hb1];rfl
  rw[hfo] at hN hF
  simp (config:={maxSteps:=1000000}) (disch:=(first|assumption|omega|exact old_n (by omega)|exact old_hp (by assumption)|(simp only[nmL]<;>omega))) only[go_sem,seval,g1,g2,g3,g4,hg2,ho2,hl21,hl21']
  refine WF.use1 (has_w M2 [6,7] rfl rfl (by decide)) ?_
  intro M3 hC3
  have hΦ3:=hy.grow hΦ2 hC3
  have hg3:=(hC3.get ho2 (by simp)).trans hg2
  have ho3:=hC3.old ho2
  have hC03:Chg F N M3:=hC02.trans hC3 (by simp)
  have hrb:=sz_eq x
  by_cases hk:x.k=6∨x.k=7
  ·rw[decide_eq_true (by simpa using hk:x.k∈ [6,7])]
   rw[if_pos hk] at hN hF hal
   obtain ⟨B,hB⟩:=hP.b
   obtain ⟨E,hE⟩:=hP.e
   have hA2:=hA.2 hb1
   rw[if_pos hk,Al_append] at hA2
   have hAb:=hA2.1
   simp (config:={maxSteps:=1000000}) (disch:=(first|assumption|omega|exact old_n (by omega)|exact old_hp (by assumption)|(simp only[nmL]<;>omega))) only[go_sem,seval,g1,g2,g3,g4,hg3,ho3]
   refine WF.use1 (hb hB hΦ3 hAb (by omega)) ?_
   rintro M4 ⟨F4,hΦ4,hC4,hF4⟩
   have hn3:na N 0∉F2:=fun h=>(hN2 _ h).elim hn0 fun q=>by
    rcases hF2 _ h with h|h
    ·exact hn0 h
    ·exact h ho0
   have hg4:=(hC4.get ho3 hn3).trans hg3
   have ho4:=hC4.old ho3
   have hC04:Chg F N M4:=hC03.trans hC4 fun i hi ho=>(hN2 i hi).elim _root_.id fun q=>absurd ho q
   have hN4:∀i∈F4,i∈F∨¬Old N i:=fun i hi=>(hF4 i hi).elim (hN2 i) fun q=>Or.inr fun o=>q (hC03.old o)
   rw[foldS_append] at hN hF
   cases hb2:(foldS f (allL x.b) (f s x).1).2 with
   |false=>
    rw[hb2] at hF
    simp (config:={maxSteps:=1000000}) (disch:=(first|assumption|omega|exact old_n (by omega)|exact old_hp (by assumption)|(simp only[nmL]<;>omega))) only[go_sem,seval,g1,g2,g3,g4,hg4,ho4]
    refine hF hb2 _ M4 F4 hΦ4 hC04 hN4 (by simp only[go_sem,seval])
   |true=>
    rw[hb2,if_pos rfl] at hN hF
    by_cases h6:x.k=6
    ·rw[if_pos h6] at hN hF hal
     have hAe:=hA2.2 hb2
     rw[if_pos h6] at hAe
     have hd:decide (x.k=6)=true:=decide_eq_true h6
     simp (config:={maxSteps:=1000000}) (disch:=(first|assumption|omega|exact old_n (by omega)|exact old_hp (by assumption)|(simp only[nmL]<;>omega))) only[go_sem,seval,g1,g2,g3,g4,hg4,ho4,hd]
     refine WF.use1 (he hE hΦ4 hAe (by omega)) ?_
     rintro M5 ⟨F5,hΦ5,hC5,hF5⟩
     have hC05:Chg F N M5:=hC04.trans hC5 fun i hi ho=>(hN4 i hi).elim _root_.id fun q=>absurd ho q
     have hN5:∀i∈F5,i∈F∨¬Old N i:=fun i hi=>(hF5 i hi).elim (hN4 i) fun q=>Or.inr fun o=>q (hC04.old o)
     cases hb3:(foldS f (allL x.e) (foldS f (allL x.b) (f s x).1).1).2 with
     |false=>
      simp (config:={maxSteps:=1000000}) (disch:=(first|assumption|omega|exact old_n (by omega)|exact old_hp (by assumption)|(simp only[nmL]<;>omega))) only[go_sem,seval,g1,g2,g3,g4]
      refine hF hb3 _ M5 F5 hΦ5 hC05 hN5 (by simp only[go_sem,seval])
     |true=>
      simp (config:={maxSteps:=1000000}) (disch:=(first|assumption|omega|exact old_n (by omega)|exact old_hp (by assumption)|(simp only[nmL]<;>omega))) only[go_sem,seval,g1,g2,g3,g4]
      refine hN hb3 _ M5 F5 hΦ5 hC05 hN5 (by simp only[go_sem,seval,g1]) (by simp only[go_sem,seval,g2]) (by simp only[go_sem,seval,g3]) (by simp only[go_sem,seval]<;>rfl)
    ·rw[if_neg h6] at hN hF
     have hd:decide (x.k=6)=false:=decide_eq_false h6
     simp (config:={maxSteps:=1000000}) (disch:=(first|assumption|omega|exact old_n (by omega)|exact old_hp (by assumption)|(simp only[nmL]<;>omega))) only[go_sem,seval,g1,g2,g3,g4,hg4,ho4,hd]
     refine hN rfl _ M4 F4 hΦ4 hC04 hN4 (by simp only[go_sem,seval,g1]) (by simp only[go_sem,seval,g2]) (by simp only[go_sem,seval,g3]) (by simp only[go_sem,seval]<;>rfl)
  ·rw[decide_eq_false (by simpa using hk:x.k∉ [6,7])]
   have h6:x.k≠6:=fun e=>hk (Or.inl e)
   rw[if_neg hk,if_neg h6] at hN hF
   have hd:decide (x.k=6)=false:=decide_eq_false h6
   simp (config:={maxSteps:=1000000}) (disch:=(first|assumption|omega|exact old_n (by omega)|exact old_hp (by assumption)|(simp only[nmL]<;>omega))) only[go_sem,seval,g1,g2,g3,g4,hg3,ho3,hd]
   refine hN rfl _ M3 F2 hΦ3 hC03 hN2 (by simp only[go_sem,seval,g1]) (by simp only[go_sem,seval,g2]) (by simp only[go_sem,seval,g3]) (by simp only[go_sem,seval]<;>rfl)
end
end FR
open Go Nm Go.Proofs
namespace FR
set_option linter.unusedSimpArgs false
set_option linter.unusedVariables false
section
variable {σ:Type} {q:D4} {m0:NH} {T:D4->Prop} {A:σ->Stm->Prop} {f:σ->Stm->σ×Bool} {Φ:σ->List D4->NH->Prop}
theorem allL_split (l:List Stm) (i:Nat) (hi:i<l.length):allL l=allL (l.take i)++(l[i].all++allL (l.drop (i+1))):=by
 conv=>lhs;rw[←List.take_append_drop i l,List.drop_eq_getElem_cons hi]
 rw[allL_append,allL]
theorem each_list (hy:Ylds q m0 T A f Φ) {l:List Stm} (ih:∀x∈l,EachL q m0 T A f Φ x.b/\EachL q m0 T A f Φ x.e):EachL q m0 T A f Φ l:=by
 intro v C N s F hS hΦ hA hsz
 refine WF.ex1 fun K hK=> ?_
 refine WF.of_wpG (fun _=>rfl) nf98_eq (L:= [(.a .e,.yld q),(.e,v)]) rfl ?_
 unfold nf98
 have hlen:=(hS.stays (stN (hy.base hΦ) T)).sl.len
 rw[hS.len] at hlen
 have hll:=len_szB l
 simp (config:={maxSteps:=1000000}) (disch:=(first|assumption|omega|exact old_n (by omega)|exact old_hp (by assumption)|(simp only[nmL]<;>omega))) only[go_sem,seval,hlen,hp_nil]
 refine W.loop (fun k d=>∃t M i F',d=⟨t, [],none,M⟩/\NT.get D4.e.a t=some (.yld q)/\NT.get D4.e.a.c t=some v/\NT.get D4.e.a.f t=some (ii l.length)/\NT.get D4.e.b.a t=some (ii (i:Nat))/\i+k=l.length/\(foldS f (allL (l.take i)) s).2=true/\Φ (foldS f (allL (l.take i)) s).1 F' M/\Chg F N M/\(∀i∈F',i∈F∨¬Old N i)) ?_ l.length _ ⟨_,N,0,F,rfl,by simp only[go_sem,seval],by simp only[go_sem,seval],by simp only[go_sem,seval],by simp only[go_sem,seval]<;>rfl,by omega,rfl,hΦ,(Chg.refl N).weak (by simp),fun _ h=>Or.inl h⟩
 rintro k d ⟨t,M,i,F',rfl,g1,g2,g3,g4,hik,hb,hΦ',hC,hF⟩
 apply wp_sound
 change wp _ _ _ _ ⟨puts [] t, [],none,M⟩ _
 by_cases hi:i<l.length
 ·have hCM:=hy.base hΦ'
  have hSM:=hS.stays (stN hCM T)
  obtain ⟨cx,hcx,hRx⟩:=hS.at i hi
  obtain ⟨id,off,wr,c,a1,a2,a3,a4,a5⟩:=hSM.sl.at i (by rw[hS.len];exact hi)
  have ecx:C[i]'(by rw[hS.len];exact hi)=cx:=by
   have:=List.getElem?_eq_getElem (l:=C) (i:=i) (by rw[hS.len];exact hi)
   rw[this] at hcx;injection hcx
  rw[ecx] at a5
  obtain ⟨w,rfl,hP⟩:=hRx.inv'
  have hsx:=szB_mem (List.getElem_mem hi)
  obtain ⟨h1,h2⟩:=ih _ (List.getElem_mem hi)
  have hst:foldS f (allL (l.take (i+1))) s=foldS f l[i].all (foldS f (allL (l.take i)) s).1:=by rw[allL_take hi,foldS_append,hb,if_pos rfl]
  rw[allL_split l i hi,Al_append,Al_append] at hA
  have hAi:=(hA.2 hb).1
  refine each_round hy hRx hP h1 h2 hAi (by omega) hΦ' (n:=l.length) hi (by omega) a1 a2 a3 a4 a5 g1 g2 g3 g4 ?_ ?_
  ·intro hb2 t' N' F2 hΦ2 hC2 hF2 g1 g2 g3 g4
   refine ⟨k - 1,by omega,t',N',i+1,F2,rfl,g1,g2,g3,g4,by omega, ?_, ?_,hC.trans hC2 fun j hj ho=>(hF j hj).elim _root_.id fun q=>absurd ho q,fun j hj=>(hF2 j hj).elim (hF j) fun q=>Or.inr fun o=>q (hC.old o)⟩
   ·rw[hst];exact hb2
   ·rw[hst];exact hΦ2
  ·intro hb2 t' N' F2 hΦ2 hC2 hF2 g1
   have hfin:foldS f (allL l) s=foldS f l[i].all (foldS f (allL (l.take i)) s).1:=by
    rw[allL_split l i hi,foldS_append,hb,if_pos rfl,foldS_append,hb2];rfl
   simp (config:={maxSteps:=1000000}) (disch:=(first|assumption|omega|exact old_n (by omega)|exact old_hp (by assumption)|(simp only[nmL]<;>omega))) only[go_sem,seval,g1]
   rw[hfin] at hK
   rw[←hb2]
   exact hK _ ⟨F2,hΦ2,hC.trans hC2 fun j hj ho=>(hF j hj).elim _root_.id fun q=>absurd ho q,fun j hj=>(hF2 j hj).elim (hF j) fun q=>Or.inr fun o=>q (hC.old o)⟩
 ·have e:(l.take i)=l:=List.take_of_length_le (by omega)
  rw[e] at hb hΦ'
  rw[hb] at hK
  unfold nf98_l1
  simp (config:={maxSteps:=1000000}) (disch:=(first|assumption|omega|exact old_n (by omega)|exact old_hp (by assumption)|(simp only[nmL]<;>omega))) only[go_sem,seval,g1,g2,g3,g4]
  exact hK _ ⟨F',hΦ',hC,hF⟩
theorem each_all (hy:Ylds q m0 T A f Φ):∀l:List Stm,EachL q m0 T A f Φ l:=by
 have key:∀x:Stm,EachL q m0 T A f Φ x.b/\EachL q m0 T A f Φ x.e:=by
  apply Stm.ind
  intro k a nm ce i x y b e hb he
  exact ⟨each_list hy hb,each_list hy he⟩
 exact fun l=>each_list hy fun x _=>key x
theorem all_it (hy:Ylds q m0 T A f Φ) {l:List Stm} {v:NV} {C:List (List NV)} {N:NH} {s:σ} {F:List D4} {id:D4} (hg:N.get id=some (.cells true [v])) (hS:SS m0 T v l C) (hΦ:Φ s F N) (hA:Al A f (allL l) s) (hsz:szB l<=1000000000):
 ∃N',Ret Try.prog S0 97 [.yld q,.ptr id 0] N (.tup []) N'/\∃F',Φ (foldS f (allL l) s).1 F' N'/\Chg F N N'/\∀i∈F',i∈F∨¬Old N i:=by
 refine WF.ex1 fun K hK=> ?_
 refine WF.of_wpG (fun _=>rfl) nf97_eq (L:= [(.a .e,.ptr id 0),(.e,.yld q)]) rfl ?_
 unfold nf97
 simp (config:={maxSteps:=1000000}) (disch:=(first|assumption|omega|exact old_n (by omega)|exact old_hp (by assumption)|(simp only[nmL]<;>omega))) only[go_sem,seval,hg,hp_nil]
 refine WF.use1 (each_all hy l hS hΦ hA hsz) ?_
 intro N' h
 simp (config:={maxSteps:=1000000}) (disch:=(first|assumption|omega|exact old_n (by omega)|exact old_hp (by assumption)|(simp only[nmL]<;>omega))) only[go_sem,seval]
 exact hK _ h
end
theorem all_p (m:NH) {v:NV} (hv:cellsOf v=some [v]):Ret Try.prog S0 53 [v] m (.fn 97 [.ptr (na m 0) 0]) (hp [(.n 0,.cells true [v])] 1 m):=by
 have h:∃r m',Ret Try.prog S0 53 [v] m r m'/\r= .fn 97 [.ptr (na m 0) 0]/\m'=(hp [(.n 0,.cells true [v])] 1 m):=by
  refine WF.ex fun K hK=> ?_
  refine WF.of_wpG (fun _=>rfl) nf53_eq (L:= [(.e,v)]) rfl ?_
  unfold nf53
  simp (config:={maxSteps:=1000000}) (disch:=(first|assumption|omega|exact old_n (by omega)|exact old_hp (by assumption)|(simp only[nmL]<;>omega))) only[go_sem,seval,hv]
  exact hK _ _ ⟨rfl,rfl⟩
 obtain ⟨r,m',h1,rfl,rfl⟩:=h
 exact h1
end FR
open Go Nm Go.Proofs
namespace FR
set_option linter.unusedSimpArgs false
set_option linter.unusedVariables false
def LcΦ (q o:D4) (t:Tm) (M1:NH) (st:List (List Nat)×Nat) (F:List D4) (N:NH):Prop:=∃u,F=q::o::ids u/\Chg [q,o] M1 N/\N.get q=some (.loop 0 .none t [D4.e.a.c] nf17_a1 nf17_r2)/\N.get o=some (.cells true [u])/\Own M1 N u 1 (Strs st.1)/\st.1.length<=st.2
def LcA (st:List (List Nat)×Nat) (x:Stm):Prop:=x.sz<=100000000/\st.2+x.own.length<=100000000
def Lcf (st:List (List Nat)×Nat) (x:Stm):(List (List Nat)×Nat)×Bool:=((x.own.foldl insN st.1,st.2+x.own.length),true)
theorem lc_ylds {m0 M1:NH} {T:D4->Prop} {q o:D4} {t:Tm} (h1:NT.get D4.e.c t=some (.ptr o 0)) (h0:∀S,Chg [q,o] M1 S->Chg [] m0 S) (hoq:o≠q) (hqo:Old M1 q) (hoo:Old M1 o):Ylds q m0 T LcA Lcf (LcΦ q o t M1):=by
 refine ⟨?_, ?_, ?_, ?_⟩
 ·rintro s F N ⟨u,rfl,hC,hq,ho,hu,hl⟩;exact h0 _ hC
 ·rintro s F N ⟨u,rfl,hC,hq,ho,hu,hl⟩ i hi
  rcases List.mem_cons.mp hi with rfl|hi
  ·exact hC.old hqo
  ·rcases List.mem_cons.mp hi with rfl|hi
   ·exact hC.old hoo
   ·exact hu.sl.old i hi
 ·rintro s F N N' ⟨u,rfl,hC,hq,ho,hu,hl⟩ hC'
  exact ⟨u,rfl,hC.trans hC' (by simp),(hC'.get (hC.old hqo) (by simp)).trans hq,(hC'.get (hC.old hoo) (by simp)).trans ho,hu.chg hC' fun _ _=>by simp,hl⟩
 ·rintro s F N x c ⟨u,rfl,hC,hq,ho,hu,hl⟩ hR ⟨hA1,hA2⟩
  obtain ⟨w,rfl,hP⟩:=hR.inv'
  refine WY.ex1 fun K hK=> ?_
  refine WY.of_wp hq rfl nf17_a1.eq_1 nf17_r2.eq_1 ?_
  change wp _ _ _ _ ⟨puts [(D4.e.a.c,.agg (x.l w))] t, [],none,hp [] 0 N⟩ _
  have hl21:(x.l w).length=21:=rfl
  have hl21':(x.l w).take 21=x.l w:=rfl
  have oq:=hC.old hqo
  have oo:=hC.old hoo
  have hqo':q≠o:=fun e=>hoq e.symm
  simp (config:={maxSteps:=1000000}) (disch:=(first|assumption|omega|exact old_n (by omega)|exact old_hp (by assumption)|(simp only[nmL]<;>omega))) only[go_sem,seval,h1,hq,ho,hl21,hl21']
  generalize hM2:hp _ 1 N=M2
  have hC2:Chg [q] N M2:=by rw[←hM2];exact hp_of rfl
  have q2:M2.get q=some (.loop 1 .none t [D4.e.a.c] nf17_a1 nf17_r2):=by rw[←hM2];exact (h_getO oq).trans h_lookOs
  have o2:M2.get o=some (.cells true [u]):=(hC2.get oo (by simpa using hoq)).trans ho
  have b2:M2.get (na N 0)=some (.cells true (x.l w)):=by rw[←hM2];exact h_getN
  have ob2:Old M2 (na N 0):=by rw[←hM2];exact old_n (by omega)
  have hC02:Chg [] m0 M2:=h0 _ (hC.trans (hC2.weak (T:= [q,o]) (by simp)) fun _ h _=>h)
  refine WF.use (names_p hR hC02 hA1) ?_
  rintro v3 M3 ⟨hv3,hC3⟩
  have q3:=(hC3.get (hC2.old oq) (by simp)).trans q2
  have o3:=(hC3.get (hC2.old oo) (by simp)).trans o2
  have b3:=(hC3.get ob2 (by simp)).trans b2
  have hqu:q∉ids u:=fun h=>hu.new _ h hqo
  have hou:o∉ids u:=fun h=>hu.new _ h hoo
  have hu3:Own M1 M3 u 1 (Strs s.1):=(hu.chg hC2 fun i hi=>by simp;rintro rfl;exact hqu hi).chg hC3 fun _ _=>by simp
  have hus:sameV 4 u u=true:=hu.sl.same
  simp (config:={maxSteps:=1000000}) (disch:=(first|assumption|omega|exact old_n (by omega)|exact old_hp (by assumption)|(simp only[nmL]<;>omega))) only[go_sem,seval,h1,q3,o3,b3,hl21,hl21',hus]
  refine WF.use (join_p hu3 hv3.sl (fun i hi hiu=>hv3.new i hi (hC2.old (hu.sl.old i hiu))) (fun i hi=>hC3.old (hC2.old (hC.old hi))) (by omega)) ?_
  rintro v4 M4 ⟨hv4,hC4,hF4⟩
  have q4:=(hC4.get (hC3.old (hC2.old oq)) hqu).trans q3
  have o4:=(hC4.get (hC3.old (hC2.old oo)) hou).trans o3
  have oq4:=hC4.old (hC3.old (hC2.old oq))
  have oo4:=hC4.old (hC3.old (hC2.old oo))
  rw[←hp_nil M4]
  simp (config:={maxSteps:=1000000}) (disch:=(first|assumption|omega|exact old_n (by omega)|exact old_hp (by assumption)|(simp only[nmL]<;>omega))) only[go_sem,seval,h1,q4,o4,b3,hl21,hl21',hus,hv4.sl.one]
  generalize hM5:hp _ 0 M4=M5
  have hC5:Chg [q,o] M4 M5:=by rw[←hM5];exact hp_of rfl
  have hqv:q∉ids v4:=fun h=>hv4.new _ h hqo
  have hov:o∉ids v4:=fun h=>hv4.new _ h hoo
  have hCN:Chg (q::o::ids u) N M5:=(((hC2.weak (T:=q::o::ids u) (by simp)).trans hC3 (by simp)).trans hC4 (fun _ h _=>by simp[h])).trans hC5 (fun i h _=>by simp at h ⊢;rcases h with h|h<;>simp[h])
  refine hK _ ⟨_,⟨v4,rfl, ?_, ?_, ?_, ?_, ?_⟩,hCN, ?_⟩
  ·refine hC.trans hCN fun i hi ho=> ?_
   simp only[List.mem_cons] at hi
   rcases hi with rfl|rfl|hi
   ·simp
   ·simp
   ·exact absurd ho (hu.new i hi)
  ·rw[←hM5];exact (h_getO oq4).trans h_lookOs
  ·rw[←hM5];exact (h_getO oo4).trans ((h_lookOo hoq).trans h_lookOs)
  ·refine hv4.chg hC5 fun i hi=> ?_
   simp only[List.mem_cons,List.not_mem_nil,or_false,not_or]
   exact ⟨fun e=>hqv (e▸hi),fun e=>hov (e▸hi)⟩
  ·have:=foldN_le x.own s.1
   show _<=s.2+x.own.length
   simp only[Lcf]
   omega
  ·intro i hi
   simp only[List.mem_cons] at hi ⊢
   rcases hi with rfl|rfl|hi
   ·simp
   ·simp
   ·rcases hF4 i hi with h|h
    ·exact Or.inl (Or.inr (Or.inr h))
    ·exact Or.inr fun ho=>h (hC3.old (hC2.old ho))
theorem lc_fold (l:List Stm):∀st,foldS Lcf l st=(((l.flatMap Stm.own).foldl insN st.1,st.2+(l.flatMap Stm.own).length),true):=by
 induction l with
 |nil=>intro st;rfl
 |cons x l ih=>
  intro st
  show (if true then foldS Lcf l (Lcf st x).1 else _)=_
  rw[if_pos rfl,ih]
  simp only[Lcf,List.flatMap_cons,List.foldl_append,List.length_append]
  rw[Nat.add_assoc]
theorem lc_al (l:List Stm):∀st:List (List Nat)×Nat,(∀x∈l,x.sz<=100000000)->st.2+(l.flatMap Stm.own).length<=100000000->Al LcA Lcf l st:=by
 induction l with
 |nil=>intro st _ _;trivial
 |cons x l ih=>
  intro st h1 h2
  rw[List.flatMap_cons,List.length_append] at h2
  exact ⟨⟨h1 x (List.mem_cons_self ..),by omega⟩,fun _=>ih _ (fun y hy=>h1 y (List.mem_cons_of_mem _ hy)) (by simp only[Lcf];omega)⟩
theorem all_sz:∀x:Stm,(∀y∈x.all,y.sz<=x.sz)/\(x.all.flatMap Stm.own).length<=2*x.sz:=by
 apply Stm.ind
 intro k a nm ce i x y b e hb he
 have key:∀l:List Stm,(∀s∈l,(∀y∈s.all,y.sz<=s.sz)/\(s.all.flatMap Stm.own).length<=2*s.sz)->(∀y∈allL l,y.sz<=szB l)/\((allL l).flatMap Stm.own).length<=2*szB l:=by
  intro l
  induction l with
  |nil=>intro _;exact ⟨by simp[allL],by simp[allL]⟩
  |cons s l ih=>
   intro h
   obtain ⟨h1,h2⟩:=h s (List.mem_cons_self ..)
   obtain ⟨h3,h4⟩:=ih fun y hy=>h y (List.mem_cons_of_mem _ hy)
   rw[allL,szB,List.flatMap_append,List.length_append]
   refine ⟨fun y hy=> ?_,by omega⟩
   rcases List.mem_append.mp hy with hy|hy
   ·have:=h1 y hy;omega
   ·have:=h3 y hy;omega
 obtain ⟨b1,b2⟩:=key b hb
 obtain ⟨e1,e2⟩:=key e he
 have hi:=names_le i
 have hx:=names_le x
 have hy:=names_le y
 have ho:(Stm.mk k a nm ce i x y b e).own.length<=1+i.sz+x.sz+y.sz:=by
  rw[Stm.own]
  simp only[List.length_append]
  have:∀(p:Prop) [Decidable p] (l:List (List Nat)),(if p then l else []).length<=l.length:=by intro p _ l;split<;>simp
  have a1:=this (k=0∨k=1∨k=3) [nm]
  have a2:=this (k=1∨k=2∨k=3) i.names
  have a3:=this (k=0∨k=2∨k=3∨k=5∨k=6∨k=7) x.names
  have a4:=this (k=3) y.names
  simp only[List.length_singleton] at a1
  omega
 rw[Stm.all,Stm.sz]
 constructor
 ·intro z hz
  rcases List.mem_cons.mp hz with rfl|hz
  ·rw[Stm.sz];omega
  ·rcases List.mem_append.mp hz with hz|hz
   ·split at hz
    ·have:=b1 z hz;omega
    ·simp at hz
   ·split at hz
    ·have:=e1 z hz;omega
    ·simp at hz
 ·rw[List.flatMap_cons,List.flatMap_append,List.length_append,List.length_append]
  have c1:((if k=6∨k=7 then allL b else []).flatMap Stm.own).length<=2*szB b:=by split<;>first|exact b2|simp
  have c2:((if k=6 then allL e else []).flatMap Stm.own).length<=2*szB e:=by split<;>first|exact e2|simp
  omega
theorem allL_sz (l:List Stm):(∀y∈allL l,y.sz<=szB l)/\((allL l).flatMap Stm.own).length<=2*szB l:=by
 induction l with
 |nil=>exact ⟨by simp[allL],by simp[allL]⟩
 |cons s l ih=>
  obtain ⟨h1,h2⟩:=all_sz s
  obtain ⟨h3,h4⟩:=ih
  rw[allL,szB,List.flatMap_append,List.length_append]
  refine ⟨fun y hy=> ?_,by omega⟩
  rcases List.mem_append.mp hy with hy|hy
  ·have:=h1 y hy;omega
  ·have:=h3 y hy;omega
theorem locals_p {m0 m:NH} {T:D4->Prop} {v:NV} {l:List Stm} {C:List (List NV)} (hS:SS m0 T v l C) (hC0:Chg [] m0 m) (hsz:szB l<=10000000):
 ∃r m',Ret Try.prog S0 17 [v] m r m'/\Own m m' r 1 (Strs (locals l))/\Chg [] m m':=by
 refine WF.ex fun K hK=> ?_
 refine WF.of_wpM (fun _=>rfl) nf17_eq (L:= [(.e,v)]) rfl ?_
 unfold nf17
 simp (config:={maxSteps:=1000000}) (disch:=(first|assumption|omega|exact old_n (by omega)|exact old_hp (by assumption)|(simp only[nmL]<;>omega))) only[go_sem,seval,(all_p _ hS.sl.one).wf']
 generalize hM0:hp [(.n 0,.cells true [.nils])] 1 m=M0
 have hC1:Chg [] m M0:=by rw[←hM0];exact hp_of rfl
 have go0:M0.get (na m 0)=some (.cells true [.nils]):=by rw[←hM0];exact h_getN
 have oo0:Old M0 (na m 0):=by rw[←hM0];exact old_n (by omega)
 generalize hM:hp [(.n 0,.cells true [v])] 1 M0=M
 have hC2:Chg [] M0 M:=by rw[←hM];exact hp_of rfl
 have gz:M.get (na M0 0)=some (.cells true [v]):=by rw[←hM];exact h_getN
 have oz:Old M (na M0 0):=by rw[←hM];exact old_n (by omega)
 have go:=(hC2.get oo0 (by simp)).trans go0
 have oo:=hC2.old oo0
 have hCm:Chg [] m M:=hC1.trans hC2 (by simp)
 generalize ht:puts [(D4.e.a.b,NV.fn 97 [NV.ptr (na M0 0) 0]),(D4.e.a.a,v),(D4.e.c,NV.ptr (na m 0) 0),(D4.e.b,NV.nils),(D4.e,v)] NT.leaf=t
 have g1:NT.get D4.e.c t=some (.ptr (na m 0) 0):=by rw[←ht];simp (config:={maxSteps:=1000000}) (disch:=(first|assumption|omega|exact old_n (by omega)|exact old_hp (by assumption)|(simp only[nmL]<;>omega))) only[go_sem,seval]
 have g2:NT.get D4.e.a.b t=some (.fn 97 [.ptr (na M0 0) 0]):=by rw[←ht];simp (config:={maxSteps:=1000000}) (disch:=(first|assumption|omega|exact old_n (by omega)|exact old_hp (by assumption)|(simp only[nmL]<;>omega))) only[go_sem,seval]
 clear ht
 generalize hM1:hp [(.n 1,.loop 0 .none t [D4.e.a.c] nf17_a1 nf17_r2),(.n 0,.defd true)] 2 M=M1
 have hG:Chg [] M M1:=by rw[←hM1];exact hp_of rfl
 have oq:Old M1 (na M 1):=by rw[←hM1];exact old_n (by omega)
 have om:Old M1 (na M 0):=by rw[←hM1];exact old_n (by omega)
 have gq:M1.get (na M 1)=some (.loop 0 .none t [D4.e.a.c] nf17_a1 nf17_r2):=by rw[←hM1];exact h_getN
 have gm:M1.get (na M 0)=some (.defd true):=by rw[←hM1];exact h_getN
 have hoq:na m 0≠na M 1:=oo.ne 1
 have hCm1:Chg [] m M1:=hCm.trans hG (by simp)
 have h0:∀S,Chg [na M 1,na m 0] M1 S->Chg [] m0 S:=fun S h=>(hC0.trans hCm1 (by simp)).trans h fun i hi ho=>by
  simp only[List.mem_cons,List.not_mem_nil,or_false] at hi
  rcases hi with rfl|rfl
  ·exact absurd (hCm.old (hC0.old ho)) na_old
  ·exact absurd (hC0.old ho) na_old
 have hY:=lc_ylds (T:=T) g1 h0 hoq oq (hG.old oo)
 obtain ⟨hA1,hA2⟩:=allL_sz l
 obtain ⟨m',hr,F',⟨u,rfl,hC3,hq3,ho3,hu3,-⟩,hC4,-⟩:=all_it hY (s:=([],0)) (F:= [na M 1,na m 0]) (id:=na M0 0) ((hG.get oz (by simp)).trans gz) hS ⟨.nils,rfl,(Chg.refl M1).weak (by simp),gq,(hG.get oo (by simp)).trans go,Own.nil,by simp⟩ (lc_al _ _ (fun x hx=>by have:=hA1 x hx;omega) (by show 0+_<=_;omega)) (by omega)
 rw[lc_fold] at hu3
 refine W.rangeN g2 (hM1▸hr) hq3 ?_ (hC3.old oq)
 have gm3:m'.get (na M 0)=some (.defd true):=(hC3.get om (by
  simp only[List.mem_cons,List.not_mem_nil,or_false,not_or]
  exact ⟨fun e=>by have:=na_inj e;omega,fun e=>oo.ne 0 e.symm⟩)).trans gm
 have om3:=hC3.old om
 have oo3:=hC3.old (hG.old oo)
 have hne:na M 0≠na M 1:=fun e=>by have:=na_inj e;omega
 change onExit _ _ _ ⟨puts [] t,_,_,_⟩
 simp (config:={maxSteps:=1000000}) (disch:=(first|assumption|omega|exact old_n (by omega)|exact old_hp (by assumption)|(simp only[nmL]<;>omega))) only[go_sem,seval,g1,gm3,om3,ho3,oo3,hoq,hne]
 generalize hMe:hp _ 0 m'=Me
 have hCe:Chg [na M 1,na M 0] m' Me:=by rw[←hMe];exact (hp_of rfl:Chg [na M 0,na M 1] m' _).weak (by intro i hi _;simp at hi ⊢;exact hi.symm)
 refine hK _ _ ⟨?_, ?_⟩
 ·refine (hu3.chg hCe fun i hi=> ?_).back fun i hi=>hCm1.old hi
  simp only[List.mem_cons,List.not_mem_nil,or_false,not_or]
  exact ⟨fun e=>hu3.new i hi (e▸oq),fun e=>hu3.new i hi (e▸om)⟩
 ·refine ((hCm1.weak (T:= [na M 1,na m 0,na M 0]) (by simp)).trans hC3 fun i h _=>by simp at h ⊢;rcases h with h|h<;>simp[h]).trans hCe (fun i h _=>by simp at h ⊢;rcases h with h|h<;>simp[h]) |>.weak fun i hi ho=> ?_
  simp only[List.mem_cons,List.not_mem_nil,or_false] at hi
  rcases hi with rfl|rfl|rfl
  ·exact absurd (hCm.old ho) na_old
  ·exact absurd ho na_old
  ·exact absurd (hCm.old ho) na_old
end FR
open Go Nm Go.Proofs
namespace FR
set_option linter.unusedSimpArgs false
set_option linter.unusedVariables false
theorem add_r {B m:NH} {v:NV} {l:List (List Nat)} (hv:Own B m v 1 (Strs l)) (hB:∀id,Old B id->Old m id) (s:List Nat) (hsz:l.length<=1000000000):
 ∃v' m',Ret Try.prog S0 96 [v,.str s] m v' m'/\Own B m' v' 1 (Strs (insN l s))/\Chg (ids v) m m'/\From m v v':=by
 refine WF.ex fun K hK=> ?_
 refine WF.of_wpG (fun _=>rfl) nf96_eq (L:= [(.a .e,.str s),(.e,v)]) rfl ?_
 unfold nf96
 have hlen:=hv.sl.len
 rw[List.length_map] at hlen
 simp (config:={maxSteps:=1000000}) (disch:=(first|assumption|omega|exact old_n (by omega)|exact old_hp (by assumption)|(simp only[nmL]<;>omega))) only[go_sem,seval]
 refine W.loop (fun k d=>∃t i,d=⟨t, [],none,hp [] 0 m⟩/\NT.get D4.e t=some v/\NT.get D4.e.a t=some (.str s)/\NT.get D4.e.a.a t=some (ii (i:Nat))/\i+k=l.length/\∀j (hj:j<i) (hl:j<l.length),s≠l[j]) ?_ l.length _ ⟨_,0,rfl,by simp only[go_sem,seval],by simp only[go_sem,seval],by simp only[go_sem,seval]<;>rfl,by omega,by simp⟩
 rintro k d ⟨t,i,rfl,g1,g2,g3,hik,hn⟩
 apply wp_sound
 unfold nf96_l1
 change wp _ _ _ _ ⟨puts [] t, [],none,hp [] 0 m⟩ _
 by_cases hi:i<l.length
 ·obtain ⟨id,off,w,c,a1,a2,a3,a4,a5⟩:=hv.sl.at i (by simpa using hi)
  rw[List.getElem_map] at a5
  have c0:=cell_at a5 0 (by omega)
  rw[Nat.add_zero] at c0
  by_cases he:s=l[i]
  ·have he':decide (l[i]=s)=true:=decide_eq_true he.symm
   simp (config:={maxSteps:=1000000}) (disch:=(first|assumption|omega|exact old_n (by omega)|exact old_hp (by assumption)|(simp only[nmL]<;>omega))) only[go_sem,seval,g1,g2,g3,hlen,a1,a2,c0,he',hp_nil]
   exact hK _ _ ⟨by rw[show insN l s=l from if_pos (by rw[he];exact List.getElem_mem hi)];exact hv,(Chg.refl m).weak (by simp),From.refl m v⟩
  ·have he':decide (l[i]=s)=false:=decide_eq_false fun e=>he e.symm
   simp (config:={maxSteps:=1000000}) (disch:=(first|assumption|omega|exact old_n (by omega)|exact old_hp (by assumption)|(simp only[nmL]<;>omega))) only[go_sem,seval,g1,g2,g3,hlen,a1,a2,c0,he']
   refine ⟨k - 1,by omega,_,i+1,by rfl, ?_, ?_, ?_,by omega, ?_⟩
   ·simp (config:={maxSteps:=1000000}) (disch:=(first|assumption|omega|exact old_n (by omega)|exact old_hp (by assumption)|(simp only[nmL]<;>omega))) only[go_sem,seval,g1]
   ·simp (config:={maxSteps:=1000000}) (disch:=(first|assumption|omega|exact old_n (by omega)|exact old_hp (by assumption)|(simp only[nmL]<;>omega))) only[go_sem,seval,g2]
   ·simp (config:={maxSteps:=1000000}) (disch:=(first|assumption|omega|exact old_n (by omega)|exact old_hp (by assumption)|(simp only[nmL]<;>omega))) only[go_sem,seval]<;>rfl
   ·intro j hj hl
    rcases Nat.lt_or_ge j i with h|h
    ·exact hn j h hl
    ·have:j=i:=by omega
     subst this;exact he
 ·simp (config:={maxSteps:=1000000}) (disch:=(first|assumption|omega|exact old_n (by omega)|exact old_hp (by assumption)|(simp only[nmL]<;>omega))) only[go_sem,seval,g1,g2,g3,hlen]
  have hC1:Chg [] m (hp [(.n 0,.cells true [.str s])] 1 m):=hp_of rfl
  refine wNT_app2 (hv.chg hC1 fun _ _=>by simp) h_getN (old_n (by omega)) rfl (fun i hi=>hC1.old (hB i hi)) (by simp;omega) (by simp;omega) ?_
  intro v2 M2 hv2 hC2 hF2
  simp (config:={maxSteps:=1000000}) (disch:=(first|assumption|omega|exact old_n (by omega)|exact old_hp (by assumption)|(simp only[nmL]<;>omega))) only[go_sem,seval]
  refine hK _ _ ⟨?_,(hC1.weak (by simp)).trans hC2 fun _ h _=>h,fun i hi=>(hF2 i hi).imp _root_.id fun q o=>q (hC1.old o)⟩
  rw[show insN l s=l++ [s] from if_neg fun h=>by
   obtain ⟨j,hj,e⟩:=List.getElem_of_mem h
   exact hn j (by omega) hj e.symm,strs_app]
  exact hv2
def AddsN (f:Nat) (args:NV->List NV) (m0:NH) (N:List (List Nat)) (sz:Nat):Prop:=∀{B m:NH} {v:NV} {l:List (List Nat)},Chg [] m0 m->Own B m v 1 (Strs l)->(∀i,Old m0 i->Old B i)->(∀i,Old B i->Old m i)->l.length+sz<=1000000000->
 ∃v' m',Ret Try.prog S0 f (args v) m v' m'/\Own B m' v' 1 (Strs (N.foldl insN l))/\Chg (ids v) m m'/\From m v v'
def InR (x:Ex):Prop:=∀{m0:NH} {T:D4->Prop} {c:List NV},RE m0 T x c->AddsN 139 (fun v=> [v,.agg c]) m0 x.names x.sz
theorem exprNames_loop {m0:NH} {T:D4->Prop} {kd:Int} {n o:Nat} {s:List Nat} {ks:List Ex} {vk:NV} {C:List (List NV)} (hS:SE m0 T vk ks C) (ih:∀x∈ks,InR x) {B m:NH} {v:NV} {l:List (List Nat)} (hC0:Chg [] m0 m) (hv:Own B m v 1 (Strs l)) (h0:∀i,Old m0 i->Old B i) (hB:∀i,Old B i->Old m i)
 {b:D4} (hb:m.get b=some (.cells true [ii kd,u64 n,u8 o,.str s,vk])) (hob:Old m b) (hbv:b∉ids v) (h1:kd≠1)
 (hsz:l.length+szL ks<=1000000000) {t:Tm} (g1:NT.get D4.e t=some v) (g2:NT.get D4.e.c t=some (.ptr b 0)) (g4:NT.get D4.e.a.a t=some (ii 0)) {Q:Out->Dyn->Prop}
 (hQ:∀t' M v',NT.get D4.e t'=some v'->Own B M v' 1 (Strs ((Ex.mk kd n o s ks).names.foldl insN l))->Chg (ids v) m M->From m v v'->Q (.exit 0) ⟨puts [] t', [],none,M⟩):
 W Try.prog S0 none nf139_l1.loop ⟨t, [],none,m⟩ Q:=by
 refine W.loop (fun k d=>∃t M i v',d=⟨t, [],none,M⟩/\NT.get D4.e t=some v'/\NT.get D4.e.c t=some (.ptr b 0)/\NT.get D4.e.a.a t=some (ii (i:Nat))/\i+k=ks.length/\(i=0∨kd=2)/\Own B M v' 1 (Strs ((namesL (ks.take i)).foldl insN l))/\Chg (ids v) m M/\From m v v') ?_ ks.length _ ⟨t,m,0,v,rfl,g1,g2,g4,by omega,Or.inl rfl,by simpa [namesL] using hv,(Chg.refl m).weak (by simp),From.refl m v⟩
 rintro k d ⟨t,M,i,v',rfl,g1,g2,g4,hik,hk2,hv',hC,hF⟩
 apply wp_sound
 unfold nf139_l1
 change wp _ _ _ _ ⟨puts [] t, [],none,M⟩ _
 have hCM:=own_base hv h0 hC0 hC
 have hSM:=(hS.stays (stN hCM T))
 have hbM:=(hC.get hob hbv).trans hb
 have hlen:=hSM.sl.len
 rw[hS.len] at hlen
 have hls:=len_szL ks
 rw[←hp_nil M]
 by_cases hi:i<ks.length
 ·by_cases hkd:kd=2
  ·obtain ⟨cx,hcx,hRx⟩:=hS.at i hi
   obtain ⟨id,off,wr,c,a1,a2,a3,a4,a5⟩:=hSM.sl.at i (by rw[hS.len];exact hi)
   have ecx:C[i]'(by rw[hS.len];exact hi)=cx:=by
    have:=List.getElem?_eq_getElem (l:=C) (i:=i) (by rw[hS.len];exact hi)
    rw[this] at hcx;injection hcx
   rw[ecx] at a5
   obtain ⟨vx,Cx,rfl,-⟩:=hRx.inv'
   have hszi:=szL_take ks i hi
   have hfl:=foldN_le (namesL (ks.take i)) l
   have hd:decide (kd=2)=true:=decide_eq_true hkd
   simp (config:={maxSteps:=1000000}) (disch:=(first|assumption|omega|exact old_n (by omega)|exact old_hp (by assumption)|(simp only[nmL]<;>omega))) only[go_sem,seval,g1,g2,g4,hbM,hlen,a1,a2,a5,hd]
   rw[hp_nil]
   refine WF.use (ih ks[i] (List.getElem_mem hi) hRx hCM hv' h0 (fun i hi=>hC.old (hB i hi)) (by omega)) ?_
   rintro v2 M2 ⟨hv2,hC2,hF2⟩
   simp (config:={maxSteps:=1000000}) (disch:=(first|assumption|omega|exact old_n (by omega)|exact old_hp (by assumption)|(simp only[nmL]<;>omega))) only[go_sem,seval,g1,g2,g4]
   refine ⟨k - 1,by omega,_,M2,i+1,v2,by rfl, ?_, ?_, ?_,by omega,Or.inr hkd, ?_,hF.chg hC hC2,hF.trans hF2 fun i hi=>hC.old hi⟩
   ·simp (config:={maxSteps:=1000000}) (disch:=(first|assumption|omega|exact old_n (by omega)|exact old_hp (by assumption)|(simp only[nmL]<;>omega))) only[go_sem,seval]
   ·simp (config:={maxSteps:=1000000}) (disch:=(first|assumption|omega|exact old_n (by omega)|exact old_hp (by assumption)|(simp only[nmL]<;>omega))) only[go_sem,seval,g2]
   ·simp (config:={maxSteps:=1000000}) (disch:=(first|assumption|omega|exact old_n (by omega)|exact old_hp (by assumption)|(simp only[nmL]<;>omega))) only[go_sem,seval]<;>rfl
   ·rw[take_succ_names hi,List.foldl_append];exact hv2
  ·have hd:decide (kd=2)=false:=decide_eq_false hkd
   have hi0:i=0:=hk2.resolve_right hkd
   subst hi0
   simp (config:={maxSteps:=1000000}) (disch:=(first|assumption|omega|exact old_n (by omega)|exact old_hp (by assumption)|(simp only[nmL]<;>omega))) only[go_sem,seval,g1,g2,g4,hbM,hlen,hd]
   rw[hp_nil]
   refine hQ _ _ v' ?_ ?_ hC hF
   ·simp (config:={maxSteps:=1000000}) (disch:=(first|assumption|omega|exact old_n (by omega)|exact old_hp (by assumption)|(simp only[nmL]<;>omega))) only[go_sem,seval,g1]
   ·rw[Ex.names,if_neg h1,if_neg hkd];exact hv'
 ·simp (config:={maxSteps:=1000000}) (disch:=(first|assumption|omega|exact old_n (by omega)|exact old_hp (by assumption)|(simp only[nmL]<;>omega))) only[go_sem,seval,g1,g2,g4,hbM,hlen]
  rw[hp_nil]
  have e:(ks.take i)=ks:=List.take_of_length_le (by omega)
  rw[e] at hv'
  refine hQ _ _ v' ?_ ?_ hC hF
  ·simp (config:={maxSteps:=1000000}) (disch:=(first|assumption|omega|exact old_n (by omega)|exact old_hp (by assumption)|(simp only[nmL]<;>omega))) only[go_sem,seval,g1]
  ·rw[Ex.names,if_neg h1]
   split
   ·exact hv'
   ·have:ks= []:=List.length_eq_zero_iff.mp (by omega)
    subst this;exact hv'
theorem exprNames_r:∀x,InR x:=by
 apply Ex.ind
 intro kd n o s ks ih m0 T c hR B m v l hC0 hv h0 hB hsz
 obtain ⟨vk,C,rfl,hS⟩:=hR.inv
 rw[Ex.sz] at hsz
 refine WF.ex fun K hK=> ?_
 refine WF.of_wpG (fun _=>rfl) nf139_eq (L:= [(.a .e,.agg [ii kd,u64 n,u8 o,.str s,vk]),(.e,v)]) rfl ?_
 unfold nf139
 have hob:Old (hp [(.n 0,.cells true [ii kd,u64 n,u8 o,.str s,vk])] 1 m) (na m 0):=old_n (by omega)
 have hgb:(hp [(.n 0,.cells true [ii kd,u64 n,u8 o,.str s,vk])] 1 m).get (na m 0)=some (.cells true [ii kd,u64 n,u8 o,.str s,vk]):=h_getN
 by_cases h1:kd=1
 ·subst h1
  simp (config:={maxSteps:=1000000}) (disch:=(first|assumption|omega|exact old_n (by omega)|exact old_hp (by assumption)|(simp only[nmL]<;>omega))) only[go_sem,seval]
  generalize hM1:hp _ 1 m=M1
  have hC1:Chg [] m M1:=by rw[←hM1];exact hp_of rfl
  refine WF.use (add_r (hv.chg hC1 fun _ _=>by simp) (fun i hi=>hC1.old (hB i hi)) s (by omega)) ?_
  rintro v2 M2 ⟨hv2,hC2,hF2⟩
  simp (config:={maxSteps:=1000000}) (disch:=(first|assumption|omega|exact old_n (by omega)|exact old_hp (by assumption)|(simp only[nmL]<;>omega))) only[go_sem,seval]
  refine hK _ _ ⟨?_,(hC1.weak (by simp)).trans hC2 fun _ h _=>h,fun i hi=>(hF2 i hi).imp _root_.id fun q o=>q (hC1.old o)⟩
  rw[Ex.names,if_pos rfl];exact hv2
 ·have hd:decide (kd=1)=false:=decide_eq_false h1
  simp (config:={maxSteps:=1000000}) (disch:=(first|assumption|omega|exact old_n (by omega)|exact old_hp (by assumption)|(simp only[nmL]<;>omega))) only[go_sem,seval,hd]
  generalize hM1:hp _ 1 m=M1 at hob hgb
  have hC1:Chg [] m M1:=by rw[←hM1];exact hp_of rfl
  refine exprNames_loop hS ih (hC0.trans hC1 (by simp)) (hv.chg hC1 fun _ _=>by simp) h0 (fun i hi=>hC1.old (hB i hi)) hgb hob (fun h=>(hv.sl.old _ h).ne 0 rfl) h1 (by omega) (by simp only[go_sem,seval]) (by simp only[go_sem,seval]) (by simp only[go_sem,seval]) ?_
  intro t' M v' g1 q1 q2 q3
  simp (config:={maxSteps:=1000000}) (disch:=(first|assumption|omega|exact old_n (by omega)|exact old_hp (by assumption)|(simp only[nmL]<;>omega))) only[go_sem,seval,g1]
  exact hK _ _ ⟨q1,(hC1.weak (by simp)).trans q2 fun _ h _=>h,fun i hi=>(q3 i hi).imp _root_.id fun q o=>q (hC1.old o)⟩
end FR
open Go Nm Go.Proofs
namespace FR
set_option linter.unusedSimpArgs false
set_option linter.unusedVariables false
theorem named_r (m:NH) (k:Int):Ret Try.prog S0 138 [ii k] m (.bool (decide (k=0∨k=1∨k=3))) m:=by
 have h:∃r m',Ret Try.prog S0 138 [ii k] m r m'/\r= .bool (decide (k=0∨k=1∨k=3))/\m'=m:=by
  refine WF.ex fun K hK=> ?_
  refine WF.of_wpG (fun _=>rfl) nf138_eq (L:= [(.e,ii k)]) rfl ?_
  unfold nf138
  by_cases h0:k=0
  ·subst h0;simp (config:={maxSteps:=1000000}) (disch:=(first|assumption|omega|exact old_n (by omega)|exact old_hp (by assumption)|(simp only[nmL]<;>omega))) only[go_sem,seval,hp_nil];exact hK _ _ ⟨rfl,rfl⟩
  ·by_cases h1:k=1
   ·subst h1;simp (config:={maxSteps:=1000000}) (disch:=(first|assumption|omega|exact old_n (by omega)|exact old_hp (by assumption)|(simp only[nmL]<;>omega))) only[go_sem,seval,hp_nil];exact hK _ _ ⟨rfl,rfl⟩
   ·by_cases h3:k=3
    ·subst h3;simp (config:={maxSteps:=1000000}) (disch:=(first|assumption|omega|exact old_n (by omega)|exact old_hp (by assumption)|(simp only[nmL]<;>omega))) only[go_sem,seval,hp_nil];exact hK _ _ ⟨rfl,rfl⟩
    ·simp (config:={maxSteps:=1000000}) (disch:=(first|assumption|omega|exact old_n (by omega)|exact old_hp (by assumption)|(simp only[nmL]<;>omega))) only[go_sem,seval,hp_nil];exact hK _ _ ⟨by simp[h0,h1,h3],rfl⟩
 obtain ⟨r,m',h1,rfl,rfl⟩:=h
 exact h1
theorem celled_r (m:NH) (k:Int):Ret Try.prog S0 94 [ii k] m (.bool (decide (k=1∨k=2∨k=3))) m:=by
 have h:∃r m',Ret Try.prog S0 94 [ii k] m r m'/\r= .bool (decide (k=1∨k=2∨k=3))/\m'=m:=by
  refine WF.ex fun K hK=> ?_
  refine WF.of_wpG (fun _=>rfl) nf94_eq (L:= [(.e,ii k)]) rfl ?_
  unfold nf94
  by_cases h0:k=1
  ·subst h0;simp (config:={maxSteps:=1000000}) (disch:=(first|assumption|omega|exact old_n (by omega)|exact old_hp (by assumption)|(simp only[nmL]<;>omega))) only[go_sem,seval,hp_nil];exact hK _ _ ⟨rfl,rfl⟩
  ·by_cases h1:k=2
   ·subst h1;simp (config:={maxSteps:=1000000}) (disch:=(first|assumption|omega|exact old_n (by omega)|exact old_hp (by assumption)|(simp only[nmL]<;>omega))) only[go_sem,seval,hp_nil];exact hK _ _ ⟨rfl,rfl⟩
   ·by_cases h3:k=3
    ·subst h3;simp (config:={maxSteps:=1000000}) (disch:=(first|assumption|omega|exact old_n (by omega)|exact old_hp (by assumption)|(simp only[nmL]<;>omega))) only[go_sem,seval,hp_nil];exact hK _ _ ⟨rfl,rfl⟩
    ·simp (config:={maxSteps:=1000000}) (disch:=(first|assumption|omega|exact old_n (by omega)|exact old_hp (by assumption)|(simp only[nmL]<;>omega))) only[go_sem,seval,hp_nil];exact hK _ _ ⟨by simp[h0,h1,h3],rfl⟩
 obtain ⟨r,m',h1,rfl,rfl⟩:=h
 exact h1
theorem own_r {m0:NH} {T:D4->Prop} {s:Stm} {c:List NV} (hR:RS m0 T s c):AddsN 95 (fun v=> [v,.agg c]) m0 s.own s.sz:=by
 obtain ⟨w,rfl,hP⟩:=hR.inv'
 intro B m v0 l hC0 hv0 h0 hB hsz
 refine WF.ex fun K hK=> ?_
 refine WF.of_wpG (fun _=>rfl) nf95_eq (L:= [(.a .e,.agg (s.l w)),(.e,v0)]) rfl ?_
 unfold nf95
 rw[sz_eq] at hsz
 have hni:=names_le s.i
 have hnx:=names_le s.x
 have hny:=names_le s.y
 generalize hm1:hp [(.n 0,.cells true (s.l w))] 1 m=m1
 have hC1:Chg [] m m1:=by rw[←hm1];exact hp_of rfl
 have hC01:Chg [] m0 m1:=hC0.trans hC1 (by simp)
 have hg0:m1.get (na m 0)=some (.cells true (s.l w)):=by rw[←hm1];exact h_getN
 have ho0:Old m1 (na m 0):=by rw[←hm1];exact old_n (by omega)
 have hn0:na m 0∉ids v0:=fun h=>(hv0.sl.old _ h).ne 0 rfl
 let Φ:List (List Nat)->Dyn->Prop:=fun N d=>∃t M v,d=⟨t, [],none,M⟩/\NT.get D4.e.c t=some (.ptr (na m 0) 0)/\NT.get D4.e t=some v/\Own B M v 1 (Strs (N.foldl insN l))/\Chg (ids v0) m1 M/\From m1 v0 v
 have hl21:(s.l w).length=21:=rfl
 have hl21':(s.l w).take 21=s.l w:=rfl
 have hstep:∀{M M':NH} {v v':NV},Chg (ids v0) m1 M->From m1 v0 v->Chg (ids v) M M'->From M v v'->Chg (ids v0) m1 M'/\From m1 v0 v':=fun h1 h2 h3 h4=>⟨h2.chg h1 h3,h2.trans h4 fun i hi=>h1.old hi⟩
 have hins:∀{M:NH} {v:NV} {N:List (List Nat)} {x:Ex} {c:List NV},Chg (ids v0) m1 M->From m1 v0 v->Own B M v 1 (Strs (N.foldl insN l))->RE m0 T x c->l.length+N.length+x.sz<=1000000000->∃v' M',Ret Try.prog S0 139 [v,.agg c] M v' M'/\Own B M' v' 1 (Strs ((N++x.names).foldl insN l))/\Chg (ids v0) m1 M'/\From m1 v0 v':=by
  intro M v N x c h1 h2 h3 h4 h5
  have hfl:=foldN_le N l
  obtain ⟨v',M',q1,q2,q3,q4⟩:=exprNames_r x h4 (hC01.trans h1 fun i hi ho=>absurd (h0 i ho) (hv0.new i hi)) h3 h0 (fun i hi=>h1.old (hC1.old (hB i hi))) (by omega)
  obtain ⟨r1,r2⟩:=hstep h1 h2 q3 q4
  exact ⟨v',M',q1,by rw[List.foldl_append];exact q2,r1,r2⟩
 refine cutK (Φ []) (fun R hR=> ?_) ?_
 ·simp (config:={maxSteps:=1000000}) (disch:=(first|assumption|omega|exact old_n (by omega)|exact old_hp (by assumption)|(simp only[nmL]<;>omega))) only[go_sem,seval,hm1]
  exact hR _ ⟨_,_,v0,rfl,by simp only[go_sem,seval],by simp only[go_sem,seval],hv0.chg hC1 fun _ _=>by simp,(Chg.refl m1).weak (by simp),From.refl m1 v0⟩
 rintro d ⟨t,M,v,rfl,g1,g2,hv,hC,hF⟩
 change wp _ _ _ _ ⟨puts [] t, [],none,M⟩ _
 refine cutK (Φ (if s.k=0∨s.k=1∨s.k=3 then [s.nm] else [])) (fun R hR=> ?_) ?_
 ·have hgM:=(hC.get ho0 hn0).trans hg0
  simp (config:={maxSteps:=1000000}) (disch:=(first|assumption|omega|exact old_n (by omega)|exact old_hp (by assumption)|(simp only[nmL]<;>omega))) only[go_sem,seval,g1,g2,hgM,hl21,hl21',(named_r _ _).wf']
  by_cases hk:s.k=0∨s.k=1∨s.k=3
  ·rw[decide_eq_true hk]
   simp (config:={maxSteps:=1000000}) (disch:=(first|assumption|omega|exact old_n (by omega)|exact old_hp (by assumption)|(simp only[nmL]<;>omega))) only[go_sem,seval,g1,g2,hgM]
   refine WF.use (add_r hv (fun i hi=>hC.old (hC1.old (hB i hi))) s.nm (by simp;omega)) ?_
   rintro v2 M2 ⟨hv2,hC2,hF2⟩
   simp (config:={maxSteps:=1000000}) (disch:=(first|assumption|omega|exact old_n (by omega)|exact old_hp (by assumption)|(simp only[nmL]<;>omega))) only[go_sem,seval,g1,g2]
   obtain ⟨r1,r2⟩:=hstep hC hF hC2 hF2
   refine hR _ ⟨_,_,v2,rfl,by simp only[go_sem,seval,g1],by simp only[go_sem,seval], ?_,r1,r2⟩
   rw[if_pos hk];exact hv2
  ·rw[decide_eq_false hk]
   simp (config:={maxSteps:=1000000}) (disch:=(first|assumption|omega|exact old_n (by omega)|exact old_hp (by assumption)|(simp only[nmL]<;>omega))) only[go_sem,seval,g1,g2,hp_nil]
   refine hR _ ⟨_,_,v,rfl,by simp only[go_sem,seval,g1],by simp only[go_sem,seval,g2], ?_,hC,hF⟩
   rw[if_neg hk];exact hv
 clear g1 g2 hv hC hF
 rintro d ⟨t,M,v,rfl,g1,g2,hv,hC,hF⟩
 change wp _ _ _ _ ⟨puts [] t, [],none,M⟩ _
 generalize hL1:(if s.k=0∨s.k=1∨s.k=3 then [s.nm] else [])=L1 at hv
 have hn1:L1.length<=1:=by rw[←hL1];split<;>simp
 refine cutK (Φ (L1++if s.k=1∨s.k=2∨s.k=3 then s.i.names else [])) (fun R hR=> ?_) ?_
 ·have hgM:=(hC.get ho0 hn0).trans hg0
  simp (config:={maxSteps:=1000000}) (disch:=(first|assumption|omega|exact old_n (by omega)|exact old_hp (by assumption)|(simp only[nmL]<;>omega))) only[go_sem,seval,g1,g2,hgM,hl21,hl21',(celled_r _ _).wf']
  by_cases hk:s.k=1∨s.k=2∨s.k=3
  ·rw[decide_eq_true hk]
   simp (config:={maxSteps:=1000000}) (disch:=(first|assumption|omega|exact old_n (by omega)|exact old_hp (by assumption)|(simp only[nmL]<;>omega))) only[go_sem,seval,g1,g2,hgM]
   refine WF.use (hins hC hF hv hP.i (by omega)) ?_
   rintro v2 M2 ⟨hv2,r1,r2⟩
   simp (config:={maxSteps:=1000000}) (disch:=(first|assumption|omega|exact old_n (by omega)|exact old_hp (by assumption)|(simp only[nmL]<;>omega))) only[go_sem,seval,g1,g2]
   refine hR _ ⟨_,_,v2,rfl,by simp only[go_sem,seval,g1],by simp only[go_sem,seval], ?_,r1,r2⟩
   rw[if_pos hk];exact hv2
  ·rw[decide_eq_false hk]
   simp (config:={maxSteps:=1000000}) (disch:=(first|assumption|omega|exact old_n (by omega)|exact old_hp (by assumption)|(simp only[nmL]<;>omega))) only[go_sem,seval,g1,g2,hp_nil]
   refine hR _ ⟨_,_,v,rfl,by simp only[go_sem,seval,g1],by simp only[go_sem,seval,g2], ?_,hC,hF⟩
   rw[if_neg hk,List.append_nil];exact hv
 clear g1 g2 hv hC hF
 rintro d ⟨t,M,v,rfl,g1,g2,hv,hC,hF⟩
 change wp _ _ _ _ ⟨puts [] t, [],none,M⟩ _
 generalize hL2:(L1++if s.k=1∨s.k=2∨s.k=3 then s.i.names else [])=L2 at hv
 have hn2:L2.length<=1+s.i.sz:=by rw[←hL2,List.length_append];split<;>first|omega|(rw[List.length_nil];omega)
 refine cutK (Φ (L2++if s.k=0∨s.k=2∨s.k=3∨s.k=5∨s.k=6∨s.k=7 then s.x.names else [])) (fun R hR=> ?_) ?_
 ·have hgM:=(hC.get ho0 hn0).trans hg0
  by_cases hk:s.k=0∨s.k=2∨s.k=3∨s.k=5∨s.k=6∨s.k=7
  ·rw[if_pos hk] at hR
   rcases hk with h|h|h|h|h|h<;>simp (config:={maxSteps:=1000000}) (disch:=(first|assumption|omega|exact old_n (by omega)|exact old_hp (by assumption)|(simp only[nmL]<;>omega))) only[go_sem,seval,g1,g2,hgM,h]<;>(refine WF.use (hins hC hF hv hP.x (by omega)) ?_;rintro v2 M2 ⟨hv2,r1,r2⟩;simp (config:={maxSteps:=1000000}) (disch:=(first|assumption|omega|exact old_n (by omega)|exact old_hp (by assumption)|(simp only[nmL]<;>omega))) only[go_sem,seval,g1,g2];exact hR _ ⟨_,_,v2,rfl,by simp only[go_sem,seval,g1],by simp only[go_sem,seval],hv2,r1,r2⟩)
  ·rw[if_neg hk,List.append_nil] at hR
   have d0:decide (s.k=0)=false:=decide_eq_false (by omega)
   have d2:decide (s.k=2)=false:=decide_eq_false (by omega)
   have d3:decide (s.k=3)=false:=decide_eq_false (by omega)
   by_cases h5:5<=s.k
   ·have d7:decide (s.k<=7)=false:=decide_eq_false (by omega)
    simp (config:={maxSteps:=1000000}) (disch:=(first|assumption|omega|exact old_n (by omega)|exact old_hp (by assumption)|(simp only[nmL]<;>omega))) only[go_sem,seval,g1,g2,hgM,d0,d2,d3,d7,hp_nil]
    exact hR _ ⟨_,_,v,rfl,by simp only[go_sem,seval,g1],by simp only[go_sem,seval,g2],hv,hC,hF⟩
   ·simp (config:={maxSteps:=1000000}) (disch:=(first|assumption|omega|exact old_n (by omega)|exact old_hp (by assumption)|(simp only[nmL]<;>omega))) only[go_sem,seval,g1,g2,hgM,d0,d2,d3,hp_nil]
    exact hR _ ⟨_,_,v,rfl,by simp only[go_sem,seval,g1],by simp only[go_sem,seval,g2],hv,hC,hF⟩
 clear g1 g2 hv hC hF
 rintro d ⟨t,M,v,rfl,g1,g2,hv,hC,hF⟩
 change wp _ _ _ _ ⟨puts [] t, [],none,M⟩ _
 generalize hL3:(L2++if s.k=0∨s.k=2∨s.k=3∨s.k=5∨s.k=6∨s.k=7 then s.x.names else [])=L3 at hv
 have hn3:L3.length<=1+s.i.sz+s.x.sz:=by rw[←hL3,List.length_append];split<;>first|omega|(rw[List.length_nil];omega)
 have hown:s.own=L3++if s.k=3 then s.y.names else []:=by rw[own_eq,←hL3,←hL2,←hL1];simp only[List.append_assoc]
 have hgM:=(hC.get ho0 hn0).trans hg0
 have fin:∀{v M},Own B M v 1 (Strs (s.own.foldl insN l))->Chg (ids v0) m1 M->From m1 v0 v->Own B M v 1 (Strs (s.own.foldl insN l))/\Chg (ids v0) m M/\From m v0 v:=fun h1 h2 h3=>⟨h1,(hC1.weak (by simp)).trans h2 fun _ h _=>h,fun i hi=>(h3 i hi).imp _root_.id fun q o=>q (hC1.old o)⟩
 by_cases hk:s.k=3
 ·rw[if_pos hk] at hown
  have hd:decide (s.k=3)=true:=decide_eq_true hk
  simp (config:={maxSteps:=1000000}) (disch:=(first|assumption|omega|exact old_n (by omega)|exact old_hp (by assumption)|(simp only[nmL]<;>omega))) only[go_sem,seval,g1,g2,hgM,hl21,hl21',hd]
  refine WF.use (hins hC hF hv hP.y (by omega)) ?_
  rintro v2 M2 ⟨hv2,r1,r2⟩
  simp (config:={maxSteps:=1000000}) (disch:=(first|assumption|omega|exact old_n (by omega)|exact old_hp (by assumption)|(simp only[nmL]<;>omega))) only[go_sem,seval,g1,g2]
  rw[←hown] at hv2
  exact hK _ _ (fin hv2 r1 r2)
 ·rw[if_neg hk,List.append_nil] at hown
  have hd:decide (s.k=3)=false:=decide_eq_false hk
  simp (config:={maxSteps:=1000000}) (disch:=(first|assumption|omega|exact old_n (by omega)|exact old_hp (by assumption)|(simp only[nmL]<;>omega))) only[go_sem,seval,g1,g2,hgM,hl21,hl21',hd]
  rw[←hown] at hv
  exact hK _ _ (fin hv hC hF)
end FR
open Go Nm Go.Proofs
namespace FR
set_option linter.unusedSimpArgs false
set_option linter.unusedVariables false
abbrev allN (l:List Stm):List (List Nat):=(allL l).flatMap Stm.own
def NmL (m0:NH) (T:D4->Prop) (l:List Stm):Prop:=∀{vb:NV} {C:List (List NV)},SS m0 T vb l C->AddsN 56 (fun v=> [v,vb]) m0 (allN l) (2*szB l)
theorem allN_all (x:Stm):x.all.flatMap Stm.own=x.own++((if x.k=6∨x.k=7 then allN x.b else [])++(if x.k=6 then allN x.e else [])):=by
 rw[all_eq,List.flatMap_cons,List.flatMap_append]
 congr 2
 ·split<;>rfl
 ·split<;>rfl
theorem szB_take (l:List Stm) (i:Nat) (hi:i<l.length):(allN (l.take i)).length+2*l[i].sz<=2*szB l:=by
 induction l generalizing i with
 |nil=>simp at hi
 |cons x l ih=>
  cases i with
  |zero=>simp[allN,allL,szB];omega
  |succ i=>
   obtain ⟨-,h1⟩:=all_sz x
   have:=ih i (by simpa using hi)
   simp only[List.take_succ_cons,allN,allL,szB,List.flatMap_append,List.length_append,List.getElem_cons_succ] at this ⊢;omega
theorem ss_at {m:NH} {T:D4->Prop} {v:NV} {l:List Stm} {C:List (List NV)} (h:SS m T v l C) (i:Nat) (hi:i<l.length):∃w,C[i]? =some (l[i].l w)/\RS m T l[i] (l[i].l w)/\SP m T l[i] w:=by
 obtain ⟨c,h1,h2⟩:=h.at i hi
 obtain ⟨w,rfl,h3⟩:=h2.inv'
 exact ⟨w,h1,h2,h3⟩
theorem ss_mem {m:NH} {T:D4->Prop} {v:NV} {l:List Stm} {C:List (List NV)} (h:SS m T v l C) (i:Nat) (hi:i<l.length) {cs:List NV} (hc:C[i]? =some cs):∃id off w c,idxV 21 v (.int .i64 (.lit (i:Int)))= .val (.ptr id off)/\m.get id=some (.cells w c)/\Old m id/\off+21<=c.length/\(c.drop off).take 21=cs:=by
 have hl:i<C.length:=by rw[h.len];exact hi
 obtain ⟨id,off,w,c,a1,a2,a3,a4,a5⟩:=h.sl.at i hl
 rw[List.getElem?_eq_getElem hl] at hc
 injection hc with hc
 exact ⟨id,off,w,c,a1,a2,a3,a4,a5.trans hc⟩
theorem own_le2 (s:Stm):s.own.length<=1+s.i.sz+s.x.sz+s.y.sz:=by
 have hi:=names_le s.i
 have hx:=names_le s.x
 have hy:=names_le s.y
 rw[own_eq]
 simp only[List.length_append]
 have:∀(p:Prop) [Decidable p] (l:List (List Nat)),(if p then l else []).length<=l.length:=by intro p _ l;split<;>simp
 have a1:=this (s.k=0∨s.k=1∨s.k=3) [s.nm]
 have a2:=this (s.k=1∨s.k=2∨s.k=3) s.i.names
 have a3:=this (s.k=0∨s.k=2∨s.k=3∨s.k=5∨s.k=6∨s.k=7) s.x.names
 have a4:=this (s.k=3) s.y.names
 simp only[List.length_singleton] at a1
 omega
theorem names_list {m0:NH} {T:D4->Prop} {l:List Stm} (ih:∀x∈l,NmL m0 T x.b/\NmL m0 T x.e):NmL m0 T l:=by
 intro vb C hS B m v0 N0 hC0 hv0 h0 hB hsz
 refine WF.ex fun K hK=> ?_
 refine WF.of_wpG (fun _=>rfl) nf56_eq (L:= [(.a .e,vb),(.e,v0)]) rfl ?_
 unfold nf56
 have hll:=len_szB l
 simp (config:={maxSteps:=1000000}) (disch:=(first|assumption|omega|exact old_n (by omega)|exact old_hp (by assumption)|(simp only[nmL]<;>omega))) only[go_sem,seval,hp_nil]
 refine W.loop (fun k d=>∃t M i v,d=⟨t, [],none,M⟩/\NT.get D4.e t=some v/\NT.get D4.e.a t=some vb/\NT.get D4.e.a.a t=some (ii (i:Nat))/\i+k=l.length/\Own B M v 1 (Strs ((allN (l.take i)).foldl insN N0))/\Chg (ids v0) m M/\From m v0 v) ?_ l.length _ ⟨_,m,0,v0,rfl,by simp only[go_sem,seval],by simp only[go_sem,seval],by simp only[go_sem,seval]<;>rfl,by omega,hv0,(Chg.refl m).weak (by simp),From.refl m v0⟩
 rintro k d ⟨t,M,i,v,rfl,g1,g2,g3,hik,hv,hC,hF⟩
 apply wp_sound
 unfold nf56_l1
 change wp _ _ _ _ ⟨puts [] t, [],none,M⟩ _
 have hstep:∀{M M':NH} {v v':NV},Chg (ids v0) m M->From m v0 v->Chg (ids v) M M'->From M v v'->Chg (ids v0) m M'/\From m v0 v':=fun h1 h2 h3 h4=>⟨h2.chg h1 h3,h2.trans h4 fun i hi=>h1.old hi⟩
 have hbase:∀{M:NH},Chg (ids v0) m M->Chg [] m0 M:=fun h=>own_base hv0 h0 hC0 h
 have hlenM:∀{M:NH},Chg (ids v0) m M->lenV vb= .val (ii l.length):=fun h=>by
  have:=(hS.stays (stN (hbase h) T)).sl.len
  rw[hS.len] at this;exact this
 have hlen:=hlenM hC
 by_cases hi:i<l.length
 ·obtain ⟨w,hcw,hRx,hP⟩:=ss_at hS i hi
  have hmem:∀{M:NH},Chg (ids v0) m M->∃id off wr c,idxV 21 vb (.int .i64 (.lit (i:Int)))= .val (.ptr id off)/\M.get id=some (.cells wr c)/\Old M id/\off+21<=c.length/\(c.drop off).take 21=l[i].l w:=fun h=>ss_mem (hS.stays (stN (hbase h) T)) i hi hcw
  have hszi:=szB_take l i hi
  have hfl:=foldN_le (allN (l.take i)) N0
  obtain ⟨h1,h2⟩:=ih _ (List.getElem_mem hi)
  obtain ⟨id,off,wr,c,a1,a2,a3,a4,a5⟩:=hmem hC
  have hrb:=sz_eq l[i]
  have htk:allN (l.take (i+1))=allN (l.take i)++(l[i].own++((if l[i].k=6∨l[i].k=7 then allN l[i].b else [])++(if l[i].k=6 then allN l[i].e else []))):=by
   show (allL _).flatMap _=_
   rw[allL_take hi,List.flatMap_append,allN_all]
  obtain ⟨B1,hB1⟩:=hP.b
  obtain ⟨E1,hE1⟩:=hP.e
  simp (config:={maxSteps:=1000000}) (disch:=(first|assumption|omega|exact old_n (by omega)|exact old_hp (by assumption)|(simp only[nmL]<;>omega))) only[go_sem,seval,g1,g2,g3,hlen,a1,a2,a5]
  refine WF.use (own_r hRx (hbase hC) hv h0 (fun i hi=>hC.old (hB i hi)) (by omega)) ?_
  rintro v2 M2 ⟨hv2,hC2,hF2⟩
  obtain ⟨r1,r2⟩:=hstep hC hF hC2 hF2
  obtain ⟨id2,off2,wr2,c2,b1,b2,b3,b4,b5⟩:=hmem r1
  have b1':=a1.symm.trans b1
  injection b1' with b1';injection b1' with e1 e2;subst e1 e2
  have hon:=own_le2 l[i]
  have hfl2:=foldN_le l[i].own ((allN (l.take i)).foldl insN N0)
  have hcells:∀{c:List NV},(c.drop off).take 21=l[i].l w->c[off+0]? =some (ii l[i].k)/\c[off+19]? =some w.vb/\c[off+20]? =some w.ve:=fun h=>⟨cell_at h 0 (by omega),cell_at h 19 (by omega),cell_at h 20 (by omega)⟩
  obtain ⟨k0,k19,k20⟩:=hcells b5
  have hsb:(allN l[i].b).length<=2*szB l[i].b:=(allL_sz l[i].b).2
  have hmem2:∀{M:NH},Chg (ids v0) m M->∃wr c,M.get id=some (.cells wr c)/\c[off+0]? =some (ii l[i].k)/\c[off+19]? =some w.vb/\c[off+20]? =some w.ve:=fun h=>by
   obtain ⟨id2,off2,wr2,c2,b1,b2,b3,b4,b5⟩:=hmem h
   have b1':=a1.symm.trans b1
   injection b1' with b1';injection b1' with e1 e2;subst e1 e2
   exact ⟨wr2,c2,b2,hcells b5⟩
  have fin:∀(t':Tm) (M':NH) (v':NV) (X:List (List Nat)),NT.get D4.e t'=some v'->NT.get D4.e.a t'=some vb->NT.get D4.e.a.a t'=some (ii (i+1:Nat))->Own B M' v' 1 (Strs (X.foldl insN (l[i].own.foldl insN ((allN (l.take i)).foldl insN N0))))->X=((if l[i].k=6∨l[i].k=7 then allN l[i].b else [])++(if l[i].k=6 then allN l[i].e else []))->Chg (ids v0) m M'->From m v0 v'->
   ∃j,j<k/\∃t M i v,(⟨t', [],none,M'⟩:Dyn)=⟨t, [],none,M⟩/\NT.get D4.e t=some v/\NT.get D4.e.a t=some vb/\NT.get D4.e.a.a t=some (ii (i:Nat))/\i+j=l.length/\Own B M v 1 (Strs ((allN (l.take i)).foldl insN N0))/\Chg (ids v0) m M/\From m v0 v:=by
   intro t' M' v' X q1 q2 q3 q4 q5 q6 q7
   refine ⟨k - 1,by omega,t',M',i+1,v',rfl,q1,q2,q3,by omega, ?_,q6,q7⟩
   rw[htk,List.foldl_append,List.foldl_append,←q5];exact q4
  by_cases h6:l[i].k=6
  ·simp (config:={maxSteps:=1000000}) (disch:=(first|assumption|omega|exact old_n (by omega)|exact old_hp (by assumption)|(simp only[nmL]<;>omega))) only[go_sem,seval,g1,g2,g3,hlen,a1,b2,k0,k19,k20,h6]
   refine WF.use (h1 hB1 (hbase r1) hv2 h0 (fun i hi=>r1.old (hB i hi)) (by omega)) ?_
   rintro v3 M3 ⟨hv3,hC3,hF3⟩
   obtain ⟨s1,s2⟩:=hstep r1 r2 hC3 hF3
   obtain ⟨wr3,c3,d2,e0,e19,e20⟩:=hmem2 s1
   have hfl3:=foldN_le (allN l[i].b) (l[i].own.foldl insN ((allN (l.take i)).foldl insN N0))
   simp (config:={maxSteps:=1000000}) (disch:=(first|assumption|omega|exact old_n (by omega)|exact old_hp (by assumption)|(simp only[nmL]<;>omega))) only[go_sem,seval,g1,g2,g3,hlen,a1,d2,e0,e19,e20,h6]
   refine WF.use (h2 hE1 (hbase s1) hv3 h0 (fun i hi=>s1.old (hB i hi)) (by omega)) ?_
   rintro v4 M4 ⟨hv4,hC4,hF4⟩
   obtain ⟨u1,u2⟩:=hstep s1 s2 hC4 hF4
   simp (config:={maxSteps:=1000000}) (disch:=(first|assumption|omega|exact old_n (by omega)|exact old_hp (by assumption)|(simp only[nmL]<;>omega))) only[go_sem,seval,g1,g2,g3]
   refine fin _ _ v4 (allN l[i].b++allN l[i].e) (by simp only[go_sem,seval]) (by simp only[go_sem,seval,g2]) (by simp only[go_sem,seval]<;>rfl) ?_ (by simp[h6]) u1 u2
   rw[List.foldl_append];exact hv4
  ·have d6:decide (l[i].k=6)=false:=decide_eq_false h6
   by_cases h7:l[i].k=7
   ·simp (config:={maxSteps:=1000000}) (disch:=(first|assumption|omega|exact old_n (by omega)|exact old_hp (by assumption)|(simp only[nmL]<;>omega))) only[go_sem,seval,g1,g2,g3,hlen,a1,b2,k0,k19,k20,h7]
    refine WF.use (h1 hB1 (hbase r1) hv2 h0 (fun i hi=>r1.old (hB i hi)) (by omega)) ?_
    rintro v3 M3 ⟨hv3,hC3,hF3⟩
    obtain ⟨s1,s2⟩:=hstep r1 r2 hC3 hF3
    obtain ⟨wr3,c3,d2,e0,e19,e20⟩:=hmem2 s1
    simp (config:={maxSteps:=1000000}) (disch:=(first|assumption|omega|exact old_n (by omega)|exact old_hp (by assumption)|(simp only[nmL]<;>omega))) only[go_sem,seval,g1,g2,g3,hlen,a1,d2,e0,e19,e20,h7]
    exact fin _ _ v3 (allN l[i].b) (by simp only[go_sem,seval]) (by simp only[go_sem,seval,g2]) (by simp only[go_sem,seval]<;>rfl) hv3 (by simp[h7]) s1 s2
   ·have d7:decide (l[i].k=7)=false:=decide_eq_false h7
    simp (config:={maxSteps:=1000000}) (disch:=(first|assumption|omega|exact old_n (by omega)|exact old_hp (by assumption)|(simp only[nmL]<;>omega))) only[go_sem,seval,g1,g2,g3,hlen,a1,b2,k0,k19,k20,d6,d7]
    exact fin _ _ v2 [] (by simp only[go_sem,seval]) (by simp only[go_sem,seval,g2]) (by simp only[go_sem,seval]<;>rfl) hv2 (by simp[h6,h7]) r1 r2
 ·simp (config:={maxSteps:=1000000}) (disch:=(first|assumption|omega|exact old_n (by omega)|exact old_hp (by assumption)|(simp only[nmL]<;>omega))) only[go_sem,seval,g1,g2,g3,hlen]
  have e:(l.take i)=l:=List.take_of_length_le (by omega)
  rw[e] at hv
  exact hK _ _ ⟨hv,hC,hF⟩
theorem names_r {m0:NH} {T:D4->Prop}:∀l:List Stm,NmL m0 T l:=by
 have key:∀x:Stm,NmL m0 T x.b/\NmL m0 T x.e:=by
  apply Stm.ind
  intro k a nm ce i x y b e hb he
  exact ⟨names_list hb,names_list he⟩
 exact fun l=>names_list fun x _=>key x
theorem locals_r {m0 m:NH} {T:D4->Prop} {v:NV} {l:List Stm} {C:List (List NV)} (hS:SS m0 T v l C) (hC0:Chg [] m0 m) (hsz:szB l<=10000000):
 ∃r m',Ret Try.prog S0 18 [v] m r m'/\Own m m' r 1 (Strs (locals l))/\Chg [] m m':=by
 refine WF.ex fun K hK=> ?_
 refine WF.of_wpG (fun _=>rfl) nf18_eq (L:= [(.e,v)]) rfl ?_
 unfold nf18
 simp (config:={maxSteps:=1000000}) (disch:=(first|assumption|omega|exact old_n (by omega)|exact old_hp (by assumption)|(simp only[nmL]<;>omega))) only[go_sem,seval,hp_nil]
 have h0:Own m m .nils 1 (Strs []):=Own.nil
 refine WF.use (@names_r m0 T l v C hS m m .nils [] hC0 h0 (fun i hi=>hC0.old hi) (fun i hi=>hi) (by simp;omega)) ?_
 rintro v2 M2 ⟨hv2,hC2,hF2⟩
 simp (config:={maxSteps:=1000000}) (disch:=(first|assumption|omega|exact old_n (by omega)|exact old_hp (by assumption)|(simp only[nmL]<;>omega))) only[go_sem,seval]
 exact hK _ _ ⟨hv2,hC2⟩
end FR
open Go Nm Go.Proofs
namespace FR
set_option linter.unusedSimpArgs false
set_option linter.unusedVariables false
theorem sameStrings_r {m:NH} {u v:NV} {a b:List (List Nat)} (hu:Sl m u 1 (Strs a)) (hv:Sl m v 1 (Strs b)) (hsz:a.length<=1000000000):Ret Try.prog S0 16 [u,v] m (.bool (decide (a=b))) m:=by
 have h:∃r m',Ret Try.prog S0 16 [u,v] m r m'/\r=(.bool (decide (a=b)))/\m'=m:=by
  refine WF.ex fun K hK=> ?_
  refine WF.of_wpG (fun _=>rfl) nf16_eq (L:= [(.a .e,v),(.e,u)]) rfl ?_
  unfold nf16
  have hlu:=hu.len
  have hlv:=hv.len
  rw[List.length_map] at hlu hlv
  by_cases hl:a.length=b.length
  ·simp (config:={maxSteps:=1000000}) (disch:=(first|assumption|omega|exact old_n (by omega)|exact old_hp (by assumption)|(simp only[nmL]<;>omega))) only[go_sem,seval,hlu,hlv]
   refine W.loop (fun k d=>∃t i,d=⟨t, [],none,hp [] 0 m⟩/\NT.get D4.e t=some u/\NT.get D4.e.a t=some v/\NT.get D4.e.a.a t=some (ii (i:Nat))/\i+k=a.length/\a.take i=b.take i) ?_ a.length _ ⟨_,0,rfl,by simp only[go_sem,seval],by simp only[go_sem,seval],by simp only[go_sem,seval]<;>rfl,by omega,by simp⟩
   rintro k d ⟨t,i,rfl,g1,g2,g3,hik,hn⟩
   apply wp_sound
   unfold nf16_l1
   change wp _ _ _ _ ⟨puts [] t, [],none,hp [] 0 m⟩ _
   by_cases hi:i<a.length
   ·obtain ⟨id,off,w,c,a1,a2,a3,a4,a5⟩:=hu.at i (by simpa using hi)
    obtain ⟨id2,off2,w2,c2,b1,b2,b3,b4,b5⟩:=hv.at i (by simp;omega)
    rw[List.getElem_map] at a5 b5
    have c0:c[off]? =some (.str a[i]):=cell_at a5 0 (by omega)
    have d0:c2[off2]? =some (.str b[i]):=cell_at b5 0 (by omega)
    by_cases he:a[i]=b[i]
    ·have he':decide (a[i]≠b[i])=false:=decide_eq_false (by simpa using he)
     simp (config:={maxSteps:=1000000}) (disch:=(first|assumption|omega|exact old_n (by omega)|exact old_hp (by assumption)|(simp only[nmL]<;>omega))) only[go_sem,seval,g1,g2,g3,hlu,hlv,a1,a2,c0,b1,b2,d0,he']
     refine ⟨k - 1,by omega,_,i+1,by rfl, ?_, ?_, ?_,by omega, ?_⟩
     ·simp (config:={maxSteps:=1000000}) (disch:=(first|assumption|omega|exact old_n (by omega)|exact old_hp (by assumption)|(simp only[nmL]<;>omega))) only[go_sem,seval,g1]
     ·simp (config:={maxSteps:=1000000}) (disch:=(first|assumption|omega|exact old_n (by omega)|exact old_hp (by assumption)|(simp only[nmL]<;>omega))) only[go_sem,seval,g2]
     ·simp (config:={maxSteps:=1000000}) (disch:=(first|assumption|omega|exact old_n (by omega)|exact old_hp (by assumption)|(simp only[nmL]<;>omega))) only[go_sem,seval]<;>rfl
     ·rw[List.take_add_one,List.take_add_one,hn,List.getElem?_eq_getElem hi,List.getElem?_eq_getElem (by omega),he]
    ·have he':decide (a[i]≠b[i])=true:=decide_eq_true he
     simp (config:={maxSteps:=1000000}) (disch:=(first|assumption|omega|exact old_n (by omega)|exact old_hp (by assumption)|(simp only[nmL]<;>omega))) only[go_sem,seval,g1,g2,g3,hlu,hlv,a1,a2,c0,b1,b2,d0,he',hp_nil]
     exact hK _ _ ⟨by rw[decide_eq_false fun e=>he (by subst e;rfl)],rfl⟩
   ·simp (config:={maxSteps:=1000000}) (disch:=(first|assumption|omega|exact old_n (by omega)|exact old_hp (by assumption)|(simp only[nmL]<;>omega))) only[go_sem,seval,g1,g2,g3,hlu,hlv,hp_nil]
    rw[List.take_of_length_le (by omega),List.take_of_length_le (by omega)] at hn
    exact hK _ _ ⟨by rw[decide_eq_true hn],rfl⟩
  ·simp (config:={maxSteps:=1000000}) (disch:=(first|assumption|omega|exact old_n (by omega)|exact old_hp (by assumption)|(simp only[nmL]<;>omega))) only[go_sem,seval,hlu,hlv,hp_nil]
   exact hK _ _ ⟨by rw[decide_eq_false fun e=>hl (by rw[e])],rfl⟩
 obtain ⟨r,m',h1,rfl,rfl⟩:=h
 exact h1
end FR
open Go Nm Go.Proofs
namespace FR
set_option linter.unusedSimpArgs false
set_option linter.unusedVariables false
abbrev Cls (l:List (List Nat×Int)):List (List NV):=l.map fun c=> [.str c.1,ii c.2]
structure Ths (m:NH) (T:D4->Prop) (v:NV) (l:List (List Nat×List Stm)) (C:List (List NV)):Prop where
 sl:Sl m v 2 C
 hT:∀i∈ids v,T i
 len:C.length=l.length
 R:∀(i:Nat) (x:List Nat×List Stm) (c:List NV),l[i]? =some x->C[i]? =some c->∃vb B,c= [.str x.1,vb]/\SS m T vb x.2 B
theorem Ths.stays {m m':NH} {T:D4->Prop} (hs:Stays T m m') {v:NV} {l:List (List Nat×List Stm)} {C:List (List NV)} (h:Ths m T v l C):Ths m' T v l C:=
 ⟨sl_stays h.sl h.hT hs,h.hT,h.len,fun i x c a b=>by obtain ⟨vb,B,e,h⟩:=h.R i x c a b;exact ⟨vb,B,e,h.stays hs⟩⟩
theorem Ths.at {m:NH} {T:D4->Prop} {v:NV} {l:List (List Nat×List Stm)} {C:List (List NV)} (h:Ths m T v l C) (i:Nat) (hi:i<l.length):∃vb B id off w c,SS m T vb l[i].2 B/\idxV 2 v (.int .i64 (.lit (i:Int)))= .val (.ptr id off)/\m.get id=some (.cells w c)/\Old m id/\off+2<=c.length/\(c.drop off).take 2= [.str l[i].1,vb]:=by
 have hc:i<C.length:=by rw[h.len];exact hi
 obtain ⟨vb,B,e,hS⟩:=h.R i _ _ (List.getElem?_eq_getElem hi) (List.getElem?_eq_getElem hc)
 obtain ⟨id,off,w,c,a1,a2,a3,a4,a5⟩:=h.sl.at i hc
 exact ⟨vb,B,id,off,w,c,hS,a1,a2,a3,a4,a5.trans e⟩
structure Prg where
 cs:List (List Nat×Int)
 ts:List (List Nat×List Stm)
 r:List Stm
structure RP (m:NH) (T:D4->Prop) (p:Prg) (vc vt vr:NV):Prop where
 c:Sl m vc 2 (Cls p.cs)
 cT:∀i∈ids vc,T i
 t:∃C,Ths m T vt p.ts C
 r:∃C,SS m T vr p.r C
theorem RP.stays {m m':NH} {T:D4->Prop} (hs:Stays T m m') {p:Prg} {vc vt vr:NV} (h:RP m T p vc vt vr):RP m' T p vc vt vr:=
 ⟨sl_stays h.c h.cT hs,h.cT,let ⟨C,q⟩:=h.t;⟨C,q.stays hs⟩,let ⟨C,q⟩:=h.r;⟨C,q.stays hs⟩⟩
end FR
open Go Nm Go.Proofs
namespace FR
set_option linter.unusedSimpArgs false
set_option linter.unusedVariables false
def powS (s:Int):Bool:=decide (1<=s/\s<=64/\s.toNat&&& (s.toNat - 1)=0)
def cellsE:List (List Nat)->Int->List (List Nat×Int)->Int
 |_,_, []=>0
 |seen,w,c::l=>if c.1∈seen then 5 else if powS c.2=false then 7 else if 64 - w<c.2 then 3 else cellsE (insN seen c.1) (w+c.2) l
def twiceE:List (List Nat)->List (List Nat)->Int
 |_, []=>0
 |seen,n::l=>if n∈seen then 5 else twiceE (insN seen n) l
theorem mem_insN {l:List (List Nat)} {s x:List Nat}:x∈insN l s↔x∈l∨x=s:=by
 unfold insN
 split
 ·rename_i h;constructor
  ·exact Or.inl
  ·rintro (q|rfl)
   ·exact q
   ·exact h
 ·simp
theorem mem_foldN {x:List Nat}:∀(more l:List (List Nat)),x∈more.foldl insN l↔x∈l∨x∈more:=by
 intro more
 induction more with
 |nil=>intro l;simp
 |cons a more ih=>intro l;rw[List.foldl_cons,ih,mem_insN,List.mem_cons,or_assoc]
theorem and_nat {a b:Nat} (ha:a<1000) (hb:b<1000):binV .num .and (ii a) (ii b)=some (ii ((a&&& b:Nat):Int)):=
 (b_of rfl).trans (bits_nat (k:= .i64) (Or.inl rfl) (by show a<9223372036854775808;omega) (by show b<9223372036854775808;omega) rfl)
theorem pow_and {s:Int} (h1:1<=s) (h2:s<=64):binV .num .and (ii s) (ii (s - 1))=some (ii (s.toNat&&& (s.toNat - 1):Nat)):=by
 obtain ⟨n,rfl⟩:=Int.eq_ofNat_of_zero_le (by omega:0<=s)
 rw[show ((n:Int) - 1)=((n - 1:Nat):Int) by omega]
 exact and_nat (by omega) (by omega)
theorem cells_p {m:NH} {v:NV} {l:List (List Nat×Int)} (hv:Sl m v 2 (Cls l)) (hsz:l.length<=1000000):∃m',Ret Try.prog S0 89 [v] m (ii (cellsE [] 0 l)) m'/\Chg [] m m':=by
 refine WF.ex1 fun K hK=> ?_
 refine WF.of_wpG (fun _=>rfl) nf89_eq (L:= [(.e,v)]) rfl ?_
 unfold nf89
 have hlen:=hv.len
 rw[List.length_map] at hlen
 simp (config:={maxSteps:=1000000}) (disch:=(first|assumption|omega|exact old_n (by omega)|exact old_hp (by assumption)|(simp only[nmL]<;>omega))) only[go_sem,seval,hlen]
 generalize hM0:hp _ 1 m=M0
 have hC0:Chg [] m M0:=by rw[←hM0];exact hp_of rfl
 have hg0:M0.get (na m 0)=some (.map (setR [])):=by rw[←hM0];exact h_getN
 have ho0:Old M0 (na m 0):=by rw[←hM0];exact old_n (by omega)
 refine W.loop (fun k d=>∃t M i seen w,d=⟨t, [],none,M⟩/\NT.get D4.e.c t=some (ii w)/\NT.get D4.e.f t=some (.map (na m 0))/\NT.get D4.e.a.f t=some v/\NT.get D4.e.b.a t=some (ii l.length)/\NT.get D4.e.b.b t=some (ii (i:Nat))/\i+k=l.length/\0<=w/\w<=64/\cellsE seen w (l.drop i)=cellsE [] 0 l/\M.get (na m 0)=some (.map (setR seen))/\Old M (na m 0)/\Chg [] m M) ?_ l.length _ ⟨_,M0,0, [],0,rfl,by simp only[go_sem,seval],by simp only[go_sem,seval],by simp only[go_sem,seval],by simp only[go_sem,seval],by simp only[go_sem,seval]<;>rfl,by omega,by omega,by omega,rfl,hg0,ho0,hC0⟩
 rintro k d ⟨t,M,i,seen,w,rfl,g1,g2,g3,g4,g5,hik,hw0,hw,hE,hg,ho,hC⟩
 apply wp_sound
 unfold nf89_l1
 change wp _ _ _ _ ⟨puts [] t, [],none,M⟩ _
 rw[←hp_nil M]
 by_cases hi:i<l.length
 ·obtain ⟨id,off,wr,c,a1,a2,a3,a4,a5⟩:=hv.at i (by simpa using hi)
  rw[List.getElem_map] at a5
  have a2':=(hC.get a3 (by simp)).trans a2
  have a3':=hC.old a3
  rw[List.drop_eq_getElem_cons hi] at hE
  generalize hc:l[i]=cc at hE a5
  obtain ⟨n,s⟩:=cc
  rw[cellsE] at hE
  dsimp only at hE a5
  by_cases hin:n∈seen
  ·rw[if_pos hin] at hE
   have hd:decide (n∈seen)=true:=decide_eq_true hin
   simp (config:={maxSteps:=1000000}) (disch:=(first|assumption|omega|exact old_n (by omega)|exact old_hp (by assumption)|(simp only[nmL]<;>omega))) only[go_sem,seval,g1,g2,g3,g4,g5,hlen,a1,a2',a5,hg,hd]
   rw[←hE] at hK
   exact hK _ (chg_hp hC rfl)
  ·rw[if_neg hin] at hE
   have hd:decide (n∈seen)=false:=decide_eq_false hin
   by_cases hpw:powS s=true
   ·rw[if_neg (by simp[hpw])] at hE
    have hp':=of_decide_eq_true hpw
    obtain ⟨p1,p2,p3⟩:=hp'
    have hpa:=pow_and p1 p2
    rw[p3] at hpa
    by_cases hlw:64 - w<s
    ·rw[if_pos hlw] at hE
     simp (config:={maxSteps:=1000000}) (disch:=(first|assumption|omega|exact old_n (by omega)|exact old_hp (by assumption)|(simp only[nmL]<;>omega))) only[go_sem,seval,g1,g2,g3,g4,g5,hlen,a1,a2',a5,hg,hd,hpa]
     rw[←hE] at hK
     exact hK _ (chg_hp hC rfl)
    ·rw[if_neg hlw] at hE
     simp (config:={maxSteps:=1000000}) (disch:=(first|assumption|omega|exact old_n (by omega)|exact old_hp (by assumption)|(simp only[nmL]<;>omega))) only[go_sem,seval,g1,g2,g3,g4,g5,hlen,a1,a2',a5,hg,hd,hpa]
     generalize hM1:hp _ 1 M=M1
     have hC1:Chg [na m 0] M M1:=by rw[←hM1];exact hp_of rfl
     refine ⟨k - 1,by omega,_,M1,i+1,_,w+s,by rfl,by simp only[go_sem,seval],by simp only[go_sem,seval,g2],by simp only[go_sem,seval,g3],by simp only[go_sem,seval,g4],by simp only[go_sem,seval]<;>rfl,by omega,by omega,by omega,hE, ?_,hC1.old ho,hC.trans hC1 fun i hi ho=> ?_⟩
     ·rw[←hM1];exact (h_getO ho).trans h_lookOs
     ·simp only[List.mem_cons,List.not_mem_nil,or_false] at hi;subst hi;exact absurd ho na_old
   ·have hpw:powS s=false:=by simpa using hpw
    rw[if_pos hpw] at hE
    have hp':=of_decide_eq_false hpw
    by_cases h1:s<1
    ·simp (config:={maxSteps:=1000000}) (disch:=(first|assumption|omega|exact old_n (by omega)|exact old_hp (by assumption)|(simp only[nmL]<;>omega))) only[go_sem,seval,g1,g2,g3,g4,g5,hlen,a1,a2',a5,hg,hd]
     rw[←hE] at hK
     exact hK _ (chg_hp hC rfl)
    ·by_cases h2:64<s
     ·simp (config:={maxSteps:=1000000}) (disch:=(first|assumption|omega|exact old_n (by omega)|exact old_hp (by assumption)|(simp only[nmL]<;>omega))) only[go_sem,seval,g1,g2,g3,g4,g5,hlen,a1,a2',a5,hg,hd]
      rw[←hE] at hK
      exact hK _ (chg_hp hC rfl)
     ·have hpa:=pow_and (by omega:1<=s) (by omega)
      have hne:s.toNat&&& (s.toNat - 1)≠0:=fun h=>hp' ⟨by omega,by omega,h⟩
      generalize s.toNat&&& (s.toNat - 1)=r at hpa hne
      simp (config:={maxSteps:=1000000}) (disch:=(first|assumption|omega|exact old_n (by omega)|exact old_hp (by assumption)|(simp only[nmL]<;>omega))) only[go_sem,seval,g1,g2,g3,g4,g5,hlen,a1,a2',a5,hg,hd,hpa]
      rw[←hE] at hK
      exact hK _ (chg_hp hC rfl)
 ·simp (config:={maxSteps:=1000000}) (disch:=(first|assumption|omega|exact old_n (by omega)|exact old_hp (by assumption)|(simp only[nmL]<;>omega))) only[go_sem,seval,g1,g2,g3,g4,g5,hlen]
  rw[List.drop_of_length_le (by omega),cellsE] at hE
  rw[←hE] at hK
  rw[hp_nil]
  exact hK _ hC
theorem threads_p {m:NH} {T:D4->Prop} {v:NV} {l:List (List Nat×List Stm)} {C:List (List NV)} (hT:Ths m T v l C) (hsz:l.length<=1000000):∃m',Ret Try.prog S0 90 [v] m (ii (twiceE [] (l.map (·.1)))) m'/\Chg [] m m':=by
 refine WF.ex1 fun K hK=> ?_
 refine WF.of_wpG (fun _=>rfl) nf90_eq (L:= [(.e,v)]) rfl ?_
 unfold nf90
 have hlen:=hT.sl.len
 rw[hT.len] at hlen
 simp (config:={maxSteps:=1000000}) (disch:=(first|assumption|omega|exact old_n (by omega)|exact old_hp (by assumption)|(simp only[nmL]<;>omega))) only[go_sem,seval,hlen]
 generalize hM0:hp _ 1 m=M0
 have hC0:Chg [] m M0:=by rw[←hM0];exact hp_of rfl
 have hg0:M0.get (na m 0)=some (.map (setR [])):=by rw[←hM0];exact h_getN
 have ho0:Old M0 (na m 0):=by rw[←hM0];exact old_n (by omega)
 refine W.loop (fun k d=>∃t M i seen,d=⟨t, [],none,M⟩/\NT.get D4.e.c t=some (.map (na m 0))/\NT.get D4.e.a.c t=some v/\NT.get D4.e.a.f t=some (ii l.length)/\NT.get D4.e.b.a t=some (ii (i:Nat))/\i+k=l.length/\twiceE seen ((l.map (·.1)).drop i)=twiceE [] (l.map (·.1))/\M.get (na m 0)=some (.map (setR seen))/\Old M (na m 0)/\Chg [] m M) ?_ l.length _ ⟨_,M0,0, [],rfl,by simp only[go_sem,seval],by simp only[go_sem,seval],by simp only[go_sem,seval],by simp only[go_sem,seval]<;>rfl,by omega,rfl,hg0,ho0,hC0⟩
 rintro k d ⟨t,M,i,seen,rfl,g1,g2,g3,g4,hik,hE,hg,ho,hC⟩
 apply wp_sound
 unfold nf90_l1
 change wp _ _ _ _ ⟨puts [] t, [],none,M⟩ _
 rw[←hp_nil M]
 by_cases hi:i<l.length
 ·obtain ⟨vb,B,id,off,wr,c,-,a1,a2,a3,a4,a5⟩:=hT.at i hi
  have a2':=(hC.get a3 (by simp)).trans a2
  have a3':=hC.old a3
  rw[List.drop_eq_getElem_cons (by simpa using hi),List.getElem_map,twiceE] at hE
  generalize l[i].1=n at hE a5
  by_cases hin:n∈seen
  ·rw[if_pos hin] at hE
   have hd:decide (n∈seen)=true:=decide_eq_true hin
   simp (config:={maxSteps:=1000000}) (disch:=(first|assumption|omega|exact old_n (by omega)|exact old_hp (by assumption)|(simp only[nmL]<;>omega))) only[go_sem,seval,g1,g2,g3,g4,hlen,a1,a2',a5,hg,hd]
   rw[←hE] at hK
   exact hK _ (chg_hp hC rfl)
  ·rw[if_neg hin] at hE
   have hd:decide (n∈seen)=false:=decide_eq_false hin
   simp (config:={maxSteps:=1000000}) (disch:=(first|assumption|omega|exact old_n (by omega)|exact old_hp (by assumption)|(simp only[nmL]<;>omega))) only[go_sem,seval,g1,g2,g3,g4,hlen,a1,a2',a5,hg,hd]
   generalize hM1:hp _ 1 M=M1
   have hC1:Chg [na m 0] M M1:=by rw[←hM1];exact hp_of rfl
   refine ⟨k - 1,by omega,_,M1,i+1,_,by rfl,by simp only[go_sem,seval,g1],by simp only[go_sem,seval,g2],by simp only[go_sem,seval,g3],by simp only[go_sem,seval]<;>rfl,by omega,hE, ?_,hC1.old ho,hC.trans hC1 fun i hi ho=> ?_⟩
   ·rw[←hM1];exact (h_getO ho).trans h_lookOs
   ·simp only[List.mem_cons,List.not_mem_nil,or_false] at hi;subst hi;exact absurd ho na_old
 ·simp (config:={maxSteps:=1000000}) (disch:=(first|assumption|omega|exact old_n (by omega)|exact old_hp (by assumption)|(simp only[nmL]<;>omega))) only[go_sem,seval,g1,g2,g3,g4,hlen]
  rw[List.drop_of_length_le (by simp;omega),twiceE] at hE
  rw[←hE] at hK
  rw[hp_nil]
  exact hK _ hC
def headE (p:Prg):Int:=if 16<p.cs.length∨p.ts.length=0∨4<p.ts.length then 3 else if cellsE [] 0 p.cs≠0 then cellsE [] 0 p.cs else twiceE [] (p.ts.map (·.1))
theorem head_p {m:NH} {T:D4->Prop} {p:Prg} {vc vt vr:NV} (h:RP m T p vc vt vr) (hs:p.cs.length<=1000000/\p.ts.length<=1000000):∃m',Ret Try.prog S0 48 [.agg [vc,vt,vr]] m (ii (headE p)) m'/\Chg [] m m':=by
 refine WF.ex1 fun K hK=> ?_
 refine WF.of_wpG (fun _=>rfl) nf48_eq (L:= [(.e,.agg [vc,vt,vr])]) rfl ?_
 unfold nf48
 obtain ⟨C,hT⟩:=h.t
 have l1:=h.c.len
 have l2:=hT.sl.len
 rw[List.length_map] at l1
 rw[hT.len] at l2
 unfold headE at hK
 by_cases h1:16<p.cs.length
 ·rw[if_pos (Or.inl h1)] at hK
  simp (config:={maxSteps:=1000000}) (disch:=(first|assumption|omega|exact old_n (by omega)|exact old_hp (by assumption)|(simp only[nmL]<;>omega))) only[go_sem,seval,l1,l2]
  exact hK _ (hp_of rfl)
 ·by_cases h2:p.ts.length=0
  ·rw[if_pos (Or.inr (Or.inl h2))] at hK
   simp (config:={maxSteps:=1000000}) (disch:=(first|assumption|omega|exact old_n (by omega)|exact old_hp (by assumption)|(simp only[nmL]<;>omega))) only[go_sem,seval,l1,l2]
   exact hK _ (hp_of rfl)
  ·by_cases h3:4<p.ts.length
   ·rw[if_pos (Or.inr (Or.inr h3))] at hK
    simp (config:={maxSteps:=1000000}) (disch:=(first|assumption|omega|exact old_n (by omega)|exact old_hp (by assumption)|(simp only[nmL]<;>omega))) only[go_sem,seval,l1,l2]
    exact hK _ (hp_of rfl)
   ·rw[if_neg (by omega)] at hK
    have hC1:Chg [] m (hp [(.n 0,.cells true [vc,vt,vr])] 1 m):=hp_of rfl
    obtain ⟨m2,hr,hC2⟩:=cells_p (h.c.chg hC1 fun _ _=>by simp) hs.1
    have g2:m2.get (na m 0)=some (.cells true [vc,vt,vr]):=(hC2.get (old_n (by omega)) (by simp)).trans h_getN
    have o2:Old m2 (na m 0):=hC2.old (old_n (by omega))
    have hC:=hC1.trans hC2 (by simp)
    simp (config:={maxSteps:=1000000}) (disch:=(first|assumption|omega|exact old_n (by omega)|exact old_hp (by assumption)|(simp only[nmL]<;>omega))) only[go_sem,seval,l1,l2,hr.wf',g2,o2]
    by_cases h4:cellsE [] 0 p.cs=0
    ·rw[if_neg (by simpa using h4)] at hK
     rw[h4]
     obtain ⟨m3,hr3,hC3⟩:=threads_p (hT.stays (stN hC T)) hs.2
     simp (config:={maxSteps:=1000000}) (disch:=(first|assumption|omega|exact old_n (by omega)|exact old_hp (by assumption)|(simp only[nmL]<;>omega))) only[go_sem,seval,g2,o2,hr3.wf']
     exact hK _ (hC.trans hC3 (by simp))
    ·rw[if_pos h4] at hK
     have hd:decide (cellsE [] 0 p.cs≠0)=true:=decide_eq_true h4
     simp (config:={maxSteps:=1000000}) (disch:=(first|assumption|omega|exact old_n (by omega)|exact old_hp (by assumption)|(simp only[nmL]<;>omega))) only[go_sem,seval,g2,o2,hd]
     exact hK _ hC
end FR
open Go Nm Go.Proofs
namespace FR
set_option linter.unusedSimpArgs false
set_option linter.unusedVariables false
theorem find_r {m:NH} {v:NV} {l:List (List Nat×Int)} (hv:Sl m v 2 (Cls l)) (hsz:l.length<=1000000) (s:List Nat):Ret Try.prog S0 50 [v,.str s] m (ii (fndI (l.map (·.1)) s)) m:=by
 have h:∃r m',Ret Try.prog S0 50 [v,.str s] m r m'/\r=ii (fndI (l.map (·.1)) s)/\m'=m:=by
  refine WF.ex fun K hK=> ?_
  refine WF.of_wpG (fun _=>rfl) nf50_eq (L:= [(.a .e,.str s),(.e,v)]) rfl ?_
  unfold nf50
  have hlen:=hv.len
  rw[List.length_map] at hlen
  simp (config:={maxSteps:=1000000}) (disch:=(first|assumption|omega|exact old_n (by omega)|exact old_hp (by assumption)|(simp only[nmL]<;>omega))) only[go_sem,seval,hp_nil]
  refine W.loop (fun k d=>∃t i,d=⟨t, [],none,m⟩/\NT.get D4.e t=some v/\NT.get D4.e.a t=some (.str s)/\NT.get D4.e.a.a t=some (ii (i:Nat))/\i+k=l.length/\∀j (hj:j<i) (hl:j<l.length),s≠l[j].1) ?_ l.length _ ⟨_,0,rfl,by simp only[go_sem,seval],by simp only[go_sem,seval],by simp only[go_sem,seval]<;>rfl,by omega,by simp⟩
  rintro k d ⟨t,i,rfl,g1,g2,g3,hik,hn⟩
  apply wp_sound
  unfold nf50_l1
  change wp _ _ _ _ ⟨puts [] t, [],none,m⟩ _
  by_cases hi:i<l.length
  ·obtain ⟨id,off,wr,c,a1,a2,a3,a4,a5⟩:=hv.at i (by simpa using hi)
   rw[List.getElem_map] at a5
   have c0:c[off+0]? =some (.str l[i].1):=cell_at a5 0 (by omega)
   by_cases he:l[i].1=s
   ·simp (config:={maxSteps:=1000000}) (disch:=(first|assumption|omega|exact old_n (by omega)|exact old_hp (by assumption)|(simp only[nmL]<;>omega))) only[go_sem,seval,g1,g2,g3,hlen,a1,a2,c0,he]
    have hf:fndI (l.map (·.1)) s=i:=fndI_some (by simpa using hi) (by simp[he]) fun j hj=>by rw[List.getElem_map];exact hn j hj (by omega)
    exact hK _ _ ⟨by rw[hf],rfl⟩
   ·simp (config:={maxSteps:=1000000}) (disch:=(first|assumption|omega|exact old_n (by omega)|exact old_hp (by assumption)|(simp only[nmL]<;>omega))) only[go_sem,seval,g1,g2,g3,hlen,a1,a2,c0,he]
    refine ⟨k - 1,by omega,_,i+1,by rfl,by simp only[go_sem,seval,g1],by simp only[go_sem,seval,g2],by simp only[go_sem,seval]<;>rfl,by omega,fun j hj hl=> ?_⟩
    rcases Nat.lt_or_ge j i with q|q
    ·exact hn j q hl
    ·obtain rfl:j=i:=by omega
     exact fun q=>he q.symm
  ·simp (config:={maxSteps:=1000000}) (disch:=(first|assumption|omega|exact old_n (by omega)|exact old_hp (by assumption)|(simp only[nmL]<;>omega))) only[go_sem,seval,g1,g2,g3,hlen]
   have hf:fndI (l.map (·.1)) s=-1:=fndI_none fun j hj=>by rw[List.getElem_map];exact hn j (by simp at hj;omega) (by simpa using hj)
   exact hK _ _ ⟨by rw[hf],rfl⟩
 obtain ⟨r,m',h1,rfl,rfl⟩:=h
 exact h1
theorem power_r (m:NH) (s:Int):Ret Try.prog S0 51 [ii s] m (.bool (powS s)) m:=by
 have h:∃r m',Ret Try.prog S0 51 [ii s] m r m'/\r= .bool (powS s)/\m'=m:=by
  refine WF.ex fun K hK=> ?_
  refine WF.of_wpG (fun _=>rfl) nf51_eq (L:= [(.e,ii s)]) rfl ?_
  unfold nf51
  by_cases h1:1<=s
  ·by_cases h2:s<=64
   ·have hpa:=pow_and h1 h2
    by_cases h3:s.toNat&&& (s.toNat - 1)=0
    ·rw[h3] at hpa
     simp (config:={maxSteps:=1000000}) (disch:=(first|assumption|omega|exact old_n (by omega)|exact old_hp (by assumption)|(simp only[nmL]<;>omega))) only[go_sem,seval,hp_nil,hpa]
     exact hK _ _ ⟨by unfold powS;rw[decide_eq_true ⟨h1,h2,h3⟩],rfl⟩
    ·have hne:powS s=false:=decide_eq_false fun h=>h3 h.2.2
     generalize s.toNat&&& (s.toNat - 1)=r at hpa h3
     simp (config:={maxSteps:=1000000}) (disch:=(first|assumption|omega|exact old_n (by omega)|exact old_hp (by assumption)|(simp only[nmL]<;>omega))) only[go_sem,seval,hp_nil,hpa]
     exact hK _ _ ⟨by rw[hne],rfl⟩
   ·simp (config:={maxSteps:=1000000}) (disch:=(first|assumption|omega|exact old_n (by omega)|exact old_hp (by assumption)|(simp only[nmL]<;>omega))) only[go_sem,seval,hp_nil]
    exact hK _ _ ⟨by unfold powS;rw[decide_eq_false fun h=>h2 h.2.1],rfl⟩
  ·simp (config:={maxSteps:=1000000}) (disch:=(first|assumption|omega|exact old_n (by omega)|exact old_hp (by assumption)|(simp only[nmL]<;>omega))) only[go_sem,seval,hp_nil]
   exact hK _ _ ⟨by unfold powS;rw[decide_eq_false fun h=>h1 h.1],rfl⟩
 obtain ⟨r,m',h1,rfl,rfl⟩:=h
 exact h1
end FR
open Go Nm Go.Proofs
namespace FR
set_option linter.unusedSimpArgs false
set_option linter.unusedVariables false
structure Wk (ck:D4) (B m0:NH) (vc u:NV) (L:List (List Nat)) (e a:Int) (N:NH):Prop where
 g:N.get ck=some (.cells true [vc,u,ii e,ii a])
 o:Old N ck
 w:Own B N u 1 (Strs L)
 n:ck∉ids u
 c:Chg [] m0 N
 b:∀i,Old B i->Old N i
def e6 (Z:List (List Nat)) (e:Int) (mine:List (List Nat)):Int:=if e=0/\∃n∈mine,n∈Z then 6 else e
section
variable {ck:D4} {B m0:NH} {vc:NV} {cs:List (List Nat×Int)}
theorem Wk.grow {u:NV} {L:List (List Nat)} {e a:Int} {N N':NH} (h:Wk ck B m0 vc u L e a N) (hC:Chg [] N N'):Wk ck B m0 vc u L e a N':=
 ⟨(hC.get h.o (by simp)).trans h.g,hC.old h.o,h.w.chg hC fun _ _=>by simp,h.n,h.c.trans hC (by simp),fun i hi=>hC.old (h.b i hi)⟩
theorem Wk.set {u:NV} {L:List (List Nat)} {e a e' a':Int} {N N':NH} (h:Wk ck B m0 vc u L e a N) (hk:¬Old m0 ck) (hN:hp [(.o ck,.cells true [vc,u,ii e',ii a'])] 0 N=N'):Wk ck B m0 vc u L e' a' N'/\Chg [ck] N N':=by
 have hC:Chg [ck] N N':=by rw[←hN];exact hp_of rfl
 refine ⟨⟨?_,hC.old h.o,h.w.chg hC fun i hi=>by simp;rintro rfl;exact h.n hi,h.n,h.c.trans hC fun i hi ho=> ?_,fun i hi=>hC.old (h.b i hi)⟩,hC⟩
 ·rw[←hN];exact (h_getO h.o).trans h_lookOs
 ·simp only[List.mem_cons,List.not_mem_nil,or_false] at hi;subst hi;exact absurd ho hk
theorem fnd_lt {Z:List (List Nat)} {s:List Nat}:fndI Z s<0↔s∉Z:=by
 have:=fndI_mem (l:=Z) (x:=s)
 rw[←this];omega
theorem wk_l2 (hcs:Sl m0 vc 2 (Cls cs)) (hcl:cs.length<=1000000) (hk:¬Old m0 ck) {u vm v s2:NV} {i0:Int} {L mine:List (List Nat)} {e a:Int} {N:NH} (hW:Wk ck B m0 vc u L e a N) (hm:Sl N vm 1 (Strs mine)) (hd:ck∉ids vm) (hl:mine.length<=100000000) {t:Tm}
 (g1:NT.get D4.e t=some (.ptr ck 0)) (g2:NT.get D4.e.a.b t=some vm) (g3:NT.get D4.e.a.c t=some (ii 0)) (g4:NT.get D4.e.a t=some v) (g5:NT.get D4.e.f t=some (ii i0)) (g6:NT.get D4.e.a.a t=some s2) {Q:Out->Dyn->Prop}
 (hQ:∀t' N',Wk ck B m0 vc u L (e6 (cs.map (·.1)) e mine) a N'->Chg [ck] N N'->NT.get D4.e t'=some (.ptr ck 0)->NT.get D4.e.a.b t'=some vm->NT.get D4.e.a t'=some v->NT.get D4.e.f t'=some (ii i0)->NT.get D4.e.a.a t'=some s2->Q (.exit 2) ⟨puts [] t', [],none,N'⟩):
 W Try.prog S0 none nf52_l2.loop ⟨t, [],none,N⟩ Q:=by
 refine W.loop (fun k d=>∃t M i,d=⟨t, [],none,M⟩/\NT.get D4.e t=some (.ptr ck 0)/\NT.get D4.e.a.b t=some vm/\NT.get D4.e.a.c t=some (ii (i:Nat))/\NT.get D4.e.a t=some v/\NT.get D4.e.f t=some (ii i0)/\NT.get D4.e.a.a t=some s2/\i+k=mine.length/\Wk ck B m0 vc u L (e6 (cs.map (·.1)) e (mine.take i)) a M/\Chg [ck] N M) ?_ mine.length _ ⟨t,N,0,rfl,g1,g2,g3,g4,g5,g6,by omega,by simpa [e6] using hW,(Chg.refl N).weak (by simp)⟩
 clear g1 g2 g3 g4 g5 g6
 rintro k d ⟨t,M,i,rfl,g1,g2,g3,g4,g5,g6,hik,hWM,hC⟩
 apply wp_sound
 unfold nf52_l2
 change wp _ _ _ _ ⟨puts [] t, [],none,M⟩ _
 have hmM:Sl M vm 1 (Strs mine):=hm.chg hC fun i hi=>by simp;rintro rfl;exact hd hi
 have hlen:=hmM.len
 rw[List.length_map] at hlen
 have hg:=hWM.g
 have ho:=hWM.o
 by_cases hi:i<mine.length
 ·by_cases he:e6 (cs.map (·.1)) e (mine.take i)=0
  ·obtain ⟨id,off,wr,c,a1,a2,a3,a4,a5⟩:=hmM.at i (by simpa using hi)
   rw[List.getElem_map] at a5
   have c0:c[off]? =some (.str mine[i]):=cell_at a5 0 (by omega)
   have hf:=find_r (hcs.chg hWM.c fun _ _=>by simp) hcl mine[i]
   have hvs:sameV 4 vc vc=true:=hcs.same
   have htk:∀p:List Nat->Prop,(∃n∈mine.take (i+1),p n)↔(∃n∈mine.take i,p n)∨p mine[i]:=by
    intro p
    rw[List.take_add_one,List.getElem?_eq_getElem hi]
    simp only[List.mem_append,Option.toList_some,List.mem_singleton]
    constructor
    ·rintro ⟨n,h|rfl,hp⟩
     ·exact Or.inl ⟨n,h,hp⟩
     ·exact Or.inr hp
    ·rintro (⟨n,h,hp⟩|hp)
     ·exact ⟨n,Or.inl h,hp⟩
     ·exact ⟨_,Or.inr rfl,hp⟩
   have he0:e=0:=by unfold e6 at he;split at he<;>omega
   have hno:¬∃n∈mine.take i,n∈cs.map (·.1):=fun h=>by rw[e6,if_pos ⟨he0,h⟩] at he;omega
   rw[he] at hg hWM
   by_cases hin:mine[i]∈cs.map (·.1)
   ·have h6:e6 (cs.map (·.1)) e (mine.take (i+1))=6:=by rw[e6,if_pos ⟨he0,(htk _).2 (Or.inr hin)⟩]
    have hfp:0<=fndI (cs.map (·.1)) mine[i]:=fndI_mem.2 hin
    generalize fndI (cs.map (·.1)) mine[i]=z at hf hfp
    simp (config:={maxSteps:=1000000}) (disch:=(first|assumption|omega|exact old_n (by omega)|exact old_hp (by assumption)|(simp only[nmL]<;>omega))) only[go_sem,seval,g1,g2,g3,g4,g5,g6,hlen,hg,a1,a2,c0,hf.wf,hvs]
    generalize hM2:hp _ 0 M=M2
    obtain ⟨hW2,hC2⟩:=hWM.set hk hM2
    rw[←h6] at hW2
    exact ⟨k - 1,by omega,_,M2,i+1,by rfl,by simp only[go_sem,seval,g1],by simp only[go_sem,seval,g2],by simp only[go_sem,seval]<;>rfl,by simp only[go_sem,seval,g4],by simp only[go_sem,seval,g5],by simp only[go_sem,seval,g6],by omega,hW2,hC.trans hC2 fun _ h _=>h⟩
   ·have h6:e6 (cs.map (·.1)) e (mine.take (i+1))=0:=by
     rw[e6,if_neg]
     ·exact he0
     ·rintro ⟨_,h⟩
      exact ((htk _).1 h).elim hno hin
    have hfp:fndI (cs.map (·.1)) mine[i]<0:=fnd_lt.2 hin
    generalize fndI (cs.map (·.1)) mine[i]=z at hf hfp
    simp (config:={maxSteps:=1000000}) (disch:=(first|assumption|omega|exact old_n (by omega)|exact old_hp (by assumption)|(simp only[nmL]<;>omega))) only[go_sem,seval,g1,g2,g3,g4,g5,g6,hlen,hg,a1,a2,c0,hf.wf',hvs]
    exact ⟨k - 1,by omega,_,M,i+1,by rfl,by simp only[go_sem,seval,g1],by simp only[go_sem,seval,g2],by simp only[go_sem,seval]<;>rfl,by simp only[go_sem,seval,g4],by simp only[go_sem,seval,g5],by simp only[go_sem,seval,g6],by omega,by rw[h6];exact hWM,hC⟩
  ·have h6:e6 (cs.map (·.1)) e (mine.take i)=e6 (cs.map (·.1)) e mine:=by
    unfold e6 at he ⊢
    by_cases h0:e=0
    ·rw[if_pos,if_pos]
     ·split at he
      ·rename_i q;obtain ⟨_,n,h1,h2⟩:=q;exact ⟨h0,n,List.mem_of_mem_take h1,h2⟩
      ·exact absurd h0 he
     ·split at he
      ·assumption
      ·exact absurd h0 he
    ·rw[if_neg fun h=>h0 h.1,if_neg fun h=>h0 h.1]
   simp (config:={maxSteps:=1000000}) (disch:=(first|assumption|omega|exact old_n (by omega)|exact old_hp (by assumption)|(simp only[nmL]<;>omega))) only[go_sem,seval,g1,g2,g3,hlen,hg,he]
   rw[h6] at hWM
   exact hQ _ _ hWM hC (by simp only[go_sem,seval,g1]) (by simp only[go_sem,seval,g2]) (by simp only[go_sem,seval,g4]) (by simp only[go_sem,seval,g5]) (by simp only[go_sem,seval,g6])
 ·simp (config:={maxSteps:=1000000}) (disch:=(first|assumption|omega|exact old_n (by omega)|exact old_hp (by assumption)|(simp only[nmL]<;>omega))) only[go_sem,seval,g1,g2,g3,hlen,hg]
  rw[List.take_of_length_le (by omega)] at hWM
  exact hQ _ _ hWM hC (by simp only[go_sem,seval,g1]) (by simp only[go_sem,seval,g2]) (by simp only[go_sem,seval,g4]) (by simp only[go_sem,seval,g5]) (by simp only[go_sem,seval,g6])
theorem wk_l1 (h0:∀i,Old m0 i->Old B i) (hk:¬Old m0 ck) (hkB:¬Old B ck) (hvs:sameV 4 vc vc=true) {u vm v s2:NV} {i0:Int} {L mine:List (List Nat)} {e a:Int} {N A:NH} (hW:Wk ck B m0 vc u L e a N) (hm:Own A N vm 1 (Strs mine)) (hd:ck∉ids vm) (hdu:∀i∈ids vm,i∉ids u) (hl:L.length+mine.length<=100000000) {t:Tm}
 (g1:NT.get D4.e t=some (.ptr ck 0)) (g2:NT.get D4.e.a.b t=some vm) (g3:NT.get D4.e.a.f t=some (ii 0)) (g4:NT.get D4.e.a t=some v) (g5:NT.get D4.e.f t=some (ii i0)) (g6:NT.get D4.e.a.a t=some s2) {Q:Out->Dyn->Prop}
 (hQ:∀t' N' u',Wk ck B m0 vc u' (mine.foldl insN L) e a N'->Chg (ck::ids u) N N'->From N u u'->NT.get D4.e t'=some (.ptr ck 0)->NT.get D4.e.a t'=some v->NT.get D4.e.f t'=some (ii i0)->NT.get D4.e.a.a t'=some s2->Q (.exit 4) ⟨puts [] t', [],none,N'⟩):
 W Try.prog S0 none nf52_l1.loop ⟨t, [],none,N⟩ Q:=by
 refine W.loop (fun k d=>∃t M i u',d=⟨t, [],none,M⟩/\NT.get D4.e t=some (.ptr ck 0)/\NT.get D4.e.a.b t=some vm/\NT.get D4.e.a.f t=some (ii (i:Nat))/\NT.get D4.e.a t=some v/\NT.get D4.e.f t=some (ii i0)/\NT.get D4.e.a.a t=some s2/\i+k=mine.length/\Wk ck B m0 vc u' ((mine.take i).foldl insN L) e a M/\Chg (ck::ids u) N M/\From N u u') ?_ mine.length _ ⟨t,N,0,u,rfl,g1,g2,g3,g4,g5,g6,by omega,hW,(Chg.refl N).weak (by simp),From.refl N u⟩
 clear g1 g2 g3 g4 g5 g6
 rintro k d ⟨t,M,i,u',rfl,g1,g2,g3,g4,g5,g6,hik,hWM,hC,hF⟩
 apply wp_sound
 unfold nf52_l1
 change wp _ _ _ _ ⟨puts [] t, [],none,M⟩ _
 have hmM:Own A M vm 1 (Strs mine):=hm.chg hC fun i hi=>by
  rw[List.mem_cons,not_or]
  exact ⟨fun q=>hd (q▸hi),hdu i hi⟩
 have hlen:=hmM.sl.len
 rw[List.length_map] at hlen
 have hg:=hWM.g
 have ho:=hWM.o
 by_cases hi:i<mine.length
 ·obtain ⟨id,off,c,a1,hids,-,a2,a3,a4,a5,-⟩:=hmM.at i (by simpa using hi)
  rw[List.getElem_map] at a5
  have c0:c[off]? =some (.str mine[i]):=cell_at a5 0 (by omega)
  have hus:sameV 4 u' u'=true:=hWM.w.sl.same
  have hfl:=foldN_le (mine.take i) L
  have htl:(mine.take i).length<=mine.length:=by rw[List.length_take];omega
  have htk:(mine.take (i+1)).foldl insN L=insN ((mine.take i).foldl insN L) mine[i]:=by
   rw[List.take_add_one,List.getElem?_eq_getElem hi,Option.toList_some,List.foldl_append];rfl
  simp (config:={maxSteps:=1000000}) (disch:=(first|assumption|omega|exact old_n (by omega)|exact old_hp (by assumption)|(simp only[nmL]<;>omega))) only[go_sem,seval,g1,g2,g3,g4,g5,g6,hlen,hg,a1,a2,c0,hus]
  refine WF.useH (add_r hWM.w hWM.b mine[i] (by omega)) ?_
  rintro v2 M2 ⟨hv2,hC2,hF2⟩
  have g2':=(hC2.get ho hWM.n).trans hg
  have o2':=hC2.old ho
  have hid:id∉ids u':=fun h=>by
   have hmi:id∈ids vm:=by rw[hids];exact List.mem_singleton_self _
   rcases hF id h with q|q
   ·exact hdu id hmi q
   ·exact q (hm.sl.old id hmi)
  have a22:=(hC2.get a3 hid).trans a2
  simp (config:={maxSteps:=1000000}) (disch:=(first|assumption|omega|exact old_n (by omega)|exact old_hp (by assumption)|(simp only[nmL]<;>omega))) only[go_sem,seval,g1,g2,g3,g4,g5,g6,hlen,hg,a1,a22,c0,hus,g2',o2',hv2.sl.one]
  generalize hM3:hp _ 0 M2=M3
  have hC3:Chg [ck] M2 M3:=by rw[←hM3];exact hp_of rfl
  have hn2:ck∉ids v2:=fun h=>(hF2 ck h).elim hWM.n fun q=>q ho
  have hCM:Chg (ck::ids u') M M3:=(hC2.weak (T:=ck::ids u') (by intro i h _;simp[h])).trans hC3 fun i h _=>by simp at h;simp[h]
  refine ⟨k - 1,by omega,_,M3,i+1,v2,by rfl,by simp only[go_sem,seval,g1],by simp only[go_sem,seval,g2],by simp only[go_sem,seval]<;>rfl,by simp only[go_sem,seval,g4],by simp only[go_sem,seval,g5],by simp only[go_sem,seval,g6],by omega, ?_,hC.trans hCM fun i h hi=> ?_,hF.trans hF2 fun i h=>hC.old h⟩
  ·rw[htk]
   refine ⟨?_,hC3.old o2',hv2.chg hC3 fun i hi=>by simp;rintro rfl;exact hn2 hi,hn2, ?_,fun i hi=>hC3.old (hC2.old (hWM.b i hi))⟩
   ·rw[←hM3];exact (h_getO o2').trans h_lookOs
   ·refine hWM.c.trans hCM fun i hi hoi=> ?_
    rcases List.mem_cons.1 hi with e|hi
    ·exact absurd (e▸hoi) hk
    ·exact absurd (h0 i hoi) (hWM.w.new i hi)
  ·rcases List.mem_cons.1 h with rfl|h
   ·simp
   ·exact (hF i h).elim (fun q=>by simp[q]) fun q=>absurd hi q
 ·simp (config:={maxSteps:=1000000}) (disch:=(first|assumption|omega|exact old_n (by omega)|exact old_hp (by assumption)|(simp only[nmL]<;>omega))) only[go_sem,seval,g1,g2,g3,hlen,hg]
  rw[List.take_of_length_le (by omega)] at hWM
  exact hQ _ _ _ hWM hC hF (by simp only[go_sem,seval,g1]) (by simp only[go_sem,seval,g4]) (by simp only[go_sem,seval,g5]) (by simp only[go_sem,seval,g6])
end
end FR
open Go Nm Go.Proofs
namespace FR
set_option linter.unusedSimpArgs false
set_option linter.unusedVariables false
theorem inset_p {m:NH} {oc mo:D4} {Z:List (List Nat)} (hc:m.get oc=some (.cells true [.map mo])) (hm:m.get mo=some (.map (setR Z))) (s:List Nat):Ret Try.prog S0 93 [.str s,.ptr oc 0] m (.bool (decide (s∈Z))) m:=by
 have h:∃r m',Ret Try.prog S0 93 [.str s,.ptr oc 0] m r m'/\r= .bool (decide (s∈Z))/\m'=m:=by
  refine WF.ex fun K hK=> ?_
  refine WF.of_wpG (fun _=>rfl) nf93_eq (L:= [(.a .e,.ptr oc 0),(.e,.str s)]) rfl ?_
  unfold nf93
  simp (config:={maxSteps:=1000000}) (disch:=(first|assumption|omega|exact old_n (by omega)|exact old_hp (by assumption)|(simp only[nmL]<;>omega))) only[go_sem,seval,hc,hm,hp_nil]
  exact hK _ _ ⟨rfl,rfl⟩
 obtain ⟨r,m',h1,rfl,rfl⟩:=h
 exact h1
theorem ixf_p {m:NH} {v:NV} {l:List (List Nat)} {oc mo:D4} {Z:List (List Nat)} (hv:Sl m v 1 (Strs l)) (hc:m.get oc=some (.cells true [.map mo])) (hm:m.get mo=some (.map (setR Z))) (hsz:l.length<=1099511627776):
 ∃r m',Ret Try.prog S0 137 [v,.fn 93 [.ptr oc 0]] m r m'/\(∃z:Int,r=ii z/\(0<=z↔∃n∈l,n∈Z))/\m'=m:=by
 refine WF.ex fun K hK=> ?_
 refine WF.of_wpG (fun _=>rfl) nf137_eq (L:= [(.a .e,.fn 93 [.ptr oc 0]),(.e,v)]) rfl ?_
 unfold nf137
 have hlen:=hv.len
 rw[List.length_map] at hlen
 simp (config:={maxSteps:=1000000}) (disch:=(first|assumption|omega|exact old_n (by omega)|exact old_hp (by assumption)|(simp only[nmL]<;>omega))) only[go_sem,seval,hlen,hp_nil]
 refine W.loop (fun k d=>∃t i,d=⟨t, [],none,m⟩/\NT.get D4.e t=some v/\NT.get D4.e.a t=some (.fn 93 [.ptr oc 0])/\NT.get D4.e.a.c t=some (ii l.length)/\NT.get D4.e.a.f t=some (ii (i:Nat))/\i+k=l.length/\∀j (hj:j<i) (hl:j<l.length),l[j]∉Z) ?_ l.length _ ⟨_,0,rfl,by simp only[go_sem,seval],by simp only[go_sem,seval],by simp only[go_sem,seval],by simp only[go_sem,seval]<;>rfl,by omega,by simp⟩
 rintro k d ⟨t,i,rfl,g1,g2,g3,g4,hik,hn⟩
 apply wp_sound
 unfold nf137_l1
 change wp _ _ _ _ ⟨puts [] t, [],none,m⟩ _
 by_cases hi:i<l.length
 ·obtain ⟨id,off,wr,c,a1,a2,a3,a4,a5⟩:=hv.at i (by simpa using hi)
  rw[List.getElem_map] at a5
  have c0:c[off]? =some (.str l[i]):=cell_at a5 0 (by omega)
  by_cases hin:l[i]∈Z
  ·have hp:=inset_p hc hm l[i]
   rw[decide_eq_true hin] at hp
   simp (config:={maxSteps:=1000000}) (disch:=(first|assumption|omega|exact old_n (by omega)|exact old_hp (by assumption)|(simp only[nmL]<;>omega))) only[go_sem,seval,g1,g2,g3,g4,a1,a2,c0,hp.wf']
   exact hK _ _ ⟨⟨i,rfl,fun _=>⟨l[i],List.getElem_mem hi,hin⟩,fun _=>by omega⟩,rfl⟩
  ·have hp:=inset_p hc hm l[i]
   rw[decide_eq_false hin] at hp
   simp (config:={maxSteps:=1000000}) (disch:=(first|assumption|omega|exact old_n (by omega)|exact old_hp (by assumption)|(simp only[nmL]<;>omega))) only[go_sem,seval,g1,g2,g3,g4,a1,a2,c0,hp.wf']
   refine ⟨k - 1,by omega,_,i+1,by rfl,by simp only[go_sem,seval,g1],by simp only[go_sem,seval,g2],by simp only[go_sem,seval,g3],by simp only[go_sem,seval]<;>rfl,by omega,fun j hj hl=> ?_⟩
   rcases Nat.lt_or_ge j i with q|q
   ·exact hn j q hl
   ·obtain rfl:j=i:=by omega
    exact hin
 ·simp (config:={maxSteps:=1000000}) (disch:=(first|assumption|omega|exact old_n (by omega)|exact old_hp (by assumption)|(simp only[nmL]<;>omega))) only[go_sem,seval,g1,g2,g3,g4]
  refine hK _ _ ⟨⟨-1,rfl,fun h=>by omega,fun ⟨n,h1,h2⟩=> ?_⟩,rfl⟩
  obtain ⟨j,hj,rfl⟩:=List.getElem_of_mem h1
  exact absurd h2 (hn j (by omega) hj)
theorem cof_p {m:NH} {v:NV} {l:List (List Nat)} {oc mo:D4} {Z:List (List Nat)} (hv:Sl m v 1 (Strs l)) (hc:m.get oc=some (.cells true [.map mo])) (hm:m.get mo=some (.map (setR Z))) (hsz:l.length<=1099511627776):
 Ret Try.prog S0 92 [v,.fn 93 [.ptr oc 0]] m (.bool (decide (∃n∈l,n∈Z))) m:=by
 have h:∃r m',Ret Try.prog S0 92 [v,.fn 93 [.ptr oc 0]] m r m'/\r= .bool (decide (∃n∈l,n∈Z))/\m'=m:=by
  refine WF.ex fun K hK=> ?_
  refine WF.of_wpG (fun _=>rfl) nf92_eq (L:= [(.a .e,.fn 93 [.ptr oc 0]),(.e,v)]) rfl ?_
  unfold nf92
  obtain ⟨r,m',hr,⟨z,rfl,hz⟩,rfl⟩:=ixf_p hv hc hm hsz
  simp (config:={maxSteps:=1000000}) (disch:=(first|assumption|omega|exact old_n (by omega)|exact old_hp (by assumption)|(simp only[nmL]<;>omega))) only[go_sem,seval,hp_nil,hr.wf']
  refine hK _ _ ⟨?_,rfl⟩
  simp only[hz]
 obtain ⟨r,m',h1,rfl,rfl⟩:=h
 exact h1
end FR
open Go Nm Go.Proofs
namespace FR
set_option linter.unusedSimpArgs false
set_option linter.unusedVariables false
abbrev BSt:=(List (List Nat)×Nat)×Option (Int×Int)
def Bdf (Z:List (List Nat)) (st:BSt) (x:Stm):BSt×Bool:=
 if (x.k=1∨x.k=2∨x.k=3)/\x.ce∉Z then ((st.1,some (x.a,4)),false)
 else if ∃n∈x.own,n∈Z then ((st.1,some (x.a,6)),false)
 else if 12<(x.own.foldl insN st.1.1).length then (((x.own.foldl insN st.1.1,st.1.2+x.own.length),some (x.a,3)),false)
 else (((x.own.foldl insN st.1.1,st.1.2+x.own.length),none),true)
def BdA (st:BSt) (x:Stm):Prop:=st.2=none/\x.sz<=100000000/\st.1.2+x.own.length<=100000000
def rsA:Option (Int×Int)->Int|some (a,_)=>a|none=>0
def rsE:Option (Int×Int)->Int|some (_,e)=>e|none=>0
def lpN:Option (Int×Int)->Nat|some _=>2|none=>0
def lpJ:Option (Int×Int)->Jump|some _=> .ret|none=> .none
def BdΦ (q o b er:D4) (t:Tm) (M1:NH) (st:BSt) (F:List D4) (N:NH):Prop:=∃u,F=q::o::b::er::ids u/\Chg [q,o,b,er] M1 N/\N.get q=some (.loop (lpN st.2) (lpJ st.2) t [D4.e.b.c] nf49_a1 nf49_r2)/\N.get o=some (.cells true [u])/\N.get b=some (.cells true [ii (rsA st.2)])/\N.get er=some (.cells true [ii (rsE st.2)])/\Own M1 N u 1 (Strs st.1.1)/\st.1.1.length<=st.1.2
structure BdO (q o b er oc mo:D4) (M1:NH):Prop where
 qo:q≠o
 qb:q≠b
 qe:q≠er
 ob:o≠b
 oe:o≠er
 be:b≠er
 oq:Old M1 q
 oo:Old M1 o
 ol:Old M1 b
 om:Old M1 er
 og:Old M1 oc
 od:Old M1 mo
 cc:oc∉ [q,o,b,er]
 cd:mo∉ [q,o,b,er]
theorem bd_mk {q o b er oc mo:D4} {t:Tm} {M1 M M':NH} {u:NV} {L:List (List Nat)} {n:Nat} {r:Option (Int×Int)} (hO:BdO q o b er oc mo M1) (hC:Chg [q,o,b,er] M1 M) (hC':Chg [q,o,b,er] M M') (hq:M'.get q=some (.loop (lpN r) (lpJ r) t [D4.e.b.c] nf49_a1 nf49_r2)) (ho:M'.get o=some (.cells true [u])) (hb:M'.get b=some (.cells true [ii (rsA r)])) (he:M'.get er=some (.cells true [ii (rsE r)])) (hu:Own M1 M u 1 (Strs L)) (hl:L.length<=n):
 BdΦ q o b er t M1 ((L,n),r) (q::o::b::er::ids u) M':=by
 refine ⟨u,rfl,hC.trans hC' fun _ h _=>h,hq,ho,hb,he,hu.chg hC' fun i hi=> ?_,hl⟩
 have hn:=hu.new i hi
 simp only[List.mem_cons,List.not_mem_nil,or_false,not_or]
 exact ⟨fun e=>hn (e▸hO.oq),fun e=>hn (e▸hO.oo),fun e=>hn (e▸hO.ol),fun e=>hn (e▸hO.om)⟩
theorem bd_ylds {m0 M1:NH} {T:D4->Prop} {q o b er oc mo:D4} {t:Tm} {Z:List (List Nat)} (hO:BdO q o b er oc mo M1) (h1:NT.get D4.e.c t=some (.ptr oc 0)) (h2:NT.get D4.e.f t=some (.ptr b 0)) (h3:NT.get D4.e.a.a t=some (.ptr er 0)) (h4:NT.get D4.e.a.b t=some (.ptr o 0)) (hc:M1.get oc=some (.cells true [.map mo])) (hm:M1.get mo=some (.map (setR Z)))
 (h0:∀S,Chg [q,o,b,er] M1 S->Chg [] m0 S):Ylds q m0 T BdA (Bdf Z) (BdΦ q o b er t M1):=by
 refine ⟨?_, ?_, ?_, ?_⟩
 ·rintro s F N ⟨u,rfl,hC,-⟩;exact h0 _ hC
 ·rintro s F N ⟨u,rfl,hC,hq,ho,hb,he,hu,hl⟩ i hi
  simp only[List.mem_cons] at hi
  rcases hi with rfl|rfl|rfl|rfl|hi
  ·exact hC.old hO.oq
  ·exact hC.old hO.oo
  ·exact hC.old hO.ol
  ·exact hC.old hO.om
  ·exact hu.sl.old i hi
 ·rintro s F N N' ⟨u,rfl,hC,hq,ho,hb,he,hu,hl⟩ hC'
  exact ⟨u,rfl,hC.trans hC' (by simp),(hC'.get (hC.old hO.oq) (by simp)).trans hq,(hC'.get (hC.old hO.oo) (by simp)).trans ho,(hC'.get (hC.old hO.ol) (by simp)).trans hb,(hC'.get (hC.old hO.om) (by simp)).trans he,hu.chg hC' fun _ _=>by simp,hl⟩
 ·rintro ⟨⟨L,n⟩,r⟩ F N x c ⟨u,rfl,hC,hq,ho,hb,he,hu,hl⟩ hR ⟨hA0,hA1,hA2⟩
  cases hA0
  have hq:N.get q=some (.loop 0 .none t [D4.e.b.c] nf49_a1 nf49_r2):=hq
  have hb:N.get b=some (.cells true [ii 0]):=hb
  have he:N.get er=some (.cells true [ii 0]):=he
  obtain ⟨w,rfl,hP⟩:=hR.inv'
  refine WY.ex1 fun K hK=> ?_
  refine WY.of_wp hq rfl nf49_a1.eq_1 nf49_r2.eq_1 ?_
  change wp _ _ _ _ ⟨puts [(D4.e.b.c,.agg (x.l w))] t, [],none,hp [] 0 N⟩ _
  have hl21:(x.l w).length=21:=rfl
  have hl21':(x.l w).take 21=x.l w:=rfl
  have oq:=hC.old hO.oq
  have oo:=hC.old hO.oo
  have ob:=hC.old hO.ol
  have oe:=hC.old hO.om
  have qo:=hO.qo
  have qo':=hO.qo.symm
  have qb:=hO.qb
  have qb':=hO.qb.symm
  have qe:=hO.qe
  have qe':=hO.qe.symm
  have obn:=hO.ob
  have obn':=hO.ob.symm
  have oen:=hO.oe
  have oen':=hO.oe.symm
  have ben:=hO.be
  have ben':=hO.be.symm
  have hcN:=(hC.get hO.og hO.cc).trans hc
  have hmN:=(hC.get hO.od hO.cd).trans hm
  have occ:=hC.old hO.og
  have omo:=hC.old hO.od
  simp (config:={maxSteps:=1000000}) (disch:=(first|assumption|omega|exact old_n (by omega)|exact old_hp (by assumption)|(simp only[nmL]<;>omega))) only[go_sem,seval,h1,h2,h3,h4,hq,ho,hl21,hl21']
  generalize hM2:hp _ 1 N=M2
  have hC2:Chg [q] N M2:=by rw[←hM2];exact hp_of rfl
  have hcq:oc≠q:=fun e=>hO.cc (by simp[e])
  have hmq:mo≠q:=fun e=>hO.cd (by simp[e])
  have q2:M2.get q=some (.loop 1 .none t [D4.e.b.c] nf49_a1 nf49_r2):=by rw[←hM2];exact (h_getO oq).trans h_lookOs
  have o2:M2.get o=some (.cells true [u]):=(hC2.get oo (by simpa using qo')).trans ho
  have e2:=(hC2.get oe (by simpa using qe')).trans he
  have b2:=(hC2.get ob (by simpa using qb')).trans hb
  have c2:=(hC2.get occ (by simpa using hcq)).trans hcN
  have d2:=(hC2.get omo (by simpa using hmq)).trans hmN
  have x2:M2.get (na N 0)=some (.cells true (x.l w)):=by rw[←hM2];exact h_getN
  have ox2:Old M2 (na N 0):=by rw[←hM2];exact old_n (by omega)
  have hC02:Chg [] m0 M2:=h0 _ (hC.trans (hC2.weak (T:= [q,o,b,er]) (by simp)) fun _ h _=>h)
  refine WF.use (names_p hR hC02 hA1) ?_
  rintro v3 M3 ⟨hv3,hC3⟩
  have hC23:=hC2.trans hC3 (by simp)
  have q3:=(hC3.get (hC2.old oq) (by simp)).trans q2
  have o3:=(hC3.get (hC2.old oo) (by simp)).trans o2
  have x3:=(hC3.get ox2 (by simp)).trans x2
  have hqu:q∉ids u:=fun h=>hu.new _ h hO.oq
  have hou:o∉ids u:=fun h=>hu.new _ h hO.oo
  have hbu:b∉ids u:=fun h=>hu.new _ h hO.ol
  have heu:er∉ids u:=fun h=>hu.new _ h hO.om
  have hu3:Own M1 M3 u 1 (Strs L):=hu.chg hC23 fun i hi=>by simp;rintro rfl;exact hqu hi
  have hus:sameV 4 u u=true:=hu.sl.same
  have ox3:=hC3.old ox2
  simp (config:={maxSteps:=1000000}) (disch:=(first|assumption|omega|exact old_n (by omega)|exact old_hp (by assumption)|(simp only[nmL]<;>omega))) only[go_sem,seval,h1,h2,h3,h4,q3,o3,x3,hl21,hl21',hus]
  refine WF.use1 (has_w M3 [1,2,3] rfl rfl (by decide)) ?_
  intro M4 hC4
  have t3:(x.l w)[3]? =some (.str x.ce):=rfl
  have t1:(x.l w)[1]? =some (ii x.a):=rfl
  have oq3:=hC3.old (hC2.old oq)
  have q4:=(hC4.get oq3 (by simp)).trans q3
  have oq4:=hC4.old oq3
  have oo3:=hC3.old (hC2.old oo)
  have o4:=(hC4.get oo3 (by simp)).trans o3
  have oo4:=hC4.old oo3
  have hC24:=hC3.trans hC4 (by simp)
  have b4:=(hC24.get (hC2.old ob) (by simp)).trans b2
  have ob4:=hC24.old (hC2.old ob)
  have e4:=(hC24.get (hC2.old oe) (by simp)).trans e2
  have oe4:=hC24.old (hC2.old oe)
  have c4:=(hC24.get (hC2.old occ) (by simp)).trans c2
  have d4:=(hC24.get (hC2.old omo) (by simp)).trans d2
  have x4:=(hC4.get ox3 (by simp)).trans x3
  have ox4:=hC4.old ox3
  have hx1:na N 0≠b:=fun e=>ob.ne 0 e.symm
  have hx2:na N 0≠er:=fun e=>oe.ne 0 e.symm
  have hx3:na N 0≠q:=fun e=>oq.ne 0 e.symm
  have hx4:na N 0≠o:=fun e=>oo.ne 0 e.symm
  have hL:L.length<=n:=hl
  have hA2':n+x.own.length<=100000000:=hA2
  have hu4:Own M1 M4 u 1 (Strs L):=hu3.chg hC4 fun _ _=>by simp
  have hv4:=hv3.chg hC4 fun _ _=>by simp
  have hN4:Chg [q] N M4:=hC23.trans hC4 (by simp)
  have hM14:Chg [q,o,b,er] M1 M4:=hC.trans (hN4.weak (T:= [q,o,b,er]) (by simp)) fun _ h _=>h
  have hxu:na N 0∉ids u:=fun h=>(hu.sl.old _ h).ne 0 rfl
  have stop:∀e:Int,Bdf Z ((L,n),none) x=(((L,n),some (x.a,e)),false)->K (.bool false) (hp [(.o q,.loop 2 .ret t [D4.e.b.c] nf49_a1 nf49_r2),(.o er,.cells true [ii e]),(.o b,.cells true [ii x.a])] 0 M4):=by
   intro e hf
   rw[hf] at hK
   generalize hM5:hp _ 0 M4=M5
   have hC5:Chg [q,er,b] M4 M5:=by rw[←hM5];exact hp_of rfl
   have hC5':Chg [q,o,b,er] M4 M5:=hC5.weak (by simp)
   refine hK M5 ⟨_,bd_mk hO hM14 hC5' ?_ ?_ ?_ ?_ hu4 hl, ?_,fun i hi=>Or.inl hi⟩
   ·rw[←hM5];exact (h_getO oq4).trans h_lookOs
   ·exact (hC5.get oo4 (by simp[qo',oen,obn])).trans o4
   ·rw[←hM5];exact (h_getO ob4).trans ((h_lookOo qb').trans ((h_lookOo ben).trans h_lookOs))
   ·rw[←hM5];exact (h_getO oe4).trans ((h_lookOo qe').trans h_lookOs)
   ·exact (hN4.weak (T:=q::o::b::er::ids u) (by simp)).trans hC5' (fun i h _=>by simp at h ⊢;rcases h with h|h|h|h<;>simp[h])
  by_cases hk:x.k=1∨x.k=2∨x.k=3
  ·rw[decide_eq_true (by simpa using hk:x.k∈ [1,2,3])]
   by_cases hz:x.ce∈Z
   ·have hz':decide (x.ce∈Z)=true:=decide_eq_true hz
    have hnz:¬((x.k=1∨x.k=2∨x.k=3)/\x.ce∉Z):=fun h=>h.2 hz
    by_cases hn:∃n∈x.own,n∈Z
    ·have cof:=cof_p hv4.sl c4 d4 (by omega)
     rw[decide_eq_true hn] at cof
     simp (config:={maxSteps:=1000000}) (disch:=(first|assumption|omega|exact old_n (by omega)|exact old_hp (by assumption)|(simp only[nmL]<;>omega))) only[go_sem,seval,h1,h2,h3,h4,q4,o4,x4,c4,d4,b4,e4,hl21,hl21',hus,t3,t1,hz']
     refine WF.use1H ⟨M4,cof,rfl⟩ ?_
     rintro _ rfl
     simp (config:={maxSteps:=1000000}) (disch:=(first|assumption|omega|exact old_n (by omega)|exact old_hp (by assumption)|(simp only[nmL]<;>omega))) only[go_sem,seval,h1,h2,h3,h4,q4,o4,x4,c4,d4,b4,e4,hl21,hl21',hus,t3,t1]
     exact stop 6 (by unfold Bdf;rw[if_neg hnz,if_pos hn])
    ·have cof:=cof_p hv4.sl c4 d4 (by omega)
     rw[decide_eq_false hn] at cof
     simp (config:={maxSteps:=1000000}) (disch:=(first|assumption|omega|exact old_n (by omega)|exact old_hp (by assumption)|(simp only[nmL]<;>omega))) only[go_sem,seval,h1,h2,h3,h4,q4,o4,x4,c4,d4,b4,e4,hl21,hl21',hus,t3,t1,hz',cof.wf']
     refine WF.use (join_p hu4 hv4.sl (fun i hi hiu=>hv4.new i hi (hC2.old (hu.sl.old i hiu))) (fun i hi=>hC4.old (hC3.old (hC2.old (hC.old hi)))) (by show L.length+x.own.length<=_;omega)) ?_
     rintro v5 M5 ⟨hv5,hC5,hF5⟩
     have hq5:=(hC5.get oq4 hqu).trans q4
     have hoq5:=hC5.old oq4
     have ho5:=(hC5.get oo4 hou).trans o4
     have hoo5:=hC5.old oo4
     have hb5:=(hC5.get ob4 hbu).trans b4
     have hob5:=hC5.old ob4
     have he5:=(hC5.get oe4 heu).trans e4
     have hoe5:=hC5.old oe4
     have hx5:=(hC5.get ox4 hxu).trans x4
     have hox5:=hC5.old ox4
     have hlen5:=hv5.sl.len
     rw[List.length_map] at hlen5
     have hfl:=foldN_le x.own L
     rw[←hp_nil M5]
     have hM15:Chg [q,o,b,er] M1 M5:=hM14.trans hC5 fun i hi ho=>absurd ho (hu.new i hi)
     have hN5:Chg (q::o::b::er::ids u) N M5:=(hN4.weak (T:=q::o::b::er::ids u) (by simp)).trans hC5 fun i h _=>by simp[h]
     have hF:∀i∈q::o::b::er::ids v5,i∈q::o::b::er::ids u∨¬Old N i:=by
      intro i hi
      simp only[List.mem_cons] at hi ⊢
      rcases hi with rfl|rfl|rfl|rfl|hi
      ·simp
      ·simp
      ·simp
      ·simp
      ·rcases hF5 i hi with h|h
       ·exact Or.inl (Or.inr (Or.inr (Or.inr (Or.inr h))))
       ·exact Or.inr fun ho=>h (hN4.old ho)
     by_cases h12:12<(x.own.foldl insN L).length
     ·have hf:Bdf Z ((L,n),none) x=(((x.own.foldl insN L,n+x.own.length),some (x.a,3)),false):=by unfold Bdf;rw[if_neg hnz,if_neg hn,if_pos h12]
      rw[hf] at hK
      simp (config:={maxSteps:=1000000}) (disch:=(first|assumption|omega|exact old_n (by omega)|exact old_hp (by assumption)|(simp only[nmL]<;>omega))) only[go_sem,seval,h1,h2,h3,h4,hq5,ho5,hx5,hb5,he5,hl21,hl21',t1,hv5.sl.one,hlen5,h12]
      generalize hM6:hp _ 0 M5=M6
      have hC6:Chg [q,er,b,o] M5 M6:=by rw[←hM6];exact hp_of rfl
      have hC6':Chg [q,o,b,er] M5 M6:=hC6.weak (by simp)
      refine hK M6 ⟨_,bd_mk hO hM15 hC6' ?_ ?_ ?_ ?_ hv5 (by show _<=n+_;have:L.length<=n:=hl;omega),hN5.trans hC6' (fun i h _=>by simp at h ⊢;rcases h with h|h|h|h<;>simp[h]),hF⟩
      ·rw[←hM6];exact (h_getO hoq5).trans h_lookOs
      ·rw[←hM6];exact (h_getO hoo5).trans ((h_lookOo qo').trans ((h_lookOo oen).trans ((h_lookOo obn).trans h_lookOs)))
      ·rw[←hM6];exact (h_getO hob5).trans ((h_lookOo qb').trans ((h_lookOo ben).trans h_lookOs))
      ·rw[←hM6];exact (h_getO hoe5).trans ((h_lookOo qe').trans h_lookOs)
     ·have hf:Bdf Z ((L,n),none) x=(((x.own.foldl insN L,n+x.own.length),none),true):=by unfold Bdf;rw[if_neg hnz,if_neg hn,if_neg h12]
      rw[hf] at hK
      simp (config:={maxSteps:=1000000}) (disch:=(first|assumption|omega|exact old_n (by omega)|exact old_hp (by assumption)|(simp only[nmL]<;>omega))) only[go_sem,seval,h1,h2,h3,h4,hq5,ho5,hx5,hb5,he5,hl21,hl21',t1,hv5.sl.one,hlen5,h12]
      generalize hM6:hp _ 0 M5=M6
      have hC6:Chg [q,o] M5 M6:=by rw[←hM6];exact hp_of rfl
      have hC6':Chg [q,o,b,er] M5 M6:=hC6.weak (by simp)
      refine hK M6 ⟨_,bd_mk hO hM15 hC6' ?_ ?_ ?_ ?_ hv5 (by show _<=n+_;have:L.length<=n:=hl;omega),hN5.trans hC6' (fun i h _=>by simp at h ⊢;rcases h with h|h|h|h<;>simp[h]),hF⟩
      ·rw[←hM6];exact (h_getO hoq5).trans h_lookOs
      ·rw[←hM6];exact (h_getO hoo5).trans ((h_lookOo qo').trans h_lookOs)
      ·exact (hC6.get hob5 (by simp[qb',obn'])).trans hb5
      ·exact (hC6.get hoe5 (by simp[qe',oen'])).trans he5
   ·have hz':decide (x.ce∈Z)=false:=decide_eq_false hz
    rw[←hp_nil M4]
    simp (config:={maxSteps:=1000000}) (disch:=(first|assumption|omega|exact old_n (by omega)|exact old_hp (by assumption)|(simp only[nmL]<;>omega))) only[go_sem,seval,h1,h2,h3,h4,q4,o4,x4,c4,d4,b4,e4,hl21,hl21',hus,t3,t1,hz']
    exact stop 4 (by unfold Bdf;rw[if_pos ⟨hk,hz⟩])
  ·rw[decide_eq_false (by simpa using hk:x.k∉ [1,2,3])]
   have hnz:¬((x.k=1∨x.k=2∨x.k=3)/\x.ce∉Z):=fun h=>hk h.1
   by_cases hn:∃n∈x.own,n∈Z
   ·have cof:=cof_p hv4.sl c4 d4 (by omega)
    rw[decide_eq_true hn] at cof
    simp (config:={maxSteps:=1000000}) (disch:=(first|assumption|omega|exact old_n (by omega)|exact old_hp (by assumption)|(simp only[nmL]<;>omega))) only[go_sem,seval,h1,h2,h3,h4,q4,o4,x4,c4,d4,b4,e4,hl21,hl21',hus,t3,t1]
    refine WF.use1H ⟨M4,cof,rfl⟩ ?_
    rintro _ rfl
    simp (config:={maxSteps:=1000000}) (disch:=(first|assumption|omega|exact old_n (by omega)|exact old_hp (by assumption)|(simp only[nmL]<;>omega))) only[go_sem,seval,h1,h2,h3,h4,q4,o4,x4,c4,d4,b4,e4,hl21,hl21',hus,t3,t1]
    exact stop 6 (by unfold Bdf;rw[if_neg hnz,if_pos hn])
   ·have cof:=cof_p hv4.sl c4 d4 (by omega)
    rw[decide_eq_false hn] at cof
    simp (config:={maxSteps:=1000000}) (disch:=(first|assumption|omega|exact old_n (by omega)|exact old_hp (by assumption)|(simp only[nmL]<;>omega))) only[go_sem,seval,h1,h2,h3,h4,q4,o4,x4,c4,d4,b4,e4,hl21,hl21',hus,t3,t1,cof.wf']
    refine WF.use (join_p hu4 hv4.sl (fun i hi hiu=>hv4.new i hi (hC2.old (hu.sl.old i hiu))) (fun i hi=>hC4.old (hC3.old (hC2.old (hC.old hi)))) (by show L.length+x.own.length<=_;omega)) ?_
    rintro v5 M5 ⟨hv5,hC5,hF5⟩
    have hq5:=(hC5.get oq4 hqu).trans q4
    have hoq5:=hC5.old oq4
    have ho5:=(hC5.get oo4 hou).trans o4
    have hoo5:=hC5.old oo4
    have hb5:=(hC5.get ob4 hbu).trans b4
    have hob5:=hC5.old ob4
    have he5:=(hC5.get oe4 heu).trans e4
    have hoe5:=hC5.old oe4
    have hx5:=(hC5.get ox4 hxu).trans x4
    have hox5:=hC5.old ox4
    have hlen5:=hv5.sl.len
    rw[List.length_map] at hlen5
    have hfl:=foldN_le x.own L
    rw[←hp_nil M5]
    have hM15:Chg [q,o,b,er] M1 M5:=hM14.trans hC5 fun i hi ho=>absurd ho (hu.new i hi)
    have hN5:Chg (q::o::b::er::ids u) N M5:=(hN4.weak (T:=q::o::b::er::ids u) (by simp)).trans hC5 fun i h _=>by simp[h]
    have hF:∀i∈q::o::b::er::ids v5,i∈q::o::b::er::ids u∨¬Old N i:=by
     intro i hi
     simp only[List.mem_cons] at hi ⊢
     rcases hi with rfl|rfl|rfl|rfl|hi
     ·simp
     ·simp
     ·simp
     ·simp
     ·rcases hF5 i hi with h|h
      ·exact Or.inl (Or.inr (Or.inr (Or.inr (Or.inr h))))
      ·exact Or.inr fun ho=>h (hN4.old ho)
    by_cases h12:12<(x.own.foldl insN L).length
    ·have hf:Bdf Z ((L,n),none) x=(((x.own.foldl insN L,n+x.own.length),some (x.a,3)),false):=by unfold Bdf;rw[if_neg hnz,if_neg hn,if_pos h12]
     rw[hf] at hK
     simp (config:={maxSteps:=1000000}) (disch:=(first|assumption|omega|exact old_n (by omega)|exact old_hp (by assumption)|(simp only[nmL]<;>omega))) only[go_sem,seval,h1,h2,h3,h4,hq5,ho5,hx5,hb5,he5,hl21,hl21',t1,hv5.sl.one,hlen5,h12]
     generalize hM6:hp _ 0 M5=M6
     have hC6:Chg [q,er,b,o] M5 M6:=by rw[←hM6];exact hp_of rfl
     have hC6':Chg [q,o,b,er] M5 M6:=hC6.weak (by simp)
     refine hK M6 ⟨_,bd_mk hO hM15 hC6' ?_ ?_ ?_ ?_ hv5 (by show _<=n+_;have:L.length<=n:=hl;omega),hN5.trans hC6' (fun i h _=>by simp at h ⊢;rcases h with h|h|h|h<;>simp[h]),hF⟩
     ·rw[←hM6];exact (h_getO hoq5).trans h_lookOs
     ·rw[←hM6];exact (h_getO hoo5).trans ((h_lookOo qo').trans ((h_lookOo oen).trans ((h_lookOo obn).trans h_lookOs)))
     ·rw[←hM6];exact (h_getO hob5).trans ((h_lookOo qb').trans ((h_lookOo ben).trans h_lookOs))
     ·rw[←hM6];exact (h_getO hoe5).trans ((h_lookOo qe').trans h_lookOs)
    ·have hf:Bdf Z ((L,n),none) x=(((x.own.foldl insN L,n+x.own.length),none),true):=by unfold Bdf;rw[if_neg hnz,if_neg hn,if_neg h12]
     rw[hf] at hK
     simp (config:={maxSteps:=1000000}) (disch:=(first|assumption|omega|exact old_n (by omega)|exact old_hp (by assumption)|(simp only[nmL]<;>omega))) only[go_sem,seval,h1,h2,h3,h4,hq5,ho5,hx5,hb5,he5,hl21,hl21',t1,hv5.sl.one,hlen5,h12]
     generalize hM6:hp _ 0 M5=M6
     have hC6:Chg [q,o] M5 M6:=by rw[←hM6];exact hp_of rfl
     have hC6':Chg [q,o,b,er] M5 M6:=hC6.weak (by simp)
     refine hK M6 ⟨_,bd_mk hO hM15 hC6' ?_ ?_ ?_ ?_ hv5 (by show _<=n+_;have:L.length<=n:=hl;omega),hN5.trans hC6' (fun i h _=>by simp at h ⊢;rcases h with h|h|h|h<;>simp[h]),hF⟩
     ·rw[←hM6];exact (h_getO hoq5).trans h_lookOs
     ·rw[←hM6];exact (h_getO hoo5).trans ((h_lookOo qo').trans h_lookOs)
     ·exact (hC6.get hob5 (by simp[qb',obn'])).trans hb5
     ·exact (hC6.get hoe5 (by simp[qe',oen'])).trans he5
end FR
open Go Nm Go.Proofs
namespace FR
set_option linter.unusedSimpArgs false
set_option linter.unusedVariables false
theorem cutB {P:Program} {S:Nat->List NV->Option NV} {r:Option D4} {A B C:NC} {n:Nat} {d:Dyn} {Q:Out->Dyn->Prop} (Φ:Dyn->Prop) (h1:∀R:Dyn->Prop,(∀d',Φ d'->R d')->wp P S r A d (onNorm R Q)) (h2:∀d',Φ d'->wp P S r B d' (onExit n (onNorm (wpK P S r C Q) Q))):wp P S r (.seq A (.seq (.block n B) C)) d Q:=h1 _ h2
abbrev WSt:=(List (List Nat)×Nat)×Option (Int×Int)
def errR (Z L:List (List Nat)) (x:Stm):Int:=if e6 Z (if (x.k=1∨x.k=2∨x.k=3)/\x.ce∉Z then 4 else 0) x.own=0/\12<L.length then 3 else e6 Z (if (x.k=1∨x.k=2∨x.k=3)/\x.ce∉Z then 4 else 0) x.own
def rsO (a e:Int):Option (Int×Int):=if e=0 then none else some (a,e)
def Rdf (Z:List (List Nat)) (st:WSt) (x:Stm):WSt×Bool:=
 (((x.own.foldl insN st.1.1,st.1.2+x.own.length),rsO x.a (errR Z (x.own.foldl insN st.1.1) x)),decide (errR Z (x.own.foldl insN st.1.1) x=0))
def wlkF (Z:List (List Nat)) (l:List Stm) (st:WSt):WSt:=if st.2=none then (foldS (Rdf Z) (allL l) st).1 else st
theorem rsO_none {a e:Int}:rsO a e=none↔e=0:=by unfold rsO;split<;>simp_all
theorem fold_none {Z:List (List Nat)} (l:List Stm):∀st:WSt,st.2=none->((foldS (Rdf Z) l st).2=true↔(foldS (Rdf Z) l st).1.2=none):=by
 induction l with
 |nil=>intro st h;simp[foldS,h]
 |cons x l ih=>
  intro st h
  rw[foldS]
  by_cases he:errR Z (x.own.foldl insN st.1.1) x=0
  ·have h2:(Rdf Z st x).2=true:=decide_eq_true he
   rw[if_pos h2]
   exact ih _ (rsO_none.2 he)
  ·have h2:(Rdf Z st x).2=false:=decide_eq_false he
   rw[h2,if_neg (by simp),h2]
   simp only[Bool.false_eq_true,false_iff]
   exact fun q=>he (rsO_none.1 q)
theorem wlk_app {Z:List (List Nat)} (a b:List Stm) (st:WSt) (f:List Stm->WSt->WSt) (hf:∀l st,f l st=if st.2=none then (foldS (Rdf Z) l st).1 else st):f (a++b) st=f b (f a st):=by
 by_cases h:st.2=none
 ·rw[hf (a++b),if_pos h,foldS_append,hf a,if_pos h]
  by_cases h2:(foldS (Rdf Z) a st).1.2=none
  ·rw[if_pos ((fold_none a st h).2 h2),hf b,if_pos h2]
  ·rw[if_neg fun q=>h2 ((fold_none a st h).1 q),hf b,if_neg h2]
 ·rw[hf (a++b),if_neg h,hf a,if_neg h,hf b,if_neg h]
def wlkA (Z:List (List Nat)) (l:List Stm) (st:WSt):WSt:=if st.2=none then (foldS (Rdf Z) l st).1 else st
theorem wlkF_eq {Z:List (List Nat)} {l:List Stm} {st:WSt}:wlkF Z l st=wlkA Z (allL l) st:=rfl
theorem wlkA_app {Z:List (List Nat)} (a b:List Stm) (st:WSt):wlkA Z (a++b) st=wlkA Z b (wlkA Z a st):=wlk_app a b st (wlkA Z) fun _ _=>rfl
theorem wlkF_cons {Z:List (List Nat)} (x:Stm) (l:List Stm) (st:WSt):wlkF Z (x::l) st=wlkF Z l (wlkA Z x.all st):=by rw[wlkF_eq,allL,wlkA_app];rfl
theorem wlkA_some {Z:List (List Nat)} {l:List Stm} {st:WSt} (h:st.2≠none):wlkA Z l st=st:=if_neg h
theorem wlkA_all {Z:List (List Nat)} {x:Stm} {st:WSt} (h:st.2=none):wlkA Z x.all st=wlkF Z (if x.k=6 then x.e else []) (wlkF Z (if x.k=6∨x.k=7 then x.b else []) (Rdf Z st x).1):=by
 have e1:wlkA Z [x] st=(Rdf Z st x).1:=by
  unfold wlkA;rw[if_pos h,foldS]
  split<;>rfl
 rw[all_eq,show x::((if x.k=6∨x.k=7 then allL x.b else [])++(if x.k=6 then allL x.e else []))= [x]++((if x.k=6∨x.k=7 then allL x.b else [])++(if x.k=6 then allL x.e else [])) from rfl,wlkA_app,wlkA_app,e1,wlkF_eq,wlkF_eq]
 have e2:∀(p:Prop) [Decidable p] (l:List Stm),allL (if p then l else [])=if p then allL l else []:=by intro p _ l;split<;>rfl
 rw[e2,e2]
theorem wlk_n {Z:List (List Nat)} (l:List Stm):∀st:WSt,(wlkA Z l st).1.2<=st.1.2+(l.flatMap Stm.own).length/\((wlkA Z l st).2≠none->st.2=none->rsE (wlkA Z l st).2≠0)/\(st.1.1.length<=st.1.2->(wlkA Z l st).1.1.length<=(wlkA Z l st).1.2):=by
 induction l with
 |nil=>
  intro st
  have e:wlkA Z [] st=st:=by unfold wlkA;split<;>rfl
  rw[e]
  exact ⟨by simp,fun q r=>absurd r q,fun q=>q⟩
 |cons x l ih=>
  intro st
  by_cases h:st.2=none
  ·have e:wlkA Z (x::l) st=wlkA Z l (Rdf Z st x).1:=by
    have:=wlkA_app (Z:=Z) [x] l st
    rw[List.singleton_append] at this
    rw[this]
    congr 1
    unfold wlkA;rw[if_pos h,foldS]
    split<;>rfl
   obtain ⟨h1,h2,h3⟩:=ih (Rdf Z st x).1
   rw[e,List.flatMap_cons,List.length_append]
   have hn:(Rdf Z st x).1.1.2=st.1.2+x.own.length:=rfl
   have hl:(Rdf Z st x).1.1.1=x.own.foldl insN st.1.1:=rfl
   have hfl:=foldN_le x.own st.1.1
   refine ⟨by omega,fun q _=> ?_,fun q=>h3 (by rw[hn,hl];omega)⟩
   by_cases h4:(Rdf Z st x).1.2=none
   ·exact h2 q h4
   ·rw[wlkA_some h4]
    have:(Rdf Z st x).1.2=rsO x.a (errR Z (x.own.foldl insN st.1.1) x):=rfl
    rw[this] at h4 ⊢
    unfold rsO at h4 ⊢
    split
    ·rename_i q;rw[if_pos q] at h4;exact absurd rfl h4
    ·assumption
  ·rw[wlkA_some h]
   exact ⟨by omega,fun _ q=>absurd q h,fun q=>q⟩
end FR
open Go Nm Go.Proofs
namespace FR
set_option linter.unusedSimpArgs false
set_option linter.unusedVariables false
section
variable {ck:D4} {B m0:NH} {vc:NV} {cs:List (List Nat×Int)} {T:D4->Prop}
def WalkP (ck:D4) (B m0:NH) (vc:NV) (cs:List (List Nat×Int)) (T:D4->Prop) (l:List Stm):Prop:=
 ∀{v:NV} {C:List (List NV)} {N:NH} {u:NV} {st:WSt},SS m0 T v l C->Wk ck B m0 vc u st.1.1 (rsE st.2) (rsA st.2) N->(st.2≠none->rsE st.2≠0)->st.1.1.length<=st.1.2->st.1.2+((allL l).flatMap Stm.own).length<=100000000->szB l<=100000000->
  ∃N',Ret Try.prog S0 52 [.ptr ck 0,v] N (.tup []) N'/\∃u',Wk ck B m0 vc u' (wlkF (cs.map (·.1)) l st).1.1 (rsE (wlkF (cs.map (·.1)) l st).2) (rsA (wlkF (cs.map (·.1)) l st).2) N'/\Chg (ck::ids u) N N'/\From N u u'
theorem fold_ded (M:List (List Nat)):∀(acc L:List (List Nat)),(M.foldl insN acc).foldl insN L=M.foldl insN (acc.foldl insN L):=by
 induction M with
 |nil=>intro acc L;rfl
 |cons s M ih=>
  intro acc L
  rw[List.foldl_cons,ih,List.foldl_cons]
  congr 1
  by_cases h:s∈acc
  ·rw[show insN acc s=acc from if_pos h,show insN (acc.foldl insN L) s=acc.foldl insN L from if_pos ((mem_foldN acc L).2 (Or.inr h))]
  ·rw[show insN acc s=acc++ [s] from if_neg h,List.foldl_append];rfl
theorem e6_ded {Z:List (List Nat)} {e:Int} (M:List (List Nat)):e6 Z e (M.foldl insN [])=e6 Z e M:=by
 have:(∃n∈M.foldl insN [],n∈Z)↔∃n∈M,n∈Z:=by simp[mem_foldN]
 unfold e6
 simp only[this]
theorem own_all (x:Stm):x.own.length<=(x.all.flatMap Stm.own).length:=by
 rw[all_eq,List.flatMap_cons,List.length_append];omega
theorem wk_round (hcs:Sl m0 vc 2 (Cls cs)) (hcl:cs.length<=1000000) (h0:∀i,Old m0 i->Old B i) (hk:¬Old m0 ck) (hkB:¬Old B ck)
 {x:Stm} {w:SV} (hR:RS m0 T x (x.l w)) (hP:SP m0 T x w) (hb:WalkP ck B m0 vc cs T x.b) (he:WalkP ck B m0 vc cs T x.e) {L:List (List Nat)} {n:Nat} (hln:L.length<=n) (hbud:n+(x.all.flatMap Stm.own).length<=100000000) (hsz:x.sz<=100000000)
 {v u:NV} {N:NH} (hW:Wk ck B m0 vc u L 0 0 N) {i ln:Nat} {id:D4} {off:Nat} {wr:Bool} {C:List NV} (hi:i<ln) (hlv:lenV v= .val (ii ln)) (hlm:ln<=1000000000) (a1:idxV 21 v (ii i)= .val (.ptr id off)) (a2:N.get id=some (.cells wr C)) (a3:Old N id) (a4:off+21<=C.length) (a5:(C.drop off).take 21=x.l w) {t:Tm}
 (g1:NT.get D4.e t=some (.ptr ck 0)) (g2:NT.get D4.e.a t=some v) (g3:NT.get D4.e.f t=some (ii i)) {Q:Out->Dyn->Prop}
 (hN:∀t' N' u',Wk ck B m0 vc u' (wlkA (cs.map (·.1)) x.all ((L,n),none)).1.1 (rsE (wlkA (cs.map (·.1)) x.all ((L,n),none)).2) (rsA (wlkA (cs.map (·.1)) x.all ((L,n),none)).2) N'->Chg (ck::ids u) N N'->From N u u'->NT.get D4.e t'=some (.ptr ck 0)->NT.get D4.e.a t'=some v->NT.get D4.e.f t'=some (ii (i+1:Nat))->Q .norm ⟨t', [],none,N'⟩)
 (hF:(wlkA (cs.map (·.1)) x.all ((L,n),none)).2≠none->∀t' N' u',Wk ck B m0 vc u' (wlkA (cs.map (·.1)) x.all ((L,n),none)).1.1 (rsE (wlkA (cs.map (·.1)) x.all ((L,n),none)).2) (rsA (wlkA (cs.map (·.1)) x.all ((L,n),none)).2) N'->Chg (ck::ids u) N N'->From N u u'->Q .ret ⟨puts [] t', [],none,N'⟩):
 wp Try.prog S0 none nf52_l3 ⟨puts [] t, [],none,N⟩ Q:=by
 unfold nf52_l3
 have hl21:(x.l w).length=21:=rfl
 have hl21':(x.l w).take 21=x.l w:=rfl
 have hg:=hW.g
 have ho:=hW.o
 have hvs:sameV 4 vc vc=true:=hcs.same
 refine cutB (fun d=>∃t',d=⟨t', [],none,N⟩/\NT.get D4.e t'=some (.ptr ck 0)/\NT.get D4.e.a t'=some v/\NT.get D4.e.f t'=some (ii i)) (fun R hR'=> ?_) ?_
 ·simp (config:={maxSteps:=1000000}) (disch:=(first|assumption|omega|exact old_n (by omega)|exact old_hp (by assumption)|(simp only[nmL]<;>omega))) only[go_sem,seval,g1,g2,g3,hlv,hg]
  exact hR' _ ⟨_,rfl,by simp only[go_sem,seval,g1],by simp only[go_sem,seval,g2],by simp only[go_sem,seval,g3]⟩
 clear g1 g2 g3
 rintro d ⟨t,rfl,g1,g2,g3⟩
 change wp _ _ _ _ ⟨puts [] t, [],none,N⟩ _
 let Ky:D4->Tm->Prop:=fun b1 t=>NT.get D4.e t=some (.ptr ck 0)/\NT.get D4.e.a t=some v/\NT.get D4.e.f t=some (ii i)/\NT.get D4.e.a.a t=some (.ptr b1 0)
 refine cutK (fun d=>∃t N1 b1,d=⟨t, [],none,N1⟩/\Ky b1 t/\Chg [] N N1/\¬Old N b1/\Old N1 b1/\N1.get b1=some (.cells true (x.l w))) (fun R hR'=> ?_) ?_
 ·rw[←hp_nil N]
  simp (config:={maxSteps:=1000000}) (disch:=(first|assumption|omega|exact old_n (by omega)|exact old_hp (by assumption)|(simp only[nmL]<;>omega))) only[go_sem,seval,g1,g2,g3,a1,a2,a5,hl21,hl21']
  generalize hM1:hp _ 1 N=N1
  have hC1:Chg [] N N1:=by rw[←hM1];exact hp_of rfl
  exact hR' _ ⟨_,N1,na N 0,rfl,⟨by simp only[go_sem,seval,g1],by simp only[go_sem,seval,g2],by simp only[go_sem,seval,g3],by simp only[go_sem,seval]⟩,hC1,na_old,by rw[←hM1];exact old_n (by omega),by rw[←hM1];exact h_getN⟩
 clear g1 g2 g3
 rintro d ⟨t,N1,b1,rfl,⟨g1,g2,g3,g4⟩,hC1,hb1,ob1,gb1⟩
 change wp _ _ _ _ ⟨puts [] t, [],none,N1⟩ _
 have hW1:=hW.grow hC1
 have hbck:b1≠ck:=fun e=>hb1 (e▸ho)
 have hbck':=hbck.symm
 have hbu:b1∉ids u:=fun h=>hb1 (hW.w.sl.old _ h)
 have t0:(x.l w)[0]? =some (ii x.k):=rfl
 have t1:(x.l w)[1]? =some (ii x.a):=rfl
 have t3:(x.l w)[3]? =some (.str x.ce):=rfl
 have hg1:=hW1.g
 have ho1:=hW1.o
 generalize he1:(if (x.k=1∨x.k=2∨x.k=3)/\x.ce∉cs.map (·.1) then (4:Int) else 0)=e1
 refine cutK (fun d=>∃t N2,d=⟨t, [],none,N2⟩/\Ky b1 t/\Wk ck B m0 vc u L e1 0 N2/\Chg [ck] N1 N2) (fun R hR'=> ?_) ?_
 ·have hce:=celled_r N1 x.k
  have hf:=find_r (hcs.chg hW1.c fun _ _=>by simp) hcl x.ce
  by_cases hk1:x.k=1∨x.k=2∨x.k=3
  ·rw[decide_eq_true hk1] at hce
   by_cases hz:x.ce∈cs.map (·.1)
   ·rw[if_neg fun q=>q.2 hz] at he1
    subst he1
    have hfp:0<=fndI (cs.map (·.1)) x.ce:=fndI_mem.2 hz
    generalize fndI (cs.map (·.1)) x.ce=z at hf hfp
    simp (config:={maxSteps:=1000000}) (disch:=(first|assumption|omega|exact old_n (by omega)|exact old_hp (by assumption)|(simp only[nmL]<;>omega))) only[go_sem,seval,g1,g2,g3,g4,gb1,t0,t1,t3,hg1,hvs,hce.wf',hf.wf']
    exact hR' _ ⟨_,N1,rfl,⟨by simp only[go_sem,seval,g1],by simp only[go_sem,seval,g2],by simp only[go_sem,seval,g3],by simp only[go_sem,seval,g4]⟩,hW1,(Chg.refl N1).weak (by simp)⟩
   ·rw[if_pos ⟨hk1,hz⟩] at he1
    subst he1
    have hfp:fndI (cs.map (·.1)) x.ce<0:=fnd_lt.2 hz
    generalize fndI (cs.map (·.1)) x.ce=z at hf hfp
    simp (config:={maxSteps:=1000000}) (disch:=(first|assumption|omega|exact old_n (by omega)|exact old_hp (by assumption)|(simp only[nmL]<;>omega))) only[go_sem,seval,g1,g2,g3,g4,gb1,t0,t1,t3,hg1,hvs,hce.wf',hf.wf]
    generalize hM2:hp _ 0 N1=N2
    obtain ⟨hW2,hC2⟩:=hW1.set hk hM2
    exact hR' _ ⟨_,N2,rfl,⟨by simp only[go_sem,seval,g1],by simp only[go_sem,seval,g2],by simp only[go_sem,seval,g3],by simp only[go_sem,seval,g4]⟩,hW2,hC2⟩
  ·rw[decide_eq_false hk1] at hce
   rw[if_neg fun q=>hk1 q.1] at he1
   subst he1
   simp (config:={maxSteps:=1000000}) (disch:=(first|assumption|omega|exact old_n (by omega)|exact old_hp (by assumption)|(simp only[nmL]<;>omega))) only[go_sem,seval,g1,g2,g3,g4,gb1,t0,t1,t3,hg1,hvs,hce.wf']
   exact hR' _ ⟨_,N1,rfl,⟨by simp only[go_sem,seval,g1],by simp only[go_sem,seval,g2],by simp only[go_sem,seval,g3],by simp only[go_sem,seval,g4]⟩,hW1,(Chg.refl N1).weak (by simp)⟩
 clear g1 g2 g3 g4 hg1 ho1
 rintro d ⟨t,N2,rfl,⟨g1,g2,g3,g4⟩,hW2,hC2⟩
 change wp _ _ _ _ ⟨puts [] t, [],none,N2⟩ _
 have gb2:=(hC2.get ob1 (by simpa using hbck)).trans gb1
 have ob2:=hC2.old ob1
 have hg2:=hW2.g
 refine cutK (fun d=>∃t N3 vm,d=⟨t, [],none,N3⟩/\Ky b1 t/\NT.get D4.e.a.b t=some vm/\Own N2 N3 vm 1 (Strs (x.own.foldl insN []))/\Chg [] N2 N3) (fun R hR'=> ?_) ?_
 ·simp (config:={maxSteps:=1000000}) (disch:=(first|assumption|omega|exact old_n (by omega)|exact old_hp (by assumption)|(simp only[nmL]<;>omega))) only[go_sem,seval,g1,g2,g3,g4,gb2,hl21,hl21']
  refine WF.use (own_r hR (B:=N2) (m:=N2) (v:= .nils) (l:= []) hW2.c Own.nil (fun i hi=>hW2.c.old hi) (fun _ h=>h) (by simp;omega)) ?_
  rintro vm N3 ⟨hvm,hC3,-⟩
  have hC3':Chg [] N2 N3:=hC3.weak (by simp[ids])
  simp (config:={maxSteps:=1000000}) (disch:=(first|assumption|omega|exact old_n (by omega)|exact old_hp (by assumption)|(simp only[nmL]<;>omega))) only[go_sem,seval,g1,g2,g3,g4]
  exact hR' _ ⟨_,N3,vm,rfl,⟨by simp only[go_sem,seval,g1],by simp only[go_sem,seval,g2],by simp only[go_sem,seval,g3],by simp only[go_sem,seval,g4]⟩,by simp only[go_sem,seval],hvm,hC3'⟩
 clear g1 g2 g3 g4
 rintro d ⟨t,N3,vm,rfl,⟨g1,g2,g3,g4⟩,g5,hvm,hC3⟩
 change wp _ _ _ _ ⟨puts [] t, [],none,N3⟩ _
 have gb3:=(hC3.get ob2 (by simp)).trans gb2
 have ob3:=hC3.old ob2
 have hW3:=hW2.grow hC3
 have hdck:ck∉ids vm:=fun h=>hvm.new _ h hW2.o
 have hol:=own_all x
 have hdl:=foldN_le x.own []
 rw[List.length_nil] at hdl
 generalize he2:e6 (cs.map (·.1)) e1 x.own=e2
 refine cutK (fun d=>∃t N4,d=⟨t, [],none,N4⟩/\Ky b1 t/\NT.get D4.e.a.b t=some vm/\Wk ck B m0 vc u L e2 0 N4/\Chg [ck] N3 N4) (fun R hR'=> ?_) ?_
 ·simp (config:={maxSteps:=1000000}) (disch:=(first|assumption|omega|exact old_n (by omega)|exact old_hp (by assumption)|(simp only[nmL]<;>omega))) only[go_sem,seval,g1,g2,g3,g4,g5]
  refine wk_l2 hcs hcl hk hW3 hvm.sl hdck (by omega) (v:=v) (s2:= .ptr b1 0) (i0:=i) (by simp only[go_sem,seval,g1]) (by simp only[go_sem,seval,g5]) (by simp only[go_sem,seval]) (by simp only[go_sem,seval,g2]) (by simp only[go_sem,seval,g3]) (by simp only[go_sem,seval,g4]) ?_
  intro t' N4 hW4 hC4 k1 k2 k3 k4 k5
  rw[e6_ded,he2] at hW4
  simp (config:={maxSteps:=1000000}) (disch:=(first|assumption|omega|exact old_n (by omega)|exact old_hp (by assumption)|(simp only[nmL]<;>omega))) only[go_sem,seval]
  exact hR' _ ⟨_,N4,rfl,⟨k1,k3,k4,k5⟩,k2,hW4,hC4⟩
 clear g1 g2 g3 g4 g5
 rintro d ⟨t,N4,rfl,⟨g1,g2,g3,g4⟩,g5,hW4,hC4⟩
 change wp _ _ _ _ ⟨puts [] t, [],none,N4⟩ _
 have gb4:=(hC4.get ob3 (by simpa using hbck)).trans gb3
 have ob4:=hC4.old ob3
 have hvm4:=hvm.chg hC4 fun i hi=>by simp;rintro rfl;exact hdck hi
 have hdu:∀i∈ids vm,i∉ids u:=fun i hi hu=>hvm.new i hi (hW2.w.sl.old i hu)
 refine cutK (fun d=>∃t N5 u5,d=⟨t, [],none,N5⟩/\Ky b1 t/\Wk ck B m0 vc u5 (x.own.foldl insN L) e2 0 N5/\Chg (ck::ids u) N4 N5/\From N4 u u5) (fun R hR'=> ?_) ?_
 ·simp (config:={maxSteps:=1000000}) (disch:=(first|assumption|omega|exact old_n (by omega)|exact old_hp (by assumption)|(simp only[nmL]<;>omega))) only[go_sem,seval,g1,g2,g3,g4,g5]
  refine wk_l1 h0 hk hkB hvs hW4 hvm4 hdck hdu (by omega) (v:=v) (s2:= .ptr b1 0) (i0:=i) (by simp only[go_sem,seval,g1]) (by simp only[go_sem,seval,g5]) (by simp only[go_sem,seval]) (by simp only[go_sem,seval,g2]) (by simp only[go_sem,seval,g3]) (by simp only[go_sem,seval,g4]) ?_
  intro t' N5 u5 hW5 hC5 hF5 k1 k2 k3 k4
  rw[fold_ded,List.foldl_nil] at hW5
  simp (config:={maxSteps:=1000000}) (disch:=(first|assumption|omega|exact old_n (by omega)|exact old_hp (by assumption)|(simp only[nmL]<;>omega))) only[go_sem,seval]
  exact hR' _ ⟨_,N5,u5,rfl,⟨k1,k2,k3,k4⟩,hW5,hC5,hF5⟩
 clear g1 g2 g3 g4 g5
 rintro d ⟨t,N5,u5,rfl,⟨g1,g2,g3,g4⟩,hW5,hC5,hF5⟩
 change wp _ _ _ _ ⟨puts [] t, [],none,N5⟩ _
 have hbn:b1∉ck::ids u:=by rw[List.mem_cons,not_or];exact ⟨hbck,hbu⟩
 have gb5:=(hC5.get ob4 hbn).trans gb4
 have ob5:=hC5.old ob4
 have hbu5:b1∉ids u5:=fun h=>(hF5 _ h).elim hbu fun q=>q ob4
 have hN4:Chg [ck] N N4:=((((hC1.weak (T:= [ck]) (by simp)).trans hC2 fun _ h _=>h).trans hC3 (by simp)).trans hC4 fun _ h _=>h)
 have hN5:Chg (ck::ids u) N N5:=(hN4.weak (by simp)).trans hC5 fun _ h _=>h
 have hFN5:From N u u5:=fun i hi=>(hF5 i hi).imp _root_.id fun q o=>q (hN4.old o)
 have hg5:=hW5.g
 have ho5:=hW5.o
 have hlen5:=hW5.w.sl.len
 rw[List.length_map] at hlen5
 have hfl:=foldN_le x.own L
 have hL5:(x.own.foldl insN L).length<=n+x.own.length:=by omega
 generalize hLL:x.own.foldl insN L=L' at hW5 hlen5 hL5
 generalize he3:(if e2=0/\12<L'.length then (3:Int) else e2)=e3
 have herr:errR (cs.map (·.1)) L' x=e3:=by unfold errR;rw[he1,he2,he3]
 have hrd:(Rdf (cs.map (·.1)) ((L,n),none) x).1=((L',n+x.own.length),rsO x.a e3):=by
  unfold Rdf;dsimp only;rw[hLL,herr]
 refine cutK (fun d=>∃t N6,d=⟨t, [],none,N6⟩/\Ky b1 t/\Wk ck B m0 vc u5 L' e3 0 N6/\Chg [ck] N5 N6) (fun R hR'=> ?_) ?_
 ·by_cases h2:e2=0
  ·rw[h2] at hg5
   by_cases h12:12<L'.length
   ·rw[if_pos ⟨h2,h12⟩] at he3
    subst he3
    rw[←hp_nil N5]
    simp (config:={maxSteps:=1000000}) (disch:=(first|assumption|omega|exact old_n (by omega)|exact old_hp (by assumption)|(simp only[nmL]<;>omega))) only[go_sem,seval,g1,g2,g3,g4,hg5,hlen5]
    generalize hM6:hp _ 0 N5=N6
    rw[h2] at hW5
    obtain ⟨hW6,hC6⟩:=hW5.set hk hM6
    exact hR' _ ⟨_,N6,rfl,⟨by simp only[go_sem,seval,g1],by simp only[go_sem,seval,g2],by simp only[go_sem,seval,g3],by simp only[go_sem,seval,g4]⟩,hW6,hC6⟩
   ·rw[if_neg fun q=>h12 q.2] at he3
    subst he3
    simp (config:={maxSteps:=1000000}) (disch:=(first|assumption|omega|exact old_n (by omega)|exact old_hp (by assumption)|(simp only[nmL]<;>omega))) only[go_sem,seval,g1,g2,g3,g4,hg5,hlen5]
    exact hR' _ ⟨_,N5,rfl,⟨by simp only[go_sem,seval,g1],by simp only[go_sem,seval,g2],by simp only[go_sem,seval,g3],by simp only[go_sem,seval,g4]⟩,hW5,(Chg.refl N5).weak (by simp)⟩
  ·rw[if_neg fun q=>h2 q.1] at he3
   subst he3
   simp (config:={maxSteps:=1000000}) (disch:=(first|assumption|omega|exact old_n (by omega)|exact old_hp (by assumption)|(simp only[nmL]<;>omega))) only[go_sem,seval,g1,g2,g3,g4,hg5,hlen5]
   exact hR' _ ⟨_,N5,rfl,⟨by simp only[go_sem,seval,g1],by simp only[go_sem,seval,g2],by simp only[go_sem,seval,g3],by simp only[go_sem,seval,g4]⟩,hW5,(Chg.refl N5).weak (by simp)⟩
 clear g1 g2 g3 g4 hg5 ho5 hlen5
 rintro d ⟨t,N6,rfl,⟨g1,g2,g3,g4⟩,hW6,hC6⟩
 change wp _ _ _ _ ⟨puts [] t, [],none,N6⟩ _
 have gb6:=(hC6.get ob5 (by simpa using hbck)).trans gb5
 have ob6:=hC6.old ob5
 have hN6:Chg (ck::ids u) N N6:=hN5.trans (hC6.weak (T:=ck::ids u) (by simp)) fun _ h _=>h
 have hg6:=hW6.g
 have ho6:=hW6.o
 have hall:=wlkA_all (Z:=cs.map (·.1)) (x:=x) (st:=((L,n),none)) rfl
 rw[hrd] at hall
 refine cutK (fun d=>e3=0/\∃t,d=⟨t, [],none,N6⟩/\Ky b1 t) (fun R hR'=> ?_) ?_
 ·by_cases h3:e3=0
  ·rw[h3] at hg6
   simp (config:={maxSteps:=1000000}) (disch:=(first|assumption|omega|exact old_n (by omega)|exact old_hp (by assumption)|(simp only[nmL]<;>omega))) only[go_sem,seval,g1,g2,g3,g4,hg6]
   exact hR' _ ⟨h3,_,rfl,by simp only[go_sem,seval,g1],by simp only[go_sem,seval,g2],by simp only[go_sem,seval,g3],by simp only[go_sem,seval,g4]⟩
  ·rw[show rsO x.a e3=some (x.a,e3) from if_neg h3] at hall
   have hid:∀l,wlkF (cs.map (·.1)) l ((L',n+x.own.length),some (x.a,e3))=((L',n+x.own.length),some (x.a,e3)):=fun l=>if_neg (by simp)
   rw[hid,hid] at hall
   rw[hall] at hF
   rw[←hp_nil N6]
   simp (config:={maxSteps:=1000000}) (disch:=(first|assumption|omega|exact old_n (by omega)|exact old_hp (by assumption)|(simp only[nmL]<;>omega))) only[go_sem,seval,g1,g2,g3,g4,hg6,h3,gb6,t1]
   generalize hM7:hp _ 0 N6=N7
   obtain ⟨hW7,hC7⟩:=hW6.set hk hM7
   exact hF (by simp) _ N7 u5 hW7 (hN6.trans (hC7.weak (T:=ck::ids u) (by simp)) fun _ h _=>h) hFN5
 clear g1 g2 g3 g4
 rintro d ⟨h3,t,rfl,⟨g1,g2,g3,g4⟩⟩
 change wp _ _ _ _ ⟨puts [] t, [],none,N6⟩ _
 subst h3
 rw[show rsO x.a 0=none from if_pos rfl] at hall
 have hrs:rsE (none:Option (Int×Int))=0:=rfl
 have hra:rsA (none:Option (Int×Int))=0:=rfl
 have hsze:=sz_eq x
 rw[all_eq,List.flatMap_cons,List.length_append,List.flatMap_append,List.length_append] at hbud
 generalize hst8:wlkF (cs.map (·.1)) (if x.k=6∨x.k=7 then x.b else []) ((L',n+x.own.length),none)=st8 at hall
 have hw8:=wlk_n (Z:=cs.map (·.1)) (allL (if x.k=6∨x.k=7 then x.b else [])) ((L',n+x.own.length),none)
 rw[←wlkF_eq,hst8] at hw8
 obtain ⟨q1,q2,q3⟩:=hw8
 dsimp only at q1 q3
 have t19:(x.l w)[19]? =some w.vb:=rfl
 have t20:(x.l w)[20]? =some w.ve:=rfl
 obtain ⟨Bb,hSb⟩:=hP.b
 obtain ⟨Be,hSe⟩:=hP.e
 refine cutK (fun d=>∃t N8 u8,d=⟨t, [],none,N8⟩/\Ky b1 t/\Wk ck B m0 vc u8 st8.1.1 (rsE st8.2) (rsA st8.2) N8/\Chg (ck::ids u5) N6 N8/\From N6 u5 u8) (fun R hR'=> ?_) ?_
 ·by_cases h67:x.k=6∨x.k=7
  ·rw[if_pos h67] at hst8 hbud q1
   obtain ⟨N8,hr8,u8,hW8,hC8,hF8⟩:=hb hSb (st:=((L',n+x.own.length),none)) hW6 (fun h=>absurd rfl h) (by dsimp only;omega) (by dsimp only;omega) (by omega)
   rw[hst8] at hW8
   rcases h67 with h6|h7
   ·simp (config:={maxSteps:=1000000}) (disch:=(first|assumption|omega|exact old_n (by omega)|exact old_hp (by assumption)|(simp only[nmL]<;>omega))) only[go_sem,seval,g1,g2,g3,g4,gb6,t0,t19,h6,hr8.wf']
    exact hR' _ ⟨_,N8,u8,rfl,⟨by simp only[go_sem,seval,g1],by simp only[go_sem,seval,g2],by simp only[go_sem,seval,g3],by simp only[go_sem,seval,g4]⟩,hW8,hC8,hF8⟩
   ·simp (config:={maxSteps:=1000000}) (disch:=(first|assumption|omega|exact old_n (by omega)|exact old_hp (by assumption)|(simp only[nmL]<;>omega))) only[go_sem,seval,g1,g2,g3,g4,gb6,t0,t19,h7,hr8.wf']
    exact hR' _ ⟨_,N8,u8,rfl,⟨by simp only[go_sem,seval,g1],by simp only[go_sem,seval,g2],by simp only[go_sem,seval,g3],by simp only[go_sem,seval,g4]⟩,hW8,hC8,hF8⟩
  ·rw[if_neg h67] at hst8
   have e8:st8=((L',n+x.own.length),none):=by rw[←hst8];rfl
   have d6:x.k≠6:=fun h=>h67 (Or.inl h)
   have d7:x.k≠7:=fun h=>h67 (Or.inr h)
   simp (config:={maxSteps:=1000000}) (disch:=(first|assumption|omega|exact old_n (by omega)|exact old_hp (by assumption)|(simp only[nmL]<;>omega))) only[go_sem,seval,g1,g2,g3,g4,gb6,t0,t19,d6,d7]
   exact hR' _ ⟨_,N6,u5,rfl,⟨by simp only[go_sem,seval,g1],by simp only[go_sem,seval,g2],by simp only[go_sem,seval,g3],by simp only[go_sem,seval,g4]⟩,by rw[e8];exact hW6,(Chg.refl N6).weak (by simp),From.refl N6 u5⟩
 clear g1 g2 g3 g4 hg6 ho6
 rintro d ⟨t,N8,u8,rfl,⟨g1,g2,g3,g4⟩,hW8,hC8,hF8⟩
 change wp _ _ _ _ ⟨puts [] t, [],none,N8⟩ _
 have hb5:b1∉ck::ids u5:=by rw[List.mem_cons,not_or];exact ⟨hbck,hbu5⟩
 have gb8:=(hC8.get ob6 hb5).trans gb6
 have ob8:=hC8.old ob6
 have hFC:∀{u9:NV} {N9:NH} {v9:NV} {M9:NH},Chg (ck::ids u) N M9->From N u v9->Chg (ck::ids v9) M9 N9->From M9 v9 u9->Chg (ck::ids u) N N9/\From N u u9:=by
  intro u9 N9 v9 M9 c1 c2 c3 c4
  refine ⟨c1.trans c3 fun i hi ho=> ?_,fun i hi=> ?_⟩
  ·rcases List.mem_cons.1 hi with e|hi
   ·simp[e]
   ·exact (c2 i hi).elim (fun q=>by simp[q]) fun q=>absurd ho q
  ·exact (c4 i hi).elim (fun q=>c2 i q) fun q=>Or.inr fun o=>q (c1.old o)
 obtain ⟨hN8,hFN8⟩:=hFC hN6 hFN5 hC8 hF8
 by_cases h6:x.k=6
 ·rw[if_pos h6] at hall hbud
  have hq:(allL (if x.k=6∨x.k=7 then x.b else [])).flatMap Stm.own=((if x.k=6∨x.k=7 then allL x.b else [])).flatMap Stm.own:=by rw[if_pos (Or.inl h6),if_pos (Or.inl h6)]
  rw[hq] at q1
  obtain ⟨N9,hr9,u9,hW9,hC9,hF9⟩:=he hSe (st:=st8) hW8 (fun h=>q2 h rfl) (q3 (by omega)) (by omega) (by omega)
  obtain ⟨hN9,hFN9⟩:=hFC hN8 hFN8 hC9 hF9
  rw[←hall] at hW9
  simp (config:={maxSteps:=1000000}) (disch:=(first|assumption|omega|exact old_n (by omega)|exact old_hp (by assumption)|(simp only[nmL]<;>omega))) only[go_sem,seval,g1,g2,g3,g4,gb8,t0,t20,h6,hr9.wf']
  exact hN _ N9 u9 hW9 hN9 hFN9 (by simp only[go_sem,seval,g1]) (by simp only[go_sem,seval,g2]) (by simp only[go_sem,seval]<;>rfl)
 ·rw[if_neg h6] at hall
  have e9:wlkA (cs.map (·.1)) x.all ((L,n),none)=st8:=by rw[hall];unfold wlkF;split<;>rfl
  rw[←e9] at hW8
  simp (config:={maxSteps:=1000000}) (disch:=(first|assumption|omega|exact old_n (by omega)|exact old_hp (by assumption)|(simp only[nmL]<;>omega))) only[go_sem,seval,g1,g2,g3,g4,gb8,t0,t20,h6]
  exact hN _ N8 u8 hW8 hN8 hFN8 (by simp only[go_sem,seval,g1]) (by simp only[go_sem,seval,g2]) (by simp only[go_sem,seval]<;>rfl)
end
end FR
open Go Nm Go.Proofs
namespace FR
set_option linter.unusedSimpArgs false
set_option linter.unusedVariables false
section
variable {ck:D4} {B m0:NH} {vc:NV} {cs:List (List Nat×Int)} {T:D4->Prop}
theorem wlkF_id {Z:List (List Nat)} {l:List Stm} {st:WSt} (h:st.2≠none):wlkF Z l st=st:=if_neg h
theorem walk_list (hcs:Sl m0 vc 2 (Cls cs)) (hcl:cs.length<=1000000) (h0:∀i,Old m0 i->Old B i) (hk:¬Old m0 ck) (hkB:¬Old B ck) {l:List Stm} (ih:∀x∈l,WalkP ck B m0 vc cs T x.b/\WalkP ck B m0 vc cs T x.e):WalkP ck B m0 vc cs T l:=by
 intro v C N u st hS hW hne hle hbud hsz
 refine WF.ex1 fun K hK=> ?_
 refine WF.of_wpG (fun _=>rfl) nf52_eq (L:= [(.a .e,v),(.e,.ptr ck 0)]) rfl ?_
 unfold nf52
 have hll:=len_szB l
 simp (config:={maxSteps:=1000000}) (disch:=(first|assumption|omega|exact old_n (by omega)|exact old_hp (by assumption)|(simp only[nmL]<;>omega))) only[go_sem,seval,hp_nil]
 refine W.loop (fun k d=>∃t M i u' st',d=⟨t, [],none,M⟩/\NT.get D4.e t=some (.ptr ck 0)/\NT.get D4.e.a t=some v/\NT.get D4.e.f t=some (ii (i:Nat))/\i+k=l.length/\wlkF (cs.map (·.1)) (l.drop i) st'=wlkF (cs.map (·.1)) l st/\Wk ck B m0 vc u' st'.1.1 (rsE st'.2) (rsA st'.2) M/\Chg (ck::ids u) N M/\From N u u'/\(st'.2≠none->rsE st'.2≠0)/\st'.1.1.length<=st'.1.2/\st'.1.2+((allL (l.drop i)).flatMap Stm.own).length<=100000000) ?_ l.length _ ⟨_,N,0,u,st,rfl,by simp only[go_sem,seval],by simp only[go_sem,seval],by simp only[go_sem,seval]<;>rfl,by omega,rfl,hW,(Chg.refl N).weak (by simp),From.refl N u,hne,hle,hbud⟩
 rintro k d ⟨t,M,i,u',st',rfl,g1,g2,g3,hik,hE,hWM,hC,hF,hne',hle',hbud'⟩
 apply wp_sound
 change wp _ _ _ _ ⟨puts [] t, [],none,M⟩ _
 have hSM:=hS.stays (stN hWM.c T)
 have hlen:=hSM.sl.len
 rw[hS.len] at hlen
 have hg:=hWM.g
 by_cases hi:i<l.length
 ·by_cases hs:st'.2=none
  ·obtain ⟨⟨L,n⟩,r⟩:=st'
   cases hs
   obtain ⟨w,hcx,hRx,hPx⟩:=ss_at hS i hi
   obtain ⟨id,off,wr,c,a1,a2,a3,a4,a5⟩:=ss_mem hSM i hi hcx
   have hsx:=szB_mem (List.getElem_mem hi)
   obtain ⟨h1,h2⟩:=ih _ (List.getElem_mem hi)
   rw[List.drop_eq_getElem_cons hi] at hE hbud'
   rw[wlkF_cons] at hE
   rw[allL,List.flatMap_append,List.length_append] at hbud'
   dsimp only at hbud' hle'
   obtain ⟨q1,q2,q3⟩:=wlk_n (Z:=cs.map (·.1)) l[i].all ((L,n),none)
   have hstep:∀{u9:NV} {N9:NH},Chg (ck::ids u') M N9->From M u' u9->Chg (ck::ids u) N N9/\From N u u9:=by
    intro u9 N9 c3 c4
    refine ⟨hC.trans c3 fun i hi ho=> ?_,fun i hi=> ?_⟩
    ·rcases List.mem_cons.1 hi with e|hi
     ·simp[e]
     ·exact (hF i hi).elim (fun q=>by simp[q]) fun q=>absurd ho q
    ·exact (c4 i hi).elim (fun q=>hF i q) fun q=>Or.inr fun o=>q (hC.old o)
   refine wk_round hcs hcl h0 hk hkB hRx hPx h1 h2 (L:=L) (n:=n) hle' (by omega) (by omega) hWM (ln:=l.length) hi hlen (by omega) a1 a2 a3 a4 a5 g1 g2 g3 ?_ ?_
   ·intro t' N' u9 hW9 hC9 hF9 k1 k2 k3
    obtain ⟨r1,r2⟩:=hstep hC9 hF9
    exact ⟨k - 1,by omega,t',N',i+1,u9,_,rfl,k1,k2,k3,by omega,hE,hW9,r1,r2,fun h=>q2 h rfl,q3 hle',by dsimp only at q1;omega⟩
   ·intro hn t' N' u9 hW9 hC9 hF9
    obtain ⟨r1,r2⟩:=hstep hC9 hF9
    rw[wlkF_id hn] at hE
    rw[←hE] at hK
    simp (config:={maxSteps:=1000000}) (disch:=(first|assumption|omega|exact old_n (by omega)|exact old_hp (by assumption)|(simp only[nmL]<;>omega))) only[go_sem,seval]
    exact hK _ ⟨u9,hW9,r1,r2⟩
  ·have hr:=hne' hs
   rw[wlkF_id hs] at hE
   rw[←hE] at hK
   generalize rsE st'.2=z at hg hr hWM hK
   unfold nf52_l3
   simp (config:={maxSteps:=1000000}) (disch:=(first|assumption|omega|exact old_n (by omega)|exact old_hp (by assumption)|(simp only[nmL]<;>omega))) only[go_sem,seval,g1,g2,g3,hlen,hg]
   exact hK _ ⟨u',hWM,hC,hF⟩
 ·rw[List.drop_of_length_le (by omega)] at hE
  have e0:wlkF (cs.map (·.1)) [] st'=st':=by unfold wlkF;split<;>rfl
  rw[e0] at hE
  rw[←hE] at hK
  unfold nf52_l3
  simp (config:={maxSteps:=1000000}) (disch:=(first|assumption|omega|exact old_n (by omega)|exact old_hp (by assumption)|(simp only[nmL]<;>omega))) only[go_sem,seval,g1,g2,g3,hlen]
  exact hK _ ⟨u',hWM,hC,hF⟩
theorem walk_r (hcs:Sl m0 vc 2 (Cls cs)) (hcl:cs.length<=1000000) (h0:∀i,Old m0 i->Old B i) (hk:¬Old m0 ck) (hkB:¬Old B ck):∀l:List Stm,WalkP ck B m0 vc cs T l:=by
 have key:∀x:Stm,WalkP ck B m0 vc cs T x.b/\WalkP ck B m0 vc cs T x.e:=by
  apply Stm.ind
  intro k a nm ce i x y b e hb he
  exact ⟨walk_list hcs hcl h0 hk hkB hb,walk_list hcs hcl h0 hk hkB he⟩
 exact fun l=>walk_list hcs hcl h0 hk hkB fun x _=>key x
end
end FR
open Go Nm Go.Proofs
namespace FR
set_option linter.unusedSimpArgs false
set_option linter.unusedVariables false
theorem bd_al {Z:List (List Nat)} (l:List Stm):∀st:BSt,st.2=none->(∀x∈l,x.sz<=100000000)->st.1.2+(l.flatMap Stm.own).length<=100000000->Al BdA (Bdf Z) l st:=by
 induction l with
 |nil=>intro st _ _ _;trivial
 |cons x l ih=>
  intro st h0 h1 h2
  rw[List.flatMap_cons,List.length_append] at h2
  refine ⟨⟨h0,h1 x (List.mem_cons_self ..),by omega⟩,fun h=> ?_⟩
  have e:(Bdf Z st x).1=((x.own.foldl insN st.1.1,st.1.2+x.own.length),none):=by
   unfold Bdf at h ⊢
   split at h
   ·cases h
   ·split at h
    ·cases h
    ·split at h
     ·cases h
     ·rename_i a b c;rw[if_neg a,if_neg b,if_neg c]
  rw[e]
  exact ih _ rfl (fun y hy=>h1 y (List.mem_cons_of_mem _ hy)) (by show st.1.2+_+_<=_;omega)
def bodE (Z:List (List Nat)) (l:List Stm):Option (Int×Int):=(foldS (Bdf Z) (allL l) (([],0),none)).1.2
theorem bod_p {m0 m:NH} {T:D4->Prop} {v:NV} {l:List Stm} {C:List (List NV)} {mo:D4} {Z:List (List Nat)} (hS:SS m0 T v l C) (hC0:Chg [] m0 m) (hm:m.get mo=some (.map (setR Z))) (hmo:Old m mo) (hsz:szB l<=10000000):
 ∃m',Ret Try.prog S0 49 [v,.map mo] m (.tup [ii (rsA (bodE Z l)),ii (rsE (bodE Z l))]) m'/\Chg [] m m':=by
 refine WF.ex1 fun K hK=> ?_
 refine WF.of_wpM (fun _=>rfl) nf49_eq (L:= [(.a .e,.map mo),(.e,v)]) rfl ?_
 unfold nf49
 simp (config:={maxSteps:=1000000}) (disch:=(first|assumption|omega|exact old_n (by omega)|exact old_hp (by assumption)|(simp only[nmL]<;>omega))) only[go_sem,seval,(all_p _ hS.sl.one).wf']
 generalize hM0:hp _ 4 m=M0
 have hC1:Chg [] m M0:=by rw[←hM0];exact hp_of rfl
 have gc0:M0.get (na m 0)=some (.cells true [.map mo]):=by rw[←hM0];exact h_getN
 have gb0:M0.get (na m 1)=some (.cells true [ii 0]):=by rw[←hM0];exact h_getN
 have ge0:M0.get (na m 2)=some (.cells true [ii 0]):=by rw[←hM0];exact h_getN
 have go0:M0.get (na m 3)=some (.cells true [.nils]):=by rw[←hM0];exact h_getN
 have oc0:Old M0 (na m 0):=by rw[←hM0];exact old_n (by omega)
 have ob0:Old M0 (na m 1):=by rw[←hM0];exact old_n (by omega)
 have oe0:Old M0 (na m 2):=by rw[←hM0];exact old_n (by omega)
 have oo0:Old M0 (na m 3):=by rw[←hM0];exact old_n (by omega)
 have gm0:=(hC1.get hmo (by simp)).trans hm
 have om0:=hC1.old hmo
 generalize hM:hp [(.n 0,.cells true [v])] 1 M0=M
 have hC2:Chg [] M0 M:=by rw[←hM];exact hp_of rfl
 have gz:M.get (na M0 0)=some (.cells true [v]):=by rw[←hM];exact h_getN
 have oz:Old M (na M0 0):=by rw[←hM];exact old_n (by omega)
 have hCm:Chg [] m M:=hC1.trans hC2 (by simp)
 generalize ht:puts [(D4.e.b.b,NV.fn 97 [NV.ptr (na M0 0) 0]),(D4.e.b.a,v),(D4.e.a.b,NV.ptr (na m 3) 0),(D4.e.a.a,NV.ptr (na m 2) 0),(D4.e.f,NV.ptr (na m 1) 0),(D4.e.c,NV.ptr (na m 0) 0),(D4.e.a,NV.map mo),(D4.e,v)] NT.leaf=t
 have g1:NT.get D4.e.c t=some (.ptr (na m 0) 0):=by rw[←ht];simp (config:={maxSteps:=1000000}) (disch:=(first|assumption|omega|exact old_n (by omega)|exact old_hp (by assumption)|(simp only[nmL]<;>omega))) only[go_sem,seval]
 have g2:NT.get D4.e.b.b t=some (.fn 97 [.ptr (na M0 0) 0]):=by rw[←ht];simp (config:={maxSteps:=1000000}) (disch:=(first|assumption|omega|exact old_n (by omega)|exact old_hp (by assumption)|(simp only[nmL]<;>omega))) only[go_sem,seval]
 have g3:NT.get D4.e.f t=some (.ptr (na m 1) 0):=by rw[←ht];simp (config:={maxSteps:=1000000}) (disch:=(first|assumption|omega|exact old_n (by omega)|exact old_hp (by assumption)|(simp only[nmL]<;>omega))) only[go_sem,seval]
 have g4:NT.get D4.e.a.a t=some (.ptr (na m 2) 0):=by rw[←ht];simp (config:={maxSteps:=1000000}) (disch:=(first|assumption|omega|exact old_n (by omega)|exact old_hp (by assumption)|(simp only[nmL]<;>omega))) only[go_sem,seval]
 have g5:NT.get D4.e.a.b t=some (.ptr (na m 3) 0):=by rw[←ht];simp (config:={maxSteps:=1000000}) (disch:=(first|assumption|omega|exact old_n (by omega)|exact old_hp (by assumption)|(simp only[nmL]<;>omega))) only[go_sem,seval]
 clear ht
 generalize hM1:hp [(.n 1,.loop 0 .none t [D4.e.b.c] nf49_a1 nf49_r2),(.n 0,.defd true)] 2 M=M1
 have hG:Chg [] M M1:=by rw[←hM1];exact hp_of rfl
 have oq:Old M1 (na M 1):=by rw[←hM1];exact old_n (by omega)
 have om:Old M1 (na M 0):=by rw[←hM1];exact old_n (by omega)
 have gq:M1.get (na M 1)=some (.loop 0 .none t [D4.e.b.c] nf49_a1 nf49_r2):=by rw[←hM1];exact h_getN
 have gm:M1.get (na M 0)=some (.defd true):=by rw[←hM1];exact h_getN
 have hG2:Chg [] M0 M1:=hC2.trans hG (by simp)
 have hCm1:Chg [] m M1:=hCm.trans hG (by simp)
 have n01:∀{i:D4} {k:Nat},Old M0 i->i≠na M k:=fun h=>(hC2.old h).ne _
 have nm:∀{j k:Nat},j≠k->na m j≠na m k:=fun h e=>h (na_inj e)
 have hO:BdO (na M 1) (na m 3) (na m 1) (na m 2) (na m 0) mo M1:=by
  refine ⟨(n01 oo0).symm,(n01 ob0).symm,(n01 oe0).symm,nm (by omega),nm (by omega),nm (by omega),oq,hG2.old oo0,hG2.old ob0,hG2.old oe0,hG2.old oc0,hG2.old om0, ?_, ?_⟩
  ·simp only[List.mem_cons,List.not_mem_nil,or_false,not_or]
   exact ⟨n01 oc0,nm (by omega),nm (by omega),nm (by omega)⟩
  ·simp only[List.mem_cons,List.not_mem_nil,or_false,not_or]
   exact ⟨n01 om0,hmo.ne 3,hmo.ne 1,hmo.ne 2⟩
 have h0:∀S,Chg [na M 1,na m 3,na m 1,na m 2] M1 S->Chg [] m0 S:=fun S h=>(hC0.trans hCm1 (by simp)).trans h fun i hi ho=>by
  simp only[List.mem_cons,List.not_mem_nil,or_false] at hi
  rcases hi with rfl|rfl|rfl|rfl
  ·exact absurd (hCm.old (hC0.old ho)) na_old
  ·exact absurd (hC0.old ho) na_old
  ·exact absurd (hC0.old ho) na_old
  ·exact absurd (hC0.old ho) na_old
 have hY:=bd_ylds (T:=T) hO g1 g3 g4 g5 ((hG2.get oc0 (by simp)).trans gc0) ((hG2.get om0 (by simp)).trans gm0) h0
 obtain ⟨hA1,hA2⟩:=allL_sz l
 obtain ⟨m',hr,F',⟨u,rfl,hC3,hq3,ho3,hb3,he3,hu3,-⟩,hC4,-⟩:=all_it hY (s:=(([],0),none)) (F:= [na M 1,na m 3,na m 1,na m 2]) (id:=na M0 0) ((hG.get oz (by simp)).trans gz) hS ⟨.nils,rfl,(Chg.refl M1).weak (by simp),gq,(hG2.get oo0 (by simp)).trans go0,(hG2.get ob0 (by simp)).trans gb0,(hG2.get oe0 (by simp)).trans ge0,Own.nil,by simp⟩ (bd_al _ _ rfl (fun x hx=>by have:=hA1 x hx;omega) (by show 0+_<=_;omega)) (by omega)
 change m'.get _=some (.loop (lpN (bodE Z l)) (lpJ (bodE Z l)) _ _ _ _) at hq3
 change m'.get _=some (.cells true [ii (rsA (bodE Z l))]) at hb3
 change m'.get _=some (.cells true [ii (rsE (bodE Z l))]) at he3
 have hst:lpN (bodE Z l)≠1:=by cases bodE Z l<;>simp[lpN]
 refine W.rangeJ g2 (hM1▸hr) hq3 hst ?_ (hC3.old oq)
 have gm3:m'.get (na M 0)=some (.defd true):=(hC3.get om (by
  simp only[List.mem_cons,List.not_mem_nil,or_false,not_or]
  exact ⟨fun e=>by have:=na_inj e;omega,fun e=>n01 oo0 e.symm,fun e=>n01 ob0 e.symm,fun e=>n01 oe0 e.symm⟩)).trans gm
 have om3:=hC3.old om
 have ob3:=hC3.old (hG2.old ob0)
 have oe3:=hC3.old (hG2.old oe0)
 have hne:na M 0≠na M 1:=fun e=>by have:=na_inj e;omega
 have n1:na m 1≠na M 1:=n01 ob0
 have n1':na m 1≠na M 0:=n01 ob0
 have n2:na m 2≠na M 1:=n01 oe0
 have n2':na m 2≠na M 0:=n01 oe0
 have n3:na m 1≠na m 2:=nm (by omega)
 have n3':na m 2≠na m 1:=nm (by omega)
 have fin:∀{S:List D4} {Me:NH},Chg S m' Me->(∀i∈S,i∈ [na M 1,na M 0,na m 1,na m 2])->Chg [] m Me:=by
  intro S Me hCe hS
  refine ((hCm1.weak (T:= [na M 1,na m 3,na m 1,na m 2,na M 0]) (by simp)).trans hC3 fun i h _=>by simp at h ⊢;rcases h with h|h|h|h<;>simp[h]).trans hCe (fun i h _=>by have:=hS i h;simp at this ⊢;rcases this with h|h|h|h<;>simp[h]) |>.weak fun i hi ho=> ?_
  simp only[List.mem_cons,List.not_mem_nil,or_false] at hi
  rcases hi with rfl|rfl|rfl|rfl|rfl
  ·exact absurd (hCm.old ho) na_old
  ·exact absurd ho na_old
  ·exact absurd ho na_old
  ·exact absurd ho na_old
  ·exact absurd (hCm.old ho) na_old
 have n1s:=n1'.symm
 have n2s:=n2'.symm
 have n1t:=n1.symm
 have n2t:=n2.symm
 have hne':=hne.symm
 cases hb:bodE Z l with
 |none=>
  rw[hb] at hb3 he3 hK
  change onExit _ _ (jOut .none) ⟨puts [] t,_,_,_⟩
  simp (config:={maxSteps:=1000000}) (disch:=(first|assumption|omega|exact old_n (by omega)|exact old_hp (by assumption)|(simp only[nmL]<;>omega))) only[go_sem,seval,jOut,g1,g3,g4,gm3,om3,hb3,he3]
  refine retG_K ?_
  rw[s_retG]
  simp (config:={maxSteps:=1000000}) (disch:=(first|assumption|omega|exact old_n (by omega)|exact old_hp (by assumption)|(simp only[nmL]<;>omega))) only[go_sem,seval,g1,g3,g4,gm3,om3,hb3,he3,ob3,oe3]
  refine hK _ ?_
  generalize hMe:hp _ 0 m'=Me
  have hCe:Chg [na M 0,na m 2,na m 1,na M 1] m' Me:=by rw[←hMe];exact hp_of rfl
  exact fin hCe (by simp)
 |some z=>
  obtain ⟨za,ze⟩:=z
  rw[hb] at hb3 he3 hK
  change onExit _ _ (jOut .ret) ⟨puts [] t,_,_,_⟩
  simp (config:={maxSteps:=1000000}) (disch:=(first|assumption|omega|exact old_n (by omega)|exact old_hp (by assumption)|(simp only[nmL]<;>omega))) only[go_sem,seval,jOut,g1,g3,g4,gm3,om3,hb3,he3]
  refine retG_K ?_
  rw[s_retG]
  simp (config:={maxSteps:=1000000}) (disch:=(first|assumption|omega|exact old_n (by omega)|exact old_hp (by assumption)|(simp only[nmL]<;>omega))) only[go_sem,seval,g1,g3,g4,gm3,om3,hb3,he3,ob3,oe3]
  refine hK _ ?_
  generalize hMe:hp _ 0 m'=Me
  have hCe:Chg [na M 0,na M 1] m' Me:=by rw[←hMe];exact hp_of rfl
  exact fin hCe (by simp)
end FR
open Go Nm Go.Proofs
namespace FR
set_option linter.unusedSimpArgs false
set_option linter.unusedVariables false
def bodsE (Z:List (List Nat)) (r:List Stm):List (List Stm)->Int×Int
 | []=>(rsA (bodE Z r),rsE (bodE Z r))
 |b::l=>if rsE (bodE Z b)≠0 then (rsA (bodE Z b),rsE (bodE Z b)) else bodsE Z r l
def setC (p:Prg):List (List Nat):=(p.cs.map (·.1)).foldl insN []
def chkE (p:Prg):Int×Int:=if headE p≠0 then (0,headE p) else bodsE (setC p) p.r (p.ts.map (·.2))
theorem chk_p {m:NH} {T:D4->Prop} {p:Prg} {vc vt vr:NV} (h:RP m T p vc vt vr) (hs:p.cs.length<=1000000/\p.ts.length<=1000000) (hz:∀t∈p.ts,szB t.2<=10000000) (hr:szB p.r<=10000000):
 ∃m',Ret Try.prog S0 13 [.agg [vc,vt,vr]] m (.tup [ii (chkE p).1,ii (chkE p).2]) m'/\Chg [] m m':=by
 refine WF.ex1 fun K hK=> ?_
 refine WF.of_wpG (fun _=>rfl) nf13_eq (L:= [(.e,.agg [vc,vt,vr])]) rfl ?_
 unfold nf13
 obtain ⟨hcs,hts⟩:=hs
 obtain ⟨Ct,hT⟩:=h.t
 obtain ⟨Cr,hR⟩:=h.r
 have hlc:=h.c.len
 rw[List.length_map] at hlc
 have hlt:=hT.sl.len
 rw[hT.len] at hlt
 generalize hM0:hp [(.n 0,.cells true [vc,vt,vr])] 1 m=M0
 have hC0:Chg [] m M0:=by rw[←hM0];exact hp_of rfl
 have g0:M0.get (na m 0)=some (.cells true [vc,vt,vr]):=by rw[←hM0];exact h_getN
 have o0:Old M0 (na m 0):=by rw[←hM0];exact old_n (by omega)
 obtain ⟨M1,hr1,hC1⟩:=head_p (h.stays (stN hC0 T)) ⟨hcs,hts⟩
 have g1:=(hC1.get o0 (by simp)).trans g0
 have o1:=hC1.old o0
 have hC01:Chg [] m M1:=hC0.trans hC1 (by simp)
 unfold chkE at hK
 by_cases h0:headE p=0
 ·rw[h0] at hr1
  rw[if_neg (by simp[h0])] at hK
  simp (config:={maxSteps:=1000000}) (disch:=(first|assumption|omega|exact old_n (by omega)|exact old_hp (by assumption)|(simp only[nmL]<;>omega))) only[go_sem,seval,hM0,g0,hr1.wf,g1,hlc]
  generalize hM2:hp _ 1 M1=M2
  have hC2:Chg [] M1 M2:=by rw[←hM2];exact hp_of rfl
  have gm2:M2.get (na M1 0)=some (.map (setR [])):=by rw[←hM2];exact h_getN
  have om2:Old M2 (na M1 0):=by rw[←hM2];exact old_n (by omega)
  have hC02:=hC01.trans hC2 (by simp)
  have g2:=(hC2.get o1 (by simp)).trans g1
  have o2:=hC2.old o1
  have hnm:na m 0≠na M1 0:=o1.ne 0
  refine W.loop (fun k d=>∃t M i,d=⟨t, [],none,M⟩/\NT.get D4.e.a t=some (.ptr (na m 0) 0)/\NT.get D4.e.a.a t=some (.map (na M1 0))/\NT.get D4.e.f.c t=some vc/\NT.get D4.e.f.f t=some (ii p.cs.length)/\NT.get D4.e.a.a.a t=some (ii (i:Nat))/\i+k=p.cs.length/\M.get (na M1 0)=some (.map (setR (((p.cs.map (·.1)).take i).foldl insN [])))/\Chg [na M1 0] M2 M) ?_ p.cs.length _ ⟨_,M2,0,rfl,by simp only[go_sem,seval],by simp only[go_sem,seval],by simp only[go_sem,seval],by simp only[go_sem,seval],by simp only[go_sem,seval]<;>rfl,by omega,gm2,(Chg.refl M2).weak (by simp)⟩
  rintro k d ⟨t,M,i,rfl,a1,a2,a3,a4,a5,hik,gm,hC⟩
  apply wp_sound
  unfold nf13_l1
  change wp _ _ _ _ ⟨puts [] t, [],none,M⟩ _
  have omM:=hC.old om2
  have gM:=(hC.get o2 (by simpa using hnm)).trans g2
  have oM:=hC.old o2
  have hC0M:Chg [] m M:=hC02.trans hC fun i hi ho=>by
   simp only[List.mem_cons,List.not_mem_nil,or_false] at hi;subst hi;exact absurd (hC01.old ho) na_old
  rw[←hp_nil M]
  by_cases hi:i<p.cs.length
  ·obtain ⟨id,off,wr,c,b1,b2,b3,b4,b5⟩:=h.c.at i (by simpa using hi)
   rw[List.getElem_map] at b5
   have b2':=(hC0M.get b3 (by simp)).trans b2
   have b3':=hC0M.old b3
   have htk:(p.cs.map (·.1)).take (i+1)=(p.cs.map (·.1)).take i++ [p.cs[i].1]:=by
    rw[List.take_add_one,List.getElem?_map,List.getElem?_eq_getElem hi];rfl
   simp (config:={maxSteps:=1000000}) (disch:=(first|assumption|omega|exact old_n (by omega)|exact old_hp (by assumption)|(simp only[nmL]<;>omega))) only[go_sem,seval,a1,a2,a3,a4,a5,b1,b2',b5,gm]
   generalize hM3:hp _ 1 M=M3
   have hC3:Chg [na M1 0] M M3:=by rw[←hM3];exact hp_of rfl
   refine ⟨k - 1,by omega,_,M3,i+1,by rfl,by simp only[go_sem,seval,a1],by simp only[go_sem,seval,a2],by simp only[go_sem,seval,a3],by simp only[go_sem,seval,a4],by simp only[go_sem,seval]<;>rfl,by omega, ?_,hC.trans hC3 fun _ h _=>h⟩
   rw[htk,List.foldl_append,←hM3]
   exact (h_getO omM).trans h_lookOs
  ·rw[List.take_of_length_le (by simp;omega)] at gm
   simp (config:={maxSteps:=1000000}) (disch:=(first|assumption|omega|exact old_n (by omega)|exact old_hp (by assumption)|(simp only[nmL]<;>omega))) only[go_sem,seval,a1,a2,a3,a4,a5,gM,hlt,hp_nil]
   generalize hZ:setC p=Z at hK
   rw[show (p.cs.map (·.1)).foldl insN []=Z from hZ] at gm
   refine W.loop (fun k d=>∃t N i,d=⟨t, [],none,N⟩/\NT.get D4.e.a t=some (.ptr (na m 0) 0)/\NT.get D4.e.a.a t=some (.map (na M1 0))/\NT.get D4.e.a.c.b t=some vt/\NT.get D4.e.a.c.c t=some (ii p.ts.length)/\NT.get D4.e.a.c.f t=some (ii (i:Nat))/\i+k=p.ts.length/\bodsE Z p.r ((p.ts.map (·.2)).drop i)=bodsE Z p.r (p.ts.map (·.2))/\Chg [] M N) ?_ p.ts.length _ ⟨_,M,0,rfl,by simp only[go_sem,seval,a1],by simp only[go_sem,seval,a2],by simp only[go_sem,seval],by simp only[go_sem,seval],by simp only[go_sem,seval]<;>rfl,by omega,rfl,Chg.refl M⟩
   clear a1 a2 a3 a4 a5 hik
   rintro k d ⟨t,N,i,rfl,a1,a2,a3,a4,a5,hik,hE,hC⟩
   apply wp_sound
   unfold nf13_l2
   change wp _ _ _ _ ⟨puts [] t, [],none,N⟩ _
   have gN:=(hC.get oM (by simp)).trans gM
   have hC0N:=hC0M.trans hC (by simp)
   have gmN:=(hC.get omM (by simp)).trans gm
   have omN:=hC.old omM
   rw[←hp_nil N]
   by_cases hi:i<p.ts.length
   ·obtain ⟨vb,B,id,off,wr,c,hSb,b1,b2,b3,b4,b5⟩:=hT.at i hi
    have b2':=(hC0N.get b3 (by simp)).trans b2
    have b3':=hC0N.old b3
    have hzi:=hz _ (List.getElem_mem hi)
    rw[List.drop_eq_getElem_cons (by simpa using hi),List.getElem_map,bodsE] at hE
    simp (config:={maxSteps:=1000000}) (disch:=(first|assumption|omega|exact old_n (by omega)|exact old_hp (by assumption)|(simp only[nmL]<;>omega))) only[go_sem,seval,a1,a2,a3,a4,a5,b1,b2',b5]
    generalize hN1:hp _ 1 N=N1
    have hC1':Chg [] N N1:=by rw[←hN1];exact hp_of rfl
    obtain ⟨N2,hr2,hC2'⟩:=bod_p hSb (hC0N.trans hC1' (by simp)) ((hC1'.get omN (by simp)).trans gmN) (hC1'.old omN) hzi
    have hCN2:=hC1'.trans hC2' (by simp)
    by_cases he:rsE (bodE Z p.ts[i].2)=0
    ·rw[if_neg (by simp[he])] at hE
     rw[he] at hr2
     simp (config:={maxSteps:=1000000}) (disch:=(first|assumption|omega|exact old_n (by omega)|exact old_hp (by assumption)|(simp only[nmL]<;>omega))) only[go_sem,seval,hr2.wf',a1,a2,a3,a4,a5]
     exact ⟨k - 1,by omega,_,N2,i+1,by rfl,by simp only[go_sem,seval,a1],by simp only[go_sem,seval,a2],by simp only[go_sem,seval,a3],by simp only[go_sem,seval,a4],by simp only[go_sem,seval]<;>rfl,by omega,hE,hC.trans hCN2 (by simp)⟩
    ·rw[if_pos he] at hE
     rw[←hE] at hK
     simp (config:={maxSteps:=1000000}) (disch:=(first|assumption|omega|exact old_n (by omega)|exact old_hp (by assumption)|(simp only[nmL]<;>omega))) only[go_sem,seval,hr2.wf',a1,a2,a3,a4,a5,he]
     exact hK _ (hC0N.trans hCN2 (by simp))
   ·rw[List.drop_of_length_le (by simp;omega),bodsE] at hE
    rw[←hE] at hK
    obtain ⟨N2,hr2,hC2'⟩:=bod_p hR hC0N gmN omN hr
    simp (config:={maxSteps:=1000000}) (disch:=(first|assumption|omega|exact old_n (by omega)|exact old_hp (by assumption)|(simp only[nmL]<;>omega))) only[go_sem,seval,a1,a2,a3,a4,a5,gN,hp_nil,hr2.wf']
    exact hK _ (hC0N.trans hC2' (by simp))
 ·rw[if_pos h0] at hK
  simp (config:={maxSteps:=1000000}) (disch:=(first|assumption|omega|exact old_n (by omega)|exact old_hp (by assumption)|(simp only[nmL]<;>omega))) only[go_sem,seval,hM0,g0,hr1.wf',h0]
  exact hK _ hC01
end FR
open Go Nm Go.Proofs
namespace FR
set_option linter.unusedSimpArgs false
set_option linter.unusedVariables false
theorem fold_same {Z Z':List (List Nat)} (hZ:∀n,n∈Z↔n∈Z') (l:List Stm):∀st:WSt,st.2=none->(foldS (Rdf Z') l st).1.2=(foldS (Bdf Z) l st).1.2:=by
 induction l with
 |nil=>intro st h;rfl
 |cons x l ih=>
  intro st h
  have hex:(∃n∈x.own,n∈Z')↔∃n∈x.own,n∈Z:=by simp only[hZ]
  have hR:Rdf Z' st x=(((x.own.foldl insN st.1.1,st.1.2+x.own.length),rsO x.a (errR Z' (x.own.foldl insN st.1.1) x)),decide (errR Z' (x.own.foldl insN st.1.1) x=0)):=rfl
  have stop:∀e:Int,e≠0->errR Z' (x.own.foldl insN st.1.1) x=e->(Bdf Z st x).2=false->(Bdf Z st x).1.2=some (x.a,e)->(foldS (Rdf Z') (x::l) st).1.2=(foldS (Bdf Z) (x::l) st).1.2:=by
   intro e he h1 h2 h3
   have hr2:(Rdf Z' st x).2=false:=by rw[hR,h1];exact decide_eq_false he
   rw[foldS,foldS,hr2,h2,if_neg (by simp),if_neg (by simp),h3,hR,h1]
   exact if_neg he
  by_cases h1:(x.k=1∨x.k=2∨x.k=3)/\x.ce∉Z
  ·have h1':(x.k=1∨x.k=2∨x.k=3)/\x.ce∉Z':=⟨h1.1,fun q=>h1.2 ((hZ _).2 q)⟩
   have hB:Bdf Z st x=((st.1,some (x.a,4)),false):=if_pos h1
   refine stop 4 (by decide) ?_ (by rw[hB]) (by rw[hB])
   unfold errR e6;rw[if_pos h1'];simp
  ·have h1':¬((x.k=1∨x.k=2∨x.k=3)/\x.ce∉Z'):=fun q=>h1 ⟨q.1,fun z=>q.2 ((hZ _).1 z)⟩
   by_cases h2:∃n∈x.own,n∈Z
   ·have hB:Bdf Z st x=((st.1,some (x.a,6)),false):=by unfold Bdf;rw[if_neg h1,if_pos h2]
    refine stop 6 (by decide) ?_ (by rw[hB]) (by rw[hB])
    have e1:e6 Z' (if (x.k=1∨x.k=2∨x.k=3)/\x.ce∉Z' then 4 else 0) x.own=6:=by unfold e6;rw[if_neg h1',if_pos ⟨rfl,hex.2 h2⟩]
    unfold errR;rw[e1,if_neg (by simp)]
   ·have h2':¬(True/\∃n∈x.own,n∈Z'):=fun q=>h2 (hex.1 q.2)
    have e0:e6 Z' (if (x.k=1∨x.k=2∨x.k=3)/\x.ce∉Z' then 4 else 0) x.own=0:=by
     unfold e6;rw[if_neg h1',if_neg fun q=>h2 (hex.1 q.2)]
    by_cases h3:12<(x.own.foldl insN st.1.1).length
    ·have hB:Bdf Z st x=(((x.own.foldl insN st.1.1,st.1.2+x.own.length),some (x.a,3)),false):=by unfold Bdf;rw[if_neg h1,if_neg h2,if_pos h3]
     refine stop 3 (by decide) ?_ (by rw[hB]) (by rw[hB])
     unfold errR;rw[e0,if_pos ⟨rfl,h3⟩]
    ·have hB:Bdf Z st x=(((x.own.foldl insN st.1.1,st.1.2+x.own.length),none),true):=by unfold Bdf;rw[if_neg h1,if_neg h2,if_neg h3]
     have hE:errR Z' (x.own.foldl insN st.1.1) x=0:=by unfold errR;rw[e0,if_neg fun q=>h3 q.2]
     have hR':Rdf Z' st x=(((x.own.foldl insN st.1.1,st.1.2+x.own.length),none),true):=by rw[hR,hE];rfl
     rw[foldS,foldS,hB,hR',if_pos rfl,if_pos rfl]
     exact ih _ rfl
theorem wlk_bod {Z Z':List (List Nat)} (hZ:∀n,n∈Z↔n∈Z') (l:List Stm):(wlkF Z' l (([],0),none)).2=bodE Z l:=by
 unfold wlkF bodE
 rw[if_pos rfl]
 exact fold_same hZ _ _ rfl
theorem bod_ok {Z:List (List Nat)} {l:List Stm} (h:rsE (bodE Z l)=0):bodE Z l=none:=by
 have h1:=(wlk_n (Z:=Z) (allL l) (([],0),none)).2.1
 rw[←wlkF_eq,wlk_bod (Z:=Z) (Z':=Z) (fun _=>Iff.rfl)] at h1
 exact Decidable.byContradiction fun q=>h1 q rfl h
theorem setC_mem (p:Prg) (n:List Nat):n∈setC p↔n∈p.cs.map (·.1):=by unfold setC;rw[mem_foldN];simp
theorem fnd_take {l:List (List Nat)} {s:List Nat} {i:Nat} (hi:i<l.length) (hs:l[i]=s):fndI l s<i↔s∈l.take i:=by
 have hm:0<=fndI l s:=fndI_mem.2 (hs▸List.getElem_mem hi)
 have key:∃j:Nat,fndI l s=j/\∃h:j<l.length,l[j]=s/\∀k (hk:k<j),l[k]'(by omega)≠s:=by
  unfold fndI at hm ⊢
  cases hf:l.findIdx? (fun a=>decide (s=a)) with
  |none=>rw[hf] at hm;dsimp only at hm;omega
  |some j=>
   obtain ⟨h,h1,h2⟩:=List.findIdx?_eq_some_iff_getElem.mp hf
   exact ⟨j,rfl,h,by simpa using (of_decide_eq_true h1).symm,fun k hk q=>by have:=h2 k hk;simp[q] at this⟩
 obtain ⟨j,hj,hl,h1,h2⟩:=key
 rw[hj]
 constructor
 ·intro h
  rw[←h1]
  exact List.mem_take_iff_getElem.2 ⟨j,by omega,rfl⟩
 ·intro h
  obtain ⟨k,hk,e⟩:=List.mem_take_iff_getElem.1 h
  by_cases q:k<j
  ·exact absurd e (h2 k q)
  ·omega
end FR
open Go Nm Go.Proofs
namespace FR
set_option linter.unusedSimpArgs false
set_option linter.unusedVariables false
theorem chk_r {m:NH} {T:D4->Prop} {p:Prg} {vc vt vr:NV} (h:RP m T p vc vt vr) (hs:p.cs.length<=1000000/\p.ts.length<=1000000) (hz:∀t∈p.ts,szB t.2<=10000000) (hr:szB p.r<=10000000):
 ∃m',Ret Try.prog S0 14 [.agg [vc,vt,vr]] m (.tup [ii (chkE p).1,ii (chkE p).2]) m'/\Chg [] m m':=by
 refine WF.ex1 fun K hK=> ?_
 refine WF.of_wpG (fun _=>rfl) nf14_eq (L:= [(.e,.agg [vc,vt,vr])]) rfl ?_
 unfold nf14
 obtain ⟨hcs,hts⟩:=hs
 generalize hM0:hp [(.n 0,.cells true [vc,vt,vr])] 1 m=M
 have hC0:Chg [] m M:=by rw[←hM0];exact hp_of rfl
 have g0:M.get (na m 0)=some (.cells true [vc,vt,vr]):=by rw[←hM0];exact h_getN
 have o0:Old M (na m 0):=by rw[←hM0];exact old_n (by omega)
 have h:=h.stays (stN hC0 T)
 obtain ⟨Ct,hT⟩:=h.t
 obtain ⟨Cr,hR⟩:=h.r
 have hlc:=h.c.len
 rw[List.length_map] at hlc
 have hlt:=hT.sl.len
 rw[hT.len] at hlt
 have hvs:sameV 4 vc vc=true:=h.c.same
 have hv1:=h.c.one
 unfold chkE headE at hK
 by_cases hb:16<p.cs.length∨p.ts.length=0∨4<p.ts.length
 ·rw[if_pos hb,if_pos (by decide)] at hK
  rcases hb with hb|hb|hb
  ·simp (config:={maxSteps:=1000000}) (disch:=(first|assumption|omega|exact old_n (by omega)|exact old_hp (by assumption)|(simp only[nmL]<;>omega))) only[go_sem,seval,hM0,g0,hlc,hlt,hb]
   exact hK _ hC0
  ·by_cases hb2:16<p.cs.length
   ·simp (config:={maxSteps:=1000000}) (disch:=(first|assumption|omega|exact old_n (by omega)|exact old_hp (by assumption)|(simp only[nmL]<;>omega))) only[go_sem,seval,hM0,g0,hlc,hlt,hb2]
    exact hK _ hC0
   ·simp (config:={maxSteps:=1000000}) (disch:=(first|assumption|omega|exact old_n (by omega)|exact old_hp (by assumption)|(simp only[nmL]<;>omega))) only[go_sem,seval,hM0,g0,hlc,hlt,hb,hb2]
    exact hK _ hC0
  ·by_cases hb2:16<p.cs.length
   ·simp (config:={maxSteps:=1000000}) (disch:=(first|assumption|omega|exact old_n (by omega)|exact old_hp (by assumption)|(simp only[nmL]<;>omega))) only[go_sem,seval,hM0,g0,hlc,hlt,hb2]
    exact hK _ hC0
   ·simp (config:={maxSteps:=1000000}) (disch:=(first|assumption|omega|exact old_n (by omega)|exact old_hp (by assumption)|(simp only[nmL]<;>omega))) only[go_sem,seval,hM0,g0,hlc,hlt,hb,hb2]
    exact hK _ hC0
 rw[if_neg hb] at hK
 have hb1:¬16<p.cs.length:=fun q=>hb (Or.inl q)
 have hb2:p.ts.length≠0:=fun q=>hb (Or.inr (Or.inl q))
 have hb3:¬4<p.ts.length:=fun q=>hb (Or.inr (Or.inr q))
 have hE0:cellsE ((((p.cs.map (·.1)).take 0).foldl insN [])) 0 (p.cs.drop 0)=cellsE [] 0 p.cs:=rfl
 simp (config:={maxSteps:=1000000}) (disch:=(first|assumption|omega|exact old_n (by omega)|exact old_hp (by assumption)|(simp only[nmL]<;>omega))) only[go_sem,seval,hM0,g0,hlc,hlt]
 refine W.loop (fun k d=>∃t i w,d=⟨t, [],none,M⟩/\NT.get D4.e.a t=some (.ptr (na m 0) 0)/\NT.get D4.e.f t=some (ii w)/\NT.get D4.e.a.a t=some (ii (i:Nat))/\i+k=p.cs.length/\0<=w/\w<=64/\cellsE (((p.cs.map (·.1)).take i).foldl insN []) w (p.cs.drop i)=cellsE [] 0 p.cs) ?_ p.cs.length _ ⟨_,0,0,rfl,by simp only[go_sem,seval],by simp only[go_sem,seval],by simp only[go_sem,seval]<;>rfl,by omega,by omega,by omega,rfl⟩
 rintro k d ⟨t,i,w,rfl,g1,g2,g3,hik,hw0,hw,hE⟩
 apply wp_sound
 unfold nf14_l3
 change wp _ _ _ _ ⟨puts [] t, [],none,M⟩ _
 by_cases hi:i<p.cs.length
 ·obtain ⟨id,off,wr,c,a1,a2,a3,a4,a5⟩:=h.c.at i (by simpa using hi)
  rw[List.getElem_map] at a5
  have htk:((p.cs.map (·.1)).take (i+1)).foldl insN []=insN (((p.cs.map (·.1)).take i).foldl insN []) p.cs[i].1:=by
   rw[List.take_add_one,List.getElem?_map,List.getElem?_eq_getElem hi,List.foldl_append];rfl
  have hfs:=find_r h.c hcs p.cs[i].1
  have hft:=fnd_take (l:=p.cs.map (·.1)) (s:=p.cs[i].1) (i:=i) (by simpa using hi) (by simp)
  have hmem:p.cs[i].1∈((p.cs.map (·.1)).take i).foldl insN []↔p.cs[i].1∈(p.cs.map (·.1)).take i:=by rw[mem_foldN];simp
  have hpw:=power_r M p.cs[i].2
  rw[List.drop_eq_getElem_cons hi,cellsE,←htk] at hE
  generalize hcc:p.cs[i]=cc at hE a5 hfs hft hmem hpw
  obtain ⟨nm,s⟩:=cc
  dsimp only at hE a5 hfs hft hmem hpw
  have c0:c[off+0]? =some (.str nm):=cell_at a5 0 (by omega)
  have c1:c[off+1]? =some (ii s):=cell_at a5 1 (by omega)
  have hfb:=fndI_lt (l:=p.cs.map (·.1)) (x:=nm)
  by_cases hin:nm∈(p.cs.map (·.1)).take i
  ·rw[if_pos (hmem.2 hin)] at hE
   have hlt':=hft.2 hin
   generalize fndI (p.cs.map (·.1)) nm=z at hfs hlt' hfb
   rw[←hE,if_pos (show (5:Int)≠0 by decide),if_pos (show (5:Int)≠0 by decide)] at hK
   simp (config:={maxSteps:=1000000}) (disch:=(first|assumption|omega|exact old_n (by omega)|exact old_hp (by assumption)|(simp only[nmL]<;>omega))) only[go_sem,seval,g1,g2,g3,g0,hlc,a1,a2,c0,c1,hvs,hfs.wf']
   exact hK _ hC0
  ·rw[if_neg fun q=>hin (hmem.1 q)] at hE
   have hge:¬fndI (p.cs.map (·.1)) nm<i:=fun q=>hin (hft.1 q)
   generalize fndI (p.cs.map (·.1)) nm=z at hfs hge hfb
   by_cases hp:powS s=false
   ·rw[if_pos hp] at hE
    rw[hp] at hpw
    rw[←hE,if_pos (show (7:Int)≠0 by decide),if_pos (show (7:Int)≠0 by decide)] at hK
    simp (config:={maxSteps:=1000000}) (disch:=(first|assumption|omega|exact old_n (by omega)|exact old_hp (by assumption)|(simp only[nmL]<;>omega))) only[go_sem,seval,g1,g2,g3,g0,hlc,a1,a2,c0,c1,hvs,hfs.wf',hpw.wf']
    exact hK _ hC0
   ·rw[if_neg hp] at hE
    have hpt:powS s=true:=by simpa using hp
    rw[hpt] at hpw
    obtain ⟨p1,p2,-⟩:=of_decide_eq_true hpt
    by_cases h64:64 - w<s
    ·rw[if_pos h64] at hE
     rw[←hE,if_pos (show (3:Int)≠0 by decide),if_pos (show (3:Int)≠0 by decide)] at hK
     simp (config:={maxSteps:=1000000}) (disch:=(first|assumption|omega|exact old_n (by omega)|exact old_hp (by assumption)|(simp only[nmL]<;>omega))) only[go_sem,seval,g1,g2,g3,g0,hlc,a1,a2,c0,c1,hvs,hfs.wf',hpw.wf']
     exact hK _ hC0
    ·rw[if_neg h64] at hE
     simp (config:={maxSteps:=1000000}) (disch:=(first|assumption|omega|exact old_n (by omega)|exact old_hp (by assumption)|(simp only[nmL]<;>omega))) only[go_sem,seval,g1,g2,g3,g0,hlc,a1,a2,c0,c1,hvs,hfs.wf',hpw.wf']
     exact ⟨k - 1,by omega,_,i+1,w+s,by rfl,by simp only[go_sem,seval,g1],by simp only[go_sem,seval],by simp only[go_sem,seval]<;>rfl,by omega,by omega,by omega,hE⟩
 ·rw[List.drop_of_length_le (by omega),cellsE] at hE
  rw[←hE,if_neg (show ¬(0:Int)≠0 by decide)] at hK
  simp (config:={maxSteps:=1000000}) (disch:=(first|assumption|omega|exact old_n (by omega)|exact old_hp (by assumption)|(simp only[nmL]<;>omega))) only[go_sem,seval,g1,g2,g3,g0,hlc]
  clear hik hw0 hw hE hE0
  refine W.loop (fun k d=>∃t i,d=⟨t, [],none,M⟩/\NT.get D4.e.a t=some (.ptr (na m 0) 0)/\NT.get D4.e.a.b t=some (ii (i:Nat))/\i+k=p.ts.length/\twiceE (((p.ts.map (·.1)).take i).foldl insN []) ((p.ts.map (·.1)).drop i)=twiceE [] (p.ts.map (·.1))) ?_ p.ts.length _ ⟨_,0,rfl,by simp only[go_sem,seval,g1],by simp only[go_sem,seval]<;>rfl,by omega,rfl⟩
  clear g1 g2 g3 hi
  rintro k d ⟨t,i,rfl,g1,g2,hik,hE⟩
  apply wp_sound
  unfold nf14_l2
  change wp _ _ _ _ ⟨puts [] t, [],none,M⟩ _
  by_cases hi:i<p.ts.length
  ·obtain ⟨vbi,Bi,idi,offi,wri,ci,-,a1,a2,a3,a4,a5⟩:=hT.at i hi
   have ci0:ci[offi+0]? =some (.str p.ts[i].1):=cell_at a5 0 (by omega)
   have htk:((p.ts.map (·.1)).take (i+1)).foldl insN []=insN (((p.ts.map (·.1)).take i).foldl insN []) p.ts[i].1:=by
    rw[List.take_add_one,List.getElem?_map,List.getElem?_eq_getElem hi,List.foldl_append];rfl
   have hmem:p.ts[i].1∈((p.ts.map (·.1)).take i).foldl insN []↔p.ts[i].1∈(p.ts.map (·.1)).take i:=by rw[mem_foldN];simp
   rw[List.drop_eq_getElem_cons (by simpa using hi),List.getElem_map,twiceE,←htk] at hE
   simp (config:={maxSteps:=1000000}) (disch:=(first|assumption|omega|exact old_n (by omega)|exact old_hp (by assumption)|(simp only[nmL]<;>omega))) only[go_sem,seval,g1,g2,g0,hlt]
   refine W.loop (fun kk d=>∃t j,d=⟨t, [],none,M⟩/\NT.get D4.e.a t=some (.ptr (na m 0) 0)/\NT.get D4.e.a.b t=some (ii (i:Nat))/\NT.get D4.e.a.c t=some (ii (j:Nat))/\j+kk=i/\∀q (h1:q<j) (h2:q<p.ts.length),p.ts[q].1≠p.ts[i].1) ?_ i _ ⟨_,0,rfl,by simp only[go_sem,seval,g1],by simp only[go_sem,seval,g2],by simp only[go_sem,seval]<;>rfl,by omega,by simp⟩
   clear g1 g2
   rintro kk d ⟨t,j,rfl,g1,g2,g3,hjk,hno⟩
   apply wp_sound
   unfold nf14_l1
   change wp _ _ _ _ ⟨puts [] t, [],none,M⟩ _
   by_cases hj:j<i
   ·obtain ⟨vbj,Bj,idj,offj,wrj,cj,-,b1,b2,b3,b4,b5⟩:=hT.at j (by omega)
    have cj0:cj[offj+0]? =some (.str p.ts[j].1):=cell_at b5 0 (by omega)
    have hts':sameV 4 vt vt=true:=hT.sl.same
    by_cases he:p.ts[j].1=p.ts[i].1
    ·have hin:p.ts[i].1∈(p.ts.map (·.1)).take i:=List.mem_take_iff_getElem.2 ⟨j,by simp;omega,by simpa using he⟩
     rw[if_pos (hmem.2 hin)] at hE
     rw[←hE,if_pos (show (5:Int)≠0 by decide)] at hK
     simp (config:={maxSteps:=1000000}) (disch:=(first|assumption|omega|exact old_n (by omega)|exact old_hp (by assumption)|(simp only[nmL]<;>omega))) only[go_sem,seval,g1,g2,g3,g0,hlt,a1,a2,ci0,b1,b2,cj0,he,hts']
     exact hK _ hC0
    ·simp (config:={maxSteps:=1000000}) (disch:=(first|assumption|omega|exact old_n (by omega)|exact old_hp (by assumption)|(simp only[nmL]<;>omega))) only[go_sem,seval,g1,g2,g3,g0,hlt,a1,a2,ci0,b1,b2,cj0,he,hts']
     refine ⟨kk - 1,by omega,_,j+1,by rfl,by simp only[go_sem,seval,g1],by simp only[go_sem,seval,g2],by simp only[go_sem,seval]<;>rfl,by omega,fun q h1 h2=> ?_⟩
     rcases Nat.lt_or_ge q j with h3|h3
     ·exact hno q h3 h2
     ·obtain rfl:q=j:=by omega
      exact he
   ·have hnin:p.ts[i].1∉(p.ts.map (·.1)).take i:=fun q=>by
     obtain ⟨y,hy,e⟩:=List.mem_take_iff_getElem.1 q
     exact hno y (by omega) (by simp at hy;omega) (by simpa using e)
    rw[if_neg fun q=>hnin (hmem.1 q)] at hE
    simp (config:={maxSteps:=1000000}) (disch:=(first|assumption|omega|exact old_n (by omega)|exact old_hp (by assumption)|(simp only[nmL]<;>omega))) only[go_sem,seval,g1,g2,g3,g0,hlt]
    exact ⟨k - 1,by omega,_,i+1,by rfl,by simp only[go_sem,seval,g1],by simp only[go_sem,seval]<;>rfl,by omega,hE⟩
  ·rw[List.drop_of_length_le (by simp;omega),twiceE] at hE
   rw[←hE,if_neg (show ¬(0:Int)≠0 by decide)] at hK
   simp (config:={maxSteps:=1000000}) (disch:=(first|assumption|omega|exact old_n (by omega)|exact old_hp (by assumption)|(simp only[nmL]<;>omega))) only[go_sem,seval,g1,g2,g0,hlt]
   clear hik hE
   generalize hZ:setC p=Z at hK
   have hZm:∀n,n∈Z↔n∈p.cs.map (·.1):=fun n=>hZ▸setC_mem p n
   generalize htot:bodsE Z p.r (p.ts.map (·.2))=tot at hK
   refine W.loop (fun k d=>∃t N i,d=⟨t, [],none,N⟩/\NT.get D4.e.a t=some (.ptr (na m 0) 0)/\NT.get D4.e.a.f t=some (ii (i:Nat))/\i+k=p.ts.length+1/\Chg [] M N/\((i<=p.ts.length/\bodsE Z p.r ((p.ts.map (·.2)).drop i)=tot)∨(i=p.ts.length+1/\tot=(0,0)))) ?_ (p.ts.length+1) _ ⟨_,M,0,rfl,by simp only[go_sem,seval,g1],by simp only[go_sem,seval]<;>rfl,by omega,Chg.refl M,Or.inl ⟨by omega,htot⟩⟩
   clear g1 g2 hi htot
   rintro k d ⟨t,N,i,rfl,g1,g2,hik,hC,hE⟩
   apply wp_sound
   unfold nf14_l4
   change wp _ _ _ _ ⟨puts [] t, [],none,N⟩ _
   have gN:=(hC.get o0 (by simp)).trans g0
   have oN:=hC.old o0
   have hN0:=hC0.trans hC (by simp)
   rcases hE with ⟨hi,hE⟩|⟨hi,hE⟩
   ·have hcN:=h.c.chg hC fun _ _=>by simp
    generalize hN1:hp [(.n 0,.cells true [vc,.nils,ii 0,ii 0])] 1 N=N1
    have hC1:Chg [] N N1:=by rw[←hN1];exact hp_of rfl
    have hW1:Wk (na N 0) N N vc .nils [] 0 0 N1:=⟨by rw[←hN1];exact h_getN,by rw[←hN1];exact old_n (by omega),Own.nil,by simp[ids],hC1,fun _ ho=>hC1.old ho⟩
    have gN1:=(hC1.get oN (by simp)).trans gN
    have oN1:=hC1.old oN
    have hwalk:∀{vb:NV} {b:List Stm} {Bb:List (List NV)},SS M T vb b Bb->szB b<=10000000->∃N2,Ret Try.prog S0 52 [.ptr (na N 0) 0,vb] N1 (.tup []) N2/\(∃u,N2.get (na N 0)=some (.cells true [vc,u,ii (rsE (bodE Z b)),ii (rsA (bodE Z b))]))/\Old N2 (na N 0)/\Chg [] N N2/\N2.get (na m 0)=some (.cells true [vc,vt,vr]):=by
     intro vb b Bb hb hsb
     have hle:=(allL_sz b).2
     obtain ⟨N2,hr2,u2,hW2,hC2,-⟩:=walk_r (T:=T) hcN hcs (fun _ ho=>ho) na_old na_old b (st:=(([],0),none)) (hb.stays (stN hC T)) hW1 (fun q=>absurd rfl q) (by simp) (by dsimp only;omega) (by omega)
     rw[wlk_bod hZm] at hW2
     have hC2':Chg [na N 0] N1 N2:=hC2.weak (by simp[ids])
     exact ⟨N2,hr2,⟨u2,hW2.g⟩,hW2.o,hW2.c,(hC2'.get oN1 (by simpa using oN.ne 0)).trans gN1⟩
    by_cases hl:i<p.ts.length
    ·obtain ⟨vb,Bb,id,off,wr,c,hSb,a1,a2,a3,a4,a5⟩:=hT.at i hl
     have c1:c[off+1]? =some vb:=cell_at a5 1 (by omega)
     have a2':=((hC.trans hC1 (by simp)).get a3 (by simp)).trans a2
     obtain ⟨N2,hr2,⟨u2,gk⟩,ok,hC2,g02⟩:=hwalk hSb (hz _ (List.getElem_mem hl))
     rw[List.drop_eq_getElem_cons (by simpa using hl),List.getElem_map,bodsE] at hE
     rw[←hp_nil N]
     by_cases he:rsE (bodE Z p.ts[i].2)=0
     ·rw[if_neg (by simp[he])] at hE
      rw[he] at gk
      simp (config:={maxSteps:=1000000}) (disch:=(first|assumption|omega|exact old_n (by omega)|exact old_hp (by assumption)|(simp only[nmL]<;>omega))) only[go_sem,seval,g1,g2,gN,hlt,hv1,hN1,gN1,a1,a2',c1,hr2.wf',gk]
      exact ⟨k - 1,by omega,_,N2,i+1,by rfl,by simp only[go_sem,seval,g1],by simp only[go_sem,seval]<;>rfl,by omega,hC.trans hC2 (by simp),Or.inl ⟨by omega,hE⟩⟩
     ·rw[if_pos he] at hE
      rw[←hE] at hK
      simp (config:={maxSteps:=1000000}) (disch:=(first|assumption|omega|exact old_n (by omega)|exact old_hp (by assumption)|(simp only[nmL]<;>omega))) only[go_sem,seval,g1,g2,gN,hlt,hv1,hN1,gN1,a1,a2',c1,hr2.wf',gk,he]
      exact hK _ (hN0.trans hC2 (by simp))
    ·obtain ⟨N2,hr2,⟨u2,gk⟩,ok,hC2,g02⟩:=hwalk hR hr
     rw[List.drop_of_length_le (by simp;omega),bodsE] at hE
     rw[←hp_nil N]
     by_cases he:rsE (bodE Z p.r)=0
     ·rw[bod_ok he] at hE gk
      simp (config:={maxSteps:=1000000}) (disch:=(first|assumption|omega|exact old_n (by omega)|exact old_hp (by assumption)|(simp only[nmL]<;>omega))) only[go_sem,seval,g1,g2,gN,hlt,hv1,hN1,gN1,hr2.wf',gk,rsE,rsA]
      exact ⟨k - 1,by omega,_,N2,i+1,by rfl,by simp only[go_sem,seval,g1],by simp only[go_sem,seval]<;>rfl,by omega,hC.trans hC2 (by simp),Or.inr ⟨by omega,hE.symm⟩⟩
     ·rw[←hE] at hK
      simp (config:={maxSteps:=1000000}) (disch:=(first|assumption|omega|exact old_n (by omega)|exact old_hp (by assumption)|(simp only[nmL]<;>omega))) only[go_sem,seval,g1,g2,gN,hlt,hv1,hN1,gN1,hr2.wf',gk,he]
      exact hK _ (hN0.trans hC2 (by simp))
   ·rw[hE] at hK
    simp (config:={maxSteps:=1000000}) (disch:=(first|assumption|omega|exact old_n (by omega)|exact old_hp (by assumption)|(simp only[nmL]<;>omega))) only[go_sem,seval,g1,g2,gN,hlt]
    exact hK _ hN0
end FR
