/- A machine that runs the given program with memory and order of evaluation taken apart from the model's, the proof that what it answers is what the model answers, and rules to reason of its runs. Part 4 of 4. -/
import Derived.WideKeyArgs
import Derived.Carry
import Derived.ChangeArms
import Derived.HandedShaped
import Derived.Test.YtbialplfjdpkiaaPlmC
set_option linter.unusedVariables false
set_option linter.defProp false
namespace Nm
open Go Go.RowKit
variable {v:NV}
theorem gO {k:D4} {L:List (D4×NV)} {t:Tm}:NT.put k v (ap L t)=ap ((k,v)::L) t:=_root_.id rfl
theorem zp {k:D4} {L:List (D4×NV)} {t:Tm}:NT.put k v (ap L t)=ap ((k,v)::L) t:=_root_.id rfl
theorem zX {m:NH} {id:D4}:(hp [] 0 m).get id=m.get id:=by rw[ag]
section
variable {P:Program} {S:Nat->List NV->Option NV}
end
theorem z9 {e bytes:Nat} {m m':NH} {x v':NV} (h:u7 e bytes m v x= .mem v' m'):∀i∈ids v',i∈ids v∨¬aI m i:=by
 have hn:¬aI m m.next:=fun q=>Nat.lt_irrefl _ q
 have new:∀{a b c d:Nat},∀i∈ids (.slc m.next a b c d),i∈ids v∨¬aI m i:=by
  intro a b c d i hi
  rcases List.mem_cons.mp hi with rfl|hi
  ·exact Or.inr hn
  ·exact Fy hi (by simp)
 have key:∀(k:Nat) (nw:List NV),di e bytes m v k nw= .mem v' m'->∀i∈ids v',i∈ids v∨¬aI m i:=by
  intro k nw h
  cases v with
  |nils=>
   cases k with
   |zero=>cases h
   |succ k=>
    obtain ⟨-,h⟩:=az (show cond (room (k+1) bytes) (m.new (.cells true nw) fun id h=>NR.mem (.slc id 0 (k+1) e (k+1)) h) .fail=_ from h) (by simp)
    rw[NH.new_eq] at h;cases h;exact new
  |slc id off len e' kc=>
   cases k with
   |zero=>
    obtain ⟨-,h⟩:=az (show cond (Nat.beq e' e) (NR.val (.slc id off len e' kc)) .fail=_ from h) (by simp)
    cases h
   |succ k=>
    obtain ⟨-,h⟩:=az (show cond (Nat.beq e' e) (cM m id fun c=>ak (Nat.add len (k+1)) fun n=>cond (Nat.ble n kc)
     (aC (cl nw (Nat.add off (Nat.mul len e)) c) fun c=>m.set id (.cells true c) fun h=>NR.mem (.slc id off n e kc) h)
     (aC (cj off c) fun c=>aC (d6 (Nat.mul len e) c) fun old=>cond (room n bytes)
      (eL old nw fun l=>m.set id .dead fun h=>h.new (.cells true l) fun id h=>NR.mem (.slc id 0 n e n) h) .fail)) .fail=_ from h) (by simp)
    obtain ⟨c,-,h⟩:=cO h (by simp)
    rw[af] at h
    cases hb:Nat.ble (Nat.add len (k+1)) kc with
    |true=>
     rw[hb] at h
     obtain ⟨c',-,h⟩:=aw h (by simp)
     rw[NH.set_eq] at h
     cases h
     exact fun i hi=>Or.inl hi
    |false=>
     rw[hb] at h
     obtain ⟨c',-,h⟩:=aw h (by simp)
     obtain ⟨c'',-,h⟩:=aw h (by simp)
     obtain ⟨-,h⟩:=az h (by simp)
     rw[dc,NH.set_eq,NH.new_eq] at h
     cases h
     exact new
  |_=>cases h
 unfold u7 at h
 cases x with
 |nils=>exact key 0 [] h
 |slc id off len esz kc=>
  obtain ⟨-,h⟩:=az (show cond (Nat.beq esz e) (bo m id (fun c=>aC (cV c off (Nat.mul len e)) fun l=>di e bytes m v len l)) .fail=_ from h) (by simp)
  unfold bo at h
  split at h
  ·obtain ⟨l,-,h⟩:=aw h (by simp)
   exact key _ _ h
  ·cases h
 |_=>cases h
theorem c9.app2 {B m:NH} {e:Nat} {C:List (List NV)} {x:D4} {w:Bool} {cs:List NV} {kc bytes:Nat} (hv:c9 B m v e C) (hx:m.get x=some (.cells w cs)) (hox:aI m x) (hl:cs.length=e) (hB:∀id,aI B id->aI m id)
 (hr:(C.length+1)*bytes<=1099511627776) (hr':C.length+1<=1099511627776):∃v' m',u7 e bytes m v (.slc x 0 1 e kc)= .mem v' m'/\c9 B m' v' e (C++ [cs])/\Chg (ids v) m m'/\∀i∈ids v',i∈ids v∨¬aI m i:=by
 obtain ⟨v',m',h1,h2,h3⟩:=hv.app1 (bytes:=bytes) (kc:=kc) hx hox hl hB hr hr'
 exact ⟨v',m',h1,h2,h3,z9 h1⟩
section
variable {P:PE} {S:Nat->List NV->Option NV} {dst:D4} {L:List (D4×NV)} {t:Tm} {dfs:List Dfr} {ctx:Option NV} {l:List NOper} {K:Dyn->Prop} {B m:NH} {v:NV} {e:Nat} {C:List (List NV)} {x:D4} {w:Bool} {cs:List NV} {kc bytes:Nat}
end
section
variable {P:Program} {S:Nat->List NV->Option NV} {f:Nat} {args:List NV} {m:NH} {K:NV->NH->Prop}
variable {E:NV->NH->Prop}
end
section
variable {P:PE} {S:Nat->List NV->Option NV} {r:Option D4} {a b:NC} {d:Dyn} {Q:Out->Dyn->Prop}
end
section
variable {P:Program} {S:Nat->List NV->Option NV} {q:D4} {args:List NV} {m:NH} {K:NV->NH->Prop}
end
section
variable {P:Program} {S:Nat->List NV->Option NV} {f:Nat} {q:D4} {args:List NV} {m:NH}
theorem WF.ex1  {Φ:NH->Prop} (h:∀K:NV->NH->Prop,(∀m',Φ m'->K v m')->WF P S f args m K):∃m',mF P S f args m v m'/\Φ m':=by
 obtain ⟨w,m',h1,rfl,h2⟩:=WF.ret (h (fun w m'=>w=v/\Φ m') fun m' h=>⟨rfl,h⟩)
 exact ⟨m',h1,h2⟩
theorem WY.ex1  {Φ:NH->Prop} (h:∀K:NV->NH->Prop,(∀m',Φ m'->K v m')->WY P S q args m K):∃m',lU P S q args m v m'/\Φ m':=by
 obtain ⟨w,m',h1,rfl,h2⟩:=WY.ret (h (fun w m'=>w=v/\Φ m') fun m' h=>⟨rfl,h⟩)
 exact ⟨m',h1,h2⟩
end
end Nm
namespace Nm
open Go Go.RowKit
variable {P:Program} {W:World} {H:Type} {base:Nat} {ι:aH} {T ts:List TypeId} {S:Nat->List NV->Option NV} {sp:Nat->Bool}
def lu (P:Program):List Field->Nat->Nat->Bool
 | [],o,n=>o==n
 |f::fs,o,n=>(f.offset==o)&&lu P fs (o+P.cellsOf f.type) n
def fS (P:Program) (T:List TypeId) (t:TypeId):Bool:=match P.underlying t with
 |some .bool|some (.int _)|some .string=>true
 |some (.slice e)=>T.contains e&&decide (0<P.cellsOf e)
 |some (.struct fs)=>fs.toList.all (fun f=>T.contains f.type)&&lu P fs.toList 0 (P.cellsOf t)
 |_=>false
def qA (P:Program) (T:List TypeId):Bool:=T.all (fS P T)
mutual
inductive Ty (P:Program) (m:NH):TypeId->List NV->Prop
 |bool {t:TypeId} (ht:P.underlying t=some .bool) (b:Bool):Ty P m t [.bool b]
 |int {t:TypeId} {k:IntKind} (ht:P.underlying t=some (.int k)) (n:Int) (h:(Lit.int k n).wf=true):Ty P m t [.int k (.lit n)]
 |str {t:TypeId} (ht:P.underlying t=some .string) (l:List Nat) (h:∀b∈l,b<256) (hl:l.length<=maxLen):Ty P m t [.str l]
 |slc {t e:TypeId} (ht:P.underlying t=some (.slice e)) (v:NV) (C:List (List NV)) (hS:Sl m v (P.cellsOf e) C) (hl:C.length<=maxLen) (h:∀c∈C,Ty P m e c):Ty P m t [v]
 |struct {t:TypeId} {fs:Array Field} (ht:P.underlying t=some (.struct fs)) (l:List NV) (h:TyL P m (fs.toList.map (·.type)) l):Ty P m t l
inductive TyL (P:Program) (m:NH):List TypeId->List NV->Prop
 |nil:TyL P m [] []
 |cons {t:TypeId} {ts:List TypeId} (a b:List NV) (h:Ty P m t a) (hl:TyL P m ts b):TyL P m (t::ts) (a++b)
end
mutual
theorem Ty.grew  {m m':NH} (hC:Chg [] m m'):∀{t:TypeId} {l:List NV},Ty P m t l->Ty P m' t l
 |_,_,.bool ht b=> .bool ht b
 |_,_,.int ht n h=> .int ht n h
 |_,_,.str ht l h hl=> .str ht l h hl
 |_,_,.slc ht v C hS hl h=> .slc ht v C (hS.grew hC) hl (fun c hc=>(h c hc).grew hC)
 |_,_,.struct ht l h=> .struct ht l (TyL.grew hC h)
theorem TyL.grew  {m m':NH} (hC:Chg [] m m'):∀{ts:List TypeId} {l:List NV},TyL P m ts l->TyL P m' ts l
 |_,_,.nil=> .nil
 |_,_,.cons a b h hl=> .cons a b (h.grew hC) (TyL.grew hC hl)
end
section
def Ro (P:Program) (W:World) (ι:aH) (m:NH):Prop:=Rel P ι W.heap.size m W/\∀i p,ι i=some p->¬Live (m.get i)
def ext (ι:aH) (i:D4) (p:Pl):aH:=fun j=>if j.toNat=i.toNat then some p else ι j
theorem Ro.add  {m:NH} (h:Ro P W ι m) {b o:Nat} {c:List NV} {cur:Array Value} {T:TypeId} {fz:Nat×Nat} (hb:W.heap[b]? =some (.cells cur T fz)) (hn:o+c.length<=cur.size)
 (hc:∀i v,c[i]? =some v->∃v',cur[o+i]? =some v'/\VR ι v v'/\v'.oneCell'=true):
 ∃ι' m',Ro P W ι' m'/\ι.le ι'/\Chg [] m m'/\ι' m.next=some ⟨b,o,cur.size⟩/\m'.get m.next=some (.cells false c)/\aI m' m.next:=by
 obtain ⟨hR,hL⟩:=h
 have hold:∀i p,ι i=some p->aI m i:=fun i p hi=>by
  obtain ⟨x,hx,_⟩:=hR.obj i p hi
  exact hR.fresh i x hx
 have hext:∀i p,ι i=some p->ext ι m.next ⟨b,o,cur.size⟩ i=some p:=fun i p hi=>by
  unfold ext;rw[Fz (Nat.ne_of_lt (hold i p hi))];exact hi
 have hle:ι.le (ext ι m.next ⟨b,o,cur.size⟩):=hext
 have hinv:∀i p,ext ι m.next ⟨b,o,cur.size⟩ i=some p->(i=m.next/\p=⟨b,o,cur.size⟩)∨(ι i=some p/\i≠m.next):=fun i p hi=>by
  unfold ext at hi
  by_cases e:i.toNat=m.next.toNat
  ·rw[FA e] at hi;injection hi with hi;exact Or.inl ⟨D4.toNat_inj e,hi.symm⟩
  ·rw[Fz e] at hi;exact Or.inr ⟨hi,fun q=>e (by rw[q])⟩
 have hnl:∀i p,ext ι m.next ⟨b,o,cur.size⟩ i=some p->¬Live ((m.add (.cells false c)).get i):=fun i p hi=>by
  rcases hinv i p hi with ⟨rfl,_⟩|⟨hi,hne⟩
  ·rw[NH.get_add_same];exact fun q=>q.2 c rfl
  ·rw[NH.get_add_ne _ _ hne];exact hL i p hi
 refine ⟨ext ι m.next ⟨b,o,cur.size⟩,m.add (.cells false c),⟨⟨?_, ?_, ?_, ?_, ?_⟩,hnl⟩,hle,Chg.add m _,by unfold ext;rw[FA rfl],NH.get_add_same m _,gv m _⟩
 ·intro i p hi
  rcases hinv i p hi with ⟨rfl,rfl⟩|⟨hi,hne⟩
  ·refine ⟨.cells false c,NH.get_add_same m _, ?_⟩
   show ∃(cur':Array Value) (T:TypeId) (fz:Nat×Nat),W.heap[b]? =some (.cells cur' T fz)/\(false=true->fz=(0,0))/\cur'.size=cur.size/\o+c.length<=cur.size/\∀i v,c[i]? =some v->∃v',cur'[o+i]? =some v'/\VR (ext ι m.next ⟨b,o,cur.size⟩) v v'/\v'.oneCell'=true
   refine ⟨cur,T,fz,hb,fun q=>Bool.noConfusion q,rfl,hn,fun i v hv=> ?_⟩
   obtain ⟨v',h1,h2,h3⟩:=hc i v hv
   exact ⟨v',h1,h2.mono hle,h3⟩
  ·obtain ⟨x,h1,h2⟩:=hR.obj i p hi
   exact ⟨x,(NH.get_add_ne m _ hne).trans h1,h2.mono hle rfl⟩
 ·intro i j p q hi hj hne hl _
  exact Fy hl (hnl i p hi)
 ·intro i p hi hl;exact Fy hl (hnl i p hi)
 ·intro i p hi
  rcases hinv i p hi with ⟨rfl,rfl⟩|⟨hi,_⟩
  ·exact (Array.getElem?_eq_some_iff.mp hb).1
  ·exact hR.lt i p hi
 ·intro i x hx
  by_cases e:i=m.next
  ·subst e;exact gv m _
  ·rw[NH.get_add_ne _ _ e] at hx
   exact (Chg.add m (.cells false c)).old (hR.fresh i x hx)
theorem Ro.nil (P:Program) (W:World):Ro P W ι0 ⟨.leaf,.e⟩:=⟨CO P W,fun i p h=>by cases h⟩
theorem tX (a:Addr) (j:Nat):(a.add j).block=a.block:=by unfold Addr.add;split<;>rfl
theorem xW (a:Addr) (j:Nat):(a.add j).off=a.off+j:=by
 unfold Addr.add;split
 ·rename_i h;subst h;rfl
 ·rfl
theorem pZ (a:Addr) (m n:Nat):(a.add m).add n=a.add (m+n):=by
 unfold Addr.add
 by_cases h:n=0
 ·subst h;simp
 ·by_cases h':m=0
  ·subst h';simp
  ·simp[h,h'];omega
theorem j5 {w:World} {a:Addr} {v:Value} (h:w.cell? a=some v):∃cur T fz,w.heap[a.block]? =some (.cells cur T fz)/\cur[a.off]? =some v:=by
 unfold World.cell? at h
 split at h
 ·rename_i cur T fz hb
  refine ⟨cur,T,fz,hb, ?_⟩
  split at h
  ·cases h
  ·exact h
 ·cases h
theorem VRL.append  {a:List NV} {a':List Value} {b:List NV} {b':List Value} (h:VRL ι a a') (k:VRL ι b b'):VRL ι (a++b) (a'++b'):=by
 induction a generalizing a' with
 |nil=>cases h;exact k
 |cons v l ih=>cases h with
  |cons _ v' _ l' h hl=>exact .cons _ _ _ _ h (ih hl)
def Cs (W:World) (ι:aH) (a:Addr) (l:List NV):Prop:=∀(j:Nat) (v:NV),l[j]? =some v->∃v',W.cell? (a.add j)=some v'/\VR ι v v'/\v'.oneCell'=true
theorem Cs.mono  {ι':aH} (hι:ι.le ι') {a:Addr} {l:List NV} (h:Cs W ι a l):Cs W ι' a l:=fun j v hv=>let ⟨v',h1,h2,h3⟩:=h j v hv;⟨v',h1,h2.mono hι,h3⟩
theorem xr  (hT:qA P T=true) (hne:∃(b:Nat) (cur:Array Value) (T:TypeId) (fz:Nat×Nat),W.heap[b]? =some (.cells cur T fz)) {enc:TypeId×Value->H}:∀(n:Nat) (t:TypeId),t∈T->∀(cs:List Value) (x:DataW H×List MemPlace),DataW.trod enc P W 0 (fun _=>true) true n t cs=some x->
 ∀(ι:aH) (m:NH),Ro P W ι m->∃ι' m' l,Ro P W ι' m'/\ι.le ι'/\Chg [] m m'/\VRL ι' l cs/\(∀v∈cs,v.oneCell'=true)/\Ty P m' t l:=by
 intro n
 induction n with
 |zero=>intro t _ cs x h;simp[DataW.trod] at h
 |succ n ih=>
  intro t ht cs x h ι m hR
  have hok:fS P T t=true:=List.all_eq_true.mp hT t ht
  unfold fS at hok
  split at hok
  ·rename_i hu
   obtain ⟨b,rfl,_⟩:=DataW.trod_bool hu h
   exact ⟨ι,m, [.bool b],hR,aH.le_refl ι,Chg.refl m,.cons _ _ _ _ (.bool b) .nil,by simp[Value.oneCell'],.bool hu b⟩
  ·rename_i k hu
   obtain ⟨z,rfl,_,hw⟩:=DataW.trod_int hu h
   exact ⟨ι,m, [.int k (.lit z)],hR,aH.le_refl ι,Chg.refl m,.cons _ _ _ _ (.int k z) .nil,by simp[Value.oneCell'],.int hu z hw⟩
  ·rename_i hu
   obtain ⟨s,rfl,_,hs⟩:=DataW.trod_string hu h
   refine ⟨ι,m, [.str (s.data.toList.map UInt8.toNat)],hR,aH.le_refl ι,Chg.refl m,.cons _ _ _ _ (.str _ s rfl) .nil,by simp[Value.oneCell'],.str hu _ ?_ ?_⟩
   ·intro b hb
    obtain ⟨c,_,rfl⟩:=List.mem_map.mp hb
    exact c.toNat_lt
   ·rw[List.length_map];exact hs
  ·rename_i e hu
   rw[Bool.and_eq_true,decide_eq_true_eq] at hok
   obtain ⟨he,hce⟩:=hok
   have he:e∈T:=by simpa using he
   rcases DataW.trod_slice hu h with ⟨rfl,_⟩|⟨a,len,cap,elems,rest,n',hn',rfl,_,_,hlc,hcm,hel,hE,hS,_⟩
   ·exact ⟨ι,m, [.nils],hR,aH.le_refl ι,Chg.refl m,.cons _ _ _ _ .nils .nil,by simp[Value.oneCell'],.slc hu .nils [] Sl.nil (by simp) (by simp)⟩
   ·have hn':n'=n:=by omega
    subst hn'
    obtain ⟨hrl,hS⟩:=hS rfl
    have go:∀k,k<=len->∃(ι':aH) (m':NH) (C:List (List NV)),Ro P W ι' m'/\ι.le ι'/\Chg [] m m'/\C.length=k/\(∀c∈C,Ty P m' e c/\c.length=P.cellsOf e)/\Cs W ι' a C.flatten:=by
     intro k
     induction k with
     |zero=>intro _;exact ⟨ι,m, [],hR,aH.le_refl ι,Chg.refl m,rfl,by simp,fun j v hv=>by simp at hv⟩
     |succ k ihk=>
      intro hk
      obtain ⟨ι1,m1,C,hR1,hle1,hC1,hlen,hall,hcs⟩:=ihk (by omega)
      have hEk:=hE k (by omega)
      rw[List.getElem?_eq_getElem (by omega)] at hEk
      obtain ⟨cs',h1,h2⟩:=Option.bind_eq_some_iff.mp hEk
      obtain ⟨_,hl',hcell⟩:=World.cells?_some h1
      obtain ⟨ι2,m2,l,hR2,hle2,hC2,hvr,hone,hty⟩:=ih e he cs' _ h2 ι1 m1 hR1
      have hll:=hvr.length
      have hfl:C.flatten.length=k*P.cellsOf e:=by rw[e6 fun c hc=>(hall c hc).2,hlen]
      refine ⟨ι2,m2,C++ [l],hR2,hle1.trans hle2,hC1.trans hC2 (fun _ h _=>h),by simp[hlen], ?_, ?_⟩
      ·intro c hc
       rcases List.mem_append.mp hc with hc|hc
       ·exact ⟨(hall c hc).1.grew hC2,(hall c hc).2⟩
       ·simp at hc;subst hc;exact ⟨hty,by omega⟩
      ·intro j v hv
       rw[List.flatten_append] at hv
       by_cases hj:j<C.flatten.length
       ·rw[List.getElem?_append_left hj] at hv
        exact (hcs.mono hle2) j v hv
       ·rw[List.getElem?_append_right (by omega)] at hv
        simp only[List.flatten_cons,List.flatten_nil,List.append_nil] at hv
        obtain ⟨v',h3,h4⟩:=hvr.get hv
        have hjl:j - C.flatten.length<cs'.length:=by
         rcases Nat.lt_or_ge (j - C.flatten.length) cs'.length with q|q
         ·exact q
         ·rw[List.getElem?_eq_none q] at h3;cases h3
        refine ⟨v', ?_,h4,hone v' (List.mem_of_getElem? h3)⟩
        have:=hcell (j - C.flatten.length) (by omega)
        rw[h3] at this
        rw[←this]
        rw[pZ]
        congr 2
        omega
    obtain ⟨ι1,m1,C,hR1,hle1,hC1,hlen,hall,hcs⟩:=go len (Nat.le_refl _)
    have hfl:C.flatten.length=len*P.cellsOf e:=by rw[e6 fun c hc=>(hall c hc).2,hlen]
    have hend:∀(b o:Nat) (cur:Array Value) (T':TypeId) (fz:Nat×Nat) (c:List NV),W.heap[b]? =some (.cells cur T' fz)->o+c.length<=cur.size->(∀i v,c[i]? =some v->∃v',cur[o+i]? =some v'/\VR ι1 v v'/\v'.oneCell'=true)->
     (0<cap->a=⟨b,o,none⟩/\o+cap*P.cellsOf e<=cur.size)->c=C.flatten->
     ∃ι' m' l,Ro P W ι' m'/\ι.le ι'/\Chg [] m m'/\VRL ι' l [.slice (some a) len cap]/\(∀v∈ [Value.slice (some a) len cap],v.oneCell'=true)/\Ty P m' t l:=by
     rintro b o cur T' fz c hb hoc hcc ha rfl
     obtain ⟨ι2,m2,hR2,hle2,hC2,hi2,hg2,ho2⟩:=hR1.add hb hoc hcc
     refine ⟨ι2,m2, [.slc m1.next 0 len (P.cellsOf e) 0],hR2,hle1.trans hle2,hC1.trans hC2 (fun _ h _=>h),.cons _ _ _ _ (.slc _ _ _ _ _ _ a cap hi2 hlc (Nat.zero_le _) hcm hce fun hc=> ?_) .nil,by simp[Value.oneCell'], ?_⟩
     ·obtain ⟨h1,h2⟩:=ha hc
      exact ⟨h1,by simpa using h2⟩
     ·refine .slc hu _ C ⟨fun c hc=>(hall c hc).2,Or.inr ⟨m1.next,0,0,false,_,by rw[hlen],hg2,ho2, ?_, ?_⟩⟩ (by rw[hlen];omega) fun c hc=>((hall c hc).1).grew hC2
      ·rw[hfl,hlen];omega
      ·rw[List.drop_zero,hlen,←hfl,List.take_length]
    by_cases hcap:cap=0
    ·have hl0:len=0:=by omega
     have hC0:C= []:=List.length_eq_zero_iff.mp (by omega)
     subst hC0
     obtain ⟨b,cur,T',fz,hb⟩:=hne
     exact hend b 0 cur T' fz [] hb (by simp) (fun i v hv=>by simp at hv) (fun h=>by omega) rfl
    ·
     have cells:∀i,i<cap->∃cs',W.cells? 0 (a.add (i*P.cellsOf e)) (P.cellsOf e)=some cs':=by
      intro i hi
      rcases Nat.lt_or_ge i len with h|h
      ·have:=hE i h
       rw[List.getElem?_eq_getElem (by omega)] at this
       obtain ⟨cs',h1,_⟩:=Option.bind_eq_some_iff.mp this
       exact ⟨cs',h1⟩
      ·have:=hS (i - len) (by omega)
       rw[List.getElem?_eq_getElem (by omega),show len+(i - len)=i by omega] at this
       obtain ⟨cs',h1,_⟩:=Option.bind_eq_some_iff.mp this
       exact ⟨cs',h1⟩
     obtain ⟨cs0,h0⟩:=cells 0 (by omega)
     obtain ⟨_,hl0,hc0⟩:=World.cells?_some h0
     have hv0:=hc0 0 hce
     rw[List.getElem?_eq_getElem (by omega)] at hv0
     have hsp:=World.cell?_spot hv0
     obtain ⟨cur,T',fz,hb,_⟩:=j5 hv0
     have hab:(a.add (0*P.cellsOf e)).add 0=a:=by rw[pZ];simp[Addr.add]
     rw[hab] at hsp hb
     have hin:∀j v',W.cell? (a.add j)=some v'->cur[a.off+j]? =some v':=by
      intro j v' h
      obtain ⟨cur',T2,fz2,hb',hc'⟩:=j5 h
      rw[tX] at hb'
      rw[xW] at hc'
      rw[hb] at hb'
      injection hb' with hb'
      injection hb' with hb' _ _
      subst hb'
      exact hc'
     obtain ⟨cs1,h1⟩:=cells (cap - 1) (by omega)
     obtain ⟨_,hl1,hc1⟩:=World.cells?_some h1
     have hv1:=hc1 (P.cellsOf e - 1) (by omega)
     rw[List.getElem?_eq_getElem (by omega)] at hv1
     have hmul:(cap - 1)*P.cellsOf e+P.cellsOf e=cap*P.cellsOf e:=by
      rw[←Nat.succ_mul];congr 1;omega
     have hlast:cur[a.off+(cap*P.cellsOf e - 1)]? =some cs1[P.cellsOf e - 1]:=by
      refine hin (cap*P.cellsOf e - 1) _ ?_
      rw[←hv1]
      rw[pZ]
      congr 2
      omega
     have hsz:a.off+(cap*P.cellsOf e - 1)<cur.size:=(Array.getElem?_eq_some_iff.mp hlast).1
     have hcapp:0<cap*P.cellsOf e:=Nat.mul_pos (by omega) hce
     have hlm:len*P.cellsOf e<=cap*P.cellsOf e:=Nat.mul_le_mul_right _ hlc
     refine hend a.block a.off cur T' fz C.flatten hb (by omega) (fun i v hv=> ?_) (fun _=>⟨by cases a;simp at hsp;simp[hsp],by omega⟩) rfl
     obtain ⟨v',q1,q2,q3⟩:=hcs i v hv
     exact ⟨v',hin i v' q1,q2,q3⟩
  ·rename_i fs hu
   rw[Bool.and_eq_true] at hok
   obtain ⟨hft,htl⟩:=hok
   obtain ⟨xs,n',hn',_,hcl,hxl,hF⟩:=DataW.trod_struct hu h
   have hn':n'=n:=by omega
   subst hn'
   have go:∀(fl:List Field) (o:Nat) (ys:List (DataW H×List MemPlace)),(∀f∈fl,f.type∈T)->lu P fl o (P.cellsOf t)=true->o<=cs.length->(∀(i:Nat) (f:Field),fl[i]? =some f->∃y,DataW.trod enc P W 0 (fun _=>true) true n' f.type ((cs.drop f.offset).take (P.cellsOf f.type))=some y)->
    ∀(ι:aH) (m:NH),Ro P W ι m->∃ι' m' l,Ro P W ι' m'/\ι.le ι'/\Chg [] m m'/\VRL ι' l (cs.drop o)/\(∀v∈cs.drop o,v.oneCell'=true)/\TyL P m' (fl.map (·.type)) l:=by
    intro fl
    induction fl with
    |nil=>
     intro o ys _ htl _ _ ι m hR
     have ho:o=cs.length:=by rw[hcl];exact of_decide_eq_true htl
     subst ho
     rw[List.drop_length]
     exact ⟨ι,m, [],hR,aH.le_refl ι,Chg.refl m,.nil,by simp,.nil⟩
    |cons f fl ihf=>
     intro o ys hfT htl ho hF ι m hR
     have htl:((f.offset==o)&&lu P fl (o+P.cellsOf f.type) (P.cellsOf t))=true:=htl
     rw[Bool.and_eq_true,beq_iff_eq] at htl
     obtain ⟨rfl,htl⟩:=htl
     obtain ⟨y,hy⟩:=hF 0 f rfl
     obtain ⟨ι1,m1,l1,hR1,hle1,hC1,hvr1,hone1,hty1⟩:=ih f.type (hfT f (List.mem_cons_self ..)) _ y hy ι m hR
     have hle:f.offset+P.cellsOf f.type<=cs.length:=by
      have:∀(fl:List Field) (o:Nat),lu P fl o (P.cellsOf t)=true->o<=P.cellsOf t:=by
       intro fl
       induction fl with
       |nil=>intro o h;exact Nat.le_of_eq (of_decide_eq_true h)
       |cons g fl ih=>
        intro o h
        have h:((g.offset==o)&&lu P fl (o+P.cellsOf g.type) (P.cellsOf t))=true:=h
        rw[Bool.and_eq_true] at h
        have:=ih _ h.2
        omega
      have:=this fl _ htl
      omega
     obtain ⟨ι2,m2,l2,hR2,hle2,hC2,hvr2,hone2,hty2⟩:=ihf (f.offset+P.cellsOf f.type) [] (fun g hg=>hfT g (List.mem_cons_of_mem _ hg)) htl hle (fun i g hg=>hF (i+1) g (by simpa using hg)) ι1 m1 hR1
     have hsplit:cs.drop f.offset=(cs.drop f.offset).take (P.cellsOf f.type)++cs.drop (f.offset+P.cellsOf f.type):=by
      rw[←List.drop_drop,List.take_append_drop]
     refine ⟨ι2,m2,l1++l2,hR2,hle1.trans hle2,hC1.trans hC2 (fun _ h _=>h), ?_, ?_,.cons l1 l2 (hty1.grew hC2) hty2⟩
     ·rw[hsplit];exact VRL.append (hvr1.mono hle2) hvr2
     ·rw[hsplit];intro v hv
      rcases List.mem_append.mp hv with hv|hv
      ·exact hone1 v hv
      ·exact hone2 v hv
   obtain ⟨ι',m',l,h1,h2,h3,h4,h5,h6⟩:=go fs.toList 0 [] (fun f hf=>by simpa using List.all_eq_true.mp hft f hf) htl (Nat.zero_le _) (fun i f hf=>by
    have hi:i<xs.length:=by
     rcases Nat.lt_or_ge i fs.toList.length with q|q
     ·rw[hxl];simpa using q
     ·rw[List.getElem?_eq_none q] at hf;cases hf
    exact ⟨xs[i],by rw[hF i f (by simpa using hf),List.getElem?_eq_getElem hi]⟩) ι m hR
   rw[List.drop_zero] at h4 h5
   exact ⟨ι',m',l,h1,h2,h3,h4,h5,.struct hu l h6⟩
  ·cases hok
inductive TyA (P:Program) (m:NH):List TypeId->List NV->Prop
 |nil:TyA P m [] []
 |one {t:TypeId} {ts:List TypeId} {l:List NV} (x:NV) (hn:∀fs,P.underlying t≠some (.struct fs)) (h:Ty P m t [x]) (hl:TyA P m ts l):TyA P m (t::ts) (x::l)
 |agg {t:TypeId} {ts:List TypeId} {l:List NV} {fs:Array Field} (c:List NV) (ht:P.underlying t=some (.struct fs)) (h:Ty P m t c) (hl:TyA P m ts l):TyA P m (t::ts) (.agg c::l)
theorem TyA.grew  {m m':NH} (hC:Chg [] m m'):∀{ts:List TypeId} {l:List NV},TyA P m ts l->TyA P m' ts l
 |_,_,.nil=> .nil
 |_,_,.one x hn h hl=> .one x hn (h.grew hC) (TyA.grew hC hl)
 |_,_,.agg c ht h hl=> .agg c ht (h.grew hC) (TyA.grew hC hl)
theorem sH  {t:TypeId} {v:Value} (hok:∀fs,P.underlying t≠some (.struct fs)) (h:Value.okWide P W .any base t v) (ht:fS P [] t=true∨∃e,P.underlying t=some (.slice e)):v.cells=#[v]:=by
 unfold Value.okWide at h
 rcases ht with ht|⟨e,hu⟩
 ·unfold fS at ht
  split at ht
  ·rename_i hu;rw[hu] at h;unfold Cell.okWide Cell.ok at h;rw[hu] at h;dsimp only at h;cases v<;>first|rfl|exact h.elim
  ·rename_i hu;rw[hu] at h;unfold Cell.okWide Cell.ok at h;rw[hu] at h;dsimp only at h;cases v<;>first|rfl|exact h.elim
  ·rename_i hu;rw[hu] at h;unfold Cell.okWide Cell.ok at h;rw[hu] at h;dsimp only at h;cases v<;>first|rfl|exact h.elim
  ·rename_i e hu;rw[hu] at h;unfold Cell.okWide Cell.ok at h;rw[hu] at h;dsimp only at h;cases v<;>first|rfl|exact h.elim
  ·rename_i fs hu;exact Fy hu (hok fs)
  ·cases ht
 ·rw[hu] at h;unfold Cell.okWide Cell.ok at h;rw[hu] at h;dsimp only at h;cases v<;>first|rfl|exact h.elim
theorem s7  (hT:qA P T=true) (hne:∃(b:Nat) (cur:Array Value) (T:TypeId) (fz:Nat×Nat),W.heap[b]? =some (.cells cur T fz)) {enc:TypeId×Value->H}:
 ∀(ts:List TypeId) (args:List Value) (ds:List (DataW H)) (ps:List MemPlace),(∀t∈ts,t∈T)->DataW.TrodAll enc P W 0 (fun _=>true) true ts args ds ps->(∀(j:Nat) t v,ts[j]? =some t->args[j]? =some v->Value.okWide P W .any base t v)->
 ∀(ι:aH) (m:NH),Ro P W ι m->∃ι' m' l,Ro P W ι' m'/\ι.le ι'/\Chg [] m m'/\VRL ι' l args/\TyA P m' ts l:=by
 intro ts
 induction ts with
 |nil=>
  intro args ds ps _ h _ ι m hR
  cases args with
  |nil=>exact ⟨ι,m, [],hR,aH.le_refl ι,Chg.refl m,.nil,.nil⟩
  |cons=>cases h
 |cons t ts ih=>
  intro args ds ps hts h hval ι m hR
  cases args with
  |nil=>cases h
  |cons v args=>
   cases ds with
   |nil=>cases h
   |cons d ds=>
    obtain ⟨p,q,⟨n,hd⟩,hr,_⟩:=h
    obtain ⟨ι1,m1,c,hR1,hle1,hC1,hv1,hone1,hty1⟩:=xr hT hne n t (hts t (List.mem_cons_self ..)) _ _ hd ι m hR
    obtain ⟨ι2,m2,l,hR2,hle2,hC2,hv2,hty2⟩:=ih args ds q (fun t ht=>hts t (List.mem_cons_of_mem _ ht)) hr (fun j t v h1 h2=>hval (j+1) t v (by simpa using h1) (by simpa using h2)) ι1 m1 hR1
    have hv:=hval 0 t v rfl rfl
    have hok:fS P T t=true:=List.all_eq_true.mp hT t (hts t (List.mem_cons_self ..))
    have hC:=hC1.trans hC2 (fun _ h _=>h)
    by_cases hst:∃fs,P.underlying t=some (.struct fs)
    ·obtain ⟨fs,hu⟩:=hst
     have hv':=hv
     unfold Value.okWide at hv'
     rw[hu] at hv'
     obtain ⟨cs,rfl,_,_⟩:=hv'
     refine ⟨ι2,m2,.agg c::l,hR2,hle1.trans hle2,hC,.cons _ _ _ _ ?_ hv2,.agg c hu (hty1.grew hC2) hty2⟩
     have:=VR.agg (ι:=ι2) c cs.toList (hv1.mono hle2) hone1
     simpa using this
    ·have hn:∀fs,P.underlying t≠some (.struct fs):=fun fs q=>hst ⟨fs,q⟩
     have hc:v.cells=#[v]:=by
      refine sH hn hv ?_
      unfold fS at hok ⊢
      split at hok
      ·rename_i hu;exact Or.inl rfl
      ·rename_i hu;exact Or.inl rfl
      ·rename_i hu;exact Or.inl rfl
      ·rename_i e hu;exact Or.inr ⟨e,hu⟩
      ·rename_i fs hu;exact Fy hu (hn fs)
      ·cases hok
     rw[hc] at hv1
     cases hv1 with
     |cons x _ xl _ hx hxl=>
      cases hxl
      exact ⟨ι2,m2,x::l,hR2,hle1.trans hle2,hC,.cons _ _ _ _ (hx.mono hle2) hv2,.one x hn (hty1.grew hC2) hty2⟩
theorem sF  (hM:P.follows .mixedOrders=true) (hP:P.check= .ok ()) (hS:gP P S) (hT:qA P T=true) {f:Nat} {nf:NFun} (hf:av P f=some (.code nf)) (hs:∀l,S f l=none) (hts:∀t∈ts,t∈T)
 (law:∀(m:NH) (l:List NV),TyA P m ts l->∃m',mF P S f l m (.bool true) m') (hne:∃(b:Nat) (cur:Array Value) (T:TypeId) (fz:Nat×Nat),W.heap[b]? =some (.cells cur T fz)) {enc:TypeId×Value->H} {args:List Value} {ds:List (DataW H)} {ps:List MemPlace}
 (h:DataW.TrodAll enc P W 0 (fun _=>true) true ts args ds ps) (hval:∀(j:Nat) t v,ts[j]? =some t->args[j]? =some v->Value.okWide P W .any base t v):
 Calls P f args.toArray W fun e W'=>e= .returned (.bool true)/\Below W.heap.size W W':=by
 obtain ⟨ι,m,l,hR,_,_,hv,hty⟩:=s7 hT hne ts args ds ps hts h hval ι0 ⟨.leaf,.e⟩ (Ro.nil P W)
 obtain ⟨m',c,hc⟩:=law m l hty
 refine (uB hM hP hS hf (hs l) hc hR.1 hR.2 hv).mono ?_
 rintro e W' ⟨⟨ι',v',rfl,h1,_,_⟩,hb⟩
 cases h1
 exact ⟨rfl,hb⟩
theorem kU  (hl:laidOutB P=true) {W':World} (hb:Below W.heap.size W W') {enc:TypeId×Value->H}:∀(ts:List TypeId) (args:List Value) (ds:List (DataW H)) (ps:List MemPlace),(∀t∈ts,P.readableRec t=true/\t<P.types.size)->
 DataW.TrodAll enc P W 0 (fun _=>true) true ts args ds ps->(∀p∈ps,p.block<W.heap.size)->(∀p∈ps,sp p.block=true)->DataW.TrodAll enc P W' 0 sp true ts args ds ps:=by
 intro ts
 induction ts with
 |nil=>
  intro args ds ps _ h _ _
  cases args with
  |nil=>cases ds with
   |nil=>exact h
   |cons=>cases h
  |cons=>cases h
 |cons t ts ih=>
  intro args ds ps hr h hlt hsp
  cases args with
  |nil=>cases h
  |cons v args=>
   cases ds with
   |nil=>cases h
   |cons d ds=>
    obtain ⟨p,q,hd,hq,rfl⟩:=h
    exact ⟨p,q,WideElems.Trod_stays hl (hr t (List.mem_cons_self ..)).1 (hr t (List.mem_cons_self ..)).2 hd (fun x hx=>hb.same (hlt x (List.mem_append_left _ hx))) (fun x hx=>hsp x (List.mem_append_left _ hx)),
     ih args ds q (fun t ht=>hr t (List.mem_cons_of_mem _ ht)) hq (fun x hx=>hlt x (List.mem_append_right _ hx)) (fun x hx=>hsp x (List.mem_append_right _ hx)),rfl⟩
theorem Ty.inv_int  {m:NH} {t:TypeId} {k:IntKind} {l:List NV} (hu:P.underlying t=some (.int k)) (h:Ty P m t l):∃n,l= [.int k (.lit n)]/\(Lit.int k n).wf=true:=by
 cases h with
 |bool ht=>rw[hu] at ht;cases ht
 |int ht n h=>rw[hu] at ht;injection ht with ht;injection ht with ht;subst ht;exact ⟨n,rfl,h⟩
 |str ht=>rw[hu] at ht;cases ht
 |slc ht=>rw[hu] at ht;cases ht
 |struct ht=>rw[hu] at ht;cases ht
theorem Ty.inv_slc  {m:NH} {t e:TypeId} {l:List NV} (hu:P.underlying t=some (.slice e)) (h:Ty P m t l):∃v C,l= [v]/\Sl m v (P.cellsOf e) C/\C.length<=maxLen/\∀c∈C,Ty P m e c:=by
 cases h with
 |bool ht=>rw[hu] at ht;cases ht
 |int ht=>rw[hu] at ht;cases ht
 |str ht=>rw[hu] at ht;cases ht
 |slc ht v C hS hl h=>rw[hu] at ht;injection ht with ht;injection ht with ht;subst ht;exact ⟨v,C,rfl,hS,hl,h⟩
 |struct ht=>rw[hu] at ht;cases ht
theorem TyL.inv0  {m:NH} {l:List NV} (h:TyL P m [] l):l= []:=by cases h;rfl
theorem TyA.inv1  {m:NH} {t:TypeId} {l:List NV} (hn:∀fs,P.underlying t≠some (.struct fs)) (h:TyA P m (t::ts) l):∃x r,l=x::r/\Ty P m t [x]/\TyA P m ts r:=by
 cases h with
 |one x _ h hl=>exact ⟨x,_,rfl,h,hl⟩
 |agg c ht=>exact Fy ht (hn _)
theorem TyA.inv0  {m:NH} {l:List NV} (h:TyA P m [] l):l= []:=by cases h;rfl
theorem mF.kept  {f:Nat} {args:List NV} {v:NV} (h:S f args=some v) (m:NH):mF P S f args m v m:=by
 refine ⟨none,by simp,0, ?_⟩
 unfold bh;rw[h]
theorem mI  {hd:Bool} {enc:TypeId×Value->H}:∀{ts:List TypeId} {vs:List Value} {ds:List (DataW H)} {ps:List MemPlace},DataW.TrodAll enc P W base sp hd ts vs ds ps->ds.length=ts.length:=by
 intro ts
 induction ts with
 |nil=>intro vs ds ps h;cases vs<;>cases ds<;>first|rfl|cases h
 |cons t ts ih=>
  intro vs ds ps h
  cases vs with
  |nil=>cases h
  |cons v vs=>cases ds with
   |nil=>cases h
   |cons d ds=>obtain ⟨_,_,_,h,_⟩:=h;simp[ih h]
def Fx (o:Option Obj):Bool:=match o with|some (.cells _ _ _)=>true|_=>false
theorem nM  (h:Fx ((begin P (fun _ _=>0) default).world.heap[P.globals.size]?)=true) (hs:W.ShapedOpen P):∃(b:Nat) (cur:Array Value) (T:TypeId) (fz:Nat×Nat),W.heap[b]? =some (.cells cur T fz):=by
 cases ho:(begin P (fun _ _=>0) default).world.heap[P.globals.size]? with
 |none=>rw[ho] at h;cases h
 |some x=>
  rw[ho] at h
  have hlt:P.globals.size<(begin P (fun _ _=>0) default).world.heap.size:=(Array.getElem?_eq_some_iff.mp ho).1
  obtain ⟨o,o0,h1,h2,h3⟩:=hs.2 _ (Nat.le_refl _) hlt
  rw[Nat.sub_self,Fz (by decide)] at h3
  rw[ho] at h2
  injection h2 with h2
  subst h2 h3
  cases o with
  |cells cur T fz=>exact ⟨_,cur,T,fz,h1⟩
  |_=>cases h
end
end Nm
namespace Nm
open Go Go.RowKit
attribute [go_sem] xP BZ zM BW CQ zu wb CJ yF zD wv yT yA wc vv yv vY Ez BK BG
attribute [go_sem] EC DF DD zS Dj Cu yX xV xh CX DP xk vX Eu E8 ub E6 E3
attribute [go_sem] yj zb vU wz tV AE vx AN DT wm zP AJ xw wq uH xf tG tD uS
attribute [go_sem] xB xq uh wx wA Bool.and_true Bool.true_and CU CN vu xn zJ En Et EX EJ EU
attribute [go_sem] EV EH Fi EQ E0 Ff EA Fc Fh Ey Ep E5 Es Fq EF Fe EB EN ED ES
attribute [go_sem] Eo Fg EI zp zQ Dz ER BL DE Dy Dw CY tY ug sD zK yY BU v6 vD
attribute [go_sem] zg tM tg wR yN yn wa DI DZ zO
attribute [go_sem] BR zn BX yL w7 D6 DA z8 yJ AA tE tB
attribute [go_sem] Dp zN BY zA Dv Cw DX yt Dx yH BP Er Cr
attribute [go_sem] CK BN Dh DH Db DU Dt BI yS qo DO CV zm ze EP CF DK
attribute [go_sem] vw vR vS Cx Ed Fo Cy Fl Dn Fk Di yD Nat.sub_self Nat.sub_zero D9 BM zr BQ
attribute [go_sem] zo vL Ct Do Da Dl EE wo wi xL D2 x9 Ds AD
attribute [go_sem] EL tz ym zX cX cp yp my uo uy tZ mV bB jA zV BO DL DY
attribute [go_sem] AT CP CC CL eI Bool.not_true Bool.not_false zt AH Int.toNat_natCast Int.toNat_zero Int.toNat_one
attribute [go_sem] List.getElem?_cons_zero List.getElem?_cons_succ List.length_cons List.length_nil List.set_cons_zero List.set_cons_succ List.take_zero List.drop_zero List.take_succ_cons List.drop_succ_cons List.take_nil List.drop_nil List.nil_append List.cons_append List.append_nil Nat.zero_add Nat.zero_mul Nat.testBit cond_true cond_false
attribute [go_sem] NT.get_leaf yu wj ai beq_self_eq_true decide_true decide_false if_true if_false ite_true ite_false eq_self true_and and_true true_implies
noncomputable def aq:=And.intro (@List.length_set.{0})<|And.intro (@List.length_cons.{0})<|And.intro (@List.length_nil.{0})<|And.intro (@List.length_append.{0})<|And.intro (@List.length_map.{0,0})<|@List.length_replicate.{0}
namespace C
abbrev t (a:D4):NOpd:= .tmp a
abbrev k (z:Int):NOpd:= .const (.int .i64 (.lit z))
abbrev kb (z:Int):NOpd:= .const (.int .u8 (.lit z))
abbrev ku (z:Int):NOpd:= .const (.int .u64 (.lit z))
abbrev kt:NOpd:= .const (.bool true)
abbrev kf:NOpd:= .const (.bool false)
abbrev kn:NOpd:= .const .nils
abbrev F (n:Nat):NOpd:= .const (.fn n [])
abbrev o (d:D4) (p:NOp) (i:Nat):NOper:=⟨some d,p,none,0,i⟩
abbrev O (d:D4) (p:NOp) (q i:Nat):NOper:=⟨some d,p,none,q,i⟩
abbrev G (d:D4) (p:NOp) (g:D4) (b:Bool) (i:Nat):NOper:=⟨some d,p,some (g,b),0,i⟩
abbrev m (d s:D4) (i:Nat):NOper:=⟨some d,.move (.tmp s),none,0,i⟩
abbrev f (n:Nat) (d s:D4) (i:Nat):NOper:=⟨some d,.fieldAddr n (.tmp s),none,0,i⟩
abbrev l (d s:D4) (i:Nat):NOper:=⟨some d,.load1 (.tmp s),none,0,i⟩
abbrev L (d s:D4) (i:Nat):NOper:=⟨some d,.lenSlc (.tmp s),none,0,i⟩
abbrev n (d s:D4) (i:Nat):NOper:=⟨some d,.nilCheck (.tmp s),none,0,i⟩
abbrev x (d s:D4) (j i:Nat):NOper:=⟨some d,.extract (.tmp s) j,none,0,i⟩
abbrev q (p:NOp) (i:Nat):NOper:=⟨none,p,none,0,i⟩
abbrev b (d:D4) (p:BinOp) (a c:NOpd) (i:Nat):NOper:=⟨some d,.bin .num p a c,none,0,i⟩
end C
end Nm
namespace Nm
open Go Go.RowKit
section
variable {t:Tm} {m:NH}
end
end Nm
namespace Nm
open Go Go.RowKit
variable {ty:Nat}
section
variable {t:Tm} {m:NH}
theorem Dq  {x:NOpd}:ae (.mkIfc ty x) t m=oN (ρ t x) fun v=> .val (.ifc ty v):=by
 show wV t x _=_
 rw[bn]
noncomputable def Co (v:NV):NR:=match v with| .ifc ty v=> .pan (.ifc ty v)|_=> .fail
theorem Cq {x:NOpd}:ae (.panic x) t m=oN (ρ t x) Co:=by
 show wV t x _=_
 rw[bn];rfl
theorem BH  {v:NV}:Co (.ifc ty v)= .pan (.ifc ty v):=_root_.id rfl
noncomputable def De (ty:Nat) (z v:NV):NR:=match v with
 | .ifc u v=>cond (Nat.beq u ty) (.val (.tup [v,.bool true])) (.val (.tup [z,.bool false]))
 | .nili=> .val (.tup [z,.bool false])
 |_=> .fail
theorem D7  {z:NV} {x:NOpd}:ae (.typeAssert ty z x) t m=oN (ρ t x) (De ty z):=by
 show wV t x _=_
 rw[bn];rfl
theorem CS  {z v:NV}:De ty z (.ifc ty v)= .val (.tup [v,.bool true]):=by
 show cond (Nat.beq ty ty) _ _=_
 rw[Nat.beq_refl];rfl
end
attribute [go_sem] Dq Cq BH D7 CS
end Nm
