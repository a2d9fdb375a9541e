/- A machine that runs the given program with memory and order of evaluation taken apart from the model's, the proof that what it answers is what the model answers, and rules to reason of its runs. Part 2 of 4. -/
import Derived.AtR
import Derived.RangeFuncIn
import Derived.Defers
import Derived.RangeFuncRecord
import Derived.Laws.Externs
import Derived.Test.YtbialplfjdpkiaaPlmA
set_option linter.unusedVariables false
namespace Nm
open Go
variable {x u:Value} {y q:NOpd} {e T n tx S:Nat} {z:List NV} {cur:Array Value} {l:List NOpd}
section
variable {P:Program} {ι:aH} {B:Nat} {h:NH} {w:World} {t:Tm}
theorem ma  {e' bytes:Nat} (hT:P.underlying T=some (.slice e)) (hX:P.underlying tx=some (.slice e')) (hn:bA P e=some n) (hb:er P e=some bytes) (hz:zeroOf P e=some z) (h0:1<=n)
 (ty T':Nat) (hx:OV ι t y x) (hu:OV ι t q u) (hR:Rel P ι B h w) (hB:B<=w.heap.size):
 aR P ι B h w (jF n bytes T' y q t h) (ax ((Builtin.append_ #[T,tx] ty #[x,u]).run P w)):=
 aB fun hr=>by
  unfold jF at *
  obtain ⟨s,h1,h2⟩:=au rfl hr
  rw[←h2];rw[←h2] at hr
  obtain ⟨v,h3,h4⟩:=au rfl hr
  rw[←h4];rw[←h4] at hr
  obtain ⟨m,new,vs,k1,k2,k3,k4,k5⟩:=f0 rfl hr (hu v h3) hR
  rw[←k1]
  refine fF hT hn hb hz h0 (hx s h1) k2 k3 k4 (fun k hk=> ?_) hR hB
  subst hk
  rcases k5 with ⟨rfl,rfl,rfl⟩|⟨a,c,rfl,k6⟩
  ·exact Src.ofNil w hX 0
  ·exact Src.ofSlice w hX a m c vs k4 k6 k3
theorem fh (b:List Nat) (K:List NV->NR):nI b K=K (b.map fun x=> .int .u8 (.lit (.ofNat x))):=by
 induction b generalizing K with
 |nil=>rfl
 |cons a b ih=>exact ih _
theorem iv (s:ByteArray):VRL ι ((s.data.toList.map UInt8.toNat).map fun x=>NV.int .u8 (.lit (.ofNat x))) (byteCells s):=by
 unfold byteCells
 generalize s.data.toList=l
 induction l with
 |nil=>exact .nil
 |cons a l ih=>exact .cons _ _ _ _ (.int _ _) ih
theorem iV  (hT:P.underlying T=some (.slice e)) (hX:P.underlying tx=some .string) (hn:bA P e=some 1) (hb:er P e=some 1) (hz:zeroOf P e=some z)
 (ty T':Nat) (hx:OV ι t y x) (hu:OV ι t q u) (hR:Rel P ι B h w) (hB:B<=w.heap.size):
 aR P ι B h w (eT T' y q t h) (ax ((Builtin.append_ #[T,tx] ty #[x,u]).run P w)):=
 aB fun hr=>by
  unfold eT at *
  obtain ⟨s,h1,h2⟩:=au rfl hr
  rw[←h2];rw[←h2] at hr
  obtain ⟨v,h3,h4⟩:=au rfl hr
  rw[←h4];rw[←h4] at hr
  have hv:=hu v h3
  cases hv with
  |str l s' hs=>
   subst hs
   dsimp only at hr ⊢
   rw[fh,aZ]
   refine fF (vs:=byteCells s') hT hn hb hz (Nat.le_refl _) (hx s h1) (iv s') (fun u hu=> ?_) ?_ (fun k hk=> ?_) hR hB
   ·obtain ⟨_,_,rfl⟩:=List.mem_map.1 hu
    rfl
   ·rw[byteCells_length,List.length_map,aT,Nat.mul_one]
   ·subst hk
    rw[List.length_map,aT]
    exact Src.ofString w hX s'
  |_=>exact Fy rfl hr
theorem iz  (hS:P.underlying S=some .string) (hT:P.underlying T=some (.slice e)) (he:P.underlying e=some (.int .u8)) (T':Nat) (hx:OV ι t y x) (hR:Rel P ι B h w) (hB:B<=w.heap.size):
 aR P ι B h w (eE T' y t h) (ax ((convert S T x).run P w)):=
 aB fun hr=>by
  unfold eE at *
  obtain ⟨v,h1,h2⟩:=au rfl hr
  rw[←h2];rw[←h2] at hr
  have hv:=hx v h1
  cases hv with
  |str l s hs=>
   subst hs
   dsimp only at hr ⊢
   rw[fh,aZ] at hr ⊢
   obtain ⟨hlen,hr'⟩:=az rfl hr
   rw[←hr',NH.new_eq]
   rw[aO] at hlen
   have hlen:=of_decide_eq_true hlen
   rw[List.length_map,aT] at hlen ⊢
   have hge:=grownCap_ge w s.size 0 e
   have hcm:grownCap w s.size 0 e<=maxLen:=grownCap_le_maxLen w s.size 0 e (by simp only[maxLen];omega)
   have hrun:=run_bytes_of_string (P:=P) w S T e s hS hT he
   have hbs:(bytesRow s (grownCap w s.size 0 e)).size=grownCap w s.size 0 e:=by
    have:s.data.size=s.size:=rfl
    simp[bytesRow,this];omega
   have hcells:∀(i:Nat) (v:NV),((s.data.toList.map UInt8.toNat).map fun x=>NV.int .u8 (.lit (.ofNat x)))[i]? =some v->∃v':Value,(bytesRow s (grownCap w s.size 0 e))[0+i]? =some v'/\VR ι v v'/\v'.oneCell'=true:=by
    intro i v hi
    obtain ⟨v',a,b⟩:=(iv (ι:=ι) s).get hi
    refine ⟨v', ?_,b, ?_⟩
    ·have hlt:i<s.data.size:=by
      have:=(List.getElem?_eq_some_iff.1 hi).1
      simpa using this
     rw[Nat.zero_add,bytesRow_at s _ i hlt]
     rw[←a]
     unfold byteCells
     rw[List.getElem?_map,List.getElem?_eq_getElem (by simpa using hlt)]
     simp
    ·obtain ⟨_,_,rfl⟩:=List.mem_map.1 (List.mem_of_getElem? a)
     rfl
   obtain ⟨ι',m1,m2,m3,m4⟩:=hR.drew.alloc (show B<=w.drew.heap.size from hB) (.cells false ((s.data.toList.map UInt8.toNat).map fun x=>NV.int .u8 (.lit (.ofNat x)))) (.cells (bytesRow s (grownCap w s.size 0 e)) e ((bytesRow s (grownCap w s.size 0 e)).size,(bytesRow s (grownCap w s.size 0 e)).size+1))
    ⟨w.heap.size,0,(bytesRow s (grownCap w s.size 0 e)).size⟩ rfl fun ι' hle=>
     ⟨_,e,_,cD w.drew _,(fun hh=>by cases hh),rfl,(by show 0+_<=(bytesRow s (grownCap w s.size 0 e)).size;rw[hbs,List.length_map,List.length_map,aT,Nat.zero_add];exact hge),fun i v hi=>by
      obtain ⟨v',a,b,c⟩:=hcells i v hi
      exact ⟨v',a,b.mono hle,c⟩⟩
   refine ⟨_,_,ι',.inl (by rw[ax,hrun];rfl), ?_,m3,⟨m4.le,m4.next,m4.new,m4.blk,m4.keep,m4.size,m4.os,m4.tape,m4.output,m4.frame⟩⟩
   exact VR.slc _ 0 s.size 1 _ _ _ _ m1 hge hge hcm (Nat.le_refl _) fun _=>⟨rfl,by rw[hbs];simp⟩
  |_=>exact Fy rfl hr
theorem kO {l:List NV} {s:List Nat} (e:cI l=some s) {vs:List Value} (hv:VRL ι l vs):∃bs:List UInt8,bs.map UInt8.toNat=s/\vs=bs.map fun b=> .int .u8 (b.toNat:Int):=by
 induction l generalizing s vs with
 |nil=>cases hv;cases e;exact ⟨[],rfl,rfl⟩
 |cons a l ih=>
  cases hv with
  |cons _ v' _ l' ha hl=>
   have e':xA a (cI l)=some s:=e
   clear e
   unfold xA at e'
   split at e'
   ·rename_i x t ht
    cases ha
    cases hc:Nat.ble x 255 with
    |false=>rw[hc] at e';cases e'
    |true=>
     rw[hc] at e';cases e'
     rw[aO] at hc
     have hx:=of_decide_eq_true hc
     obtain ⟨bs,h1,h2⟩:=ih ht hl
     have hb:(UInt8.ofNat x).toNat=x:=by simp;omega
     exact ⟨UInt8.ofNat x::bs,by rw[List.map_cons,hb,h1],by rw[List.map_cons,hb,h2];rfl⟩
   ·cases e'
theorem iq  (hS:P.underlying S=some (.slice e)) (hT:P.underlying T=some .string) (he:P.underlying e=some (.int .u8)) (hx:OV ι t y x) (hR:Rel P ι B h w):
 aR P ι B h w (eh y t h) (ax ((convert S T x).run P w)):=
 aB fun hr=>by
  unfold eh at *
  obtain ⟨v,h1,h2⟩:=au rfl hr
  rw[←h2];rw[←h2] at hr
  obtain ⟨m,new,vs,k1,k2,k3,k4,k5⟩:=f0 rfl hr (hx v h1) hR
  rw[←k1];rw[←k1] at hr
  obtain ⟨s,h5,h6⟩:=aw rfl hr
  rw[←h6]
  obtain ⟨bs,b1,b2⟩:=kO h5 k2
  refine ⟨.string ⟨bs.toArray⟩, ?_,.str _ _ (by simpa using b1)⟩
  rcases k5 with ⟨rfl,rfl,rfl⟩|⟨a,c,rfl,k6⟩
  ·have:bs= []:=by simpa using b2.symm
   subst this
   simp[ax,convert,run_underlying hS,run_underlying hT,run_underlying he,Conv.bytesToString]
   rfl
  ·have hm:m=bs.length:=by rw[Nat.mul_one] at k4;rw[←k4,b2,List.length_map]
   subst hm
   rw[ax,run_convert_bytes_back w S T e a c bs hS he hT fun j hj=>k6 j _ (by rw[b2,List.getElem?_map,List.getElem?_eq_getElem hj];rfl)]
   rfl
theorem tS {p:Pl} {T:TypeId} {fz:Nat×Nat} (k1:w.heap[p.b]? =some (.cells cur T fz)):w.shape? p.b=some (T,cur.size):=by
 unfold World.shape?;rw[k1]
theorem nA {a:Addr} {T:TypeId} {fz:Nat×Nat} (k1:w.heap[a.block]? =some (.cells cur T fz)):
 (∃fz',(w.freeze a (n+1)).heap[a.block]? =some (.cells cur T fz'))/\(∀b,b≠a.block->(w.freeze a (n+1)).heap[b]? =w.heap[b]?)/\(w.freeze a (n+1)).heap.size=w.heap.size/\
  (w.freeze a (n+1)).os=w.os/\(w.freeze a (n+1)).tape=w.tape/\(w.freeze a (n+1)).output=w.output:=by
 have hlt:=(Array.getElem?_eq_some_iff.1 k1).1
 unfold World.freeze
 rw[Fz (by omega)]
 obtain ⟨lo,hi⟩:=fz
 refine ⟨⟨(if lo==hi then (a.off,a.off+(n+1)) else (min lo a.off,max hi (a.off+(n+1)))), ?_⟩,fun b hb=> ?_,by simp,rfl,rfl,rfl⟩
 ·show (w.heap.modify a.block _)[a.block]? =_
  rw[Array.getElem?_modify,FA rfl,k1]
  rfl
 ·show (w.heap.modify a.block _)[b]? =_
  rw[Array.getElem?_modify,Fz (Ne.symm hb)]
theorem kX  (hS:P.underlying S=some (.slice e)) (he:P.underlying e=some (.int .u8)) (hx:OV ι t y x) (hR:Rel P ι B h w):
 aR P ι B h w (ij y t h) (ax ((convert S S x).run P w)):=
 aB fun hr=>by
  unfold ij at *
  obtain ⟨v,h1,h2⟩:=au rfl hr
  rw[←h2];rw[←h2] at hr
  have hv:=hx v h1
  cases hv with
  |slc id off len es kc p a cap hp hl hk hm hes ha=>
   dsimp only at hr ⊢
   obtain ⟨c1,c2⟩:=az rfl hr
   rw[←c2];rw[←c2] at hr
   rw[aO] at c1
   have hpos:=of_decide_eq_true c1
   obtain ⟨c,h3,h4⟩:=cO rfl hr
   rw[←h4,NH.set_eq]
   obtain ⟨a1,a2⟩:=ha (by omega)
   subst a1
   obtain ⟨cur,T',fz,k1,k2,k3,k4,k5⟩:=hR.cellsAt hp h3
   obtain ⟨⟨fz',f1⟩,f2,f3,f4,f5,f6⟩:=nA (w:=w) (a:=⟨p.b,cur.size,none⟩) (n:=0) k1
   obtain ⟨r1,g1⟩:=hR.turn hp (by rw[h3];simp) (.cells false c) (w':=w.freeze ⟨p.b,cur.size,none⟩ 1) ⟨cur,T',fz',f1,(fun hh=>by cases hh),k3,k4,k5⟩ f3 f4 f5 f6 f2
   refine ⟨_,_,ι,.inl ?_,.slc id off len es kc p _ cap hp hl hk hm hes ha,r1,g1⟩
   simp[ax,convert,run_underlying hS,run_underlying he,markStringish,tS k1,freeze,Sem.run]
  |_=>exact Fy rfl hr
theorem kF  {bytes:Nat} (hT:P.underlying T=some (.slice e)) (hn:bA P e=some n) (hb:er P e=some bytes) (hz:zeroOf P e=some z) (h0:1<=n) (T':Nat) (hx:OV ι t y x) (hu:OV ι t q u) (hR:Rel P ι B h w) (hB:B<=w.heap.size):aR P ι B h w (ix z n bytes T' y q t h) (ax ((Instr.makeSlice T x u).run P w)):=
 aB fun hr=>by
  unfold ix at *
  obtain ⟨k1,l,h1,h2⟩:=bC rfl hr
  rw[←h2];rw[←h2] at hr
  obtain ⟨k2,c,h3,h4⟩:=bC rfl hr
  rw[←h4];rw[←h4] at hr
  obtain ⟨c1,c2⟩:=az rfl hr
  rw[←c2];rw[←c2] at hr
  obtain ⟨c3,c4⟩:=az rfl hr
  rw[←c4,ek,NH.new_eq]
  rw[aO] at c1
  have hlc:=of_decide_eq_true c1
  obtain ⟨b1,b2⟩:=gS c3
  obtain ⟨i,zv,i1,i2,i3,i4,i5⟩:=bD (ι:=ι) hz
  obtain ⟨i',j1,j2⟩:=aW hn
  rw[i1] at j1;cases j1
  obtain ⟨i',j1,j3⟩:=fO hb
  rw[i1] at j1;cases j1
  have hzl:zv.cells.size=n:=by have:=i4.length;simp at this;omega
  have hvx:=hx _ h1
  have hvu:=hu _ h3
  cases hvx;cases hvu
  have hby:(i.bytes:Int)*(c:Int)<=281474976710656:=by
   have:((i.bytes*c:Nat):Int)<=281474976710656:=by rw[j3,Nat.mul_comm];omega
   rwa [Int.natCast_mul] at this
  have hrun:=run_make (P:=P) w T e i zv hT i1 i2 k1 k2 (Int.ofNat l) (Int.ofNat c) (by simp) (by simp;exact hlc) hby (by simp;omega)
  have hmade:(madeCells zv.cells (c*n)).toList=Nm.rep c zv.cells.toList:=by rw[←hzl];exact fb zv.cells c
  obtain ⟨q1,q2⟩:=eY i4 i5 c
  obtain ⟨ι',m1,m2,m3,m4⟩:=cP hR hB true (Nm.rep c z) (madeCells zv.cells (c*n)) e (by rw[q1.length,←hmade];simp) (q1.atA q2 fun j u hu=>by rw[←hmade] at hu;simpa using hu)
  refine ⟨_,_,ι',.inl (by rw[ax,hrun];rfl), ?_,by rw[j2];exact m3,by rw[j2];exact m4⟩
  exact VR.slc _ 0 l n _ _ _ c m1 hlc (Nat.le_refl _) (by simp only[maxLen];omega) h0 fun _=>⟨rfl,by simp[size_madeCells]⟩
theorem iN {id:D4} {off:Nat} {cs:List NV} {K:NH->NR} {r:NR} (e:storeAt h id off cs K=r) (hr:r≠.fail):
 ∃c,h.get id=some (.cells true c)/\off+cs.length<=c.length/\K (h.put id (.cells true (c.take off++cs++c.drop (off+cs.length))))=r:=by
 unfold storeAt at e
 obtain ⟨c,h1,h2⟩:=cO e hr
 obtain ⟨c',h3,h4⟩:=aw h2 hr
 rw[cS] at h3
 split at h3
 ·rename_i hle
  cases h3
  rw[NH.set_eq] at h4
  exact ⟨c,h1,hle,h4⟩
 ·cases h3
theorem ow  {e':Nat} (hT:P.underlying T=some (.slice e)) (_hX:P.underlying tx=some (.slice e')) (hn:bA P e=some n) (ty:Nat) (hx:OV ι t y x) (hu:OV ι t q u) (hR:Rel P ι B h w):
 aR P ι B h w (pu n y q t h) (ax ((Builtin.copy_ #[T,tx] ty #[x,u]).run P w)):=
 aB fun hr=>by
  unfold pu at *
  obtain ⟨d,h1,h2⟩:=au rfl hr
  rw[←h2];rw[←h2] at hr
  obtain ⟨s,h3,h4⟩:=au rfl hr
  rw[←h4];rw[←h4] at hr
  obtain ⟨m,new,vs,k1,k2,k3,k4,k5⟩:=f0 rfl hr (hu s h3) hR
  rw[←k1];rw[←k1] at hr
  obtain ⟨i,i1,i2⟩:=aW hn
  have hlo:∀w',(Builtin.lenOf u).run P w'= .ok m w':=fun w'=>by
   rcases k5 with ⟨rfl,rfl,_⟩|⟨a,c,rfl,_⟩<;>rfl
  have hfc:∀k,k<=m->(Builtin.firstCells i.size k u).run P w= .ok (vs.take (k*n)).toArray w:=fun k hk=>by
   rcases k5 with ⟨rfl,rfl,rfl⟩|⟨a,c,rfl,k6⟩
   ·simp[Builtin.firstCells]
   ·refine run_firstCells_some w i.size k a m c _ ?_ fun j v hj=> ?_
    ·rw[List.length_take,k4,i2,Nat.min_eq_left (Nat.mul_le_mul_right _ hk)]
    ·rw[List.getElem?_take] at hj
     split at hj
     ·exact k6 j v hj
     ·cases hj
  have hvd:=hx d h1
  cases hvd with
  |nils=>
   refine ⟨_, ?_,.int _ _⟩
   have:=hfc 0 (Nat.zero_le _)
   simp[ax,Builtin.copy_,run_underlying hT,hlo,Go.sizeOf,typeInfo,i1,this,goInt]
  |slc id off len es kc p a cap hp hl hk hm hes ha=>
   dsimp only at hr ⊢
   obtain ⟨c1,c2⟩:=az rfl hr
   rw[←c2];rw[←c2] at hr
   obtain rfl:=FF c1
   have hmin:(Bool.rec len m (Nat.ble m len):Nat)=Nat.min m len:=by
    rw[aO]
    by_cases hml:m<=len
    ·rw[FC hml];show m=Nat.min m len;exact (Nat.min_eq_left hml).symm
    ·rw[FB hml];show len=Nat.min m len;exact (Nat.min_eq_right (by omega)).symm
   rw[hmin] at hr ⊢
   cases hk:Nat.min m len with
   |zero=>
    refine ⟨_, ?_,.int _ _⟩
    have:=hfc 0 (Nat.zero_le _)
    simp only[Nat.zero_mul,List.take_zero] at this
    simp[ax,Builtin.copy_,run_underlying hT,hlo,Go.sizeOf,typeInfo,i1,hk,this,goInt,storeCells]
   |succ k=>
    rw[hk] at hr
    dsimp only at hr ⊢
    have hkm:k+1<=m:=by rw[←hk];exact Nat.min_le_left _ _
    have hkl:k+1<=len:=by rw[←hk];exact Nat.min_le_right _ _
    obtain ⟨l,h5,h6⟩:=aw rfl hr
    rw[←h6];rw[←h6] at hr
    obtain ⟨c,h7,h8,h9⟩:=iN rfl hr
    rw[←h9]
    obtain ⟨a1,a2⟩:=ha (by omega)
    subst a1
    rw[d9] at h5
    split at h5
    ·cases h5
     have hv:VRL ι (new.take (Nat.mul (k+1) es)) (vs.take ((k+1)*es)):=k2.take _
     obtain ⟨w',s1,s2,s3⟩:=e7 hR hp h7 hv (fun u hu=>k3 u (List.mem_of_mem_take hu)) h8
     refine ⟨_,w',ι,.inl ?_,.int _ _,s2,s3⟩
     have:=hfc (k+1) hkm
     simp[ax,Builtin.copy_,run_underlying hT,hlo,Go.sizeOf,typeInfo,i1,hk,this,goInt,s1]
    ·cases h5
  |_=>exact Fy rfl hr
theorem jG  (hT:P.underlying T=some (.slice e)) (hz:zeroOf P e=some z) (ts:List TypeId) (ty:Nat) (hx:OV ι t y x) (hR:Rel P ι B h w):
 aR P ι B h w (fV z y t h) (ax ((Builtin.clear_ (T::ts).toArray ty #[x]).run P w)):=
 aB fun hr=>by
  unfold fV at *
  obtain ⟨v,h1,h2⟩:=au rfl hr
  rw[←h2];rw[←h2] at hr
  obtain ⟨i,zv,i1,i2,i3,i4,i5⟩:=bD (ι:=ι) hz
  have hv:=hx v h1
  cases hv with
  |nils=>exact ⟨undef,by simp[ax,Builtin.clear_,run_underlying hT];rfl,cn⟩
  |slc id off len es kc p a cap hp hl hk hm hes ha=>
   cases len with
   |zero=>exact ⟨undef,by simp[ax,Builtin.clear_,run_underlying hT];rfl,cn⟩
   |succ len=>
    dsimp only at hr ⊢
    rw[ek] at hr ⊢
    obtain ⟨c,h7,h8,h9⟩:=iN rfl hr
    rw[←h9]
    obtain ⟨a1,a2⟩:=ha (by omega)
    subst a1
    obtain ⟨q1,q2⟩:=eY i4 i5 (len+1)
    obtain ⟨w',s1,s2,s3⟩:=e7 hR hp h7 q1 q2 h8
    have hzc:(Builtin.zeroCells zv.cells (len+1)).toList=Nm.rep (len+1) zv.cells.toList:=fb zv.cells (len+1)
    refine ⟨_,w',ι,.inl ?_,cn,s2,s3⟩
    simp[ax,Builtin.clear_,run_underlying hT,du i1 i2,hzc,s1]
    rfl
  |_=>exact Fy rfl hr
theorem ut  {K:List NV->NR} {r:NR} (e:od t l .fail K=r) (hr:r≠.fail):∃vs,(∀xs:List Value,y0 ι t l xs->VRL ι vs xs)/\K vs=r:=by
 obtain ⟨vs,h1,h2⟩:=lK (ι:=ι) e hr
 exact ⟨vs,fun xs hx=>h1 xs hx.1 hx.2,h2⟩
theorem pm {f:NOpd} {xs:List Value} (hf:OV ι t f x) (hx:y0 ι t l xs):
 aR P ι B h w (pT f l t h) ((do let d ←Deferred.ofValue x xs.toArray;invoke d.target d.args:Sem Next).run P w):=
 aB fun hr=>by
  unfold pT at *
  obtain ⟨v,h1,h2⟩:=au rfl hr
  rw[←h2];rw[←h2] at hr
  obtain ⟨vs,h3,h4⟩:=ut (ι:=ι) rfl hr
  rw[←h4];rw[←h4] at hr
  have hvs:=h3 xs hx
  have hv:=hf v h1
  cases hv with
  |fn f cap cap' hc=>
   dsimp only
   rw[dc]
   exact ⟨xs++cap',hvs.app hc,by simp[Deferred.ofValue,invoke]⟩
  |yld l p hp=>exact ⟨xs,p,hp,hvs,by simp[Deferred.ofValue,invoke]⟩
  |_=>exact Fy rfl hr
theorem nG {f:NOpd} (hf:OV ι t f x):aR P ι B h w (lx f t h) ((do pure (Next.defer (←Deferred.ofValue x #[])):Sem Next).run P w):=
 aB fun hr=>by
  unfold lx at *
  obtain ⟨v,h1,h2⟩:=au rfl hr
  rw[←h2];rw[←h2] at hr
  have hv:=hf v h1
  cases hv with
  |fn f cap cap' hc=>exact ⟨cap',hc,by simp[Deferred.ofValue]⟩
  |_=>exact Fy rfl hr
theorem mG  (hx:OV ι t y x):aR P ι B h w (ly y t h) (ax ((Instr.panic x).run P w)):=
 aB fun hr=>by
  unfold ly at *
  obtain ⟨v,h1,h2⟩:=au rfl hr
  rw[←h2];rw[←h2] at hr
  have hv:=hx v h1
  cases hv with
  |ifc T v v' hv=>exact ⟨_,.ifc _ _ _ hv,rfl⟩
  |_=>exact Fy rfl hr
end
end Nm
namespace Nm
open Go
variable {n:NOp} {type T:TypeId} {pos:String} {after:Array Edge} {guard:Option (Nat×Bool)} {dst:Option Tmp} {x i:Operand} {f:Nat} {ps:Array (Nat×Operand)}
theorem bg {P:Program} {w:World} (s:Sem Value):(do pure (Next.value (←s)):Sem Next).run P w=ax (s.run P w):=by
 simp only[ax,Sem.run_bind,Sem.run_pure]
theorem tp {P:Program} {w:World} (s:Sem Unit):(do s;pure Next.skip:Sem Next).run P w=pS (s.run P w):=by
 simp only[pS,Sem.run_bind,Sem.run_pure]
section
variable {P:Program} {ι:aH} {B:Nat} {h:NH} {w:World} {t:Tm} {e:Operand->Value}
def OE (ι:aH) (t:Tm) (e:Operand->Value):Prop:=∀x y,am x=some y->OV ι t y (e x)
theorem gh (hO:OE ι t e):∀{l:List Operand} {l':List NOpd},cT l=some l'->y0 ι t l' (l.map e):=by
 intro l
 induction l with
 |nil=>intro l' hc;cases hc;exact ⟨rfl,by simp⟩
 |cons x l ih=>
  intro l' hc
  have hc':(match am x,cT l with|some x,some l=>some (x::l)|_,_=>none)=some l':=hc
  split at hc'
  ·rename_i y m h1 h2
   cases hc'
   obtain ⟨a,b⟩:=ih h2
   refine ⟨by simp[a],fun i y' x' hi hx=> ?_⟩
   cases i with
   |zero=>simp at hi hx;subst hi hx;exact hO _ _ h1
   |succ i=>exact b i y' x' (by simpa using hi) (by simpa using hx)
  ·cases hc'
theorem dR (hO:OE ι t e) {place:Nat->Option (Nat×Nat)}:∀{l:List (Nat×Operand)} {ps:List (Nat×Nat×NOpd)},cG place l=some ps->jV ι t place ps (l.map fun p=>(p.1,e p.2)):=by
 intro l
 induction l with
 |nil=>intro ps hc;cases hc;exact trivial
 |cons x l ih=>
  intro ps hc
  have hc':(match place x.1,am x.2,cG place l with
   |some p,some x,some l=>ak p.1 fun o=>ak p.2 fun n=>some ((o,n,x)::l)
   |_,_,_=>none)=some ps:=hc
  split at hc'
  ·rename_i p y m h1 h2 h3
   simp only[af] at hc'
   cases hc'
   exact ⟨h1,hO _ _ h2,ih h3⟩
  ·cases hc'
theorem ip {k:IntKind} {K:IntKind->Option NOp} (hc:rc k K=some n):K k=some n:=by rw[ni] at hc;exact hc
theorem iS  {s:Nat} {fd:Field} (hc:jd P s f=some fd):∃fs,P.underlying s=some (.struct fs)/\fs[f]? =some fd:=by
 unfold jd at hc
 split at hc
 ·rename_i fs hs;exact ⟨fs,hs,hc⟩
 ·cases hc
theorem fB (hO:OE ι t e) {x:Option Operand} {y:Option NOpd} (hc:je x=some y):BV ι t y (x.map e):=by
 cases x with
 |none=>cases hc;trivial
 |some x=>
  have hc':(match am x with|some x=>some (some x)|none=>none)=some y:=hc
  split at hc'
  ·rename_i z hz;cases hc';exact hO _ _ hz
  ·cases hc'
theorem aE {α:Type} {b:Bool} {x:Option α} {r:α} (hc:cond b x none=some r):b=true/\x=some r:=by
 cases b with
 |true=>exact ⟨rfl,hc⟩
 |false=>cases hc
theorem pV {src dst:Nat} {y:NOpd} (hc:dZ P src dst y=some n) (hx:OV ι t y (e x)) (hR:Rel P ι B h w) (hB:B<=w.heap.size):
 aR P ι B h w (ae n t h) (ax ((convert src dst (e x)).run P w)):=by
 unfold dZ at hc
 split at hc
 ·rename_i k hs hd
  have hc:=ip hc;cases hc
  exact nk hs hd hx
 ·rename_i hs hd
  cases hc
  exact nt hs hd hx
 ·rename_i e' hs hd
  split at hc
  ·rename_i he
   rw[af] at hc;cases hc
   exact iz hs hd he e' hx hR hB
  ·cases hc
 ·rename_i e' hs hd
  split at hc
  ·rename_i he
   cases hc
   exact iq hs hd he hx hR
  ·cases hc
 ·rename_i e' e'' hs hd
  split at hc
  ·rename_i he
   obtain ⟨c1,c2⟩:=aE hc
   cases c2
   obtain rfl:=FF c1
   exact kX hd he hx hR
  ·cases hc
 ·cases hc
theorem kL {b:Builtin} {args:Array Operand} {ts:Array TypeId} {l:List NOpd} (hl:cT args.toList=some l) (hc:bT P b l ts.toList=some n) (hO:OE ι t e) (hR:Rel P ι B h w) (hB:B<=w.heap.size) (ty:Nat) (cs:Array Bool):
 aR P ι B h w (ae n t h) ((builtin b ts ty cs (args.map e)).run P w):=by
 have hx0:=gh hO hl
 have ea:args.map e=(args.toList.map e).toArray:=by apply Array.ext';simp
 have et:ts=ts.toList.toArray:=Array.toArray_toList.symm
 unfold bT at hc
 rw[ea,et]
 generalize args.toList.map e=xs at *
 generalize ts.toList=us at *
 have one:∀{y:NOpd} {xs:List Value},y0 ι t [y] xs->∃x,xs= [x]/\OV ι t y x:=fun {y xs} hx=>by
  obtain ⟨h1,h2⟩:=hx
  match xs,h1 with| [x],_=>exact ⟨x,rfl,h2 0 y x rfl rfl⟩
 have two:∀{y z:NOpd} {xs:List Value},y0 ι t [y,z] xs->∃x u,xs= [x,u]/\OV ι t y x/\OV ι t z u:=fun {y z xs} hx=>by
  obtain ⟨h1,h2⟩:=hx
  match xs,h1 with| [x,u],_=>exact ⟨x,u,rfl,h2 0 y x rfl rfl,h2 1 z u rfl rfl⟩
 split at hc
 ·obtain ⟨x,rfl,hx⟩:=one hx0
  show aR P ι B h w (ae n t h) ((do pure (Next.value (←Builtin.len_ _ ty #[x])):Sem Next).run P w)
  rw[bg]
  split at hc
  ·rename_i hT;cases hc;exact mt hT hx
  ·rename_i hT;cases hc;exact mo hT hx
  ·rename_i hT;cases hc;exact lO hT hx hR
  ·rename_i hT;rw[af] at hc;cases hc;exact gU (t:=t) (.inl ⟨_,hT⟩) rfl
  ·rename_i hT
   split at hc
   ·rename_i hA;rw[af] at hc;cases hc;exact gU (t:=t) (.inr ⟨_,_,hT,hA⟩) rfl
   ·cases hc
  ·cases hc
 ·cases hc
  show aR P ι B h w _ ((do pure (Next.value (←Builtin.min_ _ ty _)):Sem Next).run P w)
  rw[bg]
  exact g9 (mx:=false) hx0 us.toArray ty
 ·cases hc
  show aR P ι B h w _ ((do pure (Next.value (←Builtin.max_ _ ty _)):Sem Next).run P w)
  rw[bg]
  exact g9 (mx:=true) hx0 us.toArray ty
 ·obtain ⟨x,u,rfl,hx,hu⟩:=two hx0
  show aR P ι B h w (ae n t h) ((do pure (Next.value (←Builtin.append_ _ ty #[x,u])):Sem Next).run P w)
  rw[bg]
  split at hc
  ·rename_i hT hX
   split at hc
   ·rename_i hn hb hz
    obtain ⟨c1,c2⟩:=aE hc
    rw[af] at c2;cases c2
    rw[aO] at c1
    exact ma hT hX hn hb hz (of_decide_eq_true c1) ty 0 hx hu hR hB
   ·cases hc
  ·rename_i hT hX
   split at hc
   ·rename_i hn hb hz
    obtain ⟨c1,c2⟩:=aE hc
    rw[af] at c2;cases c2
    rw[Bool.and_eq_true] at c1
    have q1:=FF c1.1
    have q2:=FF c1.2
    subst q1 q2
    exact iV hT hX hn hb hz ty 0 hx hu hR hB
   ·cases hc
  ·cases hc
 ·obtain ⟨x,u,rfl,hx,hu⟩:=two hx0
  show aR P ι B h w (ae n t h) ((do pure (Next.value (←Builtin.copy_ _ ty #[x,u])):Sem Next).run P w)
  rw[bg]
  split at hc
  ·rename_i hT hX
   split at hc
   ·rename_i hn
    cases hc
    exact ow hT hX hn ty hx hu hR
   ·cases hc
  ·cases hc
 ·obtain ⟨x,u,rfl,hx,hu⟩:=two hx0
  show aR P ι B h w (ae n t h) ((do pure (Next.value (←Builtin.delete_ _ ty #[x,u])):Sem Next).run P w)
  rw[bg]
  split at hc
  ·rename_i hT
   split at hc
   ·rename_i hs
    cases hc
    exact mg hT hs hx hu _ ty hR
   ·cases hc
  ·cases hc
 ·obtain ⟨x,rfl,hx⟩:=one hx0
  show aR P ι B h w (ae n t h) ((do pure (Next.value (←Builtin.clear_ _ ty #[x])):Sem Next).run P w)
  rw[bg]
  split at hc
  ·rename_i hT
   split at hc
   ·rename_i hz
    cases hc
    exact jG hT hz [] ty hx hR
   ·cases hc
  ·cases hc
 ·cases hc
  rfl
 ·cases hc
theorem oH {d:TypeDesc} {c:BC} (hc:pA d=some c):c.of d/\c≠.ifc:=by
 unfold pA at hc
 split at hc<;>first|(cases hc;constructor<;>simp[BC.of])|cases hc
theorem ws  (hc:ah P (.move x)=some n) (hO:OE ι t e) (_hR:Rel P ι B h w) (_hB:B<=w.heap.size):
 aR P ι B h w (ae n t h) ((execOp e ⟨dst,.move x,type,pos,after,guard⟩).run P w):=by
 replace hc:ee x=some n:=hc
 unfold ee at hc
 split at hc
 ·rename_i y hy;cases hc;exact jy (hO _ _ hy)
 ·cases hc
theorem rL  (hc:ah P (.assign x)=some n) (hO:OE ι t e) (_hR:Rel P ι B h w) (_hB:B<=w.heap.size):
 aR P ι B h w (ae n t h) ((execOp e ⟨dst,.assign x,type,pos,after,guard⟩).run P w):=by
 replace hc:ee x=some n:=hc
 unfold ee at hc
 split at hc
 ·rename_i y hy;cases hc;exact jy (hO _ _ hy)
 ·cases hc
theorem wS  {c:Operand} {a:Operand} {b:Operand} (hc:ah P (.pick c a b)=some n) (hO:OE ι t e) (_hR:Rel P ι B h w) (_hB:B<=w.heap.size):
 aR P ι B h w (ae n t h) ((execOp e ⟨dst,.pick c a b,type,pos,after,guard⟩).run P w):=by
 replace hc:j8 c a b=some n:=hc
 unfold j8 at hc
 split at hc
 ·rename_i h1 h2 h3;cases hc;exact oy (hO _ _ h1) (hO _ _ h2) (hO _ _ h3)
 ·cases hc
theorem uq  (hc:ah P (.alloc T)=some n) (_hO:OE ι t e) (hR:Rel P ι B h w) (hB:B<=w.heap.size):
 aR P ι B h w (ae n t h) ((execOp e ⟨dst,.alloc T,type,pos,after,guard⟩).run P w):=by
 replace hc:fT P T=some n:=hc
 unfold fT at hc
 split at hc
 ·rename_i z hz;rw[af] at hc;cases hc
  show aR P ι B h w _ ((do pure (Next.value (←Instr.alloc T true (.tuple #[]))):Sem Next).run P w)
  rw[bg];exact nF (t:=t) hz hR hB T
 ·cases hc
theorem y6  (hc:ah P (.box T x)=some n) (hO:OE ι t e) (hR:Rel P ι B h w) (hB:B<=w.heap.size):
 aR P ι B h w (ae n t h) ((execOp e ⟨dst,.box T x,type,pos,after,guard⟩).run P w):=by
 replace hc:qa T x=some n:=hc
 unfold qa at hc
 split at hc
 ·rename_i y hy;rw[af] at hc;cases hc
  show aR P ι B h w _ ((do pure (Next.value (←Instr.box T (e x))):Sem Next).run P w)
  rw[bg];exact sh (hO _ _ hy) hR hB T T
 ·cases hc
theorem uM  (hc:ah P (.build T ps)=some n) (hO:OE ι t e) (_hR:Rel P ι B h w) (_hB:B<=w.heap.size):
 aR P ι B h w (ae n t h) ((execOp e ⟨dst,.build T ps,type,pos,after,guard⟩).run P w):=by
 show aR P ι B h w _ ((do pure (Next.value (←Instr.build T (ps.map fun (i,x)=>(i,e x)))):Sem Next).run P w)
 have ep:(ps.map fun (i,x)=>(i,e x))=(ps.toList.map fun p=>(p.1,e p.2)).toArray:=by apply Array.ext';simp
 rw[bg,ep]
 replace hc:fN P T ps.toList=some n:=hc
 unfold fN at hc
 split at hc
 ·rename_i z hz
  split at hc
  ·rename_i fs hT
   split at hc
   ·rename_i pl hpl
    split at hc
    ·rename_i l hl;cases hc;exact fR hz hT hpl (dR hO hl)
    ·cases hc
   ·cases hc
  ·rename_i m el hT
   split at hc
   ·rename_i k hk
    split at hc
    ·rename_i l hl;cases hc;exact gT hz hT hk (dR hO hl)
    ·cases hc
   ·cases hc
  ·cases hc
 ·cases hc
theorem kR  {len:Nat} (hc:ah P (.buildSlice T len ps)=some n) (hO:OE ι t e) (hR:Rel P ι B h w) (hB:B<=w.heap.size):
 aR P ι B h w (ae n t h) ((execOp e ⟨dst,.buildSlice T len ps,type,pos,after,guard⟩).run P w):=by
 have ep:(ps.map fun (i,x)=>(i,e x))=(ps.toList.map fun p=>(p.1,e p.2)).toArray:=by apply Array.ext';simp
 unfold execOp
 dsimp only
 rw[bg,ep]
 replace hc:bX P T len ps.toList=some n:=hc
 unfold bX at hc
 split at hc
 ·rename_i el hT
  split at hc
  ·rename_i z k hz hk
   split at hc
   ·rename_i l hl
    obtain ⟨c1,c2⟩:=aE hc
    rw[ek,af,af] at c2;cases c2
    rw[Bool.and_eq_true] at c1
    have c3:len*k<=16777216:=Nat.le_of_ble_eq_true c1.2
    exact ie (T':=0) hT hz hk (Nat.le_of_ble_eq_true c1.1) c3 rfl rfl (dR hO hl) hR hB
   ·cases hc
  ·cases hc
 ·cases hc
theorem wM  (hc:ah P (.load T x)=some n) (hO:OE ι t e) (hR:Rel P ι B h w) (_hB:B<=w.heap.size):
 aR P ι B h w (ae n t h) ((execOp e ⟨dst,.load T x,type,pos,after,guard⟩).run P w):=by
 show aR P ι B h w _ ((do pure (Next.value (←Instr.loadAt T (e x))):Sem Next).run P w)
 rw[bg]
 replace hc:kv P T x=some n:=hc
 unfold kv at hc
 split at hc
 ·rename_i y hT hy;cases hc;exact iT hT (hO _ _ hy) hR
 ·rename_i k y hT hy;cases hc;exact iR hT (hO _ _ hy) hR
 ·cases hc
theorem ul  {a:Operand} (hc:ah P (.store T a x)=some n) (hO:OE ι t e) (hR:Rel P ι B h w) (_hB:B<=w.heap.size):
 aR P ι B h w (ae n t h) ((execOp e ⟨dst,.store T a x,type,pos,after,guard⟩).run P w):=by
 show aR P ι B h w _ ((do Instr.storeAt T (e a) (e x);pure Next.skip:Sem Next).run P w)
 rw[tp]
 replace hc:gc P T a x=some n:=hc
 unfold gc at hc
 split at hc
 ·rename_i k ya yx hT ha hx;cases hc;exact nh hT (hO _ _ ha) (hO _ _ hx) hR
 ·cases hc
theorem nR  (hc:ah P (.nilCheck x)=some n) (hO:OE ι t e) (_hR:Rel P ι B h w) (_hB:B<=w.heap.size):
 aR P ι B h w (ae n t h) ((execOp e ⟨dst,.nilCheck x,type,pos,after,guard⟩).run P w):=by
 replace hc:cC x=some n:=hc
 unfold cC at hc
 split at hc
 ·rename_i y hy;cases hc;exact jt (hO _ _ hy)
 ·cases hc
theorem u9  {op:BinOp} {y:Operand} {T2:TypeId} (hc:ah P (.binOp op T x y T2)=some n) (hO:OE ι t e) (_hR:Rel P ι B h w) (_hB:B<=w.heap.size):
 aR P ι B h w (ae n t h) ((execOp e ⟨dst,.binOp op T x y T2,type,pos,after,guard⟩).run P w):=by
 show aR P ι B h w _ ((do pure (Next.value (←(do eqGuard op T x y (e x) (e y);binOp op T (e x) (e y)))):Sem Next).run P w)
 rw[bg]
 replace hc:pQ P op T x y=some n:=hc
 unfold pQ at hc
 split at hc
 ·rename_i x' y' hx hy
  split at hc
  ·rename_i fs hT
   cases hg:P.eqGuardType P.depth T with
   |true=>rw[hg] at hc;cases hc
   |false=>
    rw[hg] at hc
    simp only[cond_false] at hc
    split at hc
    ·rename_i es hes;cases hc;exact iQ (neg:=false) rfl hes hg (hO _ _ hx) (hO _ _ hy)
    ·rename_i es hes;cases hc;exact iQ (neg:=true) rfl hes hg (hO _ _ hx) (hO _ _ hy)
    ·cases hc
  ·rename_i ms hT
   obtain ⟨c1,c2⟩:=aE hc
   cases c2
   rw[Bool.or_eq_true] at c1
   exact lc hT (by simp[BC.of]) (hO _ _ hx) (hO _ _ hy) fun _=>c1
  ·rename_i d hT
   split at hc
   ·rename_i c hcl
    cases hc
    obtain ⟨q1,q2⟩:=oH hcl
    exact lc hT q1 (hO _ _ hx) (hO _ _ hy) fun q=>Fy q q2
   ·cases hc
  ·cases hc
 ·cases hc
theorem wT  {op:UnOp} (hc:ah P (.unOp op T x)=some n) (hO:OE ι t e) (_hR:Rel P ι B h w) (_hB:B<=w.heap.size):
 aR P ι B h w (ae n t h) ((execOp e ⟨dst,.unOp op T x,type,pos,after,guard⟩).run P w):=by
 show aR P ι B h w _ ((do pure (Next.value (←Op.unary op (e x))):Sem Next).run P w)
 rw[bg]
 replace hc:zq op x=some n:=hc
 unfold zq at hc
 split at hc
 ·rename_i y hy;cases hc;exact tW (hO _ _ hy)
 ·cases hc
theorem oV {dst0:Option Tmp} {src:TypeId} {dst:TypeId} (hc:ah P (.convert src dst x)=some n) (hO:OE ι t e) (hR:Rel P ι B h w) (hB:B<=w.heap.size):
 aR P ι B h w (ae n t h) ((execOp e ⟨dst0,.convert src dst x,type,pos,after,guard⟩).run P w):=by
 show aR P ι B h w _ ((do pure (Next.value (←convert src dst (e x))):Sem Next).run P w)
 rw[bg]
 replace hc:kr P src dst x=some n:=hc
 unfold kr at hc
 split at hc
 ·rename_i y hy;exact pV hc (hO _ _ hy) hR hB
 ·cases hc
theorem ir  (hc:ah P (.makeInterface T x)=some n) (hO:OE ι t e) (_hR:Rel P ι B h w) (_hB:B<=w.heap.size):
 aR P ι B h w (ae n t h) ((execOp e ⟨dst,.makeInterface T x,type,pos,after,guard⟩).run P w):=by
 show aR P ι B h w _ ((do pure (Next.value (←Instr.makeInterface T (e x))):Sem Next).run P w)
 rw[bg]
 replace hc:pj P T x=some n:=hc
 unfold pj at hc
 split at hc
 ·cases hc
 ·rename_i d y hn hT hy;rw[af] at hc;cases hc
  exact mY hT (fun m hm=>hn m hm) rfl (hO _ _ hy)
 ·cases hc
theorem nP  {fn:Fn} {first:Array Operand} {caps:Array Operand} (hc:ah P (.makeFunc fn first caps)=some n) (hO:OE ι t e) (_hR:Rel P ι B h w) (_hB:B<=w.heap.size):
 aR P ι B h w (ae n t h) ((execOp e ⟨dst,.makeFunc fn first caps,type,pos,after,guard⟩).run P w):=by
 cases fn with
 |func f=>
  show aR P ι B h w _ ((do pure (Next.value (←Instr.makeFunc (.func f) (first.map e) (caps.map e))):Sem Next).run P w)
  rw[bg]
  replace hc:j7 f first.toList caps.toList=some n:=hc
  unfold j7 at hc
  split at hc
  ·rename_i l h1 h2
   rw[af] at hc;cases hc
   have e1:first.map e=#[]:=by
    have:first=#[]:=by apply Array.ext';simpa using h1
    rw[this];simp
   have e2:caps.map e=(caps.toList.map e).toArray:=by apply Array.ext';simp
   rw[e1,e2]
   exact og (gh hO h2)
  ·cases hc
 |_=>have hc:(none:Option NOp)=some n:=hc;cases hc
theorem qb  {r:Option Operand} (hc:ah P (.makeMap T r)=some n) (_hO:OE ι t e) (hR:Rel P ι B h w) (hB:B<=w.heap.size):
 aR P ι B h w (ae n t h) ((execOp e ⟨dst,.makeMap T r,type,pos,after,guard⟩).run P w):=by
 cases r with
 |none=>
  cases hc
  show aR P ι B h w _ ((do pure (Next.value (←Instr.makeMap T none)):Sem Next).run P w)
  rw[bg]
  exact nj (t:=t) T hR hB
 |some r=>have hc:(none:Option NOp)=some n:=hc;cases hc
theorem lD  {l:Operand} {c:Operand} (hc:ah P (.makeSlice T l c)=some n) (hO:OE ι t e) (hR:Rel P ι B h w) (hB:B<=w.heap.size):
 aR P ι B h w (ae n t h) ((execOp e ⟨dst,.makeSlice T l c,type,pos,after,guard⟩).run P w):=by
 show aR P ι B h w _ ((do pure (Next.value (←Instr.makeSlice T (e l) (e c))):Sem Next).run P w)
 rw[bg]
 replace hc:dq P T l c=some n:=hc
 unfold dq at hc
 split at hc
 ·rename_i el hT
  split at hc
  ·rename_i h1 h2 h3 h4 h5
   obtain ⟨c1,c2⟩:=aE hc
   rw[af] at c2;cases c2
   rw[aO] at c1
   exact kF hT h2 h3 h1 (of_decide_eq_true c1) el (hO _ _ h4) (hO _ _ h5) hR hB
  ·cases hc
 ·cases hc
theorem tk  {lo:Option Operand} {hi:Option Operand} {mx:Option Operand} (hc:ah P (.slice T x lo hi mx)=some n) (hO:OE ι t e) (_hR:Rel P ι B h w) (_hB:B<=w.heap.size):
 aR P ι B h w (ae n t h) ((execOp e ⟨dst,.slice T x lo hi mx,type,pos,after,guard⟩).run P w):=by
 show aR P ι B h w _ ((do pure (Next.value (←Instr.sliceAt T (e x) (lo.map e) (hi.map e) (mx.map e))):Sem Next).run P w)
 rw[bg]
 cases mx with
 |none=>
  replace hc:gd P T x lo hi=some n:=hc
  unfold gd at hc
  split at hc
  ·rename_i hT hx hl hh;cases hc;exact kx hT (hO _ _ hx) (fB hO hl) (fB hO hh)
  ·rename_i hT hx hl hh
   split at hc
   ·rename_i hk;cases hc;exact jp hT hk (hO _ _ hx) (fB hO hl) (fB hO hh)
   ·cases hc
  ·cases hc
 |some mx=>
  cases lo with
  |none=>have hc:(none:Option NOp)=some n:=hc;cases hc
  |some lo=>
   cases hi with
   |none=>have hc:(none:Option NOp)=some n:=hc;cases hc
   |some hi=>
    replace hc:eD P T x lo hi mx=some n:=hc
    unfold eD at hc
    split at hc
    ·rename_i hT hx hl hh hm
     split at hc
     ·rename_i hk;cases hc;exact jI hT hk (hO _ _ hx) (hO _ _ hl) (hO _ _ hh) (hO _ _ hm)
     ·cases hc
    ·cases hc
theorem lL  {s:TypeId} (hc:ah P (.fieldAddr s x f)=some n) (hO:OE ι t e) (_hR:Rel P ι B h w) (_hB:B<=w.heap.size):
 aR P ι B h w (ae n t h) ((execOp e ⟨dst,.fieldAddr s x f,type,pos,after,guard⟩).run P w):=by
 show aR P ι B h w _ ((do pure (Next.value (←Instr.fieldAt s (e x) f)):Sem Next).run P w)
 rw[bg]
 replace hc:ct P s x f=some n:=hc
 unfold ct at hc
 split at hc
 ·rename_i fd y hf hy
  obtain ⟨fs,f1,f2⟩:=iS hf
  split at hc
  ·rename_i k hk
   obtain ⟨c1,c2⟩:=aE hc
   rw[af] at c2;cases c2
   rw[aO] at c1
   have c1:=of_decide_eq_true c1
   obtain ⟨i,i1,i2⟩:=aW hk
   exact iX f1 f2 i1 (by omega) rfl (hO _ _ hy)
  ·cases hc
 ·cases hc
theorem ui  {s:TypeId} (hc:ah P (.field s x f)=some n) (hO:OE ι t e) (_hR:Rel P ι B h w) (_hB:B<=w.heap.size):
 aR P ι B h w (ae n t h) ((execOp e ⟨dst,.field s x f,type,pos,after,guard⟩).run P w):=by
 show aR P ι B h w _ ((do pure (Next.value (←Instr.field s (e x) f)):Sem Next).run P w)
 rw[bg]
 replace hc:fM P s x f=some n:=hc
 unfold fM at hc
 split at hc
 ·rename_i fd y hf hy
  obtain ⟨fs,f1,f2⟩:=iS hf
  split at hc
  ·rename_i hT;rw[af] at hc;cases hc;exact mj f1 f2 hT rfl (hO _ _ hy)
  ·rename_i hT;rw[af] at hc;cases hc;exact lX f1 f2 hT rfl (hO _ _ hy)
  ·cases hc
 ·cases hc
theorem lz  (hc:ah P (.indexAddr T x i)=some n) (hO:OE ι t e) (_hR:Rel P ι B h w) (_hB:B<=w.heap.size):
 aR P ι B h w (ae n t h) ((execOp e ⟨dst,.indexAddr T x i,type,pos,after,guard⟩).run P w):=by
 show aR P ι B h w _ ((do pure (Next.value (←Instr.indexAt T (e x) (e i))):Sem Next).run P w)
 rw[bg]
 replace hc:cr P T x i=some n:=hc
 unfold cr at hc
 split at hc
 ·rename_i hT hx hi
  split at hc
  ·rename_i hk;rw[af] at hc;cases hc;exact jJ hT rfl hk (hO _ _ hx) (hO _ _ hi)
  ·cases hc
 ·rename_i hT hx hi
  split at hc
  ·rename_i hk;cases hc;exact ji hT hk (hO _ _ hx) (hO _ _ hi)
  ·cases hc
 ·cases hc
theorem uK  (hc:ah P (.index T x i)=some n) (hO:OE ι t e) (_hR:Rel P ι B h w) (_hB:B<=w.heap.size):
 aR P ι B h w (ae n t h) ((execOp e ⟨dst,.index T x i,type,pos,after,guard⟩).run P w):=by
 show aR P ι B h w _ ((do pure (Next.value (←Instr.index T (e x) (e i))):Sem Next).run P w)
 rw[bg]
 replace hc:fX P T x i=some n:=hc
 unfold fX at hc
 split at hc
 ·rename_i hT hx hi;cases hc;exact jE hT (hO _ _ hx) (hO _ _ hi)
 ·rename_i hT hx hi
  split at hc
  ·rename_i m hm;rw[af] at hc;cases hc;exact jU hT hm (hO _ _ hx) (hO _ _ hi)
  ·cases hc
 ·cases hc
theorem sM  {ok:Bool} (hc:ah P (.lookup T x i ok)=some n) (hO:OE ι t e) (hR:Rel P ι B h w) (_hB:B<=w.heap.size):
 aR P ι B h w (ae n t h) ((execOp e ⟨dst,.lookup T x i ok,type,pos,after,guard⟩).run P w):=by
 show aR P ι B h w _ ((do pure (Next.value (←Instr.lookup T (e x) (e i) ok)):Sem Next).run P w)
 rw[bg]
 replace hc:eC P T x i ok=some n:=hc
 unfold eC at hc
 split at hc
 ·rename_i hT hx hi
  split at hc
  ·rename_i hz hs;cases hc;exact mm hT hs hz ok (hO _ _ hx) (hO _ _ hi) hR
  ·cases hc
 ·cases hc
theorem mn  {m:Operand} {k:Operand} (hc:ah P (.mapUpdate T m k x)=some n) (hO:OE ι t e) (hR:Rel P ι B h w) (_hB:B<=w.heap.size):
 aR P ι B h w (ae n t h) ((execOp e ⟨dst,.mapUpdate T m k x,type,pos,after,guard⟩).run P w):=by
 show aR P ι B h w _ ((do Instr.mapUpdate T (e m) (e k) (e x);pure Next.skip:Sem Next).run P w)
 rw[tp]
 replace hc:aS P T m k x=some n:=hc
 unfold aS at hc
 split at hc
 ·rename_i hT hm hk hx
  split at hc
  ·rename_i hs;cases hc;exact eK hT hs (hO _ _ hm) (hO _ _ hk) (hO _ _ hx) hR
  ·cases hc
 ·cases hc
theorem sw  {m:Operand} {k:Operand} (hc:ah P (.insert T m k x)=some n) (hO:OE ι t e) (hR:Rel P ι B h w) (_hB:B<=w.heap.size):
 aR P ι B h w (ae n t h) ((execOp e ⟨dst,.insert T m k x,type,pos,after,guard⟩).run P w):=by
 show aR P ι B h w _ ((do Instr.mapUpdate T (e m) (e k) (e x);pure Next.skip:Sem Next).run P w)
 rw[tp]
 replace hc:aS P T m k x=some n:=hc
 unfold aS at hc
 split at hc
 ·rename_i hT hm hk hx
  split at hc
  ·rename_i hs;cases hc;exact eK hT hs (hO _ _ hm) (hO _ _ hk) (hO _ _ hx) hR
  ·cases hc
 ·cases hc
theorem kJ  {X:TypeId} {ok:Bool} (hc:ah P (.typeAssert x X T ok)=some n) (hO:OE ι t e) (_hR:Rel P ι B h w) (_hB:B<=w.heap.size):
 aR P ι B h w (ae n t h) ((execOp e ⟨dst,.typeAssert x X T ok,type,pos,after,guard⟩).run P w):=by
 cases ok with
 |false=>have hc:(none:Option NOp)=some n:=hc;cases hc
 |true=>
  show aR P ι B h w _ ((do pure (Next.value (←Instr.typeAssert (e x) X T true)):Sem Next).run P w)
  rw[bg]
  replace hc:eA P T x=some n:=hc
  unfold eA at hc
  split at hc
  ·cases hc
  ·rename_i d z y hn hT hz hy;rw[af] at hc;cases hc
   exact ig hT (fun m hm=>hn m hm) hz rfl X (hO _ _ hy)
  ·cases hc
theorem pf  {i:Nat} (hc:ah P (.extract x i)=some n) (hO:OE ι t e) (_hR:Rel P ι B h w) (_hB:B<=w.heap.size):
 aR P ι B h w (ae n t h) ((execOp e ⟨dst,.extract x i,type,pos,after,guard⟩).run P w):=by
 show aR P ι B h w _ ((do pure (Next.value (←Instr.extract (e x) i)):Sem Next).run P w)
 rw[bg]
 replace hc:dI x i=some n:=hc
 unfold dI at hc
 split at hc
 ·rename_i y hy;rw[af] at hc;cases hc;exact kB rfl (hO _ _ hy)
 ·cases hc
theorem uG  (hc:ah P (.panic x)=some n) (hO:OE ι t e) (_hR:Rel P ι B h w) (_hB:B<=w.heap.size):
 aR P ι B h w (ae n t h) ((execOp e ⟨dst,.panic x,type,pos,after,guard⟩).run P w):=by
 show aR P ι B h w _ ((do pure (Next.value (←Instr.panic (e x))):Sem Next).run P w)
 rw[bg]
 replace hc:gi x=some n:=hc
 unfold gi at hc
 split at hc
 ·rename_i y hy;cases hc;exact mG (hO _ _ hy)
 ·cases hc
theorem wg  {c:Call} (hc:ah P (.call c)=some n) (hO:OE ι t e) (hR:Rel P ι B h w) (hB:B<=w.heap.size):
 aR P ι B h w (ae n t h) ((execOp e ⟨dst,.call c,type,pos,after,guard⟩).run P w):=by
 obtain ⟨callee,args,ats⟩:=c
 cases callee with
 |value f=>
  replace hc:js f args.toList=some n:=hc
  unfold js at hc
  split at hc
  ·rename_i hf hl
   cases hc
   have ea:args.map e=(args.toList.map e).toArray:=by apply Array.ext';simp
   show aR P ι B h w _ ((do let d ←Deferred.ofValue (e f) (args.map e);invoke d.target d.args:Sem Next).run P w)
   rw[ea]
   exact pm (hO _ _ hf) (gh hO hl)
  ·cases hc
 |builtin b=>
  replace hc:dr P b args.toList ats.toList=some n:=hc
  unfold dr at hc
  split at hc
  ·rename_i l hl
   exact kL hl hc hO hR hB type _
  ·cases hc
 |invoke r m=>have hc:(none:Option NOp)=some n:=hc;cases hc
theorem uR  {c:Call} (hc:ah P (.defer c)=some n) (hO:OE ι t e) (_hR:Rel P ι B h w) (_hB:B<=w.heap.size):
 aR P ι B h w (ae n t h) ((execOp e ⟨dst,.defer c,type,pos,after,guard⟩).run P w):=by
 obtain ⟨callee,args,ats⟩:=c
 cases callee with
 |value f=>
  replace hc:dM f args.toList=some n:=hc
  unfold dM at hc
  split at hc
  ·rename_i y h1 hf
   cases hc
   have ea:args.map e=#[]:=by
    have:args=#[]:=by apply Array.ext';simpa using h1
    rw[this];simp
   show aR P ι B h w _ ((do pure (Next.defer (←Deferred.ofValue (e f) (args.map e))):Sem Next).run P w)
   rw[ea]
   exact nG (hO _ _ hf)
  ·cases hc
 |builtin b=>have hc:(none:Option NOp)=some n:=hc;cases hc
 |invoke r m=>have hc:(none:Option NOp)=some n:=hc;cases hc
theorem uL {o:Oper} (hc:ah P o.op=some n) (hO:OE ι t e) (hR:Rel P ι B h w) (hB:B<=w.heap.size):aR P ι B h w (ae n t h) ((execOp e o).run P w):=by
 obtain ⟨dst,op,type,pos,after,guard⟩:=o
 cases op with
 |move x=>exact ws hc hO hR hB
 |assign x=>exact rL hc hO hR hB
 |pick c a b=>exact wS hc hO hR hB
 |alloc T=>exact uq hc hO hR hB
 |box T x=>exact y6 hc hO hR hB
 |build T ps=>exact uM hc hO hR hB
 |buildSlice T len ps=>exact kR hc hO hR hB
 |load T x=>exact wM hc hO hR hB
 |store T a x=>exact ul hc hO hR hB
 |nilCheck x=>exact nR hc hO hR hB
 |binOp op T x y T2=>exact u9 hc hO hR hB
 |unOp op T x=>exact wT hc hO hR hB
 |convert src dst x=>exact oV hc hO hR hB
 |makeInterface T x=>exact ir hc hO hR hB
 |makeFunc fn first caps=>exact nP hc hO hR hB
 |makeMap T r=>exact qb hc hO hR hB
 |makeSlice T l c=>exact lD hc hO hR hB
 |slice T x lo hi mx=>exact tk hc hO hR hB
 |fieldAddr s x f=>exact lL hc hO hR hB
 |field s x f=>exact ui hc hO hR hB
 |indexAddr T x i=>exact lz hc hO hR hB
 |index T x i=>exact uK hc hO hR hB
 |lookup T x i ok=>exact sM hc hO hR hB
 |mapUpdate T m k x=>exact mn hc hO hR hB
 |insert T m k x=>exact sw hc hO hR hB
 |typeAssert x X T ok=>exact kJ hc hO hR hB
 |extract x i=>exact pf hc hO hR hB
 |panic x=>exact uG hc hO hR hB
 |call c=>exact wg hc hO hR hB
 |defer c=>exact uR hc hO hR hB
 |next x s=>cases s<;>(have hc:(none:Option NOp)=some n:=hc;cases hc)
 |_=>have hc:(none:Option NOp)=some n:=hc;cases hc
end
end Nm
namespace Nm
open Go
variable {n:NOp} {ps:List (Nat×Nat×NOpd)}
def pn (x:Option NOpd):List NOpd:=match x with|some x=> [x]|none=> []
def opsOf:NOp->List NOpd
 | .move x| .box x _| .load1 x| .loadN _ x| .nilCheck x| .un _ x| .toInt _ x| .strToBytes _ x| .bytesToStr x| .sameSlc x| .toStr x| .mkIfc _ x| .fieldAddr _ x| .field1 _ x| .fieldN _ _ x
 | .typeAssert _ _ x| .extract x _| .panic x| .lenStr x| .lenSlc x| .lenMap x| .clearSlc _ x| .defer x| .rangeMap x| .nextMap x| .entryMap x=> [x]
 | .pick c a b=> [c,a,b]
 | .build _ ps| .buildSlice _ _ _ _ ps=>ps.map fun p=>p.2.2
 | .store _ a x| .bin _ _ a x| .eqAgg _ _ a x| .mkSlice _ _ _ _ a x| .indexSlc _ a x| .indexArr _ _ a x| .indexStr a x| .indexAgg _ _ a x| .lookup _ _ _ a x| .append _ _ _ a x| .appendStr _ a x| .copy _ a x| .delete _ a x=> [a,x]
 | .mkFn _ l| .minmax _ l=>l
 | .sliceStr x lo hi| .sliceSlc _ x lo hi=>x::(pn lo++pn hi)
 | .sliceMax _ x lo hi mx=> [x,lo,hi,mx]
 | .mapUpdate _ m k v=> [m,k,v]
 | .call f l=>f::l
 | .fail| .alloc ..| .mkMap| .recover| .lenArr _=> []
section
variable {t t':Tm}
theorem jY {R:Type} {l:List NOpd} (e:∀x∈l,ρ t x=ρ t' x) (F:R) (K:List NV->R):od t l F K=od t' l F K:=by
 induction l generalizing K with
 |nil=>rfl
 |cons x l ih=>
  show (Option.rec F (fun v=>od t l F fun l=>K (v::l)) (ρ t x):R)=(Option.rec F (fun v=>od t' l F fun l=>K (v::l)) (ρ t' x):R)
  rw[e x (by simp)]
  cases ρ t' x with
  |none=>rfl
  |some v=>exact ih (fun x hx=>e x (by simp[hx])) _
theorem oZ  (e:∀x∈ps.map (fun p=>p.2.2),ρ t x=ρ t' x) (l:List NV):bN t ps l=bN t' ps l:=by
 induction ps generalizing l with
 |nil=>rfl
 |cons p ps ih=>
  show (Option.rec none (fun v:NV=>Option.rec none (fun cs=>cg cs fun k=>cond (Nat.beq k p.2.1) (Option.rec none (bN t ps) (cl cs p.1 l)) none) (cellsOf v)) (ρ t p.2.2):Option (List NV))=
   (Option.rec none (fun v:NV=>Option.rec none (fun cs=>cg cs fun k=>cond (Nat.beq k p.2.1) (Option.rec none (bN t' ps) (cl cs p.1 l)) none) (cellsOf v)) (ρ t' p.2.2):Option (List NV))
  rw[e _ (by simp),funext (ih fun x hx=>e x (by simp at hx ⊢;exact .inr hx))]
theorem pb  (e:∀x∈ps.map (fun p=>p.2.2),ρ t x=ρ t' x) (c:Nat) (l:List NV):bK t ps c l=bK t' ps c l:=by
 induction ps generalizing c l with
 |nil=>rfl
 |cons p ps ih=>
  have ih':bK t ps=bK t' ps:=funext fun c=>funext fun l=>ih (fun x hx=>e x (by simp at hx ⊢;exact .inr hx)) c l
  show (Option.rec none (fun v:NV=>Option.rec none (fun cs=>cg cs fun k=>cond (Nat.beq k p.2.1) (cond (Nat.ble c p.1)
   (dO (Nat.sub p.1 c) (fun l=>Option.rec none (fun l=>Option.rec none (fun l=>eL cs l some) (bK t ps (Nat.add p.1 k) l)) (cj k l)) l) none) none) (cellsOf v)) (ρ t p.2.2):Option (List NV))=
   (Option.rec none (fun v:NV=>Option.rec none (fun cs=>cg cs fun k=>cond (Nat.beq k p.2.1) (cond (Nat.ble c p.1)
   (dO (Nat.sub p.1 c) (fun l=>Option.rec none (fun l=>Option.rec none (fun l=>eL cs l some) (bK t' ps (Nat.add p.1 k) l)) (cj k l)) l) none) none) (cellsOf v)) (ρ t' p.2.2):Option (List NV))
  rw[e _ (by simp),ih']
theorem aG {x:NOpd} (e:ρ t x=ρ t' x) (K K':NV->NR) (k:∀v,K v=K' v):wV t x K=wV t' x K':=by
 unfold wV;rw[e,funext k]
theorem bQ {x:NOpd} (e:ρ t x=ρ t' x) (K K':Nat->NR) (k:∀v,K v=K' v):dk t x K=dk t' x K':=by
 unfold dk;rw[funext k];exact aG e _ _ fun _=>rfl
theorem dP {x:Option NOpd} (e:∀y∈pn x,ρ t y=ρ t' y) (d:Nat) (K K':Nat->NR) (k:∀v,K v=K' v):cW t x d K=cW t' x d K':=by
 cases x with
 |none=>exact k d
 |some x=>exact bQ (e x (by simp[pn])) _ _ k
theorem jX {o:NOp} (e:∀x∈opsOf o,ρ t x=ρ t' x) (h:NH):ae o t h=ae o t' h:=by
 cases o with
 |fail=>rfl
 |alloc=>rfl
 |mkMap=>rfl
 |recover=>rfl
 |lenArr=>rfl
 |pick c a b=>
  refine aG (e c (by simp[opsOf])) _ _ fun v=> ?_
  cases v<;>try rfl
  rename_i q
  cases q
  ·exact aG (e b (by simp[opsOf])) _ _ fun _=>rfl
  ·exact aG (e a (by simp[opsOf])) _ _ fun _=>rfl
 |build z ps=>show aC (bN t ps z) _=aC (bN t' ps z) _;rw[oZ (fun x hx=>e x hx)]
 |buildSlice z n len T ps=>show aC (bK t ps 0 z) _=aC (bK t' ps 0 z) _;rw[pb (fun x hx=>e x hx)]
 |store n a x=>exact aG (e a (by simp[opsOf])) _ _ fun _=>aG (e x (by simp[opsOf])) _ _ fun _=>rfl
 |bin c op a x=>exact aG (e a (by simp[opsOf])) _ _ fun _=>aG (e x (by simp[opsOf])) _ _ fun _=>rfl
 |eqAgg n es a x=>exact aG (e a (by simp[opsOf])) _ _ fun _=>aG (e x (by simp[opsOf])) _ _ fun _=>rfl
 |lookup s z ok a x=>exact aG (e a (by simp[opsOf])) _ _ fun _=>aG (e x (by simp[opsOf])) _ _ fun _=>rfl
 |append n b T a x=>exact aG (e a (by simp[opsOf])) _ _ fun _=>aG (e x (by simp[opsOf])) _ _ fun _=>rfl
 |appendStr T a x=>exact aG (e a (by simp[opsOf])) _ _ fun _=>aG (e x (by simp[opsOf])) _ _ fun _=>rfl
 |copy n a x=>exact aG (e a (by simp[opsOf])) _ _ fun _=>aG (e x (by simp[opsOf])) _ _ fun _=>rfl
 |delete s a x=>exact aG (e a (by simp[opsOf])) _ _ fun _=>aG (e x (by simp[opsOf])) _ _ fun _=>rfl
 |mkSlice z n b T a x=>exact bQ (e a (by simp[opsOf])) _ _ fun _=>bQ (e x (by simp[opsOf])) _ _ fun _=>rfl
 |indexSlc n a x=>exact aG (e a (by simp[opsOf])) _ _ fun _=>bQ (e x (by simp[opsOf])) _ _ fun _=>rfl
 |indexArr n l a x=>exact aG (e a (by simp[opsOf])) _ _ fun _=>bQ (e x (by simp[opsOf])) _ _ fun _=>rfl
 |indexAgg m l a x=>exact aG (e a (by simp[opsOf])) _ _ fun _=>bQ (e x (by simp[opsOf])) _ _ fun _=>rfl
 |indexStr a x=>exact aG (e a (by simp[opsOf])) _ _ fun _=>bQ (e x (by simp[opsOf])) _ _ fun _=>rfl
 |mkFn f l=>exact jY e _ _
 |minmax m l=>exact jY e _ _
 |call f l=>exact aG (e f (by simp[opsOf])) _ _ fun _=>jY (fun x hx=>e x (by simp[opsOf,hx])) _ _
 |mapUpdate s m k v=>exact aG (e m (by simp[opsOf])) _ _ fun _=>aG (e k (by simp[opsOf])) _ _ fun _=>aG (e v (by simp[opsOf])) _ _ fun _=>rfl
 |sliceStr x lo hi=>
  refine aG (e x (by simp[opsOf])) _ _ fun v=> ?_
  cases v<;>try rfl
  show cg _ _=cg _ _
  rw[aZ,aZ]
  exact dP (fun y hy=>e y (by simp[opsOf,hy])) _ _ _ fun _=>dP (fun y hy=>e y (by simp[opsOf,hy])) _ _ _ fun _=>rfl
 |sliceSlc n x lo hi=>
  refine aG (e x (by simp[opsOf])) _ _ fun v=> ?_
  cases v<;>try rfl
  all_goals exact dP (fun y hy=>e y (by simp[opsOf,hy])) _ _ _ fun _=>dP (fun y hy=>e y (by simp[opsOf,hy])) _ _ _ fun _=>rfl
 |sliceMax n x lo hi mx=>
  refine aG (e x (by simp[opsOf])) _ _ fun v=> ?_
  cases v<;>try rfl
  exact bQ (e lo (by simp[opsOf])) _ _ fun _=>bQ (e hi (by simp[opsOf])) _ _ fun _=>bQ (e mx (by simp[opsOf])) _ _ fun _=>rfl
 |_=>exact aG (e _ (by simp[opsOf])) _ _ fun _=>rfl
end
section
variable {P:Program}
def Sub (n:NOp) (op:Op):Prop:=∀y∈opsOf n,∃x∈op.operands.toList,am x=some y
theorem fq {α:Type} {b:Bool} {x:Option α} {r:α} (hc:cond b none x=some r):x=some r:=by
 cases b with
 |true=>cases hc
 |false=>exact hc
theorem jT {l:List Operand} {l':List NOpd} (hc:cT l=some l'):∀y∈l',∃x∈l,am x=some y:=by
 induction l generalizing l' with
 |nil=>cases hc;simp
 |cons x l ih=>
  have hc':(match am x,cT l with|some x,some l=>some (x::l)|_,_=>none)=some l':=hc
  split at hc'
  ·rename_i z m h1 h2
   cases hc'
   intro y hy
   rcases List.mem_cons.1 hy with rfl|hy
   ·exact ⟨x,by simp,h1⟩
   ·obtain ⟨u,a,b⟩:=ih h2 y hy
    exact ⟨u,by simp[a],b⟩
  ·cases hc'
theorem k8 {place:Nat->Option (Nat×Nat)} {l:List (Nat×Operand)} (hc:cG place l=some ps):∀y∈ps.map (fun p=>p.2.2),∃x∈l.map (·.2),am x=some y:=by
 induction l generalizing ps with
 |nil=>cases hc;simp
 |cons x l ih=>
  have hc':(match place x.1,am x.2,cG place l with
   |some p,some x,some l=>ak p.1 fun o=>ak p.2 fun n=>some ((o,n,x)::l)
   |_,_,_=>none)=some ps:=hc
  split at hc'
  ·rename_i p z m h1 h2 h3
   simp only[af] at hc'
   cases hc'
   intro y hy
   rcases List.mem_cons.1 hy with rfl|hy
   ·exact ⟨x.2,by simp,h2⟩
   ·obtain ⟨u,a,b⟩:=ih h3 y hy
    exact ⟨u,List.mem_cons_of_mem _ a,b⟩
  ·cases hc'
theorem gW {x:Option Operand} {y:Option NOpd} (hc:je x=some y):∀z∈pn y,∃u∈x.toList,am u=some z:=by
 cases x with
 |none=>cases hc;simp[pn]
 |some x=>
  have hc':(match am x with|some x=>some (some x)|none=>none)=some y:=hc
  split at hc'
  ·rename_i z hz;cases hc';simp[pn,hz]
  ·cases hc'
theorem ur (x:Operand) (hc:ah P (.move x)=some n):Sub n (.move x):=by
 replace hc:ee x=some n:=hc
 unfold ee at hc
 repeat' split at hc
 all_goals first
  |(cases hc;done)
  |(cases hc;simp_all [Sub,opsOf,Op.operands];done)
theorem pk (x:Operand) (hc:ah P (.assign x)=some n):Sub n (.assign x):=by
 replace hc:ee x=some n:=hc
 unfold ee at hc
 repeat' split at hc
 all_goals first
  |(cases hc;done)
  |(cases hc;simp_all [Sub,opsOf,Op.operands];done)
theorem u0 (c a b:Operand) (hc:ah P (.pick c a b)=some n):Sub n (.pick c a b):=by
 replace hc:j8 c a b=some n:=hc
 unfold j8 at hc
 repeat' split at hc
 all_goals first
  |(cases hc;done)
  |(cases hc;simp_all [Sub,opsOf,Op.operands];done)
theorem vF (T:TypeId) (x:Operand) (hc:ah P (.box T x)=some n):Sub n (.box T x):=by
 replace hc:qa T x=some n:=hc
 unfold qa at hc
 repeat' split at hc
 all_goals first
  |(cases hc;done)
  |(rw[af] at hc;cases hc;simp_all [Sub,opsOf,Op.operands];done)
theorem uQ (T:TypeId) (x:Operand) (hc:ah P (.load T x)=some n):Sub n (.load T x):=by
 replace hc:kv P T x=some n:=hc
 unfold kv at hc
 repeat' split at hc
 all_goals first
  |(cases hc;done)
  |(cases hc;simp_all [Sub,opsOf,Op.operands];done)
theorem rX (T:TypeId) (a x:Operand) (hc:ah P (.store T a x)=some n):Sub n (.store T a x):=by
 replace hc:gc P T a x=some n:=hc
 unfold gc at hc
 repeat' split at hc
 all_goals first
  |(cases hc;done)
  |(cases hc;simp_all [Sub,opsOf,Op.operands];done)
theorem mB (x:Operand) (hc:ah P (.nilCheck x)=some n):Sub n (.nilCheck x):=by
 replace hc:cC x=some n:=hc
 unfold cC at hc
 repeat' split at hc
 all_goals first
  |(cases hc;done)
  |(cases hc;simp_all [Sub,opsOf,Op.operands];done)
theorem rQ (op:BinOp) (T:TypeId) (x y:Operand) (T2:TypeId) (hc:ah P (.binOp op T x y T2)=some n):Sub n (.binOp op T x y T2):=by
 replace hc:pQ P op T x y=some n:=hc
 unfold pQ at hc
 repeat' split at hc
 all_goals first
  |(cases hc;done)
  |(cases hc;simp_all [Sub,opsOf,Op.operands];done)
  |(replace hc:=(aE hc).2;cases hc;simp_all [Sub,opsOf,Op.operands];done)
  |(replace hc:=fq hc;cases hc;done)
  |(replace hc:=fq hc;cases hc;simp_all [Sub,opsOf,Op.operands];done)
theorem th (op:UnOp) (T:TypeId) (x:Operand) (hc:ah P (.unOp op T x)=some n):Sub n (.unOp op T x):=by
 replace hc:zq op x=some n:=hc
 unfold zq at hc
 repeat' split at hc
 all_goals first
  |(cases hc;done)
  |(cases hc;simp_all [Sub,opsOf,Op.operands];done)
theorem gw (T:TypeId) (x:Operand) (hc:ah P (.makeInterface T x)=some n):Sub n (.makeInterface T x):=by
 replace hc:pj P T x=some n:=hc
 unfold pj at hc
 repeat' split at hc
 all_goals first
  |(cases hc;done)
  |(rw[af] at hc;cases hc;simp_all [Sub,opsOf,Op.operands];done)
theorem kV (T:TypeId) (l c:Operand) (hc:ah P (.makeSlice T l c)=some n):Sub n (.makeSlice T l c):=by
 replace hc:dq P T l c=some n:=hc
 unfold dq at hc
 repeat' split at hc
 all_goals first
  |(cases hc;done)
  |(replace hc:=(aE hc).2;rw[af] at hc;cases hc;simp_all [Sub,opsOf,Op.operands];done)
theorem kP (s:TypeId) (x:Operand) (f:Nat) (hc:ah P (.fieldAddr s x f)=some n):Sub n (.fieldAddr s x f):=by
 replace hc:ct P s x f=some n:=hc
 unfold ct at hc
 repeat' split at hc
 all_goals first
  |(cases hc;done)
  |(replace hc:=(aE hc).2;rw[af] at hc;cases hc;simp_all [Sub,opsOf,Op.operands];done)
theorem sA (s:TypeId) (x:Operand) (f:Nat) (hc:ah P (.field s x f)=some n):Sub n (.field s x f):=by
 replace hc:fM P s x f=some n:=hc
 unfold fM at hc
 repeat' split at hc
 all_goals first
  |(cases hc;done)
  |(rw[af] at hc;cases hc;simp_all [Sub,opsOf,Op.operands];done)
theorem kE (T:TypeId) (x i:Operand) (hc:ah P (.indexAddr T x i)=some n):Sub n (.indexAddr T x i):=by
 replace hc:cr P T x i=some n:=hc
 unfold cr at hc
 repeat' split at hc
 all_goals first
  |(cases hc;done)
  |(cases hc;simp_all [Sub,opsOf,Op.operands];done)
  |(rw[af] at hc;cases hc;simp_all [Sub,opsOf,Op.operands];done)
theorem rW (T:TypeId) (x i:Operand) (hc:ah P (.index T x i)=some n):Sub n (.index T x i):=by
 replace hc:fX P T x i=some n:=hc
 unfold fX at hc
 repeat' split at hc
 all_goals first
  |(cases hc;done)
  |(cases hc;simp_all [Sub,opsOf,Op.operands];done)
  |(rw[af] at hc;cases hc;simp_all [Sub,opsOf,Op.operands];done)
theorem pw (T:TypeId) (x i:Operand) (ok:Bool) (hc:ah P (.lookup T x i ok)=some n):Sub n (.lookup T x i ok):=by
 replace hc:eC P T x i ok=some n:=hc
 unfold eC at hc
 repeat' split at hc
 all_goals first
  |(cases hc;done)
  |(cases hc;simp_all [Sub,opsOf,Op.operands];done)
theorem kz (T:TypeId) (m k x:Operand) (hc:ah P (.mapUpdate T m k x)=some n):Sub n (.mapUpdate T m k x):=by
 replace hc:aS P T m k x=some n:=hc
 unfold aS at hc
 repeat' split at hc
 all_goals first
  |(cases hc;done)
  |(cases hc;simp_all [Sub,opsOf,Op.operands];done)
theorem qc (T:TypeId) (m k x:Operand) (hc:ah P (.insert T m k x)=some n):Sub n (.insert T m k x):=by
 replace hc:aS P T m k x=some n:=hc
 unfold aS at hc
 repeat' split at hc
 all_goals first
  |(cases hc;done)
  |(cases hc;simp_all [Sub,opsOf,Op.operands];done)
theorem kq (x:Operand) (X T:TypeId) (hc:ah P (.typeAssert x X T true)=some n):Sub n (.typeAssert x X T true):=by
 replace hc:eA P T x=some n:=hc
 unfold eA at hc
 repeat' split at hc
 all_goals first
  |(cases hc;done)
  |(rw[af] at hc;cases hc;simp_all [Sub,opsOf,Op.operands];done)
theorem mW (x:Operand) (i:Nat) (hc:ah P (.extract x i)=some n):Sub n (.extract x i):=by
 replace hc:dI x i=some n:=hc
 unfold dI at hc
 repeat' split at hc
 all_goals first
  |(cases hc;done)
  |(rw[af] at hc;cases hc;simp_all [Sub,opsOf,Op.operands];done)
theorem sC (x:Operand) (hc:ah P (.panic x)=some n):Sub n (.panic x):=by
 replace hc:gi x=some n:=hc
 unfold gi at hc
 repeat' split at hc
 all_goals first
  |(cases hc;done)
  |(cases hc;simp_all [Sub,opsOf,Op.operands];done)
theorem vb {src dst:Nat} {x:Operand} {y:NOpd} (hx:am x=some y) (hc:dZ P src dst y=some n):Sub n (.convert src dst x):=by
 have key:opsOf n= [y]:=by
  unfold dZ at hc
  repeat' split at hc
  all_goals first
   |(cases hc;done)
   |(cases hc;rfl)
   |(replace hc:=ip hc;cases hc;rfl)
   |(rw[af] at hc;cases hc;rfl)
   |(replace hc:=(aE hc).2;cases hc;rfl)
 intro z hz
 rw[key] at hz
 simp at hz
 subst hz
 exact ⟨x,by simp[Op.operands],hx⟩
theorem nL {b:Builtin} {args:List NOpd} {ts:List TypeId} (hc:bT P b args ts=some n):∀y∈opsOf n,y∈args:=by
 unfold bT at hc
 repeat' split at hc
 all_goals first
  |(cases hc;done)
  |(cases hc;simp[opsOf];done)
  |(rw[af] at hc;cases hc;simp[opsOf];done)
  |(replace hc:=(aE hc).2;rw[af] at hc;cases hc;simp[opsOf];done)
theorem zi {op:Op} (hc:ah P op=some n):Sub n op:=by
 cases op with
 |move x=>exact ur x hc
 |assign x=>exact pk x hc
 |pick c a b=>exact u0 c a b hc
 |alloc T=>
  replace hc:fT P T=some n:=hc
  unfold fT at hc
  split at hc
  ·rw[af] at hc;cases hc;intro y hy;cases hy
  ·cases hc
 |box T x=>exact vF T x hc
 |build T ps=>
  replace hc:fN P T ps.toList=some n:=hc
  unfold fN at hc
  repeat' split at hc
  all_goals first
   |(cases hc;done)
   |(rename_i l hl;cases hc;intro y hy;obtain ⟨u,a,b⟩:=k8 hl y hy;exact ⟨u,by simpa [Op.operands] using a,b⟩)
 |buildSlice T len ps=>
  replace hc:bX P T len ps.toList=some n:=hc
  unfold bX at hc
  repeat' split at hc
  all_goals first
   |(cases hc;done)
   |(rename_i l hl;replace hc:=(aE hc).2;rw[ek,af,af] at hc;cases hc;intro y hy;obtain ⟨u,a,b⟩:=k8 hl y hy;exact ⟨u,by simpa [Op.operands] using a,b⟩)
 |load T x=>exact uQ T x hc
 |store T a x=>exact rX T a x hc
 |nilCheck x=>exact mB x hc
 |binOp op T x y T2=>exact rQ op T x y T2 hc
 |unOp op T x=>exact th op T x hc
 |convert src dst x=>
  replace hc:kr P src dst x=some n:=hc
  unfold kr at hc
  split at hc
  ·rename_i y hy;exact vb hy hc
  ·cases hc
 |makeInterface T x=>exact gw T x hc
 |makeFunc fn first caps=>
  cases fn with
  |func f=>
   replace hc:j7 f first.toList caps.toList=some n:=hc
   unfold j7 at hc
   split at hc
   ·rename_i l h1 h2
    rw[af] at hc;cases hc
    intro y hy
    obtain ⟨u,a,b⟩:=jT h2 y hy
    exact ⟨u,by simp[Op.operands,h1,a],b⟩
   ·cases hc
  |_=>have hc:(none:Option NOp)=some n:=hc;cases hc
 |makeMap T r=>
  cases r with
  |none=>cases hc;intro y hy;cases hy
  |some r=>have hc:(none:Option NOp)=some n:=hc;cases hc
 |makeSlice T l c=>exact kV T l c hc
 |slice T x lo hi mx=>
  cases mx with
  |none=>
   replace hc:gd P T x lo hi=some n:=hc
   unfold gd at hc
   split at hc
   ·rename_i hT hx hl hh
    cases hc
    intro y hy
    simp only[opsOf,FE,List.mem_append] at hy
    rcases hy with rfl|hy|hy
    ·exact ⟨x,by simp[Op.operands],hx⟩
    ·obtain ⟨u,a,b⟩:=gW hl y hy;exact ⟨u,by simp only[Op.operands];simp at a ⊢;simp[a],b⟩
    ·obtain ⟨u,a,b⟩:=gW hh y hy;exact ⟨u,by simp only[Op.operands];simp at a ⊢;simp[a],b⟩
   ·rename_i hT hx hl hh
    split at hc
    ·cases hc
     intro y hy
     simp only[opsOf,FE,List.mem_append] at hy
     rcases hy with rfl|hy|hy
     ·exact ⟨x,by simp[Op.operands],hx⟩
     ·obtain ⟨u,a,b⟩:=gW hl y hy;exact ⟨u,by simp only[Op.operands];simp at a ⊢;simp[a],b⟩
     ·obtain ⟨u,a,b⟩:=gW hh y hy;exact ⟨u,by simp only[Op.operands];simp at a ⊢;simp[a],b⟩
    ·cases hc
   ·cases hc
  |some mx=>
   cases lo with
   |none=>have hc:(none:Option NOp)=some n:=hc;cases hc
   |some lo=>
    cases hi with
    |none=>have hc:(none:Option NOp)=some n:=hc;cases hc
    |some hi=>
     replace hc:eD P T x lo hi mx=some n:=hc
     unfold eD at hc
     split at hc
     ·rename_i hT hx hl hh hm
      split at hc
      ·cases hc
       intro y hy
       simp only[opsOf,FE,FD,or_false] at hy
       rcases hy with rfl|rfl|rfl|rfl
       ·exact ⟨x,by simp[Op.operands],hx⟩
       ·exact ⟨lo,by simp[Op.operands],hl⟩
       ·exact ⟨hi,by simp[Op.operands],hh⟩
       ·exact ⟨mx,by simp[Op.operands],hm⟩
      ·cases hc
     ·cases hc
 |fieldAddr s x f=>exact kP s x f hc
 |field s x f=>exact sA s x f hc
 |indexAddr T x i=>exact kE T x i hc
 |index T x i=>exact rW T x i hc
 |lookup T x i ok=>exact pw T x i ok hc
 |mapUpdate T m k x=>exact kz T m k x hc
 |insert T m k x=>exact qc T m k x hc
 |typeAssert x X T ok=>
  cases ok with
  |false=>have hc:(none:Option NOp)=some n:=hc;cases hc
  |true=>exact kq x X T hc
 |extract x i=>exact mW x i hc
 |panic x=>exact sC x hc
 |call c=>
  obtain ⟨callee,args,ats⟩:=c
  cases callee with
  |value f=>
   replace hc:js f args.toList=some n:=hc
   unfold js at hc
   split at hc
   ·rename_i hf hl
    cases hc
    intro y hy
    rcases List.mem_cons.1 hy with rfl|hy
    ·exact ⟨f,by simp[Op.operands,Call.operands],hf⟩
    ·obtain ⟨u,a,b⟩:=jT hl y hy
     exact ⟨u,by simp[Op.operands,Call.operands];right;simpa using a,b⟩
   ·cases hc
  |builtin b=>
   replace hc:dr P b args.toList ats.toList=some n:=hc
   unfold dr at hc
   split at hc
   ·rename_i l hl
    intro y hy
    obtain ⟨u,a,b⟩:=jT hl y (nL hc y hy)
    exact ⟨u,by simp[Op.operands,Call.operands];simpa using a,b⟩
   ·cases hc
  |invoke r m=>have hc:(none:Option NOp)=some n:=hc;cases hc
 |defer c=>
  obtain ⟨callee,args,ats⟩:=c
  cases callee with
  |value f=>
   replace hc:dM f args.toList=some n:=hc
   unfold dM at hc
   split at hc
   ·rename_i y h1 hf
    cases hc
    intro z hz
    simp only[opsOf,List.mem_singleton] at hz
    subst hz
    exact ⟨f,by simp[Op.operands,Call.operands],hf⟩
   ·cases hc
  |builtin b=>have hc:(none:Option NOp)=some n:=hc;cases hc
  |invoke r m=>have hc:(none:Option NOp)=some n:=hc;cases hc
 |_=>have hc:(none:Option NOp)=some n:=hc;cases hc
theorem vQ {x:Operand} {k:Nat} (hc:am x=some (.tmp (D4.of k))):x= .tmp k:=by
 cases x with
 |tmp j=>
  have hc':(D4.ofNat j fun t=>some (NOpd.tmp t))=some (.tmp (D4.of k)):=hc
  rw[D4.ofNat_eq] at hc'
  injection hc' with hc'
  injection hc' with hc'
  rw[D4.of_inj hc']
 |const v=>
  have hc':(match ofValue v with|some v=>some (NOpd.const v)|none=>none)=some (.tmp (D4.of k)):=hc
  split at hc'<;>cases hc'
 |func f=>
  have hc':(ak f fun f=>some (NOpd.const (.fn f [])))=some (.tmp (D4.of k)):=hc
  rw[af] at hc';cases hc'
 |global g=>cases hc
theorem vC {op:Op} (hc:ah P op=some n) {k:Nat} (hk:NOpd.tmp (D4.of k)∈opsOf n):Operand.tmp k∈op.operands.toList:=by
 obtain ⟨x,h1,h2⟩:=zi hc _ hk
 rw[←vQ h2];exact h1
end
end Nm
namespace Nm
open Go
variable {α β:Type} {a b:Code} {ops:Array Oper} {listed:Array Bool}
theorem pI {b:Bool} {m:String} (h:CheckCode.require b m= .ok ()):b=true:=by
 unfold CheckCode.require at h
 cases b with
 |true=>rfl
 |false=>cases h
theorem a9  {x:Except String α} {f:α->Except String β} {r:β} (h:(x>>=f)= .ok r):∃a,x= .ok a/\f a= .ok r:=by
 cases x with
 |error e=>cases h
 |ok a=>exact ⟨a,rfl,h⟩
theorem mb  {f:α->Except String PUnit}:∀{l:List α},l.forM f= .ok ()->∀a∈l,f a= .ok ():=by
 intro l
 induction l with
 |nil=>intro _ a ha;cases ha
 |cons b l ih=>
  intro h a ha
  have h':(f b>>=fun _=>l.forM f)= .ok ():=h
  obtain ⟨u,h1,h2⟩:=a9 h'
  rcases List.mem_cons.1 ha with rfl|ha
  ·exact h1
  ·exact ih h2 a ha
theorem mR  {f:String->String} {x:Except String α} {r:α} (h:x.mapError f= .ok r):x= .ok r:=by
 cases x with
 |error e=>cases h
 |ok a=>exact h
theorem BF  (f:α->Except String PUnit) (l:List α):Array.forM f l.toArray=l.forM f:=by simp
structure RegOK (P:Program) (fn:Func) (ops:Array Oper):Prop where
 dst:∀(i:Nat) (o:Oper) (d:Nat),ops[i]? =some o->o.dst=some d->d<fn.ntmps
 edge:∀(i:Nat) (o:Oper) (e:Edge),ops[i]? =some o->e∈o.after.toList->Region.binds .any e=true->e.on<i
 guard:∀(i:Nat) (o:Oper) (j:Nat) (b:Bool),ops[i]? =some o->o.guard=some (j,b)->(∃e∈o.after.toList,e.on=j/\Region.binds .any e=true)/\∃(oj:Oper) (d:Nat),ops[j]? =some oj/\oj.dst=some d
 tmps:Region.temporariesOk ops (Region.before ops)=true
section
variable {P:Program} {fn:Func} {bl la:List Nat}
theorem uU  (h:CheckCode.code P fn bl la (.seq a b)= .ok ()):CheckCode.code P fn bl la a= .ok ()/\CheckCode.code P fn bl la b= .ok ():=by
 unfold CheckCode.code at h
 obtain ⟨_,h1,h2⟩:=a9 h
 exact ⟨h1,h2⟩
theorem rN {c:Operand} (h:CheckCode.code P fn bl la (.cond c a b)= .ok ()):CheckCode.code P fn bl la a= .ok ()/\CheckCode.code P fn bl la b= .ok ():=by
 unfold CheckCode.code at h
 obtain ⟨_,_,h⟩:=a9 h
 obtain ⟨_,h1,h2⟩:=a9 h
 exact ⟨h1,h2⟩
theorem oQ {id:Nat} (h:CheckCode.code P fn bl la (.block id a)= .ok ()):CheckCode.code P fn (id::bl) la a= .ok ():=by
 unfold CheckCode.code at h;exact h
theorem r7  (h:CheckCode.code P fn bl la (.loop a)= .ok ()):CheckCode.code P fn bl la a= .ok ():=by
 unfold CheckCode.code at h;exact h
theorem oT {f:Operand} {ps:Array Nat} (h:CheckCode.code P fn bl la (.rangeFunc f ps a b)= .ok ()):
 (∀t∈ps.toList,t<fn.ntmps)/\CheckCode.code P fn [] [] a= .ok ()/\CheckCode.code P fn bl la b= .ok ():=by
 unfold CheckCode.code at h
 obtain ⟨_,_,h⟩:=a9 h
 obtain ⟨_,h1,h⟩:=a9 h
 obtain ⟨_,_,h⟩:=a9 h
 obtain ⟨_,h2,h3⟩:=a9 h
 refine ⟨fun t ht=> ?_,h2,h3⟩
 rw[show ps=ps.toList.toArray by simp,BF] at h1
 have:=pI (mb h1 t ht)
 simpa using this
theorem iJ {id:Nat} {draw:Bool} (h:CheckCode.code P fn bl la (.region id ops draw)= .ok ()):RegOK P fn ops:=by
 unfold CheckCode.code at h
 unfold CheckCode.region at h
 obtain ⟨_,h1,h⟩:=a9 h
 obtain ⟨_,_,h⟩:=a9 h
 have hok:=pI h
 unfold Region.ok at hok
 simp only[Bool.and_eq_true] at hok
 obtain ⟨⟨⟨⟨hedge,htmp⟩,_⟩,_⟩,_⟩:=hok
 have hmem:∀i o,ops[i]? =some o->(o,i)∈ops.zipIdx/\(o,i)∈ops.toList.zipIdx:=fun i o ho=>by
  have hlt:=(Array.getElem?_eq_some_iff.1 ho).1
  have he:=(Array.getElem?_eq_some_iff.1 ho).2
  constructor
  ·rw[Array.mem_zipIdx_iff_getElem?];exact ho
  ·rw[List.mem_zipIdx_iff_getElem?];simpa using ho
 refine ⟨?_, ?_, ?_,htmp⟩
 ·intro i o d ho hd
  have:=mb h1 (o,i) (hmem i o ho).2
  dsimp only at this
  rw[hd] at this
  obtain ⟨_,h2,_⟩:=a9 this
  have:=pI h2
  simpa using this
 ·intro i o e ho he hb
  rw[Array.all_eq_true'] at hedge
  have:=hedge (o,i) (hmem i o ho).1
  simp only[Bool.and_eq_true] at this
  have h2:=this.1
  rw[Array.all_eq_true'] at h2
  have h3:=h2 e (by simpa using he)
  rw[Bool.or_eq_true] at h3
  rcases h3 with h3|h3
  ·simpa using h3
  ·unfold Region.binds at hb
   split at h3
   ·rename_i hg;rw[hg] at hb;cases hb
   ·cases h3
 ·intro i o j b ho hg
  rw[Array.all_eq_true'] at hedge
  have:=hedge (o,i) (hmem i o ho).1
  simp only[Bool.and_eq_true] at this
  have h2:=this.2
  rw[hg] at h2
  simp only[Bool.and_eq_true] at h2
  obtain ⟨h3,h4⟩:=h2
  rw[Array.any_eq_true'] at h3
  obtain ⟨e,e1,e2⟩:=h3
  simp only[Bool.and_eq_true,beq_iff_eq] at e2
  refine ⟨⟨e,by simpa using e1,e2.1,e2.2⟩, ?_⟩
  rw[Option.isSome_iff_exists] at h4
  obtain ⟨d,hd⟩:=h4
  rw[Option.bind_eq_some_iff] at hd
  obtain ⟨oj,q1,q2⟩:=hd
  exact ⟨oj,d,q1,q2⟩
end
theorem qv  {p:List α->Prop} (h0:p []) (h1:∀l a,p l->p (l++ [a])):∀l,p l:=by
 intro l
 have h:p l.reverse.reverse:=by
  induction l.reverse with
  |nil=>exact h0
  |cons a m ih=>rw[List.reverse_cons];exact h1 _ _ ih
 simpa using h
def ch {α β:Type} (g:Array β->α->β) (l:List α):Array β:=l.foldl (fun acc a=>acc.push (g acc a)) #[]
theorem bM  (g:Array β->α->β) (l:List α) (a:α):ch g (l++ [a])=(ch g l).push (g (ch g l) a):=by simp[ch]
theorem kY  (g:Array β->α->β) (l:List α):(ch g l).size=l.length:=by
 induction l using qv with
 |h0=>rfl
 |h1 l a ih=>rw[bM];simp[ih]
theorem gY  (g:Array β->α->β) (l:List α) (i:Nat) (a:α) (h:l[i]? =some a):
 ∃acc:Array β,(ch g l)[i]? =some (g acc a)/\acc.size=i/\∀j,j<i->acc[j]? =(ch g l)[j]? :=by
 induction l using qv with
 |h0=>simp at h
 |h1 l b ih=>
  have hs:=kY g l
  by_cases hi:i<l.length
  ·rw[List.getElem?_append_left hi] at h
   obtain ⟨acc,h1,h2,h3⟩:=ih h
   refine ⟨acc, ?_,h2,fun j hj=> ?_⟩
   ·rw[bM,Array.getElem?_push,Fz (by omega)];exact h1
   ·rw[bM,Array.getElem?_push,Fz (by omega)];exact h3 j hj
  ·have hlt:=(List.getElem?_eq_some_iff.1 h).1
   simp at hlt
   have hil:i=l.length:=by omega
   subst hil
   have:b=a:=by simpa using h
   subst this
   refine ⟨ch g l, ?_,hs,fun j hj=> ?_⟩
   ·rw[bM,Array.getElem?_push,FA hs.symm]
   ·rw[bM,Array.getElem?_push,Fz (by omega)]
def nV (ops:Array Oper) (i:Nat):Nat:=(Region.before ops).getD i 0
theorem io (ops:Array Oper):Region.before ops=ch (fun acc (o:Oper)=>o.after.foldl (fun s e=>if Region.binds .any e then s|||2 ^ e.on|||acc.getD e.on 0 else s) 0) ops.toList:=by
 unfold Region.before ch
 rw[←Array.foldl_toList]
theorem u6 (f:Nat->Nat) (b:Edge->Bool) (j:Nat):∀(l:List Edge) (s:Nat),(l.foldl (fun s e=>if b e then s|||2 ^ e.on|||f e.on else s) s).testBit j=true->
 s.testBit j=true∨∃e∈l,b e=true/\(e.on=j∨(f e.on).testBit j=true):=by
 intro l
 induction l with
 |nil=>intro s h;exact .inl h
 |cons e l ih=>
  intro s h
  rw[List.foldl_cons] at h
  rcases ih _ h with h|⟨e',h1,h2,h3⟩
  ·by_cases hb:b e=true
   ·rw[FA hb] at h
    rw[Nat.testBit_or,Nat.testBit_or,Bool.or_eq_true,Bool.or_eq_true] at h
    rcases h with (h|h)|h
    ·exact .inl h
    ·rw[Nat.testBit_two_pow] at h
     exact .inr ⟨e,by simp,hb,.inl (by simpa using h)⟩
    ·exact .inr ⟨e,by simp,hb,.inr h⟩
   ·rw[Fz hb] at h;exact .inl h
  ·exact .inr ⟨e',by simp[h1],h2,h3⟩
theorem xd  {i:Nat} {o:Oper} (ho:ops[i]? =some o) {j:Nat} (h:(nV ops i).testBit j=true):
 ∃e∈o.after.toList,Region.binds .any e=true/\(e.on=j∨(e.on<i/\(nV ops e.on).testBit j=true)):=by
 unfold nV at h
 rw[io] at h
 obtain ⟨acc,h1,h2,h3⟩:=gY (fun acc (o:Oper)=>o.after.foldl (fun s e=>if Region.binds .any e then s|||2 ^ e.on|||acc.getD e.on 0 else s) 0) ops.toList i o (by simpa using ho)
 rw[Array.getD_eq_getD_getElem?,h1] at h
 simp only[Option.getD_some] at h
 rw[←Array.foldl_toList] at h
 rcases u6 (fun k=>acc.getD k 0) (Region.binds .any) j o.after.toList 0 h with h|⟨e,e1,e2,e3⟩
 ·simp at h
 ·refine ⟨e,e1,e2, ?_⟩
  rcases e3 with e3|e3
  ·exact .inl e3
  ·right
   by_cases hlt:e.on<i
   ·refine ⟨hlt, ?_⟩
    unfold nV
    rw[io,Array.getD_eq_getD_getElem?,←h3 _ hlt,←Array.getD_eq_getD_getElem?];exact e3
   ·rw[Array.getD_eq_getD_getElem?,Array.getElem?_eq_none (by omega)] at e3
    simp at e3
def b8 (ops:Array Oper) (X:Nat->Prop) (i:Nat):Prop:=∀o,ops[i]? =some o->∀e∈o.after.toList,Region.binds .any e=true->X e.on
theorem zU {P:Program} {fn:Func} (hr:RegOK P fn ops) {X:Nat->Prop} (hX:∀i,X i->b8 ops X i):∀(i:Nat) (o:Oper),ops[i]? =some o->b8 ops X i->∀j,(nV ops i).testBit j=true->X j:=by
 intro i
 induction i using Nat.strongRecOn with
 |_ i ih=>
  intro o ho he j hj
  obtain ⟨e,e1,e2,e3⟩:=xd ho hj
  have hx:=he o ho e e1 e2
  rcases e3 with rfl|⟨e3,e4⟩
  ·exact hx
  ·have hlt:=hr.edge i o e ho e1 e2
   have hsz:e.on<ops.size:=Nat.lt_trans hlt (Array.getElem?_eq_some_iff.1 ho).1
   exact ih e.on hlt ops[e.on] (Array.getElem?_eq_getElem hsz) (hX _ hx) j e4
def bj (ops:Array Oper) (listed:Array Bool):List Nat:=
 (List.range ops.size).filter fun i=> !listed.getD i true&&((ops[i]?).map (·.after.all fun e=> !Region.binds .any e||listed.getD e.on false)).getD false
theorem vE (ops:Array Oper) (t:Nat) (listed:Array Bool):Region.linearise.go .any ops 0 t listed []= []:=by simp[Region.linearise.go]
theorem AO (ops:Array Oper):∀(fuel t:Nat) (listed:Array Bool) (acc:List Nat),Region.linearise.go .any ops fuel t listed acc=acc.reverse++Region.linearise.go .any ops fuel t listed []:=by
 intro fuel
 induction fuel with
 |zero=>intro t listed acc;simp[Region.linearise.go]
 |succ fuel ih=>
  intro t listed acc
  simp only[Region.linearise.go]
  split
  ·rename_i i _
   rw[ih _ _ (i::acc),ih _ _ [i]]
   simp
  ·simp
theorem vJ (ops:Array Oper) (fuel t:Nat) (listed:Array Bool):
 (bj ops listed= []/\Region.linearise.go .any ops (fuel+1) t listed []= [])∨
 ∃i t',i∈bj ops listed/\Region.linearise.go .any ops (fuel+1) t listed []=i::Region.linearise.go .any ops fuel t' (listed.setIfInBounds i true) []:=by
 simp only[Region.linearise.go]
 change (bj ops listed= []/\(match (bj ops listed)[t % (bj ops listed).length]? with
  |some i=>Region.linearise.go .any ops fuel (t / (bj ops listed).length) (listed.setIfInBounds i true) [i]
  |none=> [].reverse)= [])∨∃i t',i∈bj ops listed/\(match (bj ops listed)[t % (bj ops listed).length]? with
  |some i=>Region.linearise.go .any ops fuel (t / (bj ops listed).length) (listed.setIfInBounds i true) [i]
  |none=> [].reverse)=i::Region.linearise.go .any ops fuel t' (listed.setIfInBounds i true) []
 cases hi:(bj ops listed)[t % (bj ops listed).length]? with
 |none=>
  left
  refine ⟨?_,rfl⟩
  cases hr:bj ops listed with
  |nil=>rfl
  |cons x xs=>
   rw[hr] at hi
   have hlt:t % (x::xs).length<(x::xs).length:=Nat.mod_lt _ (by simp)
   simp at hi
   simp at hlt
   omega
 |some i=>
  right
  refine ⟨i,t / (bj ops listed).length,List.mem_of_getElem? hi, ?_⟩
  dsimp only
  rw[AO];simp
def fj (ops:Array Oper) (listed:Array Bool):List Nat:=(List.range ops.size).filter fun i=> !listed.getD i true
theorem vA {p q:Nat->Bool}:∀{l:List Nat},(∀i∈l,q i=true->p i=true)->∀i∈l,p i=true->q i=false->(l.filter q).length<(l.filter p).length:=by
 intro l
 induction l with
 |nil=>intro _ i hi;cases hi
 |cons a l ih=>
  intro hpq i hi hp hq
  have hle:(l.filter q).length<=(l.filter p).length:=by
   clear ih hi
   have hpq':∀i∈l,q i=true->p i=true:=fun i hi=>hpq i (by simp[hi])
   clear hpq
   induction l with
   |nil=>simp
   |cons b l ih2=>
    have:=ih2 fun i hi=>hpq' i (by simp[hi])
    rw[List.filter_cons,List.filter_cons]
    by_cases hqb:q b=true
    ·rw[FA hqb,FA (hpq' b (by simp) hqb)];simpa using this
    ·rw[Fz hqb]
     split
     ·simp;omega
     ·exact this
  rcases List.mem_cons.1 hi with rfl|hi
  ·rw[List.filter_cons,List.filter_cons,FA hp,Fz (by simp[hq])]
   simp;omega
  ·have:=ih (fun j hj=>hpq j (by simp[hj])) i hi hp hq
   rw[List.filter_cons,List.filter_cons]
   by_cases hqa:q a=true
   ·rw[FA hqa,FA (hpq a (by simp) hqa)];simpa using this
   ·rw[Fz hqa]
    split
    ·simp;omega
    ·exact this
theorem pK {P:Program} {fn:Func} (hr:RegOK P fn ops) (hs:listed.size=ops.size) (h:bj ops listed= []):∀i,i<ops.size->listed[i]? =some true:=by
 intro i
 induction i using Nat.strongRecOn with
 |_ i ih=>
  intro hi
  rw[Array.getElem?_eq_getElem (by omega)]
  cases hl:listed[i]'(by omega) with
  |true=>rfl
  |false=>
   have hm:i∈bj ops listed:=by
    unfold bj
    rw[List.mem_filter]
    refine ⟨by simpa using hi, ?_⟩
    rw[Bool.and_eq_true]
    constructor
    ·rw[Array.getD_eq_getD_getElem?,Array.getElem?_eq_getElem (by omega)];simp[hl]
    ·rw[Array.getElem?_eq_getElem hi]
     simp only[Option.map_some,Option.getD_some]
     rw[Array.all_eq_true']
     intro e he
     cases hb:Region.binds .any e with
     |false=>rfl
     |true=>
      have hlt:=hr.edge i ops[i] e (Array.getElem?_eq_getElem hi) (by simpa using he) hb
      have:=ih e.on hlt (by omega)
      rw[Array.getD_eq_getD_getElem?,this];rfl
   rw[h] at hm;cases hm
theorem sP  {i:Nat} (h:i∈bj ops listed):∃o,ops[i]? =some o/\listed.getD i true=false/\∀e∈o.after.toList,Region.binds .any e=true->listed[e.on]? =some true:=by
 unfold bj at h
 rw[List.mem_filter] at h
 obtain ⟨h1,h2⟩:=h
 rw[Bool.and_eq_true] at h2
 have hi:i<ops.size:=by simpa using h1
 refine ⟨ops[i],Array.getElem?_eq_getElem hi,by simpa using h2.1,fun e he hb=> ?_⟩
 have h3:=h2.2
 rw[Array.getElem?_eq_getElem hi] at h3
 simp only[Option.map_some,Option.getD_some] at h3
 rw[Array.all_eq_true'] at h3
 have:=h3 e (by simpa using he)
 rw[hb] at this
 simp only[Bool.not_true,Bool.false_or] at this
 rw[Array.getD_eq_getD_getElem?] at this
 cases hq:listed[e.on]? with
 |none=>rw[hq] at this;cases this
 |some b=>rw[hq] at this;simp at this;rw[this]
end Nm
namespace Nm
open Go
variable {ι ι':aH} {cs a b:List Frame} {rnd:Option D4} {ctx x y:Option NV}
noncomputable def ay (d:Option D4) (v:NV) (t:Tm):Tm:=match d with|some k=>NT.put k v t|none=>t
theorem cm {R:Type} (d:Option D4) (v:NV) (t:Tm) (K:Tm->R):eV d v t K=K (ay d v t):=by
 cases d with
 |none=>rfl
 |some k=>exact NT.set_eq _ _ _ _
def DR (ι:aH):List Dfr->List Deferred->Prop
 | [], []=>True
 | .call f cap::l,d::l'=>(∃cap',VRL ι cap cap'/\d={target:= .fn (.func f) cap'.toArray,args:=#[]})/\DR ι l l'
 | .mark id::l,d::l'=>(∃p,ι id=some p/\d={target:= .collected p.b,args:=#[]})/\DR ι l l'
 |_,_=>False
theorem DR.mono  (hι:ι.le ι'):∀{l:List Dfr} {l':List Deferred},DR ι l l'->DR ι' l l'
 | [], [],_=>trivial
 | [],_::_,h=>h
 | .call _ _::_, [],h=>h
 | .mark _::_, [],h=>h
 | .call _ _::_,_::_,⟨⟨c,h1,h2⟩,h3⟩=>⟨⟨c,h1.mono hι,h2⟩,DR.mono hι h3⟩
 | .mark _::_,_::_,⟨⟨p,h1,h2⟩,h3⟩=>⟨⟨p,hι _ _ h1,h2⟩,DR.mono hι h3⟩
def oK (ι:aH) (kind:CallKind) (cs:List Frame):Option NV->Prop
 |none=>∀b:Frame,b.kind=kind->tryRecover b cs=none
 |some v=>kind= .deferred/\∃(c:Frame) (rest:List Frame) (v':Value) (older:List PanicEntry),cs=c::rest/\c.mode= .panicking ({v:=v',recovered:=false}::older)/\VR ι v v'
theorem oK.mono  (hι:ι.le ι') {k:CallKind} (h:oK ι k cs x):oK ι' k cs x:=by
 cases x with
 |none=>exact h
 |some v=>obtain ⟨h1,c,r,v',o,h2,h3,h4⟩:=h;exact ⟨h1,c,r,v',o,h2,h3,h4.mono hι⟩
def jh (cs:List Frame) (x:Option NV) (cs':List Frame) (x':Option NV):Prop:=
 (cs'=cs/\x'=x)∨(x'=none/\x≠none/\∃(c:Frame) (rest:List Frame) (v':Value) (older:List PanicEntry),cs=c::rest/\c.mode= .panicking ({v:=v',recovered:=false}::older)/\
  cs'={c with mode:= .panicking ({v:=v',recovered:=true}::older)}::rest)
theorem jh.refl (cs:List Frame) (x:Option NV):jh cs x cs x:= .inl ⟨rfl,rfl⟩
theorem jh.trans  {c:List Frame} {z:Option NV} (h:jh a x b y) (k:jh b y c z):jh a x c z:=by
 rcases h with ⟨rfl,rfl⟩|⟨rfl,h1,h2⟩
 ·exact k
 ·rcases k with ⟨rfl,rfl⟩|⟨_,k1,_⟩
  ·exact .inr ⟨rfl,h1,h2⟩
  ·exact Fy rfl k1
theorem jh.none  (h:jh a none b y):b=a/\y=Option.none:=by
 rcases h with ⟨rfl,rfl⟩|⟨_,h,_⟩
 ·exact ⟨rfl,rfl⟩
 ·exact Fy rfl h
def Ee (ι:aH):Option D4->Option Nat->Prop
 |none,r=>r=none
 |some l,r=>∃p,ι l=some p/\r=some p.b
theorem Ee.mono  (hι:ι.le ι') {l:Option D4} {r:Option Nat} (h:Ee ι l r):Ee ι' l r:=by
 cases l with
 |none=>exact h
 |some l=>obtain ⟨p,h1,h2⟩:=h;exact ⟨p,hι _ _ h1,h2⟩
structure Sd (P:Program) (ι:aH) (B:Nat) (rnd:Option D4) (dfs:List Dfr) (ctx:Option NV) (h:NH) (b:Frame) (ds:List Deferred) (cs:List Frame) (w:World):Prop where
 df:DR ι dfs ds
 cx:oK ι b.kind cs ctx
 rel:Rel P ι B h w
 base:B<=w.heap.size
 rn:Ee ι rnd b.roundOf
structure Mv (P:Program) (B:Nat) (rnd:Option D4) (b:Frame) (ι:aH) (ctx:Option NV) (h:NH) (cs:List Frame) (w:World) (ι':aH) (dfs':List Dfr) (ctx':Option NV) (h':NH) (ds':List Deferred) (cs':List Frame) (w':World):Prop where
 sd:Sd P ι' B rnd dfs' ctx' h' b ds' cs' w'
 gr:Grow ι h w ι' h' w'
 ca:jh cs ctx cs' ctx'
theorem Mv.refl {P:Program} {B:Nat} {b:Frame} {dfs:List Dfr} {h:NH} {ds:List Deferred} {w:World} (s:Sd P ι B rnd dfs ctx h b ds cs w):
 Mv P B rnd b ι ctx h cs w ι dfs ctx h ds cs w:=⟨s,.refl _ _ _,.refl _ _⟩
theorem Mv.trans {P:Program} {B:Nat} {b:Frame} {ι1 ι2:aH} {dfs1 dfs2:List Dfr} {ctx1 ctx2:Option NV} {h h1 h2:NH} {ds1 ds2:List Deferred} {cs1 cs2:List Frame} {w w1 w2:World}
 (x:Mv P B rnd b ι ctx h cs w ι1 dfs1 ctx1 h1 ds1 cs1 w1) (y:Mv P B rnd b ι1 ctx1 h1 cs1 w1 ι2 dfs2 ctx2 h2 ds2 cs2 w2):Mv P B rnd b ι ctx h cs w ι2 dfs2 ctx2 h2 ds2 cs2 w2:=
 ⟨y.sd,x.gr.trans y.gr,x.ca.trans y.ca⟩
inductive OpO where
 |fail
 |next (v:NV) (dfs:List Dfr) (ctx:Option NV) (h:NH)
 |pan (v:NV) (h:NH)
section
variable (P:Program) (S:Nat->List NV->Option NV) (self:Option D4->NC->Dyn->Res)
noncomputable def nW (dfs:List Dfr) (ctx:Option NV):CR->OpO
 | .val v _ h=> .next v dfs ctx h
 | .pan v _ h=> .pan v h
 | .fail=> .fail
noncomputable def cB (rnd:Option D4) (dfs:List Dfr) (ctx:Option NV) (h:NH):NR->OpO
 | .fail=> .fail
 | .val v=> .next v dfs ctx h
 | .mem v h=> .next v dfs ctx h
 | .call f args=>nW dfs ctx (bh P S self f args h)
 | .yld l args=>nW dfs ctx (round self l args h)
 | .pan v=> .pan v h
 | .dfr f cap=>match rnd with|none=> .next aA (.call f cap::dfs) ctx h|some _=> .fail
 | .recov=>match rnd,ctx with
  |none,some v=> .next v dfs none h
  |none,none=> .next .nili dfs none h
  |some _,_=> .fail
noncomputable def pU (dst:Option D4) (K:Dyn->Res) (t:Tm) (dfs:List Dfr) (ctx:Option NV):OpO->Res
 | .fail=> .fail
 | .next v dfs ctx h=>K ⟨ay dst v t,dfs,ctx,h⟩
 | .pan v h=> .mk (.pan v) ⟨t,dfs,ctx,h⟩
theorem li (rnd:Option D4) (dst:Option D4) (K:Dyn->Res) (t:Tm) (dfs:List Dfr) (ctx:Option NV) (h:NH) (r:NR):
 jB P S self rnd dst K t dfs ctx h r=pU dst K t dfs ctx (cB P S self rnd dfs ctx h r):=by
 cases r with
 |fail=>rfl
 |val v=>exact cm dst v t fun t=>K ⟨t,dfs,ctx,h⟩
 |mem v h=>exact cm dst v t fun t=>K ⟨t,dfs,ctx,h⟩
 |call f args=>
  show iZ dst K t dfs ctx (bh P S self f args h)=pU dst K t dfs ctx (nW dfs ctx (bh P S self f args h))
  cases bh P S self f args h with
  |fail=>rfl
  |val v c h=>exact cm dst v t fun t=>K ⟨t,dfs,ctx,h⟩
  |pan v c h=>rfl
 |yld l args=>
  show iZ dst K t dfs ctx (round self l args h)=pU dst K t dfs ctx (nW dfs ctx (round self l args h))
  cases round self l args h with
  |fail=>rfl
  |val v c h=>exact cm dst v t fun t=>K ⟨t,dfs,ctx,h⟩
  |pan v c h=>rfl
 |pan v=>rfl
 |dfr f cap=>cases rnd with|none=>exact cm dst aA t fun t=>K ⟨t,.call f cap::dfs,ctx,h⟩|some l=>rfl
 |recov=>
  cases rnd with
  |none=>
   cases ctx with
   |none=>exact cm dst .nili t fun t=>K ⟨t,dfs,none,h⟩
   |some v=>exact cm dst v t fun t=>K ⟨t,dfs,none,h⟩
  |some l=>rfl
end
def nT (P:Program) (ι:aH) (B:Nat) (h:NH) (w:World) (s:Result Next):CR->Prop
 | .fail=>True
 | .val v _ h'=>∀(c:Frame) (cs:List Frame),∃ι' v' w',VR ι' v v'/\Rel P ι' B h' w'/\B<=w'.heap.size/\Grow ι h w ι' h' w'/\
  (s= .ok (.value v') w'∨∃w1,((∃f args,s= .ok (.enter f args) w1/\Steps P (lone (Frame.enter P f args .normal) (c::cs) w1) (lone (c.finish v') cs w'))∨
   (∃l f tm x y,s= .ok (.round l f tm x y) w1/\Steps P (lone (Frame.round l f tm x y .normal) (c::cs) w1) (lone (c.finish v') cs w'))))
 | .pan v _ h'=>∀(c:Frame) (cs:List Frame),∃ι' v' w',VR ι' v v'/\Rel P ι' B h' w'/\B<=w'.heap.size/\Grow ι h w ι' h' w'/\
  ∃w1,((∃f args,s= .ok (.enter f args) w1/\Steps P (lone (Frame.enter P f args .normal) (c::cs) w1) (lone (c.raise [{v:=v',recovered:=false}]) cs w'))∨
   (∃l f tm x y,s= .ok (.round l f tm x y) w1/\Steps P (lone (Frame.round l f tm x y .normal) (c::cs) w1) (lone (c.raise [{v:=v',recovered:=false}]) cs w')))
structure CallsOK (P:Program) (S:Nat->List NV->Option NV) (go:Option D4->NC->Dyn->Res):Prop where
 call:∀(ι:aH) (B:Nat) (h:NH) (w:World) (f:Nat) (args:List NV) (args':List Value),Rel P ι B h w->B<=w.heap.size->VRL ι args args'->
  nT P ι B h w ((callFunc f args'.toArray).run P w) (bh P S go f args h)
 yld:∀(ι:aH) (B:Nat) (h:NH) (w:World) (l:D4) (p:Pl) (args:List NV) (args':List Value),Rel P ι B h w->B<=w.heap.size->VRL ι args args'->ι l=some p->
  nT P ι B h w ((Instr.yield p.b args'.toArray).run P w) (round go l args h)
section
variable {P:Program} {S:Nat->List NV->Option NV} {self:Option D4->NC->Dyn->Res} {B:Nat} {b:Frame} {a:Act} {k:List Item} {cs:List Frame} {w:World} {ops:Array Oper}
theorem cU {ro:Option Nat} {e:Operand->Value} {o:Oper} (h:ro=none∨∀c,o.op≠.defer c):Oper.semAt ro e o=execOp e o:=by
 rcases h with rfl|h
 ·rfl
 ·exact Oper.semAt_eq _ _ _ h
theorem kT (b:Frame) (a:Act) (todo:List Item) (cs:List Frame) (x:Frame) (hx:x.kind=b.kind):tryRecover (b.atR a todo) cs=tryRecover x cs:=by
 cases cs with
 |nil=>unfold tryRecover;cases b;cases x;simp only at hx;subst hx;rfl
 |cons c r=>unfold tryRecover;cases b;cases x;simp only at hx;subst hx;rfl
theorem dH (hC:CallsOK P S self) {dfs:List Dfr} {h:NH} {i:Nat} {rest:List Nat} {o:Oper} {n:NOp} {t:Tm} (ho:ops[i]? =some o) (hw:Region.wanted o (yielded ops a.tmps)=true) (hc:ah P o.op=some n) (hO:OE ι t a.eval)
 (s:Sd P ι B rnd dfs ctx h b a.defers cs w):
 match cB P S self rnd dfs ctx h (ae n t h) with
 | .fail=>True
 | .next v dfs' ctx' h'=>∃(v':Value) (ι':aH) (ds':List Deferred) (cs':List Frame) (w':World),
  Steps P (lone (b.atR a (.inRegion ops (i::rest)::k)) cs w) (lone (b.atR (({a with defers:=ds'}:Act).put o.dst v') (.inRegion ops rest::k)) cs' w')/\VR ι' v v'/\Mv P B rnd b ι ctx h cs w ι' dfs' ctx' h' ds' cs' w'
 | .pan v h'=>∃(v':Value) (ι':aH) (w':World) (todo:List Item),
  Steps P (lone (b.atR a (.inRegion ops (i::rest)::k)) cs w) (lone {b.atR a todo with mode:= .panicking [{v:=v',recovered:=false}]} cs w')/\VR ι' v v'/\Mv P B rnd b ι ctx h cs w ι' dfs ctx h' a.defers cs w':=by
 have hop:=uL (o:=o) hc hO s.rel s.base
 have hg:=stepGR_op (P:=P) (b:=b) (k:=k) (cs:=cs) (w:=w) (rest:=rest) ho hw
 have hfin:∀v,(b.atR a (.inRegion ops (i::rest)::k)).finish v=b.atR (a.put o.dst v) (.inRegion ops rest::k):=by
  intro v;rw[Frame.finish_atR,ho];rfl
 have same:∀{ι':aH} {h':NH} {w':World},Rel P ι' B h' w'->B<=w'.heap.size->Grow ι h w ι' h' w'->Mv P B rnd b ι ctx h cs w ι' dfs ctx h' a.defers cs w':=
  fun hr hb hgr=>⟨⟨s.df.mono hgr.le,s.cx.mono hgr.le,hr,hb,s.rn.mono hgr.le⟩,hgr,.refl _ _⟩
 have nodef:(∀f cap,ae n t h≠.dfr f cap)->ae n t h≠.fail->∀c,o.op≠.defer c:=by
  intro h1 h2 c hd
  rw[hd] at hc
  obtain ⟨callee,args,ats⟩:=c
  cases callee with
  |value f=>
   replace hc:dM f args.toList=some n:=hc
   unfold dM at hc
   split at hc
   ·rename_i y h3 hf
    cases hc
    have e1:ae (.defer y) t h=wV t y fun f=>match f with| .fn f cap=> .dfr f cap|_=> .fail:=rfl
    obtain ⟨v,h4,h5⟩:=au e1.symm h2
    rw[←h5] at h1 h2
    cases v<;>first|exact Fy rfl h2|exact h1 _ _ rfl
   ·cases hc
  |builtin b=>have hc:(none:Option NOp)=some n:=hc;cases hc
  |invoke r m=>have hc:(none:Option NOp)=some n:=hc;cases hc
 cases hr:ae n t h with
 |fail=>trivial
 |val v=>
  rw[hr] at hop
  obtain ⟨v',h1,h2⟩:=hop
  rw[cU (.inr (nodef (by rw[hr];simp) (by rw[hr];simp)))] at hg
  refine ⟨v',ι,a.defers,cs,w,.one (step_lone_go ?_),h2,Mv.refl s⟩
  rw[hg,←hfin];simp[stepG.apply,h1]
 |mem v h'=>
  rw[hr] at hop
  obtain ⟨v',w',ι',h1,h2,h3,h4⟩:=hop
  rw[cU (.inr (nodef (by rw[hr];simp) (by rw[hr];simp)))] at hg
  refine ⟨v',ι',a.defers,cs,w',.one (step_lone_go ?_),h2,same h3 (Nat.le_trans s.base h4.size) h4⟩
  rcases h1 with h1|⟨h1,rfl⟩
  ·rw[hg,←hfin];simp[stepG.apply,h1]
  ·rw[hg,←hfin];simp[stepG.apply,h1]
 |pan v=>
  rw[hr] at hop
  obtain ⟨v',h1,h2⟩:=hop
  rw[cU (.inr (nodef (by rw[hr];simp) (by rw[hr];simp)))] at hg
  refine ⟨v',ι,w,.inRegion ops (i::rest)::k,.one (step_lone_go ?_),h1,Mv.refl s⟩
  rw[hg,←Frame.raise_atR b a (.inRegion ops (i::rest)::k)];simp[stepG.apply,h2]
 |call f args=>
  rw[hr] at hop
  obtain ⟨args',h1,h2⟩:=hop
  rw[cU (.inr (nodef (by rw[hr];simp) (by rw[hr];simp)))] at hg
  have hcall:=hC.call ι B h w f args args' s.rel s.base h1
  show match nW dfs ctx (bh P S self f args h) with| .fail=>_| .next v dfs' ctx' h'=>_| .pan v h'=>_
  cases hcr:bh P S self f args h with
  |fail=>trivial
  |val v x h'=>
   rw[hcr] at hcall
   obtain ⟨ι',v',w',c1,c2,c3,c4,c5⟩:=hcall (b.atR a (.inRegion ops (i::rest)::k)) cs
   refine ⟨v',ι',a.defers,cs,w', ?_,c1,same c2 c3 c4⟩
   rcases c5 with c5|⟨w1,⟨f',ar,c5,c6⟩|⟨l,f',tm,x,y,c5,c6⟩⟩
   ·refine .one (step_lone_go ?_)
    rw[hg,←hfin];simp[stepG.apply,h2,c5]
   ·refine .head (step_lone_go ?_) (by rw[←hfin];exact c6)
    rw[hg];simp[stepG.apply,h2,c5,Frame.atR]
   ·refine .head (step_lone_go ?_) (by rw[←hfin];exact c6)
    rw[hg];simp[stepG.apply,h2,c5,Frame.atR]
  |pan v x h'=>
   rw[hcr] at hcall
   obtain ⟨ι',v',w',c1,c2,c3,c4,w1,c5⟩:=hcall (b.atR a (.inRegion ops (i::rest)::k)) cs
   refine ⟨v',ι',w',.inRegion ops (i::rest)::k, ?_,c1,same c2 c3 c4⟩
   rw[←Frame.raise_atR b a (.inRegion ops (i::rest)::k)]
   rcases c5 with ⟨f',ar,c5,c6⟩|⟨l,f',tm,x,y,c5,c6⟩
   ·refine .head (step_lone_go ?_) c6
    rw[hg];simp[stepG.apply,h2,c5,Frame.atR]
   ·refine .head (step_lone_go ?_) c6
    rw[hg];simp[stepG.apply,h2,c5,Frame.atR]
 |yld l args=>
  rw[hr] at hop
  obtain ⟨args',p,hp,h1,h2⟩:=hop
  rw[cU (.inr (nodef (by rw[hr];simp) (by rw[hr];simp)))] at hg
  have hcall:=hC.yld ι B h w l p args args' s.rel s.base h1 hp
  show match nW dfs ctx (round self l args h) with| .fail=>_| .next v dfs' ctx' h'=>_| .pan v h'=>_
  cases hcr:round self l args h with
  |fail=>trivial
  |val v x h'=>
   rw[hcr] at hcall
   obtain ⟨ι',v',w',c1,c2,c3,c4,c5⟩:=hcall (b.atR a (.inRegion ops (i::rest)::k)) cs
   refine ⟨v',ι',a.defers,cs,w', ?_,c1,same c2 c3 c4⟩
   rcases c5 with c5|⟨w1,⟨f',ar,c5,c6⟩|⟨l,f',tm,x,y,c5,c6⟩⟩
   ·refine .one (step_lone_go ?_)
    rw[hg,←hfin];simp[stepG.apply,h2,c5]
   ·refine .head (step_lone_go ?_) (by rw[←hfin];exact c6)
    rw[hg];simp[stepG.apply,h2,c5,Frame.atR]
   ·refine .head (step_lone_go ?_) (by rw[←hfin];exact c6)
    rw[hg];simp[stepG.apply,h2,c5,Frame.atR]
  |pan v x h'=>
   rw[hcr] at hcall
   obtain ⟨ι',v',w',c1,c2,c3,c4,w1,c5⟩:=hcall (b.atR a (.inRegion ops (i::rest)::k)) cs
   refine ⟨v',ι',w',.inRegion ops (i::rest)::k, ?_,c1,same c2 c3 c4⟩
   rw[←Frame.raise_atR b a (.inRegion ops (i::rest)::k)]
   rcases c5 with ⟨f',ar,c5,c6⟩|⟨l,f',tm,x,y,c5,c6⟩
   ·refine .head (step_lone_go ?_) c6
    rw[hg];simp[stepG.apply,h2,c5,Frame.atR]
   ·refine .head (step_lone_go ?_) c6
    rw[hg];simp[stepG.apply,h2,c5,Frame.atR]
 |dfr f cap=>
  rw[hr] at hop
  obtain ⟨cap',h1,h2⟩:=hop
  cases rnd with
  |some l=>trivial
  |none=>
   have hro:b.roundOf=none:=s.rn
   rw[cU (.inl hro)] at hg
   refine ⟨undef,ι,{target:= .fn (.func f) cap'.toArray,args:=#[]}::a.defers,cs,w,.one (step_lone_go ?_),cn,⟨⟨⟨⟨cap',h1,rfl⟩,s.df⟩,s.cx,s.rel,s.base,s.rn⟩,.refl _ _ _,.refl _ _⟩⟩
   have hd:∀d,({b.atR a (.inRegion ops (i::rest)::k) with defers:=d::a.defers}:Frame).finish undef=b.atR (({a with defers:=d::a.defers}:Act).put o.dst undef) (.inRegion ops rest::k):=fun d=>by
    have:=Frame.finish_atR b {a with defers:=d::a.defers} ops i rest k undef
    rw[ho] at this;exact this
   rw[hg]
   simp only[stepG.apply,Sem.runT_eq,h2,GStep.bare_after]
   exact congrArg (fun fr=>GStep.go {frame:=fr,callers:=cs,status:= .running,dying:=none} w) (hd _)
 |recov=>
  rw[hr] at hop
  cases rnd with
  |some l=>cases ctx<;>trivial
  |none=>
   have hro:b.roundOf=none:=s.rn
   rw[cU (.inl hro)] at hg
   cases ctx with
   |none=>
    refine ⟨.nilIface,ι,a.defers,cs,w,.one (step_lone_go ?_),.nili,Mv.refl s⟩
    have htr:tryRecover (b.atR a (.inRegion ops (i::rest)::k)) cs=none:=by rw[kT b a _ cs b rfl];exact s.cx b rfl
    rw[hg,←hfin]
    simp only[Frame.atR,hro] at htr ⊢
    have hop':Sem.run P (execOp a.eval o) w= .ok .recover w:=hop
    simp[stepG.apply,hop',htr]
   |some v=>
    obtain ⟨hk,c,r,v',older,hcs,hm,hv⟩:=s.cx
    subst hcs
    refine ⟨v',ι,a.defers,{c with mode:= .panicking ({v:=v',recovered:=true}::older)}::r,w,.one (step_lone_go ?_),hv,⟨⟨s.df, ?_,s.rel,s.base,s.rn⟩,.refl _ _ _,.inr ⟨rfl,by simp,c,r,v',older,rfl,hm,rfl⟩⟩⟩
    ·have htr:tryRecover (b.atR a (.inRegion ops (i::rest)::k)) (c::r)=some (v',{c with mode:= .panicking ({v:=v',recovered:=true}::older)}::r):=by
      unfold tryRecover
      have:(b.atR a (.inRegion ops (i::rest)::k)).kind= .deferred:=hk
      rw[this]
      simp only[hm]
     rw[hg,←hfin]
     simp only[Frame.atR,hro] at htr ⊢
     have hop':Sem.run P (execOp a.eval o) w= .ok .recover w:=hop
     simp[stepG.apply,hop',htr]
    ·intro x hx
     unfold tryRecover
     rw[hx,hk]
end
end Nm
namespace Nm
open Go
variable {ι:aH} {ops:Array Oper}
def jD (ops:Array Oper):Option (Nat×Bool)->Option (D4×Bool)->Prop
 |none,none=>True
 |some (j,b),some (k,b')=>b'=b/\∃t,mK ops j=some t/\k=D4.of t
 |_,_=>False
theorem gR {P:Program} {o:Oper} {pre idx:Nat} {no:NOper} (h:fe P ops o pre idx=some no):
 no.dst=o.dst.map D4.of/\(ah P o.op=some no.op∨no.op= .fail)/\jD ops o.guard no.guard/\no.pre=pre/\no.idx=idx:=by
 unfold fe at h
 split at h
 ·rename_i d n hd hn
  rw[af] at h
  have h1:d=o.dst.map D4.of:=by
   unfold Cp at hd
   split at hd
   ·rename_i e he;rw[D4.ofNat_eq] at hd;cases hd;rw[he];rfl
   ·rename_i he;cases hd;rw[he];rfl
  have h2:ah P o.op=some n∨n= .fail:=by
   split at hn
   ·rename_i n' hn';cases hn;exact .inl hn'
   ·cases hn;exact .inr rfl
  split at h
  ·rename_i hg
   rw[af] at h;cases h
   exact ⟨h1,h2,by rw[hg];trivial,rfl,rfl⟩
  ·rename_i j hg
   split at h
   ·rename_i t ht
    rw[af,D4.ofNat_eq] at h;cases h
    exact ⟨h1,h2,by rw[hg];exact ⟨rfl,t,ht,rfl⟩,rfl,rfl⟩
   ·cases h
  ·rename_i j hg
   split at h
   ·rename_i t ht
    rw[af,D4.ofNat_eq] at h;cases h
    exact ⟨h1,h2,by rw[hg];exact ⟨rfl,t,ht,rfl⟩,rfl,rfl⟩
   ·cases h
 ·cases h
theorem VR.notBool  {v:NV} {v':Value} (h:VR ι v v') (hn:∀b,v≠.bool b):∀b,v'≠.bool b:=by
 cases h with
 |bool b=>exact Fy rfl (hn b)
 |_=>intro b h;cases h
theorem iM  {o:Oper} {g:Option (D4×Bool)} (hg:jD ops o.guard g) {t:Tm} {tmps:Array Value} {on:Bool}
 (hT:∀k b,g=some (D4.of k,b)->∀v,NT.get (D4.of k) t=some v->∃v',tmps[k]? =some v'/\VR ι v v') (h:aj t g=some on):Region.wanted o (yielded ops tmps)=on:=by
 unfold Region.wanted
 cases ho:o.guard with
 |none=>
  rw[ho] at hg
  cases g with
  |none=>cases h;rfl
  |some _=>exact hg.elim
 |some jb=>
  obtain ⟨j,b⟩:=jb
  rw[ho] at hg
  cases g with
  |none=>exact hg.elim
  |some kb=>
   obtain ⟨k,b'⟩:=kb
   obtain ⟨rfl,u,hu,rfl⟩:=hg
   have hd:(ops[j]?).bind (·.dst)=some u:=by
    unfold mK at hu
    split at hu
    ·rename_i oj hoj;rw[hoj];exact hu
    ·cases hu
   have h':(match NT.get (D4.of u) t with|some (.bool c)=>some (dx b' c)|some _=>some false|none=>none)=some on:=by
    rw[←h]
    show _=(Option.rec none (fun v=>NV.onBool (some false) (fun c=>some (dx b' c)) v) (NT.get (D4.of u) t):Option Bool)
    cases NT.get (D4.of u) t with
    |none=>rfl
    |some v=>cases v<;>rfl
   split at h'
   ·rename_i c hc
    cases h'
    obtain ⟨v',h1,h2⟩:=hT u b' rfl _ hc
    cases h2
    show (yielded ops tmps j==some b')=_
    have hy:yielded ops tmps j=some c:=by unfold yielded;rw[hd];simp only[Option.bind_some,h1]
    rw[hy,fC]
    cases b'<;>cases c<;>rfl
   ·rename_i v hnb hc
    cases h'
    obtain ⟨v',h1,h2⟩:=hT u b' rfl _ hc
    have hv:=h2.notBool fun c hc'=>hnb c (by rw[hc'])
    show (yielded ops tmps j==some b')=_
    have hy:yielded ops tmps j=none:=by
     unfold yielded
     rw[hd]
     simp only[Option.bind_some,h1]
     cases v'<;>first|exact Fy rfl (hv _)|rfl
    rw[hy];rfl
   ·cases h'
theorem qZ {a:Array Value} {k:Nat} {v:Value} (h:a[k]? =some v):a.getD k undef=v:=by
 rw[Array.getD_eq_getD_getElem?,h];rfl
theorem iH  {t:Tm} {a:Act} (hT:TR ι t a.tmps):OE ι t a.eval:=by
 intro x y hc v hv
 cases x with
 |tmp k=>
  have hc':(D4.ofNat k fun t=>some (NOpd.tmp t))=some y:=hc
  rw[D4.ofNat_eq] at hc';cases hc'
  obtain ⟨v',h1,h2⟩:=hT k v hv
  show VR ι v (a.tmps.getD k undef)
  rw[qZ h1];exact h2
 |const c=>
  have hc':(match ofValue c with|some v=>some (NOpd.const v)|none=>none)=some y:=hc
  split at hc'
  ·rename_i u hu;cases hc';cases hv;exact cJ hu
  ·cases hc'
 |func f=>
  have hc':(ak f fun f=>some (NOpd.const (.fn f [])))=some y:=hc
  rw[af] at hc';cases hc';cases hv
  exact .fn f [] [] .nil
 |global g=>cases hc
def Ei (P:Program) (b:Frame) (k:List Item) (m:Machine) (ι':aH):Out->Act->List Frame->World->Prop
 | .norm,a',cs',w'=>Steps P m (lone (b.atR a' k) cs' w')
 | .ret,a',cs',w'=>∃k0,Steps P m (lone (b.atR a' (.code .ret::k0)) cs' w')
 | .exit id,a',cs',w'=>∃k0,exitTo id k0=exitTo id k/\Steps P m (lone (b.atR a' (.code (.exit id)::k0)) cs' w')
 | .pan v,a',cs',w'=>∃todo v',VR ι' v v'/\Steps P m (lone {b.atR a' todo with mode:= .panicking [{v:=v',recovered:=false}]} cs' w')
theorem Ei.of_steps {P:Program} {b:Frame} {k:List Item} {m m':Machine} {ι':aH} (hs:Steps P m m') {o:Out} {a':Act} {cs':List Frame} {w':World} (h:Ei P b k m' ι' o a' cs' w'):Ei P b k m ι' o a' cs' w':=by
 cases o with
 |norm=>exact hs.trans h
 |ret=>obtain ⟨k0,h⟩:=h;exact ⟨k0,hs.trans h⟩
 |exit id=>obtain ⟨k0,h1,h⟩:=h;exact ⟨k0,h1,hs.trans h⟩
 |pan v=>obtain ⟨td,v',h1,h⟩:=h;exact ⟨td,v',h1,hs.trans h⟩
def ck (P:Program) (B:Nat) (rnd:Option D4) (b:Frame) (k:List Item) (m:Machine) (ι:aH) (ctx:Option NV) (h:NH) (size:Nat) (cs:List Frame) (w:World) (o:Out) (d':Dyn):Prop:=
 ∃(ι':aH) (a':Act) (cs':List Frame) (w':World),Ei P b k m ι' o a' cs' w'/\TR ι' d'.t a'.tmps/\Mv P B rnd b ι ctx h cs w ι' d'.dfs d'.ctx d'.h a'.defers cs' w'/\a'.tmps.size=size
section
variable {P:Program} {S:Nat->List NV->Option NV} {self:Option D4->NC->Dyn->Res} {B:Nat} {b:Frame} {k:List Item} {ops:Array Oper} {fn:Func}
theorem dJ (a:Act) (d:Option Tmp) (v:Value):(a.put d v).tmps.size=a.tmps.size:=by cases d<;>simp[Act.put]
theorem put_defers (a:Act) (d:Option Tmp) (v:Value):(a.put d v).defers=a.defers:=by cases d<;>rfl
theorem TR.putD  {t:Tm} {a:Act} (hT:TR ι t a.tmps) {d:Option Tmp} (hd:∀k,d=some k->k<a.tmps.size) {v:NV} {v':Value} (hv:VR ι v v'):TR ι (ay (d.map D4.of) v t) (a.put d v').tmps:=by
 cases d with
 |none=>exact hT
 |some k=>exact hT.put (hd k rfl) hv
theorem a8 (rnd:Option D4) (o:NOper) (l:List NOper) (t:Tm) (dfs:List Dfr) (ctx:Option NV) (h:NH):
 bU P S self rnd (o::l) ⟨t,dfs,ctx,h⟩=match aj t o.guard with
  |none=> .fail
  |some false=>bU P S self rnd l ⟨ay o.dst aA t,dfs,ctx,h⟩
  |some true=>pU o.dst (bU P S self rnd l) t dfs ctx (cB P S self rnd dfs ctx h (ae o.op t h)):=by
 have e:bU P S self rnd (o::l) ⟨t,dfs,ctx,h⟩=Option.rec .fail (fun on=>Bool.rec (eV o.dst aA t fun t=>bU P S self rnd l ⟨t,dfs,ctx,h⟩)
  (jB P S self rnd o.dst (bU P S self rnd l) t dfs ctx h (ae o.op t h)) on) (aj t o.guard):=rfl
 rw[e]
 cases aj t o.guard with
 |none=>rfl
 |some on=>
  cases on with
  |false=>exact cm o.dst aA t fun t=>bU P S self rnd l ⟨t,dfs,ctx,h⟩
  |true=>exact li _ _ _ _ _ _ _ _ _ _ _
theorem ta (hC:CallsOK P S self) (hr:RegOK P fn ops) {rnd:Option D4}:∀(l:List Oper) (i:Nat) (nl:List NOper) (pre:List Nat),(∀j,l[j]? =ops[i+j]?)->cu P ops l i pre=some nl->
 ∀(t:Tm) (dfs:List Dfr) (ctx:Option NV) (h:NH) (o:Out) (d':Dyn),bU P S self rnd nl ⟨t,dfs,ctx,h⟩= .mk o d'->
 ∀(ι:aH) (a:Act) (cs:List Frame) (w:World),TR ι t a.tmps->Sd P ι B rnd dfs ctx h b a.defers cs w->fn.ntmps<=a.tmps.size->
 ck P B rnd b k (lone (b.atR a (.inRegion ops (List.range' i l.length)::k)) cs w) ι ctx h a.tmps.size cs w o d':=by
 intro l
 induction l with
 |nil=>
  intro i nl pre _ hc t dfs ctx h o d' hrun ι a cs w hT s _
  cases hc
  cases hrun
  exact ⟨ι,a,cs,w,.one stepR_region_end,hT,Mv.refl s,rfl⟩
 |cons o1 l ih=>
  intro i nl pre hl hc t dfs ctx h o d' hrun ι a cs w hT s hsz
  have hc':(match fe P ops o1 (pre.headD 0) i,cu P ops l (Nat.succ i) pre.tail with|some o,some l=>some (o::l)|_,_=>none)=some nl:=hc
  split at hc'
  ·rename_i no nl' h1 h2
   cases hc'
   obtain ⟨i1,i2,i3,i4,i5⟩:=gR h1
   have ho:ops[i]? =some o1:=by have:=hl 0;simpa using this.symm
   have hl':∀j,l[j]? =ops[Nat.succ i+j]? :=fun j=>by have:=hl (j+1);simp at this;rw[this];congr 1;omega
   have hdst:∀d,o1.dst=some d->d<a.tmps.size:=fun d hd=>Nat.lt_of_lt_of_le (hr.dst i o1 d ho hd) hsz
   rw[a8] at hrun
   have hrange:List.range' i (o1::l).length=i::List.range' (Nat.succ i) l.length:=by simp[List.range'_succ]
   rw[hrange]
   cases hgd:aj t no.guard with
   |none=>rw[hgd] at hrun;cases hrun
   |some on=>
    have hwant:=iM i3 (ops:=ops) (tmps:=a.tmps) (ι:=ι) (fun k b _ v hv=>hT k v hv) hgd
    rw[hgd] at hrun
    cases on with
    |false=>
     have hskip:=stepR_op_skip (P:=P) (b:=b) (a:=a) (k:=k) (cs:=cs) (w:=w) (ops:=ops) (i:=i) (rest:=List.range' (Nat.succ i) l.length) (by simp[ho,hwant])
     simp only[ho,Option.bind_some] at hskip
     have hT':TR ι (ay no.dst aA t) (a.put o1.dst undef).tmps:=by rw[i1];exact hT.putD hdst cn
     obtain ⟨ι',a',cs',w',q1,q2,q3,q4⟩:=ih (Nat.succ i) nl' pre.tail hl' h2 _ dfs ctx h o d' hrun ι (a.put o1.dst undef) cs w hT' (by rw[put_defers];exact s) (by rw[dJ];exact hsz)
     exact ⟨ι',a',cs',w',q1.of_steps (.one hskip),q2,q3,by rw[q4,dJ]⟩
    |true=>
     rcases i2 with i2|i2
     ·have hx:=dH (S:=S) (self:=self) (k:=k) (rest:=List.range' (Nat.succ i) l.length) hC ho hwant i2 (iH hT) s
      cases hoo:cB P S self rnd dfs ctx h (ae no.op t h) with
      |fail=>rw[hoo] at hrun;cases hrun
      |next v dfs1 ctx1 h1=>
       rw[hoo] at hrun hx
       obtain ⟨v',ι1,ds1,cs1,w1,x1,x2,x3⟩:=hx
       have hrun':bU P S self rnd nl' ⟨ay no.dst v t,dfs1,ctx1,h1⟩= .mk o d':=hrun
       have hT':TR ι1 (ay no.dst v t) (({a with defers:=ds1}:Act).put o1.dst v').tmps:=by
        rw[i1];exact TR.putD (a:={a with defers:=ds1}) (hT.mono x3.gr.le) hdst x2
       obtain ⟨ι',a',cs',w',q1,q2,q3,q4⟩:=ih (Nat.succ i) nl' pre.tail hl' h2 _ dfs1 ctx1 h1 o d' hrun' ι1 (({a with defers:=ds1}:Act).put o1.dst v') cs1 w1 hT' (by rw[put_defers];exact x3.sd) (by rw[dJ];exact hsz)
       exact ⟨ι',a',cs',w',q1.of_steps x1,q2,x3.trans q3,by rw[q4,dJ]⟩
      |pan v h1=>
       rw[hoo] at hrun hx
       obtain ⟨v',ι1,w1,td,x1,x2,x3⟩:=hx
       cases hrun
       exact ⟨ι1,a,cs,w1,⟨td,v',x2,x1⟩,hT.mono x3.gr.le,x3,rfl⟩
     ·rw[i2] at hrun
      cases hrun
  ·cases hc'
end
end Nm
namespace Nm
open Go
variable {n:NOp} {T type:TypeId} {h0:NH} {dst:Option Tmp} {pos:String} {after:Array Edge} {guard:Option (Nat×Bool)}
structure AllocR (P:Program) (ι:aH) (w:World) (f:NH->NR) (res:Result Next) (o:NO) (V:D4->NV):Prop where
 all:∀h,f h= .mem (V h.next) (h.add o)
 live:o≠.dead
 real:∃(v':Value) (w1:World) (O:Obj) (p:Pl),(w1=w∨w1=w.drew)/\res= .ok (.value v') (w1.alloc O)/\p.b=w.heap.size/\(∀ι':aH,ι.le ι'->OR P ι' (w1.alloc O) p o)/\∀(ι':aH) (n:D4),ι.le ι'->ι' n=some p->VR ι' (V n) v'
theorem VR.int_inv {ι:aH} {k:IntKind} {n:Int} {v:Value} (h:VR ι (.int k (.lit n)) v):v= .int k n:=by cases h;rfl
section
variable {P:Program} {ι:aH} {w:World} {t:Tm} {e:Operand->Value}
theorem e8 {w1:World} {wr:Bool} {cs:List NV} {cur:Array Value} {fz:Nat×Nat} (hw:wr=true->fz=(0,0)) (hl:cs.length<=cur.size)
 (hc:∀(i:Nat) (v:NV),cs[i]? =some v->∃v':Value,cur[i]? =some v'/\VR ι v v'/\v'.oneCell'=true):
 ∀ι':aH,ι.le ι'->OR P ι' (w1.alloc (.cells cur T fz)) ⟨w1.heap.size,0,cur.size⟩ (.cells wr cs):=fun ι' hle=>
 ⟨cur,T,fz,cD w1 _,hw,rfl,by simpa using hl,fun i v hi=>by
  obtain ⟨v',a,b,c⟩:=hc i v hi
  exact ⟨v',by simpa using a,b.mono hle,c⟩⟩
theorem np  (hc:ah P (.alloc T)=some n) (_hr:ae n t h0≠.fail):
 ∃o V,AllocR P ι w (ae n t) ((execOp e ⟨dst,.alloc T,type,pos,after,guard⟩).run P w) o V:=by
 replace hc:fT P T=some n:=hc
 unfold fT at hc
 split at hc
 ·rename_i z hz;rw[af] at hc;cases hc
  obtain ⟨i,zv,hi,hzv,hsz,hzl,hz1⟩:=bD (ι:=ι) hz
  refine ⟨.cells true z,fun n=> .ptr n 0,fun h=>NH.new_eq h (.cells true z) fun id h=>NR.mem (.ptr id 0) h,by simp, ?_⟩
  refine ⟨_,w,.cells zv.cells T,⟨w.heap.size,0,zv.cells.size⟩,.inl rfl, ?_,rfl,e8 (fun _=>rfl) (by rw[hzl.length];simp) (by simpa using hzl.at hz1),fun ι' n _ hn=>VR.ptr _ 0 _ hn⟩
  show (do pure (Next.value (←Instr.alloc T true (.tuple #[]))):Sem Next).run P w=_
  rw[bg]
  simp[ax,Instr.alloc,zeroValue,typeInfo,hi,hzv,newVar,newRow]
 ·cases hc
theorem sc  {x:Operand} (hc:ah P (.box T x)=some n) (hO:OE ι t e) (hr:ae n t h0≠.fail):
 ∃o V,AllocR P ι w (ae n t) ((execOp e ⟨dst,.box T x,type,pos,after,guard⟩).run P w) o V:=by
 replace hc:qa T x=some n:=hc
 unfold qa at hc
 split at hc
 ·rename_i y hy;rw[af] at hc;cases hc
  obtain ⟨v,h1,h2⟩:=au (t:=t) (x:=y) (K:=fun v=>aC (cellsOf v) fun cs=>h0.new (.cells true cs) fun id h=> .mem (.ptr id 0) h) rfl hr
  obtain ⟨cs,h3,h4⟩:=aw h2 hr
  have hc:=(hO _ _ hy v h1).cells h3
  refine ⟨.cells true cs,fun n=> .ptr n 0,fun h=> ?_,by simp, ?_⟩
  ·show wV t y _=_
   unfold wV
   rw[h1]
   show aC (cellsOf v) _=_
   rw[h3]
   exact NH.new_eq h (.cells true cs) fun id h=>NR.mem (.ptr id 0) h
  refine ⟨_,w,.cells (e x).cells T,⟨w.heap.size,0,(e x).cells.size⟩,.inl rfl, ?_,rfl,e8 (fun _=>rfl) (by rw[hc.1.length];simp) (by simpa using hc.1.at hc.2),fun ι' n _ hn=>VR.ptr _ 0 _ hn⟩
  show (do pure (Next.value (←Instr.box T (e x))):Sem Next).run P w=_
  rw[bg]
  simp[ax,Instr.box,newVar,newRow]
 ·cases hc
theorem mS :
 ∃o V,AllocR P ι w (ae .mkMap t) ((execOp e ⟨dst,.makeMap T none,type,pos,after,guard⟩).run P w) o V:=
 ⟨.map [],fun n=> .map n,fun h=>NH.new_eq h (.map []) fun id h=>NR.mem (.map id) h,by simp,_,w,.map #[] 0,⟨w.heap.size,0,0⟩,.inl rfl,rfl,rfl,fun ι' _=>⟨#[],0,cD w _,trivial⟩,fun ι' n _ hn=> .map _ _ hn⟩
theorem iw  {len:Nat} {ps:Array (Nat×Operand)} (hc:ah P (.buildSlice T len ps)=some n) (hO:OE ι t e) (hr:ae n t h0≠.fail):
 ∃o V,AllocR P ι w (ae n t) ((execOp e ⟨dst,.buildSlice T len ps,type,pos,after,guard⟩).run P w) o V:=by
 have ep:(ps.map fun (i,x)=>(i,e x))=(ps.toList.map fun p=>(p.1,e p.2)).toArray:=by apply Array.ext';simp
 unfold execOp
 dsimp only
 rw[bg,ep]
 replace hc:bX P T len ps.toList=some n:=hc
 unfold bX at hc
 split at hc
 ·rename_i el hT
  split at hc
  ·rename_i z k hz hk
   split at hc
   ·rename_i l hl
    obtain ⟨c1,c2⟩:=aE hc
    rw[ek,af,af] at c2;cases c2
    rw[Bool.and_eq_true] at c1
    have hsz:len*k<=16777216:=Nat.le_of_ble_eq_true c1.2
    have h0':=Nat.le_of_ble_eq_true c1.1
    have hq:=dR (ι:=ι) (t:=t) (e:=e) hO hl
    obtain ⟨r,h1,h2⟩:=aw (o:=bK t l 0 (Nm.rep len z)) (K:=fun l=>h0.new (.cells true l) fun id h=> .mem (.slc id 0 len k len) h) rfl hr
    obtain ⟨i,zv,i1,i2,i3,i4,i5⟩:=bD (ι:=ι) hz
    obtain ⟨j,j1,j2⟩:=aW hk
    rw[i1] at j1;cases j1
    have hzl:=i4.length
    have hsize:zv.cells.size=k:=by simp at hzl;omega
    have hrow:((Array.range (len*k)).map (zv.cells[·% zv.cells.size]!)).toList=Nm.rep len zv.cells.toList:=by rw[←hsize];exact fb zv.cells len
    obtain ⟨q1,q2⟩:=eY i4 i5 len
    obtain ⟨rs,k1,k2,k3⟩:=iP _ _ hq 0 _ r h1 ((Array.range (len*k)).map (zv.cells[·% zv.cells.size]!)) [] rfl (by rw[hrow];simpa using q1) (by rw[hrow];exact q2)
    simp only[List.nil_append] at k2
    have hrs:rs.size=len*k:=by rw[lp _ _ _ k1];simp
    refine ⟨.cells true r,fun n=> .slc n 0 len k len,fun h=> ?_,by simp, ?_⟩
    ·show aC (bK t l 0 (Nm.rep len z)) _=_
     rw[h1]
     exact NH.new_eq h (.cells true r) fun id h=>NR.mem (.slc id 0 len k len) h
    refine ⟨_,w,.cells rs el,⟨w.heap.size,0,rs.size⟩,.inl rfl, ?_,rfl,e8 (fun _=>rfl) (by rw[k2.length];simp) (k2.atA k3 fun i u hu=>by simpa using hu),
     fun ι' n _ hn=>VR.slc _ 0 len k _ _ ⟨w.heap.size,0,none⟩ len hn (Nat.le_refl _) (Nat.le_refl _) ?_ h0' (fun _=>⟨rfl, ?_⟩)⟩
    ·have hle:¬len*i.size>2 ^ 24:=by rw[j2];omega
     have hp:(fun x=>some (x*i.size,i.size))=(fun x:Nat=>some (Nat.mul x k,k)):=by rw[j2];rfl
     by_cases hnz:len*i.size=0
     ·have:len=0:=by rw[j2] at hnz;rcases Nat.mul_eq_zero.1 hnz with h|h<;>omega
      subst this
      have e1:((Array.range (0*k)).map (zv.cells[·% zv.cells.size]!))=#[]:=by simp
      rw[e1] at k1
      have e2:∀f:Nat->Value,((Array.range (0*i.size)).map f)=#[]:=fun f=>by simp
      simp only[ax,Instr.buildSlice,Sem.run_bind,run_underlying hT,Result.andThen_ok,cR i1,Fz hle,Sem.run_pure,FA hnz,e2,hp,k1]
      simp[newRow]
     ·simp only[ax,Instr.buildSlice,Sem.run_bind,run_underlying hT,Result.andThen_ok,cR i1,Fz hle,Sem.run_pure,Fz hnz,du i1 i2,hp]
      rw[j2,k1]
      simp[newRow]
    ·have:=Nat.le_mul_of_pos_right len h0';simp only[maxLen];omega
    ·rw[hrs];simp
   ·cases hc
  ·cases hc
 ·cases hc
theorem kI  {lo co:Operand} (hc:ah P (.makeSlice T lo co)=some n) (hO:OE ι t e) (hr:ae n t h0≠.fail):
 ∃o V,AllocR P ι w (ae n t) ((execOp e ⟨dst,.makeSlice T lo co,type,pos,after,guard⟩).run P w) o V:=by
 show ∃o V,AllocR P ι w (ae n t) ((do pure (Next.value (←Instr.makeSlice T (e lo) (e co))):Sem Next).run P w) o V
 rw[bg]
 replace hc:dq P T lo co=some n:=hc
 unfold dq at hc
 split at hc
 ·rename_i el hT
  split at hc
  ·rename_i z sz by_ yl yc hz hn hb hyl hyc
   obtain ⟨c1,c2⟩:=aE hc
   rw[af] at c2;cases c2
   have hpos:=Nat.le_of_ble_eq_true c1
   obtain ⟨k1,l,h1,h2⟩:=bC (t:=t) (x:=yl) (K:=fun l=>dk t yc fun c=>cond (Nat.ble l c) (cond (room c by_) (sK c z fun cs=>h0.new (.cells true cs) fun id h=> .mem (.slc id 0 l sz c) h) .fail) .fail) rfl hr
   obtain ⟨k2,c,h3,h4⟩:=bC h2 hr
   obtain ⟨d1,d2⟩:=az h4 hr
   obtain ⟨d3,d4⟩:=az d2 hr
   have hlc:=Nat.le_of_ble_eq_true d1
   obtain ⟨b1,b2⟩:=gS d3
   obtain ⟨i,zv,i1,i2,i3,i4,i5⟩:=bD (ι:=ι) hz
   obtain ⟨i',j1,j2⟩:=aW hn
   rw[i1] at j1;cases j1
   obtain ⟨i',j1,j3⟩:=fO hb
   rw[i1] at j1;cases j1
   have hzl:zv.cells.size=sz:=by have:=i4.length;simp at this;omega
   have hvx:=hO _ _ hyl _ h1
   have hvu:=hO _ _ hyc _ h3
   have hby:(i.bytes:Int)*(c:Int)<=281474976710656:=by
    have:((i.bytes*c:Nat):Int)<=281474976710656:=by rw[j3,Nat.mul_comm];omega
    rwa [Int.natCast_mul] at this
   have el1:e lo= .int k1 (Int.ofNat l):=VR.int_inv hvx
   have el2:e co= .int k2 (Int.ofNat c):=VR.int_inv hvu
   have hrun:=run_make (P:=P) w T el i zv hT i1 i2 k1 k2 (Int.ofNat l) (Int.ofNat c) (by simp) (by simp;exact hlc) hby (by simp;omega)
   rw[←el1,←el2,j2] at hrun
   have hmade:(madeCells zv.cells (c*sz)).toList=Nm.rep c zv.cells.toList:=by rw[←hzl];exact fb zv.cells c
   obtain ⟨q1,q2⟩:=eY i4 i5 c
   refine ⟨.cells true (Nm.rep c z),fun n=> .slc n 0 l sz c,fun h=> ?_,by simp, ?_⟩
   ·show dk t yl _=_
    unfold dk wV
    rw[h1]
    show dk t yc _=_
    unfold dk wV
    rw[h3]
    show cond (Nat.ble l c) _ _=_
    rw[d1]
    show cond (room c by_) _ _=_
    rw[d3]
    show sK _ _ _=_
    rw[ek]
    exact NH.new_eq h (.cells true (Nm.rep c z)) fun id h=>NR.mem (.slc id 0 l sz c) h
   refine ⟨_,w,.cells (madeCells zv.cells (c*sz)) el,⟨w.heap.size,0,(madeCells zv.cells (c*sz)).size⟩,.inl rfl,by rw[ax,hrun];rfl,rfl,
    e8 (fun _=>rfl) (by rw[q1.length,←hmade];simp) (q1.atA q2 fun j u hu=>by rw[←hmade] at hu;simpa using hu),
    fun ι' n _ hn=>VR.slc _ 0 l sz _ _ ⟨w.heap.size,0,none⟩ c hn hlc (Nat.le_refl _) (by simp only[maxLen];omega) hpos (fun _=>⟨rfl,by simp[size_madeCells]⟩)⟩
  ·cases hc
 ·cases hc
theorem tl (x:Operand) (hc:ah P (.move x)=some n):ai n≠.alloc:=by
 replace hc:ee x=some n:=hc
 unfold ee at hc
 repeat' split at hc
 all_goals first
  |(cases hc;done)
  |(cases hc;simp[ai];done)
theorem pJ (x:Operand) (hc:ah P (.assign x)=some n):ai n≠.alloc:=by
 replace hc:ee x=some n:=hc
 unfold ee at hc
 repeat' split at hc
 all_goals first
  |(cases hc;done)
  |(cases hc;simp[ai];done)
theorem uN (c a b:Operand) (hc:ah P (.pick c a b)=some n):ai n≠.alloc:=by
 replace hc:j8 c a b=some n:=hc
 unfold j8 at hc
 repeat' split at hc
 all_goals first
  |(cases hc;done)
  |(cases hc;simp[ai];done)
theorem u4 (T:TypeId) (x:Operand) (hc:ah P (.load T x)=some n):ai n≠.alloc:=by
 replace hc:kv P T x=some n:=hc
 unfold kv at hc
 repeat' split at hc
 all_goals first
  |(cases hc;done)
  |(cases hc;simp[ai];done)
theorem sm (T:TypeId) (a x:Operand) (hc:ah P (.store T a x)=some n):ai n≠.alloc:=by
 replace hc:gc P T a x=some n:=hc
 unfold gc at hc
 repeat' split at hc
 all_goals first
  |(cases hc;done)
  |(cases hc;simp[ai];done)
theorem lJ (x:Operand) (hc:ah P (.nilCheck x)=some n):ai n≠.alloc:=by
 replace hc:cC x=some n:=hc
 unfold cC at hc
 repeat' split at hc
 all_goals first
  |(cases hc;done)
  |(cases hc;simp[ai];done)
theorem rM (op:BinOp) (T:TypeId) (x y:Operand) (T2:TypeId) (hc:ah P (.binOp op T x y T2)=some n):ai n≠.alloc:=by
 replace hc:pQ P op T x y=some n:=hc
 unfold pQ at hc
 repeat' split at hc
 all_goals first
  |(cases hc;done)
  |(cases hc;simp[ai];done)
  |(replace hc:=(aE hc).2;cases hc;simp[ai];done)
  |(replace hc:=fq hc;cases hc;done)
  |(replace hc:=fq hc;cases hc;simp[ai];done)
theorem tr (op:UnOp) (T:TypeId) (x:Operand) (hc:ah P (.unOp op T x)=some n):ai n≠.alloc:=by
 replace hc:zq op x=some n:=hc
 unfold zq at hc
 repeat' split at hc
 all_goals first
  |(cases hc;done)
  |(cases hc;simp[ai];done)
theorem gu (T:TypeId) (x:Operand) (hc:ah P (.makeInterface T x)=some n):ai n≠.alloc:=by
 replace hc:pj P T x=some n:=hc
 unfold pj at hc
 repeat' split at hc
 all_goals first
  |(cases hc;done)
  |(rw[af] at hc;cases hc;simp[ai];done)
theorem kS (s:TypeId) (x:Operand) (f:Nat) (hc:ah P (.fieldAddr s x f)=some n):ai n≠.alloc:=by
 replace hc:ct P s x f=some n:=hc
 unfold ct at hc
 repeat' split at hc
 all_goals first
  |(cases hc;done)
  |(replace hc:=(aE hc).2;rw[af] at hc;cases hc;simp[ai];done)
theorem sv (s:TypeId) (x:Operand) (f:Nat) (hc:ah P (.field s x f)=some n):ai n≠.alloc:=by
 replace hc:fM P s x f=some n:=hc
 unfold fM at hc
 repeat' split at hc
 all_goals first
  |(cases hc;done)
  |(rw[af] at hc;cases hc;simp[ai];done)
theorem kH (T:TypeId) (x i:Operand) (hc:ah P (.indexAddr T x i)=some n):ai n≠.alloc:=by
 replace hc:cr P T x i=some n:=hc
 unfold cr at hc
 repeat' split at hc
 all_goals first
  |(cases hc;done)
  |(cases hc;simp[ai];done)
  |(rw[af] at hc;cases hc;simp[ai];done)
theorem s8 (T:TypeId) (x i:Operand) (hc:ah P (.index T x i)=some n):ai n≠.alloc:=by
 replace hc:fX P T x i=some n:=hc
 unfold fX at hc
 repeat' split at hc
 all_goals first
  |(cases hc;done)
  |(cases hc;simp[ai];done)
  |(rw[af] at hc;cases hc;simp[ai];done)
theorem oJ (T:TypeId) (x i:Operand) (ok:Bool) (hc:ah P (.lookup T x i ok)=some n):ai n≠.alloc:=by
 replace hc:eC P T x i ok=some n:=hc
 unfold eC at hc
 repeat' split at hc
 all_goals first
  |(cases hc;done)
  |(cases hc;simp[ai];done)
theorem kC (T:TypeId) (m k x:Operand) (hc:ah P (.mapUpdate T m k x)=some n):ai n≠.alloc:=by
 replace hc:aS P T m k x=some n:=hc
 unfold aS at hc
 repeat' split at hc
 all_goals first
  |(cases hc;done)
  |(cases hc;simp[ai];done)
theorem po (T:TypeId) (m k x:Operand) (hc:ah P (.insert T m k x)=some n):ai n≠.alloc:=by
 replace hc:aS P T m k x=some n:=hc
 unfold aS at hc
 repeat' split at hc
 all_goals first
  |(cases hc;done)
  |(cases hc;simp[ai];done)
theorem ju (x:Operand) (X T:TypeId) (hc:ah P (.typeAssert x X T true)=some n):ai n≠.alloc:=by
 replace hc:eA P T x=some n:=hc
 unfold eA at hc
 repeat' split at hc
 all_goals first
  |(cases hc;done)
  |(rw[af] at hc;cases hc;simp[ai];done)
theorem mQ (x:Operand) (i:Nat) (hc:ah P (.extract x i)=some n):ai n≠.alloc:=by
 replace hc:dI x i=some n:=hc
 unfold dI at hc
 repeat' split at hc
 all_goals first
  |(cases hc;done)
  |(rw[af] at hc;cases hc;simp[ai];done)
theorem sB (x:Operand) (hc:ah P (.panic x)=some n):ai n≠.alloc:=by
 replace hc:gi x=some n:=hc
 unfold gi at hc
 repeat' split at hc
 all_goals first
  |(cases hc;done)
  |(cases hc;simp[ai];done)
theorem sx (T:TypeId) (ps:Array (Nat×Operand)) (hc:ah P (.build T ps)=some n):ai n≠.alloc:=by
 replace hc:fN P T ps.toList=some n:=hc
 unfold fN at hc
 repeat' split at hc
 all_goals first
  |(cases hc;done)
  |(cases hc;simp[ai];done)
theorem t8 (f:FuncId) (first caps:Array Operand) (hc:ah P (.makeFunc (.func f) first caps)=some n):ai n≠.alloc:=by
 replace hc:j7 f first.toList caps.toList=some n:=hc
 unfold j7 at hc
 repeat' split at hc
 all_goals first
  |(cases hc;done)
  |(rw[af] at hc;cases hc;simp[ai];done)
theorem ou (T:TypeId) (x:Operand) (lo hi:Option Operand) (hc:ah P (.slice T x lo hi none)=some n):ai n≠.alloc:=by
 replace hc:gd P T x lo hi=some n:=hc
 unfold gd at hc
 repeat' split at hc
 all_goals first
  |(cases hc;done)
  |(cases hc;simp[ai];done)
theorem pp (T:TypeId) (x lo hi mx:Operand) (hc:ah P (.slice T x (some lo) (some hi) (some mx))=some n):ai n≠.alloc:=by
 replace hc:eD P T x lo hi mx=some n:=hc
 unfold eD at hc
 repeat' split at hc
 all_goals first
  |(cases hc;done)
  |(cases hc;simp[ai];done)
theorem nK {b:Builtin} {args:List NOpd} {ts:List TypeId} (hc:bT P b args ts=some n):ai n≠.alloc:=by
 unfold bT at hc
 repeat' split at hc
 all_goals first
  |(cases hc;done)
  |(cases hc;simp[ai];done)
  |(rw[af] at hc;cases hc;simp[ai];done)
  |(replace hc:=(aE hc).2;rw[af] at hc;cases hc;simp[ai];done)
theorem oU  {src:TypeId} {x:Operand} (hc:ah P (.convert src T x)=some n) (hO:OE ι t e) (hcl:ai n= .alloc) (hr:ae n t h0≠.fail):
 ∃o V,AllocR P ι w (ae n t) ((execOp e ⟨dst,.convert src T x,type,pos,after,guard⟩).run P w) o V:=by
 show ∃o V,AllocR P ι w (ae n t) ((do pure (Next.value (←convert src T (e x))):Sem Next).run P w) o V
 rw[bg]
 replace hc:kr P src T x=some n:=hc
 unfold kr at hc
 split at hc
 ·rename_i y hy
  unfold dZ at hc
  split at hc
  ·replace hc:=ip hc;cases hc;cases hcl
  ·cases hc;cases hcl
  ·rename_i el hS hT
   split at hc
   ·rename_i he
    rw[af] at hc;cases hc
    obtain ⟨v,h1,h2⟩:=au (t:=t) (x:=y) (K:=fun v=>match v with| .str s=>nI s fun l=>cg s fun n=>cond (Nat.ble n 1099511627776) (h0.new (.cells false l) fun id h=> .mem (.slc id 0 n 1 n) h) .fail|_=> .fail) rfl hr
    have hv:=hO _ _ hy v h1
    generalize hex:e x=xv at hv ⊢
    cases hv with
    |str l s hs=>
     subst hs
     dsimp only at h2
     rw[fh,aZ] at h2
     obtain ⟨hlen,_⟩:=az h2 hr
     have hlen':=Nat.le_of_ble_eq_true hlen
     rw[List.length_map,aT] at hlen'
     have hge:=grownCap_ge w s.size 0 el
     have hcm:grownCap w s.size 0 el<=maxLen:=grownCap_le_maxLen w s.size 0 el (by simp only[maxLen];omega)
     have hrun:=run_bytes_of_string (P:=P) w src T el s hS hT he
     have hbs:(bytesRow s (grownCap w s.size 0 el)).size=grownCap w s.size 0 el:=by
      have:s.data.size=s.size:=rfl
      simp[bytesRow,this];omega
     have hcells:∀(i:Nat) (v:NV),((s.data.toList.map UInt8.toNat).map fun x=>NV.int .u8 (.lit (.ofNat x)))[i]? =some v->∃v':Value,(bytesRow s (grownCap w s.size 0 el))[i]? =some v'/\VR ι v v'/\v'.oneCell'=true:=by
      intro i v hi
      obtain ⟨v',a,b⟩:=(iv (ι:=ι) s).get hi
      refine ⟨v', ?_,b, ?_⟩
      ·have hlt:i<s.data.size:=by
        have:=(List.getElem?_eq_some_iff.1 hi).1
        simpa using this
       rw[bytesRow_at s _ i hlt]
       rw[←a]
       unfold byteCells
       rw[List.getElem?_map,List.getElem?_eq_getElem (by simpa using hlt)]
       simp
      ·obtain ⟨_,_,rfl⟩:=List.mem_map.1 (List.mem_of_getElem? a)
       rfl
     refine ⟨.cells false ((s.data.toList.map UInt8.toNat).map fun x=>NV.int .u8 (.lit (.ofNat x))),fun n=> .slc n 0 s.size 1 s.size,fun h=> ?_,by simp, ?_⟩
     ·show wV t y _=_
      unfold wV
      rw[h1]
      show nI _ _=_
      rw[fh,aZ]
      show cond _ _ _=_
      rw[hlen,List.length_map,aT]
      exact NH.new_eq h (.cells false ((s.data.toList.map UInt8.toNat).map fun x=>NV.int .u8 (.lit (.ofNat x)))) fun id h=>NR.mem (.slc id 0 s.size 1 s.size) h
     refine ⟨_,w.drew,_,⟨w.drew.heap.size,0,(bytesRow s (grownCap w s.size 0 el)).size⟩,.inr rfl,by rw[ax,hrun];rfl,rfl,
      e8 (fun hh=>by cases hh) (by rw[hbs,List.length_map,List.length_map,aT];exact hge) hcells,fun ι' n _ hn=>VR.slc _ 0 s.size 1 _ _ ⟨w.heap.size,0,none⟩ _ hn hge hge hcm (Nat.le_refl _) fun _=>⟨rfl,by rw[hbs];simp⟩⟩
    |_=>exact Fy h2.symm hr
   ·cases hc
  ·split at hc
   ·cases hc;cases hcl
   ·cases hc
  ·split at hc
   ·replace hc:=(aE hc).2;cases hc;cases hcl
   ·cases hc
  ·cases hc
 ·cases hc
theorem nC {o:Oper} (hc:ah P o.op=some n) (hO:OE ι t e) (hcl:ai n= .alloc) (hr:ae n t h0≠.fail):
 ∃ob V,AllocR P ι w (ae n t) ((execOp e o).run P w) ob V:=by
 obtain ⟨dst,op,type,pos,after,guard⟩:=o
 cases op with
 |move x=>exact Fy hcl (tl x hc)
 |assign x=>exact Fy hcl (pJ x hc)
 |pick c a b=>exact Fy hcl (uN c a b hc)
 |alloc T=>exact np hc hr
 |box T x=>exact sc hc hO hr
 |build T ps=>exact Fy hcl (sx T ps hc)
 |buildSlice T len ps=>exact iw hc hO hr
 |load T x=>exact Fy hcl (u4 T x hc)
 |store T a x=>exact Fy hcl (sm T a x hc)
 |nilCheck x=>exact Fy hcl (lJ x hc)
 |binOp op T x y T2=>exact Fy hcl (rM op T x y T2 hc)
 |unOp op T x=>exact Fy hcl (tr op T x hc)
 |convert src T x=>exact oU hc hO hcl hr
 |makeInterface T x=>exact Fy hcl (gu T x hc)
 |makeFunc fn first caps=>
  cases fn with
  |func f=>exact Fy hcl (t8 f first caps hc)
  |_=>have hc:(none:Option NOp)=some n:=hc;cases hc
 |makeMap T r=>
  cases r with
  |none=>cases hc;exact mS
  |some r=>have hc:(none:Option NOp)=some n:=hc;cases hc
 |makeSlice T l c=>exact kI hc hO hr
 |slice T x lo hi mx=>
  cases mx with
  |none=>exact Fy hcl (ou T x lo hi hc)
  |some mx=>
   cases lo with
   |none=>have hc:(none:Option NOp)=some n:=hc;cases hc
   |some lo=>
    cases hi with
    |none=>have hc:(none:Option NOp)=some n:=hc;cases hc
    |some hi=>exact Fy hcl (pp T x lo hi mx hc)
 |fieldAddr s x f=>exact Fy hcl (kS s x f hc)
 |field s x f=>exact Fy hcl (sv s x f hc)
 |indexAddr T x i=>exact Fy hcl (kH T x i hc)
 |index T x i=>exact Fy hcl (s8 T x i hc)
 |lookup T x i ok=>exact Fy hcl (oJ T x i ok hc)
 |mapUpdate T m k x=>exact Fy hcl (kC T m k x hc)
 |insert T m k x=>exact Fy hcl (po T m k x hc)
 |typeAssert x X T ok=>
  cases ok with
  |false=>have hc:(none:Option NOp)=some n:=hc;cases hc
  |true=>exact Fy hcl (ju x X T hc)
 |extract x i=>exact Fy hcl (mQ x i hc)
 |panic x=>exact Fy hcl (sB x hc)
 |call c=>
  obtain ⟨callee,args,ats⟩:=c
  cases callee with
  |value f=>
   replace hc:js f args.toList=some n:=hc
   unfold js at hc
   split at hc
   ·cases hc;cases hcl
   ·cases hc
  |builtin b=>
   replace hc:dr P b args.toList ats.toList=some n:=hc
   unfold dr at hc
   split at hc
   ·exact Fy hcl (nK hc)
   ·cases hc
  |invoke r m=>have hc:(none:Option NOp)=some n:=hc;cases hc
 |defer c=>
  obtain ⟨callee,args,ats⟩:=c
  cases callee with
  |value f=>
   replace hc:dM f args.toList=some n:=hc
   unfold dM at hc
   split at hc
   ·cases hc;cases hcl
   ·cases hc
  |builtin b=>have hc:(none:Option NOp)=some n:=hc;cases hc
  |invoke r m=>have hc:(none:Option NOp)=some n:=hc;cases hc
 |_=>have hc:(none:Option NOp)=some n:=hc;cases hc
end
end Nm
namespace Nm
open Go
variable {h:NH} {v:NV} {pre:Nat}
theorem sE {n:NOp} (hc:ai n= .pure) (t:Tm) (h h':NH):ae n t h=ae n t h':=by
 cases n<;>first|rfl|cases hc
def iU (h h':NH):Prop:=∀id o,h.get id=some o->h'.get id=some o
theorem iU.refl (h:NH):iU h h:=fun _ _ x=>x
theorem iU.trans {a b c:NH} (x:iU a b) (y:iU b c):iU a c:=fun i o h=>y i o (x i o h)
theorem iU.add  (hf:∀i o,h.get i=some o->i.toNat<h.next.toNat) (o:NO):iU h (h.add o):=fun i u hi=>by
 have hne:i≠h.next:=fun e=>by have:=hf i u hi;rw[e] at this;exact Nat.lt_irrefl _ this
 rw[NH.get_add_ne _ _ hne];exact hi
theorem fP  {h':NH} (hx:iU h h') {id:D4} {K:List NV->NR} (e:bo h id K= .val v):bo h' id K= .val v:=by
 obtain ⟨wr,c,h1,h2⟩:=en e (by simp)
 unfold bo
 rw[hx id _ h1];exact h2
theorem mX  {h':NH} (hx:iU h h') {m:NV} {K:List (NV×NV)->NR} (e:il h m K= .val v):il h' m K= .val v:=by
 rcases gL e (by simp) with ⟨rfl,h1⟩|⟨id,l,rfl,h1,h2⟩
 ·exact h1
 ·unfold il
  dsimp only
  rw[hx id _ h1];exact h2
theorem hZ {t:Tm} {x:NOpd} {K K':NV->NR} (e:wV t x K= .val v) (hk:∀u,K u= .val v->K' u= .val v):wV t x K'= .val v:=by
 obtain ⟨u,h1,h2⟩:=au e (by simp)
 unfold wV
 rw[h1];exact hk u h2
theorem vn {n:NOp} (hc:ai n= .read) {t:Tm} {h':NH} (hx:iU h h') (e:ae n t h= .val v):ae n t h'= .val v:=by
 cases n with
 |load1 x=>
  refine hZ (K':=fun a=>match a with| .ptr id off=>bo h' id fun c=>aC (eR c off) .val|_=> .fail) e fun u hu=> ?_
  cases u<;>first|exact fP hx hu|exact hu
 |loadN k x=>
  refine hZ (K':=fun a=>match a with| .ptr id off=>bo h' id fun c=>aC (cV c off k) fun l=> .val (.agg l)|_=> .fail) e fun u hu=> ?_
  cases u<;>first|exact fP hx hu|exact hu
 |lookup s z ok x i=>
  refine hZ (K':=fun m=>wV t i fun k=>il h' m fun l=>aC (lh s k l) fun r=>Option.rec (Bool.rec (.val z) (.val (.tup [z,.bool false])) ok) (fun v=>Bool.rec (.val v) (.val (.tup [v,.bool true])) ok) r) e fun u hu=> ?_
  exact hZ hu fun k hk=>mX hx hk
 |bytesToStr x=>
  refine hZ (K':=fun v=>dv 1 h' v fun _ l=>aC (cI l) fun s=> .val (.str s)) e fun u hu=> ?_
  cases u with
  |slc id off len es kc=>
   have hu':cond (Nat.beq es 1) (bo h id fun c=>aC (cV c off (Nat.mul len 1)) fun l=>aC (cI l) fun s=> .val (.str s)) .fail=NR.val v:=hu
   obtain ⟨h1,h2⟩:=az hu' (by simp)
   show cond (Nat.beq es 1) (bo h' id fun c=>aC (cV c off (Nat.mul len 1)) fun l=>aC (cI l) fun s=> .val (.str s)) .fail=NR.val v
   rw[h1]
   exact fP hx h2
  |_=>exact hu
 |lenMap x=>
  refine hZ (K':=fun v=>il h' v fun l=>cg l fun n=> .val (.int .i64 (.lit (.ofNat n)))) e fun u hu=> ?_
  exact mX hx hu
 |_=>cases hc
theorem eM:∀{a b:D4},aP a b=true->a=b:=by
 intro a
 induction a with
 |e=>intro b h;cases b<;>first|rfl|cases h
 |a d ih=>intro b h;cases b<;>first|(rw[ih h])|cases h
 |b d ih=>intro b h;cases b<;>first|(rw[ih h])|cases h
 |c d ih=>intro b h;cases b<;>first|(rw[ih h])|cases h
 |f d ih=>intro b h;cases b<;>first|(rw[ih h])|cases h
theorem dC {a b:Bool} (h:cond a b false=true):a=true/\b=true:=by
 cases a with
 |true=>exact ⟨rfl,h⟩
 |false=>cases h
theorem gj {f:NV->NV->Bool} (hf:∀a b,f a b=true->a=b):∀{l m:List NV},fk f l m=true->l=m:=by
 intro l
 induction l with
 |nil=>intro m h;cases m<;>first|rfl|cases h
 |cons a l ih=>
  intro m h
  cases m with
  |nil=>cases h
  |cons b m=>
   obtain ⟨h1,h2⟩:=dC (show cond (f a b) (fk f l m) false=true from h)
   rw[hf a b h1,ih h2]
theorem gG:∀(d:Nat) (a b:NV),bH d a b=true->a=b:=by
 intro d
 induction d with
 |zero=>intro a b h;cases h
 |succ d ih=>
  intro a b h
  replace h:rB (bH d) a b=true:=h
  unfold rB at h
  split at h
  ·rw[fC] at h;rw[eq_of_beq h]
  ·obtain ⟨h1,h2⟩:=dC h
   rw[me h1]
   rw[cY] at h2
   rw[eq_of_beq h2]
  ·rw[kj] at h;rw[eq_of_beq h]
  ·rfl
  ·rfl
  ·rfl
  ·rfl
  ·rfl
  ·obtain ⟨h1,h2⟩:=dC h
   rw[eM h1,FF h2]
  ·obtain ⟨h1,h2⟩:=dC h
   obtain ⟨h3,h4⟩:=dC h2
   obtain ⟨h5,h6⟩:=dC h4
   obtain ⟨h7,h8⟩:=dC h6
   rw[eM h1,FF h3,FF h5,FF h7,FF h8]
  ·rw[eM h]
  ·rw[eM h]
  ·obtain ⟨h1,h2⟩:=dC h
   rw[FF h1,gj ih h2]
  ·rw[gj ih h]
  ·rw[gj ih h]
  ·cases h
theorem lq :∀{l:List (Nat×(NH->NR)×NV)},aK pre h l=true->∀r∈l,pre.testBit r.1=false->r.2.1 h= .val r.2.2:=by
 intro l
 induction l with
 |nil=>intro _ r hr;cases hr
 |cons a l ih=>
  intro h1 r hr hb
  have h':cond (Nat.testBit pre a.1) (aK pre h l) (match a.2.1 h with| .val v=>cond (bH 4 v a.2.2) (aK pre h l) false|_=>false)=true:=h1
  cases hp:Nat.testBit pre a.1 with
  |true=>
   rw[hp] at h'
   rcases List.mem_cons.1 hr with rfl|hr
   ·rw[hp] at hb;cases hb
   ·exact ih h' r hr hb
  |false=>
   rw[hp] at h'
   simp only[cond_false] at h'
   split at h'
   ·rename_i v hv
    obtain ⟨h2,h3⟩:=dC h'
    rcases List.mem_cons.1 hr with rfl|hr
    ·rw[hv,gG _ _ _ h2]
    ·exact ih h3 r hr hb
   ·cases h'
theorem lv  {f:NH->NR}:∀{l:List (Nat×NH)},c8 pre f v l=true->∀r∈l,pre.testBit r.1=false->f r.2= .val v:=by
 intro l
 induction l with
 |nil=>intro _ r hr;cases hr
 |cons a l ih=>
  intro h1 r hr hb
  have h':cond (Nat.testBit pre a.1) (c8 pre f v l) (match f a.2 with| .val u=>cond (bH 4 u v) (c8 pre f v l) false|_=>false)=true:=h1
  cases hp:Nat.testBit pre a.1 with
  |true=>
   rw[hp] at h'
   rcases List.mem_cons.1 hr with rfl|hr
   ·rw[hp] at hb;cases hb
   ·exact ih h' r hr hb
  |false=>
   rw[hp] at h'
   simp only[cond_false] at h'
   split at h'
   ·rename_i u hu
    obtain ⟨h2,h3⟩:=dC h'
    rcases List.mem_cons.1 hr with rfl|hr
    ·rw[hu,gG _ _ _ h2]
    ·exact ih h3 r hr hb
   ·cases h'
theorem d7 :∀{l:List (Nat×NH)},ahead pre l=true->∀r∈l,pre.testBit r.1=true:=by
 intro l
 induction l with
 |nil=>intro _ r hr;cases hr
 |cons a l ih=>
  intro h1 r hr
  obtain ⟨h2,h3⟩:=dC (show cond (Nat.testBit pre a.1) (ahead pre l) false=true from h1)
  rcases List.mem_cons.1 hr with rfl|hr
  ·exact h2
  ·exact ih h3 r hr
theorem oI {i:Nat}:∀{l:List NOper},aU i l=true->∀o∈l,o.pre.testBit i=true:=by
 intro l
 induction l with
 |nil=>intro _ r hr;cases hr
 |cons a l ih=>
  intro h1 r hr
  obtain ⟨h2,h3⟩:=dC (show cond (Nat.testBit a.pre i) (aU i l) false=true from h1)
  rcases List.mem_cons.1 hr with rfl|hr
  ·exact h2
  ·exact ih h3 r hr
theorem rS:∀{l:List NOper} {m m':Nat},mT l m=some m'->
 (∀j,m'.testBit j=true↔m.testBit j=true∨∃o∈l,o.idx=j)/\(l.map (·.idx)).Nodup/\(∀o∈l,m.testBit o.idx=false)/\
 (∀l1 o l2,l=l1++o::l2->∀j,o.pre.testBit j=true->m.testBit j=true∨∃o'∈l1,o'.idx=j):=by
 intro l
 induction l with
 |nil=>
  intro m m' h
  cases h
  exact ⟨fun j=>by simp,by simp,by simp,fun l1 o l2 h=>by cases l1<;>cases h⟩
 |cons a l ih=>
  intro m m' h
  have h':cond (Nat.testBit m a.idx) none (cond (Nat.beq (Nat.land a.pre m) a.pre) (ak (Nat.lor m (Nat.pow 2 a.idx)) (mT l)) none)=some m':=h
  cases hb:Nat.testBit m a.idx with
  |true=>rw[hb] at h';cases h'
  |false=>
   rw[hb] at h'
   obtain ⟨h2,h3⟩:=aE (show cond (Nat.beq (Nat.land a.pre m) a.pre) (ak (Nat.lor m (Nat.pow 2 a.idx)) (mT l)) none=some m' from h')
   rw[af] at h3
   obtain ⟨i1,i2,i3,i4⟩:=ih h3
   have hbit:∀j,(Nat.lor m (Nat.pow 2 a.idx)).testBit j=true↔m.testBit j=true∨a.idx=j:=fun j=>by
    have e:Nat.lor m (Nat.pow 2 a.idx)=m|||2 ^ a.idx:=rfl
    rw[e,Nat.testBit_or,Bool.or_eq_true,Nat.testBit_two_pow]
    simp
   have hpre:∀j,a.pre.testBit j=true->m.testBit j=true:=fun j hj=>by
    have e:a.pre&&& m=a.pre:=FF h2
    rw[←e,Nat.testBit_and,Bool.and_eq_true] at hj
    exact hj.2
   refine ⟨fun j=> ?_, ?_, ?_, ?_⟩
   ·rw[i1 j,hbit j]
    constructor
    ·rintro ((h|h)|⟨o,h,h'⟩)
     ·exact .inl h
     ·exact .inr ⟨a,by simp,h⟩
     ·exact .inr ⟨o,by simp[h],h'⟩
    ·rintro (h|⟨o,h,hoj⟩)
     ·exact .inl (.inl h)
     ·rcases List.mem_cons.1 h with rfl|h
      ·exact .inl (.inr hoj)
      ·exact .inr ⟨o,h,hoj⟩
   ·rw[List.map_cons,List.nodup_cons]
    refine ⟨fun hm=> ?_,i2⟩
    obtain ⟨o,ho,he⟩:=List.mem_map.1 hm
    have:=i3 o ho
    have h4:=(hbit o.idx).2 (.inr he.symm)
    rw[this] at h4;cases h4
   ·intro o ho
    rcases List.mem_cons.1 ho with rfl|ho
    ·exact hb
    ·cases hq:m.testBit o.idx with
     |false=>rfl
     |true=>have h4:=(hbit o.idx).2 (.inl hq);rw[i3 o ho] at h4;cases h4
   ·intro l1 o l2 he j hj
    cases l1 with
    |nil=>cases he;exact .inl (hpre j hj)
    |cons c l1=>
     injection he with he1 he2
     subst he1
     rcases i4 l1 o l2 he2 j hj with h4|⟨o',h4,h5⟩
     ·rcases (hbit j).1 h4 with h6|h6
      ·exact .inl h6
      ·exact .inr ⟨a,by simp,h6⟩
     ·exact .inr ⟨o',by simp[h4],h5⟩
end Nm
namespace Nm
open Go
inductive RK where
 |off
 |pure (v:NV)
 |alloc (v:NV) (h:NH)
 |read (v:NV)
 |eff (v:NV) (dfs:List Dfr) (ctx:Option NV) (h:NH)
structure Rec where
 o:NOper
 t:Tm
 dfs:List Dfr
 ctx:Option NV
 h:NH
 k:RK
def Rec.st (r:Rec):Dyn:=⟨r.t,r.dfs,r.ctx,r.h⟩
def Rec.val (r:Rec):NV:=match r.k with| .off=>aA| .pure v| .alloc v _| .read v| .eff v _ _ _=>v
noncomputable def Rec.nx (r:Rec):Dyn:=match r.k with
 | .off| .pure _| .read _=>⟨ay r.o.dst r.val r.t,r.dfs,r.ctx,r.h⟩
 | .alloc _ h=>⟨ay r.o.dst r.val r.t,r.dfs,r.ctx,h⟩
 | .eff _ dfs ctx h=>⟨ay r.o.dst r.val r.t,dfs,ctx,h⟩
section
variable (P:Program) (S:Nat->List NV->Option NV) (self:Option D4->NC->Dyn->Res) (rnd:Option D4)
def Rec.ok (r:Rec):Prop:=match r.k with
 | .off=>aj r.t r.o.guard=some false
 | .pure v=>aj r.t r.o.guard=some true/\ai r.o.op= .pure/\ae r.o.op r.t r.h= .val v
 | .alloc v h=>aj r.t r.o.guard=some true/\ai r.o.op= .alloc/\ae r.o.op r.t r.h= .mem v h
 | .read v=>aj r.t r.o.guard=some true/\ai r.o.op= .read/\ae r.o.op r.t r.h= .val v
 | .eff v dfs ctx h=>aj r.t r.o.guard=some true/\ai r.o.op= .eff/\cB P S self rnd r.dfs r.ctx r.h (ae r.o.op r.t r.h)= .next v dfs ctx h
inductive Chain:Dyn->List Rec->Dyn->Prop
 |nil (d:Dyn):Chain d [] d
 |cons (r:Rec) (R:List Rec) (d':Dyn) (h:r.ok P S self rnd) (c:Chain r.nx R d'):Chain r.st (r::R) d'
def QE (i:Nat) (h0:NH) (r:Rec):Prop:=match r.k with
 | .alloc _ _| .eff _ _ _ _=>r.o.pre.testBit i=true
 | .read v=>r.o.pre.testBit i=false->ae r.o.op r.t h0= .val v
 |_=>True
def QR (i:Nat) (f:NH->NR) (v:NV) (r:Rec):Prop:=match r.k with
 | .eff _ _ _ h=>r.o.pre.testBit i=false->f h= .val v
 |_=>True
def QQ (r r':Rec):Prop:=match r.k with
 | .eff _ _ _ _=>QE r.o.idx r.h r'
 | .read v=>QR r.o.idx (ae r.o.op r.t) v r'
 |_=>True
end
section
variable {P:Program} {S:Nat->List NV->Option NV} {self:Option D4->NC->Dyn->Res} {rnd:Option D4}
theorem bm (o:NOper) (l:List NOper) (hs:List (Nat×NH)) (rs:List (Nat×(NH->NR)×NV)) (t:Tm) (dfs:List Dfr) (ctx:Option NV) (h:NH):
 bi P S self rnd (o::l) hs rs ⟨t,dfs,ctx,h⟩=match aj t o.guard with
  |none=> .fail
  |some false=>bi P S self rnd l hs rs ⟨ay o.dst aA t,dfs,ctx,h⟩
  |some true=>match ai o.op with
   | .pure=>(match ae o.op t h with
    | .val v=>bi P S self rnd l hs rs ⟨ay o.dst v t,dfs,ctx,h⟩
    |_=> .fail)
   | .alloc=>cond (ahead o.pre hs) (match ae o.op t h with
    | .mem v h=>bi P S self rnd l hs rs ⟨ay o.dst v t,dfs,ctx,h⟩
    |_=> .fail) .fail
   | .read=>(match ae o.op t h with
    | .val v=>cond (c8 o.pre (ae o.op t) v hs) (bi P S self rnd l hs ((o.idx,ae o.op t,v)::rs) ⟨ay o.dst v t,dfs,ctx,h⟩) .fail
    |_=> .fail)
   | .eff=>cond (ahead o.pre hs) (b9 (aU o.idx l) (pU o.dst (fun d=>cond (aK o.pre d.h rs) (bi P S self rnd l ((o.idx,h)::hs) rs d) .fail) t dfs ctx (cB P S self rnd dfs ctx h (ae o.op t h)))) .fail:=by
 have e:bi P S self rnd (o::l) hs rs ⟨t,dfs,ctx,h⟩=Option.rec .fail (fun on=>Bool.rec (eV o.dst aA t fun t=>bi P S self rnd l hs rs ⟨t,dfs,ctx,h⟩)
  (match ai o.op with
   | .pure=>(match ae o.op t h with
    | .val v=>eV o.dst v t fun t=>bi P S self rnd l hs rs ⟨t,dfs,ctx,h⟩
    |_=> .fail)
   | .alloc=>cond (ahead o.pre hs) (match ae o.op t h with
    | .mem v h=>eV o.dst v t fun t=>bi P S self rnd l hs rs ⟨t,dfs,ctx,h⟩
    |_=> .fail) .fail
   | .read=>(match ae o.op t h with
    | .val v=>cond (c8 o.pre (ae o.op t) v hs) (eV o.dst v t fun t'=>bi P S self rnd l hs ((o.idx,ae o.op t,v)::rs) ⟨t',dfs,ctx,h⟩) .fail
    |_=> .fail)
   | .eff=>cond (ahead o.pre hs) (b9 (aU o.idx l) (jB P S self rnd o.dst (fun d=>cond (aK o.pre d.h rs) (bi P S self rnd l ((o.idx,h)::hs) rs d) .fail) t dfs ctx h (ae o.op t h))) .fail) on)
  (aj t o.guard):=rfl
 rw[e]
 cases aj t o.guard with
 |none=>rfl
 |some on=>
  cases on with
  |false=>exact cm o.dst aA t fun t=>bi P S self rnd l hs rs ⟨t,dfs,ctx,h⟩
  |true=>
   dsimp only
   cases ai o.op with
   |pure=>
    dsimp only
    cases ae o.op t h<;>first|rfl|exact cm o.dst _ t fun t=>bi P S self rnd l hs rs ⟨t,dfs,ctx,h⟩
   |alloc=>
    dsimp only
    congr 1
    cases ae o.op t h with
    |mem v h=>exact cm o.dst v t fun t=>bi P S self rnd l hs rs ⟨t,dfs,ctx,h⟩
    |_=>rfl
   |read=>
    dsimp only
    cases ae o.op t h with
    |val v=>exact congrArg (fun x=>cond (c8 o.pre (ae o.op t) v hs) x .fail) (cm o.dst v t fun t'=>bi P S self rnd l hs ((o.idx,ae o.op t,v)::rs) ⟨t',dfs,ctx,h⟩)
    |_=>rfl
   |eff=>
    dsimp only
    rw[li]
theorem pN {b:Bool} {r:Res} {d:Dyn} (h:b9 b r= .mk .norm d):r= .mk .norm d:=by
 unfold b9 at h
 split at h
 ·cases b<;>cases h
 ·exact h
theorem sI {b:Bool} {r:Res} {v:NV} {d:Dyn} (h:b9 b r= .mk (.pan v) d):r= .mk (.pan v) d/\b=true:=by
 unfold b9 at h
 split at h
 ·cases b with
  |true=>exact ⟨h,rfl⟩
  |false=>cases h
 ·rename_i hn;exact Fy h (hn v d)
theorem sS:∀(l:List NOper) (hs:List (Nat×NH)) (rs:List (Nat×(NH->NR)×NV)) (d d':Dyn),bi P S self rnd l hs rs d= .mk .norm d'->
 ∃R:List Rec,R.map (·.o)=l/\Chain P S self rnd d R d'/\R.Pairwise QQ/\(∀e∈hs,∀r∈R,QE e.1 e.2 r)/\(∀e∈rs,∀r∈R,QR e.1 e.2.1 e.2.2 r):=by
 intro l
 induction l with
 |nil=>
  intro hs rs d d' h
  cases h
  exact ⟨[],rfl,.nil _,.nil,by simp,by simp⟩
 |cons o l ih=>
  intro hs rs d d' h
  obtain ⟨t,dfs,ctx,hp⟩:=d
  rw[bm] at h
  cases hg:aj t o.guard with
  |none=>rw[hg] at h;cases h
  |some on=>
   rw[hg] at h
   cases on with
   |false=>
    obtain ⟨R,h1,h2,h3,h4,h5⟩:=ih hs rs _ d' h
    refine ⟨⟨o,t,dfs,ctx,hp,.off⟩::R,by rw[List.map_cons,h1],.cons ⟨o,t,dfs,ctx,hp,.off⟩ R d' hg h2,.cons (fun r _=>trivial) h3,fun e he r hr=> ?_,fun e he r hr=> ?_⟩
    ·rcases List.mem_cons.1 hr with rfl|hr
     ·trivial
     ·exact h4 e he r hr
    ·rcases List.mem_cons.1 hr with rfl|hr
     ·trivial
     ·exact h5 e he r hr
   |true=>
    dsimp only at h
    cases hcl:ai o.op with
    |pure=>
     rw[hcl] at h
     dsimp only at h
     cases hop:ae o.op t hp with
     |val v=>
      rw[hop] at h
      obtain ⟨R,h1,h2,h3,h4,h5⟩:=ih hs rs _ d' h
      refine ⟨⟨o,t,dfs,ctx,hp,.pure v⟩::R,by rw[List.map_cons,h1],.cons ⟨o,t,dfs,ctx,hp,.pure v⟩ R d' ⟨hg,hcl,hop⟩ h2,.cons (fun r _=>trivial) h3,fun e he r hr=> ?_,fun e he r hr=> ?_⟩
      ·rcases List.mem_cons.1 hr with rfl|hr
       ·trivial
       ·exact h4 e he r hr
      ·rcases List.mem_cons.1 hr with rfl|hr
       ·trivial
       ·exact h5 e he r hr
     |_=>rw[hop] at h;cases h
    |alloc=>
     rw[hcl] at h
     dsimp only at h
     cases ha:ahead o.pre hs with
     |false=>rw[ha] at h;cases h
     |true=>
      rw[ha] at h
      simp only[cond_true] at h
      cases hop:ae o.op t hp with
      |mem v h0=>
       rw[hop] at h
       obtain ⟨R,h1,h2,h3,h4,h5⟩:=ih hs rs _ d' h
       refine ⟨⟨o,t,dfs,ctx,hp,.alloc v h0⟩::R,by rw[List.map_cons,h1],.cons ⟨o,t,dfs,ctx,hp,.alloc v h0⟩ R d' ⟨hg,hcl,hop⟩ h2,.cons (fun r _=>trivial) h3,fun e he r hr=> ?_,fun e he r hr=> ?_⟩
       ·rcases List.mem_cons.1 hr with rfl|hr
        ·exact d7 ha e he
        ·exact h4 e he r hr
       ·rcases List.mem_cons.1 hr with rfl|hr
        ·trivial
        ·exact h5 e he r hr
      |_=>rw[hop] at h;cases h
    |read=>
     rw[hcl] at h
     dsimp only at h
     cases hop:ae o.op t hp with
     |val v=>
      rw[hop] at h
      dsimp only at h
      cases hst:c8 o.pre (ae o.op t) v hs with
      |false=>rw[hst] at h;cases h
      |true=>
       rw[hst] at h
       obtain ⟨R,h1,h2,h3,h4,h5⟩:=ih hs ((o.idx,ae o.op t,v)::rs) _ d' h
       refine ⟨⟨o,t,dfs,ctx,hp,.read v⟩::R,by rw[List.map_cons,h1],.cons ⟨o,t,dfs,ctx,hp,.read v⟩ R d' ⟨hg,hcl,hop⟩ h2,.cons (fun r hr=>h5 (o.idx,ae o.op t,v) (by simp) r hr) h3,fun e he r hr=> ?_,fun e he r hr=> ?_⟩
       ·rcases List.mem_cons.1 hr with rfl|hr
        ·exact fun hb=>lv hst e he hb
        ·exact h4 e he r hr
       ·rcases List.mem_cons.1 hr with rfl|hr
        ·trivial
        ·exact h5 e (by simp[he]) r hr
     |_=>rw[hop] at h;cases h
    |eff=>
     rw[hcl] at h
     dsimp only at h
     cases ha:ahead o.pre hs with
     |false=>rw[ha] at h;cases h
     |true=>
      rw[ha] at h
      replace h:=pN h
      cases hoo:cB P S self rnd dfs ctx hp (ae o.op t hp) with
      |fail=>rw[hoo] at h;cases h
      |pan v h0=>rw[hoo] at h;cases h
      |next v dfs1 ctx1 h0=>
       rw[hoo] at h
       have h':cond (aK o.pre h0 rs) (bi P S self rnd l ((o.idx,hp)::hs) rs ⟨ay o.dst v t,dfs1,ctx1,h0⟩) .fail= .mk .norm d':=h
       cases hsy:aK o.pre h0 rs with
       |false=>rw[hsy] at h';cases h'
       |true=>
        rw[hsy] at h'
        obtain ⟨R,h1,h2,h3,h4,h5⟩:=ih ((o.idx,hp)::hs) rs _ d' h'
        refine ⟨⟨o,t,dfs,ctx,hp,.eff v dfs1 ctx1 h0⟩::R,by rw[List.map_cons,h1],.cons ⟨o,t,dfs,ctx,hp,.eff v dfs1 ctx1 h0⟩ R d' ⟨hg,hcl,hoo⟩ h2,.cons (fun r hr=>h4 (o.idx,hp) (by simp) r hr) h3,fun e he r hr=> ?_,fun e he r hr=> ?_⟩
        ·rcases List.mem_cons.1 hr with rfl|hr
         ·exact d7 ha e he
         ·exact h4 e (by simp[he]) r hr
        ·rcases List.mem_cons.1 hr with rfl|hr
         ·exact fun hb=>lq hsy e he hb
         ·exact h5 e he r hr
def Rec.isE (r:Rec):Prop:=match r.k with| .eff _ _ _ _=>True|_=>False
theorem uf {v:NV}:∀(l:List NOper) (hs:List (Nat×NH)) (rs:List (Nat×(NH->NR)×NV)) (d d':Dyn),bi P S self rnd l hs rs d= .mk (.pan v) d'->
 ∃(R:List Rec) (q:Rec) (l2:List NOper) (h':NH),l=R.map (·.o)++q.o::l2/\Chain P S self rnd d R q.st/\R.Pairwise QQ/\(∀e∈hs,∀r∈R,QE e.1 e.2 r)/\(∀e∈rs,∀r∈R,QR e.1 e.2.1 e.2.2 r)/\
  aj q.t q.o.guard=some true/\ai q.o.op= .eff/\cB P S self rnd q.dfs q.ctx q.h (ae q.o.op q.t q.h)= .pan v h'/\d'=⟨q.t,q.dfs,q.ctx,h'⟩/\
  (∀e∈hs,q.o.pre.testBit e.1=true)/\(∀r∈R,r.isE->q.o.pre.testBit r.o.idx=true)/\∀o∈l2,o.pre.testBit q.o.idx=true:=by
 intro l
 induction l with
 |nil=>intro hs rs d d' h;cases h
 |cons o l ih=>
  intro hs rs d d' h
  obtain ⟨t,dfs,ctx,hp⟩:=d
  rw[bm] at h
  have fin:∀(r0:Rec) (hs1:List (Nat×NH)) (rs1:List (Nat×(NH->NR)×NV)),r0.o=o->r0.st=⟨t,dfs,ctx,hp⟩->r0.ok P S self rnd->bi P S self rnd l hs1 rs1 r0.nx= .mk (.pan v) d'->(∀e∈hs,e∈hs1)->(∀e∈rs,e∈rs1)->
   (∀R:List Rec,(∀e∈hs1,∀r∈R,QE e.1 e.2 r)->(∀e∈rs1,∀r∈R,QR e.1 e.2.1 e.2.2 r)->∀r∈R,QQ r0 r)->(∀e∈hs,QE e.1 e.2 r0)->(∀e∈rs,QR e.1 e.2.1 e.2.2 r0)->(r0.isE->∃h,(r0.o.idx,h)∈hs1)->
   ∃(R:List Rec) (q:Rec) (l2:List NOper) (h':NH),o::l=R.map (·.o)++q.o::l2/\Chain P S self rnd ⟨t,dfs,ctx,hp⟩ R q.st/\R.Pairwise QQ/\(∀e∈hs,∀r∈R,QE e.1 e.2 r)/\(∀e∈rs,∀r∈R,QR e.1 e.2.1 e.2.2 r)/\
    aj q.t q.o.guard=some true/\ai q.o.op= .eff/\cB P S self rnd q.dfs q.ctx q.h (ae q.o.op q.t q.h)= .pan v h'/\d'=⟨q.t,q.dfs,q.ctx,h'⟩/\
    (∀e∈hs,q.o.pre.testBit e.1=true)/\(∀r∈R,r.isE->q.o.pre.testBit r.o.idx=true)/\∀o∈l2,o.pre.testBit q.o.idx=true:=by
   intro r0 hs1 rs1 e1 e2 hok hrun s1 s2 hqq hqe hqr hise
   obtain ⟨R,q,l2,h',q1,q2,q3,q4,q5,q6,q7,q8,q9,q10,q11,q12⟩:=ih hs1 rs1 _ d' hrun
   refine ⟨r0::R,q,l2,h',by rw[q1,List.map_cons,e1];rfl,e2▸.cons r0 R q.st hok q2,.cons (hqq R q4 q5) q3,fun e he r hr=> ?_,fun e he r hr=> ?_,q6,q7,q8,q9,fun e he=>q10 e (s1 e he),fun r hr hE=> ?_,q12⟩
   ·rcases List.mem_cons.1 hr with rfl|hr
    ·exact hqe e he
    ·exact q4 e (s1 e he) r hr
   ·rcases List.mem_cons.1 hr with rfl|hr
    ·exact hqr e he
    ·exact q5 e (s2 e he) r hr
   ·rcases List.mem_cons.1 hr with rfl|hr
    ·obtain ⟨h0,hm⟩:=hise hE;exact q10 _ hm
    ·exact q11 r hr hE
  cases hg:aj t o.guard with
  |none=>rw[hg] at h;cases h
  |some on=>
   rw[hg] at h
   cases on with
   |false=>exact fin ⟨o,t,dfs,ctx,hp,.off⟩ hs rs rfl rfl hg h (fun _ x=>x) (fun _ x=>x) (fun _ _ _ _ _=>trivial) (fun _ _=>trivial) (fun _ _=>trivial) (fun x=>x.elim)
   |true=>
    dsimp only at h
    cases hcl:ai o.op with
    |pure=>
     rw[hcl] at h
     dsimp only at h
     cases hop:ae o.op t hp with
     |val u=>
      rw[hop] at h
      exact fin ⟨o,t,dfs,ctx,hp,.pure u⟩ hs rs rfl rfl ⟨hg,hcl,hop⟩ h (fun _ x=>x) (fun _ x=>x) (fun _ _ _ _ _=>trivial) (fun _ _=>trivial) (fun _ _=>trivial) (fun x=>x.elim)
     |_=>rw[hop] at h;cases h
    |alloc=>
     rw[hcl] at h
     dsimp only at h
     cases ha:ahead o.pre hs with
     |false=>rw[ha] at h;cases h
     |true=>
      rw[ha] at h
      simp only[cond_true] at h
      cases hop:ae o.op t hp with
      |mem u h0=>
       rw[hop] at h
       exact fin ⟨o,t,dfs,ctx,hp,.alloc u h0⟩ hs rs rfl rfl ⟨hg,hcl,hop⟩ h (fun _ x=>x) (fun _ x=>x) (fun _ _ _ _ _=>trivial) (fun e he=>d7 ha e he) (fun _ _=>trivial) (fun x=>x.elim)
      |_=>rw[hop] at h;cases h
    |read=>
     rw[hcl] at h
     dsimp only at h
     cases hop:ae o.op t hp with
     |val u=>
      rw[hop] at h
      dsimp only at h
      cases hst:c8 o.pre (ae o.op t) u hs with
      |false=>rw[hst] at h;cases h
      |true=>
       rw[hst] at h
       exact fin ⟨o,t,dfs,ctx,hp,.read u⟩ hs ((o.idx,ae o.op t,u)::rs) rfl rfl ⟨hg,hcl,hop⟩ h (fun _ x=>x) (fun _ x=>by simp[x]) (fun R _ h5 r hr=>h5 (o.idx,ae o.op t,u) (by simp) r hr) (fun e he hb=>lv hst e he hb) (fun _ _=>trivial) (fun x=>x.elim)
     |_=>rw[hop] at h;cases h
    |eff=>
     rw[hcl] at h
     dsimp only at h
     cases ha:ahead o.pre hs with
     |false=>rw[ha] at h;cases h
     |true=>
      rw[ha] at h
      obtain ⟨h,hbh⟩:=sI h
      cases hoo:cB P S self rnd dfs ctx hp (ae o.op t hp) with
      |fail=>rw[hoo] at h;cases h
      |pan u h0=>
       rw[hoo] at h
       cases h
       exact ⟨[],⟨o,t,dfs,ctx,hp,.off⟩,l,h0,rfl,.nil _,.nil,by simp,by simp,hg,hcl,hoo,rfl,fun e he=>d7 ha e he,by simp,oI hbh⟩
      |next u dfs1 ctx1 h0=>
       rw[hoo] at h
       have h':cond (aK o.pre h0 rs) (bi P S self rnd l ((o.idx,hp)::hs) rs ⟨ay o.dst u t,dfs1,ctx1,h0⟩) .fail= .mk (.pan v) d':=h
       cases hsy:aK o.pre h0 rs with
       |false=>rw[hsy] at h';cases h'
       |true=>
        rw[hsy] at h'
        exact fin ⟨o,t,dfs,ctx,hp,.eff u dfs1 ctx1 h0⟩ ((o.idx,hp)::hs) rs rfl rfl ⟨hg,hcl,hoo⟩ h' (fun _ x=>by simp[x]) (fun _ x=>x) (fun R h4 _ r hr=>h4 (o.idx,hp) (by simp) r hr) (fun e he=>d7 ha e he) (fun e he hb=>lq hsy e he hb) (fun _=>⟨hp,by simp⟩)
end
end Nm
namespace Nm
open Go
variable {ops:Array Oper} {k n t:Nat} {α:Type} {w:Array (List (Tmp×Nat))}
theorem NT.get_del_same  (d:D4) (t:NT α):NT.get d (NT.del d t)=none:=by
 induction d generalizing t with
 |e=>cases t<;>rfl
 |a d ih=>cases t<;>first|rfl|exact ih _
 |b d ih=>cases t<;>first|rfl|exact ih _
 |c d ih=>cases t<;>first|rfl|exact ih _
 |f d ih=>cases t<;>first|rfl|exact ih _
theorem NT.get_del_ne  {d i:D4} (h:i≠d) (t:NT α):NT.get i (NT.del d t)=NT.get i t:=by
 induction d generalizing t i with
 |e=>cases i<;>first|exact Fy rfl h|(cases t<;>rfl)
 |a d ih=>cases i<;>cases t<;>first|rfl|exact ih (fun x=>h (by rw[x])) _
 |b d ih=>cases i<;>cases t<;>first|rfl|exact ih (fun x=>h (by rw[x])) _
 |c d ih=>cases i<;>cases t<;>first|rfl|exact ih (fun x=>h (by rw[x])) _
 |f d ih=>cases i<;>cases t<;>first|rfl|exact ih (fun x=>h (by rw[x])) _
theorem sL:∀{l:List NOper} {t:Tm} {k:D4} {v:NV},NT.get k (gD l t)=some v->NT.get k t=some v/\∀o∈l,o.dst≠some k:=by
 intro l
 induction l with
 |nil=>intro t k v h;exact ⟨h,by simp⟩
 |cons o l ih=>
  intro t k v h
  have h':NT.get k (match o.dst with|some d=>NT.del d (gD l t)|none=>gD l t)=some v:=h
  cases hd:o.dst with
  |none=>
   rw[hd] at h'
   obtain ⟨h1,h2⟩:=ih h'
   refine ⟨h1,fun o' ho=> ?_⟩
   rcases List.mem_cons.1 ho with rfl|ho
   ·rw[hd];simp
   ·exact h2 o' ho
  |some d=>
   rw[hd] at h'
   dsimp only at h'
   have hne:k≠d:=fun e=>by rw[e,NT.get_del_same] at h';cases h'
   rw[NT.get_del_ne hne] at h'
   obtain ⟨h1,h2⟩:=ih h'
   refine ⟨h1,fun o' ho=> ?_⟩
   rcases List.mem_cons.1 ho with rfl|ho
   ·rw[hd];exact fun e=>hne (Option.some.inj e).symm
   ·exact h2 o' ho
structure Lay (P:Program) (ops:Array Oper) (l:List NOper):Prop where
 mem:∀no∈l,∃o,ops[no.idx]? =some o/\no.dst=o.dst.map D4.of/\(ah P o.op=some no.op∨no.op= .fail)/\jD ops o.guard no.guard/\no.pre=nV ops no.idx
 nodup:(l.map (·.idx)).Nodup
 all:∀i,i<ops.size->∃no∈l,no.idx=i
 pre:∀l1 o l2,l=l1++o::l2->∀j,o.pre.testBit j=true->∃o'∈l1,o'.idx=j
 once:∀(i j:Nat) (oi oj:Oper) (t:Nat),ops[i]? =some oi->ops[j]? =some oj->oi.dst=some t->oj.dst=some t->i=j
theorem kQ {P:Program}:∀(l:List Oper) (i:Nat) (nl:List NOper) (pre:List Nat),(∀j,l[j]? =ops[i+j]?)->(∀j,pre.getD j 0=nV ops (i+j))->cu P ops l i pre=some nl->
 ∀no∈nl,∃o,ops[no.idx]? =some o/\no.dst=o.dst.map D4.of/\(ah P o.op=some no.op∨no.op= .fail)/\jD ops o.guard no.guard/\no.pre=nV ops no.idx:=by
 intro l
 induction l with
 |nil=>intro i nl pre _ _ hc no hno;cases hc;cases hno
 |cons o1 l ih=>
  intro i nl pre hl hp hc no hno
  have hc':(match fe P ops o1 (pre.headD 0) i,cu P ops l (Nat.succ i) pre.tail with|some o,some l=>some (o::l)|_,_=>none)=some nl:=hc
  split at hc'
  ·rename_i no' nl' h1 h2
   cases hc'
   rcases List.mem_cons.1 hno with rfl|hno
   ·obtain ⟨i1,i2,i3,i4,i5⟩:=gR h1
    have ho:ops[i]? =some o1:=by have:=hl 0;simpa using this.symm
    have hpi:pre.headD 0=nV ops i:=by have:=hp 0;cases pre<;>simpa using this
    exact ⟨o1,by rw[i5];exact ho,i1,i2,i3,by rw[i4,i5,hpi]⟩
   ·refine ih (Nat.succ i) nl' pre.tail (fun j=> ?_) (fun j=> ?_) h2 no hno
    ·have:=hl (j+1);simp at this;rw[this];congr 1;omega
    ·have:=hp (j+1)
     rw[show Nat.succ i+j=i+(j+1) by omega,←this]
     cases pre<;>simp
  ·cases hc'
theorem im  {es:List Nat} {eff:Bool} {rest:List NOper}:∀{l:List NOper} {o:NOper},o∈gF k es eff l rest->o∈l∨o∈rest:=by
 intro l
 induction l with
 |nil=>intro o h;exact .inr h
 |cons a l ih=>
  intro o h
  have h':o∈(Bool.rec (gF k es eff l rest) (a::gF k es eff l rest) (Bool.rec false (Nat.beq (uW a.pre es) k) (Bool.rec (Bool.rec true false eff) eff (qG (ai a.op)))):List NOper):=h
  generalize (Bool.rec false (Nat.beq (uW a.pre es) k) (Bool.rec (Bool.rec true false eff) eff (qG (ai a.op))):Bool)=c at h'
  cases c with
  |false=>rcases ih h' with h|h<;>simp[h]
  |true=>
   rcases List.mem_cons.1 h' with rfl|h'
   ·simp
   ·rcases ih h' with h|h<;>simp[h]
theorem nZ {es:List Nat} {l:List NOper}:∀{ks:List Nat} {k:Nat} {o:NOper},o∈pC es l ks k->o∈l:=by
 intro ks
 induction ks with
 |nil=>
  intro k o h
  rcases im (show o∈gF k es false l [] from h) with h|h
  ·exact h
  ·cases h
 |cons a ks ih=>
  intro k o h
  have h':o∈gF k es false l (gF k es true l (ak (Nat.succ k) (pC es l ks))):=h
  rw[af] at h'
  rcases im h' with h|h
  ·exact h
  ·rcases im h with h|h
   ·exact h
   ·exact ih h
theorem sW  {R:Type} (l:List α) (K:List α->R):oE l K=K l:=by
 induction l generalizing K with
 |nil=>rfl
 |cons a l ih=>exact ih fun t=>K (a::t)
theorem j9 (t:Nat) (o:Oper) (l:List Oper):eJ t (o::l)=if o.dst=some t then eJ t l+1 else eJ t l:=by
 have e:eJ t (o::l)=(match o.dst with|some d=>Bool.rec (eJ t l) (Nat.succ (eJ t l)) (Nat.beq d t)|none=>eJ t l):=rfl
 rw[e]
 cases o.dst with
 |none=>simp
 |some d=>
  dsimp only
  cases h:Nat.beq d t with
  |true=>have:=FF h;simp[this]
  |false=>have:=Nat.ne_of_beq_eq_false h;simp[this]
theorem sG :∀{l:List Oper} {i:Nat} {o:Oper},l[i]? =some o->o.dst=some t->1<=eJ t l:=by
 intro l
 induction l with
 |nil=>intro i o h;simp at h
 |cons a l ih=>
  intro i o h hd
  rw[j9]
  cases i with
  |zero=>simp at h;subst h;rw[FA hd];omega
  |succ i=>have:=ih (by simpa using h) hd;split<;>omega
theorem ln :∀{l:List Oper} {i j:Nat} {o o':Oper},i<j->l[i]? =some o->l[j]? =some o'->o.dst=some t->o'.dst=some t->2<=eJ t l:=by
 intro l
 induction l with
 |nil=>intro i j o o' _ h;simp at h
 |cons a l ih=>
  intro i j o o' hij h h' hd hd'
  rw[j9]
  cases j with
  |zero=>omega
  |succ j=>
   cases i with
   |zero=>simp at h;subst h;rw[FA hd];have:=sG (l:=l) (by simpa using h') hd';omega
   |succ i=>have:=ih (i:=i) (j:=j) (by omega) (by simpa using h) (by simpa using h') hd hd';split<;>omega
theorem sn {all:List Oper}:∀{l:List Oper},(List.rec (motive:=fun _=>List Oper->Bool) (fun _=>true) (fun o _ r all=>match o.dst with
 |some t=>cond (Nat.beq (eJ t all) 1) (r all) false
 |none=>r all) l all:Bool)=true->∀o∈l,∀t,o.dst=some t->eJ t all=1:=by
 intro l
 induction l with
 |nil=>intro _ o h;cases h
 |cons a l ih=>
  intro h o ho t ht
  dsimp only at h
  cases ha:a.dst with
  |none=>
   rw[ha] at h
   rcases List.mem_cons.1 ho with rfl|ho
   ·rw[ha] at ht;cases ht
   ·exact ih h o ho t ht
  |some d=>
   rw[ha] at h
   obtain ⟨h1,h2⟩:=dC h
   rcases List.mem_cons.1 ho with rfl|ho
   ·rw[ha] at ht;cases ht;exact FF h1
   ·exact ih h2 o ho t ht
theorem p9  (h:oG ops.toList=true) (i j:Nat) (oi oj:Oper) (t:Nat) (hi:ops[i]? =some oi) (hj:ops[j]? =some oj) (ti:oi.dst=some t) (tj:oj.dst=some t):i=j:=by
 have h1:=sn h oi (by rw[Array.mem_toList_iff];exact Array.mem_of_getElem? hi) t ti
 rcases Nat.lt_trichotomy i j with hlt|he|hlt
 ·have:=ln (l:=ops.toList) hlt (by simpa using hi) (by simpa using hj) ti tj;omega
 ·exact he
 ·have:=ln (l:=ops.toList) hlt (by simpa using hj) (by simpa using hi) tj ti;omega
theorem mM {o:Option Nat} (h:mu o k=true):o=some k:=by
 cases o with
 |none=>cases h
 |some m=>rw[FF h]
theorem yU {P:Program} {nc:NC} {id:Nat} (h:bL P (.region id ops true)=some nc):∃l,nc= .regD l/\Lay P ops l:=by
 have h':(match cu P ops ops.toList 0 (Region.before ops).toList with
  |some l=>oE (xC l) fun e=>cond (mu (mT e 0) (Nat.sub (Nat.pow 2 ops.size) 1)&&oG ops.toList) (some (.regD e)) none
  |none=>none)=some nc:=h
 split at h'
 ·rename_i l0 hl0
  rw[sW] at h'
  obtain ⟨hb,hc⟩:=aE h'
  cases hc
  rw[Bool.and_eq_true] at hb
  obtain ⟨hb1,hb2⟩:=hb
  have hm:=kQ ops.toList 0 l0 _ (fun j=>by simp) (fun j=>by unfold nV;simp[Array.getD_eq_getD_getElem?,List.getD_eq_getElem?_getD]) hl0
  obtain ⟨p1,p2,p3,p4⟩:=rS (mM hb1)
  refine ⟨_,rfl,⟨fun no hno=>hm no (nZ hno),p2,fun i hi=> ?_,fun l1 o l2 he j hj=> ?_,p9 hb2⟩⟩
  ·have hbit:(Nat.sub (Nat.pow 2 ops.size) 1).testBit i=true:=by
    have e:Nat.sub (Nat.pow 2 ops.size) 1=2 ^ ops.size - 1:=rfl
    rw[e,Nat.testBit_two_pow_sub_one];simpa using hi
   rcases (p1 i).1 hbit with h|h
   ·simp at h
   ·exact h
  ·rcases p4 l1 o l2 he j hj with h|h
   ·simp at h
   ·exact h
 ·cases h'
def pG (n:Nat) (w:Array (List (Tmp×Nat))) (p:Oper×Nat):Array (List (Tmp×Nat)):=match p.1.dst with
 |some d=>w.modify (d % n) ((d,p.2)::·)
 |none=>w
theorem sT  {p:Oper×Nat}:(pG n w p).size=w.size:=by unfold pG;split<;>simp
theorem sN  {p:Oper×Nat} {x:Tmp×Nat} (h:x∈w.getD k []):x∈(pG n w p).getD k []:=by
 unfold pG
 split
 ·rename_i d _
  rw[Array.getD_eq_getD_getElem?] at h ⊢
  rw[Array.getElem?_modify]
  split
  ·rename_i he
   cases hw:w[k]? with
   |none=>rw[hw] at h;simp at h
   |some l=>rw[hw] at h;simp at h ⊢;exact .inr h
  ·exact h
 ·exact h
theorem uw  {x:Tmp×Nat}:∀(L:List (Oper×Nat)) (w:Array (List (Tmp×Nat))),x∈w.getD k []->x∈(L.foldl (pG n) w).getD k []:=by
 intro L
 induction L with
 |nil=>exact fun w h=>h
 |cons p L ih=>exact fun w h=>ih _ (sN h)
theorem vo  {o:Oper} {i d:Nat} (hd:o.dst=some d) (hn:0<n):∀(L:List (Oper×Nat)) (w:Array (List (Tmp×Nat))),w.size=n->(o,i)∈L->(d,i)∈(L.foldl (pG n) w).getD (d % n) []:=by
 intro L
 induction L with
 |nil=>intro w _ h;cases h
 |cons p L ih=>
  intro w hw h
  rcases List.mem_cons.1 h with rfl|h
  ·refine uw L _ ?_
   unfold pG
   dsimp only
   rw[hd]
   dsimp only
   rw[Array.getD_eq_getD_getElem?,Array.getElem?_modify,FA rfl,Array.getElem?_eq_getElem (by rw[hw];exact Nat.mod_lt _ hn)]
   simp
  ·exact ih _ (by rw[sT];exact hw) h
theorem xR  {b:Array Nat} (h:Region.temporariesOk ops b=true) {i j:Nat} {oi oj:Oper} (hi:ops[i]? =some oi) (hj:ops[j]? =some oj) (ht:oi.dst=some t) (hr:Operand.tmp t∈oj.op.operands.toList):
 i=j∨(b.getD (max i j) 0).testBit (min i j)=true:=by
 unfold Region.temporariesOk at h
 have hz:∀(k:Nat) (o:Oper),ops[k]? =some o->(o,k)∈ops.toList.zipIdx:=fun k o ho=>by
  rw[List.mem_zipIdx_iff_getElem?];simpa using ho
 rw[List.all_eq_true] at h
 have h1:=h (oj,j) (hz j oj hj)
 dsimp only at h1
 rw[List.all_eq_true] at h1
 have h2:=h1 t (by
  rw[List.mem_append];right
  rw[List.mem_filterMap]
  exact ⟨.tmp t,hr,rfl⟩)
 rw[List.all_eq_true] at h2
 have hn:0<ops.size:=by have:=(Array.getElem?_eq_some_iff.1 hi).1;omega
 have h3:=h2 (t,i) (vo (n:=ops.size) ht hn ops.toList.zipIdx (Array.replicate ops.size []) (by simp) (hz i oi hi))
 simp only[Bool.or_eq_true,beq_iff_eq,bne_iff_ne,ne_eq,not_true_eq_false,false_or] at h3
 exact h3
end Nm
namespace Nm
open Go
variable {h:NH} {ι:aH} {w:World} {p:Pl} {n k:D4} {P:Program} {B:Nat} {d d':Dyn}
section chain
variable {P:Program} {S:Nat->List NV->Option NV} {self:Option D4->NC->Dyn->Res} {rnd:Option D4}
theorem bO {r:Rec} {R:List Rec} (h:Chain P S self rnd d (r::R) d'):d=r.st/\r.ok P S self rnd/\Chain P S self rnd r.nx R d':=by
 cases h with
 |cons _ _ _ h c=>exact ⟨rfl,h,c⟩
theorem dp  (h:Chain P S self rnd d [] d'):d'=d:=by cases h;rfl
theorem cQ:∀{R1 R2:List Rec} {d d':Dyn},Chain P S self rnd d (R1++R2) d'->∃dm,Chain P S self rnd d R1 dm/\Chain P S self rnd dm R2 d':=by
 intro R1
 induction R1 with
 |nil=>intro R2 d d' h;exact ⟨d,.nil d,h⟩
 |cons r R1 ih=>
  intro R2 d d' h
  obtain ⟨rfl,hok,hc⟩:=bO (show Chain P S self rnd d (r::(R1++R2)) d' from h)
  obtain ⟨dm,h1,h2⟩:=ih hc
  exact ⟨dm,.cons r R1 dm hok h1,h2⟩
theorem kl:∀{R1 R2:List Rec} {d dm d':Dyn},Chain P S self rnd d R1 dm->Chain P S self rnd dm R2 d'->Chain P S self rnd d (R1++R2) d':=by
 intro R1
 induction R1 with
 |nil=>intro R2 d dm d' h h';rw[dp h] at h';exact h'
 |cons r R1 ih=>
  intro R2 d dm d' h h'
  obtain ⟨rfl,hok,hc⟩:=bO h
  exact .cons r (R1++R2) d' hok (ih hc h')
theorem Eb (r:Rec):r.nx.t=ay r.o.dst r.val r.t:=by unfold Rec.nx;cases r.k<;>rfl
theorem va {d:Option D4} (h:d≠some k) (v:NV) (t:Tm):NT.get k (ay d v t)=NT.get k t:=by
 cases d with
 |none=>rfl
 |some d=>exact NT.get_put_ne (fun e=>h (by rw[e])) v t
theorem pM {d:Option D4} (h:d=some k) (v:NV) (t:Tm):NT.get k (ay d v t)=some v:=by rw[h];exact NT.get_put_same _ _ _
theorem ej :∀{R:List Rec} {d d':Dyn},Chain P S self rnd d R d'->(∀w∈R,w.o.dst≠some k)->NT.get k d'.t=NT.get k d.t:=by
 intro R
 induction R with
 |nil=>intro d d' h _;rw[dp h]
 |cons r R ih=>
  intro d d' h hn
  obtain ⟨rfl,_,hc⟩:=bO h
  rw[ih hc fun w hw=>hn w (by simp[hw]),Eb,va (hn r (by simp))];rfl
theorem jq  {A C:List Rec} {w:Rec} (h:Chain P S self rnd d (A++w::C) d') (hw:w.o.dst=some k) (hn:∀x∈C,x.o.dst≠some k):NT.get k d'.t=some w.val:=by
 obtain ⟨dm,_,h2⟩:=cQ h
 obtain ⟨_,_,hc⟩:=bO h2
 rw[ej hc hn,Eb,pM hw]
theorem um {n:NOp} (hc:ai n= .alloc) {t:Tm} {h':NH} {v:NV} (e:ae n t h= .mem v h'):∃o,h'=h.add o:=by
 have fin:∀{o:NO} {f:D4->NV},(h.new o fun id h=>NR.mem (f id) h)= .mem v h'->∃o,h'=h.add o:=by
  intro o f e
  rw[NH.new_eq] at e
  injection e with _ e
  exact ⟨o,e.symm⟩
 have ne:NR.mem v h'≠.fail:=by simp
 cases n with
 |alloc z T=>exact fin (f:=fun id=> .ptr id 0) e
 |box x T=>
  obtain ⟨u,_,h2⟩:=au e ne
  obtain ⟨cs,_,h4⟩:=aw h2 ne
  exact fin (f:=fun id=> .ptr id 0) h4
 |buildSlice z n len T ps=>
  obtain ⟨cs,_,h4⟩:=aw (show aC (bK t ps 0 z) _=_ from e) ne
  exact fin (f:=fun id=> .slc id 0 len n len) h4
 |mkMap=>exact fin (f:=fun id=> .map id) e
 |mkSlice z n b T l c=>
  obtain ⟨k,m,_,h2⟩:=bC e ne
  obtain ⟨k',m',_,h3⟩:=bC h2 ne
  obtain ⟨_,h4⟩:=az h3 ne
  obtain ⟨_,h5⟩:=az h4 ne
  rw[ek] at h5
  exact fin (f:=fun id=> .slc id 0 m n m') h5
 |strToBytes T x=>
  obtain ⟨u,_,h2⟩:=au e ne
  cases u with
  |str s=>
   dsimp only at h2
   rw[fh,aZ] at h2
   obtain ⟨_,h3⟩:=az h2 ne
   exact fin (f:=fun id=> .slc id 0 s.length 1 s.length) h3
  |_=>cases h2
 |_=>cases hc
def Fr (h:NH):Prop:=∀i o,h.get i=some o->i.toNat<h.next.toNat
theorem Fr.add  (hf:Fr h) (o:NO):Fr (h.add o):=by
 intro i u hu
 show i.toNat<h.next.nxt.toNat
 rw[D4.toNat_nxt]
 by_cases e:i=h.next
 ·subst e;omega
 ·rw[NH.get_add_ne _ _ e] at hu;have:=hf i u hu;omega
theorem jS:∀(T:List Rec),∃T1 T2,T=T1++T2/\(∀r∈T1,¬r.isE)/\(∀r T',T2=r::T'->r.isE):=by
 intro T
 induction T with
 |nil=>exact ⟨[], [],rfl,by simp,fun r T' h=>by cases h⟩
 |cons r T ih=>
  by_cases h:r.isE
  ·exact ⟨[],r::T,rfl,by simp,fun r' T' e=>by cases e;exact h⟩
  ·obtain ⟨T1,T2,h1,h2,h3⟩:=ih
   exact ⟨r::T1,T2,by rw[h1];rfl,fun r' hr=>by
    rcases List.mem_cons.1 hr with rfl|hr
    ·exact h
    ·exact h2 r' hr,h3⟩
structure Skip (D D':Dyn) (T:List Rec):Prop where
 dfs:D'.dfs=D.dfs
 ctx:D'.ctx=D.ctx
 fresh:Fr D'.h
 next:D.h.next.toNat<=D'.h.next.toNat
 get:∀i,i.toNat<D.h.next.toNat->D'.h.get i=D.h.get i
 fr:∀r∈T,Fr r.h
 al:∀r∈T,∀v h,r.k= .alloc v h->D.h.next.toNat<=r.h.next.toNat/\r.h.next.toNat<D'.h.next.toNat/\D'.h.get r.h.next=h.get r.h.next
 dist:∀r∈T,∀r'∈T,∀v h v' h',r.k= .alloc v h->r'.k= .alloc v' h'->r.h.next=r'.h.next->r.o.idx=r'.o.idx
theorem ld:∀{T:List Rec} {D D':Dyn},Chain P S self rnd D T D'->(∀r∈T,¬r.isE)->Fr D.h->Skip D D' T:=by
 intro T
 induction T with
 |nil=>
  intro D D' h _ hf
  rw[dp h]
  exact ⟨rfl,rfl,hf,Nat.le_refl _,fun _ _=>rfl,by simp,by simp,by simp⟩
 |cons r T ih=>
  intro D D' h hn hf
  obtain ⟨rfl,hok,hc⟩:=bO h
  have hn':∀r∈T,¬r.isE:=fun x hx=>hn x (by simp[hx])
  have same:(∀v h,r.k≠.alloc v h)->r.nx.dfs=r.dfs->r.nx.ctx=r.ctx->r.nx.h=r.h->Skip r.st D' (r::T):=by
   intro hk e1 e2 e3
   have k:=ih hc hn' (by rw[e3];exact hf)
   refine ⟨k.dfs.trans e1,k.ctx.trans e2,k.fresh,by have:=k.next;rw[e3] at this;exact this,fun i hi=>by have:=k.get i (by rw[e3];exact hi);rw[e3] at this;exact this, ?_, ?_, ?_⟩
   ·intro x hx
    rcases List.mem_cons.1 hx with rfl|hx
    ·exact hf
    ·exact k.fr x hx
   ·intro x hx v h e
    rcases List.mem_cons.1 hx with rfl|hx'
    ·exact Fy e (hk _ _)
    ·have:=k.al x hx' v h e;rw[e3] at this;exact this
   ·intro x hx y hy v h v' h' ex ey
    rcases List.mem_cons.1 hx with rfl|hx'
    ·exact Fy ex (hk _ _)
    ·rcases List.mem_cons.1 hy with rfl|hy'
     ·exact Fy ey (hk _ _)
     ·exact k.dist x hx' y hy' v h v' h' ex ey
  cases hk:r.k with
  |off=>exact same (by simp[hk]) (by simp[Rec.nx,hk]) (by simp[Rec.nx,hk]) (by simp[Rec.nx,hk])
  |pure v=>exact same (by simp[hk]) (by simp[Rec.nx,hk]) (by simp[Rec.nx,hk]) (by simp[Rec.nx,hk])
  |read v=>exact same (by simp[hk]) (by simp[Rec.nx,hk]) (by simp[Rec.nx,hk]) (by simp[Rec.nx,hk])
  |eff v dfs ctx h=>exact Fy (show r.isE by unfold Rec.isE;rw[hk];trivial) (hn r (by simp))
  |alloc v h0=>
   have hok':aj r.t r.o.guard=some true/\ai r.o.op= .alloc/\ae r.o.op r.t r.h= .mem v h0:=by unfold Rec.ok at hok;rw[hk] at hok;exact hok
   obtain ⟨_,o2,o3⟩:=hok'
   obtain ⟨ob,rfl⟩:=um o2 o3
   have e1:r.nx.dfs=r.dfs:=by simp[Rec.nx,hk]
   have e2:r.nx.ctx=r.ctx:=by simp[Rec.nx,hk]
   have e3:r.nx.h=r.h.add ob:=by simp[Rec.nx,hk]
   have hf':Fr r.h:=hf
   have k:=ih hc hn' (by rw[e3];exact hf'.add ob)
   have kn:=k.next
   rw[e3] at kn
   have kn':r.h.next.nxt.toNat<=D'.h.next.toNat:=kn
   rw[D4.toNat_nxt] at kn'
   have hnx:(r.h.add ob).next.toNat=r.h.next.toNat+1:=D4.toNat_nxt _
   have kg:∀i,i.toNat<r.h.next.toNat+1->D'.h.get i=(r.h.add ob).get i:=fun i hi=>by
    have:=k.get i (by rw[e3,hnx];exact hi);rw[e3] at this;exact this
   have kal:∀x∈T,∀v h,x.k= .alloc v h->r.h.next.toNat+1<=x.h.next.toNat/\x.h.next.toNat<D'.h.next.toNat/\D'.h.get x.h.next=h.get x.h.next:=fun x hx v h e=>by
    have:=k.al x hx v h e;rw[e3,hnx] at this;exact this
   refine ⟨k.dfs.trans e1,k.ctx.trans e2,k.fresh,show r.h.next.toNat<=_ by omega,fun i hi=> ?_, ?_, ?_, ?_⟩
   ·have hi':i.toNat<r.h.next.toNat:=hi
    rw[kg i (by omega)]
    exact NH.get_add_ne _ _ (fun e=>by rw[e] at hi';omega)
   ·intro x hx
    rcases List.mem_cons.1 hx with rfl|hx
    ·exact hf
    ·exact k.fr x hx
   ·intro x hx v1 h1 e
    rcases List.mem_cons.1 hx with rfl|hx
    ·rw[hk] at e;cases e
     exact ⟨Nat.le_refl _,by omega,kg _ (by omega)⟩
    ·obtain ⟨a1,a2,a3⟩:=kal x hx v1 h1 e
     exact ⟨show r.h.next.toNat<=_ by omega,a2,a3⟩
   ·intro x hx y hy v1 h1 v2 h2 ex ey he
    rcases List.mem_cons.1 hx with rfl|hx'
    ·rcases List.mem_cons.1 hy with rfl|hy'
     ·rfl
     ·have:=(kal y hy' v2 h2 ey).1;rw[←he] at this;omega
    ·rcases List.mem_cons.1 hy with rfl|hy'
     ·have:=(kal x hx' v1 h1 ex).1;rw[he] at this;omega
     ·exact k.dist x hx' y hy' v1 h1 v2 h2 ex ey he
theorem sQ {n:NOp} (hc:ai n= .read) {t:Tm} {v:NV}:∀{T:List Rec} {D D':Dyn},Chain P S self rnd D T D'->(∀r∈T,Fr r.h)->ae n t D.h= .val v->
 (∀r∈T,∀u dfs ctx h,r.k= .eff u dfs ctx h->ae n t h= .val v)->ae n t D'.h= .val v:=by
 intro T
 induction T with
 |nil=>intro D D' h _ e _;rw[dp h];exact e
 |cons r T ih=>
  intro D D' h hf e he
  obtain ⟨rfl,hok,hch⟩:=bO h
  refine ih hch (fun x hx=>hf x (by simp[hx])) ?_ fun x hx=>he x (by simp[hx])
  cases hk:r.k with
  |off=>rw[show r.nx.h=r.h by simp[Rec.nx,hk]];exact e
  |pure u=>rw[show r.nx.h=r.h by simp[Rec.nx,hk]];exact e
  |read u=>rw[show r.nx.h=r.h by simp[Rec.nx,hk]];exact e
  |eff u dfs ctx h=>rw[show r.nx.h=h by simp[Rec.nx,hk]];exact he r (by simp) u dfs ctx h hk
  |alloc u h0=>
   have hok':aj r.t r.o.guard=some true/\ai r.o.op= .alloc/\ae r.o.op r.t r.h= .mem u h0:=by unfold Rec.ok at hok;rw[hk] at hok;exact hok
   obtain ⟨ob,rfl⟩:=um hok'.2.1 hok'.2.2
   rw[show r.nx.h=r.h.add ob by simp[Rec.nx,hk]]
   exact vn hc (iU.add (hf r (by simp)) ob) e
end chain
theorem Rel.lt_next  (r:Rel P ι B h w) {i:D4} (hi:ι i=some p):i.toNat<h.next.toNat:=by
 obtain ⟨o,h1,_⟩:=r.obj i p hi;exact r.fresh i o h1
theorem Rel.more  {h':NH} (r:Rel P ι B h w) (hg:∀i,i.toNat<h.next.toNat->h'.get i=h.get i) (hf:Fr h'):Rel P ι B h' w where
 obj:=fun i p hi=>by rw[hg i (r.lt_next hi)];exact r.obj i p hi
 inj:=fun i j p q hi hj hij d1 d2=>r.inj i j p q hi hj hij (by rw[←hg i (r.lt_next hi)];exact d1) (by rw[←hg j (r.lt_next hj)];exact d2)
 base:=fun i p hi d=>r.base i p hi (by rw[←hg i (r.lt_next hi)];exact d)
 lt:=r.lt
 fresh:=hf
theorem Grow.more  {ι0:aH} {h0 h':NH} {w0:World} (g:Grow ι0 h0 w0 ι h w) (r:Rel P ι B h w) (hn:h.next.toNat<=h'.next.toNat) (hg:∀i,i.toNat<h.next.toNat->h'.get i=h.get i):Grow ι0 h0 w0 ι h' w where
 le:=g.le
 next:=Nat.le_trans g.next hn
 new:=g.new
 blk:=fun i p hi d=>g.blk i p hi (by rw[←hg i (r.lt_next hi)];exact d)
 keep:=fun i hi hl=>by rw[hg i (Nat.lt_of_lt_of_le hl g.next)];exact g.keep i hi hl
 size:=g.size
 os:=g.os
 tape:=g.tape
 output:=g.output
 frame:=g.frame
def aH.set (ι:aH) (n:D4) (p:Pl):aH:=fun i=>if i.toNat=n.toNat then some p else ι i
theorem aH.set_same (ι:aH) (n:D4) (p:Pl):ι.set n p n=some p:=FA rfl
theorem aH.set_ne (ι:aH) {i:D4} (p:Pl) (h:i≠n):ι.set n p i=ι i:=Fz fun e=>h (D4.toNat_inj e)
theorem aH.set_le  (hn:ι n=none):ι.le (ι.set n p):=fun i q hi=>by
 rw[aH.set_ne _ _ (fun e=>by rw[e,hn] at hi;cases hi)];exact hi
theorem aH.set_cases  {i:D4} {q:Pl} (h:ι.set n p i=some q):(i=n/\q=p)∨(i≠n/\ι i=some q):=by
 by_cases e:i=n
 ·subst e;rw[aH.set_same] at h;exact .inl ⟨rfl,(Option.some.inj h).symm⟩
 ·rw[aH.set_ne _ _ e] at h;exact .inr ⟨e,h⟩
theorem Rel.at  (r:Rel P ι B h w) (hB:B<=w.heap.size) {o:NO} (hn:ι n=none) (hg:h.get n=some o) {O:Obj} (hp:p.b=w.heap.size)
 (ho:∀ι',ι.le ι'->OR P ι' (w.alloc O) p o):Rel P (ι.set n p) B h (w.alloc O):=by
 have hle:ι.le (ι.set n p):=aH.set_le hn
 refine ⟨?_, ?_, ?_, ?_,r.fresh⟩
 ·intro i q hi
  rcases aH.set_cases hi with ⟨rfl,rfl⟩|⟨hne',hi⟩
  ·exact ⟨o,hg,ho _ hle⟩
  ·obtain ⟨u,h1,h2⟩:=r.obj i q hi
   exact ⟨u,h1,h2.mono hle (fw w O _ (r.lt i q hi))⟩
 ·intro i j q1 q2 hi hj hij d1 d2
  rcases aH.set_cases hi with ⟨e1,e2⟩|⟨h1,hi'⟩
  ·rcases aH.set_cases hj with ⟨e3,e4⟩|⟨h2,hj'⟩
   ·exact Fy (e1.trans e3.symm) hij
   ·have:=r.lt j q2 hj';rw[e2];omega
  ·rcases aH.set_cases hj with ⟨e3,e4⟩|⟨h2,hj'⟩
   ·have:=r.lt i q1 hi';rw[e4];omega
   ·exact r.inj i j q1 q2 hi' hj' hij d1 d2
 ·intro i q hi d
  rcases aH.set_cases hi with ⟨rfl,rfl⟩|⟨h1,hi⟩
  ·omega
  ·exact r.base i q hi d
 ·intro i q hi
  rcases aH.set_cases hi with ⟨rfl,rfl⟩|⟨h1,hi⟩
  ·simp;omega
  ·have:=r.lt i q hi;simp;omega
theorem Grow.at  {ι0:aH} {h0:NH} {w0:World} (g:Grow ι0 h0 w0 ι h w) (hn:ι n=none) (h1:h0.next.toNat<=n.toNat) {O:Obj} (hp:p.b=w.heap.size):Grow ι0 h0 w0 (ι.set n p) h (w.alloc O) where
 le:=g.le.trans (aH.set_le hn)
 next:=g.next
 new:=fun i q hi=>by
  rcases aH.set_cases hi with ⟨rfl,rfl⟩|⟨_,hi⟩
  ·exact .inr h1
  ·exact g.new i q hi
 blk:=fun i q hi d=>by
  rcases aH.set_cases hi with ⟨rfl,rfl⟩|⟨_,hi⟩
  ·have:=g.size;exact .inl (by omega)
  ·exact g.blk i q hi d
 keep:=g.keep
 size:=by have:=g.size;simp;omega
 os:=g.os
 tape:=g.tape
 output:=g.output
 frame:=fun k hk hq=>by
  rw[fw w O k (Nat.lt_of_lt_of_le hk g.size)];exact g.frame k hk hq
end Nm
namespace Nm
open Go
variable {o:Oper} {l:List NOpd} {A:List Rec} {no:NOper} {rest:List NOper} {D1:Dyn}
noncomputable def ed (l:List NOpd) (t:Tm):Tm:=match l with
 | []=> .leaf
 | .tmp d::l=>match NT.get d t with|some v=>NT.put d v (ed l t)|none=>ed l t
 | .const _::l=>ed l t
theorem mZ  {t:Tm} {k:D4} {v:NV} (h:NT.get k (ed l t)=some v):NOpd.tmp k∈l/\NT.get k t=some v:=by
 induction l with
 |nil=>rw[show ed [] t= .leaf from rfl,NT.get_leaf] at h;cases h
 |cons x l ih=>
  cases x with
  |const u=>obtain ⟨h1,h2⟩:=ih h;exact ⟨by simp[h1],h2⟩
  |tmp d=>
   have h':NT.get k (match NT.get d t with|some v=>NT.put d v (ed l t)|none=>ed l t)=some v:=h
   cases hd:NT.get d t with
   |none=>rw[hd] at h';obtain ⟨h1,h2⟩:=ih h';exact ⟨by simp[h1],h2⟩
   |some u=>
    rw[hd] at h'
    dsimp only at h'
    by_cases e:k=d
    ·subst e;rw[NT.get_put_same] at h';exact ⟨by simp,by rw[hd];exact h'⟩
    ·rw[NT.get_put_ne e] at h';obtain ⟨h1,h2⟩:=ih h';exact ⟨by simp[h1],h2⟩
theorem vy  {t:Tm} {k:D4} (h:NOpd.tmp k∈l):NT.get k (ed l t)=NT.get k t:=by
 induction l with
 |nil=>cases h
 |cons x l ih=>
  cases x with
  |const u=>rcases List.mem_cons.1 h with h|h;cases h;exact ih h
  |tmp d=>
   show NT.get k (match NT.get d t with|some v=>NT.put d v (ed l t)|none=>ed l t)=_
   by_cases e:k=d
   ·subst e
    cases hd:NT.get k t with
    |some u=>exact NT.get_put_same _ _ _
    |none=>
     dsimp only
     cases hk:NT.get k (ed l t) with
     |none=>rfl
     |some v=>have:=(mZ hk).2;rw[hd] at this;cases this
   ·have hl:NOpd.tmp k∈l:=by
     rcases List.mem_cons.1 h with h|h
     ·injection h with h;exact Fy h e
     ·exact h
    cases hd:NT.get d t with
    |none=>exact ih hl
    |some u=>dsimp only;rw[NT.get_put_ne e];exact ih hl
theorem tP  {t:Tm}:∀x∈l,ρ (ed l t) x=ρ t x:=by
 intro x hx
 cases x with
 |const v=>rfl
 |tmp d=>exact vy hx
structure Inv (P:Program) (S:Nat->List NV->Option NV) (go:Option D4->NC->Dyn->Res) (rnd:Option D4) (B:Nat) (b:Frame) (ops:Array Oper) (d0 dE:Dyn) (R:List Rec) (ι0:aH) (cs0:List Frame) (w0:World) (size:Nat)
 (X:Nat->Prop) (R1 R2:List Rec) (D:Dyn) (ι:aH) (a:Act) (cs:List Frame) (w:World):Prop where
 down:∀i,X i->b8 ops X i
 inR:∀i,X i->∃r∈R,r.o.idx=i
 split:R=R1++R2
 c1:Chain P S go rnd d0 R1 D
 c2:Chain P S go rnd D R2 dE
 effs:∀r∈R1,r.isE->X r.o.idx
 head:∀r R2',R2=r::R2'->r.isE/\¬X r.o.idx
 mv:Mv P B rnd b ι0 d0.ctx d0.h cs0 w0 ι D.dfs D.ctx D.h a.defers cs w
 pend:∀r∈R1,∀v h,r.k= .alloc v h->¬X r.o.idx->ι r.h.next=none/\D.h.get r.h.next=h.get r.h.next/\r.h.next.toNat<D.h.next.toNat/\d0.h.next.toNat<=r.h.next.toNat
 dist:∀r∈R1,∀r'∈R1,∀v h v' h',r.k= .alloc v h->r'.k= .alloc v' h'->¬X r.o.idx->¬X r'.o.idx->r.h.next=r'.h.next->r.o.idx=r'.o.idx
 fr:∀r∈R1,Fr r.h
 tw:∀r∈R,X r.o.idx->∀t,r.o.dst=some (D4.of t)->∃v',a.tmps[t]? =some v'/\VR ι r.val v'
 ti:∀k,(∀r∈R,X r.o.idx->r.o.dst≠some (D4.of k))->∀v,NT.get (D4.of k) d0.t=some v->∃v',a.tmps[k]? =some v'/\VR ι v v'
 size:a.tmps.size=size
section
variable {P:Program} {S:Nat->List NV->Option NV} {self:Option D4->NC->Dyn->Res} {rnd:Option D4} {B:Nat} {b:Frame} {k:List Item} {ops:Array Oper} {fn:Func} {l:List NOper}
 {d0 dE:Dyn} {R:List Rec} {ι0:aH} {cs0:List Frame} {w0:World} {size:Nat} {X:Nat->Prop} {R1 R2:List Rec} {D:Dyn} {ι:aH} {a:Act} {cs:List Frame} {w:World}
theorem uD (hL:Lay P ops l) {x y:NOper} (hx:x∈l) (hy:y∈l) (h:x.idx=y.idx):x=y:=by
 have hn:=hL.nodup
 clear hL
 induction l with
 |nil=>cases hx
 |cons z l ih=>
  rw[List.map_cons,List.nodup_cons] at hn
  rcases List.mem_cons.1 hx with rfl|hx'
  ·rcases List.mem_cons.1 hy with rfl|hy'
   ·rfl
   ·exact Fy (List.mem_map.2 ⟨y,hy',h.symm⟩) hn.1
  ·rcases List.mem_cons.1 hy with rfl|hy'
   ·exact Fy (List.mem_map.2 ⟨x,by assumption,h⟩) hn.1
   ·exact ih (by assumption) hy' hn.2
theorem ft (hL:Lay P ops l) {A C:List NOper} {x:NOper} (h:l=A++x::C) {y:NOper} (hy:y∈C) {z:NOper} (hz:z∈A++ [x]):z.idx≠y.idx:=by
 intro e
 have hn:=hL.nodup
 rw[h,show A++x::C=(A++ [x])++C by simp,List.map_append,List.nodup_append] at hn
 exact hn.2.2 z.idx (List.mem_map.2 ⟨z,hz,rfl⟩) y.idx (List.mem_map.2 ⟨y,hy,rfl⟩) e
theorem jP (hr:RegOK P fn ops) (hd:∀i,X i->b8 ops X i) {i:Nat} (ho:ops[i]? =some o) (he:b8 ops X i) {j:Nat} (hj:(nV ops i).testBit j=true):X j:=
 zU hr hd i o ho he j hj
theorem known (hr:RegOK P fn ops) (hL:Lay P ops l) (hRl:∀r∈R,r.o∈l) (I:Inv P S self rnd B b ops d0 dE R ι0 cs0 w0 size X R1 R2 D ι a cs w) (hl:l=A.map (·.o)++no::rest) (hA:∀r∈A,r∈R) (hc:Chain P S self rnd d0 A D1) (ho:ops[no.idx]? =some o) (hE:b8 ops X no.idx) (hnX:¬X no.idx)
 {t:Nat} (ht:∀j oj,ops[j]? =some oj->oj.dst=some t->j=no.idx∨(nV ops (max j no.idx)).testBit (min j no.idx)=true) {v:NV} (hv:NT.get (D4.of t) D1.t=some v):∃v',a.tmps[t]? =some v'/\VR ι v v':=by
 have hno:no∈l:=by rw[hl];simp
 have hord:∀x∈l,x.dst=some (D4.of t)->x.idx≠no.idx->(nV ops no.idx).testBit x.idx=true∨(nV ops x.idx).testBit no.idx=true:=by
  intro x hx hd hne
  obtain ⟨ox,m1,m2,_⟩:=hL.mem x hx
  rw[m2] at hd
  have hox:ox.dst=some t:=by
   cases h:ox.dst with
   |none=>rw[h] at hd;cases hd
   |some u=>rw[h] at hd;injection hd with hd;rw[D4.of_inj hd]
  rcases ht x.idx ox m1 hox with h|h
  ·exact Fy h hne
  ·rcases Nat.lt_or_ge x.idx no.idx with hlt|hge
   ·rw[Nat.max_eq_right (by omega),Nat.min_eq_left (by omega)] at h;exact .inl h
   ·rw[Nat.max_eq_left (by omega),Nat.min_eq_right (by omega)] at h;exact .inr h
 by_cases hw:∃r∈A,r.o.dst=some (D4.of t)
 ·obtain ⟨r,hrA,hrd⟩:=hw
  obtain ⟨A1,A2,rfl⟩:=List.append_of_mem hrA
  have hrl:r.o∈l:=hRl r (hA r hrA)
  have hne:r.o.idx≠no.idx:=by
   intro e
   have hl':l=A1.map (·.o)++r.o::(A2.map (·.o)++no::rest):=by rw[hl];simp
   exact ft hL hl' (y:=no) (by simp) (z:=r.o) (by simp) e
  have honly:∀x∈A2,x.o.dst≠some (D4.of t):=by
   intro x hx hd
   have hxl:x.o∈l:=hRl x (hA x (by simp[hx]))
   obtain ⟨o1,m1,m2,_⟩:=hL.mem r.o hrl
   obtain ⟨o2,n1,n2,_⟩:=hL.mem x.o hxl
   have f:∀{q:Option Nat},q.map D4.of=some (D4.of t)->q=some t:=by
    intro q hq
    cases q with
    |none=>cases hq
    |some u=>injection hq with hq;rw[D4.of_inj hq]
   have he:=hL.once r.o.idx x.o.idx o1 o2 t m1 n1 (f (by rw[←m2];exact hrd)) (f (by rw[←n2];exact hd))
   have hl':l=A1.map (·.o)++r.o::(A2.map (·.o)++no::rest):=by rw[hl];simp
   exact ft hL hl' (y:=x.o) (by simp;exact .inl ⟨x,hx,rfl⟩) (z:=r.o) (by simp) he
  rw[jq hc hrd honly] at hv
  cases hv
  rcases hord r.o hrl hrd hne with h|h
  ·exact I.tw r (hA r hrA) (jP hr I.down ho hE h) t hrd
  ·exfalso
   have hl':l=A1.map (·.o)++r.o::(A2.map (·.o)++no::rest):=by rw[hl];simp
   obtain ⟨_,_,_,_,_,hp⟩:=hL.mem r.o hrl
   obtain ⟨o',h1,h2⟩:=hL.pre _ _ _ hl' no.idx (by rw[hp];exact h)
   exact ft hL hl' (y:=no) (by simp) (z:=o') (by simp at h1 ⊢;exact .inl h1) h2
 ·rw[ej hc (fun x hx hd=>hw ⟨x,hx,hd⟩)] at hv
  refine I.ti t (fun x hx hX hd=> ?_) v hv
  have hxl:x.o∈l:=hRl x hx
  have hne:x.o.idx≠no.idx:=fun e=>hnX (e▸hX)
  have hxnA:x∉A:=fun h=>hw ⟨x,h,hd⟩
  rcases hord x.o hxl hd hne with h|h
  ·obtain ⟨_,_,_,_,_,hp⟩:=hL.mem no hno
   obtain ⟨o',h1,h2⟩:=hL.pre _ _ _ hl x.o.idx (by rw[hp];exact h)
   have ho'l:o'∈l:=by rw[hl];simp only[List.mem_append];exact .inl h1
   have:=uD hL ho'l hxl h2
   subst this
   obtain ⟨r',hr',he⟩:=List.mem_map.1 h1
   exact hw ⟨r',hr',by rw[he];exact hd⟩
  ·obtain ⟨ox,m1,_⟩:=hL.mem x.o hxl
   exact hnX (jP hr I.down m1 (I.down _ hX) h)
theorem d5 (hr:RegOK P fn ops) (hL:Lay P ops l) (hRl:∀r∈R,r.o∈l) (I:Inv P S self rnd B b ops d0 dE R ι0 cs0 w0 size X R1 R2 D ι a cs w) (hl:l=A.map (·.o)++no::rest) (hA:∀r∈A,r∈R) (hc:Chain P S self rnd d0 A D1) (ho:ops[no.idx]? =some o) (hE:b8 ops X no.idx) (hnX:¬X no.idx)
 (hcp:ah P o.op=some no.op):TR ι (ed (opsOf no.op) D1.t) a.tmps:=by
 intro t v hv
 obtain ⟨h1,h2⟩:=mZ hv
 have hop:=vC hcp h1
 refine known hr hL hRl I hl hA hc ho hE hnX (t:=t) (fun j oj hj hd=> ?_) h2
 rcases xR hr.tmps hj ho hd hop with h|h
 ·exact .inl h
 ·exact .inr h
theorem iC (hr:RegOK P fn ops) (hL:Lay P ops l) (hRl:∀r∈R,r.o∈l) (I:Inv P S self rnd B b ops d0 dE R ι0 cs0 w0 size X R1 R2 D ι a cs w) (hl:l=A.map (·.o)++no::rest) (hA:∀r∈A,r∈R) (hc:Chain P S self rnd d0 A D1) (ho:ops[no.idx]? =some o) (hE:b8 ops X no.idx) (hnX:¬X no.idx)
 (hG:jD ops o.guard no.guard) {on:Bool} (h:aj D1.t no.guard=some on):Region.wanted o (yielded ops a.tmps)=on:=by
 refine iM hG (ι:=ι) (fun t c hg v hv=> ?_) h
 cases hog:o.guard with
 |none=>rw[hog,hg] at hG;exact hG.elim
 |some jb=>
  obtain ⟨j,bb⟩:=jb
  rw[hog,hg] at hG
  obtain ⟨_,u,hu,hk⟩:=hG
  have:=D4.of_inj hk
  subst this
  obtain ⟨⟨e,he1,he2,he3⟩,_⟩:=hr.guard _ o j bb ho hog
  have hXj:X j:=by rw[←he2];exact hE o ho e he1 he3
  have hjd:∃oj,ops[j]? =some oj/\oj.dst=some t:=by
   unfold mK at hu
   split at hu
   ·rename_i oj hoj;exact ⟨oj,hoj,hu⟩
   ·cases hu
  obtain ⟨oj,hoj,hjt⟩:=hjd
  obtain ⟨r,hrR,hri⟩:=I.inR j hXj
  have hrd:r.o.dst=some (D4.of t):=by
   obtain ⟨o2,m1,m2,_⟩:=hL.mem r.o (hRl r hrR)
   rw[hri,hoj] at m1;cases m1
   rw[m2,hjt];rfl
  have hjb:(nV ops no.idx).testBit j=true:=by
   unfold nV
   rw[io]
   obtain ⟨acc,h1,h2,h3⟩:=gY (fun acc (o:Oper)=>o.after.foldl (fun s e=>if Region.binds .any e then s|||2 ^ e.on|||acc.getD e.on 0 else s) 0) ops.toList no.idx o (by simpa using ho)
   rw[Array.getD_eq_getD_getElem?,h1]
   simp only[Option.getD_some]
   rw[←Array.foldl_toList]
   have hfold:∀(L:List Edge) (s:Nat),(e∈L∨s.testBit j=true)->(L.foldl (fun s e=>if Region.binds .any e then s|||2 ^ e.on|||acc.getD e.on 0 else s) s).testBit j=true:=by
    intro L
    induction L with
    |nil=>intro s h;rcases h with h|h;cases h;exact h
    |cons x L ih=>
     intro s h
     rw[List.foldl_cons]
     refine ih _ ?_
     rcases h with h|h
     ·rcases List.mem_cons.1 h with h|h
      ·right;rw[←h,FA he3,Nat.testBit_or,Nat.testBit_or,he2,Nat.testBit_two_pow];simp
      ·exact .inl h
     ·right
      split
      ·rw[Nat.testBit_or,Nat.testBit_or,h];rfl
      ·exact h
   exact hfold _ 0 (.inl he1)
  refine known hr hL hRl I hl hA hc ho hE hnX (t:=t) (fun j' oj' hj' hd'=> ?_) hv
  have:=hL.once j' j oj' oj t hj' hoj hd' hjt
  subst this
  right
  have hlt:=hr.edge no.idx o e ho he1 he3
  rw[he2] at hlt
  rw[Nat.max_eq_right (by omega),Nat.min_eq_left (by omega)]
  exact hjb
theorem ic (hL:Lay P ops l) (hRl:∀r∈R,r.o∈l) {ι':aH} (hle:ι.le ι') {r:Rec} (hr:r∈R) (ho:ops[r.o.idx]? =some o) {v':Value} (hv:VR ι' r.val v') (hb:∀d,o.dst=some d->d<a.tmps.size)
 (tw:∀r∈R,X r.o.idx->∀t,r.o.dst=some (D4.of t)->∃v',a.tmps[t]? =some v'/\VR ι r.val v')
 (ti:∀k,(∀r∈R,X r.o.idx->r.o.dst≠some (D4.of k))->∀v,NT.get (D4.of k) d0.t=some v->∃v',a.tmps[k]? =some v'/\VR ι v v')
 (hRR:∀x∈R,x.o.idx=r.o.idx->x=r):
 (∀x∈R,(X x.o.idx∨x.o.idx=r.o.idx)->∀t,x.o.dst=some (D4.of t)->∃v'',(a.put o.dst v').tmps[t]? =some v''/\VR ι' x.val v'')/\
 (∀k,(∀x∈R,(X x.o.idx∨x.o.idx=r.o.idx)->x.o.dst≠some (D4.of k))->∀v,NT.get (D4.of k) d0.t=some v->∃v'',(a.put o.dst v').tmps[k]? =some v''/\VR ι' v v''):=by
 have hod:r.o.dst=o.dst.map D4.of:=by
  obtain ⟨o2,m1,m2,_⟩:=hL.mem r.o (hRl r hr);rw[ho] at m1;cases m1;exact m2
 have hput:∀t,o.dst≠some t->(a.put o.dst v').tmps[t]? =a.tmps[t]? :=by
  intro t ht
  cases hd:o.dst with
  |none=>rfl
  |some d=>
   show (a.tmps.setIfInBounds d v')[t]? =_
   rw[Array.getElem?_setIfInBounds_ne (fun e=>ht (by rw[hd,e]))]
 have hown:∀t,o.dst=some t->(a.put o.dst v').tmps[t]? =some v':=by
  intro t ht
  have:=hb t ht
  rw[ht]
  show (a.tmps.setIfInBounds t v')[t]? =_
  simp[this]
 constructor
 ·intro x hx hX t ht
  by_cases he:x.o.idx=r.o.idx
  ·have:=hRR x hx he
   subst this
   have hot:o.dst=some t:=by
    rw[hod] at ht
    cases h:o.dst with
    |none=>rw[h] at ht;cases ht
    |some u=>rw[h] at ht;injection ht with ht;rw[D4.of_inj ht]
   exact ⟨v',hown t hot,hv⟩
  ·have hX':X x.o.idx:=hX.resolve_right he
   obtain ⟨u,h1,h2⟩:=tw x hx hX' t ht
   refine ⟨u, ?_,h2.mono hle⟩
   rw[hput t ?_];exact h1
   intro hot
   obtain ⟨o2,m1,m2,_⟩:=hL.mem x.o (hRl x hx)
   have:o2.dst=some t:=by
    rw[m2] at ht
    cases h:o2.dst with
    |none=>rw[h] at ht;cases ht
    |some u=>rw[h] at ht;injection ht with ht;rw[D4.of_inj ht]
   exact he (hL.once _ _ o2 o t m1 ho this hot)
 ·intro t hn v hv0
  obtain ⟨u,h1,h2⟩:=ti t (fun x hx hX=>hn x hx (.inl hX)) v hv0
  refine ⟨u, ?_,h2.mono hle⟩
  rw[hput t ?_];exact h1
  intro hot
  exact hn r hr (.inr rfl) (by rw[hod,hot];rfl)
end
end Nm
namespace Nm
open Go
section
variable {P:Program} {S:Nat->List NV->Option NV} {self:Option D4->NC->Dyn->Res} {rnd:Option D4} {B:Nat} {b:Frame} {k:List Item} {ops:Array Oper} {fn:Func} {l:List NOper}
 {d0 dE:Dyn} {R:List Rec} {ι0:aH} {cs0:List Frame} {w0:World} {size:Nat} {X:Nat->Prop} {R1 R2:List Rec} {D:Dyn} {ι:aH} {a:Act} {cs:List Frame} {w:World}
theorem Mv.more {ctx:Option NV} {h:NH} {dfs':List Dfr} {ctx':Option NV} {h' h'':NH} {ds':List Deferred} {cs':List Frame} {w':World} (m:Mv P B rnd b ι0 ctx h cs0 w0 ι dfs' ctx' h' ds' cs' w') (hn:h'.next.toNat<=h''.next.toNat)
 (hg:∀i,i.toNat<h'.next.toNat->h''.get i=h'.get i) (hf:Fr h''):Mv P B rnd b ι0 ctx h cs0 w0 ι dfs' ctx' h'' ds' cs' w':=
 ⟨⟨m.sd.df,m.sd.cx,m.sd.rel.more hg hf,m.sd.base,m.sd.rn⟩,m.gr.more m.sd.rel hn hg,m.ca⟩
theorem sb {op:Op} {n:NOp} (hc:ah P op=some n) (hcl:ai n≠.eff):∀c,op≠.defer c:=by
 rintro ⟨callee,args,ats⟩ rfl
 cases callee with
 |value f=>
  replace hc:dM f args.toList=some n:=hc
  unfold dM at hc
  split at hc
  ·cases hc;exact hcl rfl
  ·cases hc
 |builtin b=>have hc:(none:Option NOp)=some n:=hc;cases hc
 |invoke r m=>have hc:(none:Option NOp)=some n:=hc;cases hc
theorem qd {i:Nat} {rest:List Nat} {o:Oper} {n:NOp} (ho:ops[i]? =some o) (hw:Region.wanted o (yielded ops a.tmps)=true) (hc:ah P o.op=some n) (hcl:ai n= .alloc) {v':Value} {w':World}
 (h1:(execOp a.eval o).run P w= .ok (.value v') w'):
 Steps P (lone (b.atR a (.inRegion ops (i::rest)::k)) cs w) (lone (b.atR (a.put o.dst v') (.inRegion ops rest::k)) cs w'):=by
 have hg:=stepGR_op (P:=P) (b:=b) (k:=k) (cs:=cs) (w:=w) (rest:=rest) ho hw
 have hfin:∀v,(b.atR a (.inRegion ops (i::rest)::k)).finish v=b.atR (a.put o.dst v) (.inRegion ops rest::k):=by
  intro v;rw[Frame.finish_atR,ho];rfl
 rw[cU (.inr (sb hc (by rw[hcl];simp)))] at hg
 refine .one (step_lone_go ?_)
 rw[hg,←hfin];simp[stepG.apply,h1]
theorem t7 (hC:CallsOK P S self) (hr:RegOK P fn ops) (hL:Lay P ops l) {rest0:List NOper} (hl:l=R.map (·.o)++rest0) (hQ:R.Pairwise QQ) (hsz:fn.ntmps<=size)
 (I:Inv P S self rnd B b ops d0 dE R ι0 cs0 w0 size X R1 R2 D ι a cs w) {r:Rec} (hrR:r∈R) (hE:b8 ops X r.o.idx) (hnX:¬X r.o.idx) (rest:List Nat):
 ∃R1' R2' D' ι' a' cs' w',Steps P (lone (b.atR a (.inRegion ops (r.o.idx::rest)::k)) cs w) (lone (b.atR a' (.inRegion ops rest::k)) cs' w')/\
  Inv P S self rnd B b ops d0 dE R ι0 cs0 w0 size (fun j=>X j∨j=r.o.idx) R1' R2' D' ι' a' cs' w':=by
 have hRl:∀x∈R,x.o∈l:=fun x hx=>by rw[hl];simp only[List.mem_append];exact .inl (List.mem_map.2 ⟨x,hx,rfl⟩)
 obtain ⟨A,C,hAC⟩:=List.append_of_mem hrR
 have hA:∀x∈A,x∈R:=fun x hx=>by rw[hAC];simp[hx]
 have hlr:l=A.map (·.o)++r.o::(C.map (·.o)++rest0):=by rw[hl,hAC];simp
 have hchain:Chain P S self rnd d0 (A++r::C) dE:=by rw[←hAC,I.split];exact kl I.c1 I.c2
 obtain ⟨Dr,hcA,hcr⟩:=cQ hchain
 obtain ⟨hDr,hok,hcC⟩:=bO hcr
 subst hDr
 obtain ⟨o,ho,hdst,hcp,hG,hpre⟩:=hL.mem r.o (hRl r hrR)
 have hbX:∀j,r.o.pre.testBit j=true->X j:=fun j hj=>jP hr I.down ho hE (by rw[←hpre];exact hj)
 have hRnd:(R.map (·.o.idx)).Nodup:=by
  have:=hL.nodup
  rw[hl,List.map_append,List.nodup_append] at this
  have h1:=this.1
  rw[List.map_map] at h1
  exact h1
 have hRR:∀x∈R,∀y∈R,x.o.idx=y.o.idx->x=y:=by
  clear hlr hA hcA hcr hcC hchain hok hAC hQ hl hrR hRl I
  intro x hx y hy he
  induction R with
  |nil=>cases hx
  |cons z R ih=>
   rw[List.map_cons,List.nodup_cons] at hRnd
   rcases List.mem_cons.1 hx with rfl|hx'
   ·rcases List.mem_cons.1 hy with rfl|hy'
    ·rfl
    ·exact Fy (List.mem_map.2 ⟨y,hy',he.symm⟩) hRnd.1
   ·rcases List.mem_cons.1 hy with rfl|hy'
    ·exact Fy (List.mem_map.2 ⟨x,hx',he⟩) hRnd.1
    ·exact ih hRnd.2 hx' hy'
 have hX':∀j,(X j∨j=r.o.idx)->b8 ops (fun j=>X j∨j=r.o.idx) j:=by
  intro j hj o' ho' e he hb
  rcases hj with hj|rfl
  ·exact .inl (I.down j hj o' ho' e he hb)
  ·exact .inl (hE o' ho' e he hb)
 have hinR:∀j,(X j∨j=r.o.idx)->∃x∈R,x.o.idx=j:=by
  rintro j (hj|rfl)
  ·exact I.inR j hj
  ·exact ⟨r,hrR,rfl⟩
 have hdb:∀d,o.dst=some d->d<a.tmps.size:=fun d hd=>by rw[I.size];exact Nat.lt_of_lt_of_le (hr.dst _ o d ho hd) hsz
 have hput:=fun {ι':aH} (hle:ι.le ι') {v':Value} (hv:VR ι' r.val v')=>ic hL hRl hle hrR ho hv hdb I.tw I.ti (fun x hx=>hRR x hx r hrR)
 have hguard:∀{on:Bool},aj r.t r.o.guard=some on->Region.wanted o (yielded ops a.tmps)=on:=fun h=>iC hr hL hRl I hlr hA hcA ho hE hnX hG h
 have hhead:∀h2 R2',R2=h2::R2'->r∈R2'->QQ h2 r:=by
  intro h2 R2' h2e hm
  have hp:=hQ
  rw[I.split,h2e,List.pairwise_append] at hp
  exact (List.pairwise_cons.1 hp.2.1).1 r hm
 have hnohead:∀h2 R2',R2=h2::R2'->r.o.pre.testBit h2.o.idx=false:=by
  intro h2 R2' h2e
  cases hb:r.o.pre.testBit h2.o.idx with
  |false=>rfl
  |true=>exact Fy (hbX _ hb) (I.head h2 R2' h2e).2
 have calm:∀{ι':aH} {a':Act} {cs':List Frame} {w':World} {v':Value} {ds:List Deferred},¬r.isE->(∀v h,r.k≠.alloc v h)->Mv P B rnd b ι D.ctx D.h cs w ι' D.dfs D.ctx D.h ds cs' w'->VR ι' r.val v'->a'=({a with defers:=ds}:Act).put o.dst v'->
  Inv P S self rnd B b ops d0 dE R ι0 cs0 w0 size (fun j=>X j∨j=r.o.idx) R1 R2 D ι' a' cs' w':=by
  intro ι' a' cs' w' v' ds hnE hnA mv hv he
  subst he
  have hpt:=ic (a:={a with defers:=ds}) hL hRl mv.gr.le hrR ho hv hdb I.tw I.ti (fun x hx=>hRR x hx r hrR)
  refine ⟨hX',hinR,I.split,I.c1,I.c2,fun x hx hxE=> .inl (I.effs x hx hxE),fun h2 R2' he=>⟨(I.head h2 R2' he).1, ?_⟩, ?_, ?_, ?_,I.fr,hpt.1,hpt.2, ?_⟩
  ·rintro (h|h)
   ·exact (I.head h2 R2' he).2 h
   ·have:h2=r:=hRR h2 (by rw[I.split,he];simp) r hrR h
    exact hnE (this▸(I.head h2 R2' he).1)
  ·rw[put_defers];exact I.mv.trans mv
  ·intro x hx v h e hn
   obtain ⟨p1,p2,p3,p4⟩:=I.pend x hx v h e (fun hX=>hn (.inl hX))
   refine ⟨?_,p2,p3,p4⟩
   cases hi:ι' x.h.next with
   |none=>rfl
   |some p=>
    rcases mv.gr.new _ _ hi with h|h
    ·rw[p1] at h;cases h
    ·omega
  ·exact fun x hx y hy v h v' h' e e' n n'=>I.dist x hx y hy v h v' h' e e' (fun hX=>n (.inl hX)) (fun hX=>n' (.inl hX))
  ·rw[dJ];exact I.size
 have hrun:∀h,ae r.o.op (ed (opsOf r.o.op) r.t) h=ae r.o.op r.t h:=fun h=>jX tP h
 cases hk:r.k with
 |off=>
  have hg:aj r.t r.o.guard=some false:=by unfold Rec.ok at hok;rw[hk] at hok;exact hok
  have hskip:=stepR_op_skip (P:=P) (b:=b) (a:=a) (k:=k) (cs:=cs) (w:=w) (ops:=ops) (i:=r.o.idx) (rest:=rest) (by simp[ho,hguard hg])
  simp only[ho,Option.bind_some] at hskip
  have hval:r.val=aA:=by simp[Rec.val,hk]
  exact ⟨R1,R2,D,ι,_,cs,w,.one hskip,calm (ds:=a.defers) (v':=undef) (by simp[Rec.isE,hk]) (by simp[hk]) (Mv.refl I.mv.sd) (by rw[hval];exact cn) rfl⟩
 |pure v=>
  have hok':aj r.t r.o.guard=some true/\ai r.o.op= .pure/\ae r.o.op r.t r.h= .val v:=by unfold Rec.ok at hok;rw[hk] at hok;exact hok
  obtain ⟨g1,g2,g3⟩:=hok'
  have hcp':ah P o.op=some r.o.op:=hcp.resolve_right fun e=>by rw[e] at g2;cases g2
  have hT:TR ι (ed (opsOf r.o.op) r.t) a.tmps:=d5 hr hL hRl I hlr hA hcA ho hE hnX hcp'
  have hx:=dH (S:=S) (self:=self) (k:=k) (rest:=rest) hC ho (hguard g1) hcp' (iH hT) I.mv.sd
  rw[hrun,sE g2 r.t D.h r.h,g3] at hx
  obtain ⟨v',ι1,ds1,cs1,w1,x1,x2,x3⟩:=hx
  have hval:r.val=v:=by simp[Rec.val,hk]
  exact ⟨R1,R2,D,ι1,_,cs1,w1,x1,calm (by simp[Rec.isE,hk]) (by simp[hk]) x3 (by rw[hval];exact x2) rfl⟩
 |read v=>
  have hok':aj r.t r.o.guard=some true/\ai r.o.op= .read/\ae r.o.op r.t r.h= .val v:=by unfold Rec.ok at hok;rw[hk] at hok;exact hok
  obtain ⟨g1,g2,g3⟩:=hok'
  have hcp':ah P o.op=some r.o.op:=hcp.resolve_right fun e=>by rw[e] at g2;cases g2
  have hT:TR ι (ed (opsOf r.o.op) r.t) a.tmps:=d5 hr hL hRl I hlr hA hcA ho hE hnX hcp'
  have hx:=dH (S:=S) (self:=self) (k:=k) (rest:=rest) hC ho (hguard g1) hcp' (iH hT) I.mv.sd
  have hval:r.val=v:=by simp[Rec.val,hk]
  have hread:ae r.o.op r.t D.h= .val v:=by
   have hm:r∈R1∨r∈R2:=by have:=hrR;rw[I.split] at this;exact List.mem_append.1 this
   rcases hm with hm|hm
   ·obtain ⟨E1,E2,hE12⟩:=List.append_of_mem hm
    have hc1:=I.c1
    rw[hE12] at hc1
    obtain ⟨Dm,_,hc2⟩:=cQ hc1
    obtain ⟨hDm,_,hc3⟩:=bO hc2
    refine sQ g2 hc3 (fun x hx=>I.fr x (by rw[hE12];simp[hx])) ?_ ?_
    ·rw[show r.nx.h=r.h by simp[Rec.nx,hk]];exact g3
    ·intro x hx u dfs ctx h e
     have hxR1:x∈R1:=by rw[hE12];simp[hx]
     have hXx:X x.o.idx:=I.effs x hxR1 (by unfold Rec.isE;rw[e];trivial)
     have hqq:QQ r x:=by
      have hp:=hQ
      rw[I.split,hE12,List.append_assoc,List.pairwise_append] at hp
      exact (List.pairwise_cons.1 hp.2.1).1 x (by simp[hx])
     unfold QQ at hqq
     rw[hk] at hqq
     unfold QR at hqq
     rw[e] at hqq
     refine hqq ?_
     cases hb:x.o.pre.testBit r.o.idx with
     |false=>rfl
     |true=>
      obtain ⟨ox,m1,_,_,_,mp⟩:=hL.mem x.o (hRl x (by rw[I.split];simp[hxR1]))
      exact Fy (jP hr I.down m1 (I.down _ hXx) (by rw[←mp];exact hb)) hnX
   ·cases hR2:R2 with
    |nil=>rw[hR2] at hm;cases hm
    |cons h2 R2'=>
     have hhd:=I.head h2 R2' hR2
     have hDh:D=h2.st:=by have:=I.c2;rw[hR2] at this;exact (bO this).1
     rw[hR2] at hm
     rcases List.mem_cons.1 hm with rfl|hm'
     ·have:=hhd.1;simp[Rec.isE,hk] at this
     ·have hqq:=hhead h2 R2' hR2 hm'
      unfold QQ at hqq
      have hisE:=hhd.1
      unfold Rec.isE at hisE
      split at hqq
      ·unfold QE at hqq
       rw[hk] at hqq
       rw[hDh]
       exact hqq (hnohead h2 R2' hR2)
      ·rename_i e;rw[e] at hisE;exact hisE.elim
      ·rename_i hno _
       split at hisE
       ·rename_i e;exact Fy e (hno _ _ _ _)
       ·exact hisE.elim
  rw[hrun,hread] at hx
  obtain ⟨v',ι1,ds1,cs1,w1,x1,x2,x3⟩:=hx
  exact ⟨R1,R2,D,ι1,_,cs1,w1,x1,calm (by simp[Rec.isE,hk]) (by simp[hk]) x3 (by rw[hval];exact x2) rfl⟩
 |alloc v h=>
  have hok':aj r.t r.o.guard=some true/\ai r.o.op= .alloc/\ae r.o.op r.t r.h= .mem v h:=by unfold Rec.ok at hok;rw[hk] at hok;exact hok
  obtain ⟨g1,g2,g3⟩:=hok'
  have hcp':ah P o.op=some r.o.op:=hcp.resolve_right fun e=>by rw[e] at g2;cases g2
  have hT:TR ι (ed (opsOf r.o.op) r.t) a.tmps:=d5 hr hL hRl I hlr hA hcA ho hE hnX hcp'
  have hm:r∈R1:=by
   have hm:r∈R1∨r∈R2:=by have:=hrR;rw[I.split] at this;exact List.mem_append.1 this
   rcases hm with hm|hm
   ·exact hm
   ·exfalso
    cases hR2:R2 with
    |nil=>rw[hR2] at hm;cases hm
    |cons h2 R2'=>
     have hhd:=I.head h2 R2' hR2
     rw[hR2] at hm
     rcases List.mem_cons.1 hm with rfl|hm'
     ·have:=hhd.1;simp[Rec.isE,hk] at this
     ·have hqq:=hhead h2 R2' hR2 hm'
      have hisE:=hhd.1
      unfold Rec.isE at hisE
      unfold QQ at hqq
      split at hqq
      ·unfold QE at hqq
       rw[hk] at hqq
       rw[hnohead h2 R2' hR2] at hqq;cases hqq
      ·rename_i e;rw[e] at hisE;exact hisE.elim
      ·rename_i hno _
       split at hisE
       ·rename_i e;exact Fy e (hno _ _ _ _)
       ·exact hisE.elim
  obtain ⟨p1,p2,p3,p4⟩:=I.pend r hm v h hk hnX
  obtain ⟨ob,V,hAl⟩:=nC (P:=P) (ι:=ι) (w:=w) (t:=ed (opsOf r.o.op) r.t) (e:=a.eval) (h0:=r.h) hcp' (iH hT) g2 (by rw[hrun,g3];simp)
  have hv0:=hAl.all r.h
  rw[hrun,g3] at hv0
  injection hv0 with hv1 hv2
  obtain ⟨v',w1,O,p,hw1,hres,hpb,hOR,hVR⟩:=hAl.real
  have hstep:=qd (b:=b) (k:=k) (cs:=cs) (rest:=rest) ho (hguard g1) hcp' g2 hres
  have hn:ι r.h.next=none:=p1
  have hget:D.h.get r.h.next=some ob:=by rw[p2,hv2];exact NH.get_add_same _ _
  have hrel1:Rel P ι B D.h w1:=by rcases hw1 with rfl|rfl;exact I.mv.sd.rel;exact I.mv.sd.rel.drew
  have hgr1:Grow ι0 d0.h w0 ι D.h w1:=by rcases hw1 with rfl|rfl;exact I.mv.gr;exact I.mv.gr.drew
  have hw1s:w1.heap.size=w.heap.size:=by rcases hw1 with rfl|rfl<;>rfl
  have hB1:B<=w1.heap.size:=by rw[hw1s];exact I.mv.sd.base
  have hrel:=hrel1.at hB1 hn hget (p:=p) (O:=O) (by rw[hw1s];exact hpb) hOR
  have hgr:=hgr1.at hn p4 (O:=O) (p:=p) (by rw[hw1s];exact hpb)
  have hle:ι.le (ι.set r.h.next p):=aH.set_le hn
  have hvr:VR (ι.set r.h.next p) r.val v':=by
   rw[show r.val=v by simp[Rec.val,hk],hv1]
   exact hVR _ _ hle (aH.set_same _ _ _)
  have hpt:=hput hle hvr
  refine ⟨R1,R2,D,ι.set r.h.next p,_,cs,_,hstep,⟨hX',hinR,I.split,I.c1,I.c2,fun x hx hxE=> .inl (I.effs x hx hxE),fun h2 R2' he=>⟨(I.head h2 R2' he).1, ?_⟩, ?_, ?_, ?_,I.fr,hpt.1,hpt.2, ?_⟩⟩
  ·rintro (h|h)
   ·exact (I.head h2 R2' he).2 h
   ·have h3:h2=r:=hRR h2 (by rw[I.split,he];simp) r hrR h
    have:=(I.head h2 R2' he).1
    rw[h3] at this
    simp[Rec.isE,hk] at this
  ·rw[put_defers]
   have s:=I.mv.sd
   exact ⟨⟨s.df.mono hle,s.cx.mono hle,hrel,by have:=s.base;simp;omega,s.rn.mono hle⟩,hgr,I.mv.ca⟩
  ·intro x hx v2 h2 e hnx
   obtain ⟨q1,q2,q3,q4⟩:=I.pend x hx v2 h2 e (fun hX=>hnx (.inl hX))
   refine ⟨?_,q2,q3,q4⟩
   rw[aH.set_ne]
   ·exact q1
   ·intro he
    exact hnx (.inr (I.dist x hx r hm v2 h2 v h e hk (fun hX=>hnx (.inl hX)) hnX he))
  ·exact fun x hx y hy v h v' h' e e' n n'=>I.dist x hx y hy v h v' h' e e' (fun hX=>n (.inl hX)) (fun hX=>n' (.inl hX))
  ·rw[dJ];exact I.size
 |eff v dfs1 ctx1 h1=>
  have hok':aj r.t r.o.guard=some true/\ai r.o.op= .eff/\cB P S self rnd r.dfs r.ctx r.h (ae r.o.op r.t r.h)= .next v dfs1 ctx1 h1:=by unfold Rec.ok at hok;rw[hk] at hok;exact hok
  obtain ⟨g1,g2,g3⟩:=hok'
  have hcp':ah P o.op=some r.o.op:=hcp.resolve_right fun e=>by rw[e] at g3;cases g3
  have hT:TR ι (ed (opsOf r.o.op) r.t) a.tmps:=d5 hr hL hRl I hlr hA hcA ho hE hnX hcp'
  have hisE:r.isE:=by unfold Rec.isE;rw[hk];trivial
  have hR2:∃R2',R2=r::R2':=by
   have hm:r∈R1∨r∈R2:=by have:=hrR;rw[I.split] at this;exact List.mem_append.1 this
   rcases hm with hm|hm
   ·exact Fy (I.effs r hm hisE) hnX
   ·cases hR2:R2 with
    |nil=>rw[hR2] at hm;cases hm
    |cons h2 R2'=>
     have hhd:=I.head h2 R2' hR2
     rw[hR2] at hm
     rcases List.mem_cons.1 hm with rfl|hm'
     ·exact ⟨R2',rfl⟩
     ·exfalso
      have hqq:=hhead h2 R2' hR2 hm'
      have hisE:=hhd.1
      unfold Rec.isE at hisE
      unfold QQ at hqq
      split at hqq
      ·unfold QE at hqq
       rw[hk] at hqq
       rw[hnohead h2 R2' hR2] at hqq;cases hqq
      ·rename_i e;rw[e] at hisE;exact hisE.elim
      ·rename_i hno _
       split at hisE
       ·rename_i e;exact Fy e (hno _ _ _ _)
       ·exact hisE.elim
  obtain ⟨R2',hR2⟩:=hR2
  have hc2:=I.c2
  rw[hR2] at hc2
  obtain ⟨hD,_,hcR⟩:=bO hc2
  have hx:=dH (S:=S) (self:=self) (k:=k) (rest:=rest) hC ho (hguard g1) hcp' (iH hT) I.mv.sd
  rw[hrun,show D.h=r.h by rw[hD];rfl,show D.dfs=r.dfs by rw[hD];rfl,show D.ctx=r.ctx by rw[hD];rfl,g3] at hx
  obtain ⟨v',ι1,ds1,cs1,w1,x1,x2,x3⟩:=hx
  obtain ⟨T1,T2,hT12,hT1,hT2⟩:=jS R2'
  rw[hT12] at hcR
  obtain ⟨D',hc3,hc4⟩:=cQ hcR
  have hnx:r.nx.dfs=dfs1/\r.nx.ctx=ctx1/\r.nx.h=h1:=by simp[Rec.nx,hk]
  obtain ⟨n1,n2,n3⟩:=hnx
  have sk:=ld hc3 hT1 (by rw[n3];exact x3.sd.rel.fresh)
  have s1:=sk.dfs;rw[n1] at s1
  have s2:=sk.ctx;rw[n2] at s2
  have s3:=sk.next;rw[n3] at s3
  have s4:=sk.get;rw[n3] at s4
  have hDh:D.h=r.h:=by rw[hD];rfl
  have x3':Mv P B rnd b ι D.ctx D.h cs w ι1 dfs1 ctx1 h1 ds1 cs1 w1:=by rw[hD];exact x3
  have mv1:=(I.mv.trans x3').more s3 s4 sk.fresh
  have hval:r.val=v:=by simp[Rec.val,hk]
  have hpt:=ic (a:={a with defers:=ds1}) hL hRl x3.gr.le hrR ho (by rw[hval];exact x2) hdb I.tw I.ti (fun x hx=>hRR x hx r hrR)
  have hmono:D.h.next.toNat<=h1.next.toNat:=x3'.gr.next
  refine ⟨R1++r::T1,T2,D',ι1,_,cs1,w1,x1,⟨hX',hinR, ?_,kl I.c1 (hD▸.cons r T1 D' (by rw[Rec.ok,hk];exact ⟨g1,g2,g3⟩) hc3),hc4, ?_, ?_, ?_, ?_, ?_, ?_,hpt.1,hpt.2, ?_⟩⟩
  ·rw[I.split,hR2,hT12];simp
  ·intro x hx hxE
   rcases List.mem_append.1 hx with hx|hx
   ·exact .inl (I.effs x hx hxE)
   ·rcases List.mem_cons.1 hx with rfl|hx
    ·exact .inr rfl
    ·exact Fy hxE (hT1 x hx)
  ·intro h2 T2' he
   have hh2:=hT2 h2 T2' he
   refine ⟨hh2, ?_⟩
   have hmem:h2∈R2':=by rw[hT12,he];simp
   have hqq:QQ r h2:=by
    have hp:=hQ
    rw[I.split,hR2,List.pairwise_append] at hp
    exact (List.pairwise_cons.1 hp.2.1).1 h2 hmem
   have hbit:h2.o.pre.testBit r.o.idx=true:=by
    unfold QQ at hqq
    rw[hk] at hqq
    unfold QE at hqq
    cases hk2:h2.k with
    |eff v3 d3 c3 h3=>rw[hk2] at hqq;exact hqq
    |_=>unfold Rec.isE at hh2;rw[hk2] at hh2;exact hh2.elim
   have h2R:h2∈R:=by rw[I.split,hR2];simp[hmem]
   obtain ⟨o2,m1,_,_,_,mp⟩:=hL.mem h2.o (hRl h2 h2R)
   rintro (hX2|he2)
   ·exact hnX (jP hr I.down m1 (I.down _ hX2) (by rw[←mp];exact hbit))
   ·have:=hRR h2 h2R r hrR he2
    subst this
    have hl2:l=A.map (·.o)++h2.o::(C.map (·.o)++rest0):=hlr
    obtain ⟨o',q1,q2⟩:=hL.pre _ _ _ hl2 h2.o.idx hbit
    have hnd:=hL.nodup
    rw[hl2,List.map_append,List.nodup_append] at hnd
    exact hnd.2.2 o'.idx (List.mem_map.2 ⟨o',q1,rfl⟩) h2.o.idx (by simp) q2
  ·rw[put_defers,s1,s2];exact mv1
  ·intro x hx v2 h2 e hnx2
   rcases List.mem_append.1 hx with hx|hx
   ·obtain ⟨q1,q2,q3,q4⟩:=I.pend x hx v2 h2 e (fun hX=>hnx2 (.inl hX))
    refine ⟨?_, ?_,Nat.lt_of_lt_of_le q3 (Nat.le_trans hmono s3),q4⟩
    ·cases hi:ι1 x.h.next with
     |none=>rfl
     |some p=>
      rcases x3'.gr.new _ _ hi with h|h
      ·rw[q1] at h;cases h
      ·omega
    ·rw[s4 _ (by omega),x3'.gr.keep _ q1 q3,q2]
   ·rcases List.mem_cons.1 hx with rfl|hx
    ·rw[hk] at e;cases e
    ·obtain ⟨q1,q2,q3⟩:=sk.al x hx v2 h2 e
     rw[n3] at q1
     refine ⟨?_,q3,q2, ?_⟩
     ·cases hi:ι1 x.h.next with
      |none=>rfl
      |some p=>have:=x3.sd.rel.lt_next hi;omega
     ·have:=I.mv.gr.next;omega
  ·intro x hx y hy v2 h2 v3 h3 e e' nx ny he
   rcases List.mem_append.1 hx with hx'|hx'
   ·have px:=I.pend x hx' v2 h2 e (fun hX=>nx (.inl hX))
    rcases List.mem_append.1 hy with hy'|hy'
    ·exact I.dist x hx' y hy' v2 h2 v3 h3 e e' (fun hX=>nx (.inl hX)) (fun hX=>ny (.inl hX)) he
    ·rcases List.mem_cons.1 hy' with rfl|hy''
     ·rw[hk] at e';cases e'
     ·obtain ⟨q1,q2,q3⟩:=sk.al y hy'' v3 h3 e'
      rw[n3,←he] at q1
      have:=px.2.2.1
      omega
   ·rcases List.mem_cons.1 hx' with rfl|hx''
    ·rw[hk] at e;cases e
    ·obtain ⟨q1,q2,q3⟩:=sk.al x hx'' v2 h2 e
     rcases List.mem_append.1 hy with hy'|hy'
     ·have py:=I.pend y hy' v3 h3 e' (fun hX=>ny (.inl hX))
      rw[n3,he] at q1
      have:=py.2.2.1
      omega
     ·rcases List.mem_cons.1 hy' with rfl|hy''
      ·rw[hk] at e';cases e'
      ·exact sk.dist x hx'' y hy'' v2 h2 v3 h3 e e' he
  ·intro x hx
   rcases List.mem_append.1 hx with hx|hx
   ·exact I.fr x hx
   ·rcases List.mem_cons.1 hx with rfl|hx
    ·rw[←hDh];exact I.mv.sd.rel.fresh
    ·exact sk.fr x hx
  ·rw[dJ];exact I.size
end
end Nm
namespace Nm
open Go
section
variable {P:Program} {S:Nat->List NV->Option NV} {self:Option D4->NC->Dyn->Res} {rnd:Option D4} {B:Nat} {b:Frame} {k:List Item} {ops:Array Oper} {fn:Func} {l:List NOper}
 {d0 dE:Dyn} {R:List Rec} {ι0:aH} {cs0:List Frame} {w0:World} {size:Nat}
theorem ck.of_steps {m m':Machine} {ι:aH} {ctx:Option NV} {h:NH} {cs:List Frame} {w:World} {o:Out} {d':Dyn} (hs:Steps P m m') (g:ck P B rnd b k m' ι ctx h size cs w o d'):ck P B rnd b k m ι ctx h size cs w o d':=by
 obtain ⟨ι',a',cs',w',q1,q2⟩:=g
 exact ⟨ι',a',cs',w',q1.of_steps hs,q2⟩
theorem sy (hC:CallsOK P S self) (hr:RegOK P fn ops) (hL:Lay P ops l) {rest0:List NOper} (hl:l=R.map (·.o)++rest0) (hQ:R.Pairwise QQ) (hsz:fn.ntmps<=size) {G:Out} {dF:Dyn}
 (hfin:∀(X:Nat->Prop) (R1 R2:List Rec) (D:Dyn) (ι:aH) (a:Act) (cs:List Frame) (w:World),Inv P S self rnd B b ops d0 dE R ι0 cs0 w0 size X R1 R2 D ι a cs w->(∀i,i<ops.size->X i)->
  ck P B rnd b k (lone (b.atR a (.inRegion ops []::k)) cs w) ι0 d0.ctx d0.h size cs0 w0 G dF)
 (hstop:∀(X:Nat->Prop) (R1 R2:List Rec) (D:Dyn) (ι:aH) (a:Act) (cs:List Frame) (w:World),Inv P S self rnd B b ops d0 dE R ι0 cs0 w0 size X R1 R2 D ι a cs w->∀(no:NOper) (rest:List Nat),no∈rest0->b8 ops X no.idx->¬X no.idx->
  ck P B rnd b k (lone (b.atR a (.inRegion ops (no.idx::rest)::k)) cs w) ι0 d0.ctx d0.h size cs0 w0 G dF):
 ∀(fuel tt:Nat) (listed:Array Bool) (X:Nat->Prop) (R1 R2:List Rec) (D:Dyn) (ι:aH) (a:Act) (cs:List Frame) (w:World),listed.size=ops.size->(∀i,X i↔listed[i]? =some true)->(fj ops listed).length<=fuel->
  Inv P S self rnd B b ops d0 dE R ι0 cs0 w0 size X R1 R2 D ι a cs w->
  ck P B rnd b k (lone (b.atR a (.inRegion ops (Region.linearise.go .any ops fuel tt listed [])::k)) cs w) ι0 d0.ctx d0.h size cs0 w0 G dF:=by
 intro fuel
 induction fuel with
 |zero=>
  intro tt listed X R1 R2 D ι a cs w hs hX hleft I
  rw[vE]
  refine hfin X R1 R2 D ι a cs w I fun i hi=> ?_
  rw[hX]
  have he:fj ops listed= []:=List.eq_nil_of_length_eq_zero (by omega)
  rw[Array.getElem?_eq_getElem (by omega)]
  cases hb:listed[i]'(by omega) with
  |true=>rfl
  |false=>
   have hm:i∈fj ops listed:=by
    unfold fj
    rw[List.mem_filter]
    refine ⟨by simpa using hi, ?_⟩
    rw[Array.getD_eq_getD_getElem?,Array.getElem?_eq_getElem (by omega)];simp[hb]
   rw[he] at hm;cases hm
 |succ fuel ih=>
  intro tt listed X R1 R2 D ι a cs w hs hX hleft I
  rcases vJ ops fuel tt listed with ⟨h1,h2⟩|⟨i,t',h1,h2⟩
  ·rw[h2]
   exact hfin X R1 R2 D ι a cs w I fun i hi=>(hX i).2 (pK hr hs h1 i hi)
  ·rw[h2]
   obtain ⟨o,ho,hnl,hedge⟩:=sP h1
   have hi:i<ops.size:=(Array.getElem?_eq_some_iff.1 ho).1
   have hE:b8 ops X i:=fun o' ho' e he hb=>by
    rw[ho] at ho';cases ho'
    exact (hX _).2 (hedge e he hb)
   have hnX:¬X i:=fun hx=>by
    have:=(hX i).1 hx
    rw[Array.getD_eq_getD_getElem?,this] at hnl
    cases hnl
   obtain ⟨no,hno,hidx⟩:=hL.all i hi
   rw[hl] at hno
   rcases List.mem_append.1 hno with hno|hno
   ·obtain ⟨r,hrR,rfl⟩:=List.mem_map.1 hno
    subst hidx
    obtain ⟨R1',R2',D',ι',a',cs',w',s1,I'⟩:=t7 (k:=k) hC hr hL hl hQ hsz I hrR hE hnX (Region.linearise.go .any ops fuel t' (listed.setIfInBounds r.o.idx true) [])
    refine ck.of_steps s1 (ih t' _ _ R1' R2' D' ι' a' cs' w' (by simpa using hs) (fun j=> ?_) ?_ I')
    ·by_cases hj:r.o.idx=j
     ·subst hj
      rw[Array.getElem?_setIfInBounds_self_of_lt (by omega)];simp
     ·rw[Array.getElem?_setIfInBounds_ne hj,hX j]
      constructor
      ·rintro (h|h)
       ·exact h
       ·exact Fy h.symm hj
      ·exact .inl
    ·have hlt:(fj ops (listed.setIfInBounds r.o.idx true)).length<(fj ops listed).length:=by
      unfold fj
      refine vA (fun j _ hj=> ?_) r.o.idx (by simpa using hi) (by simp[hnl]) ?_
      ·rw[Array.getD_eq_getD_getElem?] at hj ⊢
       by_cases he:r.o.idx=j
       ·subst he;rw[Array.getElem?_setIfInBounds_self_of_lt (by omega)] at hj;simp at hj
       ·rw[Array.getElem?_setIfInBounds_ne he] at hj;exact hj
      ·rw[Array.getD_eq_getD_getElem?,Array.getElem?_setIfInBounds_self_of_lt (by omega)];rfl
     omega
   ·subst hidx
    exact hstop X R1 R2 D ι a cs w I no _ hno hE hnX
theorem k9:∀(l:List NOper) (hs:List (Nat×NH)) (rs:List (Nat×(NH->NR)×NV)) (d:Dyn) (o:Out) (d':Dyn),bi P S self rnd l hs rs d= .mk o d'->o= .norm∨∃v,o= .pan v:=by
 intro l
 induction l with
 |nil=>intro hs rs d o d' h;cases h;exact .inl rfl
 |cons x l ih=>
  intro hs rs d o d' h
  obtain ⟨t,dfs,ctx,hp⟩:=d
  rw[bm] at h
  cases hg:aj t x.guard with
  |none=>rw[hg] at h;cases h
  |some on=>
   rw[hg] at h
   cases on with
   |false=>exact ih _ _ _ _ _ h
   |true=>
    dsimp only at h
    cases hcl:ai x.op with
    |pure=>
     rw[hcl] at h
     dsimp only at h
     cases hop:ae x.op t hp<;>rw[hop] at h<;>first|exact ih _ _ _ _ _ h|cases h
    |alloc=>
     rw[hcl] at h
     dsimp only at h
     cases ha:ahead x.pre hs with
     |false=>rw[ha] at h;cases h
     |true=>rw[ha] at h;simp only[cond_true] at h;cases hop:ae x.op t hp<;>rw[hop] at h<;>first|exact ih _ _ _ _ _ h|cases h
    |read=>
     rw[hcl] at h
     dsimp only at h
     cases hop:ae x.op t hp with
     |val v=>
      rw[hop] at h
      dsimp only at h
      cases hst:c8 x.pre (ae x.op t) v hs with
      |false=>rw[hst] at h;cases h
      |true=>rw[hst] at h;exact ih _ _ _ _ _ h
     |_=>rw[hop] at h;cases h
    |eff=>
     rw[hcl] at h
     dsimp only at h
     cases ha:ahead x.pre hs with
     |false=>rw[ha] at h;cases h
     |true=>
      rw[ha] at h
      have h':b9 (aU x.idx l) (pU x.dst (fun d=>cond (aK x.pre d.h rs) (bi P S self rnd l ((x.idx,hp)::hs) rs d) .fail) t dfs ctx (cB P S self rnd dfs ctx hp (ae x.op t hp)))= .mk o d':=h
      unfold b9 at h'
      split at h'
      ·cases hb:aU x.idx l<;>rw[hb] at h'<;>cases h'
       exact .inr ⟨_,rfl⟩
      ·cases hoo:cB P S self rnd dfs ctx hp (ae x.op t hp) with
       |fail=>rw[hoo] at h';cases h'
       |pan v h0=>rw[hoo] at h';cases h';exact .inr ⟨_,rfl⟩
       |next v dfs1 ctx1 h0=>
        rw[hoo] at h'
        have h2:cond (aK x.pre h0 rs) (bi P S self rnd l ((x.idx,hp)::hs) rs ⟨ay x.dst v t,dfs1,ctx1,h0⟩) .fail= .mk o d':=h'
        cases hsy:aK x.pre h0 rs with
        |false=>rw[hsy] at h2;cases h2
        |true=>rw[hsy] at h2;exact ih _ _ _ _ _ h2
theorem tK {a0:Act} (s:Sd P ι0 B rnd d0.dfs d0.ctx d0.h b a0.defers cs0 w0) (hT:TR ι0 d0.t a0.tmps) (hc:Chain P S self rnd d0 R dE) (hs:a0.tmps.size=size):
 ∃R1 R2 D,Inv P S self rnd B b ops d0 dE R ι0 cs0 w0 size (fun _=>False) R1 R2 D ι0 a0 cs0 w0:=by
 obtain ⟨T1,T2,hT12,hT1,hT2⟩:=jS R
 have hc':=hc
 rw[hT12] at hc'
 obtain ⟨D,c1,c2⟩:=cQ hc'
 have sk:=ld c1 hT1 s.rel.fresh
 refine ⟨T1,T2,D,fun i h=>h.elim,fun i h=>h.elim,hT12,c1,c2,fun r hr hE=>Fy hE (hT1 r hr),fun r R2' he=>⟨hT2 r R2' he,fun h=>h⟩, ?_, ?_,fun r hr r' hr' v h v' h' e e' _ _ he=>sk.dist r hr r' hr' v h v' h' e e' he,sk.fr,fun r _ h=>h.elim,fun t _ v hv=>hT t v hv,hs⟩
 ·rw[sk.dfs,sk.ctx]
  exact (Mv.refl s).more sk.next sk.get sk.fresh
 ·intro r hr v h e _
  obtain ⟨q1,q2,q3⟩:=sk.al r hr v h e
  refine ⟨?_,q3,q2,q1⟩
  cases hi:ι0 r.h.next with
  |none=>rfl
  |some p=>have:=s.rel.lt_next hi;omega
theorem oP (hC:CallsOK P S self) (hr:RegOK P fn ops) (hL:Lay P ops l) (hsz:fn.ntmps<=size) {o:Out} {d':Dyn} (hrun:rq P S self l rnd d0= .mk o d') {a0:Act}
 (s:Sd P ι0 B rnd d0.dfs d0.ctx d0.h b a0.defers cs0 w0) (hT:TR ι0 d0.t a0.tmps) (hs:a0.tmps.size=size) (tt:Nat):
 ck P B rnd b k (lone (b.atR a0 (.inRegion ops (Region.linearise .any ops tt)::k)) cs0 w0) ι0 d0.ctx d0.h size cs0 w0 o d':=by
 have hstart:∀{R:List Rec} {dE:Dyn} {rest0:List NOper} {G:Out} {dF:Dyn},l=R.map (·.o)++rest0->R.Pairwise QQ->Chain P S self rnd d0 R dE->
  (∀(X:Nat->Prop) (R1 R2:List Rec) (D:Dyn) (ι:aH) (a:Act) (cs:List Frame) (w:World),Inv P S self rnd B b ops d0 dE R ι0 cs0 w0 size X R1 R2 D ι a cs w->(∀i,i<ops.size->X i)->
   ck P B rnd b k (lone (b.atR a (.inRegion ops []::k)) cs w) ι0 d0.ctx d0.h size cs0 w0 G dF)->
  (∀(X:Nat->Prop) (R1 R2:List Rec) (D:Dyn) (ι:aH) (a:Act) (cs:List Frame) (w:World),Inv P S self rnd B b ops d0 dE R ι0 cs0 w0 size X R1 R2 D ι a cs w->∀(no:NOper) (rest:List Nat),no∈rest0->b8 ops X no.idx->¬X no.idx->
   ck P B rnd b k (lone (b.atR a (.inRegion ops (no.idx::rest)::k)) cs w) ι0 d0.ctx d0.h size cs0 w0 G dF)->
  ck P B rnd b k (lone (b.atR a0 (.inRegion ops (Region.linearise .any ops tt)::k)) cs0 w0) ι0 d0.ctx d0.h size cs0 w0 G dF:=by
  intro R dE rest0 G dF hl hQ hc hfin hstop
  obtain ⟨R1,R2,D,I⟩:=tK (ops:=ops) s hT hc hs
  refine sy hC hr hL hl hQ hsz hfin hstop ops.size tt (Array.replicate ops.size false) (fun _=>False) R1 R2 D ι0 a0 cs0 w0 (by simp) (fun i=> ?_) ?_ I
  ·simp[Array.getElem?_replicate]
  ·unfold fj
   exact Nat.le_trans (List.length_filter_le _ _) (by simp)
 unfold rq at hrun
 split at hrun
 ·
  rename_i v d1 hpan
  cases hrun
  obtain ⟨R,q,l2,h',q1,q2,q3,_,_,q6,q7,q8,q9,_,q11,q12⟩:=uf l [] [] d0 d1 hpan
  have hRl:∀x∈R,x.o∈l:=fun x hx=>by rw[q1];simp only[List.mem_append];exact .inl (List.mem_map.2 ⟨x,hx,rfl⟩)
  have hql:q.o∈l:=by rw[q1];simp
  have hnq:∀x∈R,x.o.idx≠q.o.idx:=by
   intro x hx e
   have hnd:=hL.nodup
   rw[q1,List.map_append,List.nodup_append] at hnd
   exact hnd.2.2 x.o.idx (by rw[List.map_map];exact List.mem_map.2 ⟨x,hx,rfl⟩) q.o.idx (by simp) e
  refine hstart q1 q3 q2 (fun X R1 R2 D ι a cs w I hall=> ?_) (fun X R1 R2 D ι a cs w I no rest hno hE hnX=> ?_)
  ·obtain ⟨oq,m1,_⟩:=hL.mem q.o hql
   obtain ⟨x,hx,he⟩:=I.inR _ (hall q.o.idx (Array.getElem?_eq_some_iff.1 m1).1)
   exact Fy he (hnq x hx)
  ·rcases List.mem_cons.1 hno with rfl|hno
   ·obtain ⟨oq,ho,hdst,hcp,hG,hpre⟩:=hL.mem q.o hql
    have hcp':ah P oq.op=some q.o.op:=hcp.resolve_right fun e=>by rw[e] at q8;cases q8
    have hT:TR ι (ed (opsOf q.o.op) q.t) a.tmps:=d5 hr hL hRl I q1 (fun _ h=>h) q2 ho hE hnX hcp'
    have hgu:=iC hr hL hRl I q1 (fun _ h=>h) q2 ho hE hnX hG q6
    have hbX:∀j,q.o.pre.testBit j=true->X j:=fun j hj=>jP hr I.down ho hE (by rw[←hpre];exact hj)
    have hR2:R2= []:=by
     cases hR2:R2 with
     |nil=>rfl
     |cons h2 R2'=>
      have hhd:=I.head h2 R2' hR2
      have hm:h2∈R:=by rw[I.split,hR2];simp
      exact Fy (hbX _ (q11 h2 hm hhd.1)) hhd.2
    have hc2:=I.c2
    rw[hR2] at hc2
    have hD:=dp hc2
    have hx:=dH (S:=S) (self:=self) (k:=k) (rest:=rest) hC ho hgu hcp' (iH hT) I.mv.sd
    rw[jX tP D.h,←hD] at hx
    have q8':cB P S self rnd q.st.dfs q.st.ctx q.st.h (ae q.o.op q.t q.st.h)= .pan v h':=q8
    rw[q8'] at hx
    obtain ⟨v',ι1,w1,td,x1,x2,x3⟩:=hx
    have hmv:=I.mv
    rw[←hD] at hmv
    rw[q9]
    refine ⟨ι1,a,cs,w1,⟨td,v',x2,x1⟩, ?_,hmv.trans x3,I.size⟩
    intro t v0 hv0
    obtain ⟨g1,g2⟩:=sL hv0
    have g1':NT.get (D4.of t) q.st.t=some v0:=g1
    rw[ej q2 (fun x hx=>g2 x.o (hRl x hx))] at g1'
    obtain ⟨u,e1,e2⟩:=I.ti t (fun x hx _=>g2 x.o (hRl x hx)) v0 g1'
    exact ⟨u,e1,e2.mono x3.gr.le⟩
   ·exfalso
    have hnol:no∈l:=by rw[q1];simp[hno]
    obtain ⟨on,ho,_,_,_,hpre⟩:=hL.mem no hnol
    have hXq:X q.o.idx:=jP hr I.down ho hE (by rw[←hpre];exact q12 no hno)
    obtain ⟨x,hx,he⟩:=I.inR _ hXq
    exact hnq x hx he
 ·rename_i hnp
  cases o with
  |norm=>
   obtain ⟨R,h1,h2,h3,_,_⟩:=sS l [] [] d0 d' hrun
   have hRl:∀x∈R,x.o∈l:=fun x hx=>by rw[←h1];exact List.mem_map.2 ⟨x,hx,rfl⟩
   refine hstart (rest0:= []) (by rw[List.append_nil];exact h1.symm) h3 h2 (fun X R1 R2 D ι a cs w I hall=> ?_) (fun X R1 R2 D ι a cs w I no rest hno=>by cases hno)
   have hRX:∀x∈R,X x.o.idx:=fun x hx=>by
    obtain ⟨ox,m1,_⟩:=hL.mem x.o (hRl x hx)
    exact hall _ (Array.getElem?_eq_some_iff.1 m1).1
   have hR2:R2= []:=by
    cases hR2:R2 with
    |nil=>rfl
    |cons h2 R2'=>exact Fy (hRX h2 (by rw[I.split,hR2];simp)) (I.head h2 R2' hR2).2
   have hc2:=I.c2
   rw[hR2] at hc2
   have hD:=dp hc2
   subst hD
   refine ⟨ι,a,cs,w,.one stepR_region_end, ?_,I.mv,I.size⟩
   intro t v hv
   by_cases hw:∃r∈R,r.o.dst=some (D4.of t)
   ·obtain ⟨r,hrR,hrd⟩:=hw
    obtain ⟨A,C,hAC⟩:=List.append_of_mem hrR
    have honly:∀x∈C,x.o.dst≠some (D4.of t):=by
     intro x hx hd
     have hxR:x∈R:=by rw[hAC];simp[hx]
     obtain ⟨o1,m1,m2,_⟩:=hL.mem r.o (hRl r hrR)
     obtain ⟨o2,n1,n2,_⟩:=hL.mem x.o (hRl x hxR)
     have f:∀{q:Option Nat},q.map D4.of=some (D4.of t)->q=some t:=by
      intro q hq
      cases q with
      |none=>cases hq
      |some u=>injection hq with hq;rw[D4.of_inj hq]
     have he:=hL.once r.o.idx x.o.idx o1 o2 t m1 n1 (f (by rw[←m2];exact hrd)) (f (by rw[←n2];exact hd))
     have hl':l=A.map (·.o)++r.o::C.map (·.o):=by rw[←h1,hAC];simp
     exact ft hL hl' (y:=x.o) (List.mem_map.2 ⟨x,hx,rfl⟩) (z:=r.o) (by simp) he
    have hch:=h2
    rw[hAC] at hch
    rw[jq hch hrd honly] at hv
    cases hv
    exact I.tw r hrR (hRX r hrR) t hrd
   ·rw[ej h2 (fun x hx hd=>hw ⟨x,hx,hd⟩)] at hv
    exact I.ti t (fun x hx _ hd=>hw ⟨x,hx,hd⟩) v hv
  |pan v=>exact Fy hrun (hnp v d')
  |ret=>rcases k9 l [] [] d0 _ d' hrun with h|⟨v,h⟩<;>cases h
  |exit id=>rcases k9 l [] [] d0 _ d' hrun with h|⟨v,h⟩<;>cases h
end
end Nm
namespace Nm
open Go
variable {cs:List Frame} {w:World} {ι:aH} {ctx:Option NV} {h:NH} {o:Out} {d':Dyn} {m:Machine} {ps:Array Tmp} {mark:List Deferred}
section
variable {P:Program} {S:Nat->List NV->Option NV} {rnd:Option D4} {B:Nat} {b:Frame} {k:List Item} {size:Nat}
theorem ck.then {x:Item} {d1:Dyn} (g:ck P B rnd b (x::k) m ι ctx h size cs w .norm d1)
 (f:∀(ι':aH) (a':Act) (cs':List Frame) (w':World),TR ι' d1.t a'.tmps->Sd P ι' B rnd d1.dfs d1.ctx d1.h b a'.defers cs' w'->a'.tmps.size=size->
  ck P B rnd b k (lone (b.atR a' (x::k)) cs' w') ι' d1.ctx d1.h size cs' w' o d'):ck P B rnd b k m ι ctx h size cs w o d':=by
 obtain ⟨ι1,a1,cs1,w1,q1,q2,q3,q4⟩:=g
 obtain ⟨ι2,a2,cs2,w2,r1,r2,r3,r4⟩:=f ι1 a1 cs1 w1 q2 q3.sd q4
 exact ⟨ι2,a2,cs2,w2,r1.of_steps q1,r2,q3.trans r3,r4⟩
theorem ck.out {x:Item} (hx:∀id,o= .exit id->exitTo id (x::k)=exitTo id k) (ho:o≠.norm) (g:ck P B rnd b (x::k) m ι ctx h size cs w o d'):
 ck P B rnd b k m ι ctx h size cs w o d':=by
 obtain ⟨ι1,a1,cs1,w1,q1,q2⟩:=g
 refine ⟨ι1,a1,cs1,w1, ?_,q2⟩
 cases o with
 |norm=>exact Fy rfl ho
 |ret=>exact q1
 |exit id=>obtain ⟨k0,h1,h2⟩:=q1;exact ⟨k0,h1.trans (hx id rfl),h2⟩
 |pan v=>exact q1
theorem ck.undrew  (g:ck P B rnd b k m ι ctx h size cs w.drew o d'):ck P B rnd b k m ι ctx h size cs w o d':=by
 obtain ⟨ι1,a1,cs1,w1,q1,q2,q3,q4⟩:=g
 have gr:=q3.gr
 exact ⟨ι1,a1,cs1,w1,q1,q2,⟨q3.sd,⟨gr.le,gr.next,gr.new,gr.blk,gr.keep,gr.size,gr.os,gr.tape,gr.output,gr.frame⟩,q3.ca⟩,q4⟩
def uc (st:Item) (c:Code):Prop:=st= .code c∨∃x,c= .loop x/\st= .inLoop x
def fm (P:Program) (S:Nat->List NV->Option NV) (n:Nat):Prop:=
 ∀(c:Code) (nc:NC) (fn:Func) (bl la:List Nat),bL P c=some nc->CheckCode.code P fn bl la c= .ok ()->∀(rnd:Option D4) (d:Dyn) (o:Out) (d':Dyn),ev P S n rnd nc d= .mk o d'->
 ∀(st:Item),uc st c->∀(B:Nat) (b:Frame) (k:List Item) (ι:aH) (a:Act) (cs:List Frame) (w:World),P.funcs[b.fn]? =some fn->TR ι d.t a.tmps->Sd P ι B rnd d.dfs d.ctx d.h b a.defers cs w->fn.ntmps<=a.tmps.size->
  ck P B rnd b k (lone (b.atR a (st::k)) cs w) ι d.ctx d.h a.tmps.size cs w o d'
theorem tn:∀{l:List Nat} {r:List D4},nm l=some r->r=l.map D4.of:=by
 intro l
 induction l with
 |nil=>intro r h;cases h;rfl
 |cons x l ih=>
  intro r h
  have h':(Option.rec none (fun t=>D4.ofNat x fun n=>some (n::t)) (nm l):Option (List D4))=some r:=h
  cases hl:nm l with
  |none=>rw[hl] at h';cases h'
  |some t=>
   rw[hl] at h'
   have h2:(D4.ofNat x fun n=>some (n::t))=some r:=h'
   rw[D4.ofNat_eq] at h2
   cases h2
   rw[ih hl];rfl
theorem lT {a:Act} {w₁:World} {g:Operand} {assign body:Code} {l:Nat}
 (he:(Instr.enterLoop b.fn a.tmps ps assign body b.roundOf).run P w= .ok (l,mark) w₁):
 (stepG P true {frame:=b.atR a (.code (.rangeFunc g ps assign body)::k),callers:=cs,status:= .running,dying:=none} w).bare=
  (stepG.apply P true (b.atR {a with defers:=mark++a.defers} (.inRangeFunc l::k)) cs none (do let d ←resolve a.eval (rangeCall g l) 0;invoke d.target d.args) w₁).bare:=by
 have hev:=Frame.eval_atR b {a with defers:=mark++a.defers} (.inRangeFunc l::k)
 simp only[Frame.atR] at hev
 simp[stepG,stepG.exec,Frame.atR,Sem.runT_eq,he,GStep.bare_after,hev]
 rfl
theorem fG {self:Option D4->NC->Dyn->Res} (hC:CallsOK P S self) {fn:Func} (hfn:P.funcs[b.fn]? =some fn) {bl la:List Nat} {assign body:Code} {na nb:NC} (ca:bL P assign=some na) (cb:bL P body=some nb)
 (ka:CheckCode.code P fn [] [] assign= .ok ()) (kb:CheckCode.code P fn bl la body= .ok ()) {nps:List D4} (hps:nps=ps.toList.map D4.of) (hpl:∀t∈ps.toList,t<fn.ntmps)
 {g:Operand} {f:Nat} {cap:List NV} {t:Tm} {dfs:List Dfr} (hrun:bF P S self f cap nps na nb t dfs ctx h= .mk o d') {a:Act} {w0:World} {r:Nat} (hT:TR ι t a.tmps) (s:Sd P ι B rnd dfs ctx h b (mark++a.defers) cs w) (hsz:fn.ntmps<=a.tmps.size)
 {cap':List Value} (hcap:VRL ι cap cap') (hg:a.eval g= .func (.func f) #[] cap'.toArray)
 (he:(Instr.enterLoop b.fn a.tmps ps assign body b.roundOf).run P w0= .ok (w.heap.size,mark) (w.alloc (.loop {state:= .ready,pending:=none,fn:=b.fn,tmps:=a.tmps,params:=ps,assign,body,defers:=r}))):
 ck P B rnd b k (lone (b.atR a (.code (.rangeFunc g ps assign body)::k)) cs w0) ι ctx h a.tmps.size cs w o d':=by
 obtain ⟨L,hL⟩:∃L:Loop,L={state:= .ready,pending:=none,fn:=b.fn,tmps:=a.tmps,params:=ps,assign,body,defers:=r}:=⟨_,rfl⟩
 rw[←hL] at he
 have hOR:∀ι':aH,ι.le ι'->OR P ι' (w.alloc (.loop L)) ⟨w.heap.size,0,0⟩ (.loop 0 .none t nps na nb):=fun ι' hle=>by
  subst hL
  exact ⟨_,cD w _,rfl,rfl,hT.mono hle,hps,ca,cb,⟨fn,bl,la,bl,hfn,hsz,ka,kb,rfl⟩,fun q hq=>Nat.lt_of_lt_of_le (hpl q hq) hsz⟩
 obtain ⟨ι1,i1,i2,i3,i4⟩:=s.rel.alloc s.base (.loop 0 .none t nps na nb) (.loop L) ⟨w.heap.size,0,0⟩ rfl hOR
 generalize hw1:w.alloc (.loop L)=w1 at *
 generalize hh1:h.add (.loop 0 .none t nps na nb)=h1 at *
 have hB1:B<=w1.heap.size:=Nat.le_trans s.base i4.size
 have hrun':(match bh P S self f (.yld h.next::cap) h1 with
  | .val _ _ h3=>dK h.next t dfs ctx h3
  | .pan v _ h3=> .mk (.pan v) ⟨t,dfs,ctx,h3⟩
  | .fail=> .fail)=Res.mk o d':=by
  rw[←hrun,←hh1]
  exact (NH.new_eq h (.loop 0 .none t nps na nb) fun l h=>match bh P S self f (.yld l::cap) h with
   | .val _ _ h=>dK l t dfs ctx h
   | .pan v _ h=> .mk (.pan v) ⟨t,dfs,ctx,h⟩
   | .fail=> .fail).symm
 have hcall:=hC.call ι1 B h1 w1 f (.yld h.next::cap) (.func (.yield w.heap.size) #[] #[]::cap') i3 hB1 (.cons _ _ _ _ (.yld h.next _ i1) (hcap.mono i2))
 have hs:(do let d ←resolve a.eval (rangeCall g w.heap.size) 0;invoke d.target d.args:Sem Next).run P w1=(callFunc f (Value.func (.yield w.heap.size) #[] #[]::cap').toArray).run P w1:=by
  simp only[resolve,hg,Deferred.ofValue,invoke,Sem.run_bind,Sem.run_pure,Result.andThen]
  congr 2
  simp[Act.eval]
 have hstep:=lT (k:=k) (cs:=cs) (g:=g) he
 have hfin:∀v,(b.atR {a with defers:=mark++a.defers} (.inRangeFunc w.heap.size::k)).finish v=b.atR {a with defers:=mark++a.defers} (.endRangeFunc w.heap.size::k):=finish_atR_inRangeFunc w.heap.size
 cases hcr:bh P S self f (.yld h.next::cap) h1 with
 |fail=>rw[hcr] at hrun';cases hrun'
 |val v x h3=>
  rw[hcr] at hcall hrun'
  obtain ⟨ι3,v',w3,c1,c2,c3,c4,c5⟩:=hcall (b.atR {a with defers:=mark++a.defers} (.inRangeFunc w.heap.size::k)) cs
  have hto:Steps P (lone (b.atR a (.code (.rangeFunc g ps assign body)::k)) cs w0) (lone (b.atR {a with defers:=mark++a.defers} (.endRangeFunc w.heap.size::k)) cs w3):=by
   rcases c5 with c5|⟨w2,⟨f',ar,c5,c6⟩|⟨l,f',tm,x,y,c5,c6⟩⟩
   ·refine .one (step_lone_go ?_)
    rw[hstep,←hfin v'];simp[stepG.apply,hs,c5]
   ·refine .head (step_lone_go ?_) (by rw[←hfin v'];exact c6)
    rw[hstep];simp[stepG.apply,hs,c5,Frame.atR]
   ·refine .head (step_lone_go ?_) (by rw[←hfin v'];exact c6)
    rw[hstep];simp[stepG.apply,hs,c5,Frame.atR]
  have hp3:ι3 h.next=some ⟨w.heap.size,0,0⟩:=c4.le _ _ i1
  obtain ⟨ob,ho1,ho2⟩:=c2.obj _ _ hp3
  have hre:dK h.next t dfs ctx h3= .mk o d':=hrun'
  unfold dK at hre
  rw[ho1] at hre
  cases ob with
  |loop st pd tm ps2 a2 b2=>
   dsimp only at hre
   cases hst:Nat.beq st 1 with
   |true=>rw[hst] at hre;cases hre
   |false=>
    rw[hst,NH.set_eq] at hre
    simp only[cond_false] at hre
    have hst1:st≠1:=Nat.ne_of_beq_eq_false hst
    obtain ⟨L3,l1,l2,l3,l4,l5,l6,l7,l8,l9⟩:=ho2
    have hbusy:L3.state≠.busy:=by
     intro e
     rw[e] at l2
     match st,l2,hst1 with
     |0,l2,_=>cases l2
     |1,_,h=>exact h rfl
     |2,l2,_=>cases l2
     |3,l2,_=>cases l2
    have hend:=run_endLoop (P:=P) l1 hbusy
    have hsz3:w.heap.size<w3.heap.size:=c2.lt _ _ hp3
    obtain ⟨t1,t2⟩:=c2.turn (w':=w3.putObj w.heap.size (.loop {L3 with state:= .exhausted})) hp3 (by rw[ho1];simp) (.loop 3 pd tm ps2 a2 b2)
     ⟨_,World.putObj_heap_same hsz3,rfl,l3,l4,l5,l6,l7,l8,l9⟩ (by simp) rfl rfl rfl (fun q hq=>World.putObj_heap_other hq)
    have hle:ι.le ι3:=i2.trans c4.le
    have hend':=stepR_endRangeFunc (P:=P) (b:=b) (a:={a with defers:=mark++a.defers}) (k:=k) (cs:=cs) hend
    have hsteps:=hto.trans (.one hend')
    have hmv:Mv P B rnd b ι ctx h cs w ι3 dfs ctx (h3.put h.next (.loop 3 pd tm ps2 a2 b2)) (mark++a.defers) cs (w3.putObj w.heap.size (.loop {L3 with state:= .exhausted})):=
     ⟨⟨s.df.mono hle,s.cx.mono hle,t1,by simpa using c3,s.rn.mono hle⟩,(i4.trans c4).trans t2,.refl _ _⟩
    generalize w3.putObj w.heap.size (.loop {L3 with state:= .exhausted})=w4 at hsteps hmv
    cases pd with
    |none=>
     cases hre
     rw[show L3.pending=none from l3] at hsteps
     exact ⟨ι3,{a with defers:=mark++a.defers},cs,_,hsteps,hT.mono hle,hmv,rfl⟩
    |ret=>
     cases hre
     rw[show L3.pending=some .ret from l3] at hsteps
     exact ⟨ι3,{a with defers:=mark++a.defers},cs,_,⟨k,hsteps⟩,hT.mono hle,hmv,rfl⟩
    |exit id=>
     cases hre
     rw[show L3.pending=some (.exit id) from l3] at hsteps
     exact ⟨ι3,{a with defers:=mark++a.defers},cs,_,⟨k,rfl,hsteps⟩,hT.mono hle,hmv,rfl⟩
  |_=>cases hre
 |pan v x h3=>
  rw[hcr] at hcall hrun'
  cases hrun'
  obtain ⟨ι3,v',w3,c1,c2,c3,c4,w2,c5⟩:=hcall (b.atR {a with defers:=mark++a.defers} (.inRangeFunc w.heap.size::k)) cs
  have hle:ι.le ι3:=i2.trans c4.le
  refine ⟨ι3,{a with defers:=mark++a.defers},cs,w3,⟨.inRangeFunc w.heap.size::k,v',c1, ?_⟩,hT.mono hle,⟨⟨s.df.mono hle,s.cx.mono hle,c2,c3,s.rn.mono hle⟩,i4.trans c4,.refl _ _⟩,rfl⟩
  rw[←Frame.raise_atR b {a with defers:=mark++a.defers} (.inRangeFunc w.heap.size::k)]
  rcases c5 with ⟨f',ar,c5,c6⟩|⟨l,f',tm,x,y,c5,c6⟩
  ·refine .head (step_lone_go ?_) c6
   rw[hstep];simp[stepG.apply,hs,c5,Frame.atR]
  ·refine .head (step_lone_go ?_) c6
   rw[hstep];simp[stepG.apply,hs,c5,Frame.atR]
end
end Nm
