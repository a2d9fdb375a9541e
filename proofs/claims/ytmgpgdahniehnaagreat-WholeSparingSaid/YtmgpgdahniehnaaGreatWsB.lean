/- A machine that runs the given program with memory and order of evaluation taken apart, and what it shows of the law WholeSparing: part 2. -/
import Derived.Defers
import Derived.RangeFuncRecord
import Derived.Laws.Externs
import Derived.Lib.Bytealg
import Derived.Below
import Derived.Test.YtmgpgdahniehnaaGreatWsA
set_option linter.unusedSimpArgs false
set_option linter.unusedVariables false
set_option linter.unusedSectionVars false
set_option linter.defProp false
noncomputable section
namespace Nm
open Go
def rG (ops:Array Oper):Option (Nat×Bool)->Option (D4×Bool)->Prop
 |none,none=>True
 |some (j,b),some (k,b')=>b'=b/\∃t,Ea ops j=some t/\k=D4.of t
 |_,_=>False
theorem mu {P:Program} {ops:Array Oper} {o:Oper} {pre idx:Nat} {no:NOper} (h:jK P ops o pre idx=some no):
 no.dst=o.dst.map D4.of/\(ax P o.op=some no.op∨no.op= .fail)/\rG ops o.guard no.guard/\no.pre=pre/\no.idx=idx:=by
 unfold jK at h
 split at h
 ·rename_i d n hd hn
  rw[aj] at h
  have h1:d=o.dst.map D4.of:=by
   unfold aah at hd
   split at hd
   ·rename_i e he;rw[D4.ofNat_eq] at hd;cases hd;rw[he];rfl
   ·rename_i he;cases hd;rw[he];rfl
  have h2:ax P o.op=some n∨n= .fail:=by
   split at hn
   ·rename_i n' hn';cases hn;exact .inl hn'
   ·cases hn;exact .inr rfl
  split at h
  ·rename_i hg
   rw[aj] at h;cases h
   exact⟨h1,h2,by rw[hg];trivial,rfl,rfl⟩
  ·rename_i j hg
   split at h
   ·rename_i t ht
    rw[aj,D4.ofNat_eq] at h;cases h
    exact⟨h1,h2,by rw[hg];exact⟨rfl,t,ht,rfl⟩,rfl,rfl⟩
   ·cases h
  ·rename_i j hg
   split at h
   ·rename_i t ht
    rw[aj,D4.ofNat_eq] at h;cases h
    exact⟨h1,h2,by rw[hg];exact⟨rfl,t,ht,rfl⟩,rfl,rfl⟩
   ·cases h
 ·cases h
theorem VR.notBool {ι:aZ} {v:NV} {v':Value} (h:VR ι v v') (hn:∀b,v≠.bool b):∀b,v'≠.bool b:=by
 cases h with
 |bool b=>exact adD rfl (hn b)
 |_=>intro b h;cases h
theorem nW {ι:aZ} {ops:Array Oper} {o:Oper} {g:Option (D4×Bool)} (hg:rG ops o.guard g) {t:Tm} {tmps:Array Value} {on:Bool}
 (hT:∀k b,g=some (D4.of k,b)->∀v,NT.get (D4.of k) t=some v->∃v',tmps[k]? =some v'/\VR ι v v') (h:aF t g=some on):Region.wanted o (yielded ops tmps)=on:=by
 unfold Region.wanted
 cases ho:o.guard with
 |none=>
  rw[ho] at hg
  cases g with
  |none=>cases h;rfl
  |some _=>exact hg.elim
 |some jb=>
  obtain⟨j,b⟩:=jb
  rw[ho] at hg
  cases g with
  |none=>exact hg.elim
  |some kb=>
   obtain⟨k,b'⟩:=kb
   obtain⟨rfl,u,hu,rfl⟩:=hg
   have hd:(ops[j]?).bind (·.dst)=some u:=by
    unfold Ea at hu
    split at hu
    ·rename_i oj hoj;rw[hoj];exact hu
    ·cases hu
   have h':(match NT.get (D4.of u) t with|some (.bool c)=>some (jf b' c)|some _=>some false|none=>none)=some on:=by
    rw[←h]
    show _=(Option.rec none (λv=>NV.onBool (some false) (λc=>some (jf b' c)) v) (NT.get (D4.of u) t):Option Bool)
    cases NT.get (D4.of u) t with
    |none=>rfl
    |some v=>cases v<;>rfl
   split at h'
   ·rename_i c hc
    cases h'
    obtain⟨v',h1,h2⟩:=hT u b' rfl _ hc
    cases h2
    show (yielded ops tmps j==some b')=_
    have hy:yielded ops tmps j=some c:=by unfold yielded;rw[hd];simp only[Option.bind_some,h1]
    rw[hy,nH]
    cases b'<;>cases c<;>rfl
   ·rename_i v hnb hc
    cases h'
    obtain⟨v',h1,h2⟩:=hT u b' rfl _ hc
    have hv:=h2.notBool λc hc'=>hnb c (by rw[hc'])
    show (yielded ops tmps j==some b')=_
    have hy:yielded ops tmps j=none:=by
     unfold yielded
     rw[hd]
     simp only[Option.bind_some,h1]
     cases v'<;>first|exact adD rfl (hv _)|rfl
    rw[hy];rfl
   ·cases h'
theorem HE {a:Array Value} {k:Nat} {v:Value} (h:a[k]? =some v):a.getD k undef=v:=by
 rw[Array.getD_eq_getD_getElem?,h];rfl
theorem nX {ι:aZ} {t:Tm} {a:Act} (hT:TR ι t a.tmps):OE ι t a.eval:=by
 intro x y hc v hv
 cases x with
 |tmp k=>
  have hc':(D4.ofNat k λt=>some (NOpd.tmp t))=some y:=hc
  rw[D4.ofNat_eq] at hc';cases hc'
  obtain⟨v',h1,h2⟩:=hT.2 k v hv
  show VR ι v (a.tmps.getD k undef)
  rw[HE h1];exact h2
 |const c=>
  have hc':(match ofValue c with|some v=>some (NOpd.const v)|none=>none)=some y:=hc
  split at hc'
  ·rename_i u hu;cases hc';cases hv;exact eQ hu
  ·cases hc'
 |func f=>
  have hc':(aG f λf=>some (NOpd.const (.fn f [])))=some y:=hc
  rw[aj] at hc';cases hc';cases hv
  exact .fn f [] [] .nil
 |global g=>
  have hc':(cond (Nat.ble (Nat.succ g) NG) (D4.ofNat g λg=>some (NOpd.const (.ptr g 0))) none)=some y:=hc
  rw[D4.ofNat_eq] at hc'
  cases hb:Nat.ble (Nat.succ g) NG with
  |false=>rw[hb] at hc';cases hc'
  |true=>
   rw[hb] at hc';cases hc';cases hv
   exact .ptr _ 0 _ (hT.1 g (ac4 hb))
def Arr (P:Program) (b:Frame) (k:List Item) (m:Machine) (ι':aZ):Out->Act->List Frame->World->Prop
 | .norm,a',cs',w'=>Steps P m (lone (b.atR a' k) cs' w')
 | .ret,a',cs',w'=>∃k0,Steps P m (lone (b.atR a' (.code .ret::k0)) cs' w')
 | .exit id,a',cs',w'=>∃k0,exitTo id k0=exitTo id k/\Steps P m (lone (b.atR a' (.code (.exit id)::k0)) cs' w')
 | .pan v,a',cs',w'=>∃todo v',VR ι' v v'/\Steps P m (lone {b.atR a' todo with mode:= .panicking [{v:=v',recovered:=false}]} cs' w')
theorem Arr.of_steps {P:Program} {b:Frame} {k:List Item} {m m':Machine} {ι':aZ} (hs:Steps P m m') {o:Out} {a':Act} {cs':List Frame} {w':World} (h:Arr P b k m' ι' o a' cs' w'):Arr P b k m ι' o a' cs' w':=by
 cases o with
 |norm=>exact hs.trans h
 |ret=>obtain⟨k0,h⟩:=h;exact⟨k0,hs.trans h⟩
 |exit id=>obtain⟨k0,h1,h⟩:=h;exact⟨k0,h1,hs.trans h⟩
 |pan v=>obtain⟨td,v',h1,h⟩:=h;exact⟨td,v',h1,hs.trans h⟩
def dH (P:Program) (B:Nat) (rnd:Option D4) (b:Frame) (k:List Item) (m:Machine) (ι:aZ) (ctx:Option NV) (h:NH) (size:Nat) (cs:List Frame) (w:World) (o:Out) (d':Dyn):Prop:=
 ∃(ι':aZ) (a':Act) (cs':List Frame) (w':World),Arr P b k m ι' o a' cs' w'/\TR ι' d'.t a'.tmps/\Mv P B rnd b ι ctx h cs w ι' d'.dfs d'.ctx d'.h a'.defers cs' w'/\a'.tmps.size=size
section
variable {P:Program} {S:cE} {self:Option D4->NC->Dyn->Res} {B:Nat} {b:Frame} {k:List Item} {ops:Array Oper} {fn:Func}
theorem gj (a:Act) (d:Option Tmp) (v:Value):(a.put d v).tmps.size=a.tmps.size:=by cases d<;>simp[Act.put]
theorem put_defers (a:Act) (d:Option Tmp) (v:Value):(a.put d v).defers=a.defers:=by cases d<;>rfl
theorem TR.putD {ι:aZ} {t:Tm} {a:Act} (hT:TR ι t a.tmps) {d:Option Tmp} (hd:∀k,d=some k->k<a.tmps.size) {v:NV} {v':Value} (hv:VR ι v v'):TR ι (aN (d.map D4.of) v t) (a.put d v').tmps:=by
 cases d with
 |none=>exact hT
 |some k=>exact hT.put (hd k rfl) hv
theorem bP (rnd:Option D4) (o:NOper) (l:List NOper) (t:Tm) (dfs:List Dfr) (ctx:Option NV) (h:NH):
 dl P S self rnd (o::l) ⟨t,dfs,ctx,h⟩=match aF t o.guard with
  |none=> .fail
  |some false=>dl P S self rnd l ⟨aN o.dst aK t,dfs,ctx,h⟩
  |some true=>ER o.dst (dl P S self rnd l) t dfs ctx (eD P S self rnd dfs ctx h (ai o.op t h)):=by
 have e:dl P S self rnd (o::l) ⟨t,dfs,ctx,h⟩=Option.rec .fail (λon=>Bool.rec (jY o.dst aK t λt=>dl P S self rnd l ⟨t,dfs,ctx,h⟩)
  (qL P S self rnd o.dst (dl P S self rnd l) t dfs ctx h (ai o.op t h)) on) (aF t o.guard):=rfl
 rw[e]
 cases aF t o.guard with
 |none=>rfl
 |some on=>
  cases on with
  |false=>exact dQ o.dst aK t λt=>dl P S self rnd l ⟨t,dfs,ctx,h⟩
  |true=>exact tQ _ _ _ _ _ _ _ _ _ _ _
theorem Jk (hC:CallsOK P S self) (hr:RegOK P fn ops) {rnd:Option D4}:∀(l:List Oper) (i:Nat) (nl:List NOper) (pre:List Nat),(∀j,l[j]? =ops[i+j]?)->dW P ops l i pre=some nl->
 ∀(t:Tm) (dfs:List Dfr) (ctx:Option NV) (h:NH) (o:Out) (d':Dyn),dl P S self rnd nl ⟨t,dfs,ctx,h⟩= .mk o d'->
 ∀(ι:aZ) (a:Act) (cs:List Frame) (w:World),TR ι t a.tmps->Sd P ι B rnd dfs ctx h b a.defers cs w->fn.ntmps<=a.tmps.size->
 dH P B rnd b k (lone (b.atR a (.inRegion ops (List.range' i l.length)::k)) cs w) ι ctx h a.tmps.size cs w o d':=by
 intro l
 induction l with
 |nil=>
  intro i nl pre _ hc t dfs ctx h o d' hrun ι a cs w hT s _
  cases hc
  cases hrun
  exact⟨ι,a,cs,w,.one stepR_region_end,hT,Mv.refl s,rfl⟩
 |cons o1 l ih=>
  intro i nl pre hl hc t dfs ctx h o d' hrun ι a cs w hT s hsz
  have hc':(match jK P ops o1 (pre.headD 0) i,dW P ops l (Nat.succ i) pre.tail with|some o,some l=>some (o::l)|_,_=>none)=some nl:=hc
  split at hc'
  ·rename_i no nl' h1 h2
   cases hc'
   obtain⟨i1,i2,i3,i4,i5⟩:=mu h1
   have ho:ops[i]? =some o1:=by have:=hl 0;simpa using this.symm
   have hl':∀j,l[j]? =ops[Nat.succ i+j]? :=λj=>by have:=hl (j+1);simp at this;rw[this];congr 1;omega
   have hdst:∀d,o1.dst=some d->d<a.tmps.size:=λd hd=>ad2 (hr.dst i o1 d ho hd) hsz
   rw[bP] at hrun
   have hrange:List.range' i (o1::l).length=i::List.range' (Nat.succ i) l.length:=by simp[List.range'_succ]
   rw[hrange]
   cases hgd:aF t no.guard with
   |none=>rw[hgd] at hrun;cases hrun
   |some on=>
    have hwant:=nW i3 (ops:=ops) (tmps:=a.tmps) (ι:=ι) (λk b _ v hv=>hT.2 k v hv) hgd
    rw[hgd] at hrun
    cases on with
    |false=>
     have hskip:=stepR_op_skip (P:=P) (b:=b) (a:=a) (k:=k) (cs:=cs) (w:=w) (ops:=ops) (i:=i) (rest:=List.range' (Nat.succ i) l.length) (by simp[ho,hwant])
     simp only[ho,Option.bind_some] at hskip
     have hT':TR ι (aN no.dst aK t) (a.put o1.dst undef).tmps:=by rw[i1];exact hT.putD hdst fO
     obtain⟨ι',a',cs',w',q1,q2,q3,q4⟩:=ih (Nat.succ i) nl' pre.tail hl' h2 _ dfs ctx h o d' hrun ι (a.put o1.dst undef) cs w hT' (by rw[put_defers];exact s) (by rw[gj];exact hsz)
     exact⟨ι',a',cs',w',q1.of_steps (.one hskip),q2,q3,by rw[q4,gj]⟩
    |true=>
     rcases i2 with i2|i2
     ·have hx:=fS (S:=S) (self:=self) (k:=k) (rest:=List.range' (Nat.succ i) l.length) hC ho hwant i2 (nX hT) s
      cases hoo:eD P S self rnd dfs ctx h (ai no.op t h) with
      |fail=>rw[hoo] at hrun;cases hrun
      |next v dfs1 ctx1 h1=>
       rw[hoo] at hrun hx
       obtain⟨v',ι1,ds1,cs1,w1,x1,x2,x3⟩:=hx
       have hrun':dl P S self rnd nl' ⟨aN no.dst v t,dfs1,ctx1,h1⟩= .mk o d':=hrun
       have hT':TR ι1 (aN no.dst v t) (({a with defers:=ds1}:Act).put o1.dst v').tmps:=by
        rw[i1];exact TR.putD (a:={a with defers:=ds1}) (hT.mono x3.gr.le) hdst x2
       obtain⟨ι',a',cs',w',q1,q2,q3,q4⟩:=ih (Nat.succ i) nl' pre.tail hl' h2 _ dfs1 ctx1 h1 o d' hrun' ι1 (({a with defers:=ds1}:Act).put o1.dst v') cs1 w1 hT' (by rw[put_defers];exact x3.sd) (by rw[gj];exact hsz)
       exact⟨ι',a',cs',w',q1.of_steps x1,q2,x3.trans q3,by rw[q4,gj]⟩
      |pan v h1=>
       rw[hoo] at hrun hx
       obtain⟨v',ι1,w1,td,x1,x2,x3⟩:=hx
       cases hrun
       exact⟨ι1,a,cs,w1,⟨td,v',x2,x1⟩,hT.mono x3.gr.le,x3,rfl⟩
     ·rw[i2] at hrun
      cases hrun
  ·cases hc'
end
open Go
structure AllocR (P:Program) (ι:aZ) (w:World) (f:NH->NR) (res:Result Next) (o:NO) (V:D4->NV):Prop where
 all:∀h,f h= .mem (V h.next) (h.add o)
 live:o≠.dead
 real:∃(v':Value) (w1:World) (O:Obj) (p:Pl),(w1=w∨w1=w.drew)/\res= .ok (.value v') (w1.alloc O)/\p.b=w.heap.size/\(∀ι':aZ,ι.le ι'->OR P ι' (w1.alloc O) p o)/\∀(ι':aZ) (n:D4),ι.le ι'->ι' n=some p->VR ι' (V n) v'
theorem VR.int_inv {ι:aZ} {k:IntKind} {n:Int} {v:Value} (h:VR ι (.int k (.lit n)) v):v= .int k n:=by cases h;rfl
section
variable {P:Program} {ι:aZ} {w:World} {t:Tm} {e:Operand->Value}
theorem jB {w1:World} {wr:Bool} {cs:List NV} {cur:Array Value} {T:TypeId} {fz:Nat×Nat} (hw:wr=true->fz=(0,0)) (hl:cs.length<=cur.size)
 (hc:∀(i:Nat) (v:NV),cs[i]? =some v->∃v':Value,cur[i]? =some v'/\VR ι v v'/\v'.oneCell'=true):
 ∀ι':aZ,ι.le ι'->OR P ι' (w1.alloc (.cells cur T fz)) ⟨w1.heap.size,0,cur.size⟩ (.cells wr cs):=λι' hle=>
 ⟨cur,T,fz,eF w1 _,hw,rfl,by simpa using hl,λi v hi=>by
  obtain⟨v',a,b,c⟩:=hc i v hi
  exact⟨v',by simpa using a,b.mono hle,c⟩⟩
theorem Ds {T:TypeId} {h0:NH} {dst:Option Tmp} {type:TypeId} {pos:String} {after:Array Edge} {guard:Option (Nat×Bool)} {n:NOp} (hc:ax P (.alloc T)=some n) (_hr:ai n t h0≠.fail):
 ∃o V,AllocR P ι w (ai n t) ((execOp e ⟨dst,.alloc T,type,pos,after,guard⟩).run P w) o V:=by
 replace hc:lp P T=some n:=hc
 unfold lp at hc
 split at hc
 ·rename_i z hz;rw[aj] at hc;cases hc
  obtain⟨i,zv,hi,hzv,hsz,hzl,hz1⟩:=cK (ι:=ι) hz
  refine⟨.cells true z,λn=> .ptr n 0,λh=>NH.new_eq h (.cells true z) λid h=>NR.mem (.ptr id 0) h,by simp, ?_⟩
  refine⟨_,w,.cells zv.cells T,⟨w.heap.size,0,zv.cells.size⟩,.inl rfl, ?_,rfl,jB (λ_=>rfl) (by rw[hzl.length];simp) (by simpa using hzl.at hz1),λι' n _ hn=>VR.ptr _ 0 _ hn⟩
  show (do pure (Next.value (←Instr.alloc T true (.tuple #[]))):Sem Next).run P w=_
  rw[bW]
  simp[a9,Instr.alloc,zeroValue,typeInfo,hi,hzv,newVar,newRow]
 ·cases hc
theorem Jy {T:TypeId} {x:Operand} {h0:NH} {dst:Option Tmp} {type:TypeId} {pos:String} {after:Array Edge} {guard:Option (Nat×Bool)} {n:NOp} (hc:ax P (.box T x)=some n) (hO:OE ι t e) (hr:ai n t h0≠.fail):
 ∃o V,AllocR P ι w (ai n t) ((execOp e ⟨dst,.box T x,type,pos,after,guard⟩).run P w) o V:=by
 replace hc:Ge T x=some n:=hc
 unfold Ge at hc
 split at hc
 ·rename_i y hy;rw[aj] at hc;cases hc
  obtain⟨v,h1,h2⟩:=aT (t:=t) (x:=y) (K:=λv=>aS (cellsOf v) λcs=>h0.new (.cells true cs) λid h=> .mem (.ptr id 0) h) rfl hr
  obtain⟨cs,h3,h4⟩:=aR h2 hr
  have hc:=(hO _ _ hy v h1).cells h3
  refine⟨.cells true cs,λn=> .ptr n 0,λh=> ?_,by simp, ?_⟩
  ·show wV t y _=_
   unfold wV
   rw[h1]
   show aS (cellsOf v) _=_
   rw[h3]
   exact NH.new_eq h (.cells true cs) λid h=>NR.mem (.ptr id 0) h
  refine⟨_,w,.cells (e x).cells T,⟨w.heap.size,0,(e x).cells.size⟩,.inl rfl, ?_,rfl,jB (λ_=>rfl) (by rw[hc.1.length];simp) (by simpa using hc.1.at hc.2),λι' n _ hn=>VR.ptr _ 0 _ hn⟩
  show (do pure (Next.value (←Instr.box T (e x))):Sem Next).run P w=_
  rw[bW]
  simp[a9,Instr.box,newVar,newRow]
 ·cases hc
theorem xU {T:TypeId} {dst:Option Tmp} {type:TypeId} {pos:String} {after:Array Edge} {guard:Option (Nat×Bool)}:
 ∃o V,AllocR P ι w (ai .mkMap t) ((execOp e ⟨dst,.makeMap T none,type,pos,after,guard⟩).run P w) o V:=
 ⟨.map [],λn=> .map n,λh=>NH.new_eq h (.map []) λid h=>NR.mem (.map id) h,by simp,_,w,.map #[] 0,⟨w.heap.size,0,0⟩,.inl rfl,rfl,rfl,λι' _=>⟨#[],0,eF w _,trivial,MapKept.stamped_empty 0⟩,λι' n _ hn=> .map _ _ hn⟩
theorem mK {T:TypeId} {len:Nat} {ps:Array (Nat×Operand)} {h0:NH} {dst:Option Tmp} {type:TypeId} {pos:String} {after:Array Edge} {guard:Option (Nat×Bool)} {n:NOp} (hc:ax P (.buildSlice T len ps)=some n) (hO:OE ι t e) (hr:ai n t h0≠.fail):
 ∃o V,AllocR P ι w (ai n t) ((execOp e ⟨dst,.buildSlice T len ps,type,pos,after,guard⟩).run P w) o V:=by
 have ep:(ps.map λ(i,x)=>(i,e x))=(ps.toList.map λp=>(p.1,e p.2)).toArray:=by apply Array.ext';simp
 unfold execOp
 dsimp only
 rw[bW,ep]
 replace hc:dk P T len ps.toList=some n:=hc
 unfold dk at hc
 split at hc
 ·rename_i el hT
  split at hc
  ·rename_i z k hz hk
   split at hc
   ·rename_i l hl
    obtain⟨c1,c2⟩:=aP hc
    rw[fG,aj,aj] at c2;cases c2
    rw[ab6] at c1
    have hsz:len*k<=16777216:=ac4 c1.2
    have h0':=ac4 c1.1
    have hq:=ie (ι:=ι) (t:=t) (e:=e) hO hl
    obtain⟨r,h1,h2⟩:=aR (o:=cM t l 0 (Nm.rep len z)) (K:=λl=>h0.new (.cells true l) λid h=> .mem (.slc id 0 len k len) h) rfl hr
    obtain⟨i,zv,i1,i2,i3,i4,i5⟩:=cK (ι:=ι) hz
    obtain⟨j,j1,j2⟩:=cF hk
    rw[i1] at j1;cases j1
    have hzl:=i4.length
    have hsize:zv.cells.size=k:=by simp at hzl;omega
    have hrow:((Array.range (len*k)).map (zv.cells[·% zv.cells.size]!)).toList=Nm.rep len zv.cells.toList:=by rw[←hsize];exact j7 zv.cells len
    obtain⟨q1,q2⟩:=jT i4 i5 len
    obtain⟨rs,k1,k2,k3⟩:=oU _ _ hq 0 _ r h1 ((Array.range (len*k)).map (zv.cells[·% zv.cells.size]!)) [] rfl (by rw[hrow];simpa using q1) (by rw[hrow];exact q2)
    simp only[ae4] at k2
    have hrs:rs.size=len*k:=by rw[tI _ _ _ k1];simp
    refine⟨.cells true r,λn=> .slc n 0 len k len,λh=> ?_,by simp, ?_⟩
    ·show aS (cM t l 0 (Nm.rep len z)) _=_
     rw[h1]
     exact NH.new_eq h (.cells true r) λid h=>NR.mem (.slc id 0 len k len) h
    refine⟨_,w,.cells rs el,⟨w.heap.size,0,rs.size⟩,.inl rfl, ?_,rfl,jB (λ_=>rfl) (by rw[k2.length];simp) (k2.atA k3 λi u hu=>by simpa using hu),
     λι' n _ hn=>VR.slc _ 0 len k _ _ ⟨w.heap.size,0,none⟩ len hn (aa2 _) (aa2 _) ?_ h0' (λ_=>⟨rfl, ?_⟩)⟩
    ·have hle:¬len*i.size>2 ^ 24:=by rw[j2];omega
     have hp:(λx=>some (x*i.size,i.size))=(λx:Nat=>some (Nat.mul x k,k)):=by rw[j2];rfl
     by_cases hnz:len*i.size=0
     ·have:len=0:=by rw[j2] at hnz;rcases Nat.mul_eq_zero.1 hnz with h|h<;>omega
      subst this
      have e1:((Array.range (0*k)).map (zv.cells[·% zv.cells.size]!))=#[]:=by simp
      rw[e1] at k1
      have e2:∀f:Nat->Value,((Array.range (0*i.size)).map f)=#[]:=λf=>by simp
      simp only[a9,Instr.buildSlice,Sem.run_bind,run_underlying hT,Result.andThen_ok,gJ i1,adE hle,Sem.run_pure,adF hnz,e2,hp,k1]
      simp[newRow]
     ·simp only[a9,Instr.buildSlice,Sem.run_bind,run_underlying hT,Result.andThen_ok,gJ i1,adE hle,Sem.run_pure,adE hnz,fT i1 i2,hp]
      rw[j2,k1]
      simp[newRow]
    ·have:=Nat.le_mul_of_pos_right len h0';simp only[maxLen];omega
    ·rw[hrs];simp
   ·cases hc
  ·cases hc
 ·cases hc
theorem sF {T:TypeId} {lo co:Operand} {h0:NH} {dst:Option Tmp} {type:TypeId} {pos:String} {after:Array Edge} {guard:Option (Nat×Bool)} {n:NOp} (hc:ax P (.makeSlice T lo co)=some n) (hO:OE ι t e) (hr:ai n t h0≠.fail):
 ∃o V,AllocR P ι w (ai n t) ((execOp e ⟨dst,.makeSlice T lo co,type,pos,after,guard⟩).run P w) o V:=by
 show ∃o V,AllocR P ι w (ai n t) ((do pure (Next.value (←Instr.makeSlice T (e lo) (e co))):Sem Next).run P w) o V
 rw[bW]
 replace hc:fW P T lo co=some n:=hc
 unfold fW at hc
 split at hc
 ·rename_i el hT
  split at hc
  ·rename_i z sz by_ yl yc hz hn hb hyl hyc
   obtain⟨c1,c2⟩:=aP hc
   rw[aj] at c2;cases c2
   have hpos:=ac4 c1
   obtain⟨k1,l,h1,h2⟩:=ee (t:=t) (x:=yl) (K:=λl=>gR t yc λc=>cond (Nat.ble l c) (cond (room c by_) (vH c z λcs=>h0.new (.cells true cs) λid h=> .mem (.slc id 0 l sz c) h) .fail) .fail) rfl hr
   obtain⟨k2,c,h3,h4⟩:=ee h2 hr
   obtain⟨d1,d2⟩:=aY h4 hr
   obtain⟨d3,d4⟩:=aY d2 hr
   have hlc:=ac4 d1
   obtain⟨b1,b2⟩:=lM d3
   obtain⟨i,zv,i1,i2,i3,i4,i5⟩:=cK (ι:=ι) hz
   obtain⟨i',j1,j2⟩:=cF hn
   rw[i1] at j1;cases j1
   obtain⟨i',j1,j3⟩:=lk hb
   rw[i1] at j1;cases j1
   have hzl:zv.cells.size=sz:=by have:=i4.length;simp at this;omega
   have hvx:=hO _ _ hyl _ h1
   have hvu:=hO _ _ hyc _ h3
   have hby:(i.bytes:Int)*(c:Int)<=281474976710656:=by
    have:((i.bytes*c:Nat):Int)<=281474976710656:=by rw[j3,Nat.mul_comm];omega
    rwa [Int.natCast_mul] at this
   have el1:e lo= .int k1 (Int.ofNat l):=VR.int_inv hvx
   have el2:e co= .int k2 (Int.ofNat c):=VR.int_inv hvu
   have hrun:=run_make (P:=P) w T el i zv hT i1 i2 k1 k2 (Int.ofNat l) (Int.ofNat c) (by simp) (by simp;exact hlc) hby (by simp;omega)
   rw[←el1,←el2,j2] at hrun
   have hmade:(madeCells zv.cells (c*sz)).toList=Nm.rep c zv.cells.toList:=by rw[←hzl];exact j7 zv.cells c
   obtain⟨q1,q2⟩:=jT i4 i5 c
   refine⟨.cells true (Nm.rep c z),λn=> .slc n 0 l sz c,λh=> ?_,by simp, ?_⟩
   ·show gR t yl _=_
    unfold gR wV
    rw[h1]
    show gR t yc _=_
    unfold gR wV
    rw[h3]
    show cond (Nat.ble l c) _ _=_
    rw[d1]
    show cond (room c by_) _ _=_
    rw[d3]
    show vH _ _ _=_
    rw[fG]
    exact NH.new_eq h (.cells true (Nm.rep c z)) λid h=>NR.mem (.slc id 0 l sz c) h
   refine⟨_,w,.cells (madeCells zv.cells (c*sz)) el,⟨w.heap.size,0,(madeCells zv.cells (c*sz)).size⟩,.inl rfl,by rw[a9,hrun];rfl,rfl,
    jB (λ_=>rfl) (by rw[q1.length,←hmade];simp) (q1.atA q2 λj u hu=>by rw[←hmade] at hu;simpa using hu),
    λι' n _ hn=>VR.slc _ 0 l sz _ _ ⟨w.heap.size,0,none⟩ c hn hlc (aa2 _) (by simp only[maxLen];omega) hpos (λ_=>⟨rfl,by simp[size_madeCells]⟩)⟩
  ·cases hc
 ·cases hc
theorem P2 (x:Operand) {n:NOp} (hc:ax P (.move x)=some n):aB n≠.alloc:=by
 replace hc:iy x=some n:=hc
 unfold iy at hc
 repeat' split at hc
 all_goals first
  |(cases hc;done)
  |(cases hc;simp[aB];done)
theorem FY (x:Operand) {n:NOp} (hc:ax P (.assign x)=some n):aB n≠.alloc:=by
 replace hc:iy x=some n:=hc
 unfold iy at hc
 repeat' split at hc
 all_goals first
  |(cases hc;done)
  |(cases hc;simp[aB];done)
theorem K9 (c a b:Operand) {n:NOp} (hc:ax P (.pick c a b)=some n):aB n≠.alloc:=by
 replace hc:rM c a b=some n:=hc
 unfold rM at hc
 repeat' split at hc
 all_goals first
  |(cases hc;done)
  |(cases hc;simp[aB];done)
theorem KS (T:TypeId) (x:Operand) {n:NOp} (hc:ax P (.load T x)=some n):aB n≠.alloc:=by
 replace hc:p9 P T x=some n:=hc
 unfold p9 at hc
 repeat' split at hc
 all_goals first
  |(cases hc;done)
  |(cases hc;simp[aB];done)
theorem H9 (T:TypeId) (a x:Operand) {n:NOp} (hc:ax P (.store T a x)=some n):aB n≠.alloc:=by
 replace hc:lc P T a x=some n:=hc
 unfold lc at hc
 repeat' split at hc
 all_goals first
  |(cases hc;done)
  |(cases hc;simp[aB];done)
theorem wU (x:Operand) {n:NOp} (hc:ax P (.nilCheck x)=some n):aB n≠.alloc:=by
 replace hc:eH x=some n:=hc
 unfold eH at hc
 repeat' split at hc
 all_goals first
  |(cases hc;done)
  |(cases hc;simp[aB];done)
theorem IS (op:BinOp) (T:TypeId) (x y:Operand) (T2:TypeId) {n:NOp} (hc:ax P (.binOp op T x y T2)=some n):aB n≠.alloc:=by
 replace hc:Gw P op T x y=some n:=hc
 unfold Gw at hc
 repeat' split at hc
 all_goals first
  |(cases hc;done)
  |(cases hc;simp[aB];done)
  |(replace hc:=(aP hc).2;cases hc;simp[aB];done)
  |(cases hb:(cY x||cY y)<;>rw[hb] at hc<;>cases hc<;>simp[aB];done)
  |(replace hc:=kr hc;cases hc;done)
  |(replace hc:=kr hc;cases hc;simp[aB];done)
theorem Lx (op:UnOp) (T:TypeId) (x:Operand) {n:NOp} (hc:ax P (.unOp op T x)=some n):aB n≠.alloc:=by
 replace hc:U7 op x=some n:=hc
 unfold U7 at hc
 repeat' split at hc
 all_goals first
  |(cases hc;done)
  |(cases hc;simp[aB];done)
theorem lS (T:TypeId) (x:Operand) {n:NOp} (hc:ax P (.makeInterface T x)=some n):aB n≠.alloc:=by
 replace hc:Fb P T x=some n:=hc
 unfold Fb at hc
 repeat' split at hc
 all_goals first
  |(cases hc;done)
  |(rw[aj] at hc;cases hc;simp[aB];done)
theorem sX (s:TypeId) (x:Operand) (f:Nat) {n:NOp} (hc:ax P (.fieldAddr s x f)=some n):aB n≠.alloc:=by
 replace hc:dS P s x f=some n:=hc
 unfold dS at hc
 repeat' split at hc
 all_goals first
  |(cases hc;done)
  |(replace hc:=(aP hc).2;cases hc;done)
  |(replace hc:=(aP hc).2;rw[aj] at hc;cases hc;simp[aB];done)
theorem IH (s:TypeId) (x:Operand) (f:Nat) {n:NOp} (hc:ax P (.field s x f)=some n):aB n≠.alloc:=by
 replace hc:lg P s x f=some n:=hc
 unfold lg at hc
 repeat' split at hc
 all_goals first
  |(cases hc;done)
  |(rw[aj] at hc;cases hc;simp[aB];done)
theorem sR (T:TypeId) (x i:Operand) {n:NOp} (hc:ax P (.indexAddr T x i)=some n):aB n≠.alloc:=by
 replace hc:dR P T x i=some n:=hc
 unfold dR at hc
 repeat' split at hc
 all_goals first
  |(cases hc;done)
  |(cases hc;simp[aB];done)
  |(rw[aj] at hc;cases hc;simp[aB];done)
theorem JA (T:TypeId) (x i:Operand) {n:NOp} (hc:ax P (.index T x i)=some n):aB n≠.alloc:=by
 replace hc:kO P T x i=some n:=hc
 unfold kO at hc
 repeat' split at hc
 all_goals first
  |(cases hc;done)
  |(cases hc;simp[aB];done)
  |(rw[aj] at hc;cases hc;simp[aB];done)
theorem FC (T:TypeId) (x i:Operand) (ok:Bool) {n:NOp} (hc:ax P (.lookup T x i ok)=some n):aB n≠.alloc:=by
 replace hc:jg P T x i ok=some n:=hc
 unfold jg at hc
 repeat' split at hc
 all_goals first
  |(cases hc;done)
  |(cases hc;simp[aB];done)
theorem sA (T:TypeId) (m k x:Operand) {n:NOp} (hc:ax P (.mapUpdate T m k x)=some n):aB n≠.alloc:=by
 replace hc:bA P T m k x=some n:=hc
 unfold bA at hc
 repeat' split at hc
 all_goals first
  |(cases hc;done)
  |(cases hc;simp[aB];done)
theorem EM (T:TypeId) (m k x:Operand) {n:NOp} (hc:ax P (.insert T m k x)=some n):aB n≠.alloc:=by
 replace hc:bA P T m k x=some n:=hc
 unfold bA at hc
 repeat' split at hc
 all_goals first
  |(cases hc;done)
  |(cases hc;simp[aB];done)
theorem qV (x:Operand) (X T:TypeId) {n:NOp} (hc:ax P (.typeAssert x X T true)=some n):aB n≠.alloc:=by
 replace hc:jp P T x=some n:=hc
 unfold jp at hc
 repeat' split at hc
 all_goals first
  |(cases hc;done)
  |(rw[aj] at hc;cases hc;simp[aB];done)
theorem zu (x:Operand) (i:Nat) {n:NOp} (hc:ax P (.extract x i)=some n):aB n≠.alloc:=by
 replace hc:gk x i=some n:=hc
 unfold gk at hc
 repeat' split at hc
 all_goals first
  |(cases hc;done)
  |(rw[aj] at hc;cases hc;simp[aB];done)
theorem Jp (x:Operand) {n:NOp} (hc:ax P (.panic x)=some n):aB n≠.alloc:=by
 replace hc:lq x=some n:=hc
 unfold lq at hc
 repeat' split at hc
 all_goals first
  |(cases hc;done)
  |(cases hc;simp[aB];done)
theorem JH (T:TypeId) (ps:Array (Nat×Operand)) {n:NOp} (hc:ax P (.build T ps)=some n):aB n≠.alloc:=by
 replace hc:lh P T ps.toList=some n:=hc
 unfold lh at hc
 repeat' split at hc
 all_goals first
  |(cases hc;done)
  |(cases hc;simp[aB];done)
theorem J1 (f:FuncId) (first caps:Array Operand) {n:NOp} (hc:ax P (.makeFunc (.func f) first caps)=some n):aB n≠.alloc:=by
 replace hc:pW f first.toList caps.toList=some n:=hc
 unfold pW at hc
 repeat' split at hc
 all_goals first
  |(cases hc;done)
  |(rw[aj] at hc;cases hc;simp[aB];done)
theorem Gp (T:TypeId) (x:Operand) (lo hi:Option Operand) {n:NOp} (hc:ax P (.slice T x lo hi none)=some n):aB n≠.alloc:=by
 replace hc:ly P T x lo hi=some n:=hc
 unfold ly at hc
 repeat' split at hc
 all_goals first
  |(cases hc;done)
  |(cases hc;simp[aB];done)
theorem Gk (T:TypeId) (x lo hi mx:Operand) {n:NOp} (hc:ax P (.slice T x (some lo) (some hi) (some mx))=some n):aB n≠.alloc:=by
 replace hc:jc P T x lo hi mx=some n:=hc
 unfold jc at hc
 repeat' split at hc
 all_goals first
  |(cases hc;done)
  |(cases hc;simp[aB];done)
theorem BQ {b:Builtin} {args:List NOpd} {ts:List TypeId} {n:NOp} (hc:di P b args ts=some n):aB n≠.alloc:=by
 unfold di at hc
 repeat' split at hc
 all_goals first
  |(cases hc;done)
  |(cases hc;simp[aB];done)
  |(rw[aj] at hc;cases hc;simp[aB];done)
  |(replace hc:=(aP hc).2;cases hc;done)
  |(replace hc:=(aP hc).2;rw[aj] at hc;cases hc;simp[aB];done)
theorem FQ {src T:TypeId} {x:Operand} {h0:NH} {dst:Option Tmp} {type:TypeId} {pos:String} {after:Array Edge} {guard:Option (Nat×Bool)} {n:NOp} (hc:ax P (.convert src T x)=some n) (hO:OE ι t e) (hcl:aB n= .alloc) (hr:ai n t h0≠.fail):
 ∃o V,AllocR P ι w (ai n t) ((execOp e ⟨dst,.convert src T x,type,pos,after,guard⟩).run P w) o V:=by
 show ∃o V,AllocR P ι w (ai n t) ((do pure (Next.value (←convert src T (e x))):Sem Next).run P w) o V
 rw[bW]
 replace hc:rJ P src T x=some n:=hc
 unfold rJ at hc
 split at hc
 ·rename_i y hy
  unfold iT at hc
  split at hc
  ·replace hc:=nd hc;cases hc;cases hcl
  ·cases hc
  ·rename_i el hS hT
   split at hc
   ·rename_i he
    rw[aj] at hc;cases hc
    obtain⟨v,h1,h2⟩:=aT (t:=t) (x:=y) (K:=λv=>match v with| .str s=>DA s λl=>dJ s λn=>cond (Nat.ble n 1099511627776) (h0.new (.cells false l) λid h=> .mem (.slc id 0 n 1 n) h) .fail|_=> .fail) rfl hr
    have hv:=hO _ _ hy v h1
    generalize hex:e x=xv at hv ⊢
    cases hv with
    |str l s hs=>
     subst hs
     dsimp only at h2
     rw[jJ,bS] at h2
     obtain⟨hlen,_⟩:=aY h2 hr
     have hlen':=ac4 hlen
     rw[aa0,cp] at hlen'
     have hge:=grownCap_ge w s.size 0 el
     have hcm:grownCap w s.size 0 el<=maxLen:=grownCap_le_maxLen w s.size 0 el (by simp only[maxLen];omega)
     have hrun:=run_bytes_of_string (P:=P) w src T el s hS hT he
     have hbs:(bytesRow s (grownCap w s.size 0 el)).size=grownCap w s.size 0 el:=by
      have:s.data.size=s.size:=rfl
      simp[bytesRow,this];omega
     have hcells:∀(i:Nat) (v:NV),((s.data.toList.map UInt8.toNat).map λx=>NV.int .u8 (.lit (.ofNat x)))[i]? =some v->∃v':Value,(bytesRow s (grownCap w s.size 0 el))[i]? =some v'/\VR ι v v'/\v'.oneCell'=true:=by
      intro i v hi
      obtain⟨v',a,b⟩:=(tf (ι:=ι) s).get hi
      refine⟨v', ?_,b, ?_⟩
      ·have hlt:i<s.data.size:=by
        have:=(List.getElem?_eq_some_iff.1 hi).1
        simpa using this
       rw[bytesRow_at s _ i hlt]
       rw[←a]
       unfold byteCells
       rw[List.getElem?_map,List.getElem?_eq_getElem (by simpa using hlt)]
       simp
      ·obtain⟨_,_,rfl⟩:=ab3.1 (List.mem_of_getElem? a)
       rfl
     refine⟨.cells false ((s.data.toList.map UInt8.toNat).map λx=>NV.int .u8 (.lit (.ofNat x))),λn=> .slc n 0 s.size 1 s.size,λh=> ?_,by simp, ?_⟩
     ·show wV t y _=_
      unfold wV
      rw[h1]
      show DA _ _=_
      rw[jJ,bS]
      show cond _ _ _=_
      rw[hlen,aa0,cp]
      exact NH.new_eq h (.cells false ((s.data.toList.map UInt8.toNat).map λx=>NV.int .u8 (.lit (.ofNat x)))) λid h=>NR.mem (.slc id 0 s.size 1 s.size) h
     refine⟨_,w.drew,_,⟨w.drew.heap.size,0,(bytesRow s (grownCap w s.size 0 el)).size⟩,.inr rfl,by rw[a9,hrun];rfl,rfl,
      jB (λhh=>by cases hh) (by rw[hbs,aa0,aa0,cp];exact hge) hcells,λι' n _ hn=>VR.slc _ 0 s.size 1 _ _ ⟨w.heap.size,0,none⟩ _ hn hge hge hcm (aa2 _) λ_=>⟨rfl,by rw[hbs];simp⟩⟩
    |_=>exact adD h2.symm hr
   ·cases hc
  ·split at hc
   ·cases hc;cases hcl
   ·cases hc
  ·split at hc
   ·replace hc:=(aP hc).2;cases hc;cases hcl
   ·cases hc
  ·cases hc
 ·cases hc
theorem yR {o:Oper} {h0:NH} {n:NOp} (hc:ax P o.op=some n) (hO:OE ι t e) (hcl:aB n= .alloc) (hr:ai n t h0≠.fail):
 ∃ob V,AllocR P ι w (ai n t) ((execOp e o).run P w) ob V:=by
 obtain⟨dst,op,type,pos,after,guard⟩:=o
 cases op with
 |move x=>exact adD hcl (P2 x hc)
 |assign x=>exact adD hcl (FY x hc)
 |pick c a b=>exact adD hcl (K9 c a b hc)
 |alloc T=>exact Ds hc hr
 |box T x=>exact Jy hc hO hr
 |build T ps=>exact adD hcl (JH T ps hc)
 |buildSlice T len ps=>exact mK hc hO hr
 |load T x=>exact adD hcl (KS T x hc)
 |store T a x=>exact adD hcl (H9 T a x hc)
 |nilCheck x=>exact adD hcl (wU x hc)
 |binOp op T x y T2=>exact adD hcl (IS op T x y T2 hc)
 |unOp op T x=>exact adD hcl (Lx op T x hc)
 |convert src T x=>exact FQ hc hO hcl hr
 |makeInterface T x=>exact adD hcl (lS T x hc)
 |makeFunc fn first caps=>
  cases fn with
  |func f=>exact adD hcl (J1 f first caps hc)
  |_=>have hc:(none:Option NOp)=some n:=hc;cases hc
 |makeMap T r=>
  cases r with
  |none=>cases hc;exact xU
  |some r=>have hc:(none:Option NOp)=some n:=hc;cases hc
 |makeSlice T l c=>exact sF hc hO hr
 |slice T x lo hi mx=>
  cases mx with
  |none=>exact adD hcl (Gp T x lo hi hc)
  |some mx=>
   cases lo with
   |none=>have hc:(none:Option NOp)=some n:=hc;cases hc
   |some lo=>
    cases hi with
    |none=>have hc:(none:Option NOp)=some n:=hc;cases hc
    |some hi=>exact adD hcl (Gk T x lo hi mx hc)
 |fieldAddr s x f=>exact adD hcl (sX s x f hc)
 |field s x f=>exact adD hcl (IH s x f hc)
 |indexAddr T x i=>exact adD hcl (sR T x i hc)
 |index T x i=>exact adD hcl (JA T x i hc)
 |lookup T x i ok=>exact adD hcl (FC T x i ok hc)
 |mapUpdate T m k x=>exact adD hcl (sA T m k x hc)
 |insert T m k x=>exact adD hcl (EM T m k x hc)
 |typeAssert x X T ok=>
  cases ok with
  |false=>have hc:(none:Option NOp)=some n:=hc;cases hc
  |true=>exact adD hcl (qV x X T hc)
 |extract x i=>exact adD hcl (zu x i hc)
 |panic x=>exact adD hcl (Jp x hc)
 |call c=>
  obtain⟨callee,args,ats⟩:=c
  cases callee with
  |value f=>
   replace hc:rU f args.toList=some n:=hc
   unfold rU at hc
   split at hc
   ·cases hc;cases hcl
   ·cases hc
  |builtin b=>
   replace hc:gu P b args.toList ats.toList=some n:=hc
   unfold gu at hc
   split at hc
   ·exact adD hcl (BQ hc)
   ·cases hc
  |invoke r m=>have hc:(none:Option NOp)=some n:=hc;cases hc
 |defer c=>
  obtain⟨callee,args,ats⟩:=c
  cases callee with
  |value f=>
   replace hc:gO f args.toList=some n:=hc
   unfold gO at hc
   split at hc
   ·cases hc;cases hcl
   ·cases hc
  |builtin b=>have hc:(none:Option NOp)=some n:=hc;cases hc
  |invoke r m=>have hc:(none:Option NOp)=some n:=hc;cases hc
 |_=>have hc:(none:Option NOp)=some n:=hc;cases hc
end
open Go
theorem IM {n:NOp} (hc:aB n= .pure) (t:Tm) (h h':NH):ai n t h=ai n t h':=by
 cases n<;>first|rfl|cases hc
def o9 (h h':NH):Prop:=∀id o,h.get id=some o->h'.get id=some o
theorem o9.refl (h:NH):o9 h h:=λ_ _ x=>x
theorem o9.trans {a b c:NH} (x:o9 a b) (y:o9 b c):o9 a c:=λi o h=>y i o (x i o h)
theorem o9.add {h:NH} (hf:∀i o,h.get i=some o->i.toNat<h.next.toNat) (o:NO):o9 h (h.add o):=λi u hi=>by
 have hne:i≠h.next:=λe=>by have:=hf i u hi;rw[e] at this;exact ad6 _ this
 rw[NH.get_add_ne _ _ hne];exact hi
theorem ll {h h':NH} (hx:o9 h h') {id:D4} {K:List NV->NR} {v:NV} (e:cz h id K= .val v):cz h' id K= .val v:=by
 obtain⟨wr,c,h1,h2⟩:=jq e (by simp)
 unfold cz
 rw[hx id _ h1];exact h2
theorem OH {h h':NH} (hx:o9 h h') {m:NV} {K:List (NV×NV)->NR} {v:NV} (e:qO h m K= .val v):qO h' m K= .val v:=by
 rcases pU e (by simp) with⟨rfl,h1⟩|⟨id,l,rfl,h1,h2⟩
 ·exact h1
 ·unfold qO
  dsimp only
  rw[hx id _ h1];exact h2
theorem qA {t:Tm} {x:NOpd} {K K':NV->NR} {v:NV} (e:wV t x K= .val v) (hk:∀u,K u= .val v->K' u= .val v):wV t x K'= .val v:=by
 obtain⟨u,h1,h2⟩:=aT e (by simp)
 unfold wV
 rw[h1];exact hk u h2
theorem Ki {n:NOp} (hc:aB n= .read) {t:Tm} {h h':NH} (hx:o9 h h') {v:NV} (e:ai n t h= .val v):ai n t h'= .val v:=by
 cases n with
 |load1 x=>
  refine qA (K':=λa=>match a with| .ptr id off=>cz h' id λc=>aS (kD c off) .val|_=> .fail) e λu hu=> ?_
  cases u<;>first|exact ll hx hu|exact hu
 |loadN k x=>
  refine qA (K':=λa=>match a with| .ptr id off=>cz h' id λc=>aS (fC c off k) λl=> .val (.agg l)|_=> .fail) e λu hu=> ?_
  cases u<;>first|exact ll hx hu|exact hu
 |lookup s z ok x i=>
  refine qA (K':=λm=>wV t i λk=>qO h' m λl=>aS (gP s k l) λr=>Option.rec (Bool.rec (.val z) (.val (.tup [z,.bool false])) ok) (λv=>Bool.rec (.val v) (.val (.tup [v,.bool true])) ok) r) e λu hu=> ?_
  exact qA hu λk hk=>OH hx hk
 |bytesToStr x=>
  refine qA (K':=λv=>iq 1 h' v λ_ l=>aS (eN l) λs=> .val (.str s)) e λu hu=> ?_
  cases u with
  |slc id off len es kc=>
   have hu':cond (Nat.beq es 1) (cz h id λc=>aS (fC c off (Nat.mul len 1)) λl=>aS (eN l) λs=> .val (.str s)) .fail=NR.val v:=hu
   obtain⟨h1,h2⟩:=aY hu' (by simp)
   show cond (Nat.beq es 1) (cz h' id λc=>aS (fC c off (Nat.mul len 1)) λl=>aS (eN l) λs=> .val (.str s)) .fail=NR.val v
   rw[h1]
   exact ll hx h2
  |_=>exact hu
 |lenMap x=>exact e
 |_=>cases hc
theorem iL:∀{a b:D4},bo a b=true->a=b:=by
 intro a
 induction a with
 |e=>intro b h;cases b<;>first|rfl|cases h
 |a d ih=>intro b h;cases b<;>first|(rw[ih h])|cases h
 |b d ih=>intro b h;cases b<;>first|(rw[ih h])|cases h
 |c d ih=>intro b h;cases b<;>first|(rw[ih h])|cases h
 |f d ih=>intro b h;cases b<;>first|(rw[ih h])|cases h
theorem cG {a b:Bool} (h:cond a b false=true):a=true/\b=true:=by
 cases a with
 |true=>exact⟨rfl,h⟩
 |false=>cases h
theorem iD {f:NV->NV->Bool} (hf:∀a b,f a b=true->a=b):∀{l m:List NV},eV f l m=true->l=m:=by
 intro l
 induction l with
 |nil=>intro m h;cases m<;>first|rfl|cases h
 |cons a l ih=>
  intro m h
  cases m with
  |nil=>cases h
  |cons b m=>
   obtain⟨h1,h2⟩:=cG (show cond (f a b) (eV f l m) false=true from h)
   rw[hf a b h1,ih h2]
theorem iC:∀(d:Nat) (a b:NV),aU d a b=true->a=b:=by
 intro d
 induction d with
 |zero=>intro a b h;cases h
 |succ d ih=>
  intro a b h
  replace h:GY (aU d) a b=true:=h
  unfold GY at h
  split at h
  ·rw[nH] at h;rw[eq_of_beq h]
  ·obtain⟨h1,h2⟩:=cG h
   rw[vJ h1]
   rw[iw] at h2
   rw[eq_of_beq h2]
  ·rw[qJ] at h;rw[eq_of_beq h]
  ·rfl
  ·rfl
  ·rfl
  ·rfl
  ·rfl
  ·obtain⟨h1,h2⟩:=cG h
   rw[iL h1,adK h2]
  ·obtain⟨h1,h2⟩:=cG h
   obtain⟨h3,h4⟩:=cG h2
   obtain⟨h5,h6⟩:=cG h4
   obtain⟨h7,h8⟩:=cG h6
   rw[iL h1,adK h3,adK h5,adK h7,adK h8]
  ·rw[iL h]
  ·rw[iL h]
  ·obtain⟨h1,h2⟩:=cG h
   rw[adK h1,iD ih h2]
  ·rw[iD ih h]
  ·rw[iD ih h]
  ·cases h
theorem tO {pre:Nat} {h:NH}:∀{l:List (Nat×(NH->NR)×NV)},stays pre h l=true->∀r∈l,pre.testBit r.1=false->r.2.1 h= .val r.2.2:=by
 intro l
 induction l with
 |nil=>intro _ r hr;cases hr
 |cons a l ih=>
  intro h1 r hr hb
  have h':cond (Nat.testBit pre a.1) (stays pre h l) (match a.2.1 h with| .val v=>cond (aU 4 v a.2.2) (stays pre h l) false|_=>false)=true:=h1
  cases hp:Nat.testBit pre a.1 with
  |true=>
   rw[hp] at h'
   rcases aa1.1 hr with rfl|hr
   ·rw[hp] at hb;cases hb
   ·exact ih h' r hr hb
  |false=>
   rw[hp] at h'
   simp only[cond_false] at h'
   split at h'
   ·rename_i v hv
    obtain⟨h2,h3⟩:=cG h'
    rcases aa1.1 hr with rfl|hr
    ·rw[hv,iC _ _ _ h2]
    ·exact ih h3 r hr hb
   ·cases h'
theorem tR {pre:Nat} {f:NH->NR} {v:NV}:∀{l:List (Nat×NH)},dw pre f v l=true->∀r∈l,pre.testBit r.1=false->f r.2= .val v:=by
 intro l
 induction l with
 |nil=>intro _ r hr;cases hr
 |cons a l ih=>
  intro h1 r hr hb
  have h':cond (Nat.testBit pre a.1) (dw pre f v l) (match f a.2 with| .val u=>cond (aU 4 u v) (dw pre f v l) false|_=>false)=true:=h1
  cases hp:Nat.testBit pre a.1 with
  |true=>
   rw[hp] at h'
   rcases aa1.1 hr with rfl|hr
   ·rw[hp] at hb;cases hb
   ·exact ih h' r hr hb
  |false=>
   rw[hp] at h'
   simp only[cond_false] at h'
   split at h'
   ·rename_i u hu
    obtain⟨h2,h3⟩:=cG h'
    rcases aa1.1 hr with rfl|hr
    ·rw[hu,iC _ _ _ h2]
    ·exact ih h3 r hr hb
   ·cases h'
theorem iE {pre:Nat}:∀{l:List (Nat×NH)},ahead pre l=true->∀r∈l,pre.testBit r.1=true:=by
 intro l
 induction l with
 |nil=>intro _ r hr;cases hr
 |cons a l ih=>
  intro h1 r hr
  obtain⟨h2,h3⟩:=cG (show cond (Nat.testBit pre a.1) (ahead pre l) false=true from h1)
  rcases aa1.1 hr with rfl|hr
  ·exact h2
  ·exact ih h3 r hr
theorem Gt {i:Nat}:∀{l:List NOper},bI i l=true->∀o∈l,o.pre.testBit i=true:=by
 intro l
 induction l with
 |nil=>intro _ r hr;cases hr
 |cons a l ih=>
  intro h1 r hr
  obtain⟨h2,h3⟩:=cG (show cond (Nat.testBit a.pre i) (bI i l) false=true from h1)
  rcases aa1.1 hr with rfl|hr
  ·exact h2
  ·exact ih h3 r hr
theorem Il:∀{l:List NOper} {m m':Nat},Ed l m=some m'->
 (∀j,m'.testBit j=true↔m.testBit j=true∨∃o∈l,o.idx=j)/\(l.map (·.idx)).Nodup/\(∀o∈l,m.testBit o.idx=false)/\
 (∀l1 o l2,l=l1++o::l2->∀j,o.pre.testBit j=true->m.testBit j=true∨∃o'∈l1,o'.idx=j):=by
 intro l
 induction l with
 |nil=>
  intro m m' h
  cases h
  exact⟨λj=>by simp,by simp,by simp,λl1 o l2 h=>by cases l1<;>cases h⟩
 |cons a l ih=>
  intro m m' h
  have h':cond (Nat.testBit m a.idx) none (cond (Nat.beq (Nat.land a.pre m) a.pre) (aG (Nat.lor m (Nat.pow 2 a.idx)) (Ed l)) none)=some m':=h
  cases hb:Nat.testBit m a.idx with
  |true=>rw[hb] at h';cases h'
  |false=>
   rw[hb] at h'
   obtain⟨h2,h3⟩:=aP (show cond (Nat.beq (Nat.land a.pre m) a.pre) (aG (Nat.lor m (Nat.pow 2 a.idx)) (Ed l)) none=some m' from h')
   rw[aj] at h3
   obtain⟨i1,i2,i3,i4⟩:=ih h3
   have hbit:∀j,(Nat.lor m (Nat.pow 2 a.idx)).testBit j=true↔m.testBit j=true∨a.idx=j:=λj=>by
    have e:Nat.lor m (Nat.pow 2 a.idx)=m|||2 ^ a.idx:=rfl
    rw[e,Nat.testBit_or,Bool.or_eq_true,Nat.testBit_two_pow]
    simp
   have hpre:∀j,a.pre.testBit j=true->m.testBit j=true:=λj hj=>by
    have e:a.pre&&& m=a.pre:=adK h2
    rw[←e,Nat.testBit_and,ab6] at hj
    exact hj.2
   refine⟨λj=> ?_, ?_, ?_, ?_⟩
   ·rw[i1 j,hbit j]
    constructor
    ·rintro ((h|h)|⟨o,h,h'⟩)
     ·exact .inl h
     ·exact .inr ⟨a,by simp,h⟩
     ·exact .inr ⟨o,by simp[h],h'⟩
    ·rintro (h|⟨o,h,hoj⟩)
     ·exact .inl (.inl h)
     ·rcases aa1.1 h with rfl|h
      ·exact .inl (.inr hoj)
      ·exact .inr ⟨o,h,hoj⟩
   ·rw[ac1,List.nodup_cons]
    refine⟨λhm=> ?_,i2⟩
    obtain⟨o,ho,he⟩:=ab3.1 hm
    have:=i3 o ho
    have h4:=(hbit o.idx).2 (.inr he.symm)
    rw[this] at h4;cases h4
   ·intro o ho
    rcases aa1.1 ho with rfl|ho
    ·exact hb
    ·cases hq:m.testBit o.idx with
     |false=>rfl
     |true=>have h4:=(hbit o.idx).2 (.inl hq);rw[i3 o ho] at h4;cases h4
   ·intro l1 o l2 he j hj
    cases l1 with
    |nil=>cases he;exact .inl (hpre j hj)
    |cons c l1=>
     injection he with he1 he2
     subst he1
     rcases i4 l1 o l2 he2 j hj with h4|⟨o',h4,h5⟩
     ·rcases (hbit j).1 h4 with h6|h6
      ·exact .inl h6
      ·exact .inr ⟨a,by simp,h6⟩
     ·exact .inr ⟨o',by simp[h4],h5⟩
open Go
inductive RK where
 |off
 |pure (v:NV)
 |alloc (v:NV) (h:NH)
 |read (v:NV)
 |eff (v:NV) (dfs:List Dfr) (ctx:Option NV) (h:NH)
structure Rec where
 o:NOper
 t:Tm
 dfs:List Dfr
 ctx:Option NV
 h:NH
 k:RK
def Rec.st (r:Rec):Dyn:=⟨r.t,r.dfs,r.ctx,r.h⟩
def Rec.val (r:Rec):NV:=match r.k with| .off=>aK| .pure v| .alloc v _| .read v| .eff v _ _ _=>v
def Rec.nx (r:Rec):Dyn:=match r.k with
 | .off| .pure _| .read _=>⟨aN r.o.dst r.val r.t,r.dfs,r.ctx,r.h⟩
 | .alloc _ h=>⟨aN r.o.dst r.val r.t,r.dfs,r.ctx,h⟩
 | .eff _ dfs ctx h=>⟨aN r.o.dst r.val r.t,dfs,ctx,h⟩
section
variable (P:Program) (S:cE) (self:Option D4->NC->Dyn->Res) (rnd:Option D4)
def Rec.ok (r:Rec):Prop:=match r.k with
 | .off=>aF r.t r.o.guard=some false
 | .pure v=>aF r.t r.o.guard=some true/\aB r.o.op= .pure/\ai r.o.op r.t r.h= .val v
 | .alloc v h=>aF r.t r.o.guard=some true/\aB r.o.op= .alloc/\ai r.o.op r.t r.h= .mem v h
 | .read v=>aF r.t r.o.guard=some true/\aB r.o.op= .read/\ai r.o.op r.t r.h= .val v
 | .eff v dfs ctx h=>aF r.t r.o.guard=some true/\aB r.o.op= .eff/\eD P S self rnd r.dfs r.ctx r.h (ai r.o.op r.t r.h)= .next v dfs ctx h
inductive Chain:Dyn->List Rec->Dyn->Prop
 |nil (d:Dyn):Chain d [] d
 |cons (r:Rec) (R:List Rec) (d':Dyn) (h:r.ok P S self rnd) (c:Chain r.nx R d'):Chain r.st (r::R) d'
def QE (i:Nat) (h0:NH) (r:Rec):Prop:=match r.k with
 | .alloc _ _| .eff _ _ _ _=>r.o.pre.testBit i=true
 | .read v=>r.o.pre.testBit i=false->ai r.o.op r.t h0= .val v
 |_=>True
def QR (i:Nat) (f:NH->NR) (v:NV) (r:Rec):Prop:=match r.k with
 | .eff _ _ _ h=>r.o.pre.testBit i=false->f h= .val v
 |_=>True
def QQ (r r':Rec):Prop:=match r.k with
 | .eff _ _ _ _=>QE r.o.idx r.h r'
 | .read v=>QR r.o.idx (ai r.o.op r.t) v r'
 |_=>True
end
section
variable {P:Program} {S:cE} {self:Option D4->NC->Dyn->Res} {rnd:Option D4}
theorem cq (o:NOper) (l:List NOper) (hs:List (Nat×NH)) (rs:List (Nat×(NH->NR)×NV)) (t:Tm) (dfs:List Dfr) (ctx:Option NV) (h:NH):
 bY P S self rnd (o::l) hs rs ⟨t,dfs,ctx,h⟩=match aF t o.guard with
  |none=> .fail
  |some false=>bY P S self rnd l hs rs ⟨aN o.dst aK t,dfs,ctx,h⟩
  |some true=>match aB o.op with
   | .pure=>(match ai o.op t h with
    | .val v=>bY P S self rnd l hs rs ⟨aN o.dst v t,dfs,ctx,h⟩
    |_=> .fail)
   | .alloc=>cond (ahead o.pre hs) (match ai o.op t h with
    | .mem v h=>bY P S self rnd l hs rs ⟨aN o.dst v t,dfs,ctx,h⟩
    |_=> .fail) .fail
   | .read=>(match ai o.op t h with
    | .val v=>cond (dw o.pre (ai o.op t) v hs) (bY P S self rnd l hs ((o.idx,ai o.op t,v)::rs) ⟨aN o.dst v t,dfs,ctx,h⟩) .fail
    |_=> .fail)
   | .eff=>cond (ahead o.pre hs) (dz (bI o.idx l) (ER o.dst (λd=>cond (stays o.pre d.h rs) (bY P S self rnd l ((o.idx,h)::hs) rs d) .fail) t dfs ctx (eD P S self rnd dfs ctx h (ai o.op t h)))) .fail:=by
 have e:bY P S self rnd (o::l) hs rs ⟨t,dfs,ctx,h⟩=Option.rec .fail (λon=>Bool.rec (jY o.dst aK t λt=>bY P S self rnd l hs rs ⟨t,dfs,ctx,h⟩)
  (match aB o.op with
   | .pure=>(match ai o.op t h with
    | .val v=>jY o.dst v t λt=>bY P S self rnd l hs rs ⟨t,dfs,ctx,h⟩
    |_=> .fail)
   | .alloc=>cond (ahead o.pre hs) (match ai o.op t h with
    | .mem v h=>jY o.dst v t λt=>bY P S self rnd l hs rs ⟨t,dfs,ctx,h⟩
    |_=> .fail) .fail
   | .read=>(match ai o.op t h with
    | .val v=>cond (dw o.pre (ai o.op t) v hs) (jY o.dst v t λt'=>bY P S self rnd l hs ((o.idx,ai o.op t,v)::rs) ⟨t',dfs,ctx,h⟩) .fail
    |_=> .fail)
   | .eff=>cond (ahead o.pre hs) (dz (bI o.idx l) (qL P S self rnd o.dst (λd=>cond (stays o.pre d.h rs) (bY P S self rnd l ((o.idx,h)::hs) rs d) .fail) t dfs ctx h (ai o.op t h))) .fail) on)
  (aF t o.guard):=rfl
 rw[e]
 cases aF t o.guard with
 |none=>rfl
 |some on=>
  cases on with
  |false=>exact dQ o.dst aK t λt=>bY P S self rnd l hs rs ⟨t,dfs,ctx,h⟩
  |true=>
   dsimp only
   cases aB o.op with
   |pure=>
    dsimp only
    cases ai o.op t h<;>first|rfl|exact dQ o.dst _ t λt=>bY P S self rnd l hs rs ⟨t,dfs,ctx,h⟩
   |alloc=>
    dsimp only
    congr 1
    cases ai o.op t h with
    |mem v h=>exact dQ o.dst v t λt=>bY P S self rnd l hs rs ⟨t,dfs,ctx,h⟩
    |_=>rfl
   |read=>
    dsimp only
    cases ai o.op t h with
    |val v=>exact congrArg (λx=>cond (dw o.pre (ai o.op t) v hs) x .fail) (dQ o.dst v t λt'=>bY P S self rnd l hs ((o.idx,ai o.op t,v)::rs) ⟨t',dfs,ctx,h⟩)
    |_=>rfl
   |eff=>
    dsimp only
    rw[tQ]
theorem Fx {b:Bool} {r:Res} {d:Dyn} (h:dz b r= .mk .norm d):r= .mk .norm d:=by
 unfold dz at h
 split at h
 ·cases b<;>cases h
 ·exact h
theorem H8 {b:Bool} {r:Res} {v:NV} {d:Dyn} (h:dz b r= .mk (.pan v) d):r= .mk (.pan v) d/\b=true:=by
 unfold dz at h
 split at h
 ·cases b with
  |true=>exact⟨h,rfl⟩
  |false=>cases h
 ·rename_i hn;exact adD h (hn v d)
theorem Ju:∀(l:List NOper) (hs:List (Nat×NH)) (rs:List (Nat×(NH->NR)×NV)) (d d':Dyn),bY P S self rnd l hs rs d= .mk .norm d'->
 ∃R:List Rec,R.map (·.o)=l/\Chain P S self rnd d R d'/\R.Pairwise QQ/\(∀e∈hs,∀r∈R,QE e.1 e.2 r)/\(∀e∈rs,∀r∈R,QR e.1 e.2.1 e.2.2 r):=by
 intro l
 induction l with
 |nil=>
  intro hs rs d d' h
  cases h
  exact⟨[],rfl,.nil _,.nil,by simp,by simp⟩
 |cons o l ih=>
  intro hs rs d d' h
  obtain⟨t,dfs,ctx,hp⟩:=d
  rw[cq] at h
  cases hg:aF t o.guard with
  |none=>rw[hg] at h;cases h
  |some on=>
   rw[hg] at h
   cases on with
   |false=>
    obtain⟨R,h1,h2,h3,h4,h5⟩:=ih hs rs _ d' h
    refine⟨⟨o,t,dfs,ctx,hp,.off⟩::R,by rw[ac1,h1],.cons ⟨o,t,dfs,ctx,hp,.off⟩ R d' hg h2,.cons (λr _=>trivial) h3,λe he r hr=> ?_,λe he r hr=> ?_⟩
    ·rcases aa1.1 hr with rfl|hr
     ·trivial
     ·exact h4 e he r hr
    ·rcases aa1.1 hr with rfl|hr
     ·trivial
     ·exact h5 e he r hr
   |true=>
    dsimp only at h
    cases hcl:aB o.op with
    |pure=>
     rw[hcl] at h
     dsimp only at h
     cases hop:ai o.op t hp with
     |val v=>
      rw[hop] at h
      obtain⟨R,h1,h2,h3,h4,h5⟩:=ih hs rs _ d' h
      refine⟨⟨o,t,dfs,ctx,hp,.pure v⟩::R,by rw[ac1,h1],.cons ⟨o,t,dfs,ctx,hp,.pure v⟩ R d' ⟨hg,hcl,hop⟩ h2,.cons (λr _=>trivial) h3,λe he r hr=> ?_,λe he r hr=> ?_⟩
      ·rcases aa1.1 hr with rfl|hr
       ·trivial
       ·exact h4 e he r hr
      ·rcases aa1.1 hr with rfl|hr
       ·trivial
       ·exact h5 e he r hr
     |_=>rw[hop] at h;cases h
    |alloc=>
     rw[hcl] at h
     dsimp only at h
     cases ha:ahead o.pre hs with
     |false=>rw[ha] at h;cases h
     |true=>
      rw[ha] at h
      simp only[cond_true] at h
      cases hop:ai o.op t hp with
      |mem v h0=>
       rw[hop] at h
       obtain⟨R,h1,h2,h3,h4,h5⟩:=ih hs rs _ d' h
       refine⟨⟨o,t,dfs,ctx,hp,.alloc v h0⟩::R,by rw[ac1,h1],.cons ⟨o,t,dfs,ctx,hp,.alloc v h0⟩ R d' ⟨hg,hcl,hop⟩ h2,.cons (λr _=>trivial) h3,λe he r hr=> ?_,λe he r hr=> ?_⟩
       ·rcases aa1.1 hr with rfl|hr
        ·exact iE ha e he
        ·exact h4 e he r hr
       ·rcases aa1.1 hr with rfl|hr
        ·trivial
        ·exact h5 e he r hr
      |_=>rw[hop] at h;cases h
    |read=>
     rw[hcl] at h
     dsimp only at h
     cases hop:ai o.op t hp with
     |val v=>
      rw[hop] at h
      dsimp only at h
      cases hst:dw o.pre (ai o.op t) v hs with
      |false=>rw[hst] at h;cases h
      |true=>
       rw[hst] at h
       obtain⟨R,h1,h2,h3,h4,h5⟩:=ih hs ((o.idx,ai o.op t,v)::rs) _ d' h
       refine⟨⟨o,t,dfs,ctx,hp,.read v⟩::R,by rw[ac1,h1],.cons ⟨o,t,dfs,ctx,hp,.read v⟩ R d' ⟨hg,hcl,hop⟩ h2,.cons (λr hr=>h5 (o.idx,ai o.op t,v) (by simp) r hr) h3,λe he r hr=> ?_,λe he r hr=> ?_⟩
       ·rcases aa1.1 hr with rfl|hr
        ·exact λhb=>tR hst e he hb
        ·exact h4 e he r hr
       ·rcases aa1.1 hr with rfl|hr
        ·trivial
        ·exact h5 e (by simp[he]) r hr
     |_=>rw[hop] at h;cases h
    |eff=>
     rw[hcl] at h
     dsimp only at h
     cases ha:ahead o.pre hs with
     |false=>rw[ha] at h;cases h
     |true=>
      rw[ha] at h
      replace h:=Fx h
      cases hoo:eD P S self rnd dfs ctx hp (ai o.op t hp) with
      |fail=>rw[hoo] at h;cases h
      |pan v h0=>rw[hoo] at h;cases h
      |next v dfs1 ctx1 h0=>
       rw[hoo] at h
       have h':cond (stays o.pre h0 rs) (bY P S self rnd l ((o.idx,hp)::hs) rs ⟨aN o.dst v t,dfs1,ctx1,h0⟩) .fail= .mk .norm d':=h
       cases hsy:stays o.pre h0 rs with
       |false=>rw[hsy] at h';cases h'
       |true=>
        rw[hsy] at h'
        obtain⟨R,h1,h2,h3,h4,h5⟩:=ih ((o.idx,hp)::hs) rs _ d' h'
        refine⟨⟨o,t,dfs,ctx,hp,.eff v dfs1 ctx1 h0⟩::R,by rw[ac1,h1],.cons ⟨o,t,dfs,ctx,hp,.eff v dfs1 ctx1 h0⟩ R d' ⟨hg,hcl,hoo⟩ h2,.cons (λr hr=>h4 (o.idx,hp) (by simp) r hr) h3,λe he r hr=> ?_,λe he r hr=> ?_⟩
        ·rcases aa1.1 hr with rfl|hr
         ·exact iE ha e he
         ·exact h4 e (by simp[he]) r hr
        ·rcases aa1.1 hr with rfl|hr
         ·exact λhb=>tO hsy e he hb
         ·exact h5 e he r hr
def Rec.isE (r:Rec):Prop:=match r.k with| .eff _ _ _ _=>True|_=>False
theorem Ko {v:NV}:∀(l:List NOper) (hs:List (Nat×NH)) (rs:List (Nat×(NH->NR)×NV)) (d d':Dyn),bY P S self rnd l hs rs d= .mk (.pan v) d'->
 ∃(R:List Rec) (q:Rec) (l2:List NOper) (h':NH),l=R.map (·.o)++q.o::l2/\Chain P S self rnd d R q.st/\R.Pairwise QQ/\(∀e∈hs,∀r∈R,QE e.1 e.2 r)/\(∀e∈rs,∀r∈R,QR e.1 e.2.1 e.2.2 r)/\
  aF q.t q.o.guard=some true/\aB q.o.op= .eff/\eD P S self rnd q.dfs q.ctx q.h (ai q.o.op q.t q.h)= .pan v h'/\d'=⟨q.t,q.dfs,q.ctx,h'⟩/\
  (∀e∈hs,q.o.pre.testBit e.1=true)/\(∀r∈R,r.isE->q.o.pre.testBit r.o.idx=true)/\∀o∈l2,o.pre.testBit q.o.idx=true:=by
 intro l
 induction l with
 |nil=>intro hs rs d d' h;cases h
 |cons o l ih=>
  intro hs rs d d' h
  obtain⟨t,dfs,ctx,hp⟩:=d
  rw[cq] at h
  have fin:∀(r0:Rec) (hs1:List (Nat×NH)) (rs1:List (Nat×(NH->NR)×NV)),r0.o=o->r0.st=⟨t,dfs,ctx,hp⟩->r0.ok P S self rnd->bY P S self rnd l hs1 rs1 r0.nx= .mk (.pan v) d'->(∀e∈hs,e∈hs1)->(∀e∈rs,e∈rs1)->
   (∀R:List Rec,(∀e∈hs1,∀r∈R,QE e.1 e.2 r)->(∀e∈rs1,∀r∈R,QR e.1 e.2.1 e.2.2 r)->∀r∈R,QQ r0 r)->(∀e∈hs,QE e.1 e.2 r0)->(∀e∈rs,QR e.1 e.2.1 e.2.2 r0)->(r0.isE->∃h,(r0.o.idx,h)∈hs1)->
   ∃(R:List Rec) (q:Rec) (l2:List NOper) (h':NH),o::l=R.map (·.o)++q.o::l2/\Chain P S self rnd ⟨t,dfs,ctx,hp⟩ R q.st/\R.Pairwise QQ/\(∀e∈hs,∀r∈R,QE e.1 e.2 r)/\(∀e∈rs,∀r∈R,QR e.1 e.2.1 e.2.2 r)/\
    aF q.t q.o.guard=some true/\aB q.o.op= .eff/\eD P S self rnd q.dfs q.ctx q.h (ai q.o.op q.t q.h)= .pan v h'/\d'=⟨q.t,q.dfs,q.ctx,h'⟩/\
    (∀e∈hs,q.o.pre.testBit e.1=true)/\(∀r∈R,r.isE->q.o.pre.testBit r.o.idx=true)/\∀o∈l2,o.pre.testBit q.o.idx=true:=by
   intro r0 hs1 rs1 e1 e2 hok hrun s1 s2 hqq hqe hqr hise
   obtain⟨R,q,l2,h',q1,q2,q3,q4,q5,q6,q7,q8,q9,q10,q11,q12⟩:=ih hs1 rs1 _ d' hrun
   refine⟨r0::R,q,l2,h',by rw[q1,ac1,e1];rfl,e2▸.cons r0 R q.st hok q2,.cons (hqq R q4 q5) q3,λe he r hr=> ?_,λe he r hr=> ?_,q6,q7,q8,q9,λe he=>q10 e (s1 e he),λr hr hE=> ?_,q12⟩
   ·rcases aa1.1 hr with rfl|hr
    ·exact hqe e he
    ·exact q4 e (s1 e he) r hr
   ·rcases aa1.1 hr with rfl|hr
    ·exact hqr e he
    ·exact q5 e (s2 e he) r hr
   ·rcases aa1.1 hr with rfl|hr
    ·obtain⟨h0,hm⟩:=hise hE;exact q10 _ hm
    ·exact q11 r hr hE
  cases hg:aF t o.guard with
  |none=>rw[hg] at h;cases h
  |some on=>
   rw[hg] at h
   cases on with
   |false=>exact fin ⟨o,t,dfs,ctx,hp,.off⟩ hs rs rfl rfl hg h (λ_ x=>x) (λ_ x=>x) (λ_ _ _ _ _=>trivial) (λ_ _=>trivial) (λ_ _=>trivial) (λx=>x.elim)
   |true=>
    dsimp only at h
    cases hcl:aB o.op with
    |pure=>
     rw[hcl] at h
     dsimp only at h
     cases hop:ai o.op t hp with
     |val u=>
      rw[hop] at h
      exact fin ⟨o,t,dfs,ctx,hp,.pure u⟩ hs rs rfl rfl ⟨hg,hcl,hop⟩ h (λ_ x=>x) (λ_ x=>x) (λ_ _ _ _ _=>trivial) (λ_ _=>trivial) (λ_ _=>trivial) (λx=>x.elim)
     |_=>rw[hop] at h;cases h
    |alloc=>
     rw[hcl] at h
     dsimp only at h
     cases ha:ahead o.pre hs with
     |false=>rw[ha] at h;cases h
     |true=>
      rw[ha] at h
      simp only[cond_true] at h
      cases hop:ai o.op t hp with
      |mem u h0=>
       rw[hop] at h
       exact fin ⟨o,t,dfs,ctx,hp,.alloc u h0⟩ hs rs rfl rfl ⟨hg,hcl,hop⟩ h (λ_ x=>x) (λ_ x=>x) (λ_ _ _ _ _=>trivial) (λe he=>iE ha e he) (λ_ _=>trivial) (λx=>x.elim)
      |_=>rw[hop] at h;cases h
    |read=>
     rw[hcl] at h
     dsimp only at h
     cases hop:ai o.op t hp with
     |val u=>
      rw[hop] at h
      dsimp only at h
      cases hst:dw o.pre (ai o.op t) u hs with
      |false=>rw[hst] at h;cases h
      |true=>
       rw[hst] at h
       exact fin ⟨o,t,dfs,ctx,hp,.read u⟩ hs ((o.idx,ai o.op t,u)::rs) rfl rfl ⟨hg,hcl,hop⟩ h (λ_ x=>x) (λ_ x=>by simp[x]) (λR _ h5 r hr=>h5 (o.idx,ai o.op t,u) (by simp) r hr) (λe he hb=>tR hst e he hb) (λ_ _=>trivial) (λx=>x.elim)
     |_=>rw[hop] at h;cases h
    |eff=>
     rw[hcl] at h
     dsimp only at h
     cases ha:ahead o.pre hs with
     |false=>rw[ha] at h;cases h
     |true=>
      rw[ha] at h
      obtain⟨h,hbh⟩:=H8 h
      cases hoo:eD P S self rnd dfs ctx hp (ai o.op t hp) with
      |fail=>rw[hoo] at h;cases h
      |pan u h0=>
       rw[hoo] at h
       cases h
       exact⟨[],⟨o,t,dfs,ctx,hp,.off⟩,l,h0,rfl,.nil _,.nil,by simp,by simp,hg,hcl,hoo,rfl,λe he=>iE ha e he,by simp,Gt hbh⟩
      |next u dfs1 ctx1 h0=>
       rw[hoo] at h
       have h':cond (stays o.pre h0 rs) (bY P S self rnd l ((o.idx,hp)::hs) rs ⟨aN o.dst u t,dfs1,ctx1,h0⟩) .fail= .mk (.pan v) d':=h
       cases hsy:stays o.pre h0 rs with
       |false=>rw[hsy] at h';cases h'
       |true=>
        rw[hsy] at h'
        exact fin ⟨o,t,dfs,ctx,hp,.eff u dfs1 ctx1 h0⟩ ((o.idx,hp)::hs) rs rfl rfl ⟨hg,hcl,hoo⟩ h' (λ_ x=>by simp[x]) (λ_ x=>x) (λR h4 _ r hr=>h4 (o.idx,hp) (by simp) r hr) (λe he=>iE ha e he) (λe he hb=>tO hsy e he hb) (λ_=>⟨hp,by simp⟩)
end
open Go
theorem NT.get_del_same {α:Type} (d:D4) (t:NT α):NT.get d (NT.del d t)=none:=by
 induction d generalizing t with
 |e=>cases t<;>rfl
 |a d ih=>cases t<;>first|rfl|exact ih _
 |b d ih=>cases t<;>first|rfl|exact ih _
 |c d ih=>cases t<;>first|rfl|exact ih _
 |f d ih=>cases t<;>first|rfl|exact ih _
theorem NT.get_del_ne {α:Type} {d i:D4} (h:i≠d) (t:NT α):NT.get i (NT.del d t)=NT.get i t:=by
 induction d generalizing t i with
 |e=>cases i<;>first|exact adD rfl h|(cases t<;>rfl)
 |a d ih=>cases i<;>cases t<;>first|rfl|exact ih (λx=>h (by rw[x])) _
 |b d ih=>cases i<;>cases t<;>first|rfl|exact ih (λx=>h (by rw[x])) _
 |c d ih=>cases i<;>cases t<;>first|rfl|exact ih (λx=>h (by rw[x])) _
 |f d ih=>cases i<;>cases t<;>first|rfl|exact ih (λx=>h (by rw[x])) _
theorem IU:∀{l:List NOper} {t:Tm} {k:D4} {v:NV},NT.get k (mz l t)=some v->NT.get k t=some v/\∀o∈l,o.dst≠some k:=by
 intro l
 induction l with
 |nil=>intro t k v h;exact⟨h,by simp⟩
 |cons o l ih=>
  intro t k v h
  have h':NT.get k (match o.dst with|some d=>NT.del d (mz l t)|none=>mz l t)=some v:=h
  cases hd:o.dst with
  |none=>
   rw[hd] at h'
   obtain⟨h1,h2⟩:=ih h'
   refine⟨h1,λo' ho=> ?_⟩
   rcases aa1.1 ho with rfl|ho
   ·rw[hd];simp
   ·exact h2 o' ho
  |some d=>
   rw[hd] at h'
   dsimp only at h'
   have hne:k≠d:=λe=>by rw[e,NT.get_del_same] at h';cases h'
   rw[NT.get_del_ne hne] at h'
   obtain⟨h1,h2⟩:=ih h'
   refine⟨h1,λo' ho=> ?_⟩
   rcases aa1.1 ho with rfl|ho
   ·rw[hd];exact λe=>hne (Option.some.inj e).symm
   ·exact h2 o' ho
structure Lay (P:Program) (ops:Array Oper) (l:List NOper):Prop where
 mem:∀no∈l,∃o,ops[no.idx]? =some o/\no.dst=o.dst.map D4.of/\(ax P o.op=some no.op∨no.op= .fail)/\rG ops o.guard no.guard/\no.pre=Es ops no.idx
 nodup:(l.map (·.idx)).Nodup
 all:∀i,i<ops.size->∃no∈l,no.idx=i
 pre:∀l1 o l2,l=l1++o::l2->∀j,o.pre.testBit j=true->∃o'∈l1,o'.idx=j
 once:∀(i j:Nat) (oi oj:Oper) (t:Nat),ops[i]? =some oi->ops[j]? =some oj->oi.dst=some t->oj.dst=some t->i=j
theorem tb {P:Program} {ops:Array Oper}:∀(l:List Oper) (i:Nat) (nl:List NOper) (pre:List Nat),(∀j,l[j]? =ops[i+j]?)->(∀j,pre.getD j 0=Es ops (i+j))->dW P ops l i pre=some nl->
 ∀no∈nl,∃o,ops[no.idx]? =some o/\no.dst=o.dst.map D4.of/\(ax P o.op=some no.op∨no.op= .fail)/\rG ops o.guard no.guard/\no.pre=Es ops no.idx:=by
 intro l
 induction l with
 |nil=>intro i nl pre _ _ hc no hno;cases hc;cases hno
 |cons o1 l ih=>
  intro i nl pre hl hp hc no hno
  have hc':(match jK P ops o1 (pre.headD 0) i,dW P ops l (Nat.succ i) pre.tail with|some o,some l=>some (o::l)|_,_=>none)=some nl:=hc
  split at hc'
  ·rename_i no' nl' h1 h2
   cases hc'
   rcases aa1.1 hno with rfl|hno
   ·obtain⟨i1,i2,i3,i4,i5⟩:=mu h1
    have ho:ops[i]? =some o1:=by have:=hl 0;simpa using this.symm
    have hpi:pre.headD 0=Es ops i:=by have:=hp 0;cases pre<;>simpa using this
    exact⟨o1,by rw[i5];exact ho,i1,i2,i3,by rw[i4,i5,hpi]⟩
   ·refine ih (Nat.succ i) nl' pre.tail (λj=> ?_) (λj=> ?_) h2 no hno
    ·have:=hl (j+1);simp at this;rw[this];congr 1;omega
    ·have:=hp (j+1)
     rw[show Nat.succ i+j=i+(j+1) by omega,←this]
     cases pre<;>simp
  ·cases hc'
theorem np {k:Nat} {es:List Nat} {eff:Bool} {rest:List NOper}:∀{l:List NOper} {o:NOper},o∈lC k es eff l rest->o∈l∨o∈rest:=by
 intro l
 induction l with
 |nil=>intro o h;exact .inr h
 |cons a l ih=>
  intro o h
  have h':o∈(Bool.rec (lC k es eff l rest) (a::lC k es eff l rest) (Bool.rec false (Nat.beq (Mj a.pre es) k) (Bool.rec (Bool.rec true false eff) eff (HU (aB a.op)))):List NOper):=h
  generalize (Bool.rec false (Nat.beq (Mj a.pre es) k) (Bool.rec (Bool.rec true false eff) eff (HU (aB a.op))):Bool)=c at h'
  cases c with
  |false=>rcases ih h' with h|h<;>simp[h]
  |true=>
   rcases aa1.1 h' with rfl|h'
   ·simp
   ·rcases ih h' with h|h<;>simp[h]
theorem GM {es:List Nat} {l:List NOper}:∀{ks:List Nat} {k:Nat} {o:NOper},o∈EW es l ks k->o∈l:=by
 intro ks
 induction ks with
 |nil=>
  intro k o h
  rcases np (show o∈lC k es false l [] from h) with h|h
  ·exact h
  ·cases h
 |cons a ks ih=>
  intro k o h
  have h':o∈lC k es false l (lC k es true l (aG (Nat.succ k) (EW es l ks))):=h
  rw[aj] at h'
  rcases np h' with h|h
  ·exact h
  ·rcases np h with h|h
   ·exact h
   ·exact ih h
theorem IT {α R:Type} (l:List α) (K:List α->R):Gc l K=K l:=by
 induction l generalizing K with
 |nil=>rfl
 |cons a l ih=>exact ih λt=>K (a::t)
theorem rH (t:Nat) (o:Oper) (l:List Oper):jv t (o::l)=if o.dst=some t then jv t l+1 else jv t l:=by
 have e:jv t (o::l)=(match o.dst with|some d=>Bool.rec (jv t l) (Nat.succ (jv t l)) (Nat.beq d t)|none=>jv t l):=rfl
 rw[e]
 cases o.dst with
 |none=>simp
 |some d=>
  dsimp only
  cases h:Nat.beq d t with
  |true=>have:=adK h;simp[this]
  |false=>have:=ad3 h;simp[this]
theorem IB {t:Nat}:∀{l:List Oper} {i:Nat} {o:Oper},l[i]? =some o->o.dst=some t->1<=jv t l:=by
 intro l
 induction l with
 |nil=>intro i o h;simp at h
 |cons a l ih=>
  intro i o h hd
  rw[rH]
  cases i with
  |zero=>simp at h;subst h;rw[adF hd];omega
  |succ i=>have:=ih (by simpa using h) hd;split<;>omega
theorem tB {t:Nat}:∀{l:List Oper} {i j:Nat} {o o':Oper},i<j->l[i]? =some o->l[j]? =some o'->o.dst=some t->o'.dst=some t->2<=jv t l:=by
 intro l
 induction l with
 |nil=>intro i j o o' _ h;simp at h
 |cons a l ih=>
  intro i j o o' hij h h' hd hd'
  rw[rH]
  cases j with
  |zero=>omega
  |succ j=>
   cases i with
   |zero=>simp at h;subst h;rw[adF hd];have:=IB (l:=l) (by simpa using h') hd';omega
   |succ i=>have:=ih (i:=i) (j:=j) (by omega) (by simpa using h) (by simpa using h') hd hd';split<;>omega
theorem Iu {all:List Oper}:∀{l:List Oper},(List.rec (motive:=λ_=>List Oper->Bool) (λ_=>true) (λo _ r all=>match o.dst with
 |some t=>cond (Nat.beq (jv t all) 1) (r all) false
 |none=>r all) l all:Bool)=true->∀o∈l,∀t,o.dst=some t->jv t all=1:=by
 intro l
 induction l with
 |nil=>intro _ o h;cases h
 |cons a l ih=>
  intro h o ho t ht
  dsimp only at h
  cases ha:a.dst with
  |none=>
   rw[ha] at h
   rcases aa1.1 ho with rfl|ho
   ·rw[ha] at ht;cases ht
   ·exact ih h o ho t ht
  |some d=>
   rw[ha] at h
   obtain⟨h1,h2⟩:=cG h
   rcases aa1.1 ho with rfl|ho
   ·rw[ha] at ht;cases ht;exact adK h1
   ·exact ih h2 o ho t ht
theorem Fc {ops:Array Oper} (h:Gr ops.toList=true) (i j:Nat) (oi oj:Oper) (t:Nat) (hi:ops[i]? =some oi) (hj:ops[j]? =some oj) (ti:oi.dst=some t) (tj:oj.dst=some t):i=j:=by
 have h1:=Iu h oi (by rw[Array.mem_toList_iff];exact Array.mem_of_getElem? hi) t ti
 rcases Nat.lt_trichotomy i j with hlt|he|hlt
 ·have:=tB (l:=ops.toList) hlt (by simpa using hi) (by simpa using hj) ti tj;omega
 ·exact he
 ·have:=tB (l:=ops.toList) hlt (by simpa using hj) (by simpa using hi) tj ti;omega
theorem CH {o:Option Nat} {k:Nat} (h:w9 o k=true):o=some k:=by
 cases o with
 |none=>cases h
 |some m=>rw[adK h]
theorem Vp {P:Program} {ops:Array Oper} {nc:NC} {id:Nat} (h:cZ P (.region id ops true)=some nc):∃l,nc= .regD l/\Lay P ops l:=by
 have h':(match dW P ops ops.toList 0 (Region.before ops).toList with
  |some l=>Gc (TS l) λe=>cond (w9 (Ed e 0) (Nat.sub (Nat.pow 2 ops.size) 1)&&Gr ops.toList) (some (.regD e)) none
  |none=>none)=some nc:=h
 split at h'
 ·rename_i l0 hl0
  rw[IT] at h'
  obtain⟨hb,hc⟩:=aP h'
  cases hc
  rw[ab6] at hb
  obtain⟨hb1,hb2⟩:=hb
  have hm:=tb ops.toList 0 l0 _ (λj=>by simp) (λj=>by unfold Es;simp[Array.getD_eq_getD_getElem?,List.getD_eq_getElem?_getD]) hl0
  obtain⟨p1,p2,p3,p4⟩:=Il (CH hb1)
  refine⟨_,rfl,⟨λno hno=>hm no (GM hno),p2,λi hi=> ?_,λl1 o l2 he j hj=> ?_,Fc hb2⟩⟩
  ·have hbit:(Nat.sub (Nat.pow 2 ops.size) 1).testBit i=true:=by
    have e:Nat.sub (Nat.pow 2 ops.size) 1=2 ^ ops.size - 1:=rfl
    rw[e,Nat.testBit_two_pow_sub_one];simpa using hi
   rcases (p1 i).1 hbit with h|h
   ·simp at h
   ·exact h
  ·rcases p4 l1 o l2 he j hj with h|h
   ·simp at h
   ·exact h
 ·cases h'
def EI (n:Nat) (w:Array (List (Tmp×Nat))) (p:Oper×Nat):Array (List (Tmp×Nat)):=match p.1.dst with
 |some d=>w.modify (d % n) ((d,p.2)::·)
 |none=>w
theorem I0 {n:Nat} {w:Array (List (Tmp×Nat))} {p:Oper×Nat}:(EI n w p).size=w.size:=by unfold EI;split<;>simp
theorem Jz {n:Nat} {w:Array (List (Tmp×Nat))} {p:Oper×Nat} {k:Nat} {x:Tmp×Nat} (h:x∈w.getD k []):x∈(EI n w p).getD k []:=by
 unfold EI
 split
 ·rename_i d _
  rw[Array.getD_eq_getD_getElem?] at h ⊢
  rw[Array.getElem?_modify]
  split
  ·rename_i he
   cases hw:w[k]? with
   |none=>rw[hw] at h;simp at h
   |some l=>rw[hw] at h;simp at h ⊢;exact .inr h
  ·exact h
 ·exact h
theorem MU {n:Nat} {x:Tmp×Nat} {k:Nat}:∀(L:List (Oper×Nat)) (w:Array (List (Tmp×Nat))),x∈w.getD k []->x∈(L.foldl (EI n) w).getD k []:=by
 intro L
 induction L with
 |nil=>exact λw h=>h
 |cons p L ih=>exact λw h=>ih _ (Jz h)
theorem Nd {n:Nat} {o:Oper} {i d:Nat} (hd:o.dst=some d) (hn:0<n):∀(L:List (Oper×Nat)) (w:Array (List (Tmp×Nat))),w.size=n->(o,i)∈L->(d,i)∈(L.foldl (EI n) w).getD (d % n) []:=by
 intro L
 induction L with
 |nil=>intro w _ h;cases h
 |cons p L ih=>
  intro w hw h
  rcases aa1.1 h with rfl|h
  ·refine MU L _ ?_
   unfold EI
   dsimp only
   rw[hd]
   dsimp only
   rw[Array.getD_eq_getD_getElem?,Array.getElem?_modify,adF rfl,Array.getElem?_eq_getElem (by rw[hw];exact Nat.mod_lt _ hn)]
   simp
  ·exact ih _ (by rw[I0];exact hw) h
theorem VK {ops:Array Oper} {b:Array Nat} (h:Region.temporariesOk ops b=true) {i j:Nat} {oi oj:Oper} {t:Nat} (hi:ops[i]? =some oi) (hj:ops[j]? =some oj) (ht:oi.dst=some t) (hr:Operand.tmp t∈oj.op.operands.toList):
 i=j∨(b.getD (max i j) 0).testBit (min i j)=true:=by
 unfold Region.temporariesOk at h
 have hz:∀(k:Nat) (o:Oper),ops[k]? =some o->(o,k)∈ops.toList.zipIdx:=λk o ho=>by
  rw[List.mem_zipIdx_iff_getElem?];simpa using ho
 rw[ae8] at h
 have h1:=h (oj,j) (hz j oj hj)
 dsimp only at h1
 rw[ae8] at h1
 have h2:=h1 t (by
  rw[aa6];right
  rw[List.mem_filterMap]
  exact⟨.tmp t,hr,rfl⟩)
 rw[ae8] at h2
 have hn:0<ops.size:=by have:=(Array.getElem?_eq_some_iff.1 hi).1;omega
 have h3:=h2 (t,i) (Nd (n:=ops.size) ht hn ops.toList.zipIdx (Array.replicate ops.size []) (by simp) (hz i oi hi))
 simp only[Bool.or_eq_true,beq_iff_eq,bne_iff_ne,ne_eq,not_true_eq_false,false_or] at h3
 exact h3
open Go
section chain
variable {P:Program} {S:cE} {self:Option D4->NC->Dyn->Res} {rnd:Option D4}
theorem c8 {r:Rec} {R:List Rec} {d d':Dyn} (h:Chain P S self rnd d (r::R) d'):d=r.st/\r.ok P S self rnd/\Chain P S self rnd r.nx R d':=by
 cases h with
 |cons _ _ _ h c=>exact⟨rfl,h,c⟩
theorem fP {d d':Dyn} (h:Chain P S self rnd d [] d'):d'=d:=by cases h;rfl
theorem eW:∀{R1 R2:List Rec} {d d':Dyn},Chain P S self rnd d (R1++R2) d'->∃dm,Chain P S self rnd d R1 dm/\Chain P S self rnd dm R2 d':=by
 intro R1
 induction R1 with
 |nil=>intro R2 d d' h;exact⟨d,.nil d,h⟩
 |cons r R1 ih=>
  intro R2 d d' h
  obtain⟨rfl,hok,hc⟩:=c8 (show Chain P S self rnd d (r::(R1++R2)) d' from h)
  obtain⟨dm,h1,h2⟩:=ih hc
  exact⟨dm,.cons r R1 dm hok h1,h2⟩
theorem ql:∀{R1 R2:List Rec} {d dm d':Dyn},Chain P S self rnd d R1 dm->Chain P S self rnd dm R2 d'->Chain P S self rnd d (R1++R2) d':=by
 intro R1
 induction R1 with
 |nil=>intro R2 d dm d' h h';rw[fP h] at h';exact h'
 |cons r R1 ih=>
  intro R2 d dm d' h h'
  obtain⟨rfl,hok,hc⟩:=c8 h
  exact .cons r (R1++R2) d' hok (ih hc h')
theorem aag (r:Rec):r.nx.t=aN r.o.dst r.val r.t:=by unfold Rec.nx;cases r.k<;>rfl
theorem Ky {d:Option D4} {k:D4} (h:d≠some k) (v:NV) (t:Tm):NT.get k (aN d v t)=NT.get k t:=by
 cases d with
 |none=>rfl
 |some d=>exact NT.get_put_ne (λe=>h (by rw[e])) v t
theorem F7 {d:Option D4} {k:D4} (h:d=some k) (v:NV) (t:Tm):NT.get k (aN d v t)=some v:=by rw[h];exact NT.get_put_same _ _ _
theorem jl {k:D4}:∀{R:List Rec} {d d':Dyn},Chain P S self rnd d R d'->(∀w∈R,w.o.dst≠some k)->NT.get k d'.t=NT.get k d.t:=by
 intro R
 induction R with
 |nil=>intro d d' h _;rw[fP h]
 |cons r R ih=>
  intro d d' h hn
  obtain⟨rfl,_,hc⟩:=c8 h
  rw[ih hc λw hw=>hn w (by simp[hw]),aag,Ky (hn r (by simp))];rfl
theorem qm {k:D4} {A C:List Rec} {w:Rec} {d d':Dyn} (h:Chain P S self rnd d (A++w::C) d') (hw:w.o.dst=some k) (hn:∀x∈C,x.o.dst≠some k):NT.get k d'.t=some w.val:=by
 obtain⟨dm,_,h2⟩:=eW h
 obtain⟨_,_,hc⟩:=c8 h2
 rw[jl hc hn,aag,F7 hw]
theorem J0 {n:NOp} (hc:aB n= .alloc) {t:Tm} {h h':NH} {v:NV} (e:ai n t h= .mem v h'):∃o,h'=h.add o:=by
 have fin:∀{o:NO} {f:D4->NV},(h.new o λid h=>NR.mem (f id) h)= .mem v h'->∃o,h'=h.add o:=by
  intro o f e
  rw[NH.new_eq] at e
  injection e with _ e
  exact⟨o,e.symm⟩
 have ne:NR.mem v h'≠.fail:=by simp
 cases n with
 |alloc z T=>exact fin (f:=λid=> .ptr id 0) e
 |box x T=>
  obtain⟨u,_,h2⟩:=aT e ne
  obtain⟨cs,_,h4⟩:=aR h2 ne
  exact fin (f:=λid=> .ptr id 0) h4
 |buildSlice z n len T ps=>
  obtain⟨cs,_,h4⟩:=aR (show aS (cM t ps 0 z) _=_ from e) ne
  exact fin (f:=λid=> .slc id 0 len n len) h4
 |mkMap=>exact fin (f:=λid=> .map id) e
 |mkSlice z n b T l c=>
  obtain⟨k,m,_,h2⟩:=ee e ne
  obtain⟨k',m',_,h3⟩:=ee h2 ne
  obtain⟨_,h4⟩:=aY h3 ne
  obtain⟨_,h5⟩:=aY h4 ne
  rw[fG] at h5
  exact fin (f:=λid=> .slc id 0 m n m') h5
 |strToBytes T x=>
  obtain⟨u,_,h2⟩:=aT e ne
  cases u with
  |str s=>
   dsimp only at h2
   rw[jJ,bS] at h2
   obtain⟨_,h3⟩:=aY h2 ne
   exact fin (f:=λid=> .slc id 0 s.length 1 s.length) h3
  |_=>cases h2
 |_=>cases hc
def Fr (h:NH):Prop:=∀i o,h.get i=some o->i.toNat<h.next.toNat
theorem Fr.add {h:NH} (hf:Fr h) (o:NO):Fr (h.add o):=by
 intro i u hu
 show i.toNat<h.next.nxt.toNat
 rw[D4.toNat_nxt]
 by_cases e:i=h.next
 ·subst e;omega
 ·rw[NH.get_add_ne _ _ e] at hu;have:=hf i u hu;omega
theorem ru:∀(T:List Rec),∃T1 T2,T=T1++T2/\(∀r∈T1,¬r.isE)/\(∀r T',T2=r::T'->r.isE):=by
 intro T
 induction T with
 |nil=>exact⟨[], [],rfl,by simp,λr T' h=>by cases h⟩
 |cons r T ih=>
  by_cases h:r.isE
  ·exact⟨[],r::T,rfl,by simp,λr' T' e=>by cases e;exact h⟩
  ·obtain⟨T1,T2,h1,h2,h3⟩:=ih
   exact⟨r::T1,T2,by rw[h1];rfl,λr' hr=>by
    rcases aa1.1 hr with rfl|hr
    ·exact h
    ·exact h2 r' hr,h3⟩
structure Skip (D D':Dyn) (T:List Rec):Prop where
 dfs:D'.dfs=D.dfs
 ctx:D'.ctx=D.ctx
 fresh:Fr D'.h
 next:D.h.next.toNat<=D'.h.next.toNat
 get:∀i,i.toNat<D.h.next.toNat->D'.h.get i=D.h.get i
 fr:∀r∈T,Fr r.h
 al:∀r∈T,∀v h,r.k= .alloc v h->D.h.next.toNat<=r.h.next.toNat/\r.h.next.toNat<D'.h.next.toNat/\D'.h.get r.h.next=h.get r.h.next
 dist:∀r∈T,∀r'∈T,∀v h v' h',r.k= .alloc v h->r'.k= .alloc v' h'->r.h.next=r'.h.next->r.o.idx=r'.o.idx
theorem tc:∀{T:List Rec} {D D':Dyn},Chain P S self rnd D T D'->(∀r∈T,¬r.isE)->Fr D.h->Skip D D' T:=by
 intro T
 induction T with
 |nil=>
  intro D D' h _ hf
  rw[fP h]
  exact⟨rfl,rfl,hf,aa2 _,λ_ _=>rfl,by simp,by simp,by simp⟩
 |cons r T ih=>
  intro D D' h hn hf
  obtain⟨rfl,hok,hc⟩:=c8 h
  have hn':∀r∈T,¬r.isE:=λx hx=>hn x (by simp[hx])
  have same:(∀v h,r.k≠.alloc v h)->r.nx.dfs=r.dfs->r.nx.ctx=r.ctx->r.nx.h=r.h->Skip r.st D' (r::T):=by
   intro hk e1 e2 e3
   have k:=ih hc hn' (by rw[e3];exact hf)
   refine⟨k.dfs.trans e1,k.ctx.trans e2,k.fresh,by have:=k.next;rw[e3] at this;exact this,λi hi=>by have:=k.get i (by rw[e3];exact hi);rw[e3] at this;exact this, ?_, ?_, ?_⟩
   ·intro x hx
    rcases aa1.1 hx with rfl|hx
    ·exact hf
    ·exact k.fr x hx
   ·intro x hx v h e
    rcases aa1.1 hx with rfl|hx'
    ·exact adD e (hk _ _)
    ·have:=k.al x hx' v h e;rw[e3] at this;exact this
   ·intro x hx y hy v h v' h' ex ey
    rcases aa1.1 hx with rfl|hx'
    ·exact adD ex (hk _ _)
    ·rcases aa1.1 hy with rfl|hy'
     ·exact adD ey (hk _ _)
     ·exact k.dist x hx' y hy' v h v' h' ex ey
  cases hk:r.k with
  |off=>exact same (by simp[hk]) (by simp[Rec.nx,hk]) (by simp[Rec.nx,hk]) (by simp[Rec.nx,hk])
  |pure v=>exact same (by simp[hk]) (by simp[Rec.nx,hk]) (by simp[Rec.nx,hk]) (by simp[Rec.nx,hk])
  |read v=>exact same (by simp[hk]) (by simp[Rec.nx,hk]) (by simp[Rec.nx,hk]) (by simp[Rec.nx,hk])
  |eff v dfs ctx h=>exact adD (show r.isE by unfold Rec.isE;rw[hk];trivial) (hn r (by simp))
  |alloc v h0=>
   have hok':aF r.t r.o.guard=some true/\aB r.o.op= .alloc/\ai r.o.op r.t r.h= .mem v h0:=by unfold Rec.ok at hok;rw[hk] at hok;exact hok
   obtain⟨_,o2,o3⟩:=hok'
   obtain⟨ob,rfl⟩:=J0 o2 o3
   have e1:r.nx.dfs=r.dfs:=by simp[Rec.nx,hk]
   have e2:r.nx.ctx=r.ctx:=by simp[Rec.nx,hk]
   have e3:r.nx.h=r.h.add ob:=by simp[Rec.nx,hk]
   have hf':Fr r.h:=hf
   have k:=ih hc hn' (by rw[e3];exact hf'.add ob)
   have kn:=k.next
   rw[e3] at kn
   have kn':r.h.next.nxt.toNat<=D'.h.next.toNat:=kn
   rw[D4.toNat_nxt] at kn'
   have hnx:(r.h.add ob).next.toNat=r.h.next.toNat+1:=D4.toNat_nxt _
   have kg:∀i,i.toNat<r.h.next.toNat+1->D'.h.get i=(r.h.add ob).get i:=λi hi=>by
    have:=k.get i (by rw[e3,hnx];exact hi);rw[e3] at this;exact this
   have kal:∀x∈T,∀v h,x.k= .alloc v h->r.h.next.toNat+1<=x.h.next.toNat/\x.h.next.toNat<D'.h.next.toNat/\D'.h.get x.h.next=h.get x.h.next:=λx hx v h e=>by
    have:=k.al x hx v h e;rw[e3,hnx] at this;exact this
   refine⟨k.dfs.trans e1,k.ctx.trans e2,k.fresh,show r.h.next.toNat<=_ by omega,λi hi=> ?_, ?_, ?_, ?_⟩
   ·have hi':i.toNat<r.h.next.toNat:=hi
    rw[kg i (by omega)]
    exact NH.get_add_ne _ _ (λe=>by rw[e] at hi';omega)
   ·intro x hx
    rcases aa1.1 hx with rfl|hx
    ·exact hf
    ·exact k.fr x hx
   ·intro x hx v1 h1 e
    rcases aa1.1 hx with rfl|hx
    ·rw[hk] at e;cases e
     exact⟨aa2 _,by omega,kg _ (by omega)⟩
    ·obtain⟨a1,a2,a3⟩:=kal x hx v1 h1 e
     exact⟨show r.h.next.toNat<=_ by omega,a2,a3⟩
   ·intro x hx y hy v1 h1 v2 h2 ex ey he
    rcases aa1.1 hx with rfl|hx'
    ·rcases aa1.1 hy with rfl|hy'
     ·rfl
     ·have:=(kal y hy' v2 h2 ey).1;rw[←he] at this;omega
    ·rcases aa1.1 hy with rfl|hy'
     ·have:=(kal x hx' v1 h1 ex).1;rw[he] at this;omega
     ·exact k.dist x hx' y hy' v1 h1 v2 h2 ex ey he
theorem IQ {n:NOp} (hc:aB n= .read) {t:Tm} {v:NV}:∀{T:List Rec} {D D':Dyn},Chain P S self rnd D T D'->(∀r∈T,Fr r.h)->ai n t D.h= .val v->
 (∀r∈T,∀u dfs ctx h,r.k= .eff u dfs ctx h->ai n t h= .val v)->ai n t D'.h= .val v:=by
 intro T
 induction T with
 |nil=>intro D D' h _ e _;rw[fP h];exact e
 |cons r T ih=>
  intro D D' h hf e he
  obtain⟨rfl,hok,hch⟩:=c8 h
  refine ih hch (λx hx=>hf x (by simp[hx])) ?_ λx hx=>he x (by simp[hx])
  cases hk:r.k with
  |off=>rw[show r.nx.h=r.h by simp[Rec.nx,hk]];exact e
  |pure u=>rw[show r.nx.h=r.h by simp[Rec.nx,hk]];exact e
  |read u=>rw[show r.nx.h=r.h by simp[Rec.nx,hk]];exact e
  |eff u dfs ctx h=>rw[show r.nx.h=h by simp[Rec.nx,hk]];exact he r (by simp) u dfs ctx h hk
  |alloc u h0=>
   have hok':aF r.t r.o.guard=some true/\aB r.o.op= .alloc/\ai r.o.op r.t r.h= .mem u h0:=by unfold Rec.ok at hok;rw[hk] at hok;exact hok
   obtain⟨ob,rfl⟩:=J0 hok'.2.1 hok'.2.2
   rw[show r.nx.h=r.h.add ob by simp[Rec.nx,hk]]
   exact Ki hc (o9.add (hf r (by simp)) ob) e
end chain
theorem Rel.lt_next {P:Program} {ι:aZ} {B:Nat} {h:NH} {w:World} (r:Rel P ι B h w) {i:D4} {p:Pl} (hi:ι i=some p):i.toNat<h.next.toNat:=by
 obtain⟨o,h1,_⟩:=r.obj i p hi;exact r.fresh i o h1
theorem Rel.more {P:Program} {ι:aZ} {B:Nat} {h h':NH} {w:World} (r:Rel P ι B h w) (hg:∀i,i.toNat<h.next.toNat->h'.get i=h.get i) (hf:Fr h'):Rel P ι B h' w where
 obj:=λi p hi=>by rw[hg i (r.lt_next hi)];exact r.obj i p hi
 inj:=λi j p q hi hj hij d1 d2=>r.inj i j p q hi hj hij (by rw[←hg i (r.lt_next hi)];exact d1) (by rw[←hg j (r.lt_next hj)];exact d2)
 base:=λi p hi d=>r.base i p hi (by rw[←hg i (r.lt_next hi)];exact d)
 lt:=r.lt
 gl:=r.gl
 fresh:=hf
theorem Grow.more {P:Program} {B:Nat} {ι0 ι:aZ} {h0 h h':NH} {w0 w:World} (g:Grow ι0 h0 w0 ι h w) (r:Rel P ι B h w) (hn:h.next.toNat<=h'.next.toNat) (hg:∀i,i.toNat<h.next.toNat->h'.get i=h.get i):Grow ι0 h0 w0 ι h' w where
 le:=g.le
 next:=ab9 g.next hn
 new:=g.new
 blk:=λi p hi d=>g.blk i p hi (by rw[←hg i (r.lt_next hi)];exact d)
 keep:=λi hi hl=>by rw[hg i (ad2 hl g.next)];exact g.keep i hi hl
 size:=g.size
 os:=g.os
 tape:=g.tape
 output:=g.output
 frame:=g.frame
def aZ.set (ι:aZ) (n:D4) (p:Pl):aZ:=λi=>if i.toNat=n.toNat then some p else ι i
theorem aZ.set_same (ι:aZ) (n:D4) (p:Pl):ι.set n p n=some p:=adF rfl
theorem aZ.set_ne (ι:aZ) {n i:D4} (p:Pl) (h:i≠n):ι.set n p i=ι i:=adE λe=>h (D4.toNat_inj e)
theorem aZ.set_le {ι:aZ} {n:D4} {p:Pl} (hn:ι n=none):ι.le (ι.set n p):=λi q hi=>by
 rw[aZ.set_ne _ _ (λe=>by rw[e,hn] at hi;cases hi)];exact hi
theorem aZ.set_cases {ι:aZ} {n i:D4} {p q:Pl} (h:ι.set n p i=some q):(i=n/\q=p)∨(i≠n/\ι i=some q):=by
 by_cases e:i=n
 ·subst e;rw[aZ.set_same] at h;exact .inl ⟨rfl,(Option.some.inj h).symm⟩
 ·rw[aZ.set_ne _ _ e] at h;exact .inr ⟨e,h⟩
theorem Rel.at {P:Program} {ι:aZ} {B:Nat} {h:NH} {w:World} (r:Rel P ι B h w) (hB:B<=w.heap.size) {n:D4} {o:NO} (hn:ι n=none) (hg:h.get n=some o) {O:Obj} {p:Pl} (hp:p.b=w.heap.size)
 (ho:∀ι',ι.le ι'->OR P ι' (w.alloc O) p o):Rel P (ι.set n p) B h (w.alloc O):=by
 have hle:ι.le (ι.set n p):=aZ.set_le hn
 refine⟨?_, ?_, ?_, ?_,r.fresh,r.gl.mono hle⟩
 ·intro i q hi
  rcases aZ.set_cases hi with⟨rfl,rfl⟩|⟨hne',hi⟩
  ·exact⟨o,hg,ho _ hle⟩
  ·obtain⟨u,h1,h2⟩:=r.obj i q hi
   exact⟨u,h1,h2.mono hle (kl w O _ (r.lt i q hi))⟩
 ·intro i j q1 q2 hi hj hij d1 d2
  rcases aZ.set_cases hi with⟨e1,e2⟩|⟨h1,hi'⟩
  ·rcases aZ.set_cases hj with⟨e3,e4⟩|⟨h2,hj'⟩
   ·exact adD (e1.trans e3.symm) hij
   ·have:=r.lt j q2 hj';rw[e2];omega
  ·rcases aZ.set_cases hj with⟨e3,e4⟩|⟨h2,hj'⟩
   ·have:=r.lt i q1 hi';rw[e4];omega
   ·exact r.inj i j q1 q2 hi' hj' hij d1 d2
 ·intro i q hi d
  rcases aZ.set_cases hi with⟨rfl,rfl⟩|⟨h1,hi⟩
  ·omega
  ·exact r.base i q hi d
 ·intro i q hi
  rcases aZ.set_cases hi with⟨rfl,rfl⟩|⟨h1,hi⟩
  ·simp;omega
  ·have:=r.lt i q hi;simp;omega
theorem Grow.at {ι0 ι:aZ} {h0 h:NH} {w0 w:World} (g:Grow ι0 h0 w0 ι h w) {n:D4} (hn:ι n=none) (h1:h0.next.toNat<=n.toNat) {O:Obj} {p:Pl} (hp:p.b=w.heap.size):Grow ι0 h0 w0 (ι.set n p) h (w.alloc O) where
 le:=g.le.trans (aZ.set_le hn)
 next:=g.next
 new:=λi q hi=>by
  rcases aZ.set_cases hi with⟨rfl,rfl⟩|⟨_,hi⟩
  ·exact .inr h1
  ·exact g.new i q hi
 blk:=λi q hi d=>by
  rcases aZ.set_cases hi with⟨rfl,rfl⟩|⟨_,hi⟩
  ·have:=g.size;exact .inl (by omega)
  ·exact g.blk i q hi d
 keep:=g.keep
 size:=by have:=g.size;simp;omega
 os:=g.os
 tape:=g.tape
 output:=g.output
 frame:=λk hk hq=>by
  rw[kl w O k (ad2 hk g.size)];exact g.frame k hk hq
open Go
def iJ (l:List NOpd) (t:Tm):Tm:=match l with
 | []=> .leaf
 | .tmp d::l=>match NT.get d t with|some v=>NT.put d v (iJ l t)|none=>iJ l t
 | .const _::l=>iJ l t
theorem AB {l:List NOpd} {t:Tm} {k:D4} {v:NV} (h:NT.get k (iJ l t)=some v):NOpd.tmp k∈l/\NT.get k t=some v:=by
 induction l with
 |nil=>rw[show iJ [] t= .leaf from rfl,NT.get_leaf] at h;cases h
 |cons x l ih=>
  cases x with
  |const u=>obtain⟨h1,h2⟩:=ih h;exact⟨by simp[h1],h2⟩
  |tmp d=>
   have h':NT.get k (match NT.get d t with|some v=>NT.put d v (iJ l t)|none=>iJ l t)=some v:=h
   cases hd:NT.get d t with
   |none=>rw[hd] at h';obtain⟨h1,h2⟩:=ih h';exact⟨by simp[h1],h2⟩
   |some u=>
    rw[hd] at h'
    dsimp only at h'
    by_cases e:k=d
    ·subst e;rw[NT.get_put_same] at h';exact⟨by simp,by rw[hd];exact h'⟩
    ·rw[NT.get_put_ne e] at h';obtain⟨h1,h2⟩:=ih h';exact⟨by simp[h1],h2⟩
theorem QB {l:List NOpd} {t:Tm} {k:D4} (h:NOpd.tmp k∈l):NT.get k (iJ l t)=NT.get k t:=by
 induction l with
 |nil=>cases h
 |cons x l ih=>
  cases x with
  |const u=>rcases aa1.1 h with h|h;cases h;exact ih h
  |tmp d=>
   show NT.get k (match NT.get d t with|some v=>NT.put d v (iJ l t)|none=>iJ l t)=_
   by_cases e:k=d
   ·subst e
    cases hd:NT.get k t with
    |some u=>exact NT.get_put_same _ _ _
    |none=>
     dsimp only
     cases hk:NT.get k (iJ l t) with
     |none=>rfl
     |some v=>have:=(AB hk).2;rw[hd] at this;cases this
   ·have hl:NOpd.tmp k∈l:=by
     rcases aa1.1 h with h|h
     ·injection h with h;exact adD h e
     ·exact h
    cases hd:NT.get d t with
    |none=>exact ih hl
    |some u=>dsimp only;rw[NT.get_put_ne e];exact ih hl
theorem KL {l:List NOpd} {t:Tm}:∀x∈l,ρ (iJ l t) x=ρ t x:=by
 intro x hx
 cases x with
 |const v=>rfl
 |tmp d=>exact QB hx
structure Inv (P:Program) (S:cE) (go:Option D4->NC->Dyn->Res) (rnd:Option D4) (B:Nat) (b:Frame) (ops:Array Oper) (d0 dE:Dyn) (R:List Rec) (ι0:aZ) (cs0:List Frame) (w0:World) (size:Nat)
 (X:Nat->Prop) (R1 R2:List Rec) (D:Dyn) (ι:aZ) (a:Act) (cs:List Frame) (w:World):Prop where
 down:∀i,X i->dr ops X i
 inR:∀i,X i->∃r∈R,r.o.idx=i
 split:R=R1++R2
 c1:Chain P S go rnd d0 R1 D
 c2:Chain P S go rnd D R2 dE
 effs:∀r∈R1,r.isE->X r.o.idx
 head:∀r R2',R2=r::R2'->r.isE/\¬X r.o.idx
 mv:Mv P B rnd b ι0 d0.ctx d0.h cs0 w0 ι D.dfs D.ctx D.h a.defers cs w
 pend:∀r∈R1,∀v h,r.k= .alloc v h->¬X r.o.idx->ι r.h.next=none/\D.h.get r.h.next=h.get r.h.next/\r.h.next.toNat<D.h.next.toNat/\d0.h.next.toNat<=r.h.next.toNat
 dist:∀r∈R1,∀r'∈R1,∀v h v' h',r.k= .alloc v h->r'.k= .alloc v' h'->¬X r.o.idx->¬X r'.o.idx->r.h.next=r'.h.next->r.o.idx=r'.o.idx
 fr:∀r∈R1,Fr r.h
 tw:∀r∈R,X r.o.idx->∀t,r.o.dst=some (D4.of t)->∃v',a.tmps[t]? =some v'/\VR ι r.val v'
 ti:∀k,(∀r∈R,X r.o.idx->r.o.dst≠some (D4.of k))->∀v,NT.get (D4.of k) d0.t=some v->∃v',a.tmps[k]? =some v'/\VR ι v v'
 size:a.tmps.size=size
section
variable {P:Program} {S:cE} {self:Option D4->NC->Dyn->Res} {rnd:Option D4} {B:Nat} {b:Frame} {k:List Item} {ops:Array Oper} {fn:Func} {l:List NOper}
 {d0 dE:Dyn} {R:List Rec} {ι0:aZ} {cs0:List Frame} {w0:World} {size:Nat} {X:Nat->Prop} {R1 R2:List Rec} {D:Dyn} {ι:aZ} {a:Act} {cs:List Frame} {w:World}
theorem Od (hL:Lay P ops l) {x y:NOper} (hx:x∈l) (hy:y∈l) (h:x.idx=y.idx):x=y:=by
 have hn:=hL.nodup
 clear hL
 induction l with
 |nil=>cases hx
 |cons z l ih=>
  rw[ac1,List.nodup_cons] at hn
  rcases aa1.1 hx with rfl|hx'
  ·rcases aa1.1 hy with rfl|hy'
   ·rfl
   ·exact adD (ab3.2 ⟨y,hy',h.symm⟩) hn.1
  ·rcases aa1.1 hy with rfl|hy'
   ·exact adD (ab3.2 ⟨x,by assumption,h⟩) hn.1
   ·exact ih (by assumption) hy' hn.2
theorem ki (hL:Lay P ops l) {A C:List NOper} {x:NOper} (h:l=A++x::C) {y:NOper} (hy:y∈C) {z:NOper} (hz:z∈A++ [x]):z.idx≠y.idx:=by
 intro e
 have hn:=hL.nodup
 rw[h,show A++x::C=(A++ [x])++C by simp,ab5,List.nodup_append] at hn
 exact hn.2.2 z.idx (ab3.2 ⟨z,hz,rfl⟩) y.idx (ab3.2 ⟨y,hy,rfl⟩) e
theorem rE (hr:RegOK P fn ops) (hd:∀i,X i->dr ops X i) {i:Nat} {o:Oper} (ho:ops[i]? =some o) (he:dr ops X i) {j:Nat} (hj:(Es ops i).testBit j=true):X j:=
 WO hr hd i o ho he j hj
theorem known (hr:RegOK P fn ops) (hL:Lay P ops l) (hRl:∀r∈R,r.o∈l) (I:Inv P S self rnd B b ops d0 dE R ι0 cs0 w0 size X R1 R2 D ι a cs w)
 {A:List Rec} {no:NOper} {rest:List NOper} (hl:l=A.map (·.o)++no::rest) (hA:∀r∈A,r∈R) {D1:Dyn} (hc:Chain P S self rnd d0 A D1) {o:Oper} (ho:ops[no.idx]? =some o) (hE:dr ops X no.idx) (hnX:¬X no.idx)
 {t:Nat} (ht:∀j oj,ops[j]? =some oj->oj.dst=some t->j=no.idx∨(Es ops (max j no.idx)).testBit (min j no.idx)=true) {v:NV} (hv:NT.get (D4.of t) D1.t=some v):∃v',a.tmps[t]? =some v'/\VR ι v v':=by
 have hno:no∈l:=by rw[hl];simp
 have hord:∀x∈l,x.dst=some (D4.of t)->x.idx≠no.idx->(Es ops no.idx).testBit x.idx=true∨(Es ops x.idx).testBit no.idx=true:=by
  intro x hx hd hne
  obtain⟨ox,m1,m2,_⟩:=hL.mem x hx
  rw[m2] at hd
  have hox:ox.dst=some t:=by
   cases h:ox.dst with
   |none=>rw[h] at hd;cases hd
   |some u=>rw[h] at hd;injection hd with hd;rw[D4.of_inj hd]
  rcases ht x.idx ox m1 hox with h|h
  ·exact adD h hne
  ·rcases ac2 x.idx no.idx with hlt|hge
   ·rw[Nat.max_eq_right (by omega),ac5 (by omega)] at h;exact .inl h
   ·rw[Nat.max_eq_left (by omega),Nat.min_eq_right (by omega)] at h;exact .inr h
 by_cases hw:∃r∈A,r.o.dst=some (D4.of t)
 ·obtain⟨r,hrA,hrd⟩:=hw
  obtain⟨A1,A2,rfl⟩:=List.append_of_mem hrA
  have hrl:r.o∈l:=hRl r (hA r hrA)
  have hne:r.o.idx≠no.idx:=by
   intro e
   have hl':l=A1.map (·.o)++r.o::(A2.map (·.o)++no::rest):=by rw[hl];simp
   exact ki hL hl' (y:=no) (by simp) (z:=r.o) (by simp) e
  have honly:∀x∈A2,x.o.dst≠some (D4.of t):=by
   intro x hx hd
   have hxl:x.o∈l:=hRl x (hA x (by simp[hx]))
   obtain⟨o1,m1,m2,_⟩:=hL.mem r.o hrl
   obtain⟨o2,n1,n2,_⟩:=hL.mem x.o hxl
   have f:∀{q:Option Nat},q.map D4.of=some (D4.of t)->q=some t:=by
    intro q hq
    cases q with
    |none=>cases hq
    |some u=>injection hq with hq;rw[D4.of_inj hq]
   have he:=hL.once r.o.idx x.o.idx o1 o2 t m1 n1 (f (by rw[←m2];exact hrd)) (f (by rw[←n2];exact hd))
   have hl':l=A1.map (·.o)++r.o::(A2.map (·.o)++no::rest):=by rw[hl];simp
   exact ki hL hl' (y:=x.o) (by simp;exact .inl ⟨x,hx,rfl⟩) (z:=r.o) (by simp) he
  rw[qm hc hrd honly] at hv
  cases hv
  rcases hord r.o hrl hrd hne with h|h
  ·exact I.tw r (hA r hrA) (rE hr I.down ho hE h) t hrd
  ·exfalso
   have hl':l=A1.map (·.o)++r.o::(A2.map (·.o)++no::rest):=by rw[hl];simp
   obtain⟨_,_,_,_,_,hp⟩:=hL.mem r.o hrl
   obtain⟨o',h1,h2⟩:=hL.pre _ _ _ hl' no.idx (by rw[hp];exact h)
   exact ki hL hl' (y:=no) (by simp) (z:=o') (by simp at h1 ⊢;exact .inl h1) h2
 ·rw[jl hc (λx hx hd=>hw ⟨x,hx,hd⟩)] at hv
  refine I.ti t (λx hx hX hd=> ?_) v hv
  have hxl:x.o∈l:=hRl x hx
  have hne:x.o.idx≠no.idx:=λe=>hnX (e▸hX)
  have hxnA:x∉A:=λh=>hw ⟨x,h,hd⟩
  rcases hord x.o hxl hd hne with h|h
  ·obtain⟨_,_,_,_,_,hp⟩:=hL.mem no hno
   obtain⟨o',h1,h2⟩:=hL.pre _ _ _ hl x.o.idx (by rw[hp];exact h)
   have ho'l:o'∈l:=by rw[hl];simp only[aa6];exact .inl h1
   have:=Od hL ho'l hxl h2
   subst this
   obtain⟨r',hr',he⟩:=ab3.1 h1
   exact hw ⟨r',hr',by rw[he];exact hd⟩
  ·obtain⟨ox,m1,_⟩:=hL.mem x.o hxl
   exact hnX (rE hr I.down m1 (I.down _ hX) h)
theorem iP (hr:RegOK P fn ops) (hL:Lay P ops l) (hRl:∀r∈R,r.o∈l) (I:Inv P S self rnd B b ops d0 dE R ι0 cs0 w0 size X R1 R2 D ι a cs w)
 {A:List Rec} {no:NOper} {rest:List NOper} (hl:l=A.map (·.o)++no::rest) (hA:∀r∈A,r∈R) {D1:Dyn} (hc:Chain P S self rnd d0 A D1) {o:Oper} (ho:ops[no.idx]? =some o) (hE:dr ops X no.idx) (hnX:¬X no.idx)
 (hcp:ax P o.op=some no.op):TR ι (iJ (opsOf no.op) D1.t) a.tmps:=by
 refine⟨I.mv.sd.rel.gl,λt v hv=> ?_⟩
 obtain⟨h1,h2⟩:=AB hv
 have hop:=TK hcp h1
 refine known hr hL hRl I hl hA hc ho hE hnX (t:=t) (λj oj hj hd=> ?_) h2
 rcases VK hr.tmps hj ho hd hop with h|h
 ·exact .inl h
 ·exact .inr h
theorem oQ (hr:RegOK P fn ops) (hL:Lay P ops l) (hRl:∀r∈R,r.o∈l) (I:Inv P S self rnd B b ops d0 dE R ι0 cs0 w0 size X R1 R2 D ι a cs w)
 {A:List Rec} {no:NOper} {rest:List NOper} (hl:l=A.map (·.o)++no::rest) (hA:∀r∈A,r∈R) {D1:Dyn} (hc:Chain P S self rnd d0 A D1) {o:Oper} (ho:ops[no.idx]? =some o) (hE:dr ops X no.idx) (hnX:¬X no.idx)
 (hG:rG ops o.guard no.guard) {on:Bool} (h:aF D1.t no.guard=some on):Region.wanted o (yielded ops a.tmps)=on:=by
 refine nW hG (ι:=ι) (λt c hg v hv=> ?_) h
 cases hog:o.guard with
 |none=>rw[hog,hg] at hG;exact hG.elim
 |some jb=>
  obtain⟨j,bb⟩:=jb
  rw[hog,hg] at hG
  obtain⟨_,u,hu,hk⟩:=hG
  have:=D4.of_inj hk
  subst this
  obtain⟨⟨e,he1,he2,he3⟩,_⟩:=hr.guard _ o j bb ho hog
  have hXj:X j:=by rw[←he2];exact hE o ho e he1 he3
  have hjd:∃oj,ops[j]? =some oj/\oj.dst=some t:=by
   unfold Ea at hu
   split at hu
   ·rename_i oj hoj;exact⟨oj,hoj,hu⟩
   ·cases hu
  obtain⟨oj,hoj,hjt⟩:=hjd
  obtain⟨r,hrR,hri⟩:=I.inR j hXj
  have hrd:r.o.dst=some (D4.of t):=by
   obtain⟨o2,m1,m2,_⟩:=hL.mem r.o (hRl r hrR)
   rw[hri,hoj] at m1;cases m1
   rw[m2,hjt];rfl
  have hjb:(Es ops no.idx).testBit j=true:=by
   unfold Es
   rw[mW]
   obtain⟨acc,h1,h2,h3⟩:=lO (λacc (o:Oper)=>o.after.foldl (λs e=>if Region.binds .any e then s|||2 ^ e.on|||acc.getD e.on 0 else s) 0) ops.toList no.idx o (by simpa using ho)
   rw[Array.getD_eq_getD_getElem?,h1]
   simp only[ae5]
   rw[←Array.foldl_toList]
   have hfold:∀(L:List Edge) (s:Nat),(e∈L∨s.testBit j=true)->(L.foldl (λs e=>if Region.binds .any e then s|||2 ^ e.on|||acc.getD e.on 0 else s) s).testBit j=true:=by
    intro L
    induction L with
    |nil=>intro s h;rcases h with h|h;cases h;exact h
    |cons x L ih=>
     intro s h
     rw[List.foldl_cons]
     refine ih _ ?_
     rcases h with h|h
     ·rcases aa1.1 h with h|h
      ·right;rw[←h,adF he3,Nat.testBit_or,Nat.testBit_or,he2,Nat.testBit_two_pow];simp
      ·exact .inl h
     ·right
      split
      ·rw[Nat.testBit_or,Nat.testBit_or,h];rfl
      ·exact h
   exact hfold _ 0 (.inl he1)
  refine known hr hL hRl I hl hA hc ho hE hnX (t:=t) (λj' oj' hj' hd'=> ?_) hv
  have:=hL.once j' j oj' oj t hj' hoj hd' hjt
  subst this
  right
  have hlt:=hr.edge no.idx o e ho he1 he3
  rw[he2] at hlt
  rw[Nat.max_eq_right (by omega),ac5 (by omega)]
  exact hjb
theorem mY (hL:Lay P ops l) (hRl:∀r∈R,r.o∈l) {ι':aZ} (hle:ι.le ι') {r:Rec} (hr:r∈R) {o:Oper} (ho:ops[r.o.idx]? =some o) {v':Value} (hv:VR ι' r.val v') (hb:∀d,o.dst=some d->d<a.tmps.size)
 (tw:∀r∈R,X r.o.idx->∀t,r.o.dst=some (D4.of t)->∃v',a.tmps[t]? =some v'/\VR ι r.val v')
 (ti:∀k,(∀r∈R,X r.o.idx->r.o.dst≠some (D4.of k))->∀v,NT.get (D4.of k) d0.t=some v->∃v',a.tmps[k]? =some v'/\VR ι v v')
 (hRR:∀x∈R,x.o.idx=r.o.idx->x=r):
 (∀x∈R,(X x.o.idx∨x.o.idx=r.o.idx)->∀t,x.o.dst=some (D4.of t)->∃v'',(a.put o.dst v').tmps[t]? =some v''/\VR ι' x.val v'')/\
 (∀k,(∀x∈R,(X x.o.idx∨x.o.idx=r.o.idx)->x.o.dst≠some (D4.of k))->∀v,NT.get (D4.of k) d0.t=some v->∃v'',(a.put o.dst v').tmps[k]? =some v''/\VR ι' v v''):=by
 have hod:r.o.dst=o.dst.map D4.of:=by
  obtain⟨o2,m1,m2,_⟩:=hL.mem r.o (hRl r hr);rw[ho] at m1;cases m1;exact m2
 have hput:∀t,o.dst≠some t->(a.put o.dst v').tmps[t]? =a.tmps[t]? :=by
  intro t ht
  cases hd:o.dst with
  |none=>rfl
  |some d=>
   show (a.tmps.setIfInBounds d v')[t]? =_
   rw[Array.getElem?_setIfInBounds_ne (λe=>ht (by rw[hd,e]))]
 have hown:∀t,o.dst=some t->(a.put o.dst v').tmps[t]? =some v':=by
  intro t ht
  have:=hb t ht
  rw[ht]
  show (a.tmps.setIfInBounds t v')[t]? =_
  simp[this]
 constructor
 ·intro x hx hX t ht
  by_cases he:x.o.idx=r.o.idx
  ·have:=hRR x hx he
   subst this
   have hot:o.dst=some t:=by
    rw[hod] at ht
    cases h:o.dst with
    |none=>rw[h] at ht;cases ht
    |some u=>rw[h] at ht;injection ht with ht;rw[D4.of_inj ht]
   exact⟨v',hown t hot,hv⟩
  ·have hX':X x.o.idx:=hX.resolve_right he
   obtain⟨u,h1,h2⟩:=tw x hx hX' t ht
   refine⟨u, ?_,h2.mono hle⟩
   rw[hput t ?_];exact h1
   intro hot
   obtain⟨o2,m1,m2,_⟩:=hL.mem x.o (hRl x hx)
   have:o2.dst=some t:=by
    rw[m2] at ht
    cases h:o2.dst with
    |none=>rw[h] at ht;cases ht
    |some u=>rw[h] at ht;injection ht with ht;rw[D4.of_inj ht]
   exact he (hL.once _ _ o2 o t m1 ho this hot)
 ·intro t hn v hv0
  obtain⟨u,h1,h2⟩:=ti t (λx hx hX=>hn x hx (.inl hX)) v hv0
  refine⟨u, ?_,h2.mono hle⟩
  rw[hput t ?_];exact h1
  intro hot
  exact hn r hr (.inr rfl) (by rw[hod,hot];rfl)
end
open Go
section
variable {P:Program} {S:cE} {self:Option D4->NC->Dyn->Res} {rnd:Option D4} {B:Nat} {b:Frame} {k:List Item} {ops:Array Oper} {fn:Func} {l:List NOper}
 {d0 dE:Dyn} {R:List Rec} {ι0:aZ} {cs0:List Frame} {w0:World} {size:Nat} {X:Nat->Prop} {R1 R2:List Rec} {D:Dyn} {ι:aZ} {a:Act} {cs:List Frame} {w:World}
theorem Mv.more {ctx:Option NV} {h:NH} {dfs':List Dfr} {ctx':Option NV} {h' h'':NH} {ds':List Deferred} {cs':List Frame} {w':World} (m:Mv P B rnd b ι0 ctx h cs0 w0 ι dfs' ctx' h' ds' cs' w') (hn:h'.next.toNat<=h''.next.toNat)
 (hg:∀i,i.toNat<h'.next.toNat->h''.get i=h'.get i) (hf:Fr h''):Mv P B rnd b ι0 ctx h cs0 w0 ι dfs' ctx' h'' ds' cs' w':=
 ⟨⟨m.sd.df,m.sd.cx,m.sd.rel.more hg hf,m.sd.base,m.sd.rn⟩,m.gr.more m.sd.rel hn hg,m.ca⟩
theorem I7 {op:Op} {n:NOp} (hc:ax P op=some n) (hcl:aB n≠.eff):∀c,op≠.defer c:=by
 rintro⟨callee,args,ats⟩ rfl
 cases callee with
 |value f=>
  replace hc:gO f args.toList=some n:=hc
  unfold gO at hc
  split at hc
  ·cases hc;exact hcl rfl
  ·cases hc
 |builtin b=>have hc:(none:Option NOp)=some n:=hc;cases hc
 |invoke r m=>have hc:(none:Option NOp)=some n:=hc;cases hc
theorem Ft {i:Nat} {rest:List Nat} {o:Oper} {n:NOp} (ho:ops[i]? =some o) (hw:Region.wanted o (yielded ops a.tmps)=true) (hc:ax P o.op=some n) (hcl:aB n= .alloc) {v':Value} {w':World}
 (h1:(execOp a.eval o).run P w= .ok (.value v') w'):
 Steps P (lone (b.atR a (.inRegion ops (i::rest)::k)) cs w) (lone (b.atR (a.put o.dst v') (.inRegion ops rest::k)) cs w'):=by
 have hg:=stepGR_op (P:=P) (b:=b) (k:=k) (cs:=cs) (w:=w) (rest:=rest) ho hw
 have hfin:∀v,(b.atR a (.inRegion ops (i::rest)::k)).finish v=b.atR (a.put o.dst v) (.inRegion ops rest::k):=by
  intro v;rw[Frame.finish_atR,ho];rfl
 rw[eX (.inr (I7 hc (by rw[hcl];simp)))] at hg
 refine .one (step_lone_go ?_)
 rw[hg,←hfin];simp[stepG.apply,h1]
theorem PX (hC:CallsOK P S self) (hr:RegOK P fn ops) (hL:Lay P ops l) {rest0:List NOper} (hl:l=R.map (·.o)++rest0) (hQ:R.Pairwise QQ) (hsz:fn.ntmps<=size)
 (I:Inv P S self rnd B b ops d0 dE R ι0 cs0 w0 size X R1 R2 D ι a cs w) {r:Rec} (hrR:r∈R) (hE:dr ops X r.o.idx) (hnX:¬X r.o.idx) (rest:List Nat):
 ∃R1' R2' D' ι' a' cs' w',Steps P (lone (b.atR a (.inRegion ops (r.o.idx::rest)::k)) cs w) (lone (b.atR a' (.inRegion ops rest::k)) cs' w')/\
  Inv P S self rnd B b ops d0 dE R ι0 cs0 w0 size (λj=>X j∨j=r.o.idx) R1' R2' D' ι' a' cs' w':=by
 have hRl:∀x∈R,x.o∈l:=λx hx=>by rw[hl];simp only[aa6];exact .inl (ab3.2 ⟨x,hx,rfl⟩)
 obtain⟨A,C,hAC⟩:=List.append_of_mem hrR
 have hA:∀x∈A,x∈R:=λx hx=>by rw[hAC];simp[hx]
 have hlr:l=A.map (·.o)++r.o::(C.map (·.o)++rest0):=by rw[hl,hAC];simp
 have hchain:Chain P S self rnd d0 (A++r::C) dE:=by rw[←hAC,I.split];exact ql I.c1 I.c2
 obtain⟨Dr,hcA,hcr⟩:=eW hchain
 obtain⟨hDr,hok,hcC⟩:=c8 hcr
 subst hDr
 obtain⟨o,ho,hdst,hcp,hG,hpre⟩:=hL.mem r.o (hRl r hrR)
 have hbX:∀j,r.o.pre.testBit j=true->X j:=λj hj=>rE hr I.down ho hE (by rw[←hpre];exact hj)
 have hRnd:(R.map (·.o.idx)).Nodup:=by
  have:=hL.nodup
  rw[hl,ab5,List.nodup_append] at this
  have h1:=this.1
  rw[List.map_map] at h1
  exact h1
 have hRR:∀x∈R,∀y∈R,x.o.idx=y.o.idx->x=y:=by
  clear hlr hA hcA hcr hcC hchain hok hAC hQ hl hrR hRl I
  intro x hx y hy he
  induction R with
  |nil=>cases hx
  |cons z R ih=>
   rw[ac1,List.nodup_cons] at hRnd
   rcases aa1.1 hx with rfl|hx'
   ·rcases aa1.1 hy with rfl|hy'
    ·rfl
    ·exact adD (ab3.2 ⟨y,hy',he.symm⟩) hRnd.1
   ·rcases aa1.1 hy with rfl|hy'
    ·exact adD (ab3.2 ⟨x,hx',he⟩) hRnd.1
    ·exact ih hRnd.2 hx' hy'
 have hX':∀j,(X j∨j=r.o.idx)->dr ops (λj=>X j∨j=r.o.idx) j:=by
  intro j hj o' ho' e he hb
  rcases hj with hj|rfl
  ·exact .inl (I.down j hj o' ho' e he hb)
  ·exact .inl (hE o' ho' e he hb)
 have hinR:∀j,(X j∨j=r.o.idx)->∃x∈R,x.o.idx=j:=by
  rintro j (hj|rfl)
  ·exact I.inR j hj
  ·exact⟨r,hrR,rfl⟩
 have hdb:∀d,o.dst=some d->d<a.tmps.size:=λd hd=>by rw[I.size];exact ad2 (hr.dst _ o d ho hd) hsz
 have hput:=fun {ι':aZ} (hle:ι.le ι') {v':Value} (hv:VR ι' r.val v')=>mY hL hRl hle hrR ho hv hdb I.tw I.ti (λx hx=>hRR x hx r hrR)
 have hguard:∀{on:Bool},aF r.t r.o.guard=some on->Region.wanted o (yielded ops a.tmps)=on:=λh=>oQ hr hL hRl I hlr hA hcA ho hE hnX hG h
 have hhead:∀h2 R2',R2=h2::R2'->r∈R2'->QQ h2 r:=by
  intro h2 R2' h2e hm
  have hp:=hQ
  rw[I.split,h2e,List.pairwise_append] at hp
  exact (ae9.1 hp.2.1).1 r hm
 have hnohead:∀h2 R2',R2=h2::R2'->r.o.pre.testBit h2.o.idx=false:=by
  intro h2 R2' h2e
  cases hb:r.o.pre.testBit h2.o.idx with
  |false=>rfl
  |true=>exact adD (hbX _ hb) (I.head h2 R2' h2e).2
 have calm:∀{ι':aZ} {a':Act} {cs':List Frame} {w':World} {v':Value} {ds:List Deferred},¬r.isE->(∀v h,r.k≠.alloc v h)->Mv P B rnd b ι D.ctx D.h cs w ι' D.dfs D.ctx D.h ds cs' w'->VR ι' r.val v'->a'=({a with defers:=ds}:Act).put o.dst v'->
  Inv P S self rnd B b ops d0 dE R ι0 cs0 w0 size (λj=>X j∨j=r.o.idx) R1 R2 D ι' a' cs' w':=by
  intro ι' a' cs' w' v' ds hnE hnA mv hv he
  subst he
  have hpt:=mY (a:={a with defers:=ds}) hL hRl mv.gr.le hrR ho hv hdb I.tw I.ti (λx hx=>hRR x hx r hrR)
  refine⟨hX',hinR,I.split,I.c1,I.c2,λx hx hxE=> .inl (I.effs x hx hxE),λh2 R2' he=>⟨(I.head h2 R2' he).1, ?_⟩, ?_, ?_, ?_,I.fr,hpt.1,hpt.2, ?_⟩
  ·rintro (h|h)
   ·exact (I.head h2 R2' he).2 h
   ·have:h2=r:=hRR h2 (by rw[I.split,he];simp) r hrR h
    exact hnE (this▸(I.head h2 R2' he).1)
  ·rw[put_defers];exact I.mv.trans mv
  ·intro x hx v h e hn
   obtain⟨p1,p2,p3,p4⟩:=I.pend x hx v h e (λhX=>hn (.inl hX))
   refine⟨?_,p2,p3,p4⟩
   cases hi:ι' x.h.next with
   |none=>rfl
   |some p=>
    rcases mv.gr.new _ _ hi with h|h
    ·rw[p1] at h;cases h
    ·omega
  ·exact λx hx y hy v h v' h' e e' n n'=>I.dist x hx y hy v h v' h' e e' (λhX=>n (.inl hX)) (λhX=>n' (.inl hX))
  ·rw[gj];exact I.size
 have hrun:∀h,ai r.o.op (iJ (opsOf r.o.op) r.t) h=ai r.o.op r.t h:=λh=>ri KL h
 cases hk:r.k with
 |off=>
  have hg:aF r.t r.o.guard=some false:=by unfold Rec.ok at hok;rw[hk] at hok;exact hok
  have hskip:=stepR_op_skip (P:=P) (b:=b) (a:=a) (k:=k) (cs:=cs) (w:=w) (ops:=ops) (i:=r.o.idx) (rest:=rest) (by simp[ho,hguard hg])
  simp only[ho,Option.bind_some] at hskip
  have hval:r.val=aK:=by simp[Rec.val,hk]
  exact⟨R1,R2,D,ι,_,cs,w,.one hskip,calm (ds:=a.defers) (v':=undef) (by simp[Rec.isE,hk]) (by simp[hk]) (Mv.refl I.mv.sd) (by rw[hval];exact fO) rfl⟩
 |pure v=>
  have hok':aF r.t r.o.guard=some true/\aB r.o.op= .pure/\ai r.o.op r.t r.h= .val v:=by unfold Rec.ok at hok;rw[hk] at hok;exact hok
  obtain⟨g1,g2,g3⟩:=hok'
  have hcp':ax P o.op=some r.o.op:=hcp.resolve_right λe=>by rw[e] at g2;cases g2
  have hT:TR ι (iJ (opsOf r.o.op) r.t) a.tmps:=iP hr hL hRl I hlr hA hcA ho hE hnX hcp'
  have hx:=fS (S:=S) (self:=self) (k:=k) (rest:=rest) hC ho (hguard g1) hcp' (nX hT) I.mv.sd
  rw[hrun,IM g2 r.t D.h r.h,g3] at hx
  obtain⟨v',ι1,ds1,cs1,w1,x1,x2,x3⟩:=hx
  have hval:r.val=v:=by simp[Rec.val,hk]
  exact⟨R1,R2,D,ι1,_,cs1,w1,x1,calm (by simp[Rec.isE,hk]) (by simp[hk]) x3 (by rw[hval];exact x2) rfl⟩
 |read v=>
  have hok':aF r.t r.o.guard=some true/\aB r.o.op= .read/\ai r.o.op r.t r.h= .val v:=by unfold Rec.ok at hok;rw[hk] at hok;exact hok
  obtain⟨g1,g2,g3⟩:=hok'
  have hcp':ax P o.op=some r.o.op:=hcp.resolve_right λe=>by rw[e] at g2;cases g2
  have hT:TR ι (iJ (opsOf r.o.op) r.t) a.tmps:=iP hr hL hRl I hlr hA hcA ho hE hnX hcp'
  have hx:=fS (S:=S) (self:=self) (k:=k) (rest:=rest) hC ho (hguard g1) hcp' (nX hT) I.mv.sd
  have hval:r.val=v:=by simp[Rec.val,hk]
  have hread:ai r.o.op r.t D.h= .val v:=by
   have hm:r∈R1∨r∈R2:=by have:=hrR;rw[I.split] at this;exact aa6.1 this
   rcases hm with hm|hm
   ·obtain⟨E1,E2,hE12⟩:=List.append_of_mem hm
    have hc1:=I.c1
    rw[hE12] at hc1
    obtain⟨Dm,_,hc2⟩:=eW hc1
    obtain⟨hDm,_,hc3⟩:=c8 hc2
    refine IQ g2 hc3 (λx hx=>I.fr x (by rw[hE12];simp[hx])) ?_ ?_
    ·rw[show r.nx.h=r.h by simp[Rec.nx,hk]];exact g3
    ·intro x hx u dfs ctx h e
     have hxR1:x∈R1:=by rw[hE12];simp[hx]
     have hXx:X x.o.idx:=I.effs x hxR1 (by unfold Rec.isE;rw[e];trivial)
     have hqq:QQ r x:=by
      have hp:=hQ
      rw[I.split,hE12,ab1,List.pairwise_append] at hp
      exact (ae9.1 hp.2.1).1 x (by simp[hx])
     unfold QQ at hqq
     rw[hk] at hqq
     unfold QR at hqq
     rw[e] at hqq
     refine hqq ?_
     cases hb:x.o.pre.testBit r.o.idx with
     |false=>rfl
     |true=>
      obtain⟨ox,m1,_,_,_,mp⟩:=hL.mem x.o (hRl x (by rw[I.split];simp[hxR1]))
      exact adD (rE hr I.down m1 (I.down _ hXx) (by rw[←mp];exact hb)) hnX
   ·cases hR2:R2 with
    |nil=>rw[hR2] at hm;cases hm
    |cons h2 R2'=>
     have hhd:=I.head h2 R2' hR2
     have hDh:D=h2.st:=by have:=I.c2;rw[hR2] at this;exact (c8 this).1
     rw[hR2] at hm
     rcases aa1.1 hm with rfl|hm'
     ·have:=hhd.1;simp[Rec.isE,hk] at this
     ·have hqq:=hhead h2 R2' hR2 hm'
      unfold QQ at hqq
      have hisE:=hhd.1
      unfold Rec.isE at hisE
      split at hqq
      ·unfold QE at hqq
       rw[hk] at hqq
       rw[hDh]
       exact hqq (hnohead h2 R2' hR2)
      ·rename_i e;rw[e] at hisE;exact hisE.elim
      ·rename_i hno _
       split at hisE
       ·rename_i e;exact adD e (hno _ _ _ _)
       ·exact hisE.elim
  rw[hrun,hread] at hx
  obtain⟨v',ι1,ds1,cs1,w1,x1,x2,x3⟩:=hx
  exact⟨R1,R2,D,ι1,_,cs1,w1,x1,calm (by simp[Rec.isE,hk]) (by simp[hk]) x3 (by rw[hval];exact x2) rfl⟩
 |alloc v h=>
  have hok':aF r.t r.o.guard=some true/\aB r.o.op= .alloc/\ai r.o.op r.t r.h= .mem v h:=by unfold Rec.ok at hok;rw[hk] at hok;exact hok
  obtain⟨g1,g2,g3⟩:=hok'
  have hcp':ax P o.op=some r.o.op:=hcp.resolve_right λe=>by rw[e] at g2;cases g2
  have hT:TR ι (iJ (opsOf r.o.op) r.t) a.tmps:=iP hr hL hRl I hlr hA hcA ho hE hnX hcp'
  have hm:r∈R1:=by
   have hm:r∈R1∨r∈R2:=by have:=hrR;rw[I.split] at this;exact aa6.1 this
   rcases hm with hm|hm
   ·exact hm
   ·exfalso
    cases hR2:R2 with
    |nil=>rw[hR2] at hm;cases hm
    |cons h2 R2'=>
     have hhd:=I.head h2 R2' hR2
     rw[hR2] at hm
     rcases aa1.1 hm with rfl|hm'
     ·have:=hhd.1;simp[Rec.isE,hk] at this
     ·have hqq:=hhead h2 R2' hR2 hm'
      have hisE:=hhd.1
      unfold Rec.isE at hisE
      unfold QQ at hqq
      split at hqq
      ·unfold QE at hqq
       rw[hk] at hqq
       rw[hnohead h2 R2' hR2] at hqq;cases hqq
      ·rename_i e;rw[e] at hisE;exact hisE.elim
      ·rename_i hno _
       split at hisE
       ·rename_i e;exact adD e (hno _ _ _ _)
       ·exact hisE.elim
  obtain⟨p1,p2,p3,p4⟩:=I.pend r hm v h hk hnX
  obtain⟨ob,V,hAl⟩:=yR (P:=P) (ι:=ι) (w:=w) (t:=iJ (opsOf r.o.op) r.t) (e:=a.eval) (h0:=r.h) hcp' (nX hT) g2 (by rw[hrun,g3];simp)
  have hv0:=hAl.all r.h
  rw[hrun,g3] at hv0
  injection hv0 with hv1 hv2
  obtain⟨v',w1,O,p,hw1,hres,hpb,hOR,hVR⟩:=hAl.real
  have hstep:=Ft (b:=b) (k:=k) (cs:=cs) (rest:=rest) ho (hguard g1) hcp' g2 hres
  have hn:ι r.h.next=none:=p1
  have hget:D.h.get r.h.next=some ob:=by rw[p2,hv2];exact NH.get_add_same _ _
  have hrel1:Rel P ι B D.h w1:=by rcases hw1 with rfl|rfl;exact I.mv.sd.rel;exact I.mv.sd.rel.drew
  have hgr1:Grow ι0 d0.h w0 ι D.h w1:=by rcases hw1 with rfl|rfl;exact I.mv.gr;exact I.mv.gr.drew
  have hw1s:w1.heap.size=w.heap.size:=by rcases hw1 with rfl|rfl<;>rfl
  have hB1:B<=w1.heap.size:=by rw[hw1s];exact I.mv.sd.base
  have hrel:=hrel1.at hB1 hn hget (p:=p) (O:=O) (by rw[hw1s];exact hpb) hOR
  have hgr:=hgr1.at hn p4 (O:=O) (p:=p) (by rw[hw1s];exact hpb)
  have hle:ι.le (ι.set r.h.next p):=aZ.set_le hn
  have hvr:VR (ι.set r.h.next p) r.val v':=by
   rw[show r.val=v by simp[Rec.val,hk],hv1]
   exact hVR _ _ hle (aZ.set_same _ _ _)
  have hpt:=hput hle hvr
  refine⟨R1,R2,D,ι.set r.h.next p,_,cs,_,hstep,⟨hX',hinR,I.split,I.c1,I.c2,λx hx hxE=> .inl (I.effs x hx hxE),λh2 R2' he=>⟨(I.head h2 R2' he).1, ?_⟩, ?_, ?_, ?_,I.fr,hpt.1,hpt.2, ?_⟩⟩
  ·rintro (h|h)
   ·exact (I.head h2 R2' he).2 h
   ·have h3:h2=r:=hRR h2 (by rw[I.split,he];simp) r hrR h
    have:=(I.head h2 R2' he).1
    rw[h3] at this
    simp[Rec.isE,hk] at this
  ·rw[put_defers]
   have s:=I.mv.sd
   exact⟨⟨s.df.mono hle,s.cx.mono hle,hrel,by have:=s.base;simp;omega,s.rn.mono hle⟩,hgr,I.mv.ca⟩
  ·intro x hx v2 h2 e hnx
   obtain⟨q1,q2,q3,q4⟩:=I.pend x hx v2 h2 e (λhX=>hnx (.inl hX))
   refine⟨?_,q2,q3,q4⟩
   rw[aZ.set_ne]
   ·exact q1
   ·intro he
    exact hnx (.inr (I.dist x hx r hm v2 h2 v h e hk (λhX=>hnx (.inl hX)) hnX he))
  ·exact λx hx y hy v h v' h' e e' n n'=>I.dist x hx y hy v h v' h' e e' (λhX=>n (.inl hX)) (λhX=>n' (.inl hX))
  ·rw[gj];exact I.size
 |eff v dfs1 ctx1 h1=>
  have hok':aF r.t r.o.guard=some true/\aB r.o.op= .eff/\eD P S self rnd r.dfs r.ctx r.h (ai r.o.op r.t r.h)= .next v dfs1 ctx1 h1:=by unfold Rec.ok at hok;rw[hk] at hok;exact hok
  obtain⟨g1,g2,g3⟩:=hok'
  have hcp':ax P o.op=some r.o.op:=hcp.resolve_right λe=>by rw[e] at g3;cases g3
  have hT:TR ι (iJ (opsOf r.o.op) r.t) a.tmps:=iP hr hL hRl I hlr hA hcA ho hE hnX hcp'
  have hisE:r.isE:=by unfold Rec.isE;rw[hk];trivial
  have hR2:∃R2',R2=r::R2':=by
   have hm:r∈R1∨r∈R2:=by have:=hrR;rw[I.split] at this;exact aa6.1 this
   rcases hm with hm|hm
   ·exact adD (I.effs r hm hisE) hnX
   ·cases hR2:R2 with
    |nil=>rw[hR2] at hm;cases hm
    |cons h2 R2'=>
     have hhd:=I.head h2 R2' hR2
     rw[hR2] at hm
     rcases aa1.1 hm with rfl|hm'
     ·exact⟨R2',rfl⟩
     ·exfalso
      have hqq:=hhead h2 R2' hR2 hm'
      have hisE:=hhd.1
      unfold Rec.isE at hisE
      unfold QQ at hqq
      split at hqq
      ·unfold QE at hqq
       rw[hk] at hqq
       rw[hnohead h2 R2' hR2] at hqq;cases hqq
      ·rename_i e;rw[e] at hisE;exact hisE.elim
      ·rename_i hno _
       split at hisE
       ·rename_i e;exact adD e (hno _ _ _ _)
       ·exact hisE.elim
  obtain⟨R2',hR2⟩:=hR2
  have hc2:=I.c2
  rw[hR2] at hc2
  obtain⟨hD,_,hcR⟩:=c8 hc2
  have hx:=fS (S:=S) (self:=self) (k:=k) (rest:=rest) hC ho (hguard g1) hcp' (nX hT) I.mv.sd
  rw[hrun,show D.h=r.h by rw[hD];rfl,show D.dfs=r.dfs by rw[hD];rfl,show D.ctx=r.ctx by rw[hD];rfl,g3] at hx
  obtain⟨v',ι1,ds1,cs1,w1,x1,x2,x3⟩:=hx
  obtain⟨T1,T2,hT12,hT1,hT2⟩:=ru R2'
  rw[hT12] at hcR
  obtain⟨D',hc3,hc4⟩:=eW hcR
  have hnx:r.nx.dfs=dfs1/\r.nx.ctx=ctx1/\r.nx.h=h1:=by simp[Rec.nx,hk]
  obtain⟨n1,n2,n3⟩:=hnx
  have sk:=tc hc3 hT1 (by rw[n3];exact x3.sd.rel.fresh)
  have s1:=sk.dfs;rw[n1] at s1
  have s2:=sk.ctx;rw[n2] at s2
  have s3:=sk.next;rw[n3] at s3
  have s4:=sk.get;rw[n3] at s4
  have hDh:D.h=r.h:=by rw[hD];rfl
  have x3':Mv P B rnd b ι D.ctx D.h cs w ι1 dfs1 ctx1 h1 ds1 cs1 w1:=by rw[hD];exact x3
  have mv1:=(I.mv.trans x3').more s3 s4 sk.fresh
  have hval:r.val=v:=by simp[Rec.val,hk]
  have hpt:=mY (a:={a with defers:=ds1}) hL hRl x3.gr.le hrR ho (by rw[hval];exact x2) hdb I.tw I.ti (λx hx=>hRR x hx r hrR)
  have hmono:D.h.next.toNat<=h1.next.toNat:=x3'.gr.next
  refine⟨R1++r::T1,T2,D',ι1,_,cs1,w1,x1,⟨hX',hinR, ?_,ql I.c1 (hD▸.cons r T1 D' (by rw[Rec.ok,hk];exact⟨g1,g2,g3⟩) hc3),hc4, ?_, ?_, ?_, ?_, ?_, ?_,hpt.1,hpt.2, ?_⟩⟩
  ·rw[I.split,hR2,hT12];simp
  ·intro x hx hxE
   rcases aa6.1 hx with hx|hx
   ·exact .inl (I.effs x hx hxE)
   ·rcases aa1.1 hx with rfl|hx
    ·exact .inr rfl
    ·exact adD hxE (hT1 x hx)
  ·intro h2 T2' he
   have hh2:=hT2 h2 T2' he
   refine⟨hh2, ?_⟩
   have hmem:h2∈R2':=by rw[hT12,he];simp
   have hqq:QQ r h2:=by
    have hp:=hQ
    rw[I.split,hR2,List.pairwise_append] at hp
    exact (ae9.1 hp.2.1).1 h2 hmem
   have hbit:h2.o.pre.testBit r.o.idx=true:=by
    unfold QQ at hqq
    rw[hk] at hqq
    unfold QE at hqq
    cases hk2:h2.k with
    |eff v3 d3 c3 h3=>rw[hk2] at hqq;exact hqq
    |_=>unfold Rec.isE at hh2;rw[hk2] at hh2;exact hh2.elim
   have h2R:h2∈R:=by rw[I.split,hR2];simp[hmem]
   obtain⟨o2,m1,_,_,_,mp⟩:=hL.mem h2.o (hRl h2 h2R)
   rintro (hX2|he2)
   ·exact hnX (rE hr I.down m1 (I.down _ hX2) (by rw[←mp];exact hbit))
   ·have:=hRR h2 h2R r hrR he2
    subst this
    have hl2:l=A.map (·.o)++h2.o::(C.map (·.o)++rest0):=hlr
    obtain⟨o',q1,q2⟩:=hL.pre _ _ _ hl2 h2.o.idx hbit
    have hnd:=hL.nodup
    rw[hl2,ab5,List.nodup_append] at hnd
    exact hnd.2.2 o'.idx (ab3.2 ⟨o',q1,rfl⟩) h2.o.idx (by simp) q2
  ·rw[put_defers,s1,s2];exact mv1
  ·intro x hx v2 h2 e hnx2
   rcases aa6.1 hx with hx|hx
   ·obtain⟨q1,q2,q3,q4⟩:=I.pend x hx v2 h2 e (λhX=>hnx2 (.inl hX))
    refine⟨?_, ?_,ad2 q3 (ab9 hmono s3),q4⟩
    ·cases hi:ι1 x.h.next with
     |none=>rfl
     |some p=>
      rcases x3'.gr.new _ _ hi with h|h
      ·rw[q1] at h;cases h
      ·omega
    ·rw[s4 _ (by omega),x3'.gr.keep _ q1 q3,q2]
   ·rcases aa1.1 hx with rfl|hx
    ·rw[hk] at e;cases e
    ·obtain⟨q1,q2,q3⟩:=sk.al x hx v2 h2 e
     rw[n3] at q1
     refine⟨?_,q3,q2, ?_⟩
     ·cases hi:ι1 x.h.next with
      |none=>rfl
      |some p=>have:=x3.sd.rel.lt_next hi;omega
     ·have:=I.mv.gr.next;omega
  ·intro x hx y hy v2 h2 v3 h3 e e' nx ny he
   rcases aa6.1 hx with hx'|hx'
   ·have px:=I.pend x hx' v2 h2 e (λhX=>nx (.inl hX))
    rcases aa6.1 hy with hy'|hy'
    ·exact I.dist x hx' y hy' v2 h2 v3 h3 e e' (λhX=>nx (.inl hX)) (λhX=>ny (.inl hX)) he
    ·rcases aa1.1 hy' with rfl|hy''
     ·rw[hk] at e';cases e'
     ·obtain⟨q1,q2,q3⟩:=sk.al y hy'' v3 h3 e'
      rw[n3,←he] at q1
      have:=px.2.2.1
      omega
   ·rcases aa1.1 hx' with rfl|hx''
    ·rw[hk] at e;cases e
    ·obtain⟨q1,q2,q3⟩:=sk.al x hx'' v2 h2 e
     rcases aa6.1 hy with hy'|hy'
     ·have py:=I.pend y hy' v3 h3 e' (λhX=>ny (.inl hX))
      rw[n3,he] at q1
      have:=py.2.2.1
      omega
     ·rcases aa1.1 hy' with rfl|hy''
      ·rw[hk] at e';cases e'
      ·exact sk.dist x hx'' y hy'' v2 h2 v3 h3 e e' he
  ·intro x hx
   rcases aa6.1 hx with hx|hx
   ·exact I.fr x hx
   ·rcases aa1.1 hx with rfl|hx
    ·rw[←hDh];exact I.mv.sd.rel.fresh
    ·exact sk.fr x hx
  ·rw[gj];exact I.size
end
open Go
section
variable {P:Program} {S:cE} {self:Option D4->NC->Dyn->Res} {rnd:Option D4} {B:Nat} {b:Frame} {k:List Item} {ops:Array Oper} {fn:Func} {l:List NOper}
 {d0 dE:Dyn} {R:List Rec} {ι0:aZ} {cs0:List Frame} {w0:World} {size:Nat}
theorem dH.of_steps {m m':Machine} {ι:aZ} {ctx:Option NV} {h:NH} {cs:List Frame} {w:World} {o:Out} {d':Dyn} (hs:Steps P m m') (g:dH P B rnd b k m' ι ctx h size cs w o d'):dH P B rnd b k m ι ctx h size cs w o d':=by
 obtain⟨ι',a',cs',w',q1,q2⟩:=g
 exact⟨ι',a',cs',w',q1.of_steps hs,q2⟩
theorem Ji (hC:CallsOK P S self) (hr:RegOK P fn ops) (hL:Lay P ops l) {rest0:List NOper} (hl:l=R.map (·.o)++rest0) (hQ:R.Pairwise QQ) (hsz:fn.ntmps<=size) {G:Out} {dF:Dyn}
 (hfin:∀(X:Nat->Prop) (R1 R2:List Rec) (D:Dyn) (ι:aZ) (a:Act) (cs:List Frame) (w:World),Inv P S self rnd B b ops d0 dE R ι0 cs0 w0 size X R1 R2 D ι a cs w->(∀i,i<ops.size->X i)->
  dH P B rnd b k (lone (b.atR a (.inRegion ops []::k)) cs w) ι0 d0.ctx d0.h size cs0 w0 G dF)
 (hstop:∀(X:Nat->Prop) (R1 R2:List Rec) (D:Dyn) (ι:aZ) (a:Act) (cs:List Frame) (w:World),Inv P S self rnd B b ops d0 dE R ι0 cs0 w0 size X R1 R2 D ι a cs w->∀(no:NOper) (rest:List Nat),no∈rest0->dr ops X no.idx->¬X no.idx->
  dH P B rnd b k (lone (b.atR a (.inRegion ops (no.idx::rest)::k)) cs w) ι0 d0.ctx d0.h size cs0 w0 G dF):
 ∀(fuel tt:Nat) (listed:Array Bool) (X:Nat->Prop) (R1 R2:List Rec) (D:Dyn) (ι:aZ) (a:Act) (cs:List Frame) (w:World),listed.size=ops.size->(∀i,X i↔listed[i]? =some true)->(jR ops listed).length<=fuel->
  Inv P S self rnd B b ops d0 dE R ι0 cs0 w0 size X R1 R2 D ι a cs w->
  dH P B rnd b k (lone (b.atR a (.inRegion ops (Region.linearise.go .any ops fuel tt listed [])::k)) cs w) ι0 d0.ctx d0.h size cs0 w0 G dF:=by
 intro fuel
 induction fuel with
 |zero=>
  intro tt listed X R1 R2 D ι a cs w hs hX hleft I
  rw[Ra]
  refine hfin X R1 R2 D ι a cs w I λi hi=> ?_
  rw[hX]
  have he:jR ops listed= []:=List.eq_nil_of_length_eq_zero (by omega)
  rw[Array.getElem?_eq_getElem (by omega)]
  cases hb:listed[i]'(by omega) with
  |true=>rfl
  |false=>
   have hm:i∈jR ops listed:=by
    unfold jR
    rw[List.mem_filter]
    refine⟨by simpa using hi, ?_⟩
    rw[Array.getD_eq_getD_getElem?,Array.getElem?_eq_getElem (by omega)];simp[hb]
   rw[he] at hm;cases hm
 |succ fuel ih=>
  intro tt listed X R1 R2 D ι a cs w hs hX hleft I
  rcases RT ops fuel tt listed with⟨h1,h2⟩|⟨i,t',h1,h2⟩
  ·rw[h2]
   exact hfin X R1 R2 D ι a cs w I λi hi=>(hX i).2 (FH hr hs h1 i hi)
  ·rw[h2]
   obtain⟨o,ho,hnl,hedge⟩:=Ix h1
   have hi:i<ops.size:=(Array.getElem?_eq_some_iff.1 ho).1
   have hE:dr ops X i:=λo' ho' e he hb=>by
    rw[ho] at ho';cases ho'
    exact (hX _).2 (hedge e he hb)
   have hnX:¬X i:=λhx=>by
    have:=(hX i).1 hx
    rw[Array.getD_eq_getD_getElem?,this] at hnl
    cases hnl
   obtain⟨no,hno,hidx⟩:=hL.all i hi
   rw[hl] at hno
   rcases aa6.1 hno with hno|hno
   ·obtain⟨r,hrR,rfl⟩:=ab3.1 hno
    subst hidx
    obtain⟨R1',R2',D',ι',a',cs',w',s1,I'⟩:=PX (k:=k) hC hr hL hl hQ hsz I hrR hE hnX (Region.linearise.go .any ops fuel t' (listed.setIfInBounds r.o.idx true) [])
    refine dH.of_steps s1 (ih t' _ _ R1' R2' D' ι' a' cs' w' (by simpa using hs) (λj=> ?_) ?_ I')
    ·by_cases hj:r.o.idx=j
     ·subst hj
      rw[Array.getElem?_setIfInBounds_self_of_lt (by omega)];simp
     ·rw[Array.getElem?_setIfInBounds_ne hj,hX j]
      constructor
      ·rintro (h|h)
       ·exact h
       ·exact adD h.symm hj
      ·exact .inl
    ·have hlt:(jR ops (listed.setIfInBounds r.o.idx true)).length<(jR ops listed).length:=by
      unfold jR
      refine RI (λj _ hj=> ?_) r.o.idx (by simpa using hi) (by simp[hnl]) ?_
      ·rw[Array.getD_eq_getD_getElem?] at hj ⊢
       by_cases he:r.o.idx=j
       ·subst he;rw[Array.getElem?_setIfInBounds_self_of_lt (by omega)] at hj;simp at hj
       ·rw[Array.getElem?_setIfInBounds_ne he] at hj;exact hj
      ·rw[Array.getD_eq_getD_getElem?,Array.getElem?_setIfInBounds_self_of_lt (by omega)];rfl
     omega
   ·subst hidx
    exact hstop X R1 R2 D ι a cs w I no _ hno hE hnX
theorem tC:∀(l:List NOper) (hs:List (Nat×NH)) (rs:List (Nat×(NH->NR)×NV)) (d:Dyn) (o:Out) (d':Dyn),bY P S self rnd l hs rs d= .mk o d'->o= .norm∨∃v,o= .pan v:=by
 intro l
 induction l with
 |nil=>intro hs rs d o d' h;cases h;exact .inl rfl
 |cons x l ih=>
  intro hs rs d o d' h
  obtain⟨t,dfs,ctx,hp⟩:=d
  rw[cq] at h
  cases hg:aF t x.guard with
  |none=>rw[hg] at h;cases h
  |some on=>
   rw[hg] at h
   cases on with
   |false=>exact ih _ _ _ _ _ h
   |true=>
    dsimp only at h
    cases hcl:aB x.op with
    |pure=>
     rw[hcl] at h
     dsimp only at h
     cases hop:ai x.op t hp<;>rw[hop] at h<;>first|exact ih _ _ _ _ _ h|cases h
    |alloc=>
     rw[hcl] at h
     dsimp only at h
     cases ha:ahead x.pre hs with
     |false=>rw[ha] at h;cases h
     |true=>rw[ha] at h;simp only[cond_true] at h;cases hop:ai x.op t hp<;>rw[hop] at h<;>first|exact ih _ _ _ _ _ h|cases h
    |read=>
     rw[hcl] at h
     dsimp only at h
     cases hop:ai x.op t hp with
     |val v=>
      rw[hop] at h
      dsimp only at h
      cases hst:dw x.pre (ai x.op t) v hs with
      |false=>rw[hst] at h;cases h
      |true=>rw[hst] at h;exact ih _ _ _ _ _ h
     |_=>rw[hop] at h;cases h
    |eff=>
     rw[hcl] at h
     dsimp only at h
     cases ha:ahead x.pre hs with
     |false=>rw[ha] at h;cases h
     |true=>
      rw[ha] at h
      have h':dz (bI x.idx l) (ER x.dst (λd=>cond (stays x.pre d.h rs) (bY P S self rnd l ((x.idx,hp)::hs) rs d) .fail) t dfs ctx (eD P S self rnd dfs ctx hp (ai x.op t hp)))= .mk o d':=h
      unfold dz at h'
      split at h'
      ·cases hb:bI x.idx l<;>rw[hb] at h'<;>cases h'
       exact .inr ⟨_,rfl⟩
      ·cases hoo:eD P S self rnd dfs ctx hp (ai x.op t hp) with
       |fail=>rw[hoo] at h';cases h'
       |pan v h0=>rw[hoo] at h';cases h';exact .inr ⟨_,rfl⟩
       |next v dfs1 ctx1 h0=>
        rw[hoo] at h'
        have h2:cond (stays x.pre h0 rs) (bY P S self rnd l ((x.idx,hp)::hs) rs ⟨aN x.dst v t,dfs1,ctx1,h0⟩) .fail= .mk o d':=h'
        cases hsy:stays x.pre h0 rs with
        |false=>rw[hsy] at h2;cases h2
        |true=>rw[hsy] at h2;exact ih _ _ _ _ _ h2
theorem Kn {a0:Act} (s:Sd P ι0 B rnd d0.dfs d0.ctx d0.h b a0.defers cs0 w0) (hT:TR ι0 d0.t a0.tmps) (hc:Chain P S self rnd d0 R dE) (hs:a0.tmps.size=size):
 ∃R1 R2 D,Inv P S self rnd B b ops d0 dE R ι0 cs0 w0 size (λ_=>False) R1 R2 D ι0 a0 cs0 w0:=by
 obtain⟨T1,T2,hT12,hT1,hT2⟩:=ru R
 have hc':=hc
 rw[hT12] at hc'
 obtain⟨D,c1,c2⟩:=eW hc'
 have sk:=tc c1 hT1 s.rel.fresh
 refine⟨T1,T2,D,λi h=>h.elim,λi h=>h.elim,hT12,c1,c2,λr hr hE=>adD hE (hT1 r hr),λr R2' he=>⟨hT2 r R2' he,λh=>h⟩, ?_, ?_,λr hr r' hr' v h v' h' e e' _ _ he=>sk.dist r hr r' hr' v h v' h' e e' he,sk.fr,λr _ h=>h.elim,λt _ v hv=>hT.2 t v hv,hs⟩
 ·rw[sk.dfs,sk.ctx]
  exact (Mv.refl s).more sk.next sk.get sk.fresh
 ·intro r hr v h e _
  obtain⟨q1,q2,q3⟩:=sk.al r hr v h e
  refine⟨?_,q3,q2,q1⟩
  cases hi:ι0 r.h.next with
  |none=>rfl
  |some p=>have:=s.rel.lt_next hi;omega
theorem GJ (hC:CallsOK P S self) (hr:RegOK P fn ops) (hL:Lay P ops l) (hsz:fn.ntmps<=size) {o:Out} {d':Dyn} (hrun:G1 P S self l rnd d0= .mk o d') {a0:Act}
 (s:Sd P ι0 B rnd d0.dfs d0.ctx d0.h b a0.defers cs0 w0) (hT:TR ι0 d0.t a0.tmps) (hs:a0.tmps.size=size) (tt:Nat):
 dH P B rnd b k (lone (b.atR a0 (.inRegion ops (Region.linearise .any ops tt)::k)) cs0 w0) ι0 d0.ctx d0.h size cs0 w0 o d':=by
 have hstart:∀{R:List Rec} {dE:Dyn} {rest0:List NOper} {G:Out} {dF:Dyn},l=R.map (·.o)++rest0->R.Pairwise QQ->Chain P S self rnd d0 R dE->
  (∀(X:Nat->Prop) (R1 R2:List Rec) (D:Dyn) (ι:aZ) (a:Act) (cs:List Frame) (w:World),Inv P S self rnd B b ops d0 dE R ι0 cs0 w0 size X R1 R2 D ι a cs w->(∀i,i<ops.size->X i)->
   dH P B rnd b k (lone (b.atR a (.inRegion ops []::k)) cs w) ι0 d0.ctx d0.h size cs0 w0 G dF)->
  (∀(X:Nat->Prop) (R1 R2:List Rec) (D:Dyn) (ι:aZ) (a:Act) (cs:List Frame) (w:World),Inv P S self rnd B b ops d0 dE R ι0 cs0 w0 size X R1 R2 D ι a cs w->∀(no:NOper) (rest:List Nat),no∈rest0->dr ops X no.idx->¬X no.idx->
   dH P B rnd b k (lone (b.atR a (.inRegion ops (no.idx::rest)::k)) cs w) ι0 d0.ctx d0.h size cs0 w0 G dF)->
  dH P B rnd b k (lone (b.atR a0 (.inRegion ops (Region.linearise .any ops tt)::k)) cs0 w0) ι0 d0.ctx d0.h size cs0 w0 G dF:=by
  intro R dE rest0 G dF hl hQ hc hfin hstop
  obtain⟨R1,R2,D,I⟩:=Kn (ops:=ops) s hT hc hs
  refine Ji hC hr hL hl hQ hsz hfin hstop ops.size tt (Array.replicate ops.size false) (λ_=>False) R1 R2 D ι0 a0 cs0 w0 (by simp) (λi=> ?_) ?_ I
  ·simp[Array.getElem?_replicate]
  ·unfold jR
   exact ab9 (List.length_filter_le _ _) (by simp)
 unfold G1 at hrun
 split at hrun
 ·
  rename_i v d1 hpan
  cases hrun
  obtain⟨R,q,l2,h',q1,q2,q3,_,_,q6,q7,q8,q9,_,q11,q12⟩:=Ko l [] [] d0 d1 hpan
  have hRl:∀x∈R,x.o∈l:=λx hx=>by rw[q1];simp only[aa6];exact .inl (ab3.2 ⟨x,hx,rfl⟩)
  have hql:q.o∈l:=by rw[q1];simp
  have hnq:∀x∈R,x.o.idx≠q.o.idx:=by
   intro x hx e
   have hnd:=hL.nodup
   rw[q1,ab5,List.nodup_append] at hnd
   exact hnd.2.2 x.o.idx (by rw[List.map_map];exact ab3.2 ⟨x,hx,rfl⟩) q.o.idx (by simp) e
  refine hstart q1 q3 q2 (λX R1 R2 D ι a cs w I hall=> ?_) (λX R1 R2 D ι a cs w I no rest hno hE hnX=> ?_)
  ·obtain⟨oq,m1,_⟩:=hL.mem q.o hql
   obtain⟨x,hx,he⟩:=I.inR _ (hall q.o.idx (Array.getElem?_eq_some_iff.1 m1).1)
   exact adD he (hnq x hx)
  ·rcases aa1.1 hno with rfl|hno
   ·obtain⟨oq,ho,hdst,hcp,hG,hpre⟩:=hL.mem q.o hql
    have hcp':ax P oq.op=some q.o.op:=hcp.resolve_right λe=>by rw[e] at q8;cases q8
    have hT:TR ι (iJ (opsOf q.o.op) q.t) a.tmps:=iP hr hL hRl I q1 (λ_ h=>h) q2 ho hE hnX hcp'
    have hgu:=oQ hr hL hRl I q1 (λ_ h=>h) q2 ho hE hnX hG q6
    have hbX:∀j,q.o.pre.testBit j=true->X j:=λj hj=>rE hr I.down ho hE (by rw[←hpre];exact hj)
    have hR2:R2= []:=by
     cases hR2:R2 with
     |nil=>rfl
     |cons h2 R2'=>
      have hhd:=I.head h2 R2' hR2
      have hm:h2∈R:=by rw[I.split,hR2];simp
      exact adD (hbX _ (q11 h2 hm hhd.1)) hhd.2
    have hc2:=I.c2
    rw[hR2] at hc2
    have hD:=fP hc2
    have hx:=fS (S:=S) (self:=self) (k:=k) (rest:=rest) hC ho hgu hcp' (nX hT) I.mv.sd
    rw[ri KL D.h,←hD] at hx
    have q8':eD P S self rnd q.st.dfs q.st.ctx q.st.h (ai q.o.op q.t q.st.h)= .pan v h':=q8
    rw[q8'] at hx
    obtain⟨v',ι1,w1,td,x1,x2,x3⟩:=hx
    have hmv:=I.mv
    rw[←hD] at hmv
    rw[q9]
    refine⟨ι1,a,cs,w1,⟨td,v',x2,x1⟩, ?_,hmv.trans x3,I.size⟩
    refine⟨x3.sd.rel.gl,λt v0 hv0=> ?_⟩
    obtain⟨g1,g2⟩:=IU hv0
    have g1':NT.get (D4.of t) q.st.t=some v0:=g1
    rw[jl q2 (λx hx=>g2 x.o (hRl x hx))] at g1'
    obtain⟨u,e1,e2⟩:=I.ti t (λx hx _=>g2 x.o (hRl x hx)) v0 g1'
    exact⟨u,e1,e2.mono x3.gr.le⟩
   ·exfalso
    have hnol:no∈l:=by rw[q1];simp[hno]
    obtain⟨on,ho,_,_,_,hpre⟩:=hL.mem no hnol
    have hXq:X q.o.idx:=rE hr I.down ho hE (by rw[←hpre];exact q12 no hno)
    obtain⟨x,hx,he⟩:=I.inR _ hXq
    exact hnq x hx he
 ·rename_i hnp
  cases o with
  |norm=>
   obtain⟨R,h1,h2,h3,_,_⟩:=Ju l [] [] d0 d' hrun
   have hRl:∀x∈R,x.o∈l:=λx hx=>by rw[←h1];exact ab3.2 ⟨x,hx,rfl⟩
   refine hstart (rest0:= []) (by rw[ac7];exact h1.symm) h3 h2 (λX R1 R2 D ι a cs w I hall=> ?_) (λX R1 R2 D ι a cs w I no rest hno=>by cases hno)
   have hRX:∀x∈R,X x.o.idx:=λx hx=>by
    obtain⟨ox,m1,_⟩:=hL.mem x.o (hRl x hx)
    exact hall _ (Array.getElem?_eq_some_iff.1 m1).1
   have hR2:R2= []:=by
    cases hR2:R2 with
    |nil=>rfl
    |cons h2 R2'=>exact adD (hRX h2 (by rw[I.split,hR2];simp)) (I.head h2 R2' hR2).2
   have hc2:=I.c2
   rw[hR2] at hc2
   have hD:=fP hc2
   subst hD
   refine⟨ι,a,cs,w,.one stepR_region_end, ?_,I.mv,I.size⟩
   refine⟨I.mv.sd.rel.gl,λt v hv=> ?_⟩
   by_cases hw:∃r∈R,r.o.dst=some (D4.of t)
   ·obtain⟨r,hrR,hrd⟩:=hw
    obtain⟨A,C,hAC⟩:=List.append_of_mem hrR
    have honly:∀x∈C,x.o.dst≠some (D4.of t):=by
     intro x hx hd
     have hxR:x∈R:=by rw[hAC];simp[hx]
     obtain⟨o1,m1,m2,_⟩:=hL.mem r.o (hRl r hrR)
     obtain⟨o2,n1,n2,_⟩:=hL.mem x.o (hRl x hxR)
     have f:∀{q:Option Nat},q.map D4.of=some (D4.of t)->q=some t:=by
      intro q hq
      cases q with
      |none=>cases hq
      |some u=>injection hq with hq;rw[D4.of_inj hq]
     have he:=hL.once r.o.idx x.o.idx o1 o2 t m1 n1 (f (by rw[←m2];exact hrd)) (f (by rw[←n2];exact hd))
     have hl':l=A.map (·.o)++r.o::C.map (·.o):=by rw[←h1,hAC];simp
     exact ki hL hl' (y:=x.o) (ab3.2 ⟨x,hx,rfl⟩) (z:=r.o) (by simp) he
    have hch:=h2
    rw[hAC] at hch
    rw[qm hch hrd honly] at hv
    cases hv
    exact I.tw r hrR (hRX r hrR) t hrd
   ·rw[jl h2 (λx hx hd=>hw ⟨x,hx,hd⟩)] at hv
    exact I.ti t (λx hx _ hd=>hw ⟨x,hx,hd⟩) v hv
  |pan v=>exact adD hrun (hnp v d')
  |ret=>rcases tC l [] [] d0 _ d' hrun with h|⟨v,h⟩<;>cases h
  |exit id=>rcases tC l [] [] d0 _ d' hrun with h|⟨v,h⟩<;>cases h
end
open Go
section
variable {P:Program} {S:cE} {rnd:Option D4} {B:Nat} {b:Frame} {k:List Item} {size:Nat}
theorem dH.then {x:Item} {m:Machine} {ι:aZ} {ctx:Option NV} {h:NH} {cs:List Frame} {w:World} {o:Out} {d1 d':Dyn} (g:dH P B rnd b (x::k) m ι ctx h size cs w .norm d1)
 (f:∀(ι':aZ) (a':Act) (cs':List Frame) (w':World),TR ι' d1.t a'.tmps->Sd P ι' B rnd d1.dfs d1.ctx d1.h b a'.defers cs' w'->a'.tmps.size=size->
  dH P B rnd b k (lone (b.atR a' (x::k)) cs' w') ι' d1.ctx d1.h size cs' w' o d'):dH P B rnd b k m ι ctx h size cs w o d':=by
 obtain⟨ι1,a1,cs1,w1,q1,q2,q3,q4⟩:=g
 obtain⟨ι2,a2,cs2,w2,r1,r2,r3,r4⟩:=f ι1 a1 cs1 w1 q2 q3.sd q4
 exact⟨ι2,a2,cs2,w2,r1.of_steps q1,r2,q3.trans r3,r4⟩
theorem dH.out {x:Item} {m:Machine} {ι:aZ} {ctx:Option NV} {h:NH} {cs:List Frame} {w:World} {o:Out} {d':Dyn} (hx:∀id,o= .exit id->exitTo id (x::k)=exitTo id k) (ho:o≠.norm) (g:dH P B rnd b (x::k) m ι ctx h size cs w o d'):
 dH P B rnd b k m ι ctx h size cs w o d':=by
 obtain⟨ι1,a1,cs1,w1,q1,q2⟩:=g
 refine⟨ι1,a1,cs1,w1, ?_,q2⟩
 cases o with
 |norm=>exact adD rfl ho
 |ret=>exact q1
 |exit id=>obtain⟨k0,h1,h2⟩:=q1;exact⟨k0,h1.trans (hx id rfl),h2⟩
 |pan v=>exact q1
theorem dH.undrew {m:Machine} {ι:aZ} {ctx:Option NV} {h:NH} {cs:List Frame} {w:World} {o:Out} {d':Dyn} (g:dH P B rnd b k m ι ctx h size cs w.drew o d'):dH P B rnd b k m ι ctx h size cs w o d':=by
 obtain⟨ι1,a1,cs1,w1,q1,q2,q3,q4⟩:=g
 have gr:=q3.gr
 exact⟨ι1,a1,cs1,w1,q1,q2,⟨q3.sd,⟨gr.le,gr.next,gr.new,gr.blk,gr.keep,gr.size,gr.os,gr.tape,gr.output,gr.frame⟩,q3.ca⟩,q4⟩
def Ql (st:Item) (c:Code):Prop:=st= .code c∨∃x,c= .loop x/\st= .inLoop x
def jQ (P:Program) (S:cE) (n:Nat):Prop:=
 ∀(c:Code) (nc:NC) (fn:Func) (bl la:List Nat),cZ P c=some nc->CheckCode.code P fn bl la c= .ok ()->∀(rnd:Option D4) (d:Dyn) (o:Out) (d':Dyn),ev P S n rnd nc d= .mk o d'->
 ∀(st:Item),Ql st c->∀(B:Nat) (b:Frame) (k:List Item) (ι:aZ) (a:Act) (cs:List Frame) (w:World),P.funcs[b.fn]? =some fn->TR ι d.t a.tmps->Sd P ι B rnd d.dfs d.ctx d.h b a.defers cs w->fn.ntmps<=a.tmps.size->
  dH P B rnd b k (lone (b.atR a (st::k)) cs w) ι d.ctx d.h a.tmps.size cs w o d'
theorem O8:∀{l:List Nat} {r:List D4},xT l=some r->r=l.map D4.of:=by
 intro l
 induction l with
 |nil=>intro r h;cases h;rfl
 |cons x l ih=>
  intro r h
  have h':(Option.rec none (λt=>D4.ofNat x λn=>some (n::t)) (xT l):Option (List D4))=some r:=h
  cases hl:xT l with
  |none=>rw[hl] at h';cases h'
  |some t=>
   rw[hl] at h'
   have h2:(D4.ofNat x λn=>some (n::t))=some r:=h'
   rw[D4.ofNat_eq] at h2
   cases h2
   rw[ih hl];rfl
theorem uz {a:Act} {cs:List Frame} {w w₁:World} {g:Operand} {ps:Array Tmp} {assign body:Code} {l:Nat} {mark:List Deferred}
 (he:(Instr.enterLoop b.fn a.tmps ps assign body b.roundOf).run P w= .ok (l,mark) w₁):
 (stepG P true {frame:=b.atR a (.code (.rangeFunc g ps assign body)::k),callers:=cs,status:= .running,dying:=none} w).bare=
  (stepG.apply P true (b.atR {a with defers:=mark++a.defers} (.inRangeFunc l::k)) cs none (do let d ←resolve a.eval (rangeCall g l) 0;invoke d.target d.args) w₁).bare:=by
 have hev:=Frame.eval_atR b {a with defers:=mark++a.defers} (.inRangeFunc l::k)
 simp only[Frame.atR] at hev
 simp[stepG,stepG.exec,Frame.atR,Sem.runT_eq,he,GStep.bare_after,hev]
 rfl
theorem kL {self:Option D4->NC->Dyn->Res} (hC:CallsOK P S self) {fn:Func} (hfn:P.funcs[b.fn]? =some fn) {bl la:List Nat} {assign body:Code} {na nb:NC} (ca:cZ P assign=some na) (cb:cZ P body=some nb)
 (ka:CheckCode.code P fn [] [] assign= .ok ()) (kb:CheckCode.code P fn bl la body= .ok ()) {ps:Array Tmp} {nps:List D4} (hps:nps=ps.toList.map D4.of) (hpl:∀t∈ps.toList,t<fn.ntmps)
 {g:Operand} {f:Nat} {cap:List NV} {t:Tm} {dfs:List Dfr} {ctx:Option NV} {h:NH} {o:Out} {d':Dyn} (hrun:cL P S self f cap nps na nb t dfs ctx h= .mk o d')
 {ι:aZ} {a:Act} {cs:List Frame} {w0 w:World} {mark:List Deferred} {r:Nat} (hT:TR ι t a.tmps) (s:Sd P ι B rnd dfs ctx h b (mark++a.defers) cs w) (hsz:fn.ntmps<=a.tmps.size)
 {cap':List Value} (hcap:VRL ι cap cap') (hg:a.eval g= .func (.func f) #[] cap'.toArray)
 (he:(Instr.enterLoop b.fn a.tmps ps assign body b.roundOf).run P w0= .ok (w.heap.size,mark) (w.alloc (.loop {state:= .ready,pending:=none,fn:=b.fn,tmps:=a.tmps,params:=ps,assign,body,defers:=r}))):
 dH P B rnd b k (lone (b.atR a (.code (.rangeFunc g ps assign body)::k)) cs w0) ι ctx h a.tmps.size cs w o d':=by
 obtain⟨L,hL⟩:∃L:Loop,L={state:= .ready,pending:=none,fn:=b.fn,tmps:=a.tmps,params:=ps,assign,body,defers:=r}:=⟨_,rfl⟩
 rw[←hL] at he
 have hOR:∀ι':aZ,ι.le ι'->OR P ι' (w.alloc (.loop L)) ⟨w.heap.size,0,0⟩ (.loop 0 .none t nps na nb):=λι' hle=>by
  subst hL
  exact⟨_,eF w _,rfl,rfl,hT.mono hle,hps,ca,cb,⟨fn,bl,la,bl,hfn,hsz,ka,kb,rfl⟩,λq hq=>ad2 (hpl q hq) hsz⟩
 obtain⟨ι1,i1,i2,i3,i4⟩:=s.rel.alloc s.base (.loop 0 .none t nps na nb) (.loop L) ⟨w.heap.size,0,0⟩ rfl hOR
 generalize hw1:w.alloc (.loop L)=w1 at *
 generalize hh1:h.add (.loop 0 .none t nps na nb)=h1 at *
 have hB1:B<=w1.heap.size:=ab9 s.base i4.size
 have hrun':(match bZ P S self f (.yld h.next::cap) h1 with
  | .val _ _ h3=>fj h.next t dfs ctx h3
  | .pan v _ h3=> .mk (.pan v) ⟨t,dfs,ctx,h3⟩
  | .fail=> .fail)=Res.mk o d':=by
  rw[←hrun,←hh1]
  exact (NH.new_eq h (.loop 0 .none t nps na nb) λl h=>match bZ P S self f (.yld l::cap) h with
   | .val _ _ h=>fj l t dfs ctx h
   | .pan v _ h=> .mk (.pan v) ⟨t,dfs,ctx,h⟩
   | .fail=> .fail).symm
 have hcall:=hC.call ι1 B h1 w1 f (.yld h.next::cap) (.func (.yield w.heap.size) #[] #[]::cap') i3 hB1 (.cons _ _ _ _ (.yld h.next _ i1) (hcap.mono i2))
 have hs:(do let d ←resolve a.eval (rangeCall g w.heap.size) 0;invoke d.target d.args:Sem Next).run P w1=(callFunc f (Value.func (.yield w.heap.size) #[] #[]::cap').toArray).run P w1:=by
  simp only[resolve,hg,Deferred.ofValue,invoke,Sem.run_bind,Sem.run_pure,Result.andThen]
  congr 2
  simp[Act.eval]
 have hstep:=uz (k:=k) (cs:=cs) (g:=g) he
 have hfin:∀v,(b.atR {a with defers:=mark++a.defers} (.inRangeFunc w.heap.size::k)).finish v=b.atR {a with defers:=mark++a.defers} (.endRangeFunc w.heap.size::k):=finish_atR_inRangeFunc w.heap.size
 cases hcr:bZ P S self f (.yld h.next::cap) h1 with
 |fail=>rw[hcr] at hrun';cases hrun'
 |val v x h3=>
  rw[hcr] at hcall hrun'
  obtain⟨ι3,v',w3,c1,c2,c3,c4,c5⟩:=hcall (b.atR {a with defers:=mark++a.defers} (.inRangeFunc w.heap.size::k)) cs
  have hto:Steps P (lone (b.atR a (.code (.rangeFunc g ps assign body)::k)) cs w0) (lone (b.atR {a with defers:=mark++a.defers} (.endRangeFunc w.heap.size::k)) cs w3):=by
   rcases c5 with c5|⟨w2,⟨f',ar,c5,c6⟩|⟨l,f',tm,x,y,c5,c6⟩⟩
   ·refine .one (step_lone_go ?_)
    rw[hstep,←hfin v'];simp[stepG.apply,hs,c5]
   ·refine .head (step_lone_go ?_) (by rw[←hfin v'];exact c6)
    rw[hstep];simp[stepG.apply,hs,c5,Frame.atR]
   ·refine .head (step_lone_go ?_) (by rw[←hfin v'];exact c6)
    rw[hstep];simp[stepG.apply,hs,c5,Frame.atR]
  have hp3:ι3 h.next=some ⟨w.heap.size,0,0⟩:=c4.le _ _ i1
  obtain⟨ob,ho1,ho2⟩:=c2.obj _ _ hp3
  have hre:fj h.next t dfs ctx h3= .mk o d':=hrun'
  unfold fj at hre
  rw[ho1] at hre
  cases ob with
  |loop st pd tm ps2 a2 b2=>
   dsimp only at hre
   cases hst:Nat.beq st 1 with
   |true=>rw[hst] at hre;cases hre
   |false=>
    rw[hst,NH.set_eq] at hre
    simp only[cond_false] at hre
    have hst1:st≠1:=ad3 hst
    obtain⟨L3,l1,l2,l3,l4,l5,l6,l7,l8,l9⟩:=ho2
    have hbusy:L3.state≠.busy:=by
     intro e
     rw[e] at l2
     match st,l2,hst1 with
     |0,l2,_=>cases l2
     |1,_,h=>exact h rfl
     |2,l2,_=>cases l2
     |3,l2,_=>cases l2
    have hend:=run_endLoop (P:=P) l1 hbusy
    have hsz3:w.heap.size<w3.heap.size:=c2.lt _ _ hp3
    obtain⟨t1,t2⟩:=c2.turn (w':=w3.putObj w.heap.size (.loop {L3 with state:= .exhausted})) hp3 (by rw[ho1];simp) (.loop 3 pd tm ps2 a2 b2)
     ⟨_,World.putObj_heap_same hsz3,rfl,l3,l4,l5,l6,l7,l8,l9⟩ (by simp) rfl rfl rfl (λq hq=>World.putObj_heap_other hq)
    have hle:ι.le ι3:=i2.trans c4.le
    have hend':=stepR_endRangeFunc (P:=P) (b:=b) (a:={a with defers:=mark++a.defers}) (k:=k) (cs:=cs) hend
    have hsteps:=hto.trans (.one hend')
    have hmv:Mv P B rnd b ι ctx h cs w ι3 dfs ctx (h3.put h.next (.loop 3 pd tm ps2 a2 b2)) (mark++a.defers) cs (w3.putObj w.heap.size (.loop {L3 with state:= .exhausted})):=
     ⟨⟨s.df.mono hle,s.cx.mono hle,t1,by simpa using c3,s.rn.mono hle⟩,(i4.trans c4).trans t2,.refl _ _⟩
    generalize w3.putObj w.heap.size (.loop {L3 with state:= .exhausted})=w4 at hsteps hmv
    cases pd with
    |none=>
     cases hre
     rw[show L3.pending=none from l3] at hsteps
     exact⟨ι3,{a with defers:=mark++a.defers},cs,_,hsteps,hT.mono hle,hmv,rfl⟩
    |ret=>
     cases hre
     rw[show L3.pending=some .ret from l3] at hsteps
     exact⟨ι3,{a with defers:=mark++a.defers},cs,_,⟨k,hsteps⟩,hT.mono hle,hmv,rfl⟩
    |exit id=>
     cases hre
     rw[show L3.pending=some (.exit id) from l3] at hsteps
     exact⟨ι3,{a with defers:=mark++a.defers},cs,_,⟨k,rfl,hsteps⟩,hT.mono hle,hmv,rfl⟩
  |_=>cases hre
 |pan v x h3=>
  rw[hcr] at hcall hrun'
  cases hrun'
  obtain⟨ι3,v',w3,c1,c2,c3,c4,w2,c5⟩:=hcall (b.atR {a with defers:=mark++a.defers} (.inRangeFunc w.heap.size::k)) cs
  have hle:ι.le ι3:=i2.trans c4.le
  refine⟨ι3,{a with defers:=mark++a.defers},cs,w3,⟨.inRangeFunc w.heap.size::k,v',c1, ?_⟩,hT.mono hle,⟨⟨s.df.mono hle,s.cx.mono hle,c2,c3,s.rn.mono hle⟩,i4.trans c4,.refl _ _⟩,rfl⟩
  rw[←Frame.raise_atR b {a with defers:=mark++a.defers} (.inRangeFunc w.heap.size::k)]
  rcases c5 with⟨f',ar,c5,c6⟩|⟨l,f',tm,x,y,c5,c6⟩
  ·refine .head (step_lone_go ?_) c6
   rw[hstep];simp[stepG.apply,hs,c5,Frame.atR]
  ·refine .head (step_lone_go ?_) c6
   rw[hstep];simp[stepG.apply,hs,c5,Frame.atR]
end
open Go
section
variable {P:Program} {S:cE}
theorem Ii (hM:P.follows .mixedOrders=true) {n:Nat} (hO:jQ P S n) (hC:CallsOK P S (ev P S n)):jQ P S (n+1):=by
 intro c nc fn bl la hc hk rnd d o d' hrun st hst B b k ι a cs w hfn hT s hsz
 have self:∀{x:Code} {nx:NC} {bl la:List Nat},cZ P x=some nx->CheckCode.code P fn bl la x= .ok ()->∀{d1:Dyn} {o1:Out} {d2:Dyn},ev P S n rnd nx d1= .mk o1 d2->∀{st:Item},Ql st x->
  ∀{k:List Item} {ι:aZ} {a:Act} {cs:List Frame} {w:World},TR ι d1.t a.tmps->Sd P ι B rnd d1.dfs d1.ctx d1.h b a.defers cs w->fn.ntmps<=a.tmps.size->
  dH P B rnd b k (lone (b.atR a (st::k)) cs w) ι d1.ctx d1.h a.tmps.size cs w o1 d2:=
  λhx hkx _ _ _ hr _ hs _ _ _ _ _ hT s hsz=>hO _ _ fn _ _ hx hkx rnd _ _ _ hr _ hs B b _ _ _ _ _ hfn hT s hsz
 have hcode:(∀x,c≠.loop x)->st= .code c:=λh=>by
  rcases hst with h1|⟨x,h1,_⟩
  ·exact h1
  ·exact adD h1 (h x)
 cases c with
 |skip=>
  rw[hcode (by simp)]
  cases hc
  have hrun':(Res.mk .norm d)= .mk o d':=hrun
  cases hrun'
  exact⟨ι,a,cs,w,.one stepR_skip,hT,Mv.refl s,rfl⟩
 |region id ops draw=>
  rw[hcode (by simp)]
  cases draw with
  |false=>
   have hc':(match dW P ops ops.toList 0 [] with|some l=>some (NC.reg l)|none=>none)=some nc:=hc
   split at hc'
   ·rename_i l hl
    cases hc'
    have hrun':dl P S (ev P S n) rnd l d= .mk o d':=hrun
    obtain⟨t,dfs,ctx,h⟩:=d
    refine dH.of_steps (.one stepR_region) ?_
    have:=Jk (k:=k) hC (oS hk) ops.toList 0 l [] (λj=>by simp) hl t dfs ctx h o d' hrun' ι a cs w hT s hsz
    rw[List.range_eq_range']
    simpa using this
   ·cases hc'
  |true=>
   obtain⟨l,rfl,hL⟩:=Vp hc
   have hrun':G1 P S (ev P S n) l rnd d= .mk o d':=hrun
   have hs':Sd P ι B rnd d.dfs d.ctx d.h b a.defers cs w.drew:=⟨s.df,s.cx,s.rel.drew,s.base,s.rn⟩
   refine dH.undrew (dH.of_steps (.one stepR_region_draw) ?_)
   have hsch:Region.schedule (P.follows .mixedOrders) ops (w.tape w.drawn (.order b.fn id))=Region.linearise .any ops (w.tape w.drawn (.order b.fn id)):=by unfold Region.schedule;rw[hM];rfl
   rw[hsch]
   exact GJ hC (oS hk) hL hsz hrun' hs' hT rfl _
 |seq x y=>
  rw[hcode (by simp)]
  have hc':(match cZ P x with|some a=>(match cZ P y with|some b=>some (NC.seq a b)|none=>none)|none=>none)=some nc:=hc
  split at hc'
  ·rename_i nx hx
   split at hc'
   ·rename_i ny hy
    cases hc'
    obtain⟨k1,k2⟩:=Ow hk
    have hrun':(match ev P S n rnd nx d with
     | .mk o d=>(match o with
      | .norm=>ev P S n rnd ny d
      |o=> .mk o d)
     | .fail=> .fail)=Res.mk o d':=Gy.symm.trans hrun
    refine dH.of_steps (.one stepR_seq) ?_
    cases he:ev P S n rnd nx d with
    |fail=>rw[he] at hrun';cases hrun'
    |mk o1 d1=>
     rw[he] at hrun'
     have g1:=self hx k1 he (.inl rfl) (k:= .code y::k) hT s hsz
     cases o1 with
     |norm=>
      exact g1.then λι' a' cs' w' hT' s' hz=>by
       have:=self hy k2 hrun' (.inl rfl) (k:=k) hT' s' (by rw[hz];exact hsz)
       rw[hz] at this;exact this
     |ret=>cases hrun';exact g1.out (by simp) (by simp)
     |exit id=>cases hrun';exact g1.out (λ_ _=>rfl) (by simp)
     |pan v=>cases hrun';exact g1.out (by simp) (by simp)
   ·cases hc'
  ·cases hc'
 |cond e x y=>
  rw[hcode (by simp)]
  have hc':(match aH e with
   |some c=>(match cZ P x with|some a=>(match cZ P y with|some b=>some (NC.cond c a b)|none=>none)|none=>none)
   |none=>none)=some nc:=hc
  split at hc'
  ·rename_i ne hne
   split at hc'
   ·rename_i nx hx
    split at hc'
    ·rename_i ny hy
     cases hc'
     obtain⟨k1,k2⟩:=JE hk
     have hrun':(match ρ d.t ne with
      |some (.bool c)=>Bool.rec (ev P S n rnd ny d) (ev P S n rnd nx d) c
      |_=> .fail)=Res.mk o d':=HG.symm.trans hrun
     cases hv:ρ d.t ne with
     |none=>rw[hv] at hrun';cases hrun'
     |some v=>
      rw[hv] at hrun'
      cases v with
      |bool q=>
       have hq:=nX hT e ne hne _ hv
       have hev:a.eval e= .bool q:=by generalize a.eval e=z at hq;cases hq;rfl
       refine dH.of_steps (.one (stepR_cond hev)) ?_
       cases q with
       |true=>exact self hx k1 hrun' (.inl rfl) hT s hsz
       |false=>exact self hy k2 hrun' (.inl rfl) hT s hsz
      |_=>cases hrun'
    ·cases hc'
   ·cases hc'
  ·cases hc'
 |block id x=>
  rw[hcode (by simp)]
  have hc':(match cZ P x with|some a=>aG id λid=>some (NC.block id a)|none=>none)=some nc:=hc
  split at hc'
  ·rename_i nx hx
   rw[aj] at hc'
   cases hc'
   have k1:=Fa hk
   have hrun':(match ev P S n rnd nx d with
    | .mk o d=>(match o with
     | .exit i=>cond (Nat.beq i id) (.mk .norm d) (.mk (.exit i) d)
     |o=> .mk o d)
    | .fail=> .fail)=Res.mk o d':=Cl.symm.trans hrun
   refine dH.of_steps (.one stepR_block) ?_
   cases he:ev P S n rnd nx d with
   |fail=>rw[he] at hrun';cases hrun'
   |mk o1 d1=>
    rw[he] at hrun'
    have g1:=self hx k1 he (.inl rfl) (k:= .inBlock id::k) hT s hsz
    cases o1 with
    |norm=>
     cases hrun'
     obtain⟨ι1,a1,cs1,w1,q1,q2⟩:=g1
     exact⟨ι1,a1,cs1,w1,Steps.trans q1 (.one stepR_inBlock),q2⟩
    |ret=>cases hrun';exact g1.out (by simp) (by simp)
    |exit i=>
     dsimp only at hrun'
     cases hb:Nat.beq i id with
     |true=>
      rw[hb] at hrun'
      cases hrun'
      have:=adK hb
      subst this
      obtain⟨ι1,a1,cs1,w1,⟨k0,q0,q1⟩,q2⟩:=g1
      refine⟨ι1,a1,cs1,w1,Steps.trans q1 (.one (stepR_exit ?_)),q2⟩
      rw[q0];simp[exitTo]
     |false=>
      rw[hb] at hrun'
      cases hrun'
      have hne:=ad3 hb
      refine g1.out (λi' hi'=> ?_) (by simp)
      cases hi'
      have:(id==i)=false:=by simpa using λe=>hne e.symm
      simp[exitTo,this]
    |pan v=>cases hrun';exact g1.out (by simp) (by simp)
  ·cases hc'
 |loop x=>
  have hc':(match cZ P x with|some a=>some (NC.loop a)|none=>none)=some nc:=hc
  split at hc'
  ·rename_i nx hx
   cases hc'
   have k1:=Is hk
   have hrun':(match ev P S n rnd nx d with
    | .mk o d=>(match o with
     | .norm=>ev P S n rnd (.loop nx) d
     |o=> .mk o d)
    | .fail=> .fail)=Res.mk o d':=ue.symm.trans hrun
   have h1:Steps P (lone (b.atR a (st::k)) cs w) (lone (b.atR a (.code x:: .inLoop x::k)) cs w):=by
    rcases hst with rfl|⟨y,hy,rfl⟩
    ·exact .one stepR_loop
    ·cases hy;exact .one stepR_inLoop
   refine dH.of_steps h1 ?_
   cases he:ev P S n rnd nx d with
   |fail=>rw[he] at hrun';cases hrun'
   |mk o1 d1=>
    rw[he] at hrun'
    have g1:=self hx k1 he (.inl rfl) (k:= .inLoop x::k) hT s hsz
    cases o1 with
    |norm=>
     exact g1.then λι' a' cs' w' hT' s' hz=>by
      have:=self hc hk hrun' (.inr ⟨x,rfl,rfl⟩) (k:=k) hT' s' (by rw[hz];exact hsz)
      rw[hz] at this;exact this
    |ret=>cases hrun';exact g1.out (by simp) (by simp)
    |exit id=>cases hrun';exact g1.out (λ_ _=>rfl) (by simp)
    |pan v=>cases hrun';exact g1.out (by simp) (by simp)
  ·cases hc'
 |exit id=>
  rw[hcode (by simp)]
  have hc':(aG id λid=>some (NC.exit id))=some nc:=hc
  rw[aj] at hc'
  cases hc'
  have hrun':Res.mk (.exit id) d= .mk o d':=hrun
  cases hrun'
  exact⟨ι,a,cs,w,⟨k,rfl,Steps.refl P _⟩,hT,Mv.refl s,rfl⟩
 |ret=>
  rw[hcode (by simp)]
  cases hc
  have hrun':Res.mk .ret d= .mk o d':=hrun
  cases hrun'
  exact⟨ι,a,cs,w,⟨k,Steps.refl P _⟩,hT,Mv.refl s,rfl⟩
 |rangeFunc g ps x y=>
  rw[hcode (by simp)]
  have hc':(match aH g,xT ps.toList with
   |some f,some ps=>(match cZ P x with|some a=>(match cZ P y with|some b=>some (NC.rangeFunc f ps a b)|none=>none)|none=>none)
   |_,_=>none)=some nc:=hc
  split at hc'
  ·rename_i nf nps hf hps
   split at hc'
   ·rename_i nx hx
    split at hc'
    ·rename_i ny hy
     cases hc'
     obtain⟨k1,k2,k3⟩:=FM hk
     have hnps:=O8 hps
     obtain⟨t,dfs,ctx,h⟩:=d
     have hrun':(match ρ t nf with
      |some (.fn f cap)=>(match (generalizing:=false) rnd with
       |none=>h.new (.defd true) λm h=>cL P S (ev P S n) f cap nps nx ny t (.mark m::dfs) ctx h
       |some l=>(match h.get l with
        |some (.loop ..)=>cL P S (ev P S n) f cap nps nx ny t dfs ctx h
        |_=> .fail))
      |_=> .fail)=Res.mk o d':=hrun
     cases hv:ρ t nf with
     |none=>rw[hv] at hrun';cases hrun'
     |some v=>
      rw[hv] at hrun'
      cases v with
      |fn f cap=>
       have hq:=nX hT g nf hf _ hv
       obtain⟨cap',hcap,hg⟩:∃cap',VRL ι cap cap'/\a.eval g= .func (.func f) #[] cap'.toArray:=by
        generalize a.eval g=z at hq
        cases hq with
        |fn _ _ cap' h=>exact⟨cap',h,rfl⟩
       cases rnd with
       |none=>
        have hro:b.roundOf=none:=s.rn
        have hrun2:(h.new (.defd true) λm h=>cL P S (ev P S n) f cap nps nx ny t (.mark m::dfs) ctx h)=Res.mk o d':=hrun'
        rw[NH.new_eq] at hrun2
        obtain⟨ι1,i1,i2,i3,i4⟩:=s.rel.alloc s.base (.defd true) (.deferred (some [])) ⟨w.heap.size,0,0⟩ rfl (λι' _=>eF w _)
        have henter:=run_enterLoop_outer (P:=P) (w:=w) b.fn a.tmps ps x y
        have hs1:Sd P ι1 B none (.mark h.next::dfs) ctx (h.add (.defd true)) b ([{target:= .collected w.heap.size,args:=#[]}]++a.defers) cs (w.alloc (.deferred (some []))):=
         ⟨⟨⟨_,i1,rfl⟩,s.df.mono i2⟩,s.cx.mono i2,i3,ab9 s.base i4.size,s.rn⟩
        have g:=kL (k:=k) hC hfn hx hy k2 k3 hnps k1 hrun2 (w0:=w) (mark:= [{target:= .collected w.heap.size,args:=#[]}]) (r:=w.heap.size) (hT.mono i2) hs1 hsz (hcap.mono i2) hg (by rw[hro,henter];simp)
        obtain⟨ι2,a2,cs2,w2,q1,q2,q3,q4⟩:=g
        exact⟨ι2,a2,cs2,w2,q1,q2,⟨q3.sd,i4.trans q3.gr,q3.ca⟩,q4⟩
       |some l0=>
        obtain⟨p0,hp0,hro⟩:=s.rn
        have hrun2:(match h.get l0 with
         |some (.loop ..)=>cL P S (ev P S n) f cap nps nx ny t dfs ctx h
         |_=> .fail)=Res.mk o d':=hrun'
        obtain⟨ob,ho1,ho2⟩:=s.rel.obj _ _ hp0
        rw[ho1] at hrun2
        cases ob with
        |loop st pd tm ps2 a2 b2=>
         obtain⟨L3,l1,_⟩:=ho2
         have henter:(Instr.enterLoop b.fn a.tmps ps x y (some p0.b)).run P w= .ok (w.heap.size, []) (w.alloc (.loop {state:= .ready,pending:=none,fn:=b.fn,tmps:=a.tmps,params:=ps,assign:=x,body:=y,defers:=L3.defers})):=by
          unfold Instr.enterLoop
          simp only[Sem.run_bind,run_getLoop l1,run_newObj_alloc,Result.andThen,Sem.run_pure]
         exact kL (k:=k) hC hfn hx hy k2 k3 hnps k1 hrun2 (w0:=w) (mark:= []) (r:=L3.defers) hT s hsz hcap hg (by rw[hro,henter])
        |_=>cases hrun2
      |_=>cases hrun'
    ·cases hc'
   ·cases hc'
  ·cases hc'
 |_=>cases hc
end
open Go
def Hv (ι:aZ):Option NV->FrameMode->Prop
 |none,m=>m= .returning
 |some v,m=>∃v',m= .panicking [{v:=v',recovered:=false}]/\VR ι v v'
theorem Hv.mono {ι ι':aZ} (hι:ι.le ι') {p:Option NV} {m:FrameMode} (h:Hv ι p m):Hv ι' p m:=by
 cases p with
 |none=>exact h
 |some v=>obtain⟨v',h1,h2⟩:=h;exact⟨v',h1,h2.mono hι⟩
theorem Hv.ne_run {ι:aZ} {p:Option NV} {m:FrameMode} (h:Hv ι p m):m≠.run:=by
 cases p with
 |none=>rw[show m= .returning from h];simp
 |some v=>obtain⟨v',h1,h2⟩:=h;rw[h1];simp
theorem Hv.settle {ι:aZ} {p:Option NV} {m:FrameMode} (h:Hv ι p m):Go.settle m=m:=by
 cases p with
 |none=>rw[show m= .returning from h];rfl
 |some v=>obtain⟨v',h1,h2⟩:=h;rw[h1];rfl
theorem Hv.ctx {ι:aZ} {p:Option NV} {c:Frame} {cs:List Frame} (h:Hv ι p c.mode):EJ ι .deferred (c::cs) p:=by
 cases p with
 |none=>
  intro b hb
  have h':c.mode= .returning:=h
  unfold tryRecover
  rw[hb]
  simp only[h']
 |some v=>
  obtain⟨v',h1,h2⟩:=h
  exact⟨rfl,c,cs,v', [],rfl,h1,h2⟩
section
variable {P:Program} {S:cE} {B:Nat}
def QO (tmps:Array Value):ResultVar->Sem Value
 | .tmp t=>pure (tmps.getD t undef)
 | .cell a t=>do loadVar t (←asAddr (tmps.getD a undef))
theorem Ew (fn:Func) (tmps:Array Value):results fn tmps=(do let vs ←fn.results.mapM (QO tmps);pure (if h:vs.size=1 then vs[0] else .tuple vs)):=by
 unfold results
 congr 1
def vg (h:NH) (t:Tm):NRes->NR
 | .tmp k=>(match NT.get k t with|some v=>NR.val v|none=> .fail)
 | .cell1 k=>gY (.tmp k) t h
 | .cellN k n=>ig n (.tmp k) t h
theorem uv (h:NH) (t:Tm) (r:NRes) (l:List NRes) (F:CR) (K:List NV->CR):
 cD h t (r::l) F K=(match vg h t r with| .val v=>cD h t l F λl=>K (v::l)|_=>F):=by
 cases r<;>rfl
theorem qz {w:World} {T:TypeId} {v:Value} {u:Value} (h:a9 ((Instr.loadAt T v).run P w)= .ok (.value u) w):(do loadVar T (←asAddr v):Sem Value).run P w= .ok u w:=by
 cases v with
 |pointer a=>
  cases a with
  |none=>simp[a9,Instr.loadAt,Instr.sureAddr,stuck,Sem.run_bind,Sem.run,Result.andThen] at h
  |some a=>
   simp only[a9,Instr.loadAt,Instr.sureAddr,asAddr,Sem.run_bind,Sem.run_pure,Result.andThen] at h ⊢
   cases hr:Sem.run P (loadVar T a) w with
   |ok x w1=>rw[hr] at h;cases h;rfl
   |halt x w1=>rw[hr] at h;cases h
 |_=>simp[a9,Instr.loadAt,Instr.sureAddr,stuck,Sem.run_bind,Sem.run,Result.andThen] at h
theorem IW {ι:aZ} {h:NH} {w:World} {t:Tm} {tmps:Array Value} (hT:TR ι t tmps) (hR:Rel P ι B h w) {r0:CR} (hr0:r0≠.fail):∀(l:List ResultVar) (nl:List NRes) (K:List NV->CR),du P l=some nl->cD h t nl .fail K=r0->
 ∃vs vs',K vs=r0/\VRL ι vs vs'/\(l.mapM (QO tmps)).run P w= .ok vs' w:=by
 have ov:∀k:Nat,OV ι t (.tmp (D4.of k)) (tmps.getD k undef):=by
  intro k v hv
  obtain⟨v',h1,h2⟩:=hT.2 k v hv
  rw[HE h1];exact h2
 intro l
 induction l with
 |nil=>
  intro nl K hc hk
  cases hc
  exact⟨[], [],hk,.nil,by simp⟩
 |cons r l ih=>
  intro nl K hc hk
  have step:∀{nr:NRes} {nl':List NRes},du P l=some nl'->nl=nr::nl'->(∀v,vg h t nr= .val v->∃v',(QO tmps r).run P w= .ok v' w/\VR ι v v')->
   ∃vs vs',K vs=r0/\VRL ι vs vs'/\((r::l).mapM (QO tmps)).run P w= .ok vs' w:=by
   intro nr nl' h1 h2 h3
   subst h2
   rw[uv] at hk
   cases hv:vg h t nr with
   |val v=>
    rw[hv] at hk
    obtain⟨v',q1,q2⟩:=h3 v hv
    obtain⟨vs,vs',p1,p2,p3⟩:=ih nl' _ h1 hk
    refine⟨v::vs,v'::vs',p1,.cons _ _ _ _ q2 p2, ?_⟩
    rw[List.mapM_cons]
    simp only[Sem.run_bind,q1,p3,Result.andThen,Sem.run_pure]
   |_=>rw[hv] at hk;exact adD hk.symm hr0
  cases r with
  |tmp k=>
   have hc':(match du P l with|some l=>D4.ofNat k λt=>some (NRes.tmp t::l)|none=>none)=some nl:=by
    have e:du P (.tmp k::l)=(match ResultVar.tmp k,du P l with
     | .tmp t,some l=>D4.ofNat t λt=>some (.tmp t::l)
     | .cell t ty,some l=>(match nR P ty with
      |some none=>D4.ofNat t λt=>some (.cell1 t::l)
      |some (some n)=>D4.ofNat t λt=>some (.cellN t n::l)
      |none=>none)
     |_,none=>none):=rfl
    rw[e] at hc
    cases hl:du P l with
    |none=>rw[hl] at hc;exact hc
    |some l1=>rw[hl] at hc;exact hc
   cases hl:du P l with
   |none=>rw[hl] at hc';cases hc'
   |some l1=>
    rw[hl] at hc'
    have hc2:(D4.ofNat k λt=>some (NRes.tmp t::l1))=some nl:=hc'
    rw[D4.ofNat_eq] at hc2
    refine step hl (Option.some.inj hc2).symm λv hv=> ?_
    have hv':(match NT.get (D4.of k) t with|some v=>NR.val v|none=> .fail)=NR.val v:=hv
    cases hg:NT.get (D4.of k) t with
    |none=>rw[hg] at hv';cases hv'
    |some u=>
     rw[hg] at hv';cases hv'
     exact⟨_,rfl,ov k _ hg⟩
  |cell k T=>
   have e:du P (.cell k T::l)=(match ResultVar.cell k T,du P l with
    | .tmp t,some l=>D4.ofNat t λt=>some (.tmp t::l)
    | .cell t ty,some l=>(match nR P ty with
     |some none=>D4.ofNat t λt=>some (.cell1 t::l)
     |some (some n)=>D4.ofNat t λt=>some (.cellN t n::l)
     |none=>none)
    |_,none=>none):=rfl
   rw[e] at hc
   cases hl:du P l with
   |none=>rw[hl] at hc;cases hc
   |some l1=>
    rw[hl] at hc
    dsimp only at hc
    cases ha:nR P T with
    |none=>rw[ha] at hc;cases hc
    |some q=>
     rw[ha] at hc
     cases q with
     |none=>
      have hc2:(D4.ofNat k λt=>some (NRes.cell1 t::l1))=some nl:=hc
      rw[D4.ofNat_eq] at hc2
      refine step hl (Option.some.inj hc2).symm λv hv=> ?_
      have:=oF (B:=B) (h:=h) (w:=w) ha (ov k) hR
      rw[show gY (.tmp (D4.of k)) t h= .val v from hv] at this
      obtain⟨v',h1,h2⟩:=this
      exact⟨v',qz h1,h2⟩
     |some m=>
      have hc2:(D4.ofNat k λt=>some (NRes.cellN t m::l1))=some nl:=hc
      rw[D4.ofNat_eq] at hc2
      refine step hl (Option.some.inj hc2).symm λv hv=> ?_
      have:=oG (B:=B) (h:=h) (w:=w) ha (ov k) hR
      rw[show ig m (.tmp (D4.of k)) t h= .val v from hv] at this
      obtain⟨v',h1,h2⟩:=this
      exact⟨v',qz h1,h2⟩
theorem sI {ι:aZ} {h:NH} {w:World} {t:Tm} {tmps:Array Value} (hT:TR ι t tmps) (hR:Rel P ι B h w) {fn:Func} {nl:List NRes} (hc:du P fn.results.toList=some nl) {ctx:Option NV} {r0:CR} (hr0:r0≠.fail)
 (h0:cD h t nl .fail (λl=> .val (gS l) ctx h)=r0):∃v v',r0= .val v ctx h/\VR ι v v'/\(results fn tmps).run P w= .ok v' w:=by
 obtain⟨vs,vs',h1,h2,h3⟩:=IW hT hR hr0 _ _ _ hc h0
 refine⟨gS vs,if h:vs'.toArray.size=1 then vs'.toArray[0] else .tuple vs'.toArray,h1.symm, ?_, ?_⟩
 ·cases h2 with
  |nil=>exact .tup [] [] .nil
  |cons v v' l l' hv hl=>
   cases hl with
   |nil=>exact hv
   |cons u u' l l' hu hl=>
    have:¬(v'::u'::l').toArray.size=1:=by simp
    rw[dif_neg this]
    exact .tup _ _ (.cons _ _ _ _ hv (.cons _ _ _ _ hu hl))
 ·rw[Ew,Array.mapM_eq_mapM_toList]
  simp only[Sem.run_bind,map_eq_pure_bind,h3,Result.andThen,Sem.run_pure]
end
open Go
section
variable {P:Program} {S:cE} {B:Nat}
theorem kp {f:Nat} {nf:NFun} (h:af P f=some (.code nf)):∃fn c,P.funcs[f]? =some fn/\fn.body=some c/\fn.name≠ "runtime.NumGoroutine" /\cZ P c=some nf.body/\du P fn.results.toList=some nf.results:=by
 unfold af at h
 split at h
 ·rename_i fn hfn
  cases hn:(fn.name== "runtime.NumGoroutine") with
  |true=>rw[hn] at h;cases h
  |false=>
   rw[hn] at h
   simp only[cond_false] at h
   split at h
   ·rename_i c hb
    split at h
    ·rename_i nb nr h1 h2
     rw[aj] at h
     cases h
     exact⟨fn,c,hfn,hb,by simpa using hn,h1,h2⟩
    ·cases h
   ·split at h<;>cases h
 ·cases h
theorem nK {f:Nat} {fn:Func} {c:Code} (hf:P.funcs[f]? =some fn) (hb:fn.body=some c) (hn:fn.name≠ "runtime.NumGoroutine") (args:Array Value) (w:World):(callFunc f args).run P w= .ok (.enter f args) w:=by
 simp[callFunc,hf,hb,hn]
def cJ:List NV->Nat->Tm->Tm
 | [],_,t=>t
 |v::vs,k,t=>cJ vs (k+1) (NT.put (D4.of k) v t)
theorem MI {R:Type} (vs:List NV) (K:Tm->R):NZ vs K=K (cJ vs 0 .leaf):=by
 have go:∀(vs:List NV) (k:Nat) (t:Tm),(List.rec (motive:=λ_=>D4->Tm->R) (λ_ t=>K t) (λv _ ih k t=>NT.set k v t λt=>k.succ λk=>ih k t) vs (D4.of k) t:R)=K (cJ vs k t):=by
  intro vs
  induction vs with
  |nil=>intro k t;rfl
  |cons v vs ih=>
   intro k t
   have e:(List.rec (motive:=λ_=>D4->Tm->R) (λ_ t=>K t) (λv _ ih k t=>NT.set k v t λt=>k.succ λk=>ih k t) (v::vs) (D4.of k) t:R)=
    NT.set (D4.of k) v t λt=>(D4.of k).succ λk=>(List.rec (motive:=λ_=>D4->Tm->R) (λ_ t=>K t) (λv _ ih k t=>NT.set k v t λt=>k.succ λk=>ih k t) vs k t:R):=rfl
   rw[e,NT.set_eq,D4.succ_eq]
   exact ih (k+1) _
 exact go vs 0 .leaf
theorem GG:∀(vs:List NV) (k:Nat) (t:Tm) (j:Nat) (v:NV),NT.get (D4.of j) (cJ vs k t)=some v->(∃i,j=k+i/\vs[i]? =some v)∨(NT.get (D4.of j) t=some v/\(j<k∨k+vs.length<=j)):=by
 intro vs
 induction vs with
 |nil=>intro k t j v h;exact .inr ⟨h,by simp;omega⟩
 |cons u vs ih=>
  intro k t j v h
  rcases ih (k+1) _ j v h with⟨i,h1,h2⟩|⟨h1,h2⟩
  ·exact .inl ⟨i+1,by omega,by simpa using h2⟩
  ·by_cases e:j=k
   ·subst e
    rw[NT.get_put_same] at h1
    exact .inl ⟨0,rfl,by simpa using h1⟩
   ·rw[NT.get_put_ne (λx=>e (D4.of_inj x))] at h1
    exact .inr ⟨h1,by simp;omega⟩
theorem S6 {ι:aZ} {args:List NV} {args':List Value} (hG:Xt ι) (h:VRL ι args args') (n:Nat):TR ι (cJ args 0 .leaf) (args'.toArray++Array.replicate n undef):=by
 refine⟨hG,λj v hv=> ?_⟩
 rcases GG args 0 .leaf j v hv with⟨i,h1,h2⟩|⟨h1,_⟩
 ·obtain⟨v',h3,h4⟩:=h.get h2
  refine⟨v', ?_,h4⟩
  have:j=i:=by omega
  subst this
  have hlt:=(List.getElem?_eq_some_iff.1 h3).1
  rw[Array.getElem?_append_left (by simpa using hlt)]
  simpa using h3
 ·rw[NT.get_leaf] at h1;cases h1
def aaz (P:Program) (B:Nat) (ι:aZ) (h:NH) (w:World) (fr0:Frame) (kind:CallKind) (ctx:Option NV) (cs:List Frame):CR->Prop
 | .fail=>True
 | .val v ctx' h'=>∃ι' v' w' cs' fr,VR ι' v v'/\Rel P ι' B h' w'/\B<=w'.heap.size/\Grow ι h w ι' h' w'/\qj cs ctx cs' ctx'/\Steps P (lone fr0 cs w) (lone fr cs' w')/\fr.kind=kind/\fr.fn=fr0.fn/\fr.going P w' (.returned v')
 | .pan v ctx' h'=>∃ι' v' w' cs' fr,VR ι' v v'/\Rel P ι' B h' w'/\B<=w'.heap.size/\Grow ι h w ι' h' w'/\qj cs ctx cs' ctx'/\Steps P (lone fr0 cs w) (lone fr cs' w')/\fr.kind=kind/\fr.fn=fr0.fn/\fr.going P w' (.panicked [{v:=v',recovered:=false}])
def Ue (P:Program) (callF:Nat->List NV->Option NV->NH->CR):Prop:=
 ∀(f:Nat) (args:List NV) (p:Option NV) (h:NH),callF f args p h≠.fail->(∃nf,af P f=some (.code nf))/\
  ∀(B:Nat) (ι:aZ) (w:World) (args':List Value) (kind:CallKind) (cs:List Frame),Rel P ι B h w->B<=w.heap.size->VRL ι args args'->EJ ι kind cs p->
   aaz P B ι h w (Frame.enter P f args'.toArray kind) kind p cs (callF f args p h)
theorem oy (callF:Nat->List NV->Option NV->NH->CR) (K:Option NV->NH->CR) (c:Dfr) (l:List Dfr) (p:Option NV) (h:NH):
 unwind callF K (c::l) p h=match c with
  | .call f cap=>(match callF f cap p h with
   | .val _ p h=>unwind callF K l p h
   |_=> .fail)
  | .mark id=>match h.get id with
   |some (.defd true)=>unwind callF K l p (h.put id (.defd false))
   |_=> .fail:=by
 have e:unwind callF K (c::l) p h=match c with
  | .call f cap=>(match callF f cap p h with
   | .val _ p h=>unwind callF K l p h
   |_=> .fail)
  | .mark id=>match h.get id with
   |some (.defd true)=>h.set id (.defd false) λh=>unwind callF K l p h
   |_=> .fail:=rfl
 rw[e]
 cases c with
 |call f cap=>rfl
 |mark id=>
  dsimp only
  split
  ·exact NH.set_eq _ _ _ _
  ·rfl
theorem vB {callF:Nat->List NV->Option NV->NH->CR} (hF:Ue P callF) {K:Option NV->NH->CR} {r:CR} (hr:r≠.fail):∀(l:List Dfr) (p:Option NV) (h:NH),unwind callF K l p h=r->
 ∀(ι:aZ) (w:World) (fr:Frame) (cs:List Frame),DR ι l fr.defers->Rel P ι B h w->B<=w.heap.size->Hv ι p fr.mode->
 ∃p' h' ι' w' fr',K p' h'=r/\Rel P ι' B h' w'/\B<=w'.heap.size/\Grow ι h w ι' h' w'/\Hv ι' p' fr'.mode/\fr'.defers= []/\fr'.tmps=fr.tmps/\fr'.fn=fr.fn/\fr'.kind=fr.kind/\Steps P (lone fr cs w) (lone fr' cs w'):=by
 intro l
 induction l with
 |nil=>
  intro p h hu ι w fr cs hd hR hB hm
  have hde:fr.defers= []:=by
   cases hds:fr.defers with
   |nil=>rfl
   |cons d ds=>rw[hds] at hd;exact hd.elim
  exact⟨p,h,ι,w,fr,hu,hR,hB,.refl _ _ _,hm,hde,rfl,rfl,rfl,Steps.refl P _⟩
 |cons c l ih=>
  intro p h hu ι w fr cs hd hR hB hm
  rw[oy] at hu
  cases hds:fr.defers with
  |nil=>rw[hds] at hd;cases c<;>exact hd.elim
  |cons d ds=>
   rw[hds] at hd
   cases c with
   |mark id=>
    obtain⟨⟨pl,hp,hde⟩,hd'⟩:=hd
    have hu':(match h.get id with
     |some (.defd true)=>unwind callF K l p (h.put id (.defd false))
     |_=> .fail)=r:=hu
    obtain⟨ob,ho1,ho2⟩:=hR.obj _ _ hp
    rw[ho1] at hu'
    cases ob with
    |defd q=>
     cases q with
     |false=>exact adD hu'.symm hr
     |true=>
      have hob:w.heap[pl.b]? =some (.deferred (some [])):=ho2
      have htake:=run_takeDeferred (P:=P) hob
      have hst:=step_collected (cs:=cs) hm.ne_run hds (by rw[hde]) htake
      have hlt:=hR.lt _ _ hp
      obtain⟨t1,t2⟩:=hR.turn (w':=w.putObj pl.b (.deferred none)) hp (by rw[ho1];simp) (.defd false) (World.putObj_heap_same hlt) (by simp) rfl rfl rfl (λq hq=>World.putObj_heap_other hq)
      obtain⟨p',h',ι',w',fr',q1,q2,q3,q4,q5,q6,q7,q8,q9,q10⟩:=ih p _ hu' ι _ {fr with defers:= []++ds} cs hd' t1 (by simpa using hB) hm
      exact⟨p',h',ι',w',fr',q1,q2,q3,t2.trans q4,q5,q6,q7,q8,q9,.head hst q10⟩
    |_=>exact adD hu'.symm hr
   |call f cap=>
    obtain⟨⟨cap',hcap,hde⟩,hd'⟩:=hd
    have hu':(match callF f cap p h with
     | .val _ p h=>unwind callF K l p h
     |_=> .fail)=r:=hu
    cases hcf:callF f cap p h with
    |fail=>rw[hcf] at hu';exact adD hu'.symm hr
    |pan v x h1=>rw[hcf] at hu';exact adD hu'.symm hr
    |val v p1 h1=>
     rw[hcf] at hu'
     obtain⟨⟨nf,hnf⟩,hFr⟩:=hF f cap p h (by rw[hcf];simp)
     obtain⟨fnn,code,e1,e2,e3,_⟩:=kp hnf
     have hinv:(invoke d.target d.args).run P w= .ok (.enter f cap'.toArray) w:=by
      rw[hde]
      have:=nK (P:=P) e1 e2 e3 (#[]++cap'.toArray) w
      simp only[Array.empty_append] at this
      simp only[invoke,Array.empty_append]
      exact this
     have hst:=step_defer (cs:=cs) hm.ne_run hds (by rw[hde]) hinv
     have hfr:=hFr B ι w cap' .deferred ({fr with defers:=ds}::cs) hR hB hcap (Hv.ctx (c:={fr with defers:=ds}) hm)
     rw[hcf] at hfr
     obtain⟨ι1,v',w1,cs1,frx,f1,f2,f3,f4,f5,f6,f7,_,f8⟩:=hfr
     have hback:∃m',Hv ι1 p1 m'/\Steps P (lone fr cs w) (lone {fr with defers:=ds,mode:=m'} cs w1):=by
      rcases f5 with⟨rfl,rfl⟩|⟨rfl,_,c0,rest,v0,older,g1,g2,rfl⟩
      ·refine⟨fr.mode,hm.mono f4.le,.head hst (Steps.trans f6 (.one ?_))⟩
       have:=step_going_returned (c:={fr with defers:=ds}) (cs:=cs) f7 f8
       rw[show settle ({fr with defers:=ds}:Frame).mode=fr.mode from hm.settle] at this
       exact this
      ·injection g1 with g3 g4
       subst g3 g4
       refine⟨.returning,rfl,.head hst (Steps.trans f6 (.one ?_))⟩
       have:=step_going_returned (c:={({fr with defers:=ds}:Frame) with mode:= .panicking ({v:=v0,recovered:=true}::older)}) (cs:=cs) f7 f8
       have hol:older= []:=by
        cases p with
        |none=>
         have:fr.mode= .returning:=hm
         rw[show ({fr with defers:=ds}:Frame).mode=fr.mode from rfl,this] at g2
         cases g2
        |some q=>
         obtain⟨q',hq1,_⟩:=hm
         rw[show ({fr with defers:=ds}:Frame).mode=fr.mode from rfl,hq1] at g2
         cases g2
         rfl
       rw[hol] at this ⊢
       exact this
     obtain⟨m',hm',hsteps⟩:=hback
     obtain⟨p',h',ι',w',fr',q1,q2,q3,q4,q5,q6,q7,q8,q9,q10⟩:=ih p1 h1 hu' ι1 w1 {fr with defers:=ds,mode:=m'} cs (hd'.mono f4.le) f2 f3 hm'
     exact⟨p',h',ι',w',fr',q1,q2,q3,f4.trans q4,q5,q6,q7,q8,q9,hsteps.trans q10⟩
def lD (P:Program):Prop:=∀(f:Nat) (fn:Func) (c:Code),P.funcs[f]? =some fn->fn.body=some c->CheckCode.code P fn [] [] c= .ok ()
theorem lJ (h:P.check= .ok ()):lD P:=by
 intro f fn c hf hb
 unfold Program.check at h
 obtain⟨_,h1,_⟩:=bQ h
 have h2:=vw h1 f (by simp;exact (Array.getElem?_eq_some_iff.1 hf).1)
 unfold CheckCode.funcAt at h2
 rw[hf] at h2
 have h3:=AI h2
 unfold CheckCode.func at h3
 obtain⟨_,_,h3⟩:=bQ h3
 obtain⟨_,_,h3⟩:=bQ h3
 obtain⟨_,_,h3⟩:=bQ h3
 rw[hb] at h3
 simp only at h3
 obtain⟨_,_,h3⟩:=bQ h3
 obtain⟨_,h4,_⟩:=bQ h3
 exact h4
theorem dj (self:Option D4->NC->Dyn->Res) (depth f:Nat) (args:List NV) (ctx:Option NV) (h:NH):
 cP P self (depth+1) f args ctx h=match af P f with
  |some (.code nf)=>(match self none nf.body ⟨cJ args 0 .leaf, [],ctx,h⟩ with
   | .mk o d=>(match o with
    | .norm| .ret=>unwind (cP P self depth) (finish nf.results d) d.dfs none d.h
    | .pan v=>unwind (cP P self depth) (finish nf.results d) d.dfs (some v) d.h
    | .exit _=> .fail)
   | .fail=> .fail)
  |_=> .fail:=by
 have e:cP P self (depth+1) f args ctx h=match af P f with
  |some (.code nf)=>NZ args λt=>(match self none nf.body ⟨t, [],ctx,h⟩ with
   | .mk o d=>(match o with
    | .norm| .ret=>unwind (cP P self depth) (finish nf.results d) d.dfs none d.h
    | .pan v=>unwind (cP P self depth) (finish nf.results d) d.dfs (some v) d.h
    | .exit _=> .fail)
   | .fail=> .fail)
  |_=> .fail:=rfl
 rw[e]
 split
 ·exact MI _ _
 ·rfl
theorem jE (hK:lD P) {n:Nat} (hO:jQ P S n):∀depth,Ue P (cP P (ev P S n) depth):=by
 intro depth
 induction depth with
 |zero=>intro f args p h hne;exact adD rfl hne
 |succ depth ih=>
  intro f args p h hne
  rw[dj] at hne ⊢
  cases hcf:af P f with
  |none=>rw[hcf] at hne;exact adD rfl hne
  |some x=>
   cases x with
   |ext e=>rw[hcf] at hne;exact adD rfl hne
   |code nf=>
    refine⟨⟨nf,rfl⟩,λB ι w args' kind cs hR hB hargs hctx=> ?_⟩
    rw[hcf] at hne
    dsimp only at hne ⊢
    obtain⟨fn,c,hf,hb,hname,hcc,hres⟩:=kp hcf
    let b:Frame:={(default:Frame) with fn:=f,kind:=kind}
    let a0:Act:={tmps:=args'.toArray++Array.replicate (fn.ntmps - args'.toArray.size) undef,defers:= []}
    have henter:Frame.enter P f args'.toArray kind=b.atR a0 [.code c]:=by
     simp[Frame.enter,Frame.atR,hf,hb,b,a0]
     rfl
    cases hev:ev P S n none nf.body ⟨cJ args 0 .leaf, [],p,h⟩ with
    |fail=>rw[hev] at hne;exact adD rfl hne
    |mk o d=>
     rw[hev] at hne
     have hs:Sd P ι B none [] p h b a0.defers cs w:=⟨trivial,hctx,hR,hB,rfl⟩
     have hgo:=hO c nf.body fn [] [] hcc (hK f fn c hf hb) none ⟨cJ args 0 .leaf, [],p,h⟩ o d hev (.code c) (.inl rfl) B b [] ι a0 cs w hf (S6 hR.gl hargs _) hs (by simp[a0];omega)
     rw[←henter] at hgo
     obtain⟨ι1,a1,cs1,w1,g1,g2,g3,g4⟩:=hgo
     have out:∀(q:Option NV) (fr1:Frame),(unwind (cP P (ev P S n) depth) (finish nf.results d) d.dfs q d.h)≠.fail->Hv ι1 q fr1.mode->fr1.defers=a1.defers->fr1.tmps=a1.tmps->fr1.kind=kind->fr1.fn=f->
      Steps P (lone (Frame.enter P f args'.toArray kind) cs w) (lone fr1 cs1 w1)->aaz P B ι h w (Frame.enter P f args'.toArray kind) kind p cs (unwind (cP P (ev P S n) depth) (finish nf.results d) d.dfs q d.h):=by
      intro q fr1 hq hm hdf htm hkd hfn hst
      have sd:=g3.sd
      obtain⟨p',h',ι',w',fr',q1,q2,q3,q4,q5,q6,q7,q8,q9,q10⟩:=vB ih hq d.dfs q d.h rfl ι1 w1 fr1 cs1 (by rw[hdf];exact sd.df) sd.rel sd.base hm
      have hTR:TR ι' d.t fr'.tmps:=by rw[q7,htm];exact g2.mono q4.le
      have hff:P.funcs[fr'.fn]? =some fn:=by rw[q8,hfn];exact hf
      cases p' with
      |none=>
       have q1':cD h' d.t nf.results .fail (λl=> .val (gS l) d.ctx h')=unwind (cP P (ev P S n) depth) (finish nf.results d) d.dfs q d.h:=q1
       obtain⟨v,v',r1,r2,r3⟩:=sI hTR q2 hres hq q1'
       rw[r1]
       exact⟨ι',v',w',cs1,fr',r2,q2,q3,g3.gr.trans q4,g3.ca,hst.trans q10,by rw[q9,hkd],by rw[q8,hfn];rfl,q5,q6,fn,hff,r3⟩
      |some v=>
       have q1':CR.pan v d.ctx h'=unwind (cP P (ev P S n) depth) (finish nf.results d) d.dfs q d.h:=q1
       rw[←q1']
       obtain⟨v',m1,m2⟩:=q5
       exact⟨ι',v',w',cs1,fr',m2,q2,q3,g3.gr.trans q4,g3.ca,hst.trans q10,by rw[q9,hkd],by rw[q8,hfn];rfl,m1,q6,fn,hff⟩
     cases o with
     |norm=>
      have g1':Steps P (lone (Frame.enter P f args'.toArray kind) cs w) (lone (b.atR a1 []) cs1 w1):=g1
      exact out none {b.atR a1 [] with mode:= .returning} hne rfl rfl rfl rfl rfl (g1'.trans (.one (stepR_end rfl)))
     |ret=>
      obtain⟨k0,g1'⟩:=g1
      exact out none {b.atR a1 (.code .ret::k0) with mode:= .returning} hne rfl rfl rfl rfl rfl (g1'.trans (.one (stepR_ret rfl)))
     |exit id=>exact adD rfl hne
     |pan v=>
      obtain⟨td,v',m1,g1'⟩:=g1
      exact out (some v) _ hne ⟨v',rfl,m1⟩ rfl rfl rfl rfl g1'
end
open Go
theorem x1:Extern.allNextRows.lookup "math/bits.Add64" =none:=by kernel_rfl
theorem x2:Extern.allNextRows.lookup "" =none:=by kernel_rfl
theorem x3:Extern.allGenericRows.lookup "math/bits.Add64" =none:=by kernel_rfl
theorem x4:Extern.allTypedRows.lookup "math/bits.Add64" =none:=by kernel_rfl
theorem x5:Extern.allRows.lookup "math/bits.Add64" =some add64Entry:=by kernel_rfl
theorem y1:Extern.allNextRows.lookup "internal/bytealg.IndexByteString" =none:=by kernel_rfl
theorem y3:Extern.allGenericRows.lookup "internal/bytealg.IndexByteString" =none:=by kernel_rfl
theorem y4:Extern.allTypedRows.lookup "internal/bytealg.IndexByteString" =none:=by kernel_rfl
theorem y5:Extern.allRows.lookup "internal/bytealg.IndexByteString" =some Extern.BytealgIndexByte.indexByte:=by kernel_rfl
theorem y1c:Extern.allNextRows.lookup "internal/bytealg.CountString" =none:=by kernel_rfl
theorem y3c:Extern.allGenericRows.lookup "internal/bytealg.CountString" =none:=by kernel_rfl
theorem y4c:Extern.allTypedRows.lookup "internal/bytealg.CountString" =none:=by kernel_rfl
theorem y5c:Extern.allRows.lookup "internal/bytealg.CountString" =some Extern.BytealgCount.count:=by kernel_rfl
theorem Rw (c:Nat) (hc:c<=255):∀(l:List UInt8) (n:Nat),Pq c (l.map UInt8.toNat) n=n+Lib.countByte l c.toUInt8:=by
 intro l
 induction l with
 |nil=>intro n;rfl
 |cons x l ih=>
  intro n
  have e:Pq c (List.map UInt8.toNat (x::l)) n=cond (Nat.beq x.toNat c) (aG (Nat.succ n) (Pq c (l.map UInt8.toNat))) (Pq c (l.map UInt8.toNat) n):=rfl
  rw[e,aj,ih,ih]
  unfold Lib.countByte
  rw[List.count_cons]
  have hb:(x==c.toUInt8)=Nat.beq x.toNat c:=by
   rw[ad5]
   simp only[beq_iff_eq,Nat.beq_eq]
   constructor
   ·intro h;rw[h];simp;omega
   ·intro h;rw[←h];simp
  rw[hb]
  cases Nat.beq x.toNat c<;>simp<;>omega
theorem Sb (c:Nat):∀(l:List Nat) (i:Nat),pb c l i=(l.findIdx? (λx=>x==c)).map (·+i):=by
 intro l
 induction l with
 |nil=>intro i;rfl
 |cons x l ih=>
  intro i
  have e:pb c (x::l) i=cond (Nat.beq x c) (some i) (aG (Nat.succ i) (pb c l)):=rfl
  rw[e,aj,ih,List.findIdx?_cons]
  cases h:Nat.beq x c with
  |true=>have:=adK h;simp[this]
  |false=>
   have:=ad3 h
   simp only[cond_false]
   rw[adE (by simpa using this)]
   cases List.findIdx? (λx=>x==c) l with
   |none=>rfl
   |some j=>simp;omega
theorem Eu (p:Nat->Bool):∀n,(List.range n).find? p=none↔∀i,i<n->p i=false:=by
 intro n;simp
theorem zb (s:ByteArray) (c:Nat) (hc:c<=255):firstIdx s c.toUInt8=match pb c (s.data.toList.map UInt8.toNat) 0 with|some i=>(i:Int)|none=>-1:=by
 rw[Sb]
 have hsz:s.data.toList.length=s.size:=cp s
 have hml:(s.data.toList.map UInt8.toNat).length=s.size:=by rw[aa0,hsz]
 have hat:∀i (h:i<s.size),(s[i]! ==c.toUInt8)=(((s.data.toList.map UInt8.toNat)[i]'(by rw[hml];exact h))==c):=by
  intro i h
  have e:s[i]! =s.data.toList[i]'(by rw[hsz];exact h):=by
   rw[getElem!_pos s i h];simp[ByteArray.getElem_eq_getElem_data]
  rw[e,aa4]
  rw[ad5]
  simp only[beq_iff_eq]
  constructor
  ·intro h;rw[h];simp;omega
  ·intro h;rw[←h];simp
 unfold firstIdx
 cases hf:(s.data.toList.map UInt8.toNat).findIdx? (λx=>x==c) with
 |none=>
  have h1:(List.range s.size).find? (λi=>s[i]! ==c.toUInt8)=none:=by
   rw[Eu]
   intro i hi
   rw[hat i hi]
   rw[List.findIdx?_eq_none_iff] at hf
   exact hf _ (aa9 _)
  rw[h1];rfl
 |some j=>
  rw[List.findIdx?_eq_some_iff_getElem] at hf
  obtain⟨hj,h1,h2⟩:=hf
  have hj':j<s.size:=by rw[←hml];exact hj
  have h3:(List.range s.size).find? (λi=>s[i]! ==c.toUInt8)=some j:=by
   rw[List.find?_range_eq_some]
   refine⟨?_,by simpa using hj',λk hk=> ?_⟩
   ·rw[hat j hj'];exact h1
   ·rw[hat k (by omega)]
    simpa using h2 k hk
  rw[h3];simp
section
variable {P:Program} {S:cE} {B:Nat}
theorem Ie {ι:aZ} {fn:Func} {e:Ext} {f:Nat} (hf:P.funcs[f]? =some fn) (hb:fn.body=none) (he:HI fn=some e) {args:List NV} {args':List Value} (ha:VRL ι args args') {v:NV} (hv:gI e args=some v) (w:World):
 ∃v',(callFunc f args'.toArray).run P w= .ok (.value v') w/\VR ι v v':=by
 unfold HI at he
 obtain⟨ho,he⟩:=aP he
 have ho':fn.origin= "" :=by simpa using ho
 cases hn:(fn.name== "math/bits.Add64") with
 |true=>
  rw[hn] at he
  cases he
  have hname:fn.name= "math/bits.Add64" :=by simpa using hn
  have hnx:Extern.findNext fn=none:=by unfold Extern.findNext;rw[hname,ho'];simp only[x1,x2];rfl
  have hfi:Extern.find fn=some add64Entry:=by unfold Extern.find;rw[hname,ho'];simp only[x3,x4,x5];rfl
  have hcall:=run_callFunc_extern hf (by rw[hname];decide) (by rw[hb];rfl) hnx hfi args'.toArray w
  unfold gI at hv
  split at hv
  ·rename_i x y c hargs
   obtain⟨hc1,hv⟩:=aP hv
   rw[aj,aj] at hv
   cases hv
   cases ha with
   |cons _ _ _ _ h1 ha=>
    cases ha with
    |cons _ _ _ _ h2 ha=>
     cases ha with
     |cons _ _ _ _ h3 ha=>
      cases ha
      cases h1;cases h2;cases h3
      have hc:=ac4 hc1
      refine⟨_, ?_,.tup [_,_] [_,_] (.cons _ _ _ _ (.int .u64 _) (.cons _ _ _ _ (.int .u64 _) .nil))⟩
      have:=run_add64 (P:=P) (Int.ofNat x) (Int.ofNat y) (Int.ofNat c) (Int.natCast_nonneg _) (Int.natCast_nonneg _) (Int.natCast_nonneg _) (by show (c:Int)<=1;omega) w
      rw[hcall]
      show Result.andThen (Sem.run P (add64Entry #[.int .u64 (Int.ofNat x),.int .u64 (Int.ofNat y),.int .u64 (Int.ofNat c)]) w) _=_
      rw[this]
      rfl
  ·rename_i h;cases h
  ·rename_i h;cases h
  ·cases hv
 |false=>
  rw[hn] at he
  simp only[cond_false] at he
  cases hn2:(fn.name== "internal/bytealg.IndexByteString") with
  |true=>
   rw[hn2] at he
   cases he
   have hname:fn.name= "internal/bytealg.IndexByteString" :=by simpa using hn2
   have hnx:Extern.findNext fn=none:=by unfold Extern.findNext;rw[hname,ho'];simp only[y1,x2];rfl
   have hfi:Extern.find fn=some Extern.BytealgIndexByte.indexByte:=by unfold Extern.find;rw[hname,ho'];simp only[y3,y4,y5];rfl
   have hcall:=run_callFunc_extern hf (by rw[hname];decide) (by rw[hb];rfl) hnx hfi args'.toArray w
   unfold gI at hv
   split at hv
   ·rename_i h;cases h
   ·rename_i s c _
    obtain⟨hc1,hv⟩:=aP hv
    have hc:=ac4 hc1
    cases ha with
    |cons _ _ _ _ h1 ha=>
     cases ha with
     |cons _ _ _ _ h2 ha=>
      cases ha
      cases h2
      cases h1 with
      |str l s' hs=>
       subst hs
       have hrun:=run_indexByte_string (P:=P) s' (Int.ofNat c) w
       refine⟨.int .i64 (firstIdx s' c.toUInt8), ?_, ?_⟩
       ·rw[hcall]
        show Result.andThen (Sem.run P (Extern.BytealgIndexByte.indexByte #[.string s',.int .u8 (Int.ofNat c)]) w) _=_
        rw[hrun]
        rfl
       ·rw[zb s' c hc]
        cases hi:pb c (s'.data.toList.map UInt8.toNat) 0 with
        |none=>rw[hi] at hv;cases hv;exact .int .i64 _
        |some i=>rw[hi] at hv;cases hv;exact .int .i64 _
   ·rename_i h;cases h
   ·cases hv
  |false=>
   rw[hn2] at he
   simp only[cond_false] at he
   obtain⟨hn3,he⟩:=aP he
   cases he
   have hname:fn.name= "internal/bytealg.CountString" :=by simpa using hn3
   have hnx:Extern.findNext fn=none:=by unfold Extern.findNext;rw[hname,ho'];simp only[y1c,x2];rfl
   have hfi:Extern.find fn=some Extern.BytealgCount.count:=by unfold Extern.find;rw[hname,ho'];simp only[y3c,y4c,y5c];rfl
   have hcall:=run_callFunc_extern hf (by rw[hname];decide) (by rw[hb];rfl) hnx hfi args'.toArray w
   unfold gI at hv
   split at hv
   ·rename_i h;cases h
   ·rename_i h;cases h
   ·rename_i s c _
    obtain⟨hc1,hv⟩:=aP hv
    have hc:=ac4 hc1
    cases hv
    cases ha with
    |cons _ _ _ _ h1 ha=>
     cases ha with
     |cons _ _ _ _ h2 ha=>
      cases ha
      cases h2
      cases h1 with
      |str l s' hs=>
       subst hs
       refine⟨.int .i64 (Lib.countByte s'.data.toList c.toUInt8), ?_, ?_⟩
       ·rw[hcall]
        show Result.andThen (Sem.run P (Extern.BytealgCount.count #[.string s',.int .u8 (Int.ofNat c)]) w) _=_
        rw[Lib.run_countString]
        rfl
       ·rw[Rw c hc,ad1]
        exact .int .i64 _
   ·cases hv
def dh (P:Program) (S:cE):Prop:=
 ∀(ι:aZ) (B:Nat) (h:NH) (w:World) (f:Nat) (args:List NV) (args':List Value) (v:NV) (h':NH),S f args h=some (v,h')->Rel P ι B h w->B<=w.heap.size->VRL ι args args'->
  tD P ι B h w ((callFunc f args'.toArray).run P w) (.val v none h')
theorem Do:dh P noS:=λ_ _ _ _ _ _ _ _ _ h=>by cases h
theorem Im {f:Nat} {e:Ext} (h:af P f=some (.ext e)):∃fn,P.funcs[f]? =some fn/\fn.body=none/\HI fn=some e:=by
 unfold af at h
 split at h
 ·rename_i fn hfn
  cases hn:(fn.name== "runtime.NumGoroutine") with
  |true=>rw[hn] at h;cases h
  |false=>
   rw[hn] at h
   simp only[cond_false] at h
   split at h
   ·split at h
    ·rw[aj] at h;cases h
    ·cases h
   ·rename_i hb
    split at h
    ·rename_i e' he;cases h;exact⟨fn,hfn,hb,he⟩
    ·cases h
 ·cases h
theorem eM {fr:Frame} {w:World} {e:Ending} (hk:fr.kind= .normal) (h:fr.going P w e):fr.leaving P w e:=by
 cases e with
 |returned v=>exact⟨h.1,h.2.1,hk,h.2.2⟩
 |panicked c=>exact h
 |outgrown=>trivial
theorem sh (hK:lD P) (hS:dh P S) {n:Nat} (hO:jQ P S n) (ι:aZ) (B:Nat) (h:NH) (w:World) (f:Nat) (args:List NV) (args':List Value) (hR:Rel P ι B h w) (hB:B<=w.heap.size) (ha:VRL ι args args'):
 tD P ι B h w ((callFunc f args'.toArray).run P w) (bZ P S (ev P S n) f args h):=by
 unfold bZ
 cases hs:S f args h with
 |some v=>exact hS ι B h w f args args' v.1 v.2 hs hR hB ha
 |none=>
  dsimp only
  cases hcf:af P f with
  |none=>trivial
  |some x=>
   cases x with
   |ext e=>
    dsimp only
    cases hx:gI e args with
    |none=>trivial
    |some v=>
     intro c cs
     obtain⟨fn,h1,h2,h3⟩:=Im hcf
     obtain⟨v',e1,e2⟩:=Ie h1 h2 h3 ha hx w
     exact⟨ι,v',w,e2,hR,hB,.refl _ _ _,.inl e1⟩
   |code nf=>
    dsimp only
    have hD:=jE hK hO 3 f args none h
    obtain⟨fn,code,e1,e2,e3,_⟩:=kp hcf
    have hent:=nK (P:=P) e1 e2 e3 args'.toArray w
    cases hr:cP P (ev P S n) 3 f args none h with
    |fail=>trivial
    |val v x h'=>
     intro c cs
     obtain⟨_,hF⟩:=hD (by rw[hr];simp)
     have hF:=hF B ι w args' .normal (c::cs) hR hB ha (λb hb=>by unfold tryRecover;rw[hb])
     rw[hr] at hF
     obtain⟨ι',v',w',cs',fr,f1,f2,f3,f4,f5,f6,f7,_,f8⟩:=hF
     obtain⟨rfl,_⟩:=f5.none
     exact⟨ι',v',w',f1,f2,f3,f4,.inr ⟨w,.inl ⟨f,args'.toArray,hent,Steps.trans f6 (.one (step_leave_returned (eM f7 f8)))⟩⟩⟩
    |pan v x h'=>
     intro c cs
     obtain⟨_,hF⟩:=hD (by rw[hr];simp)
     have hF:=hF B ι w args' .normal (c::cs) hR hB ha (λb hb=>by unfold tryRecover;rw[hb])
     rw[hr] at hF
     obtain⟨ι',v',w',cs',fr,f1,f2,f3,f4,f5,f6,f7,_,f8⟩:=hF
     obtain⟨rfl,_⟩:=f5.none
     exact⟨ι',v',w',f1,f2,f3,f4,w,.inl ⟨f,args'.toArray,hent,Steps.trans f6 (.one (step_leave_panicked (eM f7 f8)))⟩⟩
def sZ:List D4->List NV->Tm->Tm
 |p::ps,v::vs,t=>sZ ps vs (NT.put p v t)
 |_,_,t=>t
theorem oT {r:CR} (hr:r≠.fail) {K:Tm->CR}:∀{ps:List D4} {vs:List NV} {t:Tm},ec .fail ps vs t K=r->vs.length=ps.length/\K (sZ ps vs t)=r:=by
 intro ps
 induction ps with
 |nil=>
  intro vs t h
  cases vs with
  |nil=>exact⟨rfl,h⟩
  |cons v vs=>exact adD (show CR.fail=r from h).symm hr
 |cons p ps ih=>
  intro vs t h
  cases vs with
  |nil=>exact adD (show CR.fail=r from h).symm hr
  |cons v vs=>
   have e:ec .fail (p::ps) (v::vs) t K=NT.set p v t λt=>ec .fail ps vs t K:=rfl
   rw[e,NT.set_eq] at h
   obtain⟨h1,h2⟩:=ih h
   exact⟨by simp[h1],h2⟩
theorem QF {ι:aZ}:∀{ps:List Nat} {vs:List NV} {vs':List Value} {t:Tm} {a:Array Value},VRL ι vs vs'->TR ι t a->(∀q∈ps,q<a.size)->
 TR ι (sZ (ps.map D4.of) vs t) ((ps.zip vs').foldl (λtmps (t,a)=>tmps.setIfInBounds t a) a)/\((ps.zip vs').foldl (λtmps (t,a)=>tmps.setIfInBounds t a) a).size=a.size:=by
 intro ps
 induction ps with
 |nil=>intro vs vs' t a _ hT _;cases vs<;>exact⟨hT,rfl⟩
 |cons p ps ih=>
  intro vs vs' t a hv hT hp
  cases hv with
  |nil=>exact⟨hT,rfl⟩
  |cons v v' vs vs' h1 h2=>
   have hT':=hT.put (hp p (by simp)) h1
   obtain⟨q1,q2⟩:=ih h2 hT' (λq hq=>by simp;exact hp q (by simp[hq]))
   exact⟨q1,q2.trans (by simp)⟩
def aaI (P:Program) (B:Nat) (ι:aZ) (h:NH) (w:World) (fr0:Frame) (c:Frame) (cs:List Frame):CR->Prop
 | .fail=>True
 | .val v _ h'=>∃ι' v' w',VR ι' v v'/\Rel P ι' B h' w'/\B<=w'.heap.size/\Grow ι h w ι' h' w'/\Steps P (lone fr0 (c::cs) w) (lone (c.finish v') cs w')
 | .pan v _ h'=>∃ι' v' w',VR ι' v v'/\Rel P ι' B h' w'/\B<=w'.heap.size/\Grow ι h w ι' h' w'/\Steps P (lone fr0 (c::cs) w) (lone (c.raise [{v:=v',recovered:=false}]) cs w')
theorem oH {n:Nat} (hO:jQ P S n) (ι:aZ) (B:Nat) (h:NH) (w:World) (l:D4) (p:Pl) (args:List NV) (args':List Value) (hR:Rel P ι B h w) (hB:B<=w.heap.size) (ha:VRL ι args args') (hp:ι l=some p):
 tD P ι B h w ((Instr.yield p.b args'.toArray).run P w) (round (ev P S n) l args h):=by
 by_cases hne:round (ev P S n) l args h= .fail
 ·rw[hne];trivial
 generalize hrr:round (ev P S n) l args h=r at hne
 have hrr':=hrr
 unfold round at hrr'
 obtain⟨ob,ho1,ho2⟩:=hR.obj _ _ hp
 rw[ho1] at hrr'
 cases ob with
 |loop st pd tm ps na nb=>
  cases st with
  |succ st=>exact adD hrr'.symm hne
  |zero=>
   obtain⟨L,l1,l2,l3,l4,l5,l6,l7,⟨fn,bl,la,lb,l8,l9,l10,l11,_⟩,l12⟩:=ho2
   obtain⟨hlen,hrr2⟩:=oT hne hrr'
   have hsz:args'.toArray.size=L.params.size:=by
    have:=ha.length
    rw[l5] at hlen
    simp at hlen ⊢;omega
   have hy:=run_yield (P:=P) l1 hsz
   obtain⟨t1,t2⟩:=QF (ps:=L.params.toList) ha l4 l12
   have hz:(L.params.zip args'.toArray).foldl (λtmps (t,a)=>tmps.setIfInBounds t a) L.tmps=(L.params.toList.zip args').foldl (λtmps (t,a)=>tmps.setIfInBounds t a) L.tmps:=by
    rw[←Array.foldl_toList,Array.toList_zip]
   rw[hz] at hy
   rw[←l5] at t1
   generalize (L.params.toList.zip args').foldl (λtmps (t,a)=>tmps.setIfInBounds t a) L.tmps=tmps at hy t1 t2
   let b:Frame:={(default:Frame) with fn:=L.fn,kind:= .normal,roundOf:=some p.b}
   have hfr:Frame.round p.b L.fn tmps L.assign L.body .normal=b.atR {tmps:=tmps,defers:= []} [.code L.assign,.beginRound,.code L.body]:=by
    simp[Frame.round,Frame.atR,b]
   cases hev:ev P S n (some l) na ⟨sZ ps args tm, [],none,h⟩ with
   |fail=>rw[hev] at hrr2;exact adD hrr2.symm hne
   |mk o d=>
    rw[hev] at hrr2
    cases o with
    |norm=>
     dsimp only at hrr2
     cases hdd:d.dfs with
     |cons x xs=>rw[hdd] at hrr2;exact adD hrr2.symm hne
     |nil=>
      rw[hdd] at hrr2
      have hrb:da (ev P S n) l nb d.t d.h=r:=hrr2
      have main:∀(c:Frame) (cs:List Frame),aaI P B ι h w (Frame.round p.b L.fn tmps L.assign L.body .normal) c cs r:=by
       intro c cs
       have hctx:∀ι:aZ,EJ ι b.kind (c::cs) none:=λι b' hb'=>by unfold tryRecover;rw[hb']
       have hs:Sd P ι B (some l) [] none h b ([]:List Deferred) (c::cs) w:=⟨trivial,hctx ι,hR,hB,⟨p,hp,rfl⟩⟩
       have hgo:=hO L.assign na fn [] [] l6 l10 (some l) ⟨sZ ps args tm, [],none,h⟩ .norm d hev (.code L.assign) (.inl rfl) B b [.beginRound,.code L.body] ι {tmps:=tmps,defers:= []} (c::cs) w l8 t1 hs (by rw[t2];exact l9)
       obtain⟨ι1,a1,cs1,w1,g1,g2,g3,g4⟩:=hgo
       obtain⟨rfl,hctx1⟩:=g3.ca.none
       have sd1:=g3.sd
       have hdef1:a1.defers= []:=by
        have:=sd1.df
        rw[hdd] at this
        cases hq:a1.defers with
        |nil=>rfl
        |cons d ds=>rw[hq] at this;exact this.elim
       have hp1:ι1 l=some p:=g3.gr.le _ _ hp
       obtain⟨ob1,ho3,ho4⟩:=sd1.rel.obj _ _ hp1
       have hrb':=hrb
       unfold da at hrb'
       rw[ho3] at hrb'
       cases ob1 with
       |loop st1 pd1 tm1 ps1 na1 nb1=>
        cases st1 with
        |succ st1=>exact adD hrb'.symm hne
        |zero=>
         replace hrb':d.h.set l (.loop 1 pd1 tm1 ps1 na1 nb1) (λh=>match ev P S n (some l) nb ⟨d.t, [],none,h⟩ with
          | .mk o d=>(match o with
           | .pan v=>(match d.dfs with| []=>CR.pan v none d.h|_=> .fail)
           |o=>dZ l o d.h)
          | .fail=> .fail)=r:=hrb'
         rw[NH.set_eq] at hrb'
         obtain⟨L1,m1,m2,m3⟩:=ho4
         have hbr:=run_beginRound (P:=P) m1 m2
         have hlt1:=sd1.rel.lt _ _ hp1
         have hst1:SR 1 ({L1 with state:= .busy}:Loop).state:=rfl
         obtain⟨u1,u2⟩:=sd1.rel.turn (w':=w1.putObj p.b (.loop {L1 with state:= .busy})) hp1 (by rw[ho3];simp) (.loop 1 pd1 tm1 ps1 na1 nb1)
          ⟨_,World.putObj_heap_same hlt1,hst1,m3⟩ (by simp) rfl rfl rfl (λq hq=>World.putObj_heap_other hq)
         have hbeg:=stepR_beginRound (P:=P) (b:=b) (a:=a1) (k:= [.code L.body]) (cs:=c::cs) rfl hbr
         have hs2:Sd P ι1 B (some l) [] none (d.h.put l (.loop 1 pd1 tm1 ps1 na1 nb1)) b a1.defers (c::cs) (w1.putObj p.b (.loop {L1 with state:= .busy})):=
          ⟨by rw[hdef1];trivial,hctx ι1,u1,by simpa using sd1.base,⟨p,hp1,rfl⟩⟩
         generalize w1.putObj p.b (.loop {L1 with state:= .busy})=w2 at *
         generalize d.h.put l (.loop 1 pd1 tm1 ps1 na1 nb1)=h2 at *
         cases hev2:ev P S n (some l) nb ⟨d.t, [],none,h2⟩ with
         |fail=>rw[hev2] at hrb';exact adD hrb'.symm hne
         |mk o2 d2=>
          rw[hev2] at hrb'
          have hgo2:=hO L.body nb fn bl la l7 l11 (some l) ⟨d.t, [],none,h2⟩ o2 d2 hev2 (.code L.body) (.inl rfl) B b [] ι1 a1 (c::cs) w2 l8 g2 hs2 (by rw[g4,t2];exact l9)
          obtain⟨ι3,a3,cs3,w3,e1,e2,e3,e4⟩:=hgo2
          obtain⟨rfl,_⟩:=e3.ca.none
          have hp3:ι3 l=some p:=e3.gr.le _ _ hp1
          have hpre:Steps P (lone (Frame.round p.b L.fn tmps L.assign L.body .normal) (c::cs) w) (lone (b.atR a1 [.code L.body]) (c::cs) w2):=by
           rw[hfr];exact Steps.trans g1 (.one hbeg)
          have hgr:=(g3.gr.trans u2).trans e3.gr
          have fin:∀(jump:Option Code) (st':Nat) (pd':Jump),dZ l o2 d2.h=r->(∀tm ps na nb,(match o2 with
           | .norm=>(d2.h.set l (.loop 0 .none tm ps na nb) λh=>CR.val (.bool true) none h)
           | .ret=>d2.h.set l (.loop 2 .ret tm ps na nb) λh=> .val (.bool false) none h
           | .exit id=>d2.h.set l (.loop 2 (.exit id) tm ps na nb) λh=> .val (.bool false) none h
           | .pan _=> .fail)= .val (.bool jump.isNone) none (d2.h.put l (.loop st' pd' tm ps na nb)))->
           (SR st' (if jump.isNone then .ready else .done))->JR pd' jump->
           (∀(v:Value) (w4:World),(Instr.endRound p.b jump).run P w3= .ok v w4->Steps P (lone (b.atR a1 [.code L.body]) (c::cs) w2) (lone (c.finish v) cs w4))->
           aaI P B ι h w (Frame.round p.b L.fn tmps L.assign L.body .normal) c cs r:=by
           intro jump st' pd' hre hval hSR hJR hsteps
           unfold dZ at hre
           obtain⟨ob3,ho5,ho6⟩:=e3.sd.rel.obj _ _ hp3
           rw[ho5] at hre
           cases ob3 with
           |loop st3 pd3 tm3 ps3 na3 nb3=>
            have hre':=(hval tm3 ps3 na3 nb3).symm.trans hre
            rw[←hre']
            obtain⟨L3,k1,k2,k3,k4⟩:=ho6
            have hend:=run_endRound (P:=P) jump k1
            have hlt3:=e3.sd.rel.lt _ _ hp3
            obtain⟨z1,z2⟩:=e3.sd.rel.turn (w':=w3.putObj p.b (.loop {L3 with state:=if jump.isNone then .ready else .done,pending:=jump})) hp3 (by rw[ho5];simp) (.loop st' pd' tm3 ps3 na3 nb3)
             ⟨_,World.putObj_heap_same hlt3,hSR,hJR,k4⟩ (by simp) rfl rfl rfl (λq hq=>World.putObj_heap_other hq)
            exact⟨ι3,.bool jump.isNone,_,.bool _,z1,by simpa using e3.sd.base,hgr.trans z2,hpre.trans (hsteps _ _ hend)⟩
           |_=>exact adD hre.symm hne
          cases o2 with
          |norm=>
           exact fin none 0 .none hrb' (λtm ps na nb=>NH.set_eq _ _ _ _) rfl rfl λv w4 he=>Steps.trans e1 (.one (stepR_round_end rfl rfl he))
          |ret=>
           obtain⟨k0,e1⟩:=e1
           exact fin (some .ret) 2 .ret hrb' (λtm ps na nb=>NH.set_eq _ _ _ _) rfl rfl λv w4 he=>Steps.trans e1 (.one (stepR_round_ret rfl rfl he))
          |exit id=>
           obtain⟨k0,e0,e1⟩:=e1
           exact fin (some (.exit id)) 2 (.exit id) hrb' (λtm ps na nb=>NH.set_eq _ _ _ _) rfl rfl λv w4 he=>Steps.trans e1 (.one (stepR_round_exit rfl rfl (by rw[e0];rfl) he))
          |pan v=>
           dsimp only at hrb'
           cases hd2:d2.dfs with
           |cons x xs=>rw[hd2] at hrb';exact adD hrb'.symm hne
           |nil=>
            rw[hd2] at hrb'
            rw[←show CR.pan v none d2.h=r from hrb']
            obtain⟨td,v',f1,f2⟩:=e1
            have hdef3:a3.defers= []:=by
             have:=e3.sd.df
             rw[hd2] at this
             cases hq:a3.defers with
             |nil=>rfl
             |cons d ds=>rw[hq] at this;exact this.elim
            refine⟨ι3,v',w3,f1,e3.sd.rel,e3.sd.base,hgr,hpre.trans (Steps.trans f2 (.one (step_leave_panicked ⟨rfl,hdef3,fn,l8⟩)))⟩
       |_=>exact adD hrb'.symm hne
      cases r with
      |fail=>trivial
      |val v x h'=>
       intro c cs
       obtain⟨ι',v',w',q1,q2,q3,q4,q5⟩:=main c cs
       exact⟨ι',v',w',q1,q2,q3,q4,.inr ⟨w,.inr ⟨p.b,L.fn,tmps,L.assign,L.body,hy,q5⟩⟩⟩
      |pan v x h'=>
       intro c cs
       obtain⟨ι',v',w',q1,q2,q3,q4,q5⟩:=main c cs
       exact⟨ι',v',w',q1,q2,q3,q4,w,.inr ⟨p.b,L.fn,tmps,L.assign,L.body,hy,q5⟩⟩
    |_=>exact adD hrr2.symm hne
 |_=>exact adD hrr'.symm hne
theorem qx (hM:P.follows .mixedOrders=true) (hK:lD P) (hS:dh P S):∀n,jQ P S n/\CallsOK P S (ev P S n):=by
 intro n
 induction n with
 |zero=>
  have h0:jQ P S 0:=λc nc fn bl la _ _ rnd d o d' h=>by cases h
  exact⟨h0,⟨sh hK hS h0,oH h0⟩⟩
 |succ n ih=>
  have h1:jQ P S (n+1):=Ii hM ih.1 ih.2
  exact⟨h1,⟨sh hK hS h1,oH h1⟩⟩
end
open Go Go.RowKit
def NF (n:Nat):NT NO:=Nat.rec .leaf (λk t=>NT.put (D4.of k) .dead t) n
def G0:NH:=⟨NF NG,D4.of NG⟩
theorem JJ (n k:Nat):NT.get (D4.of k) (NF n)=if k<n then some .dead else none:=by
 induction n with
 |zero=>exact NT.get_leaf _
 |succ n ih=>
  show NT.get (D4.of k) (NT.put (D4.of n) .dead (NF n))=_
  by_cases e:k=n
  ·subst e;rw[NT.get_put_same,adF (Nat.lt_succ_self k)]
  ·rw[NT.get_put_ne (λx=>e (D4.of_inj x)),ih]
   by_cases h:k<n
   ·rw[adF h,adF (by omega)]
   ·rw[adE h,adE (by omega)]
theorem PA (i:D4):G0.get i=if i.toNat<NG then some .dead else none:=by
 rw[←JJ NG i.toNat,D4.of_toNat];rfl
def ι0:aZ:=λi=>if i.toNat<NG then some ⟨i.toNat,0,GN i.toNat⟩ else none
theorem ND {i:D4} {p:Pl} (h:ι0 i=some p):i.toNat<NG/\p=⟨i.toNat,0,GN i.toNat⟩:=by
 unfold ι0 at h
 split at h
 ·exact⟨‹_›,(Option.some.inj h).symm⟩
 ·cases h
theorem YX:Xt ι0:=λg hg=>by unfold ι0;rw[D4.toNat_of,adF hg]
theorem mD {i:D4} {p:Pl} (h:ι0 i=some p):G0.get i=some .dead:=by rw[PA,adF (ND h).1]
theorem eO:¬Live (some .dead):=λh=>h.1 rfl
theorem aaJ (P:Program) (w:World) (hw:NG<=w.heap.size):Rel P ι0 w.heap.size G0 w where
 obj:=λi p h=>⟨.dead,mD h,trivial⟩
 inj:=λi j p q h _ _ hl _=>adD (mD h▸hl) eO
 base:=λi p h hl=>adD (mD h▸hl) eO
 lt:=λi p h=>by have:=ND h;rw[this.2];exact ad2 this.1 hw
 fresh:=λi o h=>by
  rw[PA] at h
  split at h
  ·show i.toNat<(D4.of NG).toNat;rw[D4.toNat_of];assumption
  ·cases h
 gl:=YX
theorem Rel.room {P:Program} {ι:aZ} {B:Nat} {h:NH} {w:World} (r:Rel P ι B h w):NG<=w.heap.size:=by
 rcases Nat.eq_zero_or_pos NG with h0|h0
 ·rw[h0];exact Nat.zero_le _
 ·have h1:=r.gl (NG - 1) (by omega)
  have h2:=r.lt _ _ h1
  dsimp only at h2
  omega
def Hb (m:NH) (cf:Nat->Option NFn) (S:cE) (n f:Nat) (args:List NV):CR:=cP cf (ev cf S n) 3 f args none m
def uJ (cf:Nat->Option NFn) (S:cE) (n f:Nat) (args:List NV):CR:=Hb G0 cf S n f args
def WK (r:CR):Bool:=
 match r with
 | .val (.bool b) _ _=>b
 |_=>false
def H0 (cf:Nat->Option NFn) (S:cE) (n f:Nat) (args:List NV):Bool:=WK (uJ cf S n f args)
theorem K2 {P:Program} {S:cE} (hM:P.follows .mixedOrders=true) (hP:P.check= .ok ()) (hS:dh P S) {m:NH} {n f:Nat} {args:List NV} {v:NV} {x:Option NV} {h:NH} (hr:Hb m P S n f args= .val v x h)
 {ι:aZ} {w:World} (hR:Rel P ι w.heap.size m w) (hlive:∀i p,ι i=some p->¬Live (m.get i)) {args':List Value} (ha:VRL ι args args'):
 Calls P f args'.toArray w λe w'=>(∃ι v',e= .returned v'/\VR ι v v'/\Rel P ι w.heap.size h w')/\Below w.heap.size w w':=by
 intro cs
 obtain⟨hO,_⟩:=qx hM (lJ hP) hS n
 have hD:=jE (lJ hP) hO 3 f args none m
 obtain⟨_,hF⟩:=hD (by rw[show cP P (ev P S n) 3 f args none m= .val v x h from hr];simp)
 have hF:=hF w.heap.size ι w args' .normal cs hR (aa2 _) ha (λb hb=>by unfold tryRecover;rw[hb])
 rw[show cP P (ev P S n) 3 f args none m= .val v x h from hr] at hF
 obtain⟨ι',v',w',cs',fr,f1,f2,f3,f4,f5,f6,f7,f8,f9⟩:=hF
 obtain⟨rfl,_⟩:=f5.none
 refine⟨.returned v',w',fr,⟨⟨ι',v',rfl,f1,f2⟩,⟨f4.os,f4.tape,f4.output,f4.size,λk hk=>f4.frame k hk λi p hi hl=>adD hl (hlive i p hi)⟩⟩,f6,f8,eM f7 f9⟩
theorem H3 {P:Program} {S:cE} (hM:P.follows .mixedOrders=true) (hP:P.check= .ok ()) (hS:dh P S) {n f:Nat} {args:List NV} {v:NV} {x:Option NV} {h:NH} (hr:uJ P S n f args= .val v x h) {args':List Value} (ha:VRL ι0 args args') (w:World) (hw:NG<=w.heap.size):
 Calls P f args'.toArray w λe w'=>(∃ι v',e= .returned v'/\VR ι v v'/\Rel P ι w.heap.size h w')/\Below w.heap.size w w':=
 K2 hM hP hS hr (aaJ P w hw) (λi p hi=>by rw[mD hi];exact eO) ha
open Go Go.RowKit
mutual
def eE:NV->Bool
 | .bool _| .int _ _| .str _| .nilp| .nils| .nilm| .nilf| .nili=>true
 | .ifc _ v=>eE v
 | .agg l=>fZ l
 | .tup l=>fZ l
 |_=>false
def fZ:List NV->Bool
 | []=>true
 |v::l=>eE v&&fZ l
end
mutual
theorem VR.plain {ι ι':aZ}:∀{v:NV} {v':Value},VR ι v v'->eE v=true->VR ι' v v'
 |_,_,.bool b,_=> .bool b
 |_,_,.int k n,_=> .int k n
 |_,_,.str l s h,_=> .str l s h
 |_,_,.nilp,_=> .nilp
 |_,_,.ptr ..,h=>by simp[eE] at h
 |_,_,.nils,_=> .nils
 |_,_,.slc ..,h=>by simp[eE] at h
 |_,_,.nilm,_=> .nilm
 |_,_,.map ..,h=>by simp[eE] at h
 |_,_,.nilf,_=> .nilf
 |_,_,.fn ..,h=>by simp[eE] at h
 |_,_,.yld ..,h=>by simp[eE] at h
 |_,_,.nili,_=> .nili
 |_,_,.ifc t v v' h,k=> .ifc t v v' (VR.plain h (by simpa [eE] using k))
 |_,_,.agg l l' h h1,k=> .agg l l' (VRL.plain h (by simpa [eE] using k)) h1
 |_,_,.tup l l' h,k=> .tup l l' (VRL.plain h (by simpa [eE] using k))
theorem VRL.plain {ι ι':aZ}:∀{l:List NV} {l':List Value},VRL ι l l'->fZ l=true->VRL ι' l l'
 |_,_,.nil,_=> .nil
 |_,_,.cons v v' l l' h hl,k=> .cons v v' l l' (VR.plain h (by simp[fZ] at k;exact k.1)) (VRL.plain hl (by simp[fZ] at k;exact k.2))
end
def sK (f:Nat) (args:List NV) (v:NV) (S:cE):cE:=λg l=>
 cond (Nat.beq g f) (cond (eV (aU 3) l args) (λh=>some (v,h)) (S g l)) (S g l)
def lE (cf:Nat->Option NFn) (S:cE) (n f:Nat) (args:List NV) (v:NV):Bool:=
 match uJ cf S n f args with
 | .val u _ _=>cond (fZ args) (cond (eE v) (aU 5 u v) false) false
 |_=>false
theorem yf {P:Program} {self:Option D4->NC->Dyn->Res} {d f:Nat} {args:List NV} {ctx:Option NV} {h:NH} (hn:cP P self d f args ctx h≠.fail):∃nf,af P f=some (.code nf):=by
 cases d with
 |zero=>exact adD rfl hn
 |succ d=>
  rw[dj] at hn
  cases hc:af P f with
  |none=>rw[hc] at hn;exact adD rfl hn
  |some x=>
   cases x with
   |code nf=>exact⟨nf,rfl⟩
   |ext e=>rw[hc] at hn;exact adD rfl hn
theorem lA {P:Program} {S:cE} (hM:P.follows .mixedOrders=true) (hP:P.check= .ok ()) (hS:dh P S) {n f:Nat} {args:List NV} {v:NV} (hr:lE P S n f args v=true):dh P (sK f args v S):=by
 intro ι B h w g l l' u hh hg hR hB hl
 have hg':cond (Nat.beq g f) (cond (eV (aU 3) l args) (λh=>some (v,h)) (S g l)) (S g l) h=some (u,hh):=hg
 by_cases h1:Nat.beq g f=true/\eV (aU 3) l args=true
 ·obtain⟨h2,h3⟩:=h1
  rw[h2,h3] at hg'
  cases hg'
  have:=adK h2
  subst this
  have:=iD (iC 3) h3
  subst this
  unfold lE at hr
  split at hr
  ·rename_i u x h0 hrun
   obtain⟨p1,hr⟩:=cG hr
   obtain⟨p2,hr⟩:=cG hr
   have:=iC _ _ _ hr
   subst this
   intro c cs
   have hcalls:=H3 hM hP hS hrun (hl.plain p1) w hR.room
   obtain⟨e,w',fr,⟨⟨ι1,v',he,hv,_⟩,hb⟩,hcomes,hfn,hleave⟩:=hcalls (c::cs)
   subst he
   obtain⟨nf,hnf⟩:=yf (show cP P (ev P S n) 3 g l none G0≠.fail by rw[show cP P (ev P S n) 3 g l none G0=_ from hrun];simp)
   obtain⟨fn,code,e1,e2,e3,_⟩:=kp hnf
   refine⟨ι,v',w',hv.plain p2,⟨λi p hi=> ?_,hR.inj,hR.base,λi p hi=>ad2 (hR.lt i p hi) hb.size,hR.fresh,hR.gl⟩,ab9 hB hb.size, ?_,.inr ⟨w,.inl ⟨g,l'.toArray,nK e1 e2 e3 _ w,Steps.trans hcomes (.one (step_leave_returned hleave))⟩⟩⟩
   ·obtain⟨o,o1,o2⟩:=hR.obj i p hi
    exact⟨o,o1,o2.mono (aZ.le_refl _) (hb.block _ (hR.lt i p hi))⟩
   ·exact⟨aZ.le_refl _,aa2 _,λ_ _ x=> .inl x,λi p x y=> .inr ⟨i,p,x,y,rfl⟩,λ_ _ _=>rfl,hb.size,hb.os,hb.tape,hb.output,λb hb' _=>hb.block b hb'⟩
  ·cases hr
 ·have:S g l h=some (u,hh):=by
   cases h2:Nat.beq g f with
   |false=>rw[h2] at hg';exact hg'
   |true=>
    rw[h2] at hg'
    cases h3:eV (aU 3) l args with
    |false=>rw[h3] at hg';exact hg'
    |true=>exact adD ⟨h2,h3⟩ h1
  exact hS ι B h w g l l' u hh this hR hB hl
def an (P:Program) (k:Nat) (nf:NFun) (f:Nat):Option NFn:=cond (Nat.beq f k) (some (.code nf)) (af P f)
def ao (m:Nat) (a b:Nat->Option NFn) (f:Nat):Option NFn:=cond (Nat.ble f m) (a f) (b f)
def gK (P:Program) (cf:Nat->Option NFn):Prop:=∀f,cf f=af P f
theorem ag {P:Program} {k:Nat} {nf:NFun} (h:af P k=some (.code nf)):gK P (an P k nf):=λf=>by
 unfold an
 cases hb:Nat.beq f k with
 |false=>rfl
 |true=>rw[adK hb];exact h.symm
theorem ah {P:Program} {m:Nat} {a b:Nat->Option NFn} (ha:gK P a) (hb:gK P b):gK P (ao m a b):=λf=>by
 unfold ao
 cases Nat.ble f m with
 |false=>exact hb f
 |true=>exact ha f
theorem gK.run {P:Program} {cf:Nat->Option NFn} (h:gK P cf) {S:cE} {n f:Nat} {args:List NV} (hr:H0 cf S n f args=true):H0 P S n f args=true:=by
 have e:cf=af P:=funext h
 rw[e] at hr;exact hr
theorem gK.kept {P:Program} {cf:Nat->Option NFn} (h:gK P cf) {S:cE} {n f:Nat} {args:List NV} {v:NV} (hr:lE cf S n f args v=true):lE P S n f args v=true:=by
 have e:cf=af P:=funext h
 rw[e] at hr;exact hr
open Go Go.RowKit
def Le (a b:Option D4->NC->Dyn->Res):Prop:=∀r c d o d',a r c d= .mk o d'->b r c d= .mk o d'
section
variable {P:Program} {S:cE} {a b:Option D4->NC->Dyn->Res}
theorem jP {F G:Nat->List NV->Option NV->NH->CR} (h:∀f l p m r,F f l p m=r->r≠.fail->G f l p m=r) {K:Option NV->NH->CR}:∀(l:List Dfr) (p:Option NV) (m:NH) (r:CR),unwind F K l p m=r->r≠.fail->unwind G K l p m=r:=by
 intro l
 induction l with
 |nil=>exact λp m r e _=>e
 |cons c l ih=>
  intro p m r e hr
  rw[oy] at e ⊢
  cases c with
  |mark id=>
   dsimp only at e ⊢
   split at e
   ·exact ih _ _ _ e hr
   ·exact adD e.symm hr
  |call f cap=>
   dsimp only at e ⊢
   cases hf:F f cap p m with
   |fail=>rw[hf] at e;exact adD e.symm hr
   |pan v x m'=>rw[hf] at e;exact adD e.symm hr
   |val v x m'=>
    rw[hf] at e
    rw[h f cap p m _ hf (by simp)]
    exact ih _ _ _ e hr
theorem Et (h:Le a b):∀(d f:Nat) (l:List NV) (p:Option NV) (m:NH) (r:CR),cP P a d f l p m=r->r≠.fail->cP P b d f l p m=r:=by
 intro d
 induction d with
 |zero=>intro f l p m r e hr;exact adD e.symm hr
 |succ d ih=>
  intro f l p m r e hr
  rw[dj] at e ⊢
  cases hc:af P f with
  |none=>rw[hc] at e;exact adD e.symm hr
  |some x=>
   cases x with
   |ext x=>rw[hc] at e;exact adD e.symm hr
   |code nf=>
    rw[hc] at e
    dsimp only at e ⊢
    cases ha:a none nf.body ⟨cJ l 0 .leaf, [],p,m⟩ with
    |fail=>rw[ha] at e;exact adD e.symm hr
    |mk o d'=>
     rw[ha] at e
     rw[h _ _ _ _ _ ha]
     cases o with
     |norm=>exact jP (λf l p m r=>ih f l p m r) _ _ _ _ e hr
     |ret=>exact jP (λf l p m r=>ih f l p m r) _ _ _ _ e hr
     |pan v=>exact jP (λf l p m r=>ih f l p m r) _ _ _ _ e hr
     |exit id=>exact adD e.symm hr
theorem dT (h:Le a b) {f:Nat} {l:List NV} {m:NH} {r:CR} (e:bZ P S a f l m=r) (hr:r≠.fail):bZ P S b f l m=r:=by
 unfold bZ at e ⊢
 cases hs:S f l m with
 |some v=>rw[hs] at e;exact e
 |none=>
  rw[hs] at e
  dsimp only at e ⊢
  cases hc:af P f with
  |none=>rw[hc] at e;exact e
  |some x=>
   rw[hc] at e
   cases x with
   |ext x=>exact e
   |code nf=>exact Et h _ _ _ _ _ _ e hr
theorem qa (h:Le a b) {l:D4} {bd:NC} {t:Tm} {m:NH} {r:CR} (e:da a l bd t m=r) (hr:r≠.fail):da b l bd t m=r:=by
 unfold da at e ⊢
 split at e
 ·rename_i p tm ps assign body hm
  rw[NH.set_eq] at e ⊢
  cases ha:a (some l) bd ⟨t, [],none,m.put l (.loop 1 p tm ps assign body)⟩ with
  |fail=>rw[ha] at e;exact adD e.symm hr
  |mk o d=>rw[ha] at e;rw[h _ _ _ _ _ ha];exact e
 ·exact adD e.symm hr
theorem fX (h:Le a b) {l:D4} {args:List NV} {m:NH} {r:CR} (e:round a l args m=r) (hr:r≠.fail):round b l args m=r:=by
 unfold round at e ⊢
 split at e
 ·rename_i x tm ps assign body hm
  obtain⟨h1,h2⟩:=oT hr e
  have key:∀K:Tm->CR,ec .fail ps args tm K=K (sZ ps args tm):=by
   clear e h2 hm
   intro K
   induction ps generalizing args tm with
   |nil=>cases args with
    |nil=>rfl
    |cons=>simp at h1
   |cons q ps ih=>
    cases args with
    |nil=>simp at h1
    |cons v vs=>
     have e:ec .fail (q::ps) (v::vs) tm K=NT.set q v tm λt=>ec .fail ps vs t K:=rfl
     rw[e,NT.set_eq]
     exact ih _ (by simpa using h1)
  rw[key]
  cases ha:a (some l) assign ⟨sZ ps args tm, [],none,m⟩ with
  |fail=>rw[ha] at h2;exact adD h2.symm hr
  |mk o d=>
   rw[ha] at h2
   rw[h _ _ _ _ _ ha]
   cases o with
   |norm=>
    dsimp only at h2 ⊢
    split at h2
    ·exact qa h h2 hr
    ·exact adD h2.symm hr
   |_=>exact adD h2.symm hr
 ·exact adD e.symm hr
theorem qS (h:Le a b) {rnd:Option D4} {dfs:List Dfr} {ctx:Option NV} {m:NH} {x:NR} {r:OpO} (e:eD P S a rnd dfs ctx m x=r) (hr:r≠.fail):eD P S b rnd dfs ctx m x=r:=by
 cases x with
 |call f l=>
  have e':Eo dfs ctx (bZ P S a f l m)=r:=e
  have hn:bZ P S a f l m≠.fail:=λhh=>by rw[hh] at e';exact hr e'.symm
  show Eo dfs ctx (bZ P S b f l m)=r
  rw[dT h rfl hn];exact e'
 |yld l args=>
  have e':Eo dfs ctx (round a l args m)=r:=e
  have hn:round a l args m≠.fail:=λhh=>by rw[hh] at e';exact hr e'.symm
  show Eo dfs ctx (round b l args m)=r
  rw[fX h rfl hn];exact e'
 |_=>exact e
theorem Pw {dst:Option D4} {K L:Dyn->Res} (hk:∀d o d',K d= .mk o d'->L d= .mk o d') {t:Tm} {dfs:List Dfr} {ctx:Option NV} {x:OpO} {o:Out} {d':Dyn} (e:ER dst K t dfs ctx x= .mk o d'):ER dst L t dfs ctx x= .mk o d':=by
 cases x with
 |fail=>cases e
 |next v dfs ctx h=>exact hk _ _ _ e
 |pan v h=>exact e
theorem W3 {dst:Option D4} {K:Dyn->Res} {t:Tm} {dfs:List Dfr} {ctx:Option NV} {x:OpO} {o:Out} {d':Dyn} (e:ER dst K t dfs ctx x= .mk o d'):x≠.fail:=by
 rintro rfl;cases e
theorem jM (h:Le a b) {rnd:Option D4}:∀(l:List NOper) (d:Dyn) (o:Out) (d':Dyn),dl P S a rnd l d= .mk o d'->dl P S b rnd l d= .mk o d':=by
 intro l
 induction l with
 |nil=>exact λd o d' e=>e
 |cons x l ih=>
  rintro⟨t,dfs,ctx,m⟩ o d' e
  rw[bP] at e ⊢
  cases hg:aF t x.guard with
  |none=>rw[hg] at e;cases e
  |some on=>
   rw[hg] at e
   cases on with
   |false=>exact ih _ _ _ e
   |true=>
    dsimp only at e ⊢
    rw[qS h rfl (W3 e)]
    exact Pw ih e
theorem nS (h:Le a b) {rnd:Option D4}:∀(l:List NOper) (hs:List (Nat×NH)) (rs:List (Nat×(NH->NR)×NV)) (d:Dyn) (o:Out) (d':Dyn),bY P S a rnd l hs rs d= .mk o d'->bY P S b rnd l hs rs d= .mk o d':=by
 intro l
 induction l with
 |nil=>exact λhs rs d o d' e=>e
 |cons x l ih=>
  rintro hs rs ⟨t,dfs,ctx,m⟩ o d' e
  rw[cq] at e ⊢
  cases hg:aF t x.guard with
  |none=>rw[hg] at e;cases e
  |some on=>
   rw[hg] at e
   cases on with
   |false=>exact ih _ _ _ _ _ e
   |true=>
    dsimp only at e ⊢
    cases hcl:aB x.op with
    |pure=>
     rw[hcl] at e
     dsimp only at e ⊢
     cases hop:ai x.op t m<;>rw[hop] at e<;>first|exact ih _ _ _ _ _ e|cases e
    |alloc=>
     rw[hcl] at e
     dsimp only at e ⊢
     cases ha:ahead x.pre hs with
     |false=>rw[ha] at e;cases e
     |true=>
      rw[ha] at e
      simp only[cond_true] at e ⊢
      cases hop:ai x.op t m<;>rw[hop] at e<;>first|exact ih _ _ _ _ _ e|cases e
    |read=>
     rw[hcl] at e
     dsimp only at e ⊢
     cases hop:ai x.op t m with
     |val v=>
      rw[hop] at e
      dsimp only at e ⊢
      cases hst:dw x.pre (ai x.op t) v hs with
      |false=>rw[hst] at e;cases e
      |true=>rw[hst] at e;exact ih _ _ _ _ _ e
     |_=>rw[hop] at e;cases e
    |eff=>
     rw[hcl] at e
     dsimp only at e ⊢
     cases ha:ahead x.pre hs with
     |false=>rw[ha] at e;cases e
     |true=>
      rw[ha] at e
      simp only[cond_true] at e ⊢
      have hk:∀d o d',cond (stays x.pre d.h rs) (bY P S a rnd l ((x.idx,m)::hs) rs d) .fail= .mk o d'->cond (stays x.pre d.h rs) (bY P S b rnd l ((x.idx,m)::hs) rs d) .fail= .mk o d':=by
       intro d o d' e
       cases hs':stays x.pre d.h rs with
       |false=>rw[hs'] at e;cases e
       |true=>rw[hs'] at e;exact ih _ _ _ _ _ e
      have hne:eD P S a rnd dfs ctx m (ai x.op t m)≠.fail:=by
       intro hh
       rw[hh] at e
       cases e
      rw[qS h rfl hne]
      cases hoo:eD P S a rnd dfs ctx m (ai x.op t m) with
      |fail=>exact adD hoo hne
      |pan v m'=>rw[hoo] at e;exact e
      |next v dfs1 ctx1 m'=>
       rw[hoo] at e
       have e':dz (bI x.idx l) (cond (stays x.pre m' rs) (bY P S a rnd l ((x.idx,m)::hs) rs ⟨aN x.dst v t,dfs1,ctx1,m'⟩) .fail)= .mk o d':=e
       show dz (bI x.idx l) (cond (stays x.pre m' rs) (bY P S b rnd l ((x.idx,m)::hs) rs ⟨aN x.dst v t,dfs1,ctx1,m'⟩) .fail)= .mk o d'
       cases hin:cond (stays x.pre m' rs) (bY P S a rnd l ((x.idx,m)::hs) rs ⟨aN x.dst v t,dfs1,ctx1,m'⟩) .fail with
       |fail=>rw[hin] at e';cases e'
       |mk o2 d2=>
        have:=hk ⟨aN x.dst v t,dfs1,ctx1,m'⟩ o2 d2 hin
        rw[hin] at e'
        rw[show cond (stays x.pre m' rs) (bY P S b rnd l ((x.idx,m)::hs) rs ⟨aN x.dst v t,dfs1,ctx1,m'⟩) .fail= .mk o2 d2 from this]
        exact e'
theorem lV (h:Le a b) {f:Nat} {cap:List NV} {ps:List D4} {x y:NC} {t:Tm} {dfs:List Dfr} {ctx:Option NV} {m:NH} {o:Out} {d':Dyn} (e:cL P S a f cap ps x y t dfs ctx m= .mk o d'):cL P S b f cap ps x y t dfs ctx m= .mk o d':=by
 unfold cL at e ⊢
 rw[NH.new_eq] at e ⊢
 cases hc:bZ P S a f (.yld m.next::cap) (m.add (.loop 0 .none t ps x y)) with
 |fail=>rw[hc] at e;cases e
 |val v c m'=>rw[hc] at e;rw[dT h hc (by simp)];exact e
 |pan v c m'=>rw[hc] at e;rw[dT h hc (by simp)];exact e
theorem EO (h:Le a b):Le (rB P S a) (rB P S b):=by
 intro r c d o d' e
 cases c with
 |skip=>exact e
 |reg l=>exact jM h _ _ _ _ e
 |regD l=>
  have e':(match bY P S a r l [] [] d with| .mk (.pan v) d=>Res.mk (.pan v) ⟨mz l d.t,d.dfs,d.ctx,d.h⟩|r=>r)= .mk o d':=e
  show (match bY P S b r l [] [] d with| .mk (.pan v) d=>Res.mk (.pan v) ⟨mz l d.t,d.dfs,d.ctx,d.h⟩|r=>r)= .mk o d'
  cases hr:bY P S a r l [] [] d with
  |fail=>rw[hr] at e';cases e'
  |mk o2 d2=>rw[hr] at e';rw[nS h _ _ _ _ _ _ hr];exact e'
 |seq x y=>
  have e':(match a r x d with| .mk o d=>(match o with| .norm=>a r y d|o=> .mk o d)| .fail=> .fail)=Res.mk o d':=(Gs (cf:=P) (S:=S)).symm.trans e
  refine (Gs (cf:=P) (S:=S)).trans ?_
  show (match b r x d with| .mk o d=>(match o with| .norm=>b r y d|o=> .mk o d)| .fail=> .fail)=Res.mk o d'
  cases hx:a r x d with
  |fail=>rw[hx] at e';cases e'
  |mk o2 d2=>
   rw[hx] at e'
   rw[h _ _ _ _ _ hx]
   cases o2 with
   |norm=>exact h _ _ _ _ _ e'
   |_=>exact e'
 |cond g x y=>
  have e':(match ρ d.t g with|some (.bool c)=>(Bool.rec (a r y d) (a r x d) c:Res)|_=> .fail)=Res.mk o d':=(wz (cf:=P) (S:=S)).symm.trans e
  refine (wz (cf:=P) (S:=S)).trans ?_
  show (match ρ d.t g with|some (.bool c)=>(Bool.rec (b r y d) (b r x d) c:Res)|_=> .fail)=Res.mk o d'
  cases hg:ρ d.t g with
  |none=>rw[hg] at e';cases e'
  |some v=>
   rw[hg] at e'
   cases v with
   |bool q=>cases q<;>exact h _ _ _ _ _ e'
   |_=>cases e'
 |block id x=>
  have e':(match a r x d with| .mk o d=>(match o with| .exit i=>cond (Nat.beq i id) (.mk .norm d) (.mk (.exit i) d)|o=> .mk o d)| .fail=> .fail)=Res.mk o d':=(qY (cf:=P) (S:=S)).symm.trans e
  refine (qY (cf:=P) (S:=S)).trans ?_
  show (match b r x d with| .mk o d=>(match o with| .exit i=>cond (Nat.beq i id) (.mk .norm d) (.mk (.exit i) d)|o=> .mk o d)| .fail=> .fail)=Res.mk o d'
  cases hx:a r x d with
  |fail=>rw[hx] at e';cases e'
  |mk o2 d2=>rw[hx] at e';rw[h _ _ _ _ _ hx];exact e'
 |loop x=>
  have e':(match a r x d with| .mk o d=>(match o with| .norm=>a r (.loop x) d|o=> .mk o d)| .fail=> .fail)=Res.mk o d':=(me (cf:=P) (S:=S)).symm.trans e
  refine (me (cf:=P) (S:=S)).trans ?_
  show (match b r x d with| .mk o d=>(match o with| .norm=>b r (.loop x) d|o=> .mk o d)| .fail=> .fail)=Res.mk o d'
  cases hx:a r x d with
  |fail=>rw[hx] at e';cases e'
  |mk o2 d2=>
   rw[hx] at e'
   rw[h _ _ _ _ _ hx]
   cases o2 with
   |norm=>exact h _ _ _ _ _ e'
   |_=>exact e'
 |rangeFunc f ps x y=>
  obtain⟨t,dfs,ctx,m⟩:=d
  have e':(match ρ t f with
   |some (.fn f cap)=>(match (generalizing:=false) r with
    |none=>m.new (.defd true) λq m=>cL P S a f cap ps x y t (.mark q::dfs) ctx m
    |some l=>(match m.get l with
     |some (.loop ..)=>cL P S a f cap ps x y t dfs ctx m
     |_=> .fail))
   |_=> .fail)=Res.mk o d':=e
  show (match ρ t f with
   |some (.fn f cap)=>(match (generalizing:=false) r with
    |none=>m.new (.defd true) λq m=>cL P S b f cap ps x y t (.mark q::dfs) ctx m
    |some l=>(match m.get l with
     |some (.loop ..)=>cL P S b f cap ps x y t dfs ctx m
     |_=> .fail))
   |_=> .fail)=Res.mk o d'
  cases hf:ρ t f with
  |none=>rw[hf] at e';cases e'
  |some v=>
   rw[hf] at e'
   cases v with
   |fn f cap=>
    dsimp only at e' ⊢
    cases r with
    |none=>
     dsimp only at e' ⊢
     rw[NH.new_eq] at e' ⊢
     exact lV h e'
    |some l=>
     dsimp only at e' ⊢
     split at e'
     ·exact lV h e'
     ·cases e'
   |_=>cases e'
 |exit id=>exact e
 |ret=>exact e
theorem RM:∀n,Le (ev P S n) (ev P S (n+1)):=by
 intro n
 induction n with
 |zero=>intro r c d o d' e;cases e
 |succ n ih=>exact EO ih
theorem bU {n m:Nat} (hnm:n<=m):Le (ev P S n) (ev P S m):=by
 induction m with
 |zero=>
  have:n=0:=by omega
  subst this;exact λ_ _ _ _ _ e=>e
 |succ m ih=>
  by_cases h:n=m+1
  ·subst h;exact λ_ _ _ _ _ e=>e
  ·exact λr c d o d' e=>RM m r c d o d' (ih (by omega) r c d o d' e)
end
def dp (P:Program) (S:cE) (r:Option D4) (c:NC) (d:Dyn) (o:Out) (d':Dyn):Prop:=∃n,ev P S n r c d= .mk o d'
def Call (P:Program) (S:cE) (f:Nat) (l:List NV) (m:NH) (x:CR):Prop:=x≠.fail/\∃n,bZ P S (ev P S n) f l m=x
def fM (P:Program) (S:cE) (r:Option D4) (l:List NOper) (d:Dyn) (o:Out) (d':Dyn):Prop:=∃n,dl P S (ev P S n) r l d= .mk o d'
section
variable {P:Program} {S:cE} {r:Option D4}
theorem dp.skip (d:Dyn):dp P S r .skip d .norm d:=⟨1,rfl⟩
theorem dp.ret (d:Dyn):dp P S r .ret d .ret d:=⟨1,rfl⟩
theorem dp.exit (id:Nat) (d:Dyn):dp P S r (.exit id) d (.exit id) d:=⟨1,rfl⟩
theorem dp.seq {x y:NC} {d d1 d2:Dyn} {o:Out} (hx:dp P S r x d .norm d1) (hy:dp P S r y d1 o d2):dp P S r (.seq x y) d o d2:=by
 obtain⟨n,hn⟩:=hx
 obtain⟨m,hm⟩:=hy
 refine⟨max n m+1, ?_⟩
 refine Gy.trans ?_
 show (match ev P S (max n m) r x d with| .mk o d=>(match o with| .norm=>ev P S (max n m) r y d|o=> .mk o d)| .fail=> .fail)=Res.mk o d2
 rw[bU (ad9 n m) _ _ _ _ _ hn]
 exact bU (ae0 n m) _ _ _ _ _ hm
theorem dp.seq_out {x y:NC} {d d1:Dyn} {o:Out} (hx:dp P S r x d o d1) (ho:o≠.norm):dp P S r (.seq x y) d o d1:=by
 obtain⟨n,hn⟩:=hx
 refine⟨n+1, ?_⟩
 refine Gy.trans ?_
 show (match ev P S n r x d with| .mk o d=>(match o with| .norm=>ev P S n r y d|o=> .mk o d)| .fail=> .fail)=Res.mk o d1
 rw[hn]
 cases o<;>first|rfl|exact adD rfl ho
theorem dp.cond {g:NOpd} {q:Bool} {x y:NC} {d d1:Dyn} {o:Out} (hg:ρ d.t g=some (.bool q)) (h:dp P S r (if q then x else y) d o d1):dp P S r (.cond g x y) d o d1:=by
 obtain⟨n,hn⟩:=h
 refine⟨n+1, ?_⟩
 refine HG.trans ?_
 show (match ρ d.t g with|some (.bool c)=>(Bool.rec (ev P S n r y d) (ev P S n r x d) c:Res)|_=> .fail)=Res.mk o d1
 rw[hg]
 cases q<;>exact hn
theorem dp.block {id:Nat} {x:NC} {d d1:Dyn} {o:Out} (h:dp P S r x d o d1):dp P S r (.block id x) d (match o with| .exit i=>_root_.cond (Nat.beq i id) .norm (.exit i)|o=>o) d1:=by
 obtain⟨n,hn⟩:=h
 refine⟨n+1, ?_⟩
 refine Cl.trans ?_
 show (match ev P S n r x d with| .mk o d=>(match o with| .exit i=>_root_.cond (Nat.beq i id) (Res.mk .norm d) (Res.mk (.exit i) d)|o=>Res.mk o d)| .fail=>Res.fail)=_
 rw[hn]
 cases o with
 |exit i=>dsimp only;cases Nat.beq i id<;>rfl
 |_=>rfl
theorem dp.loop {x:NC} {d d1 d2:Dyn} {o:Out} (hx:dp P S r x d .norm d1) (hy:dp P S r (.loop x) d1 o d2):dp P S r (.loop x) d o d2:=by
 obtain⟨n,hn⟩:=hx
 obtain⟨m,hm⟩:=hy
 refine⟨max n m+1, ?_⟩
 refine ue.trans ?_
 show (match ev P S (max n m) r x d with| .mk o d=>(match o with| .norm=>ev P S (max n m) r (.loop x) d|o=> .mk o d)| .fail=> .fail)=Res.mk o d2
 rw[bU (ad9 n m) _ _ _ _ _ hn]
 exact bU (ae0 n m) _ _ _ _ _ hm
theorem dp.loop_out {x:NC} {d d1:Dyn} {o:Out} (hx:dp P S r x d o d1) (ho:o≠.norm):dp P S r (.loop x) d o d1:=by
 obtain⟨n,hn⟩:=hx
 refine⟨n+1, ?_⟩
 refine ue.trans ?_
 show (match ev P S n r x d with| .mk o d=>(match o with| .norm=>ev P S n r (.loop x) d|o=> .mk o d)| .fail=> .fail)=Res.mk o d1
 rw[hn]
 cases o<;>first|rfl|exact adD rfl ho
theorem dp.reg {l:List NOper} {d d1:Dyn} {o:Out} (h:fM P S r l d o d1):dp P S r (.reg l) d o d1:=by
 obtain⟨n,hn⟩:=h
 exact⟨n+1,hn⟩
theorem fM.nil (d:Dyn):fM P S r [] d .norm d:=⟨0,rfl⟩
theorem fM.val {x:NOper} {l:List NOper} {t:Tm} {dfs:List Dfr} {ctx:Option NV} {m:NH} {o:Out} {d1:Dyn} {v:NV} (hg:aF t x.guard=some true) (hop:ai x.op t m= .val v)
 (h:fM P S r l ⟨aN x.dst v t,dfs,ctx,m⟩ o d1):fM P S r (x::l) ⟨t,dfs,ctx,m⟩ o d1:=by
 obtain⟨n,hn⟩:=h
 refine⟨n, ?_⟩
 rw[bP,hg,hop]
 exact hn
theorem fM.mem {x:NOper} {l:List NOper} {t:Tm} {dfs:List Dfr} {ctx:Option NV} {m m':NH} {o:Out} {d1:Dyn} {v:NV} (hg:aF t x.guard=some true) (hop:ai x.op t m= .mem v m')
 (h:fM P S r l ⟨aN x.dst v t,dfs,ctx,m'⟩ o d1):fM P S r (x::l) ⟨t,dfs,ctx,m⟩ o d1:=by
 obtain⟨n,hn⟩:=h
 refine⟨n, ?_⟩
 rw[bP,hg,hop]
 exact hn
theorem fM.off {x:NOper} {l:List NOper} {t:Tm} {dfs:List Dfr} {ctx:Option NV} {m:NH} {o:Out} {d1:Dyn} (hg:aF t x.guard=some false)
 (h:fM P S r l ⟨aN x.dst aK t,dfs,ctx,m⟩ o d1):fM P S r (x::l) ⟨t,dfs,ctx,m⟩ o d1:=by
 obtain⟨n,hn⟩:=h
 refine⟨n, ?_⟩
 rw[bP,hg]
 exact hn
theorem fM.call {x:NOper} {l:List NOper} {t:Tm} {dfs:List Dfr} {ctx:Option NV} {m m':NH} {o:Out} {d1:Dyn} {f:Nat} {args:List NV} {v:NV} {c:Option NV} (hg:aF t x.guard=some true) (hop:ai x.op t m= .call f args)
 (hc:Call P S f args m (.val v c m')) (h:fM P S r l ⟨aN x.dst v t,dfs,ctx,m'⟩ o d1):fM P S r (x::l) ⟨t,dfs,ctx,m⟩ o d1:=by
 obtain⟨n,hn⟩:=h
 obtain⟨hne,k,hk⟩:=hc
 refine⟨max n k, ?_⟩
 rw[bP,hg,hop]
 show ER x.dst (dl P S (ev P S (max n k)) r l) t dfs ctx (Eo dfs ctx (bZ P S (ev P S (max n k)) f args m))=_
 rw[dT (bU (ae0 n k)) hk hne]
 exact jM (bU (ad9 n k)) _ _ _ _ hn
theorem Call.of_run {f:Nat} {nf:NFun} (hs:∀l,S f l=λ_=>none) (hf:af P f=some (.code nf)) {args:List NV} {m:NH} {o:Out} {d:Dyn} (ho:o= .norm∨o= .ret) (h:dp P S none nf.body ⟨cJ args 0 .leaf, [],none,m⟩ o d) (hd:d.dfs= [])
 {x:CR} (hx:cD d.h d.t nf.results .fail (λl=> .val (gS l) d.ctx d.h)=x) (hne:x≠.fail):Call P S f args m x:=by
 obtain⟨n,hn⟩:=h
 refine⟨hne,n, ?_⟩
 unfold bZ
 rw[hs]
 dsimp only
 rw[hf]
 dsimp only
 rw[dj,hf]
 dsimp only
 rw[hn]
 rcases ho with rfl|rfl<;>(dsimp only;rw[hd];exact hx)
theorem Po (hM:P.follows .mixedOrders=true) (hP:P.check= .ok ()) (hS:dh P S) {f:Nat} {args:List NV} {m m':NH} {v:NV} {c:Option NV} {nf:NFun} (hf:af P f=some (.code nf)) (hs:S f args=λ_=>none) (hc:Call P S f args m (.val v c m'))
 {ι:aZ} {w:World} (hR:Rel P ι w.heap.size m w) (hlive:∀i p,ι i=some p->¬Live (m.get i)) {args':List Value} (ha:VRL ι args args'):
 Calls P f args'.toArray w λe w'=>(∃ι' v',e= .returned v'/\VR ι' v v'/\ι.le ι'/\Rel P ι' w.heap.size m' w')/\Below w.heap.size w w':=by
 intro cs
 obtain⟨_,n,hn⟩:=hc
 have hn':cP P (ev P S n) 3 f args none m= .val v c m':=by
  unfold bZ at hn
  rw[hs] at hn
  dsimp only at hn
  rw[hf] at hn
  exact hn
 obtain⟨hO,_⟩:=qx hM (lJ hP) hS n
 have hD:=jE (lJ hP) hO 3 f args none m
 obtain⟨_,hF⟩:=hD (by rw[hn'];simp)
 have hF:=hF w.heap.size ι w args' .normal cs hR (aa2 _) ha (λb hb=>by unfold tryRecover;rw[hb])
 rw[hn'] at hF
 obtain⟨ι',v',w',cs',fr,f1,f2,f3,f4,f5,f6,f7,f8,f9⟩:=hF
 obtain⟨rfl,_⟩:=f5.none
 refine⟨.returned v',w',fr,⟨⟨ι',v',rfl,f1,f4.le,f2⟩,⟨f4.os,f4.tape,f4.output,f4.size,λk hk=>f4.frame k hk λi p hi hl=>adD hl (hlive i p hi)⟩⟩,f6,f8,eM f7 f9⟩
end
open Go Go.RowKit
def puts:List (D4×NV)->Tm->Tm
 | [],t=>t
 |p::l,t=>NT.put p.1 p.2 (puts l t)
def fk (k:D4):List (D4×NV)->Option NV->Option NV
 | [],d=>d
 |p::l,d=>cond (bo k p.1) (some p.2) (fk k l d)
theorem pR (k:D4):bo k k=true:=by
 induction k with
 |e=>rfl
 |a d ih=>exact ih
 |b d ih=>exact ih
 |c d ih=>exact ih
 |f d ih=>exact ih
theorem eY (k:D4) (l:List (D4×NV)) (t:Tm):NT.get k (puts l t)=fk k l (NT.get k t):=by
 induction l with
 |nil=>rfl
 |cons p l ih=>
  show NT.get k (NT.put p.1 p.2 (puts l t))=cond (bo k p.1) (some p.2) (fk k l (NT.get k t))
  cases h:bo k p.1 with
  |true=>rw[iL h,NT.get_put_same];rfl
  |false=>
   have hne:k≠p.1:=λe=>by rw[e,pR] at h;cases h
   rw[NT.get_put_ne hne,ih];rfl
def bB (P:Program) (S:cE) (r:Option D4) (l:List NOper) (hs:List (Nat×NH)) (rs:List (Nat×(NH->NR)×NV)) (d:Dyn) (o:Out) (d':Dyn):Prop:=∃n,bY P S (ev P S n) r l hs rs d= .mk o d'
section
variable {P:Program} {S:cE} {r:Option D4} {x:NOper} {l:List NOper} {hs:List (Nat×NH)} {rs:List (Nat×(NH->NR)×NV)} {t:Tm} {dfs:List Dfr} {ctx:Option NV} {m m':NH} {o:Out} {d d1:Dyn} {v:NV}
theorem dp.regD (h:bB P S r l [] [] d .norm d1):dp P S r (.regD l) d .norm d1:=by
 obtain⟨n,hn⟩:=h
 refine⟨n+1, ?_⟩
 show (match bY P S (ev P S n) r l [] [] d with| .mk (.pan v) d=>Res.mk (.pan v) ⟨mz l d.t,d.dfs,d.ctx,d.h⟩|r=>r)=_
 rw[hn]
theorem bB.nil (d:Dyn):bB P S r [] hs rs d .norm d:=⟨0,rfl⟩
theorem bB.off (hg:aF t x.guard=some false) (h:bB P S r l hs rs ⟨aN x.dst aK t,dfs,ctx,m⟩ o d1):bB P S r (x::l) hs rs ⟨t,dfs,ctx,m⟩ o d1:=by
 obtain⟨n,hn⟩:=h
 exact⟨n,by rw[cq,hg];exact hn⟩
theorem bB.pure (hg:aF t x.guard=some true) (hc:aB x.op= .pure) (hop:ai x.op t m= .val v) (h:bB P S r l hs rs ⟨aN x.dst v t,dfs,ctx,m⟩ o d1):bB P S r (x::l) hs rs ⟨t,dfs,ctx,m⟩ o d1:=by
 obtain⟨n,hn⟩:=h
 exact⟨n,by rw[cq,hg];dsimp only;rw[hc];dsimp only;rw[hop];exact hn⟩
theorem bB.alloc (hg:aF t x.guard=some true) (hc:aB x.op= .alloc) (ha:ahead x.pre hs=true) (hop:ai x.op t m= .mem v m') (h:bB P S r l hs rs ⟨aN x.dst v t,dfs,ctx,m'⟩ o d1):bB P S r (x::l) hs rs ⟨t,dfs,ctx,m⟩ o d1:=by
 obtain⟨n,hn⟩:=h
 exact⟨n,by rw[cq,hg];dsimp only;rw[hc];dsimp only;rw[ha,hop];exact hn⟩
theorem bB.read (hg:aF t x.guard=some true) (hc:aB x.op= .read) (hop:ai x.op t m= .val v) (ha:dw x.pre (ai x.op t) v hs=true)
 (h:bB P S r l hs ((x.idx,ai x.op t,v)::rs) ⟨aN x.dst v t,dfs,ctx,m⟩ o d1):bB P S r (x::l) hs rs ⟨t,dfs,ctx,m⟩ o d1:=by
 obtain⟨n,hn⟩:=h
 exact⟨n,by rw[cq,hg];dsimp only;rw[hc];dsimp only;rw[hop];dsimp only;rw[ha];exact hn⟩
theorem bB.eff (hg:aF t x.guard=some true) (hc:aB x.op= .eff) (ha:ahead x.pre hs=true) (hop:ai x.op t m= .mem v m') (hst:stays x.pre m' rs=true)
 (h:bB P S r l ((x.idx,m)::hs) rs ⟨aN x.dst v t,dfs,ctx,m'⟩ .norm d1):bB P S r (x::l) hs rs ⟨t,dfs,ctx,m⟩ .norm d1:=by
 obtain⟨n,hn⟩:=h
 refine⟨n, ?_⟩
 rw[cq,hg];dsimp only;rw[hc];dsimp only;rw[ha,hop]
 show dz (bI x.idx l) (cond (stays x.pre m' rs) (bY P S (ev P S n) r l ((x.idx,m)::hs) rs ⟨aN x.dst v t,dfs,ctx,m'⟩) .fail)=_
 rw[hst]
 show dz (bI x.idx l) (bY P S (ev P S n) r l ((x.idx,m)::hs) rs ⟨aN x.dst v t,dfs,ctx,m'⟩)=_
 rw[hn];rfl
theorem bB.effv (hg:aF t x.guard=some true) (hc:aB x.op= .eff) (ha:ahead x.pre hs=true) (hop:ai x.op t m= .val v) (hst:stays x.pre m rs=true)
 (h:bB P S r l ((x.idx,m)::hs) rs ⟨aN x.dst v t,dfs,ctx,m⟩ .norm d1):bB P S r (x::l) hs rs ⟨t,dfs,ctx,m⟩ .norm d1:=by
 obtain⟨n,hn⟩:=h
 refine⟨n, ?_⟩
 rw[cq,hg];dsimp only;rw[hc];dsimp only;rw[ha,hop]
 show dz (bI x.idx l) (cond (stays x.pre m rs) (bY P S (ev P S n) r l ((x.idx,m)::hs) rs ⟨aN x.dst v t,dfs,ctx,m⟩) .fail)=_
 rw[hst]
 show dz (bI x.idx l) (bY P S (ev P S n) r l ((x.idx,m)::hs) rs ⟨aN x.dst v t,dfs,ctx,m⟩)=_
 rw[hn];rfl
theorem bB.call {f:Nat} {args:List NV} {c:Option NV} (hg:aF t x.guard=some true) (hc:aB x.op= .eff) (ha:ahead x.pre hs=true) (hop:ai x.op t m= .call f args) (hcall:Call P S f args m (.val v c m')) (hst:stays x.pre m' rs=true)
 (h:bB P S r l ((x.idx,m)::hs) rs ⟨aN x.dst v t,dfs,ctx,m'⟩ .norm d1):bB P S r (x::l) hs rs ⟨t,dfs,ctx,m⟩ .norm d1:=by
 obtain⟨n,hn⟩:=h
 obtain⟨hne,k,hk⟩:=hcall
 refine⟨max n k, ?_⟩
 rw[cq,hg];dsimp only;rw[hc];dsimp only;rw[ha,hop]
 show dz (bI x.idx l) (ER x.dst (λd=>cond (stays x.pre d.h rs) (bY P S (ev P S (max n k)) r l ((x.idx,m)::hs) rs d) .fail) t dfs ctx (Eo dfs ctx (bZ P S (ev P S (max n k)) f args m)))=_
 rw[dT (bU (ae0 n k)) hk hne]
 show dz (bI x.idx l) (cond (stays x.pre m' rs) (bY P S (ev P S (max n k)) r l ((x.idx,m)::hs) rs ⟨aN x.dst v t,dfs,ctx,m'⟩) .fail)=_
 rw[hst]
 show dz (bI x.idx l) (bY P S (ev P S (max n k)) r l ((x.idx,m)::hs) rs ⟨aN x.dst v t,dfs,ctx,m'⟩)=_
 rw[nS (bU (ad9 n k)) _ _ _ _ _ _ hn];rfl
end
def FL (P:Program) (S:cE) (l:D4) (args:List NV) (m:NH) (x:CR):Prop:=x≠.fail/\∃n,round (ev P S n) l args m=x
section
variable {P:Program} {S:cE} {r:Option D4} {x:NOper} {l:List NOper} {hs:List (Nat×NH)} {rs:List (Nat×(NH->NR)×NV)} {t:Tm} {dfs:List Dfr} {ctx:Option NV} {m m':NH} {o:Out} {d1:Dyn} {v:NV} {q:D4} {args:List NV} {c:Option NV}
theorem fM.yld (hg:aF t x.guard=some true) (hop:ai x.op t m= .yld q args) (hc:FL P S q args m (.val v c m')) (h:fM P S r l ⟨aN x.dst v t,dfs,ctx,m'⟩ o d1):fM P S r (x::l) ⟨t,dfs,ctx,m⟩ o d1:=by
 obtain⟨n,hn⟩:=h
 obtain⟨hne,k,hk⟩:=hc
 refine⟨max n k, ?_⟩
 rw[bP,hg,hop]
 show ER x.dst (dl P S (ev P S (max n k)) r l) t dfs ctx (Eo dfs ctx (round (ev P S (max n k)) q args m))=_
 rw[fX (bU (ae0 n k)) hk hne]
 exact jM (bU (ad9 n k)) _ _ _ _ hn
theorem bB.yld (hg:aF t x.guard=some true) (hc:aB x.op= .eff) (ha:ahead x.pre hs=true) (hop:ai x.op t m= .yld q args) (hcall:FL P S q args m (.val v c m')) (hst:stays x.pre m' rs=true)
 (h:bB P S r l ((x.idx,m)::hs) rs ⟨aN x.dst v t,dfs,ctx,m'⟩ .norm d1):bB P S r (x::l) hs rs ⟨t,dfs,ctx,m⟩ .norm d1:=by
 obtain⟨n,hn⟩:=h
 obtain⟨hne,k,hk⟩:=hcall
 refine⟨max n k, ?_⟩
 rw[cq,hg];dsimp only;rw[hc];dsimp only;rw[ha,hop]
 show dz (bI x.idx l) (ER x.dst (λd=>cond (stays x.pre d.h rs) (bY P S (ev P S (max n k)) r l ((x.idx,m)::hs) rs d) .fail) t dfs ctx (Eo dfs ctx (round (ev P S (max n k)) q args m)))=_
 rw[fX (bU (ae0 n k)) hk hne]
 show dz (bI x.idx l) (cond (stays x.pre m' rs) (bY P S (ev P S (max n k)) r l ((x.idx,m)::hs) rs ⟨aN x.dst v t,dfs,ctx,m'⟩) .fail)=_
 rw[hst]
 show dz (bI x.idx l) (bY P S (ev P S (max n k)) r l ((x.idx,m)::hs) rs ⟨aN x.dst v t,dfs,ctx,m'⟩)=_
 rw[nS (bU (ad9 n k)) _ _ _ _ _ _ hn];rfl
end
section
variable {P:Program} {S:cE} {r:Option D4} {x:NOper} {l:List NOper} {hs:List (Nat×NH)} {rs:List (Nat×(NH->NR)×NV)} {L:List (D4×NV)} {t:Tm} {dfs:List Dfr} {ctx:Option NV} {m m':NH} {o:Out} {d1:Dyn} {v:NV} {k:D4}
theorem bB.p (hd:x.dst=some k) (hg:aF (puts L t) x.guard=some true) (hc:aB x.op= .pure) (hop:ai x.op (puts L t) m= .val v) (h:bB P S r l hs rs ⟨puts ((k,v)::L) t,dfs,ctx,m⟩ o d1):bB P S r (x::l) hs rs ⟨puts L t,dfs,ctx,m⟩ o d1:=
 bB.pure hg hc hop (by rw[hd];exact h)
theorem bB.rd (hd:x.dst=some k) (hg:aF (puts L t) x.guard=some true) (hc:aB x.op= .read) (hop:ai x.op (puts L t) m= .val v) (ha:dw x.pre (ai x.op (puts L t)) v hs=true)
 (h:bB P S r l hs ((x.idx,ai x.op (puts L t),v)::rs) ⟨puts ((k,v)::L) t,dfs,ctx,m⟩ o d1):bB P S r (x::l) hs rs ⟨puts L t,dfs,ctx,m⟩ o d1:=
 bB.read hg hc hop ha (by rw[hd];exact h)
theorem bB.e (hd:x.dst=some k) (hg:aF (puts L t) x.guard=some true) (hc:aB x.op= .eff) (ha:ahead x.pre hs=true) (hop:ai x.op (puts L t) m= .mem v m') (hst:stays x.pre m' rs=true)
 (h:bB P S r l ((x.idx,m)::hs) rs ⟨puts ((k,v)::L) t,dfs,ctx,m'⟩ .norm d1):bB P S r (x::l) hs rs ⟨puts L t,dfs,ctx,m⟩ .norm d1:=
 bB.eff hg hc ha hop hst (by rw[hd];exact h)
theorem bB.c {f:Nat} {args:List NV} {c:Option NV} (hd:x.dst=some k) (hg:aF (puts L t) x.guard=some true) (hc:aB x.op= .eff) (ha:ahead x.pre hs=true) (hop:ai x.op (puts L t) m= .call f args) (hcall:Call P S f args m (.val v c m')) (hst:stays x.pre m' rs=true)
 (h:bB P S r l ((x.idx,m)::hs) rs ⟨puts ((k,v)::L) t,dfs,ctx,m'⟩ .norm d1):bB P S r (x::l) hs rs ⟨puts L t,dfs,ctx,m⟩ .norm d1:=
 bB.call hg hc ha hop hcall hst (by rw[hd];exact h)
end
section
variable {t:Tm} {m:NH}
theorem jy {op:BinOp} {k:IntKind} {a b:Int} (h:fB op=false):bH .num op (.int k (.lit a)) (.int k (.lit b))=iK op k a b:=by
 show cond (fB op) (iK op k a b) (cond (EF k k) (iK op k a b) none)=_
 rw[show EF k k=true by cases k<;>rfl,h];rfl
theorem YZ {k:IntKind} {a b:Int}:bH .num .lss (.int k (.lit a)) (.int k (.lit b))=some (.bool (decide (a<b))):=
 (jy rfl).trans (by show cH (El a b)=_;rw[jj,bn])
theorem Yc {k:IntKind} {a b:Int}:bH .num .leq (.int k (.lit a)) (.int k (.lit b))=some (.bool (decide (a<=b))):=
 (jy rfl).trans (by show cH (Uc a b)=_;rw[qw,bn])
theorem ZM {k:IntKind} {a b:Int}:bH .num .gtr (.int k (.lit a)) (.int k (.lit b))=some (.bool (decide (b<a))):=
 (jy rfl).trans (by show cH (El b a)=_;rw[jj,bn])
theorem Ym {k:IntKind} {a b:Int}:bH .num .geq (.int k (.lit a)) (.int k (.lit b))=some (.bool (decide (b<=a))):=
 (jy rfl).trans (by show cH (Uc b a)=_;rw[qw,bn])
theorem aal {k:IntKind} {a b:Int}:bH .num .eql (.int k (.lit a)) (.int k (.lit b))=some (.bool (decide (a=b))):=
 (jy rfl).trans (by show cH (ww a b)=_;rw[iw,bn];rfl)
theorem Zg {k:IntKind} {a b:Int}:bH .num .neq (.int k (.lit a)) (.int k (.lit b))=some (.bool (decide (a≠b))):=
 (jy rfl).trans (by show cH (qH (ww a b))=_;rw[iw,bn,im];by_cases h:a=b<;>simp[h])
theorem wrap_small {n:Int} (h:-9223372036854775808<=n) (h':n<9223372036854775808):bM .i64 n=n:=by
 cases n with
 |ofNat m=>
  show cond (Nat.ble (Nat.succ m) 9223372036854775808) (Int.ofNat m) _=_
  rw[ab0 (by have:(m:Int)<9223372036854775808:=h';omega)];rfl
 |negSucc m=>
  show cond (Nat.ble (Nat.succ m) 9223372036854775808) (Int.negSucc m) _=_
  rw[ab0 (by have:-9223372036854775808<=Int.negSucc m:=h;omega)];rfl
theorem aaj {a b:Int} (h:-9223372036854775808<=a+b) (h':a+b<9223372036854775808):bH .num .add (.int .i64 (.lit a)) (.int .i64 (.lit b))=some (.int .i64 (.lit (a+b))):=by
 refine (jy rfl).trans ?_
 show cS .i64 (bM .i64 (Jr a b))=_
 have e:Jr a b=a+b:=by cases a<;>cases b<;>rfl
 rw[e,wrap_small h h']
 exact ko _ _
end
open Go Go.RowKit
section
variable {P:Program} {S:cE} {r:Option D4}
theorem fM.callp {x:NOper} {l:List NOper} {t:Tm} {dfs:List Dfr} {ctx:Option NV} {m m':NH} {f:Nat} {args:List NV} {v:NV} {c:Option NV} (hg:aF t x.guard=some true) (hop:ai x.op t m= .call f args)
 (hc:Call P S f args m (.pan v c m')):fM P S r (x::l) ⟨t,dfs,ctx,m⟩ (.pan v) ⟨t,dfs,ctx,m'⟩:=by
 obtain⟨hne,k,hk⟩:=hc
 refine⟨k, ?_⟩
 rw[bP,hg,hop]
 show ER x.dst (dl P S (ev P S k) r l) t dfs ctx (Eo dfs ctx (bZ P S (ev P S k) f args m))=_
 rw[hk];rfl
theorem dp.regDp {l:List NOper} {d d1:Dyn} {v:NV} (h:bB P S r l [] [] d (.pan v) d1):dp P S r (.regD l) d (.pan v) ⟨mz l d1.t,d1.dfs,d1.ctx,d1.h⟩:=by
 obtain⟨n,hn⟩:=h
 refine⟨n+1, ?_⟩
 show (match bY P S (ev P S n) r l [] [] d with| .mk (.pan v) d=>Res.mk (.pan v) ⟨mz l d.t,d.dfs,d.ctx,d.h⟩|r=>r)=_
 rw[hn]
theorem bB.callp {x:NOper} {l:List NOper} {rs:List (Nat×(NH->NR)×NV)} {t:Tm} {dfs:List Dfr} {ctx:Option NV} {m m':NH} {f:Nat} {args:List NV} {v:NV} {c:Option NV} (hg:aF t x.guard=some true) (hc:aB x.op= .eff) (hop:ai x.op t m= .call f args)
 (hb:bI x.idx l=true) (hcall:Call P S f args m (.pan v c m')):bB P S r (x::l) [] rs ⟨t,dfs,ctx,m⟩ (.pan v) ⟨t,dfs,ctx,m'⟩:=by
 obtain⟨hne,k,hk⟩:=hcall
 refine⟨k, ?_⟩
 rw[cq,hg];dsimp only;rw[hc];dsimp only;rw[hop]
 rw[show ahead x.pre []=true from rfl]
 show dz (bI x.idx l) (ER x.dst (λd=>cond (stays x.pre d.h rs) (bY P S (ev P S k) r l ((x.idx,m):: []) rs d) .fail) t dfs ctx (Eo dfs ctx (bZ P S (ev P S k) f args m)))=_
 rw[hk,hb];rfl
theorem fM.pan {x:NOper} {l:List NOper} {t:Tm} {dfs:List Dfr} {ctx:Option NV} {m:NH} {v:NV} (hg:aF t x.guard=some true) (hop:ai x.op t m= .pan v):fM P S r (x::l) ⟨t,dfs,ctx,m⟩ (.pan v) ⟨t,dfs,ctx,m⟩:=by
 refine⟨0, ?_⟩
 rw[bP,hg,hop];rfl
end
structure PE where
 p:Program
 E:NV->NH->Prop
instance:Coe Program PE:=⟨λP=>⟨P,λ_ _=>False⟩⟩
def WF (P:PE) (S:cE) (f:Nat) (args:List NV) (m:NH) (K:NV->NH->Prop):Prop:=(∃v c m',Call P.p S f args m (.val v c m')/\K v m')∨∃v c m',Call P.p S f args m (.pan v c m')/\P.E v m'
def qE (P:PE) (Q:Out->Dyn->Prop) (o:Out) (d:Dyn):Prop:=match o with| .pan v=>d.dfs= []/\P.E v d.h|o=>Q o d
def qN (P:PE) (K:Dyn->Prop) (o:Out) (d:Dyn):Prop:=match o with| .norm=>K d| .pan v=>d.dfs= []/\P.E v d.h|_=>False
def ld (K:Dyn->Prop) (Q:Out->Dyn->Prop) (o:Out) (d:Dyn):Prop:=match o with| .norm=>K d|o=>Q o d
def jX (i:Nat) (Q:Out->Dyn->Prop) (o:Out) (d:Dyn):Prop:=match o with| .exit j=>Q (if j=i then .norm else .exit j) d|o=>Q o d
def wB (o:Option NV) (A B:Prop):Prop:=match o with|some (.bool q)=>(q=true->A)/\(q=false->B)|_=>False
section
variable (P:PE) (S:cE) (r:Option D4)
def W (c:NC) (d:Dyn) (Q:Out->Dyn->Prop):Prop:=∃o d',dp P.p S r c d o d'/\qE P Q o d'
def wN (dst:Option D4) (t:Tm) (dfs:List Dfr) (ctx:Option NV) (m:NH) (x:NR) (K:Dyn->Prop):Prop:=match x with
 | .val v=>K ⟨aN dst v t,dfs,ctx,m⟩
 | .mem v m'=>K ⟨aN dst v t,dfs,ctx,m'⟩
 | .call f args=>(match dfs with| []=>WF P S f args m λv m'=>K ⟨aN dst v t, [],ctx,m'⟩|x::l=>WF P.p S f args m λv m'=>K ⟨aN dst v t,x::l,ctx,m'⟩)
 | .yld q args=>∃v c m',FL P.p S q args m (.val v c m')/\K ⟨aN dst v t,dfs,ctx,m'⟩
 | .pan v=>(match dfs with| []=>P.E v m|_=>False)
 |_=>False
def wNn (dst:Option D4) (t:Tm) (dfs:List Dfr) (ctx:Option NV) (m:NH) (x:NR) (K:Dyn->Prop):Prop:=match x with
 | .val v=>K ⟨aN dst v t,dfs,ctx,m⟩
 | .mem v m'=>K ⟨aN dst v t,dfs,ctx,m'⟩
 | .call f args=>WF P.p S f args m λv m'=>K ⟨aN dst v t,dfs,ctx,m'⟩
 | .yld q args=>∃v c m',FL P.p S q args m (.val v c m')/\K ⟨aN dst v t,dfs,ctx,m'⟩
 |_=>False
def sQ (hs:List (Nat×NH)) (i:Nat) (l:List NOper):Bool:=match hs with| []=>bI i l|_=>false
def wNb (b:Bool) (dst:Option D4) (t:Tm) (dfs:List Dfr) (ctx:Option NV) (m:NH) (x:NR) (K:Dyn->Prop):Prop:=match b,x with
 |true,.call f args=>wN P S dst t dfs ctx m (.call f args) K
 |_,x=>wNn P S dst t dfs ctx m x K
def wO:List NOper->Dyn->(Dyn->Prop)->Prop
 | [],d,K=>K d
 |x::l,d,K=>match aF d.t x.guard with
  |some true=>wN P S x.dst d.t d.dfs d.ctx d.h (ai x.op d.t d.h) λd=>wO l d K
  |some false=>wO l ⟨aN x.dst aK d.t,d.dfs,d.ctx,d.h⟩ K
  |none=>False
def wD:List NOper->List (Nat×NH)->List (Nat×(NH->NR)×NV)->Dyn->(Dyn->Prop)->Prop
 | [],_,_,d,K=>K d
 |x::l,hs,rs,d,K=>match aF d.t x.guard with
  |some true=>(match aB x.op with
   | .pure=>(match ai x.op d.t d.h with| .val v=>wD l hs rs ⟨aN x.dst v d.t,d.dfs,d.ctx,d.h⟩ K|_=>False)
   | .alloc=>ahead x.pre hs=true/\(match ai x.op d.t d.h with| .mem v m'=>wD l hs rs ⟨aN x.dst v d.t,d.dfs,d.ctx,m'⟩ K|_=>False)
   | .read=>(match ai x.op d.t d.h with| .val v=>dw x.pre (ai x.op d.t) v hs=true/\wD l hs ((x.idx,ai x.op d.t,v)::rs) ⟨aN x.dst v d.t,d.dfs,d.ctx,d.h⟩ K|_=>False)
   | .eff=>ahead x.pre hs=true/\wNb P S (sQ hs x.idx l) x.dst d.t d.dfs d.ctx d.h (ai x.op d.t d.h) λd'=>stays x.pre d'.h rs=true/\wD l ((x.idx,d.h)::hs) rs d' K)
  |some false=>wD l hs rs ⟨aN x.dst aK d.t,d.dfs,d.ctx,d.h⟩ K
  |none=>False
def wp:NC->Dyn->(Out->Dyn->Prop)->Prop
 | .skip,d,Q=>Q .norm d
 | .ret,d,Q=>Q .ret d
 | .exit i,d,Q=>Q (.exit i) d
 | .seq a b,d,Q=>wp a d (ld (λd=>wp b d Q) Q)
 | .cond g a b,d,Q=>wB (ρ d.t g) (wp a d Q) (wp b d Q)
 | .block i a,d,Q=>wp a d (jX i Q)
 | .reg l,d,Q=>wO P S l d (Q .norm)
 | .regD l,d,Q=>wD P S l [] [] d (Q .norm)
 | .loop a,d,Q=>W P S r (.loop a) d Q
 | .rangeFunc f ps a b,d,Q=>W P S r (.rangeFunc f ps a b) d Q
end
section
variable {P:PE} {S:cE} {r:Option D4}
theorem WF.ret' {P:Program} {f:Nat} {args:List NV} {m:NH} {K:NV->NH->Prop} (h:WF P S f args m K):∃v c m',Call P S f args m (.val v c m')/\K v m':=by
 rcases h with h|⟨_,_,_,_,h⟩
 ·exact h
 ·exact h.elim
theorem K7:∀(l:List NOper) (d:Dyn) (K:Dyn->Prop),wO P S l d K->∃o d',fM P.p S r l d o d'/\qN P K o d':=by
 intro l
 induction l with
 |nil=>exact λd K h=>⟨_,d,fM.nil d,h⟩
 |cons x l ih=>
  rintro⟨t,dfs,ctx,m⟩ K h
  unfold wO at h
  dsimp only at h
  split at h
  ·rename_i hg
   cases hop:ai x.op t m with
   |val v=>rw[hop] at h;obtain⟨o,d',h1,h2⟩:=ih _ _ h;exact⟨o,d',fM.val hg hop h1,h2⟩
   |mem v m'=>rw[hop] at h;obtain⟨o,d',h1,h2⟩:=ih _ _ h;exact⟨o,d',fM.mem hg hop h1,h2⟩
   |call f args=>
    rw[hop] at h
    cases dfs with
    |nil=>
     rcases h with⟨v,c,m',hc,h⟩|⟨v,c,m',hc,h⟩
     ·obtain⟨o,d',h1,h2⟩:=ih _ _ h
      exact⟨o,d',fM.call hg hop hc h1,h2⟩
     ·exact⟨_,_,fM.callp hg hop hc,rfl,h⟩
    |cons y dfs=>
     obtain⟨v,c,m',hc,h⟩:=WF.ret' h
     obtain⟨o,d',h1,h2⟩:=ih _ _ h
     exact⟨o,d',fM.call hg hop hc h1,h2⟩
   |yld q args=>
    rw[hop] at h
    obtain⟨v,c,m',hc,h⟩:=h
    obtain⟨o,d',h1,h2⟩:=ih _ _ h
    exact⟨o,d',fM.yld hg hop hc h1,h2⟩
   |pan v=>
    rw[hop] at h
    cases dfs with
    |nil=>exact⟨_,_,fM.pan hg hop,rfl,h⟩
    |cons=>exact h.elim
   |_=>rw[hop] at h;exact h.elim
  ·rename_i hg
   obtain⟨o,d',h1,h2⟩:=ih _ _ h;exact⟨o,d',fM.off hg h1,h2⟩
  ·exact h.elim
theorem Ke:∀(l:List NOper) (hs:List (Nat×NH)) (rs:List (Nat×(NH->NR)×NV)) (d:Dyn) (K:Dyn->Prop),wD P S l hs rs d K->∃o d',bB P.p S r l hs rs d o d'/\qN P K o d'/\(o= .norm∨hs= []):=by
 intro l
 induction l with
 |nil=>exact λhs rs d K h=>⟨_,d,bB.nil d,h,Or.inl rfl⟩
 |cons x l ih=>
  rintro hs rs ⟨t,dfs,ctx,m⟩ K h
  unfold wD at h
  dsimp only at h
  split at h
  ·rename_i hg
   split at h
   ·rename_i hcl
    cases hop:ai x.op t m with
    |val v=>rw[hop] at h;obtain⟨o,d',h1,h2,h3⟩:=ih _ _ _ _ h;exact⟨o,d',bB.pure hg hcl hop h1,h2,h3⟩
    |_=>rw[hop] at h;exact h.elim
   ·rename_i hcl
    obtain⟨ha,h⟩:=h
    cases hop:ai x.op t m with
    |mem v m'=>rw[hop] at h;obtain⟨o,d',h1,h2,h3⟩:=ih _ _ _ _ h;exact⟨o,d',bB.alloc hg hcl ha hop h1,h2,h3⟩
    |_=>rw[hop] at h;exact h.elim
   ·rename_i hcl
    cases hop:ai x.op t m with
    |val v=>rw[hop] at h;obtain⟨ha,h⟩:=h;obtain⟨o,d',h1,h2,h3⟩:=ih _ _ _ _ h;exact⟨o,d',bB.read hg hcl hop ha h1,h2,h3⟩
    |_=>rw[hop] at h;exact h.elim
   ·rename_i hcl
    obtain⟨ha,h⟩:=h
    have fin:∀{a:Nat×NH} {o:Out},o= .norm∨a::hs= []->o= .norm:=λh=>h.elim id λh=>by cases h
    cases hop:ai x.op t m with
    |val v=>
     rw[hop] at h
     have h:wNn P S x.dst t dfs ctx m (.val v) (λd'=>stays x.pre d'.h rs=true/\wD P S l ((x.idx,m)::hs) rs d' K):=by cases he:sQ hs x.idx l<;>rw[he] at h<;>exact h
     obtain⟨hst,h⟩:=h
     obtain⟨o,d',h1,h2,h3⟩:=ih _ _ _ _ h
     obtain rfl:=fin h3
     exact⟨_,d',bB.effv hg hcl ha hop hst h1,h2,Or.inl rfl⟩
    |mem v m'=>
     rw[hop] at h
     have h:wNn P S x.dst t dfs ctx m (.mem v m') (λd'=>stays x.pre d'.h rs=true/\wD P S l ((x.idx,m)::hs) rs d' K):=by cases he:sQ hs x.idx l<;>rw[he] at h<;>exact h
     obtain⟨hst,h⟩:=h
     obtain⟨o,d',h1,h2,h3⟩:=ih _ _ _ _ h
     obtain rfl:=fin h3
     exact⟨_,d',bB.eff hg hcl ha hop hst h1,h2,Or.inl rfl⟩
    |call f args=>
     rw[hop] at h
     have key:WF P.p S f args m (λv m'=>stays x.pre m' rs=true/\wD P S l ((x.idx,m)::hs) rs ⟨aN x.dst v t,dfs,ctx,m'⟩ K)∨(hs= []/\dfs= []/\bI x.idx l=true/\WF P S f args m (λv m'=>stays x.pre m' rs=true/\wD P S l ((x.idx,m)::hs) rs ⟨aN x.dst v t,dfs,ctx,m'⟩ K)):=by
      cases he:sQ hs x.idx l with
      |false=>rw[he] at h;exact Or.inl h
      |true=>
       rw[he] at h
       cases hs with
       |cons a hs=>cases he
       |nil=>
        cases dfs with
        |nil=>exact Or.inr ⟨rfl,rfl,he,h⟩
        |cons y dfs=>exact Or.inl h
     have go:∀{v:NV} {c:Option NV} {m':NH},Call P.p S f args m (.val v c m')->stays x.pre m' rs=true/\wD P S l ((x.idx,m)::hs) rs ⟨aN x.dst v t,dfs,ctx,m'⟩ K->∃o d',bB P.p S r (x::l) hs rs ⟨t,dfs,ctx,m⟩ o d'/\qN P K o d'/\(o= .norm∨hs= []):=by
      rintro v c m' hc ⟨hst,h⟩
      obtain⟨o,d',h1,h2,h3⟩:=ih _ _ _ _ h
      obtain rfl:=fin h3
      exact⟨_,d',bB.call hg hcl ha hop hc hst h1,h2,Or.inl rfl⟩
     rcases key with h|⟨rfl,rfl,hb,⟨v,c,m',hc,h⟩|⟨v,c,m',hc,h⟩⟩
     ·obtain⟨v,c,m',hc,h⟩:=WF.ret' h
      exact go hc h
     ·exact go hc h
     ·exact⟨_,_,bB.callp hg hcl hop hb hc,⟨rfl,h⟩,Or.inr rfl⟩
    |yld q args=>
     rw[hop] at h
     have h:wNn P S x.dst t dfs ctx m (.yld q args) (λd'=>stays x.pre d'.h rs=true/\wD P S l ((x.idx,m)::hs) rs d' K):=by cases he:sQ hs x.idx l<;>rw[he] at h<;>exact h
     obtain⟨v,c,m',hc,hst,h⟩:=h
     obtain⟨o,d',h1,h2,h3⟩:=ih _ _ _ _ h
     obtain rfl:=fin h3
     exact⟨_,d',bB.yld hg hcl ha hop hc hst h1,h2,Or.inl rfl⟩
    |_=>rw[hop] at h;cases he:sQ hs x.idx l<;>rw[he] at h<;>exact h.elim
  ·rename_i hg
   obtain⟨o,d',h1,h2,h3⟩:=ih _ _ _ _ h;exact⟨o,d',bB.off hg h1,h2,h3⟩
  ·exact h.elim
theorem av:∀(c:NC) (d:Dyn) (Q:Out->Dyn->Prop),wp P S r c d Q->W P S r c d Q:=by
 intro c
 induction c with
 |skip=>exact λd Q h=>⟨_,_,dp.skip d,h⟩
 |ret=>exact λd Q h=>⟨_,_,dp.ret d,h⟩
 |exit i=>exact λd Q h=>⟨_,_,dp.exit i d,h⟩
 |seq a b iha ihb=>
  intro d Q h
  obtain⟨o,d1,h1,h2⟩:=iha _ _ h
  cases o with
  |norm=>obtain⟨o,d2,h3,h4⟩:=ihb _ _ h2;exact⟨o,d2,dp.seq h1 h3,h4⟩
  |_=>exact⟨_,_,dp.seq_out h1 (by simp),h2⟩
 |cond g a b iha ihb=>
  intro d Q h
  unfold wp wB at h
  split at h
  ·rename_i q hq
   cases q with
   |true=>obtain⟨o,d1,h1,h2⟩:=iha _ _ (h.1 rfl);exact⟨o,d1,dp.cond hq (by simpa using h1),h2⟩
   |false=>obtain⟨o,d1,h1,h2⟩:=ihb _ _ (h.2 rfl);exact⟨o,d1,dp.cond hq (by simpa using h1),h2⟩
  ·exact h.elim
 |block i a iha=>
  intro d Q h
  obtain⟨o,d1,h1,h2⟩:=iha _ _ h
  refine⟨_,d1,dp.block h1, ?_⟩
  cases o with
  |exit j=>
   dsimp only
   change Q (if j=i then .norm else .exit j) d1 at h2
   by_cases e:j=i
   ·subst e;rw[adF rfl] at h2;rw[Nat.beq_refl];exact h2
   ·rw[adE e] at h2
    rw[show Nat.beq j i=false from by cases hb:Nat.beq j i with|false=>rfl|true=>exact adD (adK hb) e];exact h2
  |_=>exact h2
 |reg l=>
  intro d Q h
  obtain⟨o,d',h1,h2⟩:=K7 (r:=r) _ _ _ h
  cases o with
  |norm=>exact⟨_,_,dp.reg h1,h2⟩
  |pan v=>exact⟨_,_,dp.reg h1,h2⟩
  |_=>exact h2.elim
 |regD l=>
  intro d Q h
  obtain⟨o,d',h1,h2,h3⟩:=Ke (r:=r) _ _ _ _ _ h
  cases o with
  |norm=>exact⟨_,_,dp.regD h1,h2⟩
  |pan v=>exact⟨_,_,dp.regDp h1,h2⟩
  |_=>exact h2.elim
 |loop a _=>exact λd Q h=>h
 |rangeFunc f ps a b _ _=>exact λd Q h=>h
theorem W.loop {c:NC} {Q:Out->Dyn->Prop} (I:Nat->Dyn->Prop) (h:∀k d,I k d->W P S r c d (λo d'=>match o with| .norm=>∃j,j<k/\I j d'|o=>Q o d')):∀k d,I k d->W P S r (.loop c) d Q:=by
 intro k
 induction k using Nat.strongRecOn with
 |ind k ih=>
  intro d hd
  obtain⟨o,d',h1,h2⟩:=h k d hd
  cases o with
  |norm=>
   obtain⟨j,hj,hI⟩:=h2
   obtain⟨o,d2,h3,h4⟩:=ih j hj d' hI
   exact⟨o,d2,dp.loop h1 h3,h4⟩
  |_=>exact⟨_,_,dp.loop_out h1 (by simp),h2⟩
theorem W.mono {c:NC} {d:Dyn} {Q Q':Out->Dyn->Prop} (h:W P S r c d Q) (hq:∀o d,Q o d->Q' o d):W P S r c d Q':=by
 obtain⟨o,d',h1,h2⟩:=h
 refine⟨o,d',h1, ?_⟩
 cases o with
 |pan v=>exact h2
 |_=>exact hq _ _ h2
end
open Go Go.RowKit
section
variable {P:PE} {S:cE} {r:Option D4} {dst:Option D4} {op:NOp} {pre idx:Nat} {l:List NOper} {hs:List (Nat×NH)} {rs:List (Nat×(NH->NR)×NV)}
 {L:List (D4×NV)} {t:Tm} {dfs:List Dfr} {ctx:Option NV} {m m':NH} {v:NV} {k k':D4} {d:Dyn} {Q:Out->Dyn->Prop} {K:Dyn->Prop} {A B:Prop}
theorem UP:wp P S r .skip d Q=Q .norm d:=_root_.id rfl
theorem Yt:wp P S r .ret d Q=Q .ret d:=_root_.id rfl
theorem Xz {i:Nat}:wp P S r (.exit i) d Q=Q (.exit i) d:=_root_.id rfl
theorem TJ {i:Nat} {a:NC}:wp P S r (.block i a) d Q=wp P S r a d (jX i Q):=_root_.id rfl
theorem YR:wp P S r (.reg l) d Q=wO P S l d (Q .norm):=_root_.id rfl
theorem Xc:wp P S r (.regD l) d Q=wD P S l [] [] d (Q .norm):=_root_.id rfl
theorem VH {a:NC}:wp P S r (.loop a) d Q=W P S r (.loop a) d Q:=_root_.id rfl
theorem Vr:ld K Q .norm d=K d:=_root_.id rfl
theorem Xf:ld K Q .ret d=Q .ret d:=_root_.id rfl
theorem TF {i:Nat}:ld K Q (.exit i) d=Q (.exit i) d:=_root_.id rfl
theorem Tc {i:Nat}:jX i Q .norm d=Q .norm d:=_root_.id rfl
theorem Xp {i:Nat}:jX i Q .ret d=Q .ret d:=_root_.id rfl
theorem Tw {i j:Nat}:jX i Q (.exit j) d=Q (if j=i then .norm else .exit j) d:=_root_.id rfl
theorem YA:wO P S [] d K=K d:=_root_.id rfl
def wX (c:jx) (x:NR) (P:PE) (S:cE) (f:NH->NR) (dst:Option D4) (pre idx:Nat) (l:List NOper) (hs:List (Nat×NH)) (rs:List (Nat×(NH->NR)×NV)) (d:Dyn) (K:Dyn->Prop):Prop:=
 match c with
 | .pure=>(match x with| .val v=>wD P S l hs rs ⟨aN dst v d.t,d.dfs,d.ctx,d.h⟩ K|_=>False)
 | .alloc=>ahead pre hs=true/\(match x with| .mem v m'=>wD P S l hs rs ⟨aN dst v d.t,d.dfs,d.ctx,m'⟩ K|_=>False)
 | .read=>(match x with| .val v=>dw pre f v hs=true/\wD P S l hs ((idx,f,v)::rs) ⟨aN dst v d.t,d.dfs,d.ctx,d.h⟩ K|_=>False)
 | .eff=>ahead pre hs=true/\wNb P S (sQ hs idx l) dst d.t d.dfs d.ctx d.h x λd'=>stays pre d'.h rs=true/\wD P S l ((idx,d.h)::hs) rs d' K
theorem XE:wD P S [] hs rs d K=K d:=_root_.id rfl
theorem Qv:wD P S (⟨dst,op,none,pre,idx⟩::l) hs rs ⟨puts L t,dfs,ctx,m⟩ K=wX (aB op) (ai op (puts L t) m) P S (ai op (puts L t)) dst pre idx l hs rs ⟨puts L t,dfs,ctx,m⟩ K:=by
 cases h:aB op<;>simp only[wD,aF,h,wX]<;>cases ai op (puts L t) m<;>rfl
section
variable {f:NH->NR}
theorem TM:wX .pure (.val v) P S f (some k) pre idx l hs rs ⟨puts L t,dfs,ctx,m⟩ K=wD P S l hs rs ⟨puts ((k,v)::L) t,dfs,ctx,m⟩ K:=_root_.id rfl
theorem J4:wX .alloc (.mem v m') P S f (some k) pre idx l hs rs ⟨puts L t,dfs,ctx,m⟩ K=(ahead pre hs=true/\wD P S l hs rs ⟨puts ((k,v)::L) t,dfs,ctx,m'⟩ K):=_root_.id rfl
theorem Rj:wX .read (.val v) P S f (some k) pre idx l hs rs ⟨puts L t,dfs,ctx,m⟩ K=(dw pre f v hs=true/\wD P S l hs ((idx,f,v)::rs) ⟨puts ((k,v)::L) t,dfs,ctx,m⟩ K):=_root_.id rfl
theorem Om:dw pre f v []=true:=_root_.id rfl
theorem OA:ahead pre []=true:=_root_.id rfl
theorem K5:stays pre m []=true:=_root_.id rfl
end
theorem Yw:NT.get k (puts L t)=fk k L (NT.get k t):=eY k L t
theorem Yy:ρ (puts L t) (.tmp k)=fk k L (NT.get k t):=eY k L t
theorem ST:ρ t (.const v)=some v:=_root_.id rfl
theorem Rh {o:Option NV}:fk k [] o=o:=_root_.id rfl
theorem W0 {o:Option NV}:fk k ((k',v)::L) o=cond (bo k k') (some v) (fk k L o):=_root_.id rfl
theorem acA:bo .e .e=true:=_root_.id rfl
theorem abR:bo .e (.a k)=false:=_root_.id rfl
theorem acb:bo .e (.b k)=false:=_root_.id rfl
theorem abH:bo .e (.c k)=false:=_root_.id rfl
theorem abn:bo .e (.f k)=false:=_root_.id rfl
theorem abu:bo (.a k) .e=false:=_root_.id rfl
theorem abN:bo (.a k) (.a k')=bo k k':=_root_.id rfl
theorem abt:bo (.a k) (.b k')=false:=_root_.id rfl
theorem acu:bo (.a k) (.c k')=false:=_root_.id rfl
theorem aca:bo (.a k) (.f k')=false:=_root_.id rfl
theorem abv:bo (.b k) .e=false:=_root_.id rfl
theorem abS:bo (.b k) (.a k')=false:=_root_.id rfl
theorem abQ:bo (.b k) (.b k')=bo k k':=_root_.id rfl
theorem acI:bo (.b k) (.c k')=false:=_root_.id rfl
theorem acF:bo (.b k) (.f k')=false:=_root_.id rfl
theorem acW:bo (.c k) .e=false:=_root_.id rfl
theorem acC:bo (.c k) (.a k')=false:=_root_.id rfl
theorem acf:bo (.c k) (.b k')=false:=_root_.id rfl
theorem acg:bo (.c k) (.c k')=bo k k':=_root_.id rfl
theorem abM:bo (.c k) (.f k')=false:=_root_.id rfl
theorem abJ:bo (.f k) .e=false:=_root_.id rfl
theorem abz:bo (.f k) (.a k')=false:=_root_.id rfl
theorem acG:bo (.f k) (.b k')=false:=_root_.id rfl
theorem abD:bo (.f k) (.c k')=false:=_root_.id rfl
theorem acr:bo (.f k) (.f k')=bo k k':=_root_.id rfl
end
def oN (o:Option NV) (K:NV->NR):NR:=match o with|some v=>K v|none=> .fail
theorem abW {v:NV} {K:NV->NR}:oN (some v) K=K v:=_root_.id rfl
theorem bC {t:Tm} {x:NOpd} {K:NV->NR}:wV t x K=oN (ρ t x) K:=by
 unfold wV oN;cases ρ t x<;>rfl
theorem acv {v:NV}:vr (some v)= .val v:=_root_.id rfl
def nN (v:NV):NR:=match v with| .slc _ _ n _ _=> .val (.int .i64 (.lit (.ofNat n)))| .nils=> .val (.int .i64 (.lit (.ofNat 0)))|_=> .fail
def fi (n:Nat) (s i:NV):NR:=match s,i with| .slc id off len _ _,.int _ (.lit (.ofNat i))=>if i<len then .val (.ptr id (off+i*n)) else .fail|_,_=> .fail
def TI (m:NH) (p:NV):NR:=match p with| .ptr id off=>(match m.get id with|some (.cells _ c)=>oN c[off]? .val|_=> .fail)|_=> .fail
def SF (n:Nat) (m:NH) (p:NV):NR:=match p with| .ptr id off=>(match m.get id with|some (.cells _ c)=>if off+n<=c.length then .val (.agg ((c.drop off).take n)) else .fail|_=> .fail)|_=> .fail
def aaD (k:Nat) (p:NV):NR:=match p with| .ptr id off=> .val (.ptr id (off+k))|_=> .fail
def ZI (k:Nat) (a:NV):NR:=match a with| .agg l=>oN l[k]? .val|_=> .fail
section
variable {t:Tm} {m:NH}
theorem XF {x:NOpd}:ai (.move x) t m=oN (ρ t x) .val:=bC
theorem aan {c:BC} {op:BinOp} {x y:NOpd}:ai (.bin c op x y) t m=oN (ρ t x) λa=>oN (ρ t y) λb=>vr (bH c op a b):=by
 show wV t x (λa=>wV t y λb=>vr (bH c op a b))=_
 simp only[bC]
theorem abE {u:UnOp} {x:NOpd}:ai (.un u x) t m=oN (ρ t x) λv=>vr (unV u v):=bC
theorem Y9 {x:NOpd}:ai (.lenSlc x) t m=oN (ρ t x) nN:=by
 show wV t x _=_
 rw[bC];cases ρ t x with
 |none=>rfl
 |some v=>cases v<;>rfl
theorem YE {n:Nat} {x i:NOpd}:ai (.indexSlc n x i) t m=oN (ρ t x) λs=>oN (ρ t i) λi=>fi n s i:=by
 show wV t x (λv=>gR t i λi=>match v with
  | .slc id off len _ _=>cond (Nat.ble (Nat.succ i) len) (aG (Nat.add off (Nat.mul i n)) λo=> .val (.ptr id o)) .fail
  |_=> .fail)=_
 unfold gR
 simp only[bC]
 cases ρ t x with
 |none=>rfl
 |some s=>
  show oN (ρ t i) _=oN (ρ t i) _
  cases ρ t i with
  |none=>rfl
  |some j=>
   show aS (kJ j) _=fi n s j
   cases j with
   |int k z=>
    cases z with
    |lit z=>
     cases z with
     |ofNat q=>
      cases s with
      |slc id off len e kc=>
       show cond (Nat.ble (Nat.succ q) len) (aG (Nat.add off (Nat.mul q n)) λo=>NR.val (.ptr id o)) .fail=if q<len then _ else _
       rw[aj]
       by_cases hq:q<len
       ·rw[adF hq,ab0 hq];rfl
       ·rw[adE hq,show Nat.ble (Nat.succ q) len=false from by cases hb:Nat.ble (Nat.succ q) len with|false=>rfl|true=>exact adD (ac4 hb) hq];rfl
      |_=>rfl
     |negSucc q=>cases s<;>rfl
   |_=>cases s<;>rfl
theorem Zq {x:NOpd}:ai (.load1 x) t m=oN (ρ t x) (TI m):=by
 show wV t x (λa=>match a with| .ptr id off=>cz m id λc=>aS (kD c off) .val|_=> .fail)=_
 rw[bC]
 cases ρ t x with
 |none=>rfl
 |some v=>
  cases v with
  |ptr id off=>
   show cz m id (λc=>aS (kD c off) .val)=TI m (.ptr id off)
   unfold cz TI
   dsimp only
   split<;>rename_i hm
   ·rw[hm];dsimp only;rw[fH];cases (_:List NV)[off]? <;>rfl
   ·split<;>rename_i h2
    ·exact adD h2 (hm _ _)
    ·rfl
  |_=>rfl
theorem Z3 {k:Nat} {x:NOpd}:ai (.fieldAddr k x) t m=oN (ρ t x) (aaD k):=by
 show wV t x (λv=>match v with| .ptr id o=>aG (Nat.add o k) λo=> .val (.ptr id o)|_=> .fail)=_
 rw[bC]
 cases ρ t x with
 |none=>rfl
 |some v=>cases v<;>first|rfl|exact aj (R:=NR) _ (λo=> .val (.ptr _ o))
theorem Ye {k off:Nat} {id:D4}:aaD k (.ptr id off)= .val (.ptr id (off+k)):=_root_.id rfl
end
theorem Wv {a b:Bool}:bH .bool .eql (.bool a) (.bool b)=some (.bool (a==b)):=by cases a<;>cases b<;>rfl
theorem aam {b:Bool}:unV .not (.bool b)=some (.bool (!b)):=by cases b<;>rfl
open Go Go.RowKit
def rK (o:Option NV) (K:NV->Prop):Prop:=match o with|some v=>K v|none=>False
def sH (rs:List NRes) (K:NV->NH->Prop) (o:Out) (d:Dyn):Prop:=(o= .norm∨o= .ret)/\d.dfs= []/\∃v,cD d.h d.t rs .fail (λl=> .val (gS l) d.ctx d.h)= .val v d.ctx d.h/\K v d.h
section
variable {P:Program} {S:cE} {L:List (D4×NV)} {t:Tm} {ctx:Option NV} {m:NH} {K:NV->NH->Prop} {k k1 k2 k3:D4}
theorem aaE {o:Out} (ho:o= .norm∨o= .ret):sH [.tmp k] K o ⟨puts L t, [],ctx,m⟩=rK (fk k L (NT.get k t)) λv=>K v m:=by
 apply propext
 have e:∀x,NT.get k (puts L t)=x->cD m (puts L t) [.tmp k] .fail (λl=> .val (gS l) ctx m)=(match x with|some v=>CR.val v ctx m|none=> .fail):=by
  rintro x rfl
  show (match (match NT.get k (puts L t) with|some v=>NR.val v|none=>NR.fail) with| .val v=>CR.val (gS [v]) ctx m|_=>CR.fail)=_
  cases NT.get k (puts L t)<;>rfl
 constructor
 ·rintro⟨_,_,v,h1,h2⟩
  change cD m (puts L t) [.tmp k] .fail (λl=> .val (gS l) ctx m)=_ at h1
  rw[e _ (eY _ _ _)] at h1
  cases hx:fk k L (NT.get k t) with
  |none=>rw[hx] at h1;cases h1
  |some u=>rw[hx] at h1;cases h1;exact h2
 ·intro h
  cases hx:fk k L (NT.get k t) with
  |none=>rw[hx] at h;exact h.elim
  |some u=>rw[hx] at h;exact⟨ho,rfl,u,(e _ ((eY _ _ _).trans hx)),h⟩
theorem Wq:sH [.tmp k] K .ret ⟨puts L t, [],ctx,m⟩=rK (fk k L (NT.get k t)) λv=>K v m:=aaE (.inr rfl)
theorem acE {v:NV} {K:NV->Prop}:rK (some v) K=K v:=_root_.id rfl
theorem Call.of_pan {P:Program} {f:Nat} {nf:NFun} (hs:∀l,S f l=λ_=>none) (hf:af P f=some (.code nf)) {args:List NV} {m:NH} {v:NV} {d:Dyn} (h:dp P S none nf.body ⟨cJ args 0 .leaf, [],none,m⟩ (.pan v) d) (hd:d.dfs= []):Call P S f args m (.pan v d.ctx d.h):=by
 obtain⟨n,hn⟩:=h
 refine⟨by simp,n, ?_⟩
 unfold bZ
 rw[hs]
 dsimp only
 rw[hf]
 dsimp only
 rw[dj,hf]
 dsimp only
 rw[hn]
 dsimp only
 rw[hd];rfl
theorem WF.of_wp {P:Program} {E:NV->NH->Prop} (hs:∀f l,S f l=λ_=>none) {f:Nat} {nf:NFun} (hf:af P f=some (.code nf)) {args:List NV} {K:NV->NH->Prop} (hL:cJ args 0 .leaf=puts L .leaf)
 (h:wp ⟨P,E⟩ S none nf.body ⟨puts L .leaf, [],none,m⟩ (sH nf.results K)):WF ⟨P,E⟩ S f args m K:=by
 obtain⟨o,d,h1,h2⟩:=av _ _ _ h
 rw[←hL] at h1
 cases o with
 |pan v=>exact Or.inr ⟨v,d.ctx,d.h,Call.of_pan (hs f) hf h1 h2.1,h2.2⟩
 |_=>
  obtain⟨ho,hd,v,hv,hK⟩:=h2
  exact Or.inl ⟨v,d.ctx,d.h,Call.of_run (hs f) hf ho h1 hd hv (by simp),hK⟩
end
open Go Go.RowKit
def na (m:NH) (j:Nat):D4:=D4.of (m.next.toNat+j)
def ap (m:NH) (id:D4):Prop:=id.toNat<m.next.toNat
instance (m:NH) (id:D4):Decidable (ap m id):=inferInstanceAs (Decidable (_<_))
inductive AK where
 |n (j:Nat)
 |o (id:D4)
def xY (m:NH):List (AK×NO)->NT NO
 | []=>m.m
 |(.n j,x)::l=>NT.put (na m j) x (xY m l)
 |(.o id,x)::l=>if ap m id then NT.put id x (xY m l) else xY m l
def hp (l:List (AK×NO)) (k:Nat) (m:NH):NH:=⟨xY m l,na m k⟩
def kH (j:Nat):List (AK×NO)->Option NO->Option NO
 | [],d=>d
 |(.n i,x)::l,d=>if j=i then some x else kH j l d
 |(.o _,_)::l,d=>kH j l d
def ke (id:D4):List (AK×NO)->Option NO->Option NO
 | [],d=>d
 |(.n _,_)::l,d=>ke id l d
 |(.o i,x)::l,d=>@ite _ (id=i) (Classical.propDecidable _) (some x) (ke id l d)
theorem fp {m:NH} {i j:Nat} (h:na m i=na m j):i=j:=by
 have:=D4.of_inj h;omega
theorem cn {m:NH} {i j:Nat}:(na m i=na m j)=(i=j):=propext ⟨fp,λh=>by rw[h]⟩
theorem VX (m:NH) (k:Nat):(na m k).nxt=na m (k+1):=by
 apply D4.toNat_inj
 rw[D4.toNat_nxt];unfold na;rw[D4.toNat_of,D4.toNat_of];omega
theorem pg (m:NH):na m 0=m.next:=D4.of_toNat _
theorem aa (m:NH):hp [] 0 m=m:=by
 show NH.mk m.m (na m 0)=m
 rw[pg]
theorem ap.ne {m:NH} {id:D4} (h:ap m id) (j:Nat):id≠na m j:=by
 intro e
 unfold ap at h
 rw[e] at h;unfold na at h;rw[D4.toNat_of] at h;omega
section
variable {m:NH} {l:List (AK×NO)} {k j:Nat} {o:NO} {id:D4}
theorem US:(hp l k m).next=na m k:=_root_.id rfl
theorem Hd:(hp l k m).add o=hp ((.n k,o)::l) (k+1) m:=by
 show NH.mk (NT.put (na m k) o (xY m l)) (na m k).nxt=NH.mk (NT.put (na m k) o (xY m l)) (na m (k+1))
 rw[VX]
theorem VT:(hp l k m).put (na m j) o=hp ((.n j,o)::l) k m:=_root_.id rfl
theorem fy (h:ap m id):(hp l k m).put id o=hp ((.o id,o)::l) k m:=by
 show NH.mk (NT.put id o (xY m l)) (na m k)=NH.mk (if ap m id then NT.put id o (xY m l) else xY m l) (na m k)
 rw[adF h]
theorem bt:(hp l k m).get (na m j)=kH j l (m.get (na m j)):=by
 show NT.get (na m j) (xY m l)=_
 induction l with
 |nil=>rfl
 |cons p l ih=>
  obtain⟨a,x⟩:=p
  cases a with
  |n i=>
   show NT.get (na m j) (NT.put (na m i) x (xY m l))=if j=i then some x else kH j l _
   split
   ·rename_i h;rw[h];exact NT.get_put_same _ _ _
   ·rename_i h;rw[NT.get_put_ne (λe=>h (fp e))];exact ih
  |o i=>
   show NT.get (na m j) (if ap m i then NT.put i x (xY m l) else xY m l)=kH j l _
   split
   ·rename_i h;rw[NT.get_put_ne (λe=>h.ne j e.symm)];exact ih
   ·exact ih
theorem aO (h:ap m id):(hp l k m).get id=ke id l (m.get id):=by
 show NT.get id (xY m l)=_
 induction l with
 |nil=>rfl
 |cons p l ih=>
  obtain⟨a,x⟩:=p
  cases a with
  |n i=>
   show NT.get id (NT.put (na m i) x (xY m l))=ke id l _
   rw[NT.get_put_ne (h.ne _)];exact ih
  |o i=>
   show NT.get id (if ap m i then NT.put i x (xY m l) else xY m l)=@ite _ (id=i) (Classical.propDecidable _) (some x) (ke id l _)
   by_cases e:id=i
   ·rw[adF e,←e,adF h];exact NT.get_put_same _ _ _
   ·rw[adE e]
    split
    ·rw[NT.get_put_ne e];exact ih
    ·exact ih
theorem JQ {i:Nat} {d:Option NO}:kH j ((.n i,o)::l) d=if j=i then some o else kH j l d:=_root_.id rfl
theorem OB {i:D4} {d:Option NO}:kH j ((.o i,o)::l) d=kH j l d:=_root_.id rfl
theorem lT {d:Option NO}:ke id [] d=d:=_root_.id rfl
theorem rL {i:Nat} {d:Option NO}:ke id ((.n i,o)::l) d=ke id l d:=_root_.id rfl
theorem aC {d:Option NO}:ke id ((.o id,o)::l) d=some o:=adF rfl
theorem bf {i:D4} {d:Option NO} (h:id≠i):ke id ((.o i,o)::l) d=ke id l d:=adE h
end
structure Chg (S:List D4) (m m':NH):Prop where
 next:m.next.toNat<=m'.next.toNat
 get:∀{id},ap m id->id∉S->m'.get id=m.get id
theorem Chg.old {S:List D4} {m m':NH} {id:D4} (h:Chg S m m') (ho:ap m id):ap m' id:=ad2 ho h.next
theorem Chg.refl (m:NH):Chg [] m m:=⟨aa2 _,λ_ _=>rfl⟩
theorem Chg.weak {S T:List D4} {a b:NH} (h:Chg S a b) (hs:∀id,id∈S->ap a id->id∈T):Chg T a b:=
 ⟨h.1,fun {id} ho hi=>h.2 ho λq=>hi (hs id q ho)⟩
theorem Chg.trans {S T:List D4} {a b c:NH} (h:Chg S a b) (h':Chg T b c) (hs:∀id,id∈T->ap a id->id∈S):Chg S a c:=
 ⟨ab9 h.1 h'.1,fun {id} ho hi=>(h'.2 (h.old ho) λq=>hi (hs id q ho)).trans (h.2 ho hi)⟩
theorem Chg.tr {S:List D4} {m m1 m2:NH} (h:Chg S m m1) (k:Chg [] m1 m2):Chg S m m2:=h.trans k (by simp)
def bj:List (AK×NO)->List D4
 | []=> []
 |(.n _,_)::l=>bj l
 |(.o i,_)::l=>i::bj l
theorem fA (l:List (AK×NO)) (k:Nat) (m:NH):Chg (bj l) m (hp l k m):=by
 refine⟨by show m.next.toNat<=(na m k).toNat;unfold na;rw[D4.toNat_of];omega,fun {id} ho hi=> ?_⟩
 rw[aO ho]
 induction l with
 |nil=>rfl
 |cons p l ih=>
  obtain⟨a,x⟩:=p
  cases a with
  |n i=>rw[rL];exact ih hi
  |o i=>
   have hi:id∉i::bj l:=hi
   rw[adJ] at hi
   rw[bf (λe=>hi (Or.inl e))]
   exact ih λq=>hi (Or.inr q)
theorem aq {l:List (AK×NO)} {k j:Nat} {m:NH} (h:j<k):ap (hp l k m) (na m j):=by
 show (na m j).toNat<(na m k).toNat
 unfold na;rw[D4.toNat_of,D4.toNat_of];omega
theorem au {l:List (AK×NO)} {k:Nat} {m:NH} {id:D4} (h:ap m id):ap (hp l k m) id:=(fA l k m).old h
theorem ak {m:NH} {j:Nat}:¬ap m (na m j):=by
 show ¬(na m j).toNat<m.next.toNat
 unfold na;rw[D4.toNat_of];omega
def pE (P:Program) (S:cE) (f:Nat) (args:List NV) (m:NH) (v:NV) (m':NH):Prop:=∃c,Call P S f args m (.val v c m')
section
variable {P:Program} {S:cE} {f:Nat} {args:List NV} {m:NH}
theorem WF.of_wpH {P:Program} {E:NV->NH->Prop} {nf:NFun} (hs:∀l,S f l=λ_=>none) (hf:af P f=some (.code nf)) {K:NV->NH->Prop} {L:List (D4×NV)} (hL:cJ args 0 .leaf=puts L .leaf)
 (h:wp ⟨P,E⟩ S none nf.body ⟨puts L .leaf, [],none,hp [] 0 m⟩ (sH nf.results K)):WF ⟨P,E⟩ S f args m K:=by
 rw[aa] at h
 obtain⟨o,d,h1,h2⟩:=av _ _ _ h
 rw[←hL] at h1
 cases o with
 |pan v=>exact Or.inr ⟨v,d.ctx,d.h,Call.of_pan hs hf h1 h2.1,h2.2⟩
 |_=>
  obtain⟨ho,hd,v,hv,hK⟩:=h2
  exact Or.inl ⟨v,d.ctx,d.h,Call.of_run hs hf ho h1 hd hv (by simp),hK⟩
theorem WF.ret {K:NV->NH->Prop} (h:WF P S f args m K):∃v m',pE P S f args m v m'/\K v m':=by
 obtain⟨v,c,m',hc,hk⟩:=WF.ret' h;exact⟨v,m',⟨c,hc⟩,hk⟩
theorem Call.det {x y:CR} (h:Call P S f args m x) (h':Call P S f args m y):x=y:=by
 obtain⟨hn,n,e⟩:=h
 obtain⟨hn',k,e'⟩:=h'
 rw[←dT (bU (ad9 n k)) e hn,dT (bU (ae0 n k)) e' hn']
theorem pE.wf {E:NV->NH->Prop} {v:NV} {m':NH} (h:pE P S f args m v m') {K:NV->NH->Prop}:WF ⟨P,E⟩ S f args m K=K v (hp [] 0 m'):=by
 rw[aa]
 apply propext
 constructor
 ·rintro (⟨u,c,n,hc,hk⟩|⟨u,c,n,hc,hk⟩)
  ·obtain⟨c',h'⟩:=h
   have:=Call.det hc h'
   injection this with a _ b
   rw[←a,←b];exact hk
  ·obtain⟨c',h'⟩:=h
   exact adD (Call.det hc h') (by simp)
 ·intro hk
  obtain⟨c,h⟩:=h
  exact Or.inl ⟨v,c,m',h,hk⟩
def Pan (P:Program) (S:cE) (f:Nat) (args:List NV) (m:NH) (v:NV) (m':NH):Prop:=∃c,Call P S f args m (.pan v c m')
theorem Pan.wf {E:NV->NH->Prop} {v:NV} {m':NH} (h:Pan P S f args m v m') {K:NV->NH->Prop}:WF ⟨P,E⟩ S f args m K=E v m':=by
 apply propext
 constructor
 ·rintro (⟨u,c,n,hc,hk⟩|⟨u,c,n,hc,hk⟩)
  ·obtain⟨c',h'⟩:=h
   exact adD (Call.det hc h') (by simp)
  ·obtain⟨c',h'⟩:=h
   have:=Call.det hc h'
   injection this with a _ b
   rw[←a,←b];exact hk
 ·intro hk
  obtain⟨c,h⟩:=h
  exact Or.inr ⟨v,c,m',h,hk⟩
end
section
variable {t:Tm} {m:NH}
theorem Xu {x:NOpd} {ty:Nat}:ai (.box x ty) t m=oN (ρ t x) λv=>match cellsOf v with|some cs=> .mem (.ptr m.next 0) (m.add (.cells true cs))|none=> .fail:=by
 show wV t x (λv=>aS (cellsOf v) λcs=>m.new (.cells true cs) λid h=> .mem (.ptr id 0) h)=_
 rw[bC]
 cases ρ t x with
 |none=>rfl
 |some v=>
  show aS (cellsOf v) _=(match cellsOf v with|some cs=>_|none=>NR.fail)
  cases cellsOf v with
  |none=>rfl
  |some cs=>exact NH.new_eq m (.cells true cs) (λid h=>NR.mem (.ptr id 0) h)
theorem Tn {z:List NV} {ty:Nat}:ai (.alloc z ty) t m= .mem (.ptr m.next 0) (m.add (.cells true z)):=NH.new_eq m (.cells true z) (λid h=>NR.mem (.ptr id 0) h)
end
open Go Go.RowKit
section
variable {P:Program} {S:cE}
theorem FL.of {l:D4} {args:List NV} {m:NH} {p p1:Jump} {tm tm1:NT NV} {ps ps1:List D4} {a b a1 b1:NC} {d1 d2:Dyn} {o:Out} {x:CR}
 (hm:m.get l=some (.loop 0 p tm ps a b)) (hlen:args.length=ps.length) (ha:dp P S (some l) a ⟨sZ ps args tm, [],none,m⟩ .norm d1) (hd1:d1.dfs= [])
 (hm1:d1.h.get l=some (.loop 0 p1 tm1 ps1 a1 b1)) (hb:dp P S (some l) b ⟨d1.t, [],none,d1.h.put l (.loop 1 p1 tm1 ps1 a1 b1)⟩ o d2) (ho:∀v,o≠.pan v) (hr:dZ l o d2.h=x) (hne:x≠.fail):FL P S l args m x:=by
 obtain⟨n,hn⟩:=ha
 obtain⟨k,hk⟩:=hb
 refine⟨hne,max n k, ?_⟩
 have key:∀(ps:List D4) (args:List NV) (tm:Tm) (K:Tm->CR),args.length=ps.length->ec .fail ps args tm K=K (sZ ps args tm):=by
  intro ps
  induction ps with
  |nil=>intro args tm K h;cases args with
   |nil=>rfl
   |cons=>simp at h
  |cons q ps ih=>
   intro args tm K h
   cases args with
   |nil=>simp at h
   |cons v vs=>
    have e:ec .fail (q::ps) (v::vs) tm K=NT.set q v tm λt=>ec .fail ps vs t K:=rfl
    rw[e,NT.set_eq]
    exact ih _ _ _ (by simpa using h)
 unfold round
 rw[hm]
 show ec .fail ps args tm (λt=>match ev P S (max n k) (some l) a ⟨t, [],none,m⟩ with
  | .mk .norm d=>(match d.dfs with| []=>da (ev P S (max n k)) l b d.t d.h|_=> .fail)
  |_=> .fail)=x
 rw[key _ _ _ _ hlen,bU (ad9 n k) _ _ _ _ _ hn]
 show (match d1.dfs with| []=>da (ev P S (max n k)) l b d1.t d1.h|_=> .fail)=x
 rw[hd1]
 show da (ev P S (max n k)) l b d1.t d1.h=x
 unfold da
 rw[hm1]
 show (d1.h.set l (.loop 1 p1 tm1 ps1 a1 b1) λh=>(match ev P S (max n k) (some l) b ⟨d1.t, [],none,h⟩ with
  | .mk o d=>(match o with
   | .pan v=>(match d.dfs with| []=>CR.pan v none d.h|_=> .fail)
   |o=>dZ l o d.h)
  | .fail=> .fail))=x
 rw[NH.set_eq,bU (ae0 n k) _ _ _ _ _ hk]
 cases o with
 |pan v=>exact adD rfl (ho v)
 |_=>exact hr
theorem dp.range {f:Nat} {cap:List NV} {fx:NOpd} {ps:List D4} {a b:NC} {t:Tm} {dfs:List Dfr} {ctx:Option NV} {m m':NH} {v:NV} {c:Option NV} {o:Out} {d:Dyn}
 (hf:ρ t fx=some (.fn f cap)) (hc:Call P S f (.yld (m.add (.defd true)).next::cap) ((m.add (.defd true)).add (.loop 0 .none t ps a b)) (.val v c m'))
 (he:fj (m.add (.defd true)).next t (.mark m.next::dfs) ctx m'= .mk o d):dp P S none (.rangeFunc fx ps a b) ⟨t,dfs,ctx,m⟩ o d:=by
 obtain⟨hne,k,hk⟩:=hc
 refine⟨k+1, ?_⟩
 show (match ρ t fx with
  |some (.fn f cap)=>m.new (.defd true) λq m=>cL P S (ev P S k) f cap ps a b t (.mark q::dfs) ctx m
  |_=>Res.fail)=_
 rw[hf]
 try dsimp only
 rw[NH.new_eq]
 unfold cL
 rw[NH.new_eq,hk]
 exact he
end
open Go Go.RowKit
section
variable {t:Tm} {m:NH}
theorem Mi {k:Nat} {x:NOpd}:ai (.field1 k x) t m=oN (ρ t x) (ZI k):=by
 show wV t x (λv=>match v with| .agg l=>aS (kD l k) .val|_=> .fail)=_
 rw[bC]
 cases ρ t x with
 |none=>rfl
 |some v=>
  cases v with
  |agg l=>show aS (kD l k) .val=oN l[k]? .val;rw[fH];cases l[k]? <;>rfl
  |_=>rfl
theorem YO {k:Nat} {l:List NV}:ZI k (.agg l)=oN l[k]? .val:=_root_.id rfl
def Zc (k n:Nat) (a:NV):NR:=match a with| .agg l=>if k+n<=l.length then .val (.agg ((l.drop k).take n)) else .fail|_=> .fail
theorem JS {k n:Nat} {x:NOpd}:ai (.fieldN k n x) t m=oN (ρ t x) (Zc k n):=by
 show wV t x (λv=>match v with| .agg l=>aS (fC l k n) λl=> .val (.agg l)|_=> .fail)=_
 rw[bC]
 cases ρ t x with
 |none=>rfl
 |some v=>
  cases v with
  |agg l=>show aS (fC l k n) (λl=> .val (.agg l))=if k+n<=l.length then _ else _;rw[iS];split<;>rfl
  |_=>rfl
theorem Z8 {n:Nat} {x:NOpd}:ai (.loadN n x) t m=oN (ρ t x) (SF n m):=by
 show wV t x (λa=>match a with| .ptr id off=>cz m id λc=>aS (fC c off n) λl=> .val (.agg l)|_=> .fail)=_
 rw[bC]
 cases ρ t x with
 |none=>rfl
 |some v=>
  cases v with
  |ptr id off=>
   show cz m id (λc=>aS (fC c off n) λl=> .val (.agg l))=SF n m (.ptr id off)
   unfold cz SF
   dsimp only
   split<;>rename_i hm
   ·rw[hm];dsimp only;rw[iS];split<;>rfl
   ·split<;>rename_i h2
    ·exact adD h2 (hm _ _)
    ·rfl
  |_=>rfl
def Y5 (i:Nat) (a:NV):NR:=match a with| .tup l=>oN l[i]? .val|_=> .fail
theorem IG {i:Nat} {x:NOpd}:ai (.extract x i) t m=oN (ρ t x) (Y5 i):=by
 show wV t x (λv=>match v with| .tup l=>aS (kD l i) .val|_=> .fail)=_
 rw[bC]
 cases ρ t x with
 |none=>rfl
 |some v=>
  cases v with
  |tup l=>show aS (kD l i) .val=oN l[i]? .val;rw[fH];cases l[i]? <;>rfl
  |_=>rfl
theorem Zw {i:Nat} {l:List NV}:Y5 i (.tup l)=oN l[i]? .val:=_root_.id rfl
def Hn (f:NV) (l:List NV):NR:=match f with| .fn f cap=> .call f (l++cap)| .yld r=> .yld r l|_=> .fail
def Qp (t:Tm):List NOpd->(List NV->NR)->NR
 | [],K=>K []
 |x::l,K=>oN (ρ t x) λv=>Qp t l λl=>K (v::l)
theorem vP {l:List NOpd} {K:List NV->NR}:Fz t l .fail K=Qp t l K:=by
 induction l generalizing K with
 |nil=>rfl
 |cons x l ih=>
  show Option.rec NR.fail (λv=>Fz t l .fail λl=>K (v::l)) (ρ t x)=oN (ρ t x) λv=>Qp t l λl=>K (v::l)
  cases ρ t x with
  |none=>rfl
  |some v=>exact ih
theorem XM {K:List NV->NR}:Qp t [] K=K []:=_root_.id rfl
theorem YY {x:NOpd} {l:List NOpd} {K:List NV->NR}:Qp t (x::l) K=oN (ρ t x) λv=>Qp t l λl=>K (v::l):=_root_.id rfl
theorem Vw {f:NOpd} {args:List NOpd}:ai (.call f args) t m=oN (ρ t f) λf=>Qp t args (Hn f):=by
 show wV t f (λf=>Fz t args .fail λl=>match f with| .fn f cap=>iM l cap λl=> .call f l| .yld r=> .yld r l|_=> .fail)=_
 rw[bC]
 cases ρ t f with
 |none=>rfl
 |some f=>
  show Fz t args .fail _=Qp t args (Hn f)
  rw[vP]
  congr 1
  funext l
  cases f with
  |fn f cap=>exact eP l cap (λl=>NR.call f l)
  |_=>rfl
theorem WM {f:Nat} {cap l:List NV}:Hn (.fn f cap) l= .call f (l++cap):=_root_.id rfl
theorem YS {q:D4} {l:List NV}:Hn (.yld q) l= .yld q l:=_root_.id rfl
theorem Wj {f:Nat} {l:List NOpd}:ai (.mkFn f l) t m=Qp t l λl=> .val (.fn f l):=vP
end
open Go Go.RowKit
section
variable {t:Tm} {m:NH}
def stV (n:Nat) (m:NH) (a v:NV):NR:=match a with
 | .ptr id off=>(match cellsOf v with
  |some cs=>if cs.length=n then (match m.get id with
   |some (.cells true c)=>if off+cs.length<=c.length then .mem aK (m.put id (.cells true (c.take off++cs++c.drop (off+cs.length)))) else .fail
   |_=> .fail) else .fail
  |none=> .fail)
 |_=> .fail
theorem Sr {n:Nat} {a x:NOpd}:ai (.store n a x) t m=oN (ρ t a) λa=>oN (ρ t x) λv=>stV n m a v:=by
 show wV t a (λa=>wV t x λv=>match a with
  | .ptr id off=>aS (cellsOf v) λcs=>dJ cs λk=>cond (Nat.beq k n) (storeAt m id off cs λh=> .mem aK h) .fail
  |_=> .fail)=_
 simp only[bC]
 cases ρ t a with
 |none=>rfl
 |some a=>
  show oN (ρ t x) _=oN (ρ t x) _
  cases ρ t x with
  |none=>rfl
  |some v=>
   cases a with
   |ptr id off=>
    show aS (cellsOf v) (λcs=>dJ cs λk=>cond (Nat.beq k n) (storeAt m id off cs λh=> .mem aK h) .fail)=stV n m (.ptr id off) v
    unfold stV
    cases cellsOf v with
    |none=>rfl
    |some cs=>
     show dJ cs (λk=>cond (Nat.beq k n) (storeAt m id off cs λh=> .mem aK h) .fail)=if cs.length=n then _ else _
     rw[bS]
     cases hb:Nat.beq cs.length n with
     |false=>rw[adE (ad3 hb)];rfl
     |true=>
      rw[adF (adK hb)]
      show storeAt m id off cs (λh=> .mem aK h)=_
      unfold storeAt eA
      cases hm:m.get id with
      |none=>rfl
      |some o=>
       cases o with
       |cells w c=>
        cases w with
        |false=>rfl
        |true=>
         show aS (dx cs off c) (λc=>m.set id (.cells true c) λh=> .mem aK h)=if off+cs.length<=c.length then _ else _
         rw[ez]
         split
         ·exact NH.set_eq m id _ (λh=>NR.mem aK h)
         ·rfl
       |_=>rfl
   |_=>rfl
end
open Go Go.RowKit
section
variable {t:Tm} {m:NH}
def bsV (n len:Nat) (m:NH) (o:Option (List NV)):NR:=match o with|some l=> .mem (.slc m.next 0 len n len) (m.add (.cells true l))|none=> .fail
theorem XD {z:List NV} {n len ty:Nat} {ps:List (Nat×Nat×NOpd)}:ai (.buildSlice z n len ty ps) t m=bsV n len m (cM t ps 0 z):=by
 show aS (cM t ps 0 z) (λl=>m.new (.cells true l) λid h=> .mem (.slc id 0 len n len) h)=_
 cases cM t ps 0 z with
 |none=>rfl
 |some l=>exact NH.new_eq m (.cells true l) (λid h=>NR.mem (.slc id 0 len n len) h)
theorem acw {n len:Nat} {l:List NV}:bsV n len m (some l)= .mem (.slc m.next 0 len n len) (m.add (.cells true l)):=_root_.id rfl
def oO {α β:Type} (o:Option α) (K:α->Option β):Option β:=match o with|some x=>K x|none=>none
theorem abp {α β:Type} {x:α} {K:α->Option β}:oO (some x) K=K x:=_root_.id rfl
end
open Go Go.RowKit
def wQ (q:Bool) (A B:Dyn->Prop) (d:Dyn):Prop:=(q=true->A d)/\(q=false->B d)
def wC (o:Option NV) (A B:Dyn->Prop) (d:Dyn):Prop:=wB o (A d) (B d)
def wG (o:Option NV) (b:Bool) (A B:Dyn->Prop) (d:Dyn):Prop:=match o with
 |some (.bool q)=>wQ (q==b) A B d
 |some _=>B d
 |none=>False
def Ic (F:Tm->List Dfr->Option NV->NH->Prop) (d:Dyn):Prop:=F d.t d.dfs d.ctx d.h
def ES (x:NR) (v:NV):Bool:=match x with| .val u=>aU 4 u v|_=>false
section
variable {P:PE} {S:cE} {r:Option D4} {dst:Option D4} {op:NOp} {pre idx:Nat} {l:List NOper} {hs:List (Nat×NH)} {rs:List (Nat×(NH->NR)×NV)}
 {L:List (D4×NV)} {t:Tm} {dfs:List Dfr} {ctx:Option NV} {m m':NH} {v:NV} {k k' g:D4} {d:Dyn} {Q:Out->Dyn->Prop} {K:Dyn->Prop} {A B:Dyn->Prop} {b q:Bool}
theorem abV:wC (some (.bool q)) A B d=wQ q A B d:=_root_.id rfl
theorem YJ:wQ true A B d=A d:=by simp[wQ]
theorem Zn:wQ false A B d=B d:=by simp[wQ]
theorem acB:wG (some (.bool q)) b A B d=wQ (q==b) A B d:=_root_.id rfl
theorem Yu:wG (some aK) b A B d=B d:=_root_.id rfl
theorem QM:wO P S (⟨dst,op,some (g,b),pre,idx⟩::l) ⟨puts L t,dfs,ctx,m⟩ K=wG (fk g L (NT.get g t)) b (Ic λt dfs ctx m=>wN P S dst t dfs ctx m (ai op t m) λd=>wO P S l d K) (Ic λt dfs ctx m=>wO P S l ⟨aN dst aK t,dfs,ctx,m⟩ K) ⟨puts L t,dfs,ctx,m⟩:=by
 unfold wG
 rw[←eY]
 show (match aF (puts L t) (some (g,b)) with|some true=>_|some false=>_|none=>False)=_
 have e:aF (puts L t) (some (g,b))=(match NT.get g (puts L t) with|some (.bool q)=>some (q==b)|some _=>some false|none=>none):=by
  show Option.rec (motive:=λ_=>Option Bool) none (λv=>NV.onBool (some false) (λc=>some (jf b c)) v) (NT.get g (puts L t))=_
  cases NT.get g (puts L t) with
  |none=>rfl
  |some v=>cases v with
   |bool q=>cases q<;>cases b<;>rfl
   |_=>rfl
 rw[e]
 cases NT.get g (puts L t) with
 |none=>rfl
 |some v=>cases v with
  |bool q=>
   dsimp only
   unfold wQ Ic
   cases (q==b)<;>simp
  |_=>rfl
theorem Km:wD P S (⟨dst,op,some (g,b),pre,idx⟩::l) hs rs ⟨puts L t,dfs,ctx,m⟩ K=wG (fk g L (NT.get g t)) b (Ic λt dfs ctx m=>wX (aB op) (ai op t m) P S (ai op t) dst pre idx l hs rs ⟨t,dfs,ctx,m⟩ K) (Ic λt dfs ctx m=>wD P S l hs rs ⟨aN dst aK t,dfs,ctx,m⟩ K) ⟨puts L t,dfs,ctx,m⟩:=by
 unfold wG
 rw[←eY]
 have e:aF (puts L t) (some (g,b))=(match NT.get g (puts L t) with|some (.bool q)=>some (q==b)|some _=>some false|none=>none):=by
  show Option.rec (motive:=λ_=>Option Bool) none (λv=>NV.onBool (some false) (λc=>some (jf b c)) v) (NT.get g (puts L t))=_
  cases NT.get g (puts L t) with
  |none=>rfl
  |some v=>cases v with
   |bool q=>cases q<;>cases b<;>rfl
   |_=>rfl
 have e2:wD P S (⟨dst,op,some (g,b),pre,idx⟩::l) hs rs ⟨puts L t,dfs,ctx,m⟩ K=(match aF (puts L t) (some (g,b)) with
  |some true=>wX (aB op) (ai op (puts L t) m) P S (ai op (puts L t)) dst pre idx l hs rs ⟨puts L t,dfs,ctx,m⟩ K
  |some false=>wD P S l hs rs ⟨aN dst aK (puts L t),dfs,ctx,m⟩ K
  |none=>False):=by
  unfold wX
  simp only[wD]
  all_goals (cases aF (puts L t) (some (g,b)) with
   |none=>rfl
   |some q=>cases q with
    |false=>rfl
    |true=>cases aB op<;>cases ai op (puts L t) m<;>rfl)
 rw[e2,e]
 cases NT.get g (puts L t) with
 |none=>rfl
 |some v=>cases v with
  |bool q=>
   dsimp only
   unfold wQ Ic
   cases (q==b)<;>simp
  |_=>rfl
theorem Rk {i:Nat} {f:NH->NR}:dw pre f v ((i,m)::hs)=cond (Nat.testBit pre i) (dw pre f v hs) (ES (f m) v&&dw pre f v hs):=by
 show cond (Nat.testBit pre i) (dw pre f v hs) (match f m with| .val u=>cond (aU 4 u v) (dw pre f v hs) false|_=>false)=_
 congr 1
 cases f m with
 |val u=>show cond (aU 4 u v) _ false=(aU 4 u v&&_);cases aU 4 u v<;>rfl
 |_=>rfl
theorem SM {i:Nat} {f:NH->NR} {u:NV}:stays pre m ((i,f,u)::rs)=cond (Nat.testBit pre i) (stays pre m rs) (ES (f m) u&&stays pre m rs):=by
 show cond (Nat.testBit pre i) (stays pre m rs) (match f m with| .val v=>cond (aU 4 v u) (stays pre m rs) false|_=>false)=_
 congr 1
 cases f m with
 |val u'=>show cond (aU 4 u' u) _ false=(aU 4 u' u&&_);cases aU 4 u' u<;>rfl
 |_=>rfl
theorem Ta {i:Nat}:ahead pre ((i,m)::hs)=cond (Nat.testBit pre i) (ahead pre hs) false:=_root_.id rfl
theorem KO {u:NV}:ES (.val u) v=aU 4 u v:=_root_.id rfl
end
theorem jh (d:D4):bo d d=true:=pR d
theorem DS (l:List Nat):JM l l=true:=by
 induction l with
 |nil=>rfl
 |cons x l ih=>show cond (Nat.beq x x) (JM l l) false=true;rw[Nat.beq_refl];exact ih
def tK (v:NV):Prop:=match v with| .agg _| .tup _| .fn _ _| .ifc _ _=>False|_=>True
theorem iz {n:Nat} {v:NV} (h:tK v):aU (n+1) v v=true:=by
 show GY (aU n) v v=true
 have hi:∀z:Int,ww z z=true:=λz=>by rw[iw];simp
 cases v with
 |bool b=>cases b<;>rfl
 |int k x=>cases x with
  |lit z=>show cond (EF k k) (ww z z) false=true;rw[hi];cases k<;>rfl
 |str s=>exact DS s
 |ptr id o=>show cond (bo id id) (Nat.beq o o) false=true;rw[jh];simp
 |slc id o n e k=>show cond (bo id id) (cond (Nat.beq o o) (cond (Nat.beq n n) (cond (Nat.beq e e) (Nat.beq k k) false) false) false) false=true;rw[jh];simp
 |map id=>exact jh id
 |yld id=>exact jh id
 |agg l=>exact h.elim
 |tup l=>exact h.elim
 |fn f c=>exact h.elim
 |ifc t v=>exact h.elim
 |_=>rfl
theorem iY {n:Nat} {l:List NV} (h:∀v∈l,tK v):eV (aU (n+1)) l l=true:=by
 induction l with
 |nil=>rfl
 |cons x l ih=>
  show cond (aU (n+1) x x) (eV (aU (n+1)) l l) false=true
  rw[iz (h x (ab2 ..))]
  exact ih λv hv=>h v (aa8 _ hv)
theorem qK {n:Nat} {l:List NV} (h:∀v∈l,tK v):aU (n+2) (.agg l) (.agg l)=true:=iY h
theorem To {n:Nat} {k:IntKind} {z:Int}:aU (n+1) (.int k (.lit z)) (.int k (.lit z))=true:=iz trivial
theorem Q0 {n:Nat} {l:List Nat}:aU (n+1) (.str l) (.str l)=true:=iz trivial
theorem RO {n o:Nat} {i:D4}:aU (n+1) (.ptr i o) (.ptr i o)=true:=iz trivial
open Go Go.RowKit
theorem aae {a b:Int} (h:-9223372036854775808<=a - b) (h':a - b<9223372036854775808):bH .num .sub (.int .i64 (.lit a)) (.int .i64 (.lit b))=some (.int .i64 (.lit (a - b))):=by
 refine (jy rfl).trans ?_
 show cS .i64 (bM .i64 (Fd a b))=_
 rw[lW,wrap_small h h']
 exact ko _ _
theorem AS {a b:Int} (h:-9223372036854775808<=a*b) (h':a*b<9223372036854775808):bH .num .mul (.int .i64 (.lit a)) (.int .i64 (.lit b))=some (.int .i64 (.lit (a*b))):=by
 refine (jy rfl).trans ?_
 show cS .i64 (bM .i64 (xe a b))=_
 rw[kq,wrap_small h h']
 exact ko _ _
theorem Wo {p:Prop} [Decidable p] (h:p):decide p=true:=by simp[h]
theorem Qw {p:Prop} [Decidable p] (h:¬p):decide p=false:=by simp[h]
section
variable {m:NH}
theorem Yo {off n e kc:Nat} {id:D4}:nN (.slc id off n e kc)= .val (.int .i64 (.lit (n:Int))):=_root_.id rfl
theorem HF {n off len e kc:Nat} {id:D4} {ik:IntKind} {z:Int} (h0:0<=z) (h1:z<len):fi n (.slc id off len e kc) (.int ik (.lit z))= .val (.ptr id (off+z.toNat*n)):=by
 obtain⟨i,rfl⟩:=adL h0
 show (if i<len then NR.val (.ptr id (off+i*n)) else .fail)= .val (.ptr id (off+i*n))
 rw[adF (by omega)]
def aaa (off:Nat) (o:Option NO):NR:=match o with|some (.cells _ c)=>oN c[off]? .val|_=> .fail
def ZK (n off:Nat) (o:Option NO):NR:=match o with|some (.cells _ c)=>if off+n<=c.length then .val (.agg ((c.drop off).take n)) else .fail|_=> .fail
theorem aay {id:D4} {off:Nat}:TI m (.ptr id off)=aaa off (m.get id):=_root_.id rfl
theorem ZH {id:D4} {n off:Nat}:SF n m (.ptr id off)=ZK n off (m.get id):=_root_.id rfl
theorem Xm {off:Nat} {w:Bool} {c:List NV}:aaa off (some (.cells w c))=oN c[off]? .val:=_root_.id rfl
theorem Xx {n off:Nat} {w:Bool} {c:List NV} (h:off+n<=c.length):ZK n off (some (.cells w c))= .val (.agg ((c.drop off).take n)):=adF h
def stG (n:Nat) (id:D4) (off:Nat) (m:NH) (cs:Option (List NV)) (o:Option NO):NR:=match cs with
 |some cs=>if cs.length=n then (match o with
  |some (.cells true c)=>if off+cs.length<=c.length then .mem aK (m.put id (.cells true (c.take off++cs++c.drop (off+cs.length)))) else .fail
  |_=> .fail) else .fail
 |none=> .fail
theorem abC {n off:Nat} {id:D4} {v:NV}:stV n m (.ptr id off) v=stG n id off m (cellsOf v) (m.get id):=_root_.id rfl
theorem kE {c:List NV} {off:Nat} {x:NV} (h:off<c.length):c.take off++ [x]++c.drop (off+1)=c.set off x:=by
 rw[List.set_eq_take_append_cons_drop,adF h]
 simp
theorem aau {off:Nat} {id:D4} {x:NV} {c:List NV} (h:off<c.length):stG 1 id off m (some [x]) (some (.cells true c))= .mem aK (m.put id (.cells true (c.set off x))):=by
 show (if [x].length=1 then (if off+ [x].length<=c.length then NR.mem aK (m.put id (.cells true (c.take off++ [x]++c.drop (off+ [x].length)))) else .fail) else .fail)=_
 rw[adF (show [x].length=1 from rfl),adF (by show off+1<=_;omega)]
 show NR.mem aK (m.put id (.cells true (c.take off++ [x]++c.drop (off+1))))=_
 rw[kE h]
theorem aaO {n off:Nat} {id:D4} {cs c:List NV} (h:cs.length=n+2) (h':off+(n+2)<=c.length):stG (n+2) id off m (some cs) (some (.cells true c))= .mem aK (m.put id (.cells true (c.take off++cs++c.drop (off+(n+2))))):=by
 rw[←h] at h' ⊢
 show (if cs.length=cs.length then (if off+cs.length<=c.length then NR.mem aK (m.put id (.cells true (c.take off++cs++c.drop (off+cs.length)))) else .fail) else .fail)=_
 rw[adF rfl,adF h']
end
section
variable {t:Tm} {m:NH}
def HH (c:NV) (a b:Option NV):NR:=match c with| .bool c=>(if c then oN a .val else oN b .val)|_=> .fail
theorem Wf {c a b:NOpd}:ai (.pick c a b) t m=oN (ρ t c) λc=>HH c (ρ t a) (ρ t b):=by
 show wV t c (λc=>match c with| .bool c=>Bool.rec (wV t b .val) (wV t a .val) c|_=> .fail)=_
 rw[bC]
 cases ρ t c with
 |none=>rfl
 |some v=>
  cases v with
  |bool q=>show Bool.rec (wV t b .val) (wV t a .val) q=if q then oN (ρ t a) .val else oN (ρ t b) .val;rw[bC,bC];cases q<;>rfl
  |_=>rfl
theorem QD {a b:Option NV}:HH (.bool true) a b=oN a .val:=_root_.id rfl
theorem Ru {a b:Option NV}:HH (.bool false) a b=oN b .val:=_root_.id rfl
theorem TA {q p r:Bool}:HH (.bool q) (some (.bool p)) (some (.bool r))= .val (.bool (if q then p else r)):=by cases q<;>rfl
theorem KH {mx:Bool} {l:List NOpd}:ai (.minmax mx l) t m=Qp t l λl=>oN (If mx l) .val:=by
 show Fz t l .fail (λl=>aS (If mx l) .val)=_
 rw[vP]
 congr 1
 funext l
 cases If mx l<;>rfl
theorem Zd {k:IntKind} {a b:Int}:If true [.int k (.lit a),.int k (.lit b)]=some (.int k (.lit (max a b))):=by
 show Option.rec (motive:=λ_=>Option NV) none some (cond (cond true (El a b) (El b a)) (some (NV.int k (.lit b))) (some (.int k (.lit a))))=_
 rw[jj]
 by_cases h:a<b
 ·simp[h,Int.max_def,show a<=b by omega]
 ·simp[h,Int.max_def];omega
theorem Y4 {k:IntKind} {a b:Int}:If false [.int k (.lit a),.int k (.lit b)]=some (.int k (.lit (min a b))):=by
 show Option.rec (motive:=λ_=>Option NV) none some (cond (cond false (El a b) (El b a)) (some (NV.int k (.lit b))) (some (.int k (.lit a))))=_
 rw[jj a b,jj b a]
 by_cases h:b<a
 ·rw[adH h,Int.min_eq_right (by omega)];rfl
 ·rw[adG h,Int.min_eq_left (by omega)];rfl
def KX (z:List NV) (n bytes:Nat) (m:NH) (l c:Nat):NR:=cond (Nat.ble l c) (cond (room c bytes) (.mem (.slc m.next 0 l n c) (m.add (.cells true (rep c z)))) .fail) .fail
theorem I3 {z:List NV} {n bytes ty:Nat} {l c:NOpd}:ai (.mkSlice z n bytes ty l c) t m=oN (ρ t l) λl=>aS (kJ l) λl=>oN (ρ t c) λc=>aS (kJ c) λc=>KX z n bytes m l c:=by
 show gR t l (λl=>gR t c λc=>cond (Nat.ble l c) (cond (room c bytes) (vH c z λcs=>m.new (.cells true cs) λid h=> .mem (.slc id 0 l n c) h) .fail) .fail)=_
 unfold gR
 rw[bC]
 congr 1
 funext lv
 congr 1
 funext i
 rw[bC]
 congr 1
 funext cv
 congr 1
 funext j
 rw[fG,NH.new_eq]
 rfl
theorem Ww {k:IntKind} {a:Int} {K:Nat->NR} (h:0<=a):aS (kJ (.int k (.lit a))) K=K a.toNat:=by
 obtain⟨i,rfl⟩:=adL h
 rfl
theorem W4 {z:List NV} {n bytes i:Nat} (h1:i*bytes<=1099511627776) (h2:i<=1099511627776):KX z n bytes m i i= .mem (.slc m.next 0 i n i) (m.add (.cells true (rep i z))):=by
 unfold KX
 rw[ab0 (aa2 i)]
 have e:room i bytes=true:=by
  unfold room
  rw[show Nat.ble (Nat.mul i bytes) 1099511627776=true from ab0 h1,show Nat.ble i 1099511627776=true from ab0 h2]
  rfl
 rw[e];rfl
def GP (n bytes:Nat) (m:NH) (s x:NV):NR:=iq n m x λk new=>ia n bytes m s k new
theorem Pk {n bytes ty:Nat} {s x:NOpd}:ai (.append n bytes ty s x) t m=oN (ρ t s) λs=>oN (ρ t x) λx=>GP n bytes m s x:=by
 show wV t s (λs=>wV t x λx=>iq n m x λk new=>ia n bytes m s k new)=_
 rw[bC];congr 1;funext s;rw[bC];rfl
def buV (o:Option (List NV)):NR:=match o with|some l=> .val (.agg l)|none=> .fail
theorem Qt {z:List NV} {ps:List (Nat×Nat×NOpd)}:ai (.build z ps) t m=buV (cX t ps z):=by
 show aS (cX t ps z) (λl=> .val (.agg l))=_
 cases cX t ps z<;>rfl
theorem abG {l:List NV}:buV (some l)= .val (.agg l):=_root_.id rfl
theorem aat {l:List NV}:cX t [] l=some l:=_root_.id rfl
def YQ (t:Tm) (ps:List (Nat×Nat×NOpd)) (off k:Nat) (l:List NV) (o:Option (List NV)):Option (List NV):=match o with
 |some cs=>if cs.length=k then (match dx cs off l with|some l=>cX t ps l|none=>none) else none
 |none=>none
theorem aby {ps:List (Nat×Nat×NOpd)} {off k:Nat} {x:NOpd} {l:List NV}:cX t ((off,k,x)::ps) l=oO (ρ t x) λv=>YQ t ps off k l (cellsOf v):=by
 show Option.rec (motive:=λ_=>Option (List NV)) none (λv:NV=>Option.rec (motive:=λ_=>Option (List NV)) none (λcs=>dJ cs λj=>cond (Nat.beq j k) (Option.rec (motive:=λ_=>Option (List NV)) none (cX t ps) (dx cs off l)) none) (cellsOf v)) (ρ t x)=_
 cases ρ t x with
 |none=>rfl
 |some v=>
  show Option.rec (motive:=λ_=>Option (List NV)) none (λcs=>dJ cs λj=>cond (Nat.beq j k) (Option.rec (motive:=λ_=>Option (List NV)) none (cX t ps) (dx cs off l)) none) (cellsOf v)=YQ t ps off k l (cellsOf v)
  cases cellsOf v with
  |none=>rfl
  |some cs=>
   show dJ cs (λj=>cond (Nat.beq j k) (Option.rec (motive:=λ_=>Option (List NV)) none (cX t ps) (dx cs off l)) none)=if cs.length=k then _ else _
   rw[bS]
   cases hb:Nat.beq cs.length k with
   |false=>rw[adE (ad3 hb)];rfl
   |true=>rw[adF (adK hb)];cases dx cs off l<;>rfl
theorem YG {ps:List (Nat×Nat×NOpd)} {off:Nat} {x:NV} {l:List NV} (h:off<l.length):YQ t ps off 1 l (some [x])=cX t ps (l.set off x):=by
 show (if [x].length=1 then (match dx [x] off l with|some l=>cX t ps l|none=>none) else none)=_
 rw[adF (show [x].length=1 from rfl),ez,adF (by show off+1<=_;omega)]
 show cX t ps (l.take off++ [x]++l.drop (off+1))=_
 rw[kE h]
theorem W8 {ps:List (Nat×Nat×NOpd)} {off k:Nat} {cs l:List NV} (h:cs.length=k) (h':off+k<=l.length):YQ t ps off k l (some cs)=cX t ps (l.take off++cs++l.drop (off+k)):=by
 subst h
 show (if cs.length=cs.length then (match dx cs off l with|some l=>cX t ps l|none=>none) else none)=_
 rw[adF rfl,ez,adF h']
theorem ZD {ps:List (Nat×Nat×NOpd)} {off k:Nat} {cs l:List NV} (h:cs.length=k+2) (h':off+(k+2)<=l.length):YQ t ps off (k+2) l (some cs)=cX t ps (l.take off++cs++l.drop (off+(k+2))):=W8 h h'
end
end Nm
namespace Nm
open Go Go.RowKit
variable {n d:Nat} {K:Nat->NR} {lo hi:Option NOpd}
section
variable {t:Tm} {m:NH}
def iX (t:Tm) (x:Option NOpd) (d:Nat) (K:Nat->NR):NR:=match x with|none=>K d|some x=>oN (ρ t x) λv=>aS (kJ v) K
theorem fQ {x:Option NOpd}:dD t x d K=iX t x d K:=by
 cases x with
 |none=>rfl
 |some x=>show wV t x _=_;rw[bC];rfl
def RZ (n:Nat) (id:D4) (off len e kc a b:Nat):NR:=cond (Nat.ble a b) (cond (Nat.ble b (Bool.rec kc len (Nat.ble kc len))) (cond (Nat.beq e n) (.val (.slc id (off+a*n) (b - a) n (kc - a))) .fail) .fail) .fail
def Gd (n:Nat) (t:Tm) (lo hi:Option NOpd) (v:NV):NR:=match v with
 | .slc id off len e kc=>iX t hi len λb=>iX t lo 0 λa=>RZ n id off len e kc a b
 | .nils=>iX t hi 0 λb=>iX t lo 0 λa=>cond (Nat.beq a 0) (cond (Nat.beq b 0) (.val .nils) .fail) .fail
 |_=> .fail
theorem Zk  {x:NOpd}:ai (.sliceSlc n x lo hi) t m=oN (ρ t x) (Gd n t lo hi):=by
 show wV t x (λv=>match v with
  | .slc id off len e kc=>dD t hi len λb=>dD t lo 0 λa=>cond (Nat.ble a b) (cond (Nat.ble b (Bool.rec kc len (Nat.ble kc len))) (cond (Nat.beq e n)
   (aG (Nat.add off (Nat.mul a n)) λo=>aG (Nat.sub b a) λm=>aG (Nat.sub kc a) λk=> .val (.slc id o m n k)) .fail) .fail) .fail
  | .nils=>dD t hi 0 λb=>dD t lo 0 λa=>cond (Nat.beq a 0) (cond (Nat.beq b 0) (.val .nils) .fail) .fail
  |_=> .fail)=_
 rw[bC]
 congr 1
 funext v
 cases v with
 |slc id off len e kc=>
  dsimp only[Gd]
  rw[fQ]
  congr 1
  funext b
  rw[fQ]
  congr 1
  funext a
  simp only[aj]
  rfl
 |nils=>
  dsimp only[Gd]
  rw[fQ]
  congr 1
  funext b
  rw[fQ]
 |_=>rfl
theorem U2 :iX t none d K=K d:=_root_.id rfl
theorem aap {x:NOpd}:iX t (some x) d K=oN (ρ t x) λv=>aS (kJ v) K:=_root_.id rfl
theorem Nn  {off len e kc:Nat} {id:D4}:Gd n t lo hi (.slc id off len e kc)=iX t hi len λb=>iX t lo 0 λa=>RZ n id off len e kc a b:=_root_.id rfl
theorem JW :Gd n t lo hi .nils=iX t hi 0 λb=>iX t lo 0 λa=>cond (Nat.beq a 0) (cond (Nat.beq b 0) (.val .nils) .fail) .fail:=_root_.id rfl
theorem TN  {a b off len kc:Nat} {id:D4} (h:a<=b) (h':b<=len):RZ n id off len n kc a b= .val (.slc id (off+a*n) (b - a) n (kc - a)):=by
 unfold RZ
 rw[ab0 h,Nat.beq_refl,show Nat.ble b (Bool.rec kc len (Nat.ble kc len))=true from ab0 (by
  cases hb:Nat.ble kc len with
  |true=>exact h'
  |false=>
   have:¬kc<=len:=λq=>by rw[ab0 q] at hb;cases hb
   show b<=kc
   omega)]
 rfl
end
end Nm
