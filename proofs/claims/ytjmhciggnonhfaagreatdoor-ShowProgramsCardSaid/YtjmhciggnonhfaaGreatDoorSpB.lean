/- A machine that runs the given program with memory and order of evaluation taken apart, and what it shows of the law ShowPrograms: part 2. -/
import Derived.AtR
import Derived.RangeFuncIn
import Derived.Defers
import Derived.RangeFuncRecord
import Derived.Laws.Externs
import Derived.Lib.Bytealg
import Derived.Below
import Derived.Test.YtjmhciggnonhfaaGreatDoorSpA
set_option linter.unusedSimpArgs false
set_option linter.unusedVariables false
set_option linter.unusedSectionVars false
set_option linter.defProp false
namespace Nm
open Go
def xV (x:Option NOpd):List NOpd:=match x with|some x=> [x]|none=> []
def opsOf:NOp->List NOpd
 | .move x| .box x _| .load1 x| .loadN _ x| .nilCheck x| .un _ x| .toInt _ x| .strToBytes _ x| .bytesToStr x| .sameSlc x| .toStr x| .mkIfc _ x| .fieldAddr _ x| .field1 _ x| .fieldN _ _ x
 | .typeAssert _ _ x| .extract x _| .panic x| .lenStr x| .lenSlc x| .lenMap x| .clearSlc _ x| .defer x| .rangeMap x| .nextMap x| .entryMap x=> [x]
 | .pick c a b=> [c,a,b]
 | .build _ ps| .buildSlice _ _ _ _ ps=>ps.map fun p=>p.2.2
 | .store _ a x| .bin _ _ a x| .eqAgg _ _ a x| .mkSlice _ _ _ _ a x| .indexSlc _ a x| .indexArr _ _ a x| .indexStr a x| .indexAgg _ _ a x| .lookup _ _ _ a x| .append _ _ _ a x| .appendStr _ a x| .copy _ a x| .delete _ a x=> [a,x]
 | .mkFn _ l| .minmax _ l=>l
 | .sliceStr x lo hi| .sliceSlc _ x lo hi=>x::(xV lo++xV hi)
 | .sliceMax _ x lo hi mx=> [x,lo,hi,mx]
 | .mapUpdate _ m k v=> [m,k,v]
 | .call f l=>f::l
 | .fail| .alloc ..| .mkMap| .recover| .lenArr _=> []
section
variable {t t':Tm}
theorem oC {R:Type} {l:List NOpd} (e:∀x∈l,ρ t x=ρ t' x) (F:R) (K:List NV->R):wj t l F K=wj t' l F K:=by
 induction l generalizing K with
 |nil=>rfl
 |cons x l ih=>
  show (Option.rec F (fun v=>wj t l F fun l=>K (v::l)) (ρ t x):R)=(Option.rec F (fun v=>wj t' l F fun l=>K (v::l)) (ρ t' x):R)
  rw[e x (by simp)]
  cases ρ t' x with
  |none=>rfl
  |some v=>exact ih (fun x hx=>e x (by simp[hx])) _
theorem xu {ps:List (Nat×Nat×NOpd)} (e:∀x∈ps.map (fun p=>p.2.2),ρ t x=ρ t' x) (l:List NV):c8 t ps l=c8 t' ps l:=by
 induction ps generalizing l with
 |nil=>rfl
 |cons p ps ih=>
  show (Option.rec none (fun v:NV=>Option.rec none (fun cs=>dG cs fun k=>cond (Nat.beq k p.2.1) (Option.rec none (c8 t ps) (dr cs p.1 l)) none) (cellsOf v)) (ρ t p.2.2):Option (List NV))=
   (Option.rec none (fun v:NV=>Option.rec none (fun cs=>dG cs fun k=>cond (Nat.beq k p.2.1) (Option.rec none (c8 t' ps) (dr cs p.1 l)) none) (cellsOf v)) (ρ t' p.2.2):Option (List NV))
  rw[e _ (by simp),funext (ih fun x hx=>e x (by simp at hx ⊢;exact .inr hx))]
theorem yw {ps:List (Nat×Nat×NOpd)} (e:∀x∈ps.map (fun p=>p.2.2),ρ t x=ρ t' x) (c:Nat) (l:List NV):cM t ps c l=cM t' ps c l:=by
 induction ps generalizing c l with
 |nil=>rfl
 |cons p ps ih=>
  have ih':cM t ps=cM t' ps:=funext fun c=>funext fun l=>ih (fun x hx=>e x (by simp at hx ⊢;exact .inr hx)) c l
  show (Option.rec none (fun v:NV=>Option.rec none (fun cs=>dG cs fun k=>cond (Nat.beq k p.2.1) (cond (Nat.ble c p.1)
   (gF (Nat.sub p.1 c) (fun l=>Option.rec none (fun l=>Option.rec none (fun l=>iL cs l some) (cM t ps (Nat.add p.1 k) l)) (dW k l)) l) none) none) (cellsOf v)) (ρ t p.2.2):Option (List NV))=
   (Option.rec none (fun v:NV=>Option.rec none (fun cs=>dG cs fun k=>cond (Nat.beq k p.2.1) (cond (Nat.ble c p.1)
   (gF (Nat.sub p.1 c) (fun l=>Option.rec none (fun l=>Option.rec none (fun l=>iL cs l some) (cM t' ps (Nat.add p.1 k) l)) (dW k l)) l) none) none) (cellsOf v)) (ρ t' p.2.2):Option (List NV))
  rw[e _ (by simp),ih']
theorem bg {x:NOpd} (e:ρ t x=ρ t' x) (K K':NV->NR) (k:∀v,K v=K' v):wV t x K=wV t' x K':=by
 unfold wV;rw[e,funext k]
theorem de {x:NOpd} (e:ρ t x=ρ t' x) (K K':Nat->NR) (k:∀v,K v=K' v):fC t x K=fC t' x K':=by
 unfold fC;rw[funext k];exact bg e _ _ fun _=>rfl
theorem gt {x:Option NOpd} (e:∀y∈xV x,ρ t y=ρ t' y) (d:Nat) (K K':Nat->NR) (k:∀v,K v=K' v):dT t x d K=dT t' x d K':=by
 cases x with
 |none=>exact k d
 |some x=>exact de (e x (by simp[xV])) _ _ k
theorem oP {o:NOp} (e:∀x∈opsOf o,ρ t x=ρ t' x) (h:NH):af o t h=af o t' h:=by
 cases o with
 |fail=>rfl
 |alloc=>rfl
 |mkMap=>rfl
 |recover=>rfl
 |lenArr=>rfl
 |pick c a b=>
  refine bg (e c (by simp[opsOf])) _ _ fun v=> ?_
  cases v<;>try rfl
  rename_i q
  cases q
  ·exact bg (e b (by simp[opsOf])) _ _ fun _=>rfl
  ·exact bg (e a (by simp[opsOf])) _ _ fun _=>rfl
 |build z ps=>show aX (c8 t ps z) _=aX (c8 t' ps z) _;rw[xu (fun x hx=>e x hx)]
 |buildSlice z n len T ps=>show aX (cM t ps 0 z) _=aX (cM t' ps 0 z) _;rw[yw (fun x hx=>e x hx)]
 |store n a x=>exact bg (e a (by simp[opsOf])) _ _ fun _=>bg (e x (by simp[opsOf])) _ _ fun _=>rfl
 |bin c op a x=>exact bg (e a (by simp[opsOf])) _ _ fun _=>bg (e x (by simp[opsOf])) _ _ fun _=>rfl
 |eqAgg n es a x=>exact bg (e a (by simp[opsOf])) _ _ fun _=>bg (e x (by simp[opsOf])) _ _ fun _=>rfl
 |lookup s z ok a x=>exact bg (e a (by simp[opsOf])) _ _ fun _=>bg (e x (by simp[opsOf])) _ _ fun _=>rfl
 |append n b T a x=>exact bg (e a (by simp[opsOf])) _ _ fun _=>bg (e x (by simp[opsOf])) _ _ fun _=>rfl
 |appendStr T a x=>exact bg (e a (by simp[opsOf])) _ _ fun _=>bg (e x (by simp[opsOf])) _ _ fun _=>rfl
 |copy n a x=>exact bg (e a (by simp[opsOf])) _ _ fun _=>bg (e x (by simp[opsOf])) _ _ fun _=>rfl
 |delete s a x=>exact bg (e a (by simp[opsOf])) _ _ fun _=>bg (e x (by simp[opsOf])) _ _ fun _=>rfl
 |mkSlice z n b T a x=>exact de (e a (by simp[opsOf])) _ _ fun _=>de (e x (by simp[opsOf])) _ _ fun _=>rfl
 |indexSlc n a x=>exact bg (e a (by simp[opsOf])) _ _ fun _=>de (e x (by simp[opsOf])) _ _ fun _=>rfl
 |indexArr n l a x=>exact bg (e a (by simp[opsOf])) _ _ fun _=>de (e x (by simp[opsOf])) _ _ fun _=>rfl
 |indexAgg m l a x=>exact bg (e a (by simp[opsOf])) _ _ fun _=>de (e x (by simp[opsOf])) _ _ fun _=>rfl
 |indexStr a x=>exact bg (e a (by simp[opsOf])) _ _ fun _=>de (e x (by simp[opsOf])) _ _ fun _=>rfl
 |mkFn f l=>exact oC e _ _
 |minmax m l=>exact oC e _ _
 |call f l=>exact bg (e f (by simp[opsOf])) _ _ fun _=>oC (fun x hx=>e x (by simp[opsOf,hx])) _ _
 |mapUpdate s m k v=>exact bg (e m (by simp[opsOf])) _ _ fun _=>bg (e k (by simp[opsOf])) _ _ fun _=>bg (e v (by simp[opsOf])) _ _ fun _=>rfl
 |sliceStr x lo hi=>
  refine bg (e x (by simp[opsOf])) _ _ fun v=> ?_
  cases v<;>try rfl
  show dG _ _=dG _ _
  rw[bJ,bJ]
  exact gt (fun y hy=>e y (by simp[opsOf,hy])) _ _ _ fun _=>gt (fun y hy=>e y (by simp[opsOf,hy])) _ _ _ fun _=>rfl
 |sliceSlc n x lo hi=>
  refine bg (e x (by simp[opsOf])) _ _ fun v=> ?_
  cases v<;>try rfl
  all_goals exact gt (fun y hy=>e y (by simp[opsOf,hy])) _ _ _ fun _=>gt (fun y hy=>e y (by simp[opsOf,hy])) _ _ _ fun _=>rfl
 |sliceMax n x lo hi mx=>
  refine bg (e x (by simp[opsOf])) _ _ fun v=> ?_
  cases v<;>try rfl
  exact de (e lo (by simp[opsOf])) _ _ fun _=>de (e hi (by simp[opsOf])) _ _ fun _=>de (e mx (by simp[opsOf])) _ _ fun _=>rfl
 |_=>exact bg (e _ (by simp[opsOf])) _ _ fun _=>rfl
end
section
variable {P:Program}
def Sub (n:NOp) (op:Op):Prop:=∀y∈opsOf n,∃x∈op.operands.toList,aC x=some y
theorem jZ {α:Type} {b:Bool} {x:Option α} {r:α} (hc:cond b none x=some r):x=some r:=by
 cases b with
 |true=>cases hc
 |false=>exact hc
theorem pk {l:List Operand} {l':List NOpd} (hc:ff l=some l'):∀y∈l',∃x∈l,aC x=some y:=by
 induction l generalizing l' with
 |nil=>cases hc;simp
 |cons x l ih=>
  have hc':(match aC x,ff l with|some x,some l=>some (x::l)|_,_=>none)=some l':=hc
  split at hc'
  ·rename_i z m h1 h2
   cases hc'
   intro y hy
   rcases List.mem_cons.1 hy with rfl|hy
   ·exact ⟨x,by simp,h1⟩
   ·obtain ⟨u,a,b⟩:=ih h2 y hy
    exact ⟨u,by simp[a],b⟩
  ·cases hc'
theorem qR {place:Nat->Option (Nat×Nat)} {l:List (Nat×Operand)} {ps:List (Nat×Nat×NOpd)} (hc:eP place l=some ps):∀y∈ps.map (fun p=>p.2.2),∃x∈l.map (·.2),aC x=some y:=by
 induction l generalizing ps with
 |nil=>cases hc;simp
 |cons x l ih=>
  have hc':(match place x.1,aC x.2,eP place l with
   |some p,some x,some l=>aq p.1 fun o=>aq p.2 fun n=>some ((o,n,x)::l)
   |_,_,_=>none)=some ps:=hc
  split at hc'
  ·rename_i p z m h1 h2 h3
   simp only[ag] at hc'
   cases hc'
   intro y hy
   rcases List.mem_cons.1 hy with rfl|hy
   ·exact ⟨x.2,by simp,h2⟩
   ·obtain ⟨u,a,b⟩:=ih h3 y hy
    exact ⟨u,List.mem_cons_of_mem _ a,b⟩
  ·cases hc'
theorem lg {x:Option Operand} {y:Option NOpd} (hc:nN x=some y):∀z∈xV y,∃u∈x.toList,aC u=some z:=by
 cases x with
 |none=>cases hc;simp[xV]
 |some x=>
  have hc':(match aC x with|some x=>some (some x)|none=>none)=some y:=hc
  split at hc'
  ·rename_i z hz;cases hc';simp[xV,hz]
  ·cases hc'
theorem Gf (x:Operand) {n:NOp} (hc:ap P (.move x)=some n):Sub n (.move x):=by
 replace hc:gV x=some n:=hc
 unfold gV at hc
 repeat' split at hc
 all_goals first
  |(cases hc;done)
  |(cases hc;simp_all [Sub,opsOf,Op.operands];done)
theorem xH (x:Operand) {n:NOp} (hc:ap P (.assign x)=some n):Sub n (.assign x):=by
 replace hc:gV x=some n:=hc
 unfold gV at hc
 repeat' split at hc
 all_goals first
  |(cases hc;done)
  |(cases hc;simp_all [Sub,opsOf,Op.operands];done)
theorem DZ (c a b:Operand) {n:NOp} (hc:ap P (.pick c a b)=some n):Sub n (.pick c a b):=by
 replace hc:oA c a b=some n:=hc
 unfold oA at hc
 repeat' split at hc
 all_goals first
  |(cases hc;done)
  |(cases hc;simp_all [Sub,opsOf,Op.operands];done)
theorem HD (T:TypeId) (x:Operand) {n:NOp} (hc:ap P (.box T x)=some n):Sub n (.box T x):=by
 replace hc:xU T x=some n:=hc
 unfold xU at hc
 repeat' split at hc
 all_goals first
  |(cases hc;done)
  |(rw[ag] at hc;cases hc;simp_all [Sub,opsOf,Op.operands];done)
theorem CL (T:TypeId) (x:Operand) {n:NOp} (hc:ap P (.load T x)=some n):Sub n (.load T x):=by
 replace hc:pV P T x=some n:=hc
 unfold pV at hc
 repeat' split at hc
 all_goals first
  |(cases hc;done)
  |(cases hc;simp_all [Sub,opsOf,Op.operands];done)
theorem BA (T:TypeId) (a x:Operand) {n:NOp} (hc:ap P (.store T a x)=some n):Sub n (.store T a x):=by
 replace hc:kK P T a x=some n:=hc
 unfold kK at hc
 repeat' split at hc
 all_goals first
  |(cases hc;done)
  |(cases hc;simp_all [Sub,opsOf,Op.operands];done)
theorem sY (x:Operand) {n:NOp} (hc:ap P (.nilCheck x)=some n):Sub n (.nilCheck x):=by
 replace hc:eN x=some n:=hc
 unfold eN at hc
 repeat' split at hc
 all_goals first
  |(cases hc;done)
  |(cases hc;simp_all [Sub,opsOf,Op.operands];done)
theorem CG (op:BinOp) (T:TypeId) (x y:Operand) (T2:TypeId) {n:NOp} (hc:ap P (.binOp op T x y T2)=some n):Sub n (.binOp op T x y T2):=by
 replace hc:yL P op T x y=some n:=hc
 unfold yL at hc
 repeat' split at hc
 all_goals first
  |(cases hc;done)
  |(cases hc;simp_all [Sub,opsOf,Op.operands];done)
  |(replace hc:=(aB hc).2;cases hc;simp_all [Sub,opsOf,Op.operands];done)
  |(cases hb:(cZ x||cZ y)<;>rw[hb] at hc<;>cases hc<;>simp_all [Sub,opsOf,Op.operands];done)
  |(replace hc:=jZ hc;cases hc;done)
  |(replace hc:=jZ hc;cases hc;simp_all [Sub,opsOf,Op.operands];done)
theorem Fl (op:UnOp) (T:TypeId) (x:Operand) {n:NOp} (hc:ap P (.unOp op T x)=some n):Sub n (.unOp op T x):=by
 replace hc:K1 op x=some n:=hc
 unfold K1 at hc
 repeat' split at hc
 all_goals first
  |(cases hc;done)
  |(cases hc;simp_all [Sub,opsOf,Op.operands];done)
theorem lJ (T:TypeId) (x:Operand) {n:NOp} (hc:ap P (.makeInterface T x)=some n):Sub n (.makeInterface T x):=by
 replace hc:xw P T x=some n:=hc
 unfold xw at hc
 repeat' split at hc
 all_goals first
  |(cases hc;done)
  |(rw[ag] at hc;cases hc;simp_all [Sub,opsOf,Op.operands];done)
theorem qm (T:TypeId) (l c:Operand) {n:NOp} (hc:ap P (.makeSlice T l c)=some n):Sub n (.makeSlice T l c):=by
 replace hc:fY P T l c=some n:=hc
 unfold fY at hc
 repeat' split at hc
 all_goals first
  |(cases hc;done)
  |(replace hc:=(aB hc).2;rw[ag] at hc;cases hc;simp_all [Sub,opsOf,Op.operands];done)
theorem qk (s:TypeId) (x:Operand) (f:Nat) {n:NOp} (hc:ap P (.fieldAddr s x f)=some n):Sub n (.fieldAddr s x f):=by
 replace hc:eu P s x f=some n:=hc
 unfold eu at hc
 repeat' split at hc
 all_goals first
  |(cases hc;done)
  |(replace hc:=(aB hc).2;rw[ag] at hc;cases hc;simp_all [Sub,opsOf,Op.operands];done)
theorem BH (s:TypeId) (x:Operand) (f:Nat) {n:NOp} (hc:ap P (.field s x f)=some n):Sub n (.field s x f):=by
 replace hc:kw P s x f=some n:=hc
 unfold kw at hc
 repeat' split at hc
 all_goals first
  |(cases hc;done)
  |(rw[ag] at hc;cases hc;simp_all [Sub,opsOf,Op.operands];done)
theorem qz (T:TypeId) (x i:Operand) {n:NOp} (hc:ap P (.indexAddr T x i)=some n):Sub n (.indexAddr T x i):=by
 replace hc:eq P T x i=some n:=hc
 unfold eq at hc
 repeat' split at hc
 all_goals first
  |(cases hc;done)
  |(cases hc;simp_all [Sub,opsOf,Op.operands];done)
  |(rw[ag] at hc;cases hc;simp_all [Sub,opsOf,Op.operands];done)
theorem Bq (T:TypeId) (x i:Operand) {n:NOp} (hc:ap P (.index T x i)=some n):Sub n (.index T x i):=by
 replace hc:kV P T x i=some n:=hc
 unfold kV at hc
 repeat' split at hc
 all_goals first
  |(cases hc;done)
  |(cases hc;simp_all [Sub,opsOf,Op.operands];done)
  |(rw[ag] at hc;cases hc;simp_all [Sub,opsOf,Op.operands];done)
theorem xM (T:TypeId) (x i:Operand) (ok:Bool) {n:NOp} (hc:ap P (.lookup T x i ok)=some n):Sub n (.lookup T x i ok):=by
 replace hc:iD P T x i ok=some n:=hc
 unfold iD at hc
 repeat' split at hc
 all_goals first
  |(cases hc;done)
  |(cases hc;simp_all [Sub,opsOf,Op.operands];done)
theorem qI (T:TypeId) (m k x:Operand) {n:NOp} (hc:ap P (.mapUpdate T m k x)=some n):Sub n (.mapUpdate T m k x):=by
 replace hc:bH P T m k x=some n:=hc
 unfold bH at hc
 repeat' split at hc
 all_goals first
  |(cases hc;done)
  |(cases hc;simp_all [Sub,opsOf,Op.operands];done)
theorem wq (T:TypeId) (m k x:Operand) {n:NOp} (hc:ap P (.insert T m k x)=some n):Sub n (.insert T m k x):=by
 replace hc:bH P T m k x=some n:=hc
 unfold bH at hc
 repeat' split at hc
 all_goals first
  |(cases hc;done)
  |(cases hc;simp_all [Sub,opsOf,Op.operands];done)
theorem pm (x:Operand) (X T:TypeId) {n:NOp} (hc:ap P (.typeAssert x X T true)=some n):Sub n (.typeAssert x X T true):=by
 replace hc:iK P T x=some n:=hc
 unfold iK at hc
 repeat' split at hc
 all_goals first
  |(cases hc;done)
  |(rw[ag] at hc;cases hc;simp_all [Sub,opsOf,Op.operands];done)
theorem uX (x:Operand) (i:Nat) {n:NOp} (hc:ap P (.extract x i)=some n):Sub n (.extract x i):=by
 replace hc:fN x i=some n:=hc
 unfold fN at hc
 repeat' split at hc
 all_goals first
  |(cases hc;done)
  |(rw[ag] at hc;cases hc;simp_all [Sub,opsOf,Op.operands];done)
theorem By (x:Operand) {n:NOp} (hc:ap P (.panic x)=some n):Sub n (.panic x):=by
 replace hc:kA x=some n:=hc
 unfold kA at hc
 repeat' split at hc
 all_goals first
  |(cases hc;done)
  |(cases hc;simp_all [Sub,opsOf,Op.operands];done)
theorem Dq {src dst:Nat} {x:Operand} {y:NOpd} {n:NOp} (hx:aC x=some y) (hc:hJ P src dst y=some n):Sub n (.convert src dst x):=by
 have key:opsOf n= [y]:=by
  unfold hJ at hc
  repeat' split at hc
  all_goals first
   |(cases hc;done)
   |(cases hc;rfl)
   |(replace hc:=ma hc;cases hc;rfl)
   |(rw[ag] at hc;cases hc;rfl)
   |(replace hc:=(aB hc).2;cases hc;rfl)
 intro z hz
 rw[key] at hz
 simp at hz
 subst hz
 exact ⟨x,by simp[Op.operands],hx⟩
theorem vK {b:Builtin} {args:List NOpd} {ts:List TypeId} {n:NOp} (hc:dC P b args ts=some n):∀y∈opsOf n,y∈args:=by
 unfold dC at hc
 repeat' split at hc
 all_goals first
  |(cases hc;done)
  |(cases hc;simp[opsOf];done)
  |(rw[ag] at hc;cases hc;simp[opsOf];done)
  |(replace hc:=(aB hc).2;rw[ag] at hc;cases hc;simp[opsOf];done)
theorem Lq {op:Op} {n:NOp} (hc:ap P op=some n):Sub n op:=by
 cases op with
 |move x=>exact Gf x hc
 |assign x=>exact xH x hc
 |pick c a b=>exact DZ c a b hc
 |alloc T=>
  replace hc:kT P T=some n:=hc
  unfold kT at hc
  split at hc
  ·rw[ag] at hc;cases hc;intro y hy;cases hy
  ·cases hc
 |box T x=>exact HD T x hc
 |build T ps=>
  replace hc:kr P T ps.toList=some n:=hc
  unfold kr at hc
  repeat' split at hc
  all_goals first
   |(cases hc;done)
   |(rename_i l hl;cases hc;intro y hy;obtain ⟨u,a,b⟩:=qR hl y hy;exact ⟨u,by simpa [Op.operands] using a,b⟩)
 |buildSlice T len ps=>
  replace hc:dw P T len ps.toList=some n:=hc
  unfold dw at hc
  repeat' split at hc
  all_goals first
   |(cases hc;done)
   |(rename_i l hl;replace hc:=(aB hc).2;rw[iz,ag,ag] at hc;cases hc;intro y hy;obtain ⟨u,a,b⟩:=qR hl y hy;exact ⟨u,by simpa [Op.operands] using a,b⟩)
 |load T x=>exact CL T x hc
 |store T a x=>exact BA T a x hc
 |nilCheck x=>exact sY x hc
 |binOp op T x y T2=>exact CG op T x y T2 hc
 |unOp op T x=>exact Fl op T x hc
 |convert src dst x=>
  replace hc:pJ P src dst x=some n:=hc
  unfold pJ at hc
  split at hc
  ·rename_i y hy;exact Dq hy hc
  ·cases hc
 |makeInterface T x=>exact lJ T x hc
 |makeFunc fn first caps=>
  cases fn with
  |func f=>
   replace hc:po f first.toList caps.toList=some n:=hc
   unfold po at hc
   split at hc
   ·rename_i l h1 h2
    rw[ag] at hc;cases hc
    intro y hy
    obtain ⟨u,a,b⟩:=pk h2 y hy
    exact ⟨u,by simp[Op.operands,h1,a],b⟩
   ·cases hc
  |_=>have hc:(none:Option NOp)=some n:=hc;cases hc
 |makeMap T r=>
  cases r with
  |none=>cases hc;intro y hy;cases hy
  |some r=>have hc:(none:Option NOp)=some n:=hc;cases hc
 |makeSlice T l c=>exact qm T l c hc
 |slice T x lo hi mx=>
  cases mx with
  |none=>
   replace hc:kB P T x lo hi=some n:=hc
   unfold kB at hc
   split at hc
   ·rename_i hT hx hl hh
    cases hc
    intro y hy
    simp only[opsOf,Q9,List.mem_append] at hy
    rcases hy with rfl|hy|hy
    ·exact ⟨x,by simp[Op.operands],hx⟩
    ·obtain ⟨u,a,b⟩:=lg hl y hy;exact ⟨u,by simp only[Op.operands];simp at a ⊢;simp[a],b⟩
    ·obtain ⟨u,a,b⟩:=lg hh y hy;exact ⟨u,by simp only[Op.operands];simp at a ⊢;simp[a],b⟩
   ·rename_i hT hx hl hh
    split at hc
    ·cases hc
     intro y hy
     simp only[opsOf,Q9,List.mem_append] at hy
     rcases hy with rfl|hy|hy
     ·exact ⟨x,by simp[Op.operands],hx⟩
     ·obtain ⟨u,a,b⟩:=lg hl y hy;exact ⟨u,by simp only[Op.operands];simp at a ⊢;simp[a],b⟩
     ·obtain ⟨u,a,b⟩:=lg hh y hy;exact ⟨u,by simp only[Op.operands];simp at a ⊢;simp[a],b⟩
    ·cases hc
   ·cases hc
  |some mx=>
   cases lo with
   |none=>have hc:(none:Option NOp)=some n:=hc;cases hc
   |some lo=>
    cases hi with
    |none=>have hc:(none:Option NOp)=some n:=hc;cases hc
    |some hi=>
     replace hc:iw P T x lo hi mx=some n:=hc
     unfold iw at hc
     split at hc
     ·rename_i hT hx hl hh hm
      split at hc
      ·cases hc
       intro y hy
       simp only[opsOf,Q9,Q8,or_false] at hy
       rcases hy with rfl|rfl|rfl|rfl
       ·exact ⟨x,by simp[Op.operands],hx⟩
       ·exact ⟨lo,by simp[Op.operands],hl⟩
       ·exact ⟨hi,by simp[Op.operands],hh⟩
       ·exact ⟨mx,by simp[Op.operands],hm⟩
      ·cases hc
     ·cases hc
 |fieldAddr s x f=>exact qk s x f hc
 |field s x f=>exact BH s x f hc
 |indexAddr T x i=>exact qz T x i hc
 |index T x i=>exact Bq T x i hc
 |lookup T x i ok=>exact xM T x i ok hc
 |mapUpdate T m k x=>exact qI T m k x hc
 |insert T m k x=>exact wq T m k x hc
 |typeAssert x X T ok=>
  cases ok with
  |false=>have hc:(none:Option NOp)=some n:=hc;cases hc
  |true=>exact pm x X T hc
 |extract x i=>exact uX x i hc
 |panic x=>exact By x hc
 |call c=>
  obtain ⟨callee,args,ats⟩:=c
  cases callee with
  |value f=>
   replace hc:oY f args.toList=some n:=hc
   unfold oY at hc
   split at hc
   ·rename_i hf hl
    cases hc
    intro y hy
    rcases List.mem_cons.1 hy with rfl|hy
    ·exact ⟨f,by simp[Op.operands,Call.operands],hf⟩
    ·obtain ⟨u,a,b⟩:=pk hl y hy
     exact ⟨u,by simp[Op.operands,Call.operands];right;simpa using a,b⟩
   ·cases hc
  |builtin b=>
   replace hc:gb P b args.toList ats.toList=some n:=hc
   unfold gb at hc
   split at hc
   ·rename_i l hl
    intro y hy
    obtain ⟨u,a,b⟩:=pk hl y (vK hc y hy)
    exact ⟨u,by simp[Op.operands,Call.operands];simpa using a,b⟩
   ·cases hc
  |invoke r m=>have hc:(none:Option NOp)=some n:=hc;cases hc
 |defer c=>
  obtain ⟨callee,args,ats⟩:=c
  cases callee with
  |value f=>
   replace hc:fT f args.toList=some n:=hc
   unfold fT at hc
   split at hc
   ·rename_i y h1 hf
    cases hc
    intro z hz
    simp only[opsOf,List.mem_singleton] at hz
    subst hz
    exact ⟨f,by simp[Op.operands,Call.operands],hf⟩
   ·cases hc
  |builtin b=>have hc:(none:Option NOp)=some n:=hc;cases hc
  |invoke r m=>have hc:(none:Option NOp)=some n:=hc;cases hc
 |_=>have hc:(none:Option NOp)=some n:=hc;cases hc
theorem GG {x:Operand} {k:Nat} (hc:aC x=some (.tmp (D4.of k))):x= .tmp k:=by
 cases x with
 |tmp j=>
  have hc':(D4.ofNat j fun t=>some (NOpd.tmp t))=some (.tmp (D4.of k)):=hc
  rw[D4.ofNat_eq] at hc'
  injection hc' with hc'
  injection hc' with hc'
  rw[D4.of_inj hc']
 |const v=>
  have hc':(match ofValue v with|some v=>some (NOpd.const v)|none=>none)=some (.tmp (D4.of k)):=hc
  split at hc'<;>cases hc'
 |func f=>
  have hc':(aq f fun f=>some (NOpd.const (.fn f [])))=some (.tmp (D4.of k)):=hc
  rw[ag] at hc';cases hc'
 |global g=>
  have hc':(cond (Nat.ble (Nat.succ g) NG) (D4.ofNat g fun g=>some (NOpd.const (.ptr g 0))) none)=some (.tmp (D4.of k)):=hc
  rw[D4.ofNat_eq] at hc'
  cases hb:Nat.ble (Nat.succ g) NG<;>rw[hb] at hc'<;>cases hc'
theorem Hh {op:Op} {n:NOp} (hc:ap P op=some n) {k:Nat} (hk:NOpd.tmp (D4.of k)∈opsOf n):Operand.tmp k∈op.operands.toList:=by
 obtain ⟨x,h1,h2⟩:=Lq hc _ hk
 rw[←GG h2];exact h1
end
end Nm
namespace Nm
open Go
theorem xA {b:Bool} {m:String} (h:CheckCode.require b m= .ok ()):b=true:=by
 unfold CheckCode.require at h
 cases b with
 |true=>rfl
 |false=>cases h
theorem bV {α β:Type} {x:Except String α} {f:α->Except String β} {r:β} (h:(x>>=f)= .ok r):∃a,x= .ok a/\f a= .ok r:=by
 cases x with
 |error e=>cases h
 |ok a=>exact ⟨a,rfl,h⟩
theorem sv {α:Type} {f:α->Except String PUnit}:∀{l:List α},l.forM f= .ok ()->∀a∈l,f a= .ok ():=by
 intro l
 induction l with
 |nil=>intro _ a ha;cases ha
 |cons b l ih=>
  intro h a ha
  have h':(f b>>=fun _=>l.forM f)= .ok ():=h
  obtain ⟨u,h1,h2⟩:=bV h'
  rcases List.mem_cons.1 ha with rfl|ha
  ·exact h1
  ·exact ih h2 a ha
theorem uB {α:Type} {f:String->String} {x:Except String α} {r:α} (h:x.mapError f= .ok r):x= .ok r:=by
 cases x with
 |error e=>cases h
 |ok a=>exact h
theorem NF {α:Type} (f:α->Except String PUnit) (l:List α):Array.forM f l.toArray=l.forM f:=by simp
structure RegOK (P:Program) (fn:Func) (ops:Array Oper):Prop where
 dst:∀(i:Nat) (o:Oper) (d:Nat),ops[i]? =some o->o.dst=some d->d<fn.ntmps
 edge:∀(i:Nat) (o:Oper) (e:Edge),ops[i]? =some o->e∈o.after.toList->Region.binds .any e=true->e.on<i
 guard:∀(i:Nat) (o:Oper) (j:Nat) (b:Bool),ops[i]? =some o->o.guard=some (j,b)->(∃e∈o.after.toList,e.on=j/\Region.binds .any e=true)/\∃(oj:Oper) (d:Nat),ops[j]? =some oj/\oj.dst=some d
 tmps:Region.temporariesOk ops (Region.before ops)=true
section
variable {P:Program} {fn:Func} {bl la:List Nat}
theorem EH {a b:Code} (h:CheckCode.code P fn bl la (.seq a b)= .ok ()):CheckCode.code P fn bl la a= .ok ()/\CheckCode.code P fn bl la b= .ok ():=by
 unfold CheckCode.code at h
 obtain ⟨_,h1,h2⟩:=bV h
 exact ⟨h1,h2⟩
theorem Cw {c:Operand} {a b:Code} (h:CheckCode.code P fn bl la (.cond c a b)= .ok ()):CheckCode.code P fn bl la a= .ok ()/\CheckCode.code P fn bl la b= .ok ():=by
 unfold CheckCode.code at h
 obtain ⟨_,_,h⟩:=bV h
 obtain ⟨_,h1,h2⟩:=bV h
 exact ⟨h1,h2⟩
theorem x9 {id:Nat} {a:Code} (h:CheckCode.code P fn bl la (.block id a)= .ok ()):CheckCode.code P fn (id::bl) la a= .ok ():=by
 unfold CheckCode.code at h;exact h
theorem Ck {a:Code} (h:CheckCode.code P fn bl la (.loop a)= .ok ()):CheckCode.code P fn bl la a= .ok ():=by
 unfold CheckCode.code at h;exact h
theorem wL {f:Operand} {ps:Array Nat} {a b:Code} (h:CheckCode.code P fn bl la (.rangeFunc f ps a b)= .ok ()):
 (∀t∈ps.toList,t<fn.ntmps)/\CheckCode.code P fn [] [] a= .ok ()/\CheckCode.code P fn bl la b= .ok ():=by
 unfold CheckCode.code at h
 obtain ⟨_,_,h⟩:=bV h
 obtain ⟨_,h1,h⟩:=bV h
 obtain ⟨_,_,h⟩:=bV h
 obtain ⟨_,h2,h3⟩:=bV h
 refine ⟨fun t ht=> ?_,h2,h3⟩
 rw[show ps=ps.toList.toArray by simp,NF] at h1
 have:=xA (sv h1 t ht)
 simpa using this
theorem mT {id:Nat} {ops:Array Oper} {draw:Bool} (h:CheckCode.code P fn bl la (.region id ops draw)= .ok ()):RegOK P fn ops:=by
 unfold CheckCode.code at h
 unfold CheckCode.region at h
 obtain ⟨_,h1,h⟩:=bV h
 obtain ⟨_,_,h⟩:=bV h
 have hok:=xA h
 unfold Region.ok at hok
 simp only[Bool.and_eq_true] at hok
 obtain ⟨⟨⟨⟨hedge,htmp⟩,_⟩,_⟩,_⟩:=hok
 have hmem:∀i o,ops[i]? =some o->(o,i)∈ops.zipIdx/\(o,i)∈ops.toList.zipIdx:=fun i o ho=>by
  have hlt:=(Array.getElem?_eq_some_iff.1 ho).1
  have he:=(Array.getElem?_eq_some_iff.1 ho).2
  constructor
  ·rw[Array.mem_zipIdx_iff_getElem?];exact ho
  ·rw[List.mem_zipIdx_iff_getElem?];simpa using ho
 refine ⟨?_, ?_, ?_,htmp⟩
 ·intro i o d ho hd
  have:=sv h1 (o,i) (hmem i o ho).2
  dsimp only at this
  rw[hd] at this
  obtain ⟨_,h2,_⟩:=bV this
  have:=xA h2
  simpa using this
 ·intro i o e ho he hb
  rw[Array.all_eq_true'] at hedge
  have:=hedge (o,i) (hmem i o ho).1
  simp only[Bool.and_eq_true] at this
  have h2:=this.1
  rw[Array.all_eq_true'] at h2
  have h3:=h2 e (by simpa using he)
  rw[Bool.or_eq_true] at h3
  rcases h3 with h3|h3
  ·simpa using h3
  ·unfold Region.binds at hb
   split at h3
   ·rename_i hg;rw[hg] at hb;cases hb
   ·cases h3
 ·intro i o j b ho hg
  rw[Array.all_eq_true'] at hedge
  have:=hedge (o,i) (hmem i o ho).1
  simp only[Bool.and_eq_true] at this
  have h2:=this.2
  rw[hg] at h2
  simp only[Bool.and_eq_true] at h2
  obtain ⟨h3,h4⟩:=h2
  rw[Array.any_eq_true'] at h3
  obtain ⟨e,e1,e2⟩:=h3
  simp only[Bool.and_eq_true,beq_iff_eq] at e2
  refine ⟨⟨e,by simpa using e1,e2.1,e2.2⟩, ?_⟩
  rw[Option.isSome_iff_exists] at h4
  obtain ⟨d,hd⟩:=h4
  rw[Option.bind_eq_some_iff] at hd
  obtain ⟨oj,q1,q2⟩:=hd
  exact ⟨oj,d,q1,q2⟩
end
theorem Bh {α:Type} {p:List α->Prop} (h0:p []) (h1:∀l a,p l->p (l++ [a])):∀l,p l:=by
 intro l
 have h:p l.reverse.reverse:=by
  induction l.reverse with
  |nil=>exact h0
  |cons a m ih=>rw[List.reverse_cons];exact h1 _ _ ih
 simpa using h
def dV {α β:Type} (g:Array β->α->β) (l:List α):Array β:=l.foldl (fun acc a=>acc.push (g acc a)) #[]
theorem cX {α β:Type} (g:Array β->α->β) (l:List α) (a:α):dV g (l++ [a])=(dV g l).push (g (dV g l) a):=by simp[dV]
theorem qn {α β:Type} (g:Array β->α->β) (l:List α):(dV g l).size=l.length:=by
 induction l using Bh with
 |h0=>rfl
 |h1 l a ih=>rw[cX];simp[ih]
theorem lF {α β:Type} (g:Array β->α->β) (l:List α) (i:Nat) (a:α) (h:l[i]? =some a):
 ∃acc:Array β,(dV g l)[i]? =some (g acc a)/\acc.size=i/\∀j,j<i->acc[j]? =(dV g l)[j]? :=by
 induction l using Bh with
 |h0=>simp at h
 |h1 l b ih=>
  have hs:=qn g l
  by_cases hi:i<l.length
  ·rw[List.getElem?_append_left hi] at h
   obtain ⟨acc,h1,h2,h3⟩:=ih h
   refine ⟨acc, ?_,h2,fun j hj=> ?_⟩
   ·rw[cX,Array.getElem?_push,Q4 (by omega)];exact h1
   ·rw[cX,Array.getElem?_push,Q4 (by omega)];exact h3 j hj
  ·have hlt:=(List.getElem?_eq_some_iff.1 h).1
   simp at hlt
   have hil:i=l.length:=by omega
   subst hil
   have:b=a:=by simpa using h
   subst this
   refine ⟨dV g l, ?_,hs,fun j hj=> ?_⟩
   ·rw[cX,Array.getElem?_push,Q5 hs.symm]
   ·rw[cX,Array.getElem?_push,Q4 (by omega)]
def vR (ops:Array Oper) (i:Nat):Nat:=(Region.before ops).getD i 0
theorem mE (ops:Array Oper):Region.before ops=dV (fun acc (o:Oper)=>o.after.foldl (fun s e=>if Region.binds .any e then s|||2 ^ e.on|||acc.getD e.on 0 else s) 0) ops.toList:=by
 unfold Region.before dV
 rw[←Array.foldl_toList]
theorem F8 (f:Nat->Nat) (b:Edge->Bool) (j:Nat):∀(l:List Edge) (s:Nat),(l.foldl (fun s e=>if b e then s|||2 ^ e.on|||f e.on else s) s).testBit j=true->
 s.testBit j=true∨∃e∈l,b e=true/\(e.on=j∨(f e.on).testBit j=true):=by
 intro l
 induction l with
 |nil=>intro s h;exact .inl h
 |cons e l ih=>
  intro s h
  rw[List.foldl_cons] at h
  rcases ih _ h with h|⟨e',h1,h2,h3⟩
  ·by_cases hb:b e=true
   ·rw[Q5 hb] at h
    rw[Nat.testBit_or,Nat.testBit_or,Bool.or_eq_true,Bool.or_eq_true] at h
    rcases h with (h|h)|h
    ·exact .inl h
    ·rw[Nat.testBit_two_pow] at h
     exact .inr ⟨e,by simp,hb,.inl (by simpa using h)⟩
    ·exact .inr ⟨e,by simp,hb,.inr h⟩
   ·rw[Q4 hb] at h;exact .inl h
  ·exact .inr ⟨e',by simp[h1],h2,h3⟩
theorem Hf {ops:Array Oper} {i:Nat} {o:Oper} (ho:ops[i]? =some o) {j:Nat} (h:(vR ops i).testBit j=true):
 ∃e∈o.after.toList,Region.binds .any e=true/\(e.on=j∨(e.on<i/\(vR ops e.on).testBit j=true)):=by
 unfold vR at h
 rw[mE] at h
 obtain ⟨acc,h1,h2,h3⟩:=lF (fun acc (o:Oper)=>o.after.foldl (fun s e=>if Region.binds .any e then s|||2 ^ e.on|||acc.getD e.on 0 else s) 0) ops.toList i o (by simpa using ho)
 rw[Array.getD_eq_getD_getElem?,h1] at h
 simp only[Option.getD_some] at h
 rw[←Array.foldl_toList] at h
 rcases F8 (fun k=>acc.getD k 0) (Region.binds .any) j o.after.toList 0 h with h|⟨e,e1,e2,e3⟩
 ·simp at h
 ·refine ⟨e,e1,e2, ?_⟩
  rcases e3 with e3|e3
  ·exact .inl e3
  ·right
   by_cases hlt:e.on<i
   ·refine ⟨hlt, ?_⟩
    unfold vR
    rw[mE,Array.getD_eq_getD_getElem?,←h3 _ hlt,←Array.getD_eq_getD_getElem?];exact e3
   ·rw[Array.getD_eq_getD_getElem?,Array.getElem?_eq_none (by omega)] at e3
    simp at e3
def dP (ops:Array Oper) (X:Nat->Prop) (i:Nat):Prop:=∀o,ops[i]? =some o->∀e∈o.after.toList,Region.binds .any e=true->X e.on
theorem Jo {P:Program} {fn:Func} {ops:Array Oper} (hr:RegOK P fn ops) {X:Nat->Prop} (hX:∀i,X i->dP ops X i):∀(i:Nat) (o:Oper),ops[i]? =some o->dP ops X i->∀j,(vR ops i).testBit j=true->X j:=by
 intro i
 induction i using Nat.strongRecOn with
 |_ i ih=>
  intro o ho he j hj
  obtain ⟨e,e1,e2,e3⟩:=Hf ho hj
  have hx:=he o ho e e1 e2
  rcases e3 with rfl|⟨e3,e4⟩
  ·exact hx
  ·have hlt:=hr.edge i o e ho e1 e2
   have hsz:e.on<ops.size:=Nat.lt_trans hlt (Array.getElem?_eq_some_iff.1 ho).1
   exact ih e.on hlt ops[e.on] (Array.getElem?_eq_getElem hsz) (hX _ hx) j e4
def ck (ops:Array Oper) (listed:Array Bool):List Nat:=
 (List.range ops.size).filter fun i=> !listed.getD i true&&((ops[i]?).map (·.after.all fun e=> !Region.binds .any e||listed.getD e.on false)).getD false
theorem HR (ops:Array Oper) (t:Nat) (listed:Array Bool):Region.linearise.go .any ops 0 t listed []= []:=by simp[Region.linearise.go]
theorem Jx (ops:Array Oper):∀(fuel t:Nat) (listed:Array Bool) (acc:List Nat),Region.linearise.go .any ops fuel t listed acc=acc.reverse++Region.linearise.go .any ops fuel t listed []:=by
 intro fuel
 induction fuel with
 |zero=>intro t listed acc;simp[Region.linearise.go]
 |succ fuel ih=>
  intro t listed acc
  simp only[Region.linearise.go]
  split
  ·rename_i i _
   rw[ih _ _ (i::acc),ih _ _ [i]]
   simp
  ·simp
theorem Gw (ops:Array Oper) (fuel t:Nat) (listed:Array Bool):
 (ck ops listed= []/\Region.linearise.go .any ops (fuel+1) t listed []= [])∨
 ∃i t',i∈ck ops listed/\Region.linearise.go .any ops (fuel+1) t listed []=i::Region.linearise.go .any ops fuel t' (listed.setIfInBounds i true) []:=by
 simp only[Region.linearise.go]
 change (ck ops listed= []/\(match (ck ops listed)[t % (ck ops listed).length]? with
  |some i=>Region.linearise.go .any ops fuel (t / (ck ops listed).length) (listed.setIfInBounds i true) [i]
  |none=> [].reverse)= [])∨∃i t',i∈ck ops listed/\(match (ck ops listed)[t % (ck ops listed).length]? with
  |some i=>Region.linearise.go .any ops fuel (t / (ck ops listed).length) (listed.setIfInBounds i true) [i]
  |none=> [].reverse)=i::Region.linearise.go .any ops fuel t' (listed.setIfInBounds i true) []
 cases hi:(ck ops listed)[t % (ck ops listed).length]? with
 |none=>
  left
  refine ⟨?_,rfl⟩
  cases hr:ck ops listed with
  |nil=>rfl
  |cons x xs=>
   rw[hr] at hi
   have hlt:t % (x::xs).length<(x::xs).length:=Nat.mod_lt _ (by simp)
   simp at hi
   simp at hlt
   omega
 |some i=>
  right
  refine ⟨i,t / (ck ops listed).length,List.mem_of_getElem? hi, ?_⟩
  dsimp only
  rw[Jx];simp
def jr (ops:Array Oper) (listed:Array Bool):List Nat:=(List.range ops.size).filter fun i=> !listed.getD i true
theorem HE {p q:Nat->Bool}:∀{l:List Nat},(∀i∈l,q i=true->p i=true)->∀i∈l,p i=true->q i=false->(l.filter q).length<(l.filter p).length:=by
 intro l
 induction l with
 |nil=>intro _ i hi;cases hi
 |cons a l ih=>
  intro hpq i hi hp hq
  have hle:(l.filter q).length<=(l.filter p).length:=by
   clear ih hi
   have hpq':∀i∈l,q i=true->p i=true:=fun i hi=>hpq i (by simp[hi])
   clear hpq
   induction l with
   |nil=>simp
   |cons b l ih2=>
    have:=ih2 fun i hi=>hpq' i (by simp[hi])
    rw[List.filter_cons,List.filter_cons]
    by_cases hqb:q b=true
    ·rw[Q5 hqb,Q5 (hpq' b (by simp) hqb)];simpa using this
    ·rw[Q4 hqb]
     split
     ·simp;omega
     ·exact this
  rcases List.mem_cons.1 hi with rfl|hi
  ·rw[List.filter_cons,List.filter_cons,Q5 hp,Q4 (by simp[hq])]
   simp;omega
  ·have:=ih (fun j hj=>hpq j (by simp[hj])) i hi hp hq
   rw[List.filter_cons,List.filter_cons]
   by_cases hqa:q a=true
   ·rw[Q5 hqa,Q5 (hpq a (by simp) hqa)];simpa using this
   ·rw[Q4 hqa]
    split
    ·simp;omega
    ·exact this
theorem xt {P:Program} {fn:Func} {ops:Array Oper} (hr:RegOK P fn ops) {listed:Array Bool} (hs:listed.size=ops.size) (h:ck ops listed= []):∀i,i<ops.size->listed[i]? =some true:=by
 intro i
 induction i using Nat.strongRecOn with
 |_ i ih=>
  intro hi
  rw[Array.getElem?_eq_getElem (by omega)]
  cases hl:listed[i]'(by omega) with
  |true=>rfl
  |false=>
   have hm:i∈ck ops listed:=by
    unfold ck
    rw[List.mem_filter]
    refine ⟨by simpa using hi, ?_⟩
    rw[Bool.and_eq_true]
    constructor
    ·rw[Array.getD_eq_getD_getElem?,Array.getElem?_eq_getElem (by omega)];simp[hl]
    ·rw[Array.getElem?_eq_getElem hi]
     simp only[Option.map_some,Option.getD_some]
     rw[Array.all_eq_true']
     intro e he
     cases hb:Region.binds .any e with
     |false=>rfl
     |true=>
      have hlt:=hr.edge i ops[i] e (Array.getElem?_eq_getElem hi) (by simpa using he) hb
      have:=ih e.on hlt (by omega)
      rw[Array.getD_eq_getD_getElem?,this];rfl
   rw[h] at hm;cases hm
theorem CK {ops:Array Oper} {listed:Array Bool} {i:Nat} (h:i∈ck ops listed):∃o,ops[i]? =some o/\listed.getD i true=false/\∀e∈o.after.toList,Region.binds .any e=true->listed[e.on]? =some true:=by
 unfold ck at h
 rw[List.mem_filter] at h
 obtain ⟨h1,h2⟩:=h
 rw[Bool.and_eq_true] at h2
 have hi:i<ops.size:=by simpa using h1
 refine ⟨ops[i],Array.getElem?_eq_getElem hi,by simpa using h2.1,fun e he hb=> ?_⟩
 have h3:=h2.2
 rw[Array.getElem?_eq_getElem hi] at h3
 simp only[Option.map_some,Option.getD_some] at h3
 rw[Array.all_eq_true'] at h3
 have:=h3 e (by simpa using he)
 rw[hb] at this
 simp only[Bool.not_true,Bool.false_or] at this
 rw[Array.getD_eq_getD_getElem?] at this
 cases hq:listed[e.on]? with
 |none=>rw[hq] at this;cases this
 |some b=>rw[hq] at this;simp at this;rw[this]
end Nm
namespace Nm
open Go
noncomputable def aQ (d:Option D4) (v:NV) (t:Tm):Tm:=match d with|some k=>NT.put k v t|none=>t
theorem eg {R:Type} (d:Option D4) (v:NV) (t:Tm) (K:Tm->R):jI d v t K=K (aQ d v t):=by
 cases d with
 |none=>rfl
 |some k=>exact NT.set_eq _ _ _ _
def DR (ι:aU):List Dfr->List Deferred->Prop
 | [], []=>True
 | .call f cap::l,d::l'=>(∃cap',VRL ι cap cap'/\d={target:= .fn (.func f) cap'.toArray,args:=#[]})/\DR ι l l'
 | .mark id::l,d::l'=>(∃p,ι id=some p/\d={target:= .collected p.b,args:=#[]})/\DR ι l l'
 |_,_=>False
theorem DR.mono {ι ι':aU} (hι:ι.le ι'):∀{l:List Dfr} {l':List Deferred},DR ι l l'->DR ι' l l'
 | [], [],_=>trivial
 | [],_::_,h=>h
 | .call _ _::_, [],h=>h
 | .mark _::_, [],h=>h
 | .call _ _::_,_::_,⟨⟨c,h1,h2⟩,h3⟩=>⟨⟨c,h1.mono hι,h2⟩,DR.mono hι h3⟩
 | .mark _::_,_::_,⟨⟨p,h1,h2⟩,h3⟩=>⟨⟨p,hι _ _ h1,h2⟩,DR.mono hι h3⟩
def yj (ι:aU) (kind:CallKind) (cs:List Frame):Option NV->Prop
 |none=>∀b:Frame,b.kind=kind->tryRecover b cs=none
 |some v=>kind= .deferred/\∃(c:Frame) (rest:List Frame) (v':Value) (older:List PanicEntry),cs=c::rest/\c.mode= .panicking ({v:=v',recovered:=false}::older)/\VR ι v v'
theorem yj.mono {ι ι':aU} (hι:ι.le ι') {k:CallKind} {cs:List Frame} {x:Option NV} (h:yj ι k cs x):yj ι' k cs x:=by
 cases x with
 |none=>exact h
 |some v=>obtain ⟨h1,c,r,v',o,h2,h3,h4⟩:=h;exact ⟨h1,c,r,v',o,h2,h3,h4.mono hι⟩
def oQ (cs:List Frame) (x:Option NV) (cs':List Frame) (x':Option NV):Prop:=
 (cs'=cs/\x'=x)∨(x'=none/\x≠none/\∃(c:Frame) (rest:List Frame) (v':Value) (older:List PanicEntry),cs=c::rest/\c.mode= .panicking ({v:=v',recovered:=false}::older)/\
  cs'={c with mode:= .panicking ({v:=v',recovered:=true}::older)}::rest)
theorem oQ.refl (cs:List Frame) (x:Option NV):oQ cs x cs x:= .inl ⟨rfl,rfl⟩
theorem oQ.trans {a b c:List Frame} {x y z:Option NV} (h:oQ a x b y) (k:oQ b y c z):oQ a x c z:=by
 rcases h with ⟨rfl,rfl⟩|⟨rfl,h1,h2⟩
 ·exact k
 ·rcases k with ⟨rfl,rfl⟩|⟨_,k1,_⟩
  ·exact .inr ⟨rfl,h1,h2⟩
  ·exact Q3 rfl k1
theorem oQ.none {a b:List Frame} {y:Option NV} (h:oQ a none b y):b=a/\y=Option.none:=by
 rcases h with ⟨rfl,rfl⟩|⟨_,h,_⟩
 ·exact ⟨rfl,rfl⟩
 ·exact Q3 rfl h
def Pf (ι:aU):Option D4->Option Nat->Prop
 |none,r=>r=none
 |some l,r=>∃p,ι l=some p/\r=some p.b
theorem Pf.mono {ι ι':aU} (hι:ι.le ι') {l:Option D4} {r:Option Nat} (h:Pf ι l r):Pf ι' l r:=by
 cases l with
 |none=>exact h
 |some l=>obtain ⟨p,h1,h2⟩:=h;exact ⟨p,hι _ _ h1,h2⟩
structure Sd (P:Program) (ι:aU) (B:Nat) (rnd:Option D4) (dfs:List Dfr) (ctx:Option NV) (h:NH) (b:Frame) (ds:List Deferred) (cs:List Frame) (w:World):Prop where
 df:DR ι dfs ds
 cx:yj ι b.kind cs ctx
 rel:Rel P ι B h w
 base:B<=w.heap.size
 rn:Pf ι rnd b.roundOf
structure Mv (P:Program) (B:Nat) (rnd:Option D4) (b:Frame) (ι:aU) (ctx:Option NV) (h:NH) (cs:List Frame) (w:World) (ι':aU) (dfs':List Dfr) (ctx':Option NV) (h':NH) (ds':List Deferred) (cs':List Frame) (w':World):Prop where
 sd:Sd P ι' B rnd dfs' ctx' h' b ds' cs' w'
 gr:Grow ι h w ι' h' w'
 ca:oQ cs ctx cs' ctx'
theorem Mv.refl {P:Program} {B:Nat} {rnd:Option D4} {b:Frame} {ι:aU} {dfs:List Dfr} {ctx:Option NV} {h:NH} {ds:List Deferred} {cs:List Frame} {w:World} (s:Sd P ι B rnd dfs ctx h b ds cs w):
 Mv P B rnd b ι ctx h cs w ι dfs ctx h ds cs w:=⟨s,.refl _ _ _,.refl _ _⟩
theorem Mv.trans {P:Program} {B:Nat} {rnd:Option D4} {b:Frame} {ι ι1 ι2:aU} {dfs1 dfs2:List Dfr} {ctx ctx1 ctx2:Option NV} {h h1 h2:NH} {ds1 ds2:List Deferred} {cs cs1 cs2:List Frame} {w w1 w2:World}
 (x:Mv P B rnd b ι ctx h cs w ι1 dfs1 ctx1 h1 ds1 cs1 w1) (y:Mv P B rnd b ι1 ctx1 h1 cs1 w1 ι2 dfs2 ctx2 h2 ds2 cs2 w2):Mv P B rnd b ι ctx h cs w ι2 dfs2 ctx2 h2 ds2 cs2 w2:=
 ⟨y.sd,x.gr.trans y.gr,x.ca.trans y.ca⟩
inductive OpO where
 |fail
 |next (v:NV) (dfs:List Dfr) (ctx:Option NV) (h:NH)
 |pan (v:NV) (h:NH)
section
variable (P:Program) (S:cR) (self:Option D4->NC->Dyn->Res)
noncomputable def vO (dfs:List Dfr) (ctx:Option NV):CR->OpO
 | .val v _ h=> .next v dfs ctx h
 | .pan v _ h=> .pan v h
 | .fail=> .fail
noncomputable def eL (rnd:Option D4) (dfs:List Dfr) (ctx:Option NV) (h:NH):NR->OpO
 | .fail=> .fail
 | .val v=> .next v dfs ctx h
 | .mem v h=> .next v dfs ctx h
 | .call f args=>vO dfs ctx (bZ P S self f args h)
 | .yld l args=>vO dfs ctx (round self l args h)
 | .pan v=> .pan v h
 | .dfr f cap=>match rnd with|none=> .next aS (.call f cap::dfs) ctx h|some _=> .fail
 | .recov=>match rnd,ctx with
  |none,some v=> .next v dfs none h
  |none,none=> .next .nili dfs none h
  |some _,_=> .fail
noncomputable def vW (dst:Option D4) (K:Dyn->Res) (t:Tm) (dfs:List Dfr) (ctx:Option NV):OpO->Res
 | .fail=> .fail
 | .next v dfs ctx h=>K ⟨aQ dst v t,dfs,ctx,h⟩
 | .pan v h=> .mk (.pan v) ⟨t,dfs,ctx,h⟩
theorem qO (rnd:Option D4) (dst:Option D4) (K:Dyn->Res) (t:Tm) (dfs:List Dfr) (ctx:Option NV) (h:NH) (r:NR):
 pe P S self rnd dst K t dfs ctx h r=vW dst K t dfs ctx (eL P S self rnd dfs ctx h r):=by
 cases r with
 |fail=>rfl
 |val v=>exact eg dst v t fun t=>K ⟨t,dfs,ctx,h⟩
 |mem v h=>exact eg dst v t fun t=>K ⟨t,dfs,ctx,h⟩
 |call f args=>
  show nI dst K t dfs ctx (bZ P S self f args h)=vW dst K t dfs ctx (vO dfs ctx (bZ P S self f args h))
  cases bZ P S self f args h with
  |fail=>rfl
  |val v c h=>exact eg dst v t fun t=>K ⟨t,dfs,ctx,h⟩
  |pan v c h=>rfl
 |yld l args=>
  show nI dst K t dfs ctx (round self l args h)=vW dst K t dfs ctx (vO dfs ctx (round self l args h))
  cases round self l args h with
  |fail=>rfl
  |val v c h=>exact eg dst v t fun t=>K ⟨t,dfs,ctx,h⟩
  |pan v c h=>rfl
 |pan v=>rfl
 |dfr f cap=>cases rnd with|none=>exact eg dst aS t fun t=>K ⟨t,.call f cap::dfs,ctx,h⟩|some l=>rfl
 |recov=>
  cases rnd with
  |none=>
   cases ctx with
   |none=>exact eg dst .nili t fun t=>K ⟨t,dfs,none,h⟩
   |some v=>exact eg dst v t fun t=>K ⟨t,dfs,none,h⟩
  |some l=>rfl
end
def qP (P:Program) (ι:aU) (B:Nat) (h:NH) (w:World) (s:Result Next):CR->Prop
 | .fail=>True
 | .val v _ h'=>∀(c:Frame) (cs:List Frame),∃ι' v' w',VR ι' v v'/\Rel P ι' B h' w'/\B<=w'.heap.size/\Grow ι h w ι' h' w'/\
  (s= .ok (.value v') w'∨∃w1,((∃f args,s= .ok (.enter f args) w1/\Steps P (lone (Frame.enter P f args .normal) (c::cs) w1) (lone (c.finish v') cs w'))∨
   (∃l f tm x y,s= .ok (.round l f tm x y) w1/\Steps P (lone (Frame.round l f tm x y .normal) (c::cs) w1) (lone (c.finish v') cs w'))))
 | .pan v _ h'=>∀(c:Frame) (cs:List Frame),∃ι' v' w',VR ι' v v'/\Rel P ι' B h' w'/\B<=w'.heap.size/\Grow ι h w ι' h' w'/\
  ∃w1,((∃f args,s= .ok (.enter f args) w1/\Steps P (lone (Frame.enter P f args .normal) (c::cs) w1) (lone (c.raise [{v:=v',recovered:=false}]) cs w'))∨
   (∃l f tm x y,s= .ok (.round l f tm x y) w1/\Steps P (lone (Frame.round l f tm x y .normal) (c::cs) w1) (lone (c.raise [{v:=v',recovered:=false}]) cs w')))
structure CallsOK (P:Program) (S:cR) (go:Option D4->NC->Dyn->Res):Prop where
 call:∀(ι:aU) (B:Nat) (h:NH) (w:World) (f:Nat) (args:List NV) (args':List Value),Rel P ι B h w->B<=w.heap.size->VRL ι args args'->
  qP P ι B h w ((callFunc f args'.toArray).run P w) (bZ P S go f args h)
 yld:∀(ι:aU) (B:Nat) (h:NH) (w:World) (l:D4) (p:Pl) (args:List NV) (args':List Value),Rel P ι B h w->B<=w.heap.size->VRL ι args args'->ι l=some p->
  qP P ι B h w ((Instr.yield p.b args'.toArray).run P w) (round go l args h)
section
variable {P:Program} {S:cR} {self:Option D4->NC->Dyn->Res} {B:Nat} {b:Frame} {a:Act} {k:List Item} {cs:List Frame} {w:World} {ops:Array Oper}
theorem fg {ro:Option Nat} {e:Operand->Value} {o:Oper} (h:ro=none∨∀c,o.op≠.defer c):Oper.semAt ro e o=execOp e o:=by
 rcases h with rfl|h
 ·rfl
 ·exact Oper.semAt_eq _ _ _ h
theorem qF (b:Frame) (a:Act) (todo:List Item) (cs:List Frame) (x:Frame) (hx:x.kind=b.kind):tryRecover (b.atR a todo) cs=tryRecover x cs:=by
 cases cs with
 |nil=>unfold tryRecover;cases b;cases x;simp only at hx;subst hx;rfl
 |cons c r=>unfold tryRecover;cases b;cases x;simp only at hx;subst hx;rfl
theorem gf (hC:CallsOK P S self) {ι:aU} {rnd:Option D4} {dfs:List Dfr} {ctx:Option NV} {h:NH} {i:Nat} {rest:List Nat} {o:Oper} {n:NOp} {t:Tm} (ho:ops[i]? =some o) (hw:Region.wanted o (yielded ops a.tmps)=true) (hc:ap P o.op=some n) (hO:OE ι t a.eval)
 (s:Sd P ι B rnd dfs ctx h b a.defers cs w):
 match eL P S self rnd dfs ctx h (af n t h) with
 | .fail=>True
 | .next v dfs' ctx' h'=>∃(v':Value) (ι':aU) (ds':List Deferred) (cs':List Frame) (w':World),
  Steps P (lone (b.atR a (.inRegion ops (i::rest)::k)) cs w) (lone (b.atR (({a with defers:=ds'}:Act).put o.dst v') (.inRegion ops rest::k)) cs' w')/\VR ι' v v'/\Mv P B rnd b ι ctx h cs w ι' dfs' ctx' h' ds' cs' w'
 | .pan v h'=>∃(v':Value) (ι':aU) (w':World) (todo:List Item),
  Steps P (lone (b.atR a (.inRegion ops (i::rest)::k)) cs w) (lone {b.atR a todo with mode:= .panicking [{v:=v',recovered:=false}]} cs w')/\VR ι' v v'/\Mv P B rnd b ι ctx h cs w ι' dfs ctx h' a.defers cs w':=by
 have hop:=Fh (o:=o) hc hO s.rel s.base
 have hg:=stepGR_op (P:=P) (b:=b) (k:=k) (cs:=cs) (w:=w) (rest:=rest) ho hw
 have hfin:∀v,(b.atR a (.inRegion ops (i::rest)::k)).finish v=b.atR (a.put o.dst v) (.inRegion ops rest::k):=by
  intro v;rw[Frame.finish_atR,ho];rfl
 have same:∀{ι':aU} {h':NH} {w':World},Rel P ι' B h' w'->B<=w'.heap.size->Grow ι h w ι' h' w'->Mv P B rnd b ι ctx h cs w ι' dfs ctx h' a.defers cs w':=
  fun hr hb hgr=>⟨⟨s.df.mono hgr.le,s.cx.mono hgr.le,hr,hb,s.rn.mono hgr.le⟩,hgr,.refl _ _⟩
 have nodef:(∀f cap,af n t h≠.dfr f cap)->af n t h≠.fail->∀c,o.op≠.defer c:=by
  intro h1 h2 c hd
  rw[hd] at hc
  obtain ⟨callee,args,ats⟩:=c
  cases callee with
  |value f=>
   replace hc:fT f args.toList=some n:=hc
   unfold fT at hc
   split at hc
   ·rename_i y h3 hf
    cases hc
    have e1:af (.defer y) t h=wV t y fun f=>match f with| .fn f cap=> .dfr f cap|_=> .fail:=rfl
    obtain ⟨v,h4,h5⟩:=aK e1.symm h2
    rw[←h5] at h1 h2
    cases v<;>first|exact Q3 rfl h2|exact h1 _ _ rfl
   ·cases hc
  |builtin b=>have hc:(none:Option NOp)=some n:=hc;cases hc
  |invoke r m=>have hc:(none:Option NOp)=some n:=hc;cases hc
 cases hr:af n t h with
 |fail=>trivial
 |val v=>
  rw[hr] at hop
  obtain ⟨v',h1,h2⟩:=hop
  rw[fg (.inr (nodef (by rw[hr];simp) (by rw[hr];simp)))] at hg
  refine ⟨v',ι,a.defers,cs,w,.one (step_lone_go ?_),h2,Mv.refl s⟩
  rw[hg,←hfin];simp[stepG.apply,h1]
 |mem v h'=>
  rw[hr] at hop
  obtain ⟨v',w',ι',h1,h2,h3,h4⟩:=hop
  rw[fg (.inr (nodef (by rw[hr];simp) (by rw[hr];simp)))] at hg
  refine ⟨v',ι',a.defers,cs,w',.one (step_lone_go ?_),h2,same h3 (Nat.le_trans s.base h4.size) h4⟩
  rcases h1 with h1|⟨h1,rfl⟩
  ·rw[hg,←hfin];simp[stepG.apply,h1]
  ·rw[hg,←hfin];simp[stepG.apply,h1]
 |pan v=>
  rw[hr] at hop
  obtain ⟨v',h1,h2⟩:=hop
  rw[fg (.inr (nodef (by rw[hr];simp) (by rw[hr];simp)))] at hg
  refine ⟨v',ι,w,.inRegion ops (i::rest)::k,.one (step_lone_go ?_),h1,Mv.refl s⟩
  rw[hg,←Frame.raise_atR b a (.inRegion ops (i::rest)::k)];simp[stepG.apply,h2]
 |call f args=>
  rw[hr] at hop
  obtain ⟨args',h1,h2⟩:=hop
  rw[fg (.inr (nodef (by rw[hr];simp) (by rw[hr];simp)))] at hg
  have hcall:=hC.call ι B h w f args args' s.rel s.base h1
  show match vO dfs ctx (bZ P S self f args h) with| .fail=>_| .next v dfs' ctx' h'=>_| .pan v h'=>_
  cases hcr:bZ P S self f args h with
  |fail=>trivial
  |val v x h'=>
   rw[hcr] at hcall
   obtain ⟨ι',v',w',c1,c2,c3,c4,c5⟩:=hcall (b.atR a (.inRegion ops (i::rest)::k)) cs
   refine ⟨v',ι',a.defers,cs,w', ?_,c1,same c2 c3 c4⟩
   rcases c5 with c5|⟨w1,⟨f',ar,c5,c6⟩|⟨l,f',tm,x,y,c5,c6⟩⟩
   ·refine .one (step_lone_go ?_)
    rw[hg,←hfin];simp[stepG.apply,h2,c5]
   ·refine .head (step_lone_go ?_) (by rw[←hfin];exact c6)
    rw[hg];simp[stepG.apply,h2,c5,Frame.atR]
   ·refine .head (step_lone_go ?_) (by rw[←hfin];exact c6)
    rw[hg];simp[stepG.apply,h2,c5,Frame.atR]
  |pan v x h'=>
   rw[hcr] at hcall
   obtain ⟨ι',v',w',c1,c2,c3,c4,w1,c5⟩:=hcall (b.atR a (.inRegion ops (i::rest)::k)) cs
   refine ⟨v',ι',w',.inRegion ops (i::rest)::k, ?_,c1,same c2 c3 c4⟩
   rw[←Frame.raise_atR b a (.inRegion ops (i::rest)::k)]
   rcases c5 with ⟨f',ar,c5,c6⟩|⟨l,f',tm,x,y,c5,c6⟩
   ·refine .head (step_lone_go ?_) c6
    rw[hg];simp[stepG.apply,h2,c5,Frame.atR]
   ·refine .head (step_lone_go ?_) c6
    rw[hg];simp[stepG.apply,h2,c5,Frame.atR]
 |yld l args=>
  rw[hr] at hop
  obtain ⟨args',p,hp,h1,h2⟩:=hop
  rw[fg (.inr (nodef (by rw[hr];simp) (by rw[hr];simp)))] at hg
  have hcall:=hC.yld ι B h w l p args args' s.rel s.base h1 hp
  show match vO dfs ctx (round self l args h) with| .fail=>_| .next v dfs' ctx' h'=>_| .pan v h'=>_
  cases hcr:round self l args h with
  |fail=>trivial
  |val v x h'=>
   rw[hcr] at hcall
   obtain ⟨ι',v',w',c1,c2,c3,c4,c5⟩:=hcall (b.atR a (.inRegion ops (i::rest)::k)) cs
   refine ⟨v',ι',a.defers,cs,w', ?_,c1,same c2 c3 c4⟩
   rcases c5 with c5|⟨w1,⟨f',ar,c5,c6⟩|⟨l,f',tm,x,y,c5,c6⟩⟩
   ·refine .one (step_lone_go ?_)
    rw[hg,←hfin];simp[stepG.apply,h2,c5]
   ·refine .head (step_lone_go ?_) (by rw[←hfin];exact c6)
    rw[hg];simp[stepG.apply,h2,c5,Frame.atR]
   ·refine .head (step_lone_go ?_) (by rw[←hfin];exact c6)
    rw[hg];simp[stepG.apply,h2,c5,Frame.atR]
  |pan v x h'=>
   rw[hcr] at hcall
   obtain ⟨ι',v',w',c1,c2,c3,c4,w1,c5⟩:=hcall (b.atR a (.inRegion ops (i::rest)::k)) cs
   refine ⟨v',ι',w',.inRegion ops (i::rest)::k, ?_,c1,same c2 c3 c4⟩
   rw[←Frame.raise_atR b a (.inRegion ops (i::rest)::k)]
   rcases c5 with ⟨f',ar,c5,c6⟩|⟨l,f',tm,x,y,c5,c6⟩
   ·refine .head (step_lone_go ?_) c6
    rw[hg];simp[stepG.apply,h2,c5,Frame.atR]
   ·refine .head (step_lone_go ?_) c6
    rw[hg];simp[stepG.apply,h2,c5,Frame.atR]
 |dfr f cap=>
  rw[hr] at hop
  obtain ⟨cap',h1,h2⟩:=hop
  cases rnd with
  |some l=>trivial
  |none=>
   have hro:b.roundOf=none:=s.rn
   rw[fg (.inl hro)] at hg
   refine ⟨undef,ι,{target:= .fn (.func f) cap'.toArray,args:=#[]}::a.defers,cs,w,.one (step_lone_go ?_),dK,⟨⟨⟨⟨cap',h1,rfl⟩,s.df⟩,s.cx,s.rel,s.base,s.rn⟩,.refl _ _ _,.refl _ _⟩⟩
   have hd:∀d,({b.atR a (.inRegion ops (i::rest)::k) with defers:=d::a.defers}:Frame).finish undef=b.atR (({a with defers:=d::a.defers}:Act).put o.dst undef) (.inRegion ops rest::k):=fun d=>by
    have:=Frame.finish_atR b {a with defers:=d::a.defers} ops i rest k undef
    rw[ho] at this;exact this
   rw[hg]
   simp only[stepG.apply,Sem.runT_eq,h2,GStep.bare_after]
   exact congrArg (fun fr=>GStep.go {frame:=fr,callers:=cs,status:= .running,dying:=none} w) (hd _)
 |recov=>
  rw[hr] at hop
  cases rnd with
  |some l=>cases ctx<;>trivial
  |none=>
   have hro:b.roundOf=none:=s.rn
   rw[fg (.inl hro)] at hg
   cases ctx with
   |none=>
    refine ⟨.nilIface,ι,a.defers,cs,w,.one (step_lone_go ?_),.nili,Mv.refl s⟩
    have htr:tryRecover (b.atR a (.inRegion ops (i::rest)::k)) cs=none:=by rw[qF b a _ cs b rfl];exact s.cx b rfl
    rw[hg,←hfin]
    simp only[Frame.atR,hro] at htr ⊢
    have hop':Sem.run P (execOp a.eval o) w= .ok .recover w:=hop
    simp[stepG.apply,hop',htr]
   |some v=>
    obtain ⟨hk,c,r,v',older,hcs,hm,hv⟩:=s.cx
    subst hcs
    refine ⟨v',ι,a.defers,{c with mode:= .panicking ({v:=v',recovered:=true}::older)}::r,w,.one (step_lone_go ?_),hv,⟨⟨s.df, ?_,s.rel,s.base,s.rn⟩,.refl _ _ _,.inr ⟨rfl,by simp,c,r,v',older,rfl,hm,rfl⟩⟩⟩
    ·have htr:tryRecover (b.atR a (.inRegion ops (i::rest)::k)) (c::r)=some (v',{c with mode:= .panicking ({v:=v',recovered:=true}::older)}::r):=by
      unfold tryRecover
      have:(b.atR a (.inRegion ops (i::rest)::k)).kind= .deferred:=hk
      rw[this]
      simp only[hm]
     rw[hg,←hfin]
     simp only[Frame.atR,hro] at htr ⊢
     have hop':Sem.run P (execOp a.eval o) w= .ok .recover w:=hop
     simp[stepG.apply,hop',htr]
    ·intro x hx
     unfold tryRecover
     rw[hx,hk]
end
end Nm
namespace Nm
open Go
def oX (ops:Array Oper):Option (Nat×Bool)->Option (D4×Bool)->Prop
 |none,none=>True
 |some (j,b),some (k,b')=>b'=b/\∃t,tM ops j=some t/\k=D4.of t
 |_,_=>False
theorem lq {P:Program} {ops:Array Oper} {o:Oper} {pre idx:Nat} {no:NOper} (h:jJ P ops o pre idx=some no):
 no.dst=o.dst.map D4.of/\(ap P o.op=some no.op∨no.op= .fail)/\oX ops o.guard no.guard/\no.pre=pre/\no.idx=idx:=by
 unfold jJ at h
 split at h
 ·rename_i d n hd hn
  rw[ag] at h
  have h1:d=o.dst.map D4.of:=by
   unfold MI at hd
   split at hd
   ·rename_i e he;rw[D4.ofNat_eq] at hd;cases hd;rw[he];rfl
   ·rename_i he;cases hd;rw[he];rfl
  have h2:ap P o.op=some n∨n= .fail:=by
   split at hn
   ·rename_i n' hn';cases hn;exact .inl hn'
   ·cases hn;exact .inr rfl
  split at h
  ·rename_i hg
   rw[ag] at h;cases h
   exact ⟨h1,h2,by rw[hg];trivial,rfl,rfl⟩
  ·rename_i j hg
   split at h
   ·rename_i t ht
    rw[ag,D4.ofNat_eq] at h;cases h
    exact ⟨h1,h2,by rw[hg];exact ⟨rfl,t,ht,rfl⟩,rfl,rfl⟩
   ·cases h
  ·rename_i j hg
   split at h
   ·rename_i t ht
    rw[ag,D4.ofNat_eq] at h;cases h
    exact ⟨h1,h2,by rw[hg];exact ⟨rfl,t,ht,rfl⟩,rfl,rfl⟩
   ·cases h
 ·cases h
theorem VR.notBool {ι:aU} {v:NV} {v':Value} (h:VR ι v v') (hn:∀b,v≠.bool b):∀b,v'≠.bool b:=by
 cases h with
 |bool b=>exact Q3 rfl (hn b)
 |_=>intro b h;cases h
theorem mZ {ι:aU} {ops:Array Oper} {o:Oper} {g:Option (D4×Bool)} (hg:oX ops o.guard g) {t:Tm} {tmps:Array Value} {on:Bool}
 (hT:∀k b,g=some (D4.of k,b)->∀v,NT.get (D4.of k) t=some v->∃v',tmps[k]? =some v'/\VR ι v v') (h:az t g=some on):Region.wanted o (yielded ops tmps)=on:=by
 unfold Region.wanted
 cases ho:o.guard with
 |none=>
  rw[ho] at hg
  cases g with
  |none=>cases h;rfl
  |some _=>exact hg.elim
 |some jb=>
  obtain ⟨j,b⟩:=jb
  rw[ho] at hg
  cases g with
  |none=>exact hg.elim
  |some kb=>
   obtain ⟨k,b'⟩:=kb
   obtain ⟨rfl,u,hu,rfl⟩:=hg
   have hd:(ops[j]?).bind (·.dst)=some u:=by
    unfold tM at hu
    split at hu
    ·rename_i oj hoj;rw[hoj];exact hu
    ·cases hu
   have h':(match NT.get (D4.of u) t with|some (.bool c)=>some (fR b' c)|some _=>some false|none=>none)=some on:=by
    rw[←h]
    show _=(Option.rec none (fun v=>NV.onBool (some false) (fun c=>some (fR b' c)) v) (NT.get (D4.of u) t):Option Bool)
    cases NT.get (D4.of u) t with
    |none=>rfl
    |some v=>cases v<;>rfl
   split at h'
   ·rename_i c hc
    cases h'
    obtain ⟨v',h1,h2⟩:=hT u b' rfl _ hc
    cases h2
    show (yielded ops tmps j==some b')=_
    have hy:yielded ops tmps j=some c:=by unfold yielded;rw[hd];simp only[Option.bind_some,h1]
    rw[hy,jY]
    cases b'<;>cases c<;>rfl
   ·rename_i v hnb hc
    cases h'
    obtain ⟨v',h1,h2⟩:=hT u b' rfl _ hc
    have hv:=h2.notBool fun c hc'=>hnb c (by rw[hc'])
    show (yielded ops tmps j==some b')=_
    have hy:yielded ops tmps j=none:=by
     unfold yielded
     rw[hd]
     simp only[Option.bind_some,h1]
     cases v'<;>first|exact Q3 rfl (hv _)|rfl
    rw[hy];rfl
   ·cases h'
theorem Au {a:Array Value} {k:Nat} {v:Value} (h:a[k]? =some v):a.getD k undef=v:=by
 rw[Array.getD_eq_getD_getElem?,h];rfl
theorem mI {ι:aU} {t:Tm} {a:Act} (hT:TR ι t a.tmps):OE ι t a.eval:=by
 intro x y hc v hv
 cases x with
 |tmp k=>
  have hc':(D4.ofNat k fun t=>some (NOpd.tmp t))=some y:=hc
  rw[D4.ofNat_eq] at hc';cases hc'
  obtain ⟨v',h1,h2⟩:=hT.2 k v hv
  show VR ι v (a.tmps.getD k undef)
  rw[Au h1];exact h2
 |const c=>
  have hc':(match ofValue c with|some v=>some (NOpd.const v)|none=>none)=some y:=hc
  split at hc'
  ·rename_i u hu;cases hc';cases hv;exact eU hu
  ·cases hc'
 |func f=>
  have hc':(aq f fun f=>some (NOpd.const (.fn f [])))=some y:=hc
  rw[ag] at hc';cases hc';cases hv
  exact .fn f [] [] .nil
 |global g=>
  have hc':(cond (Nat.ble (Nat.succ g) NG) (D4.ofNat g fun g=>some (NOpd.const (.ptr g 0))) none)=some y:=hc
  rw[D4.ofNat_eq] at hc'
  cases hb:Nat.ble (Nat.succ g) NG with
  |false=>rw[hb] at hc';cases hc'
  |true=>
   rw[hb] at hc';cases hc';cases hv
   exact .ptr _ 0 _ (hT.1 g (Nat.le_of_ble_eq_true hb))
def Pa (P:Program) (b:Frame) (k:List Item) (m:Machine) (ι':aU):Out->Act->List Frame->World->Prop
 | .norm,a',cs',w'=>Steps P m (lone (b.atR a' k) cs' w')
 | .ret,a',cs',w'=>∃k0,Steps P m (lone (b.atR a' (.code .ret::k0)) cs' w')
 | .exit id,a',cs',w'=>∃k0,exitTo id k0=exitTo id k/\Steps P m (lone (b.atR a' (.code (.exit id)::k0)) cs' w')
 | .pan v,a',cs',w'=>∃todo v',VR ι' v v'/\Steps P m (lone {b.atR a' todo with mode:= .panicking [{v:=v',recovered:=false}]} cs' w')
theorem Pa.of_steps {P:Program} {b:Frame} {k:List Item} {m m':Machine} {ι':aU} (hs:Steps P m m') {o:Out} {a':Act} {cs':List Frame} {w':World} (h:Pa P b k m' ι' o a' cs' w'):Pa P b k m ι' o a' cs' w':=by
 cases o with
 |norm=>exact hs.trans h
 |ret=>obtain ⟨k0,h⟩:=h;exact ⟨k0,hs.trans h⟩
 |exit id=>obtain ⟨k0,h1,h⟩:=h;exact ⟨k0,h1,hs.trans h⟩
 |pan v=>obtain ⟨td,v',h1,h⟩:=h;exact ⟨td,v',h1,hs.trans h⟩
def dU (P:Program) (B:Nat) (rnd:Option D4) (b:Frame) (k:List Item) (m:Machine) (ι:aU) (ctx:Option NV) (h:NH) (size:Nat) (cs:List Frame) (w:World) (o:Out) (d':Dyn):Prop:=
 ∃(ι':aU) (a':Act) (cs':List Frame) (w':World),Pa P b k m ι' o a' cs' w'/\TR ι' d'.t a'.tmps/\Mv P B rnd b ι ctx h cs w ι' d'.dfs d'.ctx d'.h a'.defers cs' w'/\a'.tmps.size=size
section
variable {P:Program} {S:cR} {self:Option D4->NC->Dyn->Res} {B:Nat} {b:Frame} {k:List Item} {ops:Array Oper} {fn:Func}
theorem fO (a:Act) (d:Option Tmp) (v:Value):(a.put d v).tmps.size=a.tmps.size:=by cases d<;>simp[Act.put]
theorem put_defers (a:Act) (d:Option Tmp) (v:Value):(a.put d v).defers=a.defers:=by cases d<;>rfl
theorem TR.putD {ι:aU} {t:Tm} {a:Act} (hT:TR ι t a.tmps) {d:Option Tmp} (hd:∀k,d=some k->k<a.tmps.size) {v:NV} {v':Value} (hv:VR ι v v'):TR ι (aQ (d.map D4.of) v t) (a.put d v').tmps:=by
 cases d with
 |none=>exact hT
 |some k=>exact hT.put (hd k rfl) hv
theorem bU (rnd:Option D4) (o:NOper) (l:List NOper) (t:Tm) (dfs:List Dfr) (ctx:Option NV) (h:NH):
 dz P S self rnd (o::l) ⟨t,dfs,ctx,h⟩=match az t o.guard with
  |none=> .fail
  |some false=>dz P S self rnd l ⟨aQ o.dst aS t,dfs,ctx,h⟩
  |some true=>vW o.dst (dz P S self rnd l) t dfs ctx (eL P S self rnd dfs ctx h (af o.op t h)):=by
 have e:dz P S self rnd (o::l) ⟨t,dfs,ctx,h⟩=Option.rec .fail (fun on=>Bool.rec (jI o.dst aS t fun t=>dz P S self rnd l ⟨t,dfs,ctx,h⟩)
  (pe P S self rnd o.dst (dz P S self rnd l) t dfs ctx h (af o.op t h)) on) (az t o.guard):=rfl
 rw[e]
 cases az t o.guard with
 |none=>rfl
 |some on=>
  cases on with
  |false=>exact eg o.dst aS t fun t=>dz P S self rnd l ⟨t,dfs,ctx,h⟩
  |true=>exact qO _ _ _ _ _ _ _ _ _ _ _
theorem B4 (hC:CallsOK P S self) (hr:RegOK P fn ops) {rnd:Option D4}:∀(l:List Oper) (i:Nat) (nl:List NOper) (pre:List Nat),(∀j,l[j]? =ops[i+j]?)->ez P ops l i pre=some nl->
 ∀(t:Tm) (dfs:List Dfr) (ctx:Option NV) (h:NH) (o:Out) (d':Dyn),dz P S self rnd nl ⟨t,dfs,ctx,h⟩= .mk o d'->
 ∀(ι:aU) (a:Act) (cs:List Frame) (w:World),TR ι t a.tmps->Sd P ι B rnd dfs ctx h b a.defers cs w->fn.ntmps<=a.tmps.size->
 dU P B rnd b k (lone (b.atR a (.inRegion ops (List.range' i l.length)::k)) cs w) ι ctx h a.tmps.size cs w o d':=by
 intro l
 induction l with
 |nil=>
  intro i nl pre _ hc t dfs ctx h o d' hrun ι a cs w hT s _
  cases hc
  cases hrun
  exact ⟨ι,a,cs,w,.one stepR_region_end,hT,Mv.refl s,rfl⟩
 |cons o1 l ih=>
  intro i nl pre hl hc t dfs ctx h o d' hrun ι a cs w hT s hsz
  have hc':(match jJ P ops o1 (pre.headD 0) i,ez P ops l (Nat.succ i) pre.tail with|some o,some l=>some (o::l)|_,_=>none)=some nl:=hc
  split at hc'
  ·rename_i no nl' h1 h2
   cases hc'
   obtain ⟨i1,i2,i3,i4,i5⟩:=lq h1
   have ho:ops[i]? =some o1:=by have:=hl 0;simpa using this.symm
   have hl':∀j,l[j]? =ops[Nat.succ i+j]? :=fun j=>by have:=hl (j+1);simp at this;rw[this];congr 1;omega
   have hdst:∀d,o1.dst=some d->d<a.tmps.size:=fun d hd=>Nat.lt_of_lt_of_le (hr.dst i o1 d ho hd) hsz
   rw[bU] at hrun
   have hrange:List.range' i (o1::l).length=i::List.range' (Nat.succ i) l.length:=by simp[List.range'_succ]
   rw[hrange]
   cases hgd:az t no.guard with
   |none=>rw[hgd] at hrun;cases hrun
   |some on=>
    have hwant:=mZ i3 (ops:=ops) (tmps:=a.tmps) (ι:=ι) (fun k b _ v hv=>hT.2 k v hv) hgd
    rw[hgd] at hrun
    cases on with
    |false=>
     have hskip:=stepR_op_skip (P:=P) (b:=b) (a:=a) (k:=k) (cs:=cs) (w:=w) (ops:=ops) (i:=i) (rest:=List.range' (Nat.succ i) l.length) (by simp[ho,hwant])
     simp only[ho,Option.bind_some] at hskip
     have hT':TR ι (aQ no.dst aS t) (a.put o1.dst undef).tmps:=by rw[i1];exact hT.putD hdst dK
     obtain ⟨ι',a',cs',w',q1,q2,q3,q4⟩:=ih (Nat.succ i) nl' pre.tail hl' h2 _ dfs ctx h o d' hrun ι (a.put o1.dst undef) cs w hT' (by rw[put_defers];exact s) (by rw[fO];exact hsz)
     exact ⟨ι',a',cs',w',q1.of_steps (.one hskip),q2,q3,by rw[q4,fO]⟩
    |true=>
     rcases i2 with i2|i2
     ·have hx:=gf (S:=S) (self:=self) (k:=k) (rest:=List.range' (Nat.succ i) l.length) hC ho hwant i2 (mI hT) s
      cases hoo:eL P S self rnd dfs ctx h (af no.op t h) with
      |fail=>rw[hoo] at hrun;cases hrun
      |next v dfs1 ctx1 h1=>
       rw[hoo] at hrun hx
       obtain ⟨v',ι1,ds1,cs1,w1,x1,x2,x3⟩:=hx
       have hrun':dz P S self rnd nl' ⟨aQ no.dst v t,dfs1,ctx1,h1⟩= .mk o d':=hrun
       have hT':TR ι1 (aQ no.dst v t) (({a with defers:=ds1}:Act).put o1.dst v').tmps:=by
        rw[i1];exact TR.putD (a:={a with defers:=ds1}) (hT.mono x3.gr.le) hdst x2
       obtain ⟨ι',a',cs',w',q1,q2,q3,q4⟩:=ih (Nat.succ i) nl' pre.tail hl' h2 _ dfs1 ctx1 h1 o d' hrun' ι1 (({a with defers:=ds1}:Act).put o1.dst v') cs1 w1 hT' (by rw[put_defers];exact x3.sd) (by rw[fO];exact hsz)
       exact ⟨ι',a',cs',w',q1.of_steps x1,q2,x3.trans q3,by rw[q4,fO]⟩
      |pan v h1=>
       rw[hoo] at hrun hx
       obtain ⟨v',ι1,w1,td,x1,x2,x3⟩:=hx
       cases hrun
       exact ⟨ι1,a,cs,w1,⟨td,v',x2,x1⟩,hT.mono x3.gr.le,x3,rfl⟩
     ·rw[i2] at hrun
      cases hrun
  ·cases hc'
end
end Nm
namespace Nm
open Go
structure AllocR (P:Program) (ι:aU) (w:World) (f:NH->NR) (res:Result Next) (o:NO) (V:D4->NV):Prop where
 all:∀h,f h= .mem (V h.next) (h.add o)
 live:o≠.dead
 real:∃(v':Value) (w1:World) (O:Obj) (p:Pl),(w1=w∨w1=w.drew)/\res= .ok (.value v') (w1.alloc O)/\p.b=w.heap.size/\(∀ι':aU,ι.le ι'->OR P ι' (w1.alloc O) p o)/\∀(ι':aU) (n:D4),ι.le ι'->ι' n=some p->VR ι' (V n) v'
theorem VR.int_inv {ι:aU} {k:IntKind} {n:Int} {v:Value} (h:VR ι (.int k (.lit n)) v):v= .int k n:=by cases h;rfl
section
variable {P:Program} {ι:aU} {w:World} {t:Tm} {e:Operand->Value}
theorem jv {w1:World} {wr:Bool} {cs:List NV} {cur:Array Value} {T:TypeId} {fz:Nat×Nat} (hw:wr=true->fz=(0,0)) (hl:cs.length<=cur.size)
 (hc:∀(i:Nat) (v:NV),cs[i]? =some v->∃v':Value,cur[i]? =some v'/\VR ι v v'/\v'.oneCell'=true):
 ∀ι':aU,ι.le ι'->OR P ι' (w1.alloc (.cells cur T fz)) ⟨w1.heap.size,0,cur.size⟩ (.cells wr cs):=fun ι' hle=>
 ⟨cur,T,fz,cP w1 _,hw,rfl,by simpa using hl,fun i v hi=>by
  obtain ⟨v',a,b,c⟩:=hc i v hi
  exact ⟨v',by simpa using a,b.mono hle,c⟩⟩
theorem uS {T:TypeId} {h0:NH} {dst:Option Tmp} {type:TypeId} {pos:String} {after:Array Edge} {guard:Option (Nat×Bool)} {n:NOp} (hc:ap P (.alloc T)=some n) (_hr:af n t h0≠.fail):
 ∃o V,AllocR P ι w (af n t) ((execOp e ⟨dst,.alloc T,type,pos,after,guard⟩).run P w) o V:=by
 replace hc:kT P T=some n:=hc
 unfold kT at hc
 split at hc
 ·rename_i z hz;rw[ag] at hc;cases hc
  obtain ⟨i,zv,hi,hzv,hsz,hzl,hz1⟩:=cB (ι:=ι) hz
  refine ⟨cond (MT T) (.cellsT T z) (.cells true z),fun n=> .ptr n 0,fun h=>NH.new_eq h _ fun id h=>NR.mem (.ptr id 0) h,by cases MT T<;>simp, ?_⟩
  refine ⟨_,w,.cells zv.cells T,⟨w.heap.size,0,zv.cells.size⟩,.inl rfl, ?_,rfl, ?_,fun ι' n _ hn=>VR.ptr _ 0 _ hn⟩
  rotate_left
  ·cases MT T with
   |false=>exact jv (fun _=>rfl) (by rw[hzl.length];simp) (by simpa using hzl.at hz1)
   |true=>exact fun ι' hle=>⟨rfl,_,cP w _,rfl,⟨by rw[hzl.length];simp,fun _=>by rw[hzl.length];simp⟩,fun i v hi=>let ⟨v',a,b,c⟩:=VRL.at hzl hz1 i v hi;⟨v',by simpa using a,b.mono hle,c⟩⟩
  show (do pure (Next.value (←Instr.alloc T true (.tuple #[]))):Sem Next).run P w=_
  rw[cg]
  simp[aP,Instr.alloc,zeroValue,typeInfo,hi,hzv,newVar,newRow]
 ·cases hc
theorem CF {T:TypeId} {x:Operand} {h0:NH} {dst:Option Tmp} {type:TypeId} {pos:String} {after:Array Edge} {guard:Option (Nat×Bool)} {n:NOp} (hc:ap P (.box T x)=some n) (hO:OE ι t e) (hr:af n t h0≠.fail):
 ∃o V,AllocR P ι w (af n t) ((execOp e ⟨dst,.box T x,type,pos,after,guard⟩).run P w) o V:=by
 replace hc:xU T x=some n:=hc
 unfold xU at hc
 split at hc
 ·rename_i y hy;rw[ag] at hc;cases hc
  obtain ⟨v,h1,h2⟩:=aK (t:=t) (x:=y) (K:=fun v=>aX (cellsOf v) fun cs=>h0.new (cond (MT T) (.cellsT T cs) (.cells true cs)) fun id h=> .mem (.ptr id 0) h) rfl hr
  obtain ⟨cs,h3,h4⟩:=aO h2 hr
  have hc:=(hO _ _ hy v h1).cells h3
  refine ⟨cond (MT T) (.cellsT T cs) (.cells true cs),fun n=> .ptr n 0,fun h=> ?_,by cases MT T<;>simp, ?_⟩
  ·show wV t y _=_
   unfold wV
   rw[h1]
   show aX (cellsOf v) _=_
   rw[h3]
   exact NH.new_eq h _ fun id h=>NR.mem (.ptr id 0) h
  refine ⟨_,w,.cells (e x).cells T,⟨w.heap.size,0,(e x).cells.size⟩,.inl rfl, ?_,rfl, ?_,fun ι' n _ hn=>VR.ptr _ 0 _ hn⟩
  rotate_left
  ·cases MT T with
   |false=>exact jv (fun _=>rfl) (by rw[hc.1.length];simp) (by simpa using hc.1.at hc.2)
   |true=>exact fun ι' hle=>⟨rfl,_,cP w _,rfl,⟨by rw[hc.1.length];simp,fun _=>by rw[hc.1.length];simp⟩,fun i v hi=>let ⟨v',a,b,c⟩:=VRL.at hc.1 hc.2 i v hi;⟨v',by simpa using a,b.mono hle,c⟩⟩
  show (do pure (Next.value (←Instr.box T (e x))):Sem Next).run P w=_
  rw[cg]
  simp[aP,Instr.box,newVar,newRow]
 ·cases hc
theorem vd {T:TypeId} {dst:Option Tmp} {type:TypeId} {pos:String} {after:Array Edge} {guard:Option (Nat×Bool)}:
 ∃o V,AllocR P ι w (af .mkMap t) ((execOp e ⟨dst,.makeMap T none,type,pos,after,guard⟩).run P w) o V:=
 ⟨.map [],fun n=> .map n,fun h=>NH.new_eq h (.map []) fun id h=>NR.mem (.map id) h,by simp,_,w,.map #[] 0,⟨w.heap.size,0,0⟩,.inl rfl,rfl,rfl,fun ι' _=>⟨#[],0,cP w _,trivial,MapKept.stamped_empty 0⟩,fun ι' n _ hn=> .map _ _ hn⟩
theorem mB {T:TypeId} {len:Nat} {ps:Array (Nat×Operand)} {h0:NH} {dst:Option Tmp} {type:TypeId} {pos:String} {after:Array Edge} {guard:Option (Nat×Bool)} {n:NOp} (hc:ap P (.buildSlice T len ps)=some n) (hO:OE ι t e) (hr:af n t h0≠.fail):
 ∃o V,AllocR P ι w (af n t) ((execOp e ⟨dst,.buildSlice T len ps,type,pos,after,guard⟩).run P w) o V:=by
 have ep:(ps.map fun (i,x)=>(i,e x))=(ps.toList.map fun p=>(p.1,e p.2)).toArray:=by apply Array.ext';simp
 unfold execOp
 dsimp only
 rw[cg,ep]
 replace hc:dw P T len ps.toList=some n:=hc
 unfold dw at hc
 split at hc
 ·rename_i el hT
  split at hc
  ·rename_i z k hz hk
   split at hc
   ·rename_i l hl
    obtain ⟨c1,c2⟩:=aB hc
    rw[iz,ag,ag] at c2;cases c2
    rw[Bool.and_eq_true] at c1
    have hsz:len*k<=16777216:=Nat.le_of_ble_eq_true c1.2
    have h0':=Nat.le_of_ble_eq_true c1.1
    have hq:=gu (ι:=ι) (t:=t) (e:=e) hO hl
    obtain ⟨r,h1,h2⟩:=aO (o:=cM t l 0 (Nm.rep len z)) (K:=fun l=>h0.new (.cells true l) fun id h=> .mem (.slc id 0 len k len) h) rfl hr
    obtain ⟨i,zv,i1,i2,i3,i4,i5⟩:=cB (ι:=ι) hz
    obtain ⟨j,j1,j2⟩:=bK hk
    rw[i1] at j1;cases j1
    have hzl:=i4.length
    have hsize:zv.cells.size=k:=by simp at hzl;omega
    have hrow:((Array.range (len*k)).map (zv.cells[·% zv.cells.size]!)).toList=Nm.rep len zv.cells.toList:=by rw[←hsize];exact jf zv.cells len
    obtain ⟨q1,q2⟩:=jg i4 i5 len
    obtain ⟨rs,k1,k2,k3⟩:=mX _ _ hq 0 _ r h1 ((Array.range (len*k)).map (zv.cells[·% zv.cells.size]!)) [] rfl (by rw[hrow];simpa using q1) (by rw[hrow];exact q2)
    simp only[List.nil_append] at k2
    have hrs:rs.size=len*k:=by rw[qQ _ _ _ k1];simp
    refine ⟨.cells true r,fun n=> .slc n 0 len k len,fun h=> ?_,by simp, ?_⟩
    ·show aX (cM t l 0 (Nm.rep len z)) _=_
     rw[h1]
     exact NH.new_eq h (.cells true r) fun id h=>NR.mem (.slc id 0 len k len) h
    refine ⟨_,w,.cells rs el,⟨w.heap.size,0,rs.size⟩,.inl rfl, ?_,rfl,jv (fun _=>rfl) (by rw[k2.length];simp) (k2.atA k3 fun i u hu=>by simpa using hu),
     fun ι' n _ hn=>VR.slc _ 0 len k _ _ ⟨w.heap.size,0,none⟩ len hn (Nat.le_refl _) (Nat.le_refl _) ?_ h0' (fun _=>⟨rfl, ?_⟩)⟩
    ·have hle:¬len*i.size>2 ^ 24:=by rw[j2];omega
     have hp:(fun x=>some (x*i.size,i.size))=(fun x:Nat=>some (Nat.mul x k,k)):=by rw[j2];rfl
     by_cases hnz:len*i.size=0
     ·have:len=0:=by rw[j2] at hnz;rcases Nat.mul_eq_zero.1 hnz with h|h<;>omega
      subst this
      have e1:((Array.range (0*k)).map (zv.cells[·% zv.cells.size]!))=#[]:=by simp
      rw[e1] at k1
      have e2:∀f:Nat->Value,((Array.range (0*i.size)).map f)=#[]:=fun f=>by simp
      simp only[aP,Instr.buildSlice,Sem.run_bind,run_underlying hT,Result.andThen_ok,fp i1,Q4 hle,Sem.run_pure,Q5 hnz,e2,hp,k1]
      simp[newRow]
     ·simp only[aP,Instr.buildSlice,Sem.run_bind,run_underlying hT,Result.andThen_ok,fp i1,Q4 hle,Sem.run_pure,Q4 hnz,fP i1 i2,hp]
      rw[j2,k1]
      simp[newRow]
    ·have:=Nat.le_mul_of_pos_right len h0';simp only[maxLen];omega
    ·rw[hrs];simp
   ·cases hc
  ·cases hc
 ·cases hc
theorem qg {T:TypeId} {lo co:Operand} {h0:NH} {dst:Option Tmp} {type:TypeId} {pos:String} {after:Array Edge} {guard:Option (Nat×Bool)} {n:NOp} (hc:ap P (.makeSlice T lo co)=some n) (hO:OE ι t e) (hr:af n t h0≠.fail):
 ∃o V,AllocR P ι w (af n t) ((execOp e ⟨dst,.makeSlice T lo co,type,pos,after,guard⟩).run P w) o V:=by
 show ∃o V,AllocR P ι w (af n t) ((do pure (Next.value (←Instr.makeSlice T (e lo) (e co))):Sem Next).run P w) o V
 rw[cg]
 replace hc:fY P T lo co=some n:=hc
 unfold fY at hc
 split at hc
 ·rename_i el hT
  split at hc
  ·rename_i z sz by_ yl yc hz hn hb hyl hyc
   obtain ⟨c1,c2⟩:=aB hc
   rw[ag] at c2;cases c2
   have hpos:=Nat.le_of_ble_eq_true c1
   obtain ⟨k1,l,h1,h2⟩:=cz (t:=t) (x:=yl) (K:=fun l=>fC t yc fun c=>cond (Nat.ble l c) (cond (room c by_) (BN c z fun cs=>h0.new (.cells true cs) fun id h=> .mem (.slc id 0 l sz c) h) .fail) .fail) rfl hr
   obtain ⟨k2,c,h3,h4⟩:=cz h2 hr
   obtain ⟨d1,d2⟩:=aR h4 hr
   obtain ⟨d3,d4⟩:=aR d2 hr
   have hlc:=Nat.le_of_ble_eq_true d1
   obtain ⟨b1,b2⟩:=lM d3
   obtain ⟨i,zv,i1,i2,i3,i4,i5⟩:=cB (ι:=ι) hz
   obtain ⟨i',j1,j2⟩:=bK hn
   rw[i1] at j1;cases j1
   obtain ⟨i',j1,j3⟩:=kP hb
   rw[i1] at j1;cases j1
   have hzl:zv.cells.size=sz:=by have:=i4.length;simp at this;omega
   have hvx:=hO _ _ hyl _ h1
   have hvu:=hO _ _ hyc _ h3
   have hby:(i.bytes:Int)*(c:Int)<=281474976710656:=by
    have:((i.bytes*c:Nat):Int)<=281474976710656:=by rw[j3,Nat.mul_comm];omega
    rwa [Int.natCast_mul] at this
   have el1:e lo= .int k1 (Int.ofNat l):=VR.int_inv hvx
   have el2:e co= .int k2 (Int.ofNat c):=VR.int_inv hvu
   have hrun:=run_make (P:=P) w T el i zv hT i1 i2 k1 k2 (Int.ofNat l) (Int.ofNat c) (by simp) (by simp;exact hlc) hby (by simp;omega)
   rw[←el1,←el2,j2] at hrun
   have hmade:(madeCells zv.cells (c*sz)).toList=Nm.rep c zv.cells.toList:=by rw[←hzl];exact jf zv.cells c
   obtain ⟨q1,q2⟩:=jg i4 i5 c
   refine ⟨.cells true (Nm.rep c z),fun n=> .slc n 0 l sz c,fun h=> ?_,by simp, ?_⟩
   ·show fC t yl _=_
    unfold fC wV
    rw[h1]
    show fC t yc _=_
    unfold fC wV
    rw[h3]
    show cond (Nat.ble l c) _ _=_
    rw[d1]
    show cond (room c by_) _ _=_
    rw[d3]
    show BN _ _ _=_
    rw[iz]
    exact NH.new_eq h (.cells true (Nm.rep c z)) fun id h=>NR.mem (.slc id 0 l sz c) h
   refine ⟨_,w,.cells (madeCells zv.cells (c*sz)) el,⟨w.heap.size,0,(madeCells zv.cells (c*sz)).size⟩,.inl rfl,by rw[aP,hrun];rfl,rfl,
    jv (fun _=>rfl) (by rw[q1.length,←hmade];simp) (q1.atA q2 fun j u hu=>by rw[←hmade] at hu;simpa using hu),
    fun ι' n _ hn=>VR.slc _ 0 l sz _ _ ⟨w.heap.size,0,none⟩ c hn hlc (Nat.le_refl _) (by simp only[maxLen];omega) hpos (fun _=>⟨rfl,by simp[size_madeCells]⟩)⟩
  ·cases hc
 ·cases hc
theorem Dj (x:Operand) {n:NOp} (hc:ap P (.move x)=some n):ax n≠.alloc:=by
 replace hc:gV x=some n:=hc
 unfold gV at hc
 repeat' split at hc
 all_goals first
  |(cases hc;done)
  |(cases hc;simp[ax];done)
theorem yK (x:Operand) {n:NOp} (hc:ap P (.assign x)=some n):ax n≠.alloc:=by
 replace hc:gV x=some n:=hc
 unfold gV at hc
 repeat' split at hc
 all_goals first
  |(cases hc;done)
  |(cases hc;simp[ax];done)
theorem D2 (c a b:Operand) {n:NOp} (hc:ap P (.pick c a b)=some n):ax n≠.alloc:=by
 replace hc:oA c a b=some n:=hc
 unfold oA at hc
 repeat' split at hc
 all_goals first
  |(cases hc;done)
  |(cases hc;simp[ax];done)
theorem Db (T:TypeId) (x:Operand) {n:NOp} (hc:ap P (.load T x)=some n):ax n≠.alloc:=by
 replace hc:pV P T x=some n:=hc
 unfold pV at hc
 repeat' split at hc
 all_goals first
  |(cases hc;done)
  |(cases hc;simp[ax];done)
theorem BR (T:TypeId) (a x:Operand) {n:NOp} (hc:ap P (.store T a x)=some n):ax n≠.alloc:=by
 replace hc:kK P T a x=some n:=hc
 unfold kK at hc
 repeat' split at hc
 all_goals first
  |(cases hc;done)
  |(cases hc;simp[ax];done)
theorem rU (x:Operand) {n:NOp} (hc:ap P (.nilCheck x)=some n):ax n≠.alloc:=by
 replace hc:eN x=some n:=hc
 unfold eN at hc
 repeat' split at hc
 all_goals first
  |(cases hc;done)
  |(cases hc;simp[ax];done)
theorem Bx (op:BinOp) (T:TypeId) (x y:Operand) (T2:TypeId) {n:NOp} (hc:ap P (.binOp op T x y T2)=some n):ax n≠.alloc:=by
 replace hc:yL P op T x y=some n:=hc
 unfold yL at hc
 repeat' split at hc
 all_goals first
  |(cases hc;done)
  |(cases hc;simp[ax];done)
  |(replace hc:=(aB hc).2;cases hc;simp[ax];done)
  |(cases hb:(cZ x||cZ y)<;>rw[hb] at hc<;>cases hc<;>simp[ax];done)
  |(replace hc:=jZ hc;cases hc;done)
  |(replace hc:=jZ hc;cases hc;simp[ax];done)
theorem E8 (op:UnOp) (T:TypeId) (x:Operand) {n:NOp} (hc:ap P (.unOp op T x)=some n):ax n≠.alloc:=by
 replace hc:K1 op x=some n:=hc
 unfold K1 at hc
 repeat' split at hc
 all_goals first
  |(cases hc;done)
  |(cases hc;simp[ax];done)
theorem lf (T:TypeId) (x:Operand) {n:NOp} (hc:ap P (.makeInterface T x)=some n):ax n≠.alloc:=by
 replace hc:xw P T x=some n:=hc
 unfold xw at hc
 repeat' split at hc
 all_goals first
  |(cases hc;done)
  |(rw[ag] at hc;cases hc;simp[ax];done)
theorem qC (s:TypeId) (x:Operand) (f:Nat) {n:NOp} (hc:ap P (.fieldAddr s x f)=some n):ax n≠.alloc:=by
 replace hc:eu P s x f=some n:=hc
 unfold eu at hc
 repeat' split at hc
 all_goals first
  |(cases hc;done)
  |(replace hc:=(aB hc).2;rw[ag] at hc;cases hc;simp[ax];done)
theorem B0 (s:TypeId) (x:Operand) (f:Nat) {n:NOp} (hc:ap P (.field s x f)=some n):ax n≠.alloc:=by
 replace hc:kw P s x f=some n:=hc
 unfold kw at hc
 repeat' split at hc
 all_goals first
  |(cases hc;done)
  |(rw[ag] at hc;cases hc;simp[ax];done)
theorem qA (T:TypeId) (x i:Operand) {n:NOp} (hc:ap P (.indexAddr T x i)=some n):ax n≠.alloc:=by
 replace hc:eq P T x i=some n:=hc
 unfold eq at hc
 repeat' split at hc
 all_goals first
  |(cases hc;done)
  |(cases hc;simp[ax];done)
  |(rw[ag] at hc;cases hc;simp[ax];done)
theorem Bk (T:TypeId) (x i:Operand) {n:NOp} (hc:ap P (.index T x i)=some n):ax n≠.alloc:=by
 replace hc:kV P T x i=some n:=hc
 unfold kV at hc
 repeat' split at hc
 all_goals first
  |(cases hc;done)
  |(cases hc;simp[ax];done)
  |(rw[ag] at hc;cases hc;simp[ax];done)
theorem wc (T:TypeId) (x i:Operand) (ok:Bool) {n:NOp} (hc:ap P (.lookup T x i ok)=some n):ax n≠.alloc:=by
 replace hc:iD P T x i ok=some n:=hc
 unfold iD at hc
 repeat' split at hc
 all_goals first
  |(cases hc;done)
  |(cases hc;simp[ax];done)
theorem qv (T:TypeId) (m k x:Operand) {n:NOp} (hc:ap P (.mapUpdate T m k x)=some n):ax n≠.alloc:=by
 replace hc:bH P T m k x=some n:=hc
 unfold bH at hc
 repeat' split at hc
 all_goals first
  |(cases hc;done)
  |(cases hc;simp[ax];done)
theorem wY (T:TypeId) (m k x:Operand) {n:NOp} (hc:ap P (.insert T m k x)=some n):ax n≠.alloc:=by
 replace hc:bH P T m k x=some n:=hc
 unfold bH at hc
 repeat' split at hc
 all_goals first
  |(cases hc;done)
  |(cases hc;simp[ax];done)
theorem pg (x:Operand) (X T:TypeId) {n:NOp} (hc:ap P (.typeAssert x X T true)=some n):ax n≠.alloc:=by
 replace hc:iK P T x=some n:=hc
 unfold iK at hc
 repeat' split at hc
 all_goals first
  |(cases hc;done)
  |(rw[ag] at hc;cases hc;simp[ax];done)
theorem vB (x:Operand) (i:Nat) {n:NOp} (hc:ap P (.extract x i)=some n):ax n≠.alloc:=by
 replace hc:fN x i=some n:=hc
 unfold fN at hc
 repeat' split at hc
 all_goals first
  |(cases hc;done)
  |(rw[ag] at hc;cases hc;simp[ax];done)
theorem Cr (x:Operand) {n:NOp} (hc:ap P (.panic x)=some n):ax n≠.alloc:=by
 replace hc:kA x=some n:=hc
 unfold kA at hc
 repeat' split at hc
 all_goals first
  |(cases hc;done)
  |(cases hc;simp[ax];done)
theorem Bl (T:TypeId) (ps:Array (Nat×Operand)) {n:NOp} (hc:ap P (.build T ps)=some n):ax n≠.alloc:=by
 replace hc:kr P T ps.toList=some n:=hc
 unfold kr at hc
 repeat' split at hc
 all_goals first
  |(cases hc;done)
  |(cases hc;simp[ax];done)
theorem EF (f:FuncId) (first caps:Array Operand) {n:NOp} (hc:ap P (.makeFunc (.func f) first caps)=some n):ax n≠.alloc:=by
 replace hc:po f first.toList caps.toList=some n:=hc
 unfold po at hc
 repeat' split at hc
 all_goals first
  |(cases hc;done)
  |(rw[ag] at hc;cases hc;simp[ax];done)
theorem yF (T:TypeId) (x:Operand) (lo hi:Option Operand) {n:NOp} (hc:ap P (.slice T x lo hi none)=some n):ax n≠.alloc:=by
 replace hc:kB P T x lo hi=some n:=hc
 unfold kB at hc
 repeat' split at hc
 all_goals first
  |(cases hc;done)
  |(cases hc;simp[ax];done)
theorem xG (T:TypeId) (x lo hi mx:Operand) {n:NOp} (hc:ap P (.slice T x (some lo) (some hi) (some mx))=some n):ax n≠.alloc:=by
 replace hc:iw P T x lo hi mx=some n:=hc
 unfold iw at hc
 repeat' split at hc
 all_goals first
  |(cases hc;done)
  |(cases hc;simp[ax];done)
theorem uz {b:Builtin} {args:List NOpd} {ts:List TypeId} {n:NOp} (hc:dC P b args ts=some n):ax n≠.alloc:=by
 unfold dC at hc
 repeat' split at hc
 all_goals first
  |(cases hc;done)
  |(cases hc;simp[ax];done)
  |(rw[ag] at hc;cases hc;simp[ax];done)
  |(replace hc:=(aB hc).2;rw[ag] at hc;cases hc;simp[ax];done)
theorem xZ {src T:TypeId} {x:Operand} {h0:NH} {dst:Option Tmp} {type:TypeId} {pos:String} {after:Array Edge} {guard:Option (Nat×Bool)} {n:NOp} (hc:ap P (.convert src T x)=some n) (hO:OE ι t e) (hcl:ax n= .alloc) (hr:af n t h0≠.fail):
 ∃o V,AllocR P ι w (af n t) ((execOp e ⟨dst,.convert src T x,type,pos,after,guard⟩).run P w) o V:=by
 show ∃o V,AllocR P ι w (af n t) ((do pure (Next.value (←convert src T (e x))):Sem Next).run P w) o V
 rw[cg]
 replace hc:pJ P src T x=some n:=hc
 unfold pJ at hc
 split at hc
 ·rename_i y hy
  unfold hJ at hc
  split at hc
  ·replace hc:=ma hc;cases hc;cases hcl
  ·cases hc;cases hcl
  ·rename_i el hS hT
   split at hc
   ·rename_i he
    rw[ag] at hc;cases hc
    obtain ⟨v,h1,h2⟩:=aK (t:=t) (x:=y) (K:=fun v=>match v with| .str s=>re s fun l=>dG s fun n=>cond (Nat.ble n 1099511627776) (h0.new (.cells false l) fun id h=> .mem (.slc id 0 n 1 n) h) .fail|_=> .fail) rfl hr
    have hv:=hO _ _ hy v h1
    generalize hex:e x=xv at hv ⊢
    cases hv with
    |str l s hs=>
     subst hs
     dsimp only at h2
     rw[gN,bJ] at h2
     obtain ⟨hlen,_⟩:=aR h2 hr
     have hlen':=Nat.le_of_ble_eq_true hlen
     rw[List.length_map,bM] at hlen'
     have hge:=grownCap_ge w s.size 0 el
     have hcm:grownCap w s.size 0 el<=maxLen:=grownCap_le_maxLen w s.size 0 el (by simp only[maxLen];omega)
     have hrun:=run_bytes_of_string (P:=P) w src T el s hS hT he
     have hbs:(bytesRow s (grownCap w s.size 0 el)).size=grownCap w s.size 0 el:=by
      have:s.data.size=s.size:=rfl
      simp[bytesRow,this];omega
     have hcells:∀(i:Nat) (v:NV),((s.data.toList.map UInt8.toNat).map fun x=>NV.int .u8 (.lit (.ofNat x)))[i]? =some v->∃v':Value,(bytesRow s (grownCap w s.size 0 el))[i]? =some v'/\VR ι v v'/\v'.oneCell'=true:=by
      intro i v hi
      obtain ⟨v',a,b⟩:=(mi (ι:=ι) s).get hi
      refine ⟨v', ?_,b, ?_⟩
      ·have hlt:i<s.data.size:=by
        have:=(List.getElem?_eq_some_iff.1 hi).1
        simpa using this
       rw[bytesRow_at s _ i hlt]
       rw[←a]
       unfold byteCells
       rw[List.getElem?_map,List.getElem?_eq_getElem (by simpa using hlt)]
       simp
      ·obtain ⟨_,_,rfl⟩:=List.mem_map.1 (List.mem_of_getElem? a)
       rfl
     refine ⟨.cells false ((s.data.toList.map UInt8.toNat).map fun x=>NV.int .u8 (.lit (.ofNat x))),fun n=> .slc n 0 s.size 1 s.size,fun h=> ?_,by simp, ?_⟩
     ·show wV t y _=_
      unfold wV
      rw[h1]
      show re _ _=_
      rw[gN,bJ]
      show cond _ _ _=_
      rw[hlen,List.length_map,bM]
      exact NH.new_eq h (.cells false ((s.data.toList.map UInt8.toNat).map fun x=>NV.int .u8 (.lit (.ofNat x)))) fun id h=>NR.mem (.slc id 0 s.size 1 s.size) h
     refine ⟨_,w.drew,_,⟨w.drew.heap.size,0,(bytesRow s (grownCap w s.size 0 el)).size⟩,.inr rfl,by rw[aP,hrun];rfl,rfl,
      jv (fun hh=>by cases hh) (by rw[hbs,List.length_map,List.length_map,bM];exact hge) hcells,fun ι' n _ hn=>VR.slc _ 0 s.size 1 _ _ ⟨w.heap.size,0,none⟩ _ hn hge hge hcm (Nat.le_refl _) fun _=>⟨rfl,by rw[hbs];simp⟩⟩
    |_=>exact Q3 h2.symm hr
   ·cases hc
  ·split at hc
   ·cases hc;cases hcl
   ·cases hc
  ·split at hc
   ·replace hc:=(aB hc).2;cases hc;cases hcl
   ·cases hc
  ·cases hc
 ·cases hc
theorem uG {o:Oper} {h0:NH} {n:NOp} (hc:ap P o.op=some n) (hO:OE ι t e) (hcl:ax n= .alloc) (hr:af n t h0≠.fail):
 ∃ob V,AllocR P ι w (af n t) ((execOp e o).run P w) ob V:=by
 obtain ⟨dst,op,type,pos,after,guard⟩:=o
 cases op with
 |move x=>exact Q3 hcl (Dj x hc)
 |assign x=>exact Q3 hcl (yK x hc)
 |pick c a b=>exact Q3 hcl (D2 c a b hc)
 |alloc T=>exact uS hc hr
 |box T x=>exact CF hc hO hr
 |build T ps=>exact Q3 hcl (Bl T ps hc)
 |buildSlice T len ps=>exact mB hc hO hr
 |load T x=>exact Q3 hcl (Db T x hc)
 |store T a x=>exact Q3 hcl (BR T a x hc)
 |nilCheck x=>exact Q3 hcl (rU x hc)
 |binOp op T x y T2=>exact Q3 hcl (Bx op T x y T2 hc)
 |unOp op T x=>exact Q3 hcl (E8 op T x hc)
 |convert src T x=>exact xZ hc hO hcl hr
 |makeInterface T x=>exact Q3 hcl (lf T x hc)
 |makeFunc fn first caps=>
  cases fn with
  |func f=>exact Q3 hcl (EF f first caps hc)
  |_=>have hc:(none:Option NOp)=some n:=hc;cases hc
 |makeMap T r=>
  cases r with
  |none=>cases hc;exact vd
  |some r=>have hc:(none:Option NOp)=some n:=hc;cases hc
 |makeSlice T l c=>exact qg hc hO hr
 |slice T x lo hi mx=>
  cases mx with
  |none=>exact Q3 hcl (yF T x lo hi hc)
  |some mx=>
   cases lo with
   |none=>have hc:(none:Option NOp)=some n:=hc;cases hc
   |some lo=>
    cases hi with
    |none=>have hc:(none:Option NOp)=some n:=hc;cases hc
    |some hi=>exact Q3 hcl (xG T x lo hi mx hc)
 |fieldAddr s x f=>exact Q3 hcl (qC s x f hc)
 |field s x f=>exact Q3 hcl (B0 s x f hc)
 |indexAddr T x i=>exact Q3 hcl (qA T x i hc)
 |index T x i=>exact Q3 hcl (Bk T x i hc)
 |lookup T x i ok=>exact Q3 hcl (wc T x i ok hc)
 |mapUpdate T m k x=>exact Q3 hcl (qv T m k x hc)
 |insert T m k x=>exact Q3 hcl (wY T m k x hc)
 |typeAssert x X T ok=>
  cases ok with
  |false=>have hc:(none:Option NOp)=some n:=hc;cases hc
  |true=>exact Q3 hcl (pg x X T hc)
 |extract x i=>exact Q3 hcl (vB x i hc)
 |panic x=>exact Q3 hcl (Cr x hc)
 |call c=>
  obtain ⟨callee,args,ats⟩:=c
  cases callee with
  |value f=>
   replace hc:oY f args.toList=some n:=hc
   unfold oY at hc
   split at hc
   ·cases hc;cases hcl
   ·cases hc
  |builtin b=>
   replace hc:gb P b args.toList ats.toList=some n:=hc
   unfold gb at hc
   split at hc
   ·exact Q3 hcl (uz hc)
   ·cases hc
  |invoke r m=>have hc:(none:Option NOp)=some n:=hc;cases hc
 |defer c=>
  obtain ⟨callee,args,ats⟩:=c
  cases callee with
  |value f=>
   replace hc:fT f args.toList=some n:=hc
   unfold fT at hc
   split at hc
   ·cases hc;cases hcl
   ·cases hc
  |builtin b=>have hc:(none:Option NOp)=some n:=hc;cases hc
  |invoke r m=>have hc:(none:Option NOp)=some n:=hc;cases hc
 |_=>have hc:(none:Option NOp)=some n:=hc;cases hc
end
end Nm
namespace Nm
open Go
theorem BP {n:NOp} (hc:ax n= .pure) (t:Tm) (h h':NH):af n t h=af n t h':=by
 cases n<;>first|rfl|cases hc
def mF (h h':NH):Prop:=∀id o,h.get id=some o->h'.get id=some o
theorem mF.refl (h:NH):mF h h:=fun _ _ x=>x
theorem mF.trans {a b c:NH} (x:mF a b) (y:mF b c):mF a c:=fun i o h=>y i o (x i o h)
theorem mF.add {h:NH} (hf:∀i o,h.get i=some o->i.toNat<h.next.toNat) (o:NO):mF h (h.add o):=fun i u hi=>by
 have hne:i≠h.next:=fun e=>by have:=hf i u hi;rw[e] at this;exact Nat.lt_irrefl _ this
 rw[NH.get_add_ne _ _ hne];exact hi
theorem xj {h h':NH} (hx:mF h h') {id:D4} {K:List NV->NR} {v:NV} (e:eM h id K= .val v):eM h' id K= .val v:=by
 obtain ⟨wr,c,h1,h2⟩:=pP e (by simp)
 unfold eM
 rw[hx id _ h1];exact h2
theorem mJ {h h':NH} (hx:mF h h') {id:D4} {K:List NV->NR} {v:NV} (e:cV h id K= .val v):cV h' id K= .val v:=by
 obtain ⟨c,h1|h1,h2⟩:=jo e (by simp)
 all_goals
  obtain ⟨wr,h1⟩:=h1
  unfold cV
  rw[hx id _ h1];exact h2
theorem ug {h h':NH} (hx:mF h h') {m:NV} {K:List (NV×NV)->NR} {v:NV} (e:lT h m K= .val v):lT h' m K= .val v:=by
 rcases lr e (by simp) with ⟨rfl,h1⟩|⟨id,l,rfl,h1,h2⟩
 ·exact h1
 ·unfold lT
  dsimp only
  rw[hx id _ h1];exact h2
theorem mg {t:Tm} {x:NOpd} {K K':NV->NR} {v:NV} (e:wV t x K= .val v) (hk:∀u,K u= .val v->K' u= .val v):wV t x K'= .val v:=by
 obtain ⟨u,h1,h2⟩:=aK e (by simp)
 unfold wV
 rw[h1];exact hk u h2
theorem FZ {n:NOp} (hc:ax n= .read) {t:Tm} {h h':NH} (hx:mF h h') {v:NV} (e:af n t h= .val v):af n t h'= .val v:=by
 cases n with
 |load1 x=>
  refine mg (K':=fun a=>match a with| .ptr id off=>cV h' id fun c=>aX (jE c off) .val|_=> .fail) e fun u hu=> ?_
  cases u<;>first|exact mJ hx hu|exact hu
 |loadN k x=>
  refine mg (K':=fun a=>match a with| .ptr id off=>cV h' id fun c=>aX (fb c off k) fun l=> .val (.agg l)|_=> .fail) e fun u hu=> ?_
  cases u<;>first|exact mJ hx hu|exact hu
 |lookup s z ok x i=>
  refine mg (K':=fun m=>wV t i fun k=>lT h' m fun l=>aX (rg s k l) fun r=>Option.rec (Bool.rec (.val z) (.val (.tup [z,.bool false])) ok) (fun v=>Bool.rec (.val v) (.val (.tup [v,.bool true])) ok) r) e fun u hu=> ?_
  exact mg hu fun k hk=>ug hx hk
 |bytesToStr x=>
  refine mg (K':=fun v=>fK 1 h' v fun _ l=>aX (eX l) fun s=> .val (.str s)) e fun u hu=> ?_
  cases u with
  |slc id off len es kc=>
   have hu':cond (Nat.beq es 1) (eM h id fun c=>aX (fb c off (Nat.mul len 1)) fun l=>aX (eX l) fun s=> .val (.str s)) .fail=NR.val v:=hu
   obtain ⟨h1,h2⟩:=aR hu' (by simp)
   show cond (Nat.beq es 1) (eM h' id fun c=>aX (fb c off (Nat.mul len 1)) fun l=>aX (eX l) fun s=> .val (.str s)) .fail=NR.val v
   rw[h1]
   exact xj hx h2
  |_=>exact hu
 |lenMap x=>
  refine mg (K':=fun v=>lT h' v fun l=>dG l fun n=> .val (.int .i64 (.lit (.ofNat n)))) e fun u hu=> ?_
  exact ug hx hu
 |_=>cases hc
theorem jA:∀{a b:D4},bA a b=true->a=b:=by
 intro a
 induction a with
 |e=>intro b h;cases b<;>first|rfl|cases h
 |a d ih=>intro b h;cases b<;>first|(rw[ih h])|cases h
 |b d ih=>intro b h;cases b<;>first|(rw[ih h])|cases h
 |c d ih=>intro b h;cases b<;>first|(rw[ih h])|cases h
 |f d ih=>intro b h;cases b<;>first|(rw[ih h])|cases h
theorem fL {a b:Bool} (h:cond a b false=true):a=true/\b=true:=by
 cases a with
 |true=>exact ⟨rfl,h⟩
 |false=>cases h
theorem jG {f:NV->NV->Bool} (hf:∀a b,f a b=true->a=b):∀{l m:List NV},iU f l m=true->l=m:=by
 intro l
 induction l with
 |nil=>intro m h;cases m<;>first|rfl|cases h
 |cons a l ih=>
  intro m h
  cases m with
  |nil=>cases h
  |cons b m=>
   obtain ⟨h1,h2⟩:=fL (show cond (f a b) (iU f l m) false=true from h)
   rw[hf a b h1,ih h2]
theorem je:∀(d:Nat) (a b:NV),br d a b=true->a=b:=by
 intro d
 induction d with
 |zero=>intro a b h;cases h
 |succ d ih=>
  intro a b h
  replace h:Bj (br d) a b=true:=h
  unfold Bj at h
  split at h
  ·rw[jY] at h;rw[eq_of_beq h]
  ·obtain ⟨h1,h2⟩:=fL h
   rw[pD h1]
   rw[gh] at h2
   rw[eq_of_beq h2]
  ·rw[pR] at h;rw[eq_of_beq h]
  ·rfl
  ·rfl
  ·rfl
  ·rfl
  ·rfl
  ·obtain ⟨h1,h2⟩:=fL h
   rw[jA h1,Ra h2]
  ·obtain ⟨h1,h2⟩:=fL h
   obtain ⟨h3,h4⟩:=fL h2
   obtain ⟨h5,h6⟩:=fL h4
   obtain ⟨h7,h8⟩:=fL h6
   rw[jA h1,Ra h3,Ra h5,Ra h7,Ra h8]
  ·rw[jA h]
  ·rw[jA h]
  ·obtain ⟨h1,h2⟩:=fL h
   rw[Ra h1,jG ih h2]
  ·rw[jG ih h]
  ·rw[jG ih h]
  ·cases h
theorem rk {pre:Nat} {h:NH}:∀{l:List (Nat×(NH->NR)×NV)},stays pre h l=true->∀r∈l,pre.testBit r.1=false->r.2.1 h= .val r.2.2:=by
 intro l
 induction l with
 |nil=>intro _ r hr;cases hr
 |cons a l ih=>
  intro h1 r hr hb
  have h':cond (Nat.testBit pre a.1) (stays pre h l) (match a.2.1 h with| .val v=>cond (br 4 v a.2.2) (stays pre h l) false|_=>false)=true:=h1
  cases hp:Nat.testBit pre a.1 with
  |true=>
   rw[hp] at h'
   rcases List.mem_cons.1 hr with rfl|hr
   ·rw[hp] at hb;cases hb
   ·exact ih h' r hr hb
  |false=>
   rw[hp] at h'
   simp only[cond_false] at h'
   split at h'
   ·rename_i v hv
    obtain ⟨h2,h3⟩:=fL h'
    rcases List.mem_cons.1 hr with rfl|hr
    ·rw[hv,je _ _ _ h2]
    ·exact ih h3 r hr hb
   ·cases h'
theorem ri {pre:Nat} {f:NH->NR} {v:NV}:∀{l:List (Nat×NH)},e9 pre f v l=true->∀r∈l,pre.testBit r.1=false->f r.2= .val v:=by
 intro l
 induction l with
 |nil=>intro _ r hr;cases hr
 |cons a l ih=>
  intro h1 r hr hb
  have h':cond (Nat.testBit pre a.1) (e9 pre f v l) (match f a.2 with| .val u=>cond (br 4 u v) (e9 pre f v l) false|_=>false)=true:=h1
  cases hp:Nat.testBit pre a.1 with
  |true=>
   rw[hp] at h'
   rcases List.mem_cons.1 hr with rfl|hr
   ·rw[hp] at hb;cases hb
   ·exact ih h' r hr hb
  |false=>
   rw[hp] at h'
   simp only[cond_false] at h'
   split at h'
   ·rename_i u hu
    obtain ⟨h2,h3⟩:=fL h'
    rcases List.mem_cons.1 hr with rfl|hr
    ·rw[hu,je _ _ _ h2]
    ·exact ih h3 r hr hb
   ·cases h'
theorem hH {pre:Nat}:∀{l:List (Nat×NH)},ahead pre l=true->∀r∈l,pre.testBit r.1=true:=by
 intro l
 induction l with
 |nil=>intro _ r hr;cases hr
 |cons a l ih=>
  intro h1 r hr
  obtain ⟨h2,h3⟩:=fL (show cond (Nat.testBit pre a.1) (ahead pre l) false=true from h1)
  rcases List.mem_cons.1 hr with rfl|hr
  ·exact h2
  ·exact ih h3 r hr
theorem yb {i:Nat}:∀{l:List NOper},bQ i l=true->∀o∈l,o.pre.testBit i=true:=by
 intro l
 induction l with
 |nil=>intro _ r hr;cases hr
 |cons a l ih=>
  intro h1 r hr
  obtain ⟨h2,h3⟩:=fL (show cond (Nat.testBit a.pre i) (bQ i l) false=true from h1)
  rcases List.mem_cons.1 hr with rfl|hr
  ·exact h2
  ·exact ih h3 r hr
theorem BG:∀{l:List NOper} {m m':Nat},ul l m=some m'->
 (∀j,m'.testBit j=true↔m.testBit j=true∨∃o∈l,o.idx=j)/\(l.map (·.idx)).Nodup/\(∀o∈l,m.testBit o.idx=false)/\
 (∀l1 o l2,l=l1++o::l2->∀j,o.pre.testBit j=true->m.testBit j=true∨∃o'∈l1,o'.idx=j):=by
 intro l
 induction l with
 |nil=>
  intro m m' h
  cases h
  exact ⟨fun j=>by simp,by simp,by simp,fun l1 o l2 h=>by cases l1<;>cases h⟩
 |cons a l ih=>
  intro m m' h
  have h':cond (Nat.testBit m a.idx) none (cond (Nat.beq (Nat.land a.pre m) a.pre) (aq (Nat.lor m (Nat.pow 2 a.idx)) (ul l)) none)=some m':=h
  cases hb:Nat.testBit m a.idx with
  |true=>rw[hb] at h';cases h'
  |false=>
   rw[hb] at h'
   obtain ⟨h2,h3⟩:=aB (show cond (Nat.beq (Nat.land a.pre m) a.pre) (aq (Nat.lor m (Nat.pow 2 a.idx)) (ul l)) none=some m' from h')
   rw[ag] at h3
   obtain ⟨i1,i2,i3,i4⟩:=ih h3
   have hbit:∀j,(Nat.lor m (Nat.pow 2 a.idx)).testBit j=true↔m.testBit j=true∨a.idx=j:=fun j=>by
    have e:Nat.lor m (Nat.pow 2 a.idx)=m|||2 ^ a.idx:=rfl
    rw[e,Nat.testBit_or,Bool.or_eq_true,Nat.testBit_two_pow]
    simp
   have hpre:∀j,a.pre.testBit j=true->m.testBit j=true:=fun j hj=>by
    have e:a.pre&&& m=a.pre:=Ra h2
    rw[←e,Nat.testBit_and,Bool.and_eq_true] at hj
    exact hj.2
   refine ⟨fun j=> ?_, ?_, ?_, ?_⟩
   ·rw[i1 j,hbit j]
    constructor
    ·rintro ((h|h)|⟨o,h,h'⟩)
     ·exact .inl h
     ·exact .inr ⟨a,by simp,h⟩
     ·exact .inr ⟨o,by simp[h],h'⟩
    ·rintro (h|⟨o,h,hoj⟩)
     ·exact .inl (.inl h)
     ·rcases List.mem_cons.1 h with rfl|h
      ·exact .inl (.inr hoj)
      ·exact .inr ⟨o,h,hoj⟩
   ·rw[List.map_cons,List.nodup_cons]
    refine ⟨fun hm=> ?_,i2⟩
    obtain ⟨o,ho,he⟩:=List.mem_map.1 hm
    have:=i3 o ho
    have h4:=(hbit o.idx).2 (.inr he.symm)
    rw[this] at h4;cases h4
   ·intro o ho
    rcases List.mem_cons.1 ho with rfl|ho
    ·exact hb
    ·cases hq:m.testBit o.idx with
     |false=>rfl
     |true=>have h4:=(hbit o.idx).2 (.inl hq);rw[i3 o ho] at h4;cases h4
   ·intro l1 o l2 he j hj
    cases l1 with
    |nil=>cases he;exact .inl (hpre j hj)
    |cons c l1=>
     injection he with he1 he2
     subst he1
     rcases i4 l1 o l2 he2 j hj with h4|⟨o',h4,h5⟩
     ·rcases (hbit j).1 h4 with h6|h6
      ·exact .inl h6
      ·exact .inr ⟨a,by simp,h6⟩
     ·exact .inr ⟨o',by simp[h4],h5⟩
end Nm
namespace Nm
open Go
inductive RK where
 |off
 |pure (v:NV)
 |alloc (v:NV) (h:NH)
 |read (v:NV)
 |eff (v:NV) (dfs:List Dfr) (ctx:Option NV) (h:NH)
structure Rec where
 o:NOper
 t:Tm
 dfs:List Dfr
 ctx:Option NV
 h:NH
 k:RK
def Rec.st (r:Rec):Dyn:=⟨r.t,r.dfs,r.ctx,r.h⟩
def Rec.val (r:Rec):NV:=match r.k with| .off=>aS| .pure v| .alloc v _| .read v| .eff v _ _ _=>v
noncomputable def Rec.nx (r:Rec):Dyn:=match r.k with
 | .off| .pure _| .read _=>⟨aQ r.o.dst r.val r.t,r.dfs,r.ctx,r.h⟩
 | .alloc _ h=>⟨aQ r.o.dst r.val r.t,r.dfs,r.ctx,h⟩
 | .eff _ dfs ctx h=>⟨aQ r.o.dst r.val r.t,dfs,ctx,h⟩
section
variable (P:Program) (S:cR) (self:Option D4->NC->Dyn->Res) (rnd:Option D4)
def Rec.ok (r:Rec):Prop:=match r.k with
 | .off=>az r.t r.o.guard=some false
 | .pure v=>az r.t r.o.guard=some true/\ax r.o.op= .pure/\af r.o.op r.t r.h= .val v
 | .alloc v h=>az r.t r.o.guard=some true/\ax r.o.op= .alloc/\af r.o.op r.t r.h= .mem v h
 | .read v=>az r.t r.o.guard=some true/\ax r.o.op= .read/\af r.o.op r.t r.h= .val v
 | .eff v dfs ctx h=>az r.t r.o.guard=some true/\ax r.o.op= .eff/\eL P S self rnd r.dfs r.ctx r.h (af r.o.op r.t r.h)= .next v dfs ctx h
inductive Chain:Dyn->List Rec->Dyn->Prop
 |nil (d:Dyn):Chain d [] d
 |cons (r:Rec) (R:List Rec) (d':Dyn) (h:r.ok P S self rnd) (c:Chain r.nx R d'):Chain r.st (r::R) d'
def QE (i:Nat) (h0:NH) (r:Rec):Prop:=match r.k with
 | .alloc _ _| .eff _ _ _ _=>r.o.pre.testBit i=true
 | .read v=>r.o.pre.testBit i=false->af r.o.op r.t h0= .val v
 |_=>True
def QR (i:Nat) (f:NH->NR) (v:NV) (r:Rec):Prop:=match r.k with
 | .eff _ _ _ h=>r.o.pre.testBit i=false->f h= .val v
 |_=>True
def QQ (r r':Rec):Prop:=match r.k with
 | .eff _ _ _ _=>QE r.o.idx r.h r'
 | .read v=>QR r.o.idx (af r.o.op r.t) v r'
 |_=>True
end
section
variable {P:Program} {S:cR} {self:Option D4->NC->Dyn->Res} {rnd:Option D4}
theorem cm (o:NOper) (l:List NOper) (hs:List (Nat×NH)) (rs:List (Nat×(NH->NR)×NV)) (t:Tm) (dfs:List Dfr) (ctx:Option NV) (h:NH):
 cd P S self rnd (o::l) hs rs ⟨t,dfs,ctx,h⟩=match az t o.guard with
  |none=> .fail
  |some false=>cd P S self rnd l hs rs ⟨aQ o.dst aS t,dfs,ctx,h⟩
  |some true=>match ax o.op with
   | .pure=>(match af o.op t h with
    | .val v=>cd P S self rnd l hs rs ⟨aQ o.dst v t,dfs,ctx,h⟩
    |_=> .fail)
   | .alloc=>cond (ahead o.pre hs) (match af o.op t h with
    | .mem v h=>cd P S self rnd l hs rs ⟨aQ o.dst v t,dfs,ctx,h⟩
    |_=> .fail) .fail
   | .read=>(match af o.op t h with
    | .val v=>cond (e9 o.pre (af o.op t) v hs) (cd P S self rnd l hs ((o.idx,af o.op t,v)::rs) ⟨aQ o.dst v t,dfs,ctx,h⟩) .fail
    |_=> .fail)
   | .eff=>cond (ahead o.pre hs) (dQ (bQ o.idx l) (vW o.dst (fun d=>cond (stays o.pre d.h rs) (cd P S self rnd l ((o.idx,h)::hs) rs d) .fail) t dfs ctx (eL P S self rnd dfs ctx h (af o.op t h)))) .fail:=by
 have e:cd P S self rnd (o::l) hs rs ⟨t,dfs,ctx,h⟩=Option.rec .fail (fun on=>Bool.rec (jI o.dst aS t fun t=>cd P S self rnd l hs rs ⟨t,dfs,ctx,h⟩)
  (match ax o.op with
   | .pure=>(match af o.op t h with
    | .val v=>jI o.dst v t fun t=>cd P S self rnd l hs rs ⟨t,dfs,ctx,h⟩
    |_=> .fail)
   | .alloc=>cond (ahead o.pre hs) (match af o.op t h with
    | .mem v h=>jI o.dst v t fun t=>cd P S self rnd l hs rs ⟨t,dfs,ctx,h⟩
    |_=> .fail) .fail
   | .read=>(match af o.op t h with
    | .val v=>cond (e9 o.pre (af o.op t) v hs) (jI o.dst v t fun t'=>cd P S self rnd l hs ((o.idx,af o.op t,v)::rs) ⟨t',dfs,ctx,h⟩) .fail
    |_=> .fail)
   | .eff=>cond (ahead o.pre hs) (dQ (bQ o.idx l) (pe P S self rnd o.dst (fun d=>cond (stays o.pre d.h rs) (cd P S self rnd l ((o.idx,h)::hs) rs d) .fail) t dfs ctx h (af o.op t h))) .fail) on)
  (az t o.guard):=rfl
 rw[e]
 cases az t o.guard with
 |none=>rfl
 |some on=>
  cases on with
  |false=>exact eg o.dst aS t fun t=>cd P S self rnd l hs rs ⟨t,dfs,ctx,h⟩
  |true=>
   dsimp only
   cases ax o.op with
   |pure=>
    dsimp only
    cases af o.op t h<;>first|rfl|exact eg o.dst _ t fun t=>cd P S self rnd l hs rs ⟨t,dfs,ctx,h⟩
   |alloc=>
    dsimp only
    congr 1
    cases af o.op t h with
    |mem v h=>exact eg o.dst v t fun t=>cd P S self rnd l hs rs ⟨t,dfs,ctx,h⟩
    |_=>rfl
   |read=>
    dsimp only
    cases af o.op t h with
    |val v=>exact congrArg (fun x=>cond (e9 o.pre (af o.op t) v hs) x .fail) (eg o.dst v t fun t'=>cd P S self rnd l hs ((o.idx,af o.op t,v)::rs) ⟨t',dfs,ctx,h⟩)
    |_=>rfl
   |eff=>
    dsimp only
    rw[qO]
theorem ws {b:Bool} {r:Res} {d:Dyn} (h:dQ b r= .mk .norm d):r= .mk .norm d:=by
 unfold dQ at h
 split at h
 ·cases b<;>cases h
 ·exact h
theorem Bn {b:Bool} {r:Res} {v:NV} {d:Dyn} (h:dQ b r= .mk (.pan v) d):r= .mk (.pan v) d/\b=true:=by
 unfold dQ at h
 split at h
 ·cases b with
  |true=>exact ⟨h,rfl⟩
  |false=>cases h
 ·rename_i hn;exact Q3 h (hn v d)
theorem Bv:∀(l:List NOper) (hs:List (Nat×NH)) (rs:List (Nat×(NH->NR)×NV)) (d d':Dyn),cd P S self rnd l hs rs d= .mk .norm d'->
 ∃R:List Rec,R.map (·.o)=l/\Chain P S self rnd d R d'/\R.Pairwise QQ/\(∀e∈hs,∀r∈R,QE e.1 e.2 r)/\(∀e∈rs,∀r∈R,QR e.1 e.2.1 e.2.2 r):=by
 intro l
 induction l with
 |nil=>
  intro hs rs d d' h
  cases h
  exact ⟨[],rfl,.nil _,.nil,by simp,by simp⟩
 |cons o l ih=>
  intro hs rs d d' h
  obtain ⟨t,dfs,ctx,hp⟩:=d
  rw[cm] at h
  cases hg:az t o.guard with
  |none=>rw[hg] at h;cases h
  |some on=>
   rw[hg] at h
   cases on with
   |false=>
    obtain ⟨R,h1,h2,h3,h4,h5⟩:=ih hs rs _ d' h
    refine ⟨⟨o,t,dfs,ctx,hp,.off⟩::R,by rw[List.map_cons,h1],.cons ⟨o,t,dfs,ctx,hp,.off⟩ R d' hg h2,.cons (fun r _=>trivial) h3,fun e he r hr=> ?_,fun e he r hr=> ?_⟩
    ·rcases List.mem_cons.1 hr with rfl|hr
     ·trivial
     ·exact h4 e he r hr
    ·rcases List.mem_cons.1 hr with rfl|hr
     ·trivial
     ·exact h5 e he r hr
   |true=>
    dsimp only at h
    cases hcl:ax o.op with
    |pure=>
     rw[hcl] at h
     dsimp only at h
     cases hop:af o.op t hp with
     |val v=>
      rw[hop] at h
      obtain ⟨R,h1,h2,h3,h4,h5⟩:=ih hs rs _ d' h
      refine ⟨⟨o,t,dfs,ctx,hp,.pure v⟩::R,by rw[List.map_cons,h1],.cons ⟨o,t,dfs,ctx,hp,.pure v⟩ R d' ⟨hg,hcl,hop⟩ h2,.cons (fun r _=>trivial) h3,fun e he r hr=> ?_,fun e he r hr=> ?_⟩
      ·rcases List.mem_cons.1 hr with rfl|hr
       ·trivial
       ·exact h4 e he r hr
      ·rcases List.mem_cons.1 hr with rfl|hr
       ·trivial
       ·exact h5 e he r hr
     |_=>rw[hop] at h;cases h
    |alloc=>
     rw[hcl] at h
     dsimp only at h
     cases ha:ahead o.pre hs with
     |false=>rw[ha] at h;cases h
     |true=>
      rw[ha] at h
      simp only[cond_true] at h
      cases hop:af o.op t hp with
      |mem v h0=>
       rw[hop] at h
       obtain ⟨R,h1,h2,h3,h4,h5⟩:=ih hs rs _ d' h
       refine ⟨⟨o,t,dfs,ctx,hp,.alloc v h0⟩::R,by rw[List.map_cons,h1],.cons ⟨o,t,dfs,ctx,hp,.alloc v h0⟩ R d' ⟨hg,hcl,hop⟩ h2,.cons (fun r _=>trivial) h3,fun e he r hr=> ?_,fun e he r hr=> ?_⟩
       ·rcases List.mem_cons.1 hr with rfl|hr
        ·exact hH ha e he
        ·exact h4 e he r hr
       ·rcases List.mem_cons.1 hr with rfl|hr
        ·trivial
        ·exact h5 e he r hr
      |_=>rw[hop] at h;cases h
    |read=>
     rw[hcl] at h
     dsimp only at h
     cases hop:af o.op t hp with
     |val v=>
      rw[hop] at h
      dsimp only at h
      cases hst:e9 o.pre (af o.op t) v hs with
      |false=>rw[hst] at h;cases h
      |true=>
       rw[hst] at h
       obtain ⟨R,h1,h2,h3,h4,h5⟩:=ih hs ((o.idx,af o.op t,v)::rs) _ d' h
       refine ⟨⟨o,t,dfs,ctx,hp,.read v⟩::R,by rw[List.map_cons,h1],.cons ⟨o,t,dfs,ctx,hp,.read v⟩ R d' ⟨hg,hcl,hop⟩ h2,.cons (fun r hr=>h5 (o.idx,af o.op t,v) (by simp) r hr) h3,fun e he r hr=> ?_,fun e he r hr=> ?_⟩
       ·rcases List.mem_cons.1 hr with rfl|hr
        ·exact fun hb=>ri hst e he hb
        ·exact h4 e he r hr
       ·rcases List.mem_cons.1 hr with rfl|hr
        ·trivial
        ·exact h5 e (by simp[he]) r hr
     |_=>rw[hop] at h;cases h
    |eff=>
     rw[hcl] at h
     dsimp only at h
     cases ha:ahead o.pre hs with
     |false=>rw[ha] at h;cases h
     |true=>
      rw[ha] at h
      replace h:=ws h
      cases hoo:eL P S self rnd dfs ctx hp (af o.op t hp) with
      |fail=>rw[hoo] at h;cases h
      |pan v h0=>rw[hoo] at h;cases h
      |next v dfs1 ctx1 h0=>
       rw[hoo] at h
       have h':cond (stays o.pre h0 rs) (cd P S self rnd l ((o.idx,hp)::hs) rs ⟨aQ o.dst v t,dfs1,ctx1,h0⟩) .fail= .mk .norm d':=h
       cases hsy:stays o.pre h0 rs with
       |false=>rw[hsy] at h';cases h'
       |true=>
        rw[hsy] at h'
        obtain ⟨R,h1,h2,h3,h4,h5⟩:=ih ((o.idx,hp)::hs) rs _ d' h'
        refine ⟨⟨o,t,dfs,ctx,hp,.eff v dfs1 ctx1 h0⟩::R,by rw[List.map_cons,h1],.cons ⟨o,t,dfs,ctx,hp,.eff v dfs1 ctx1 h0⟩ R d' ⟨hg,hcl,hoo⟩ h2,.cons (fun r hr=>h4 (o.idx,hp) (by simp) r hr) h3,fun e he r hr=> ?_,fun e he r hr=> ?_⟩
        ·rcases List.mem_cons.1 hr with rfl|hr
         ·exact hH ha e he
         ·exact h4 e (by simp[he]) r hr
        ·rcases List.mem_cons.1 hr with rfl|hr
         ·exact fun hb=>rk hsy e he hb
         ·exact h5 e he r hr
def Rec.isE (r:Rec):Prop:=match r.k with| .eff _ _ _ _=>True|_=>False
theorem Fb {v:NV}:∀(l:List NOper) (hs:List (Nat×NH)) (rs:List (Nat×(NH->NR)×NV)) (d d':Dyn),cd P S self rnd l hs rs d= .mk (.pan v) d'->
 ∃(R:List Rec) (q:Rec) (l2:List NOper) (h':NH),l=R.map (·.o)++q.o::l2/\Chain P S self rnd d R q.st/\R.Pairwise QQ/\(∀e∈hs,∀r∈R,QE e.1 e.2 r)/\(∀e∈rs,∀r∈R,QR e.1 e.2.1 e.2.2 r)/\
  az q.t q.o.guard=some true/\ax q.o.op= .eff/\eL P S self rnd q.dfs q.ctx q.h (af q.o.op q.t q.h)= .pan v h'/\d'=⟨q.t,q.dfs,q.ctx,h'⟩/\
  (∀e∈hs,q.o.pre.testBit e.1=true)/\(∀r∈R,r.isE->q.o.pre.testBit r.o.idx=true)/\∀o∈l2,o.pre.testBit q.o.idx=true:=by
 intro l
 induction l with
 |nil=>intro hs rs d d' h;cases h
 |cons o l ih=>
  intro hs rs d d' h
  obtain ⟨t,dfs,ctx,hp⟩:=d
  rw[cm] at h
  have fin:∀(r0:Rec) (hs1:List (Nat×NH)) (rs1:List (Nat×(NH->NR)×NV)),r0.o=o->r0.st=⟨t,dfs,ctx,hp⟩->r0.ok P S self rnd->cd P S self rnd l hs1 rs1 r0.nx= .mk (.pan v) d'->(∀e∈hs,e∈hs1)->(∀e∈rs,e∈rs1)->
   (∀R:List Rec,(∀e∈hs1,∀r∈R,QE e.1 e.2 r)->(∀e∈rs1,∀r∈R,QR e.1 e.2.1 e.2.2 r)->∀r∈R,QQ r0 r)->(∀e∈hs,QE e.1 e.2 r0)->(∀e∈rs,QR e.1 e.2.1 e.2.2 r0)->(r0.isE->∃h,(r0.o.idx,h)∈hs1)->
   ∃(R:List Rec) (q:Rec) (l2:List NOper) (h':NH),o::l=R.map (·.o)++q.o::l2/\Chain P S self rnd ⟨t,dfs,ctx,hp⟩ R q.st/\R.Pairwise QQ/\(∀e∈hs,∀r∈R,QE e.1 e.2 r)/\(∀e∈rs,∀r∈R,QR e.1 e.2.1 e.2.2 r)/\
    az q.t q.o.guard=some true/\ax q.o.op= .eff/\eL P S self rnd q.dfs q.ctx q.h (af q.o.op q.t q.h)= .pan v h'/\d'=⟨q.t,q.dfs,q.ctx,h'⟩/\
    (∀e∈hs,q.o.pre.testBit e.1=true)/\(∀r∈R,r.isE->q.o.pre.testBit r.o.idx=true)/\∀o∈l2,o.pre.testBit q.o.idx=true:=by
   intro r0 hs1 rs1 e1 e2 hok hrun s1 s2 hqq hqe hqr hise
   obtain ⟨R,q,l2,h',q1,q2,q3,q4,q5,q6,q7,q8,q9,q10,q11,q12⟩:=ih hs1 rs1 _ d' hrun
   refine ⟨r0::R,q,l2,h',by rw[q1,List.map_cons,e1];rfl,e2▸.cons r0 R q.st hok q2,.cons (hqq R q4 q5) q3,fun e he r hr=> ?_,fun e he r hr=> ?_,q6,q7,q8,q9,fun e he=>q10 e (s1 e he),fun r hr hE=> ?_,q12⟩
   ·rcases List.mem_cons.1 hr with rfl|hr
    ·exact hqe e he
    ·exact q4 e (s1 e he) r hr
   ·rcases List.mem_cons.1 hr with rfl|hr
    ·exact hqr e he
    ·exact q5 e (s2 e he) r hr
   ·rcases List.mem_cons.1 hr with rfl|hr
    ·obtain ⟨h0,hm⟩:=hise hE;exact q10 _ hm
    ·exact q11 r hr hE
  cases hg:az t o.guard with
  |none=>rw[hg] at h;cases h
  |some on=>
   rw[hg] at h
   cases on with
   |false=>exact fin ⟨o,t,dfs,ctx,hp,.off⟩ hs rs rfl rfl hg h (fun _ x=>x) (fun _ x=>x) (fun _ _ _ _ _=>trivial) (fun _ _=>trivial) (fun _ _=>trivial) (fun x=>x.elim)
   |true=>
    dsimp only at h
    cases hcl:ax o.op with
    |pure=>
     rw[hcl] at h
     dsimp only at h
     cases hop:af o.op t hp with
     |val u=>
      rw[hop] at h
      exact fin ⟨o,t,dfs,ctx,hp,.pure u⟩ hs rs rfl rfl ⟨hg,hcl,hop⟩ h (fun _ x=>x) (fun _ x=>x) (fun _ _ _ _ _=>trivial) (fun _ _=>trivial) (fun _ _=>trivial) (fun x=>x.elim)
     |_=>rw[hop] at h;cases h
    |alloc=>
     rw[hcl] at h
     dsimp only at h
     cases ha:ahead o.pre hs with
     |false=>rw[ha] at h;cases h
     |true=>
      rw[ha] at h
      simp only[cond_true] at h
      cases hop:af o.op t hp with
      |mem u h0=>
       rw[hop] at h
       exact fin ⟨o,t,dfs,ctx,hp,.alloc u h0⟩ hs rs rfl rfl ⟨hg,hcl,hop⟩ h (fun _ x=>x) (fun _ x=>x) (fun _ _ _ _ _=>trivial) (fun e he=>hH ha e he) (fun _ _=>trivial) (fun x=>x.elim)
      |_=>rw[hop] at h;cases h
    |read=>
     rw[hcl] at h
     dsimp only at h
     cases hop:af o.op t hp with
     |val u=>
      rw[hop] at h
      dsimp only at h
      cases hst:e9 o.pre (af o.op t) u hs with
      |false=>rw[hst] at h;cases h
      |true=>
       rw[hst] at h
       exact fin ⟨o,t,dfs,ctx,hp,.read u⟩ hs ((o.idx,af o.op t,u)::rs) rfl rfl ⟨hg,hcl,hop⟩ h (fun _ x=>x) (fun _ x=>by simp[x]) (fun R _ h5 r hr=>h5 (o.idx,af o.op t,u) (by simp) r hr) (fun e he hb=>ri hst e he hb) (fun _ _=>trivial) (fun x=>x.elim)
     |_=>rw[hop] at h;cases h
    |eff=>
     rw[hcl] at h
     dsimp only at h
     cases ha:ahead o.pre hs with
     |false=>rw[ha] at h;cases h
     |true=>
      rw[ha] at h
      obtain ⟨h,hbh⟩:=Bn h
      cases hoo:eL P S self rnd dfs ctx hp (af o.op t hp) with
      |fail=>rw[hoo] at h;cases h
      |pan u h0=>
       rw[hoo] at h
       cases h
       exact ⟨[],⟨o,t,dfs,ctx,hp,.off⟩,l,h0,rfl,.nil _,.nil,by simp,by simp,hg,hcl,hoo,rfl,fun e he=>hH ha e he,by simp,yb hbh⟩
      |next u dfs1 ctx1 h0=>
       rw[hoo] at h
       have h':cond (stays o.pre h0 rs) (cd P S self rnd l ((o.idx,hp)::hs) rs ⟨aQ o.dst u t,dfs1,ctx1,h0⟩) .fail= .mk (.pan v) d':=h
       cases hsy:stays o.pre h0 rs with
       |false=>rw[hsy] at h';cases h'
       |true=>
        rw[hsy] at h'
        exact fin ⟨o,t,dfs,ctx,hp,.eff u dfs1 ctx1 h0⟩ ((o.idx,hp)::hs) rs rfl rfl ⟨hg,hcl,hoo⟩ h' (fun _ x=>by simp[x]) (fun _ x=>x) (fun R h4 _ r hr=>h4 (o.idx,hp) (by simp) r hr) (fun e he=>hH ha e he) (fun e he hb=>rk hsy e he hb) (fun _=>⟨hp,by simp⟩)
end
end Nm
namespace Nm
open Go
theorem NT.get_del_same {α:Type} (d:D4) (t:NT α):NT.get d (NT.del d t)=none:=by
 induction d generalizing t with
 |e=>cases t<;>rfl
 |a d ih=>cases t<;>first|rfl|exact ih _
 |b d ih=>cases t<;>first|rfl|exact ih _
 |c d ih=>cases t<;>first|rfl|exact ih _
 |f d ih=>cases t<;>first|rfl|exact ih _
theorem NT.get_del_ne {α:Type} {d i:D4} (h:i≠d) (t:NT α):NT.get i (NT.del d t)=NT.get i t:=by
 induction d generalizing t i with
 |e=>cases i<;>first|exact Q3 rfl h|(cases t<;>rfl)
 |a d ih=>cases i<;>cases t<;>first|rfl|exact ih (fun x=>h (by rw[x])) _
 |b d ih=>cases i<;>cases t<;>first|rfl|exact ih (fun x=>h (by rw[x])) _
 |c d ih=>cases i<;>cases t<;>first|rfl|exact ih (fun x=>h (by rw[x])) _
 |f d ih=>cases i<;>cases t<;>first|rfl|exact ih (fun x=>h (by rw[x])) _
theorem Cl:∀{l:List NOper} {t:Tm} {k:D4} {v:NV},NT.get k (lw l t)=some v->NT.get k t=some v/\∀o∈l,o.dst≠some k:=by
 intro l
 induction l with
 |nil=>intro t k v h;exact ⟨h,by simp⟩
 |cons o l ih=>
  intro t k v h
  have h':NT.get k (match o.dst with|some d=>NT.del d (lw l t)|none=>lw l t)=some v:=h
  cases hd:o.dst with
  |none=>
   rw[hd] at h'
   obtain ⟨h1,h2⟩:=ih h'
   refine ⟨h1,fun o' ho=> ?_⟩
   rcases List.mem_cons.1 ho with rfl|ho
   ·rw[hd];simp
   ·exact h2 o' ho
  |some d=>
   rw[hd] at h'
   dsimp only at h'
   have hne:k≠d:=fun e=>by rw[e,NT.get_del_same] at h';cases h'
   rw[NT.get_del_ne hne] at h'
   obtain ⟨h1,h2⟩:=ih h'
   refine ⟨h1,fun o' ho=> ?_⟩
   rcases List.mem_cons.1 ho with rfl|ho
   ·rw[hd];exact fun e=>hne (Option.some.inj e).symm
   ·exact h2 o' ho
structure Lay (P:Program) (ops:Array Oper) (l:List NOper):Prop where
 mem:∀no∈l,∃o,ops[no.idx]? =some o/\no.dst=o.dst.map D4.of/\(ap P o.op=some no.op∨no.op= .fail)/\oX ops o.guard no.guard/\no.pre=vR ops no.idx
 nodup:(l.map (·.idx)).Nodup
 all:∀i,i<ops.size->∃no∈l,no.idx=i
 pre:∀l1 o l2,l=l1++o::l2->∀j,o.pre.testBit j=true->∃o'∈l1,o'.idx=j
 once:∀(i j:Nat) (oi oj:Oper) (t:Nat),ops[i]? =some oi->ops[j]? =some oj->oi.dst=some t->oj.dst=some t->i=j
theorem qw {P:Program} {ops:Array Oper}:∀(l:List Oper) (i:Nat) (nl:List NOper) (pre:List Nat),(∀j,l[j]? =ops[i+j]?)->(∀j,pre.getD j 0=vR ops (i+j))->ez P ops l i pre=some nl->
 ∀no∈nl,∃o,ops[no.idx]? =some o/\no.dst=o.dst.map D4.of/\(ap P o.op=some no.op∨no.op= .fail)/\oX ops o.guard no.guard/\no.pre=vR ops no.idx:=by
 intro l
 induction l with
 |nil=>intro i nl pre _ _ hc no hno;cases hc;cases hno
 |cons o1 l ih=>
  intro i nl pre hl hp hc no hno
  have hc':(match jJ P ops o1 (pre.headD 0) i,ez P ops l (Nat.succ i) pre.tail with|some o,some l=>some (o::l)|_,_=>none)=some nl:=hc
  split at hc'
  ·rename_i no' nl' h1 h2
   cases hc'
   rcases List.mem_cons.1 hno with rfl|hno
   ·obtain ⟨i1,i2,i3,i4,i5⟩:=lq h1
    have ho:ops[i]? =some o1:=by have:=hl 0;simpa using this.symm
    have hpi:pre.headD 0=vR ops i:=by have:=hp 0;cases pre<;>simpa using this
    exact ⟨o1,by rw[i5];exact ho,i1,i2,i3,by rw[i4,i5,hpi]⟩
   ·refine ih (Nat.succ i) nl' pre.tail (fun j=> ?_) (fun j=> ?_) h2 no hno
    ·have:=hl (j+1);simp at this;rw[this];congr 1;omega
    ·have:=hp (j+1)
     rw[show Nat.succ i+j=i+(j+1) by omega,←this]
     cases pre<;>simp
  ·cases hc'
theorem mm {k:Nat} {es:List Nat} {eff:Bool} {rest:List NOper}:∀{l:List NOper} {o:NOper},o∈lA k es eff l rest->o∈l∨o∈rest:=by
 intro l
 induction l with
 |nil=>intro o h;exact .inr h
 |cons a l ih=>
  intro o h
  have h':o∈(Bool.rec (lA k es eff l rest) (a::lA k es eff l rest) (Bool.rec false (Nat.beq (Di a.pre es) k) (Bool.rec (Bool.rec true false eff) eff (yV (ax a.op)))):List NOper):=h
  generalize (Bool.rec false (Nat.beq (Di a.pre es) k) (Bool.rec (Bool.rec true false eff) eff (yV (ax a.op))):Bool)=c at h'
  cases c with
  |false=>rcases ih h' with h|h<;>simp[h]
  |true=>
   rcases List.mem_cons.1 h' with rfl|h'
   ·simp
   ·rcases ih h' with h|h<;>simp[h]
theorem w7 {es:List Nat} {l:List NOper}:∀{ks:List Nat} {k:Nat} {o:NOper},o∈vT es l ks k->o∈l:=by
 intro ks
 induction ks with
 |nil=>
  intro k o h
  rcases mm (show o∈lA k es false l [] from h) with h|h
  ·exact h
  ·cases h
 |cons a ks ih=>
  intro k o h
  have h':o∈lA k es false l (lA k es true l (aq (Nat.succ k) (vT es l ks))):=h
  rw[ag] at h'
  rcases mm h' with h|h
  ·exact h
  ·rcases mm h with h|h
   ·exact h
   ·exact ih h
theorem BJ {α R:Type} (l:List α) (K:List α->R):xD l K=K l:=by
 induction l generalizing K with
 |nil=>rfl
 |cons a l ih=>exact ih fun t=>K (a::t)
theorem pB (t:Nat) (o:Oper) (l:List Oper):iV t (o::l)=if o.dst=some t then iV t l+1 else iV t l:=by
 have e:iV t (o::l)=(match o.dst with|some d=>Bool.rec (iV t l) (Nat.succ (iV t l)) (Nat.beq d t)|none=>iV t l):=rfl
 rw[e]
 cases o.dst with
 |none=>simp
 |some d=>
  dsimp only
  cases h:Nat.beq d t with
  |true=>have:=Ra h;simp[this]
  |false=>have:=Nat.ne_of_beq_eq_false h;simp[this]
theorem Ce {t:Nat}:∀{l:List Oper} {i:Nat} {o:Oper},l[i]? =some o->o.dst=some t->1<=iV t l:=by
 intro l
 induction l with
 |nil=>intro i o h;simp at h
 |cons a l ih=>
  intro i o h hd
  rw[pB]
  cases i with
  |zero=>simp at h;subst h;rw[Q5 hd];omega
  |succ i=>have:=ih (by simpa using h) hd;split<;>omega
theorem rb {t:Nat}:∀{l:List Oper} {i j:Nat} {o o':Oper},i<j->l[i]? =some o->l[j]? =some o'->o.dst=some t->o'.dst=some t->2<=iV t l:=by
 intro l
 induction l with
 |nil=>intro i j o o' _ h;simp at h
 |cons a l ih=>
  intro i j o o' hij h h' hd hd'
  rw[pB]
  cases j with
  |zero=>omega
  |succ j=>
   cases i with
   |zero=>simp at h;subst h;rw[Q5 hd];have:=Ce (l:=l) (by simpa using h') hd';omega
   |succ i=>have:=ih (i:=i) (j:=j) (by omega) (by simpa using h) (by simpa using h') hd hd';split<;>omega
theorem B3 {all:List Oper}:∀{l:List Oper},(List.rec (motive:=fun _=>List Oper->Bool) (fun _=>true) (fun o _ r all=>match o.dst with
 |some t=>cond (Nat.beq (iV t all) 1) (r all) false
 |none=>r all) l all:Bool)=true->∀o∈l,∀t,o.dst=some t->iV t all=1:=by
 intro l
 induction l with
 |nil=>intro _ o h;cases h
 |cons a l ih=>
  intro h o ho t ht
  dsimp only at h
  cases ha:a.dst with
  |none=>
   rw[ha] at h
   rcases List.mem_cons.1 ho with rfl|ho
   ·rw[ha] at ht;cases ht
   ·exact ih h o ho t ht
  |some d=>
   rw[ha] at h
   obtain ⟨h1,h2⟩:=fL h
   rcases List.mem_cons.1 ho with rfl|ho
   ·rw[ha] at ht;cases ht;exact Ra h1
   ·exact ih h2 o ho t ht
theorem xY {ops:Array Oper} (h:yp ops.toList=true) (i j:Nat) (oi oj:Oper) (t:Nat) (hi:ops[i]? =some oi) (hj:ops[j]? =some oj) (ti:oi.dst=some t) (tj:oj.dst=some t):i=j:=by
 have h1:=B3 h oi (by rw[Array.mem_toList_iff];exact Array.mem_of_getElem? hi) t ti
 rcases Nat.lt_trichotomy i j with hlt|he|hlt
 ·have:=rb (l:=ops.toList) hlt (by simpa using hi) (by simpa using hj) ti tj;omega
 ·exact he
 ·have:=rb (l:=ops.toList) hlt (by simpa using hj) (by simpa using hi) tj ti;omega
theorem uk {o:Option Nat} {k:Nat} (h:rV o k=true):o=some k:=by
 cases o with
 |none=>cases h
 |some m=>rw[Ra h]
theorem Km {P:Program} {ops:Array Oper} {nc:NC} {id:Nat} (h:c7 P (.region id ops true)=some nc):∃l,nc= .regD l/\Lay P ops l:=by
 have h':(match ez P ops ops.toList 0 (Region.before ops).toList with
  |some l=>xD (IG l) fun e=>cond (rV (ul e 0) (Nat.sub (Nat.pow 2 ops.size) 1)&&yp ops.toList) (some (.regD e)) none
  |none=>none)=some nc:=h
 split at h'
 ·rename_i l0 hl0
  rw[BJ] at h'
  obtain ⟨hb,hc⟩:=aB h'
  cases hc
  rw[Bool.and_eq_true] at hb
  obtain ⟨hb1,hb2⟩:=hb
  have hm:=qw ops.toList 0 l0 _ (fun j=>by simp) (fun j=>by unfold vR;simp[Array.getD_eq_getD_getElem?,List.getD_eq_getElem?_getD]) hl0
  obtain ⟨p1,p2,p3,p4⟩:=BG (uk hb1)
  refine ⟨_,rfl,⟨fun no hno=>hm no (w7 hno),p2,fun i hi=> ?_,fun l1 o l2 he j hj=> ?_,xY hb2⟩⟩
  ·have hbit:(Nat.sub (Nat.pow 2 ops.size) 1).testBit i=true:=by
    have e:Nat.sub (Nat.pow 2 ops.size) 1=2 ^ ops.size - 1:=rfl
    rw[e,Nat.testBit_two_pow_sub_one];simpa using hi
   rcases (p1 i).1 hbit with h|h
   ·simp at h
   ·exact h
  ·rcases p4 l1 o l2 he j hj with h|h
   ·simp at h
   ·exact h
 ·cases h'
def yO (n:Nat) (w:Array (List (Tmp×Nat))) (p:Oper×Nat):Array (List (Tmp×Nat)):=match p.1.dst with
 |some d=>w.modify (d % n) ((d,p.2)::·)
 |none=>w
theorem CI {n:Nat} {w:Array (List (Tmp×Nat))} {p:Oper×Nat}:(yO n w p).size=w.size:=by unfold yO;split<;>simp
theorem Cf {n:Nat} {w:Array (List (Tmp×Nat))} {p:Oper×Nat} {k:Nat} {x:Tmp×Nat} (h:x∈w.getD k []):x∈(yO n w p).getD k []:=by
 unfold yO
 split
 ·rename_i d _
  rw[Array.getD_eq_getD_getElem?] at h ⊢
  rw[Array.getElem?_modify]
  split
  ·rename_i he
   cases hw:w[k]? with
   |none=>rw[hw] at h;simp at h
   |some l=>rw[hw] at h;simp at h ⊢;exact .inr h
  ·exact h
 ·exact h
theorem FD {n:Nat} {x:Tmp×Nat} {k:Nat}:∀(L:List (Oper×Nat)) (w:Array (List (Tmp×Nat))),x∈w.getD k []->x∈(L.foldl (yO n) w).getD k []:=by
 intro L
 induction L with
 |nil=>exact fun w h=>h
 |cons p L ih=>exact fun w h=>ih _ (Cf h)
theorem DT {n:Nat} {o:Oper} {i d:Nat} (hd:o.dst=some d) (hn:0<n):∀(L:List (Oper×Nat)) (w:Array (List (Tmp×Nat))),w.size=n->(o,i)∈L->(d,i)∈(L.foldl (yO n) w).getD (d % n) []:=by
 intro L
 induction L with
 |nil=>intro w _ h;cases h
 |cons p L ih=>
  intro w hw h
  rcases List.mem_cons.1 h with rfl|h
  ·refine FD L _ ?_
   unfold yO
   dsimp only
   rw[hd]
   dsimp only
   rw[Array.getD_eq_getD_getElem?,Array.getElem?_modify,Q5 rfl,Array.getElem?_eq_getElem (by rw[hw];exact Nat.mod_lt _ hn)]
   simp
  ·exact ih _ (by rw[CI];exact hw) h
theorem KF {ops:Array Oper} {b:Array Nat} (h:Region.temporariesOk ops b=true) {i j:Nat} {oi oj:Oper} {t:Nat} (hi:ops[i]? =some oi) (hj:ops[j]? =some oj) (ht:oi.dst=some t) (hr:Operand.tmp t∈oj.op.operands.toList):
 i=j∨(b.getD (max i j) 0).testBit (min i j)=true:=by
 unfold Region.temporariesOk at h
 have hz:∀(k:Nat) (o:Oper),ops[k]? =some o->(o,k)∈ops.toList.zipIdx:=fun k o ho=>by
  rw[List.mem_zipIdx_iff_getElem?];simpa using ho
 rw[List.all_eq_true] at h
 have h1:=h (oj,j) (hz j oj hj)
 dsimp only at h1
 rw[List.all_eq_true] at h1
 have h2:=h1 t (by
  rw[List.mem_append];right
  rw[List.mem_filterMap]
  exact ⟨.tmp t,hr,rfl⟩)
 rw[List.all_eq_true] at h2
 have hn:0<ops.size:=by have:=(Array.getElem?_eq_some_iff.1 hi).1;omega
 have h3:=h2 (t,i) (DT (n:=ops.size) ht hn ops.toList.zipIdx (Array.replicate ops.size []) (by simp) (hz i oi hi))
 simp only[Bool.or_eq_true,beq_iff_eq,bne_iff_ne,ne_eq,not_true_eq_false,false_or] at h3
 exact h3
end Nm
namespace Nm
open Go
section chain
variable {P:Program} {S:cR} {self:Option D4->NC->Dyn->Res} {rnd:Option D4}
theorem dc {r:Rec} {R:List Rec} {d d':Dyn} (h:Chain P S self rnd d (r::R) d'):d=r.st/\r.ok P S self rnd/\Chain P S self rnd r.nx R d':=by
 cases h with
 |cons _ _ _ h c=>exact ⟨rfl,h,c⟩
theorem fG {d d':Dyn} (h:Chain P S self rnd d [] d'):d'=d:=by cases h;rfl
theorem fm:∀{R1 R2:List Rec} {d d':Dyn},Chain P S self rnd d (R1++R2) d'->∃dm,Chain P S self rnd d R1 dm/\Chain P S self rnd dm R2 d':=by
 intro R1
 induction R1 with
 |nil=>intro R2 d d' h;exact ⟨d,.nil d,h⟩
 |cons r R1 ih=>
  intro R2 d d' h
  obtain ⟨rfl,hok,hc⟩:=dc (show Chain P S self rnd d (r::(R1++R2)) d' from h)
  obtain ⟨dm,h1,h2⟩:=ih hc
  exact ⟨dm,.cons r R1 dm hok h1,h2⟩
theorem oT:∀{R1 R2:List Rec} {d dm d':Dyn},Chain P S self rnd d R1 dm->Chain P S self rnd dm R2 d'->Chain P S self rnd d (R1++R2) d':=by
 intro R1
 induction R1 with
 |nil=>intro R2 d dm d' h h';rw[fG h] at h';exact h'
 |cons r R1 ih=>
  intro R2 d dm d' h h'
  obtain ⟨rfl,hok,hc⟩:=dc h
  exact .cons r (R1++R2) d' hok (ih hc h')
theorem N2 (r:Rec):r.nx.t=aQ r.o.dst r.val r.t:=by unfold Rec.nx;cases r.k<;>rfl
theorem DB {d:Option D4} {k:D4} (h:d≠some k) (v:NV) (t:Tm):NT.get k (aQ d v t)=NT.get k t:=by
 cases d with
 |none=>rfl
 |some d=>exact NT.get_put_ne (fun e=>h (by rw[e])) v t
theorem yG {d:Option D4} {k:D4} (h:d=some k) (v:NV) (t:Tm):NT.get k (aQ d v t)=some v:=by rw[h];exact NT.get_put_same _ _ _
theorem iO {k:D4}:∀{R:List Rec} {d d':Dyn},Chain P S self rnd d R d'->(∀w∈R,w.o.dst≠some k)->NT.get k d'.t=NT.get k d.t:=by
 intro R
 induction R with
 |nil=>intro d d' h _;rw[fG h]
 |cons r R ih=>
  intro d d' h hn
  obtain ⟨rfl,_,hc⟩:=dc h
  rw[ih hc fun w hw=>hn w (by simp[hw]),N2,DB (hn r (by simp))];rfl
theorem nV {k:D4} {A C:List Rec} {w:Rec} {d d':Dyn} (h:Chain P S self rnd d (A++w::C) d') (hw:w.o.dst=some k) (hn:∀x∈C,x.o.dst≠some k):NT.get k d'.t=some w.val:=by
 obtain ⟨dm,_,h2⟩:=fm h
 obtain ⟨_,_,hc⟩:=dc h2
 rw[iO hc hn,N2,yG hw]
theorem D3 {n:NOp} (hc:ax n= .alloc) {t:Tm} {h h':NH} {v:NV} (e:af n t h= .mem v h'):∃o,h'=h.add o:=by
 have fin:∀{o:NO} {f:D4->NV},(h.new o fun id h=>NR.mem (f id) h)= .mem v h'->∃o,h'=h.add o:=by
  intro o f e
  rw[NH.new_eq] at e
  injection e with _ e
  exact ⟨o,e.symm⟩
 have ne:NR.mem v h'≠.fail:=by simp
 cases n with
 |alloc z T=>exact fin (f:=fun id=> .ptr id 0) e
 |box x T=>
  obtain ⟨u,_,h2⟩:=aK e ne
  obtain ⟨cs,_,h4⟩:=aO h2 ne
  exact fin (f:=fun id=> .ptr id 0) h4
 |buildSlice z n len T ps=>
  obtain ⟨cs,_,h4⟩:=aO (show aX (cM t ps 0 z) _=_ from e) ne
  exact fin (f:=fun id=> .slc id 0 len n len) h4
 |mkMap=>exact fin (f:=fun id=> .map id) e
 |mkSlice z n b T l c=>
  obtain ⟨k,m,_,h2⟩:=cz e ne
  obtain ⟨k',m',_,h3⟩:=cz h2 ne
  obtain ⟨_,h4⟩:=aR h3 ne
  obtain ⟨_,h5⟩:=aR h4 ne
  rw[iz] at h5
  exact fin (f:=fun id=> .slc id 0 m n m') h5
 |strToBytes T x=>
  obtain ⟨u,_,h2⟩:=aK e ne
  cases u with
  |str s=>
   dsimp only at h2
   rw[gN,bJ] at h2
   obtain ⟨_,h3⟩:=aR h2 ne
   exact fin (f:=fun id=> .slc id 0 s.length 1 s.length) h3
  |_=>cases h2
 |_=>cases hc
def Fr (h:NH):Prop:=∀i o,h.get i=some o->i.toNat<h.next.toNat
theorem Fr.add {h:NH} (hf:Fr h) (o:NO):Fr (h.add o):=by
 intro i u hu
 show i.toNat<h.next.nxt.toNat
 rw[D4.toNat_nxt]
 by_cases e:i=h.next
 ·subst e;omega
 ·rw[NH.get_add_ne _ _ e] at hu;have:=hf i u hu;omega
theorem ph:∀(T:List Rec),∃T1 T2,T=T1++T2/\(∀r∈T1,¬r.isE)/\(∀r T',T2=r::T'->r.isE):=by
 intro T
 induction T with
 |nil=>exact ⟨[], [],rfl,by simp,fun r T' h=>by cases h⟩
 |cons r T ih=>
  by_cases h:r.isE
  ·exact ⟨[],r::T,rfl,by simp,fun r' T' e=>by cases e;exact h⟩
  ·obtain ⟨T1,T2,h1,h2,h3⟩:=ih
   exact ⟨r::T1,T2,by rw[h1];rfl,fun r' hr=>by
    rcases List.mem_cons.1 hr with rfl|hr
    ·exact h
    ·exact h2 r' hr,h3⟩
structure Skip (D D':Dyn) (T:List Rec):Prop where
 dfs:D'.dfs=D.dfs
 ctx:D'.ctx=D.ctx
 fresh:Fr D'.h
 next:D.h.next.toNat<=D'.h.next.toNat
 get:∀i,i.toNat<D.h.next.toNat->D'.h.get i=D.h.get i
 fr:∀r∈T,Fr r.h
 al:∀r∈T,∀v h,r.k= .alloc v h->D.h.next.toNat<=r.h.next.toNat/\r.h.next.toNat<D'.h.next.toNat/\D'.h.get r.h.next=h.get r.h.next
 dist:∀r∈T,∀r'∈T,∀v h v' h',r.k= .alloc v h->r'.k= .alloc v' h'->r.h.next=r'.h.next->r.o.idx=r'.o.idx
theorem rf:∀{T:List Rec} {D D':Dyn},Chain P S self rnd D T D'->(∀r∈T,¬r.isE)->Fr D.h->Skip D D' T:=by
 intro T
 induction T with
 |nil=>
  intro D D' h _ hf
  rw[fG h]
  exact ⟨rfl,rfl,hf,Nat.le_refl _,fun _ _=>rfl,by simp,by simp,by simp⟩
 |cons r T ih=>
  intro D D' h hn hf
  obtain ⟨rfl,hok,hc⟩:=dc h
  have hn':∀r∈T,¬r.isE:=fun x hx=>hn x (by simp[hx])
  have same:(∀v h,r.k≠.alloc v h)->r.nx.dfs=r.dfs->r.nx.ctx=r.ctx->r.nx.h=r.h->Skip r.st D' (r::T):=by
   intro hk e1 e2 e3
   have k:=ih hc hn' (by rw[e3];exact hf)
   refine ⟨k.dfs.trans e1,k.ctx.trans e2,k.fresh,by have:=k.next;rw[e3] at this;exact this,fun i hi=>by have:=k.get i (by rw[e3];exact hi);rw[e3] at this;exact this, ?_, ?_, ?_⟩
   ·intro x hx
    rcases List.mem_cons.1 hx with rfl|hx
    ·exact hf
    ·exact k.fr x hx
   ·intro x hx v h e
    rcases List.mem_cons.1 hx with rfl|hx'
    ·exact Q3 e (hk _ _)
    ·have:=k.al x hx' v h e;rw[e3] at this;exact this
   ·intro x hx y hy v h v' h' ex ey
    rcases List.mem_cons.1 hx with rfl|hx'
    ·exact Q3 ex (hk _ _)
    ·rcases List.mem_cons.1 hy with rfl|hy'
     ·exact Q3 ey (hk _ _)
     ·exact k.dist x hx' y hy' v h v' h' ex ey
  cases hk:r.k with
  |off=>exact same (by simp[hk]) (by simp[Rec.nx,hk]) (by simp[Rec.nx,hk]) (by simp[Rec.nx,hk])
  |pure v=>exact same (by simp[hk]) (by simp[Rec.nx,hk]) (by simp[Rec.nx,hk]) (by simp[Rec.nx,hk])
  |read v=>exact same (by simp[hk]) (by simp[Rec.nx,hk]) (by simp[Rec.nx,hk]) (by simp[Rec.nx,hk])
  |eff v dfs ctx h=>exact Q3 (show r.isE by unfold Rec.isE;rw[hk];trivial) (hn r (by simp))
  |alloc v h0=>
   have hok':az r.t r.o.guard=some true/\ax r.o.op= .alloc/\af r.o.op r.t r.h= .mem v h0:=by unfold Rec.ok at hok;rw[hk] at hok;exact hok
   obtain ⟨_,o2,o3⟩:=hok'
   obtain ⟨ob,rfl⟩:=D3 o2 o3
   have e1:r.nx.dfs=r.dfs:=by simp[Rec.nx,hk]
   have e2:r.nx.ctx=r.ctx:=by simp[Rec.nx,hk]
   have e3:r.nx.h=r.h.add ob:=by simp[Rec.nx,hk]
   have hf':Fr r.h:=hf
   have k:=ih hc hn' (by rw[e3];exact hf'.add ob)
   have kn:=k.next
   rw[e3] at kn
   have kn':r.h.next.nxt.toNat<=D'.h.next.toNat:=kn
   rw[D4.toNat_nxt] at kn'
   have hnx:(r.h.add ob).next.toNat=r.h.next.toNat+1:=D4.toNat_nxt _
   have kg:∀i,i.toNat<r.h.next.toNat+1->D'.h.get i=(r.h.add ob).get i:=fun i hi=>by
    have:=k.get i (by rw[e3,hnx];exact hi);rw[e3] at this;exact this
   have kal:∀x∈T,∀v h,x.k= .alloc v h->r.h.next.toNat+1<=x.h.next.toNat/\x.h.next.toNat<D'.h.next.toNat/\D'.h.get x.h.next=h.get x.h.next:=fun x hx v h e=>by
    have:=k.al x hx v h e;rw[e3,hnx] at this;exact this
   refine ⟨k.dfs.trans e1,k.ctx.trans e2,k.fresh,show r.h.next.toNat<=_ by omega,fun i hi=> ?_, ?_, ?_, ?_⟩
   ·have hi':i.toNat<r.h.next.toNat:=hi
    rw[kg i (by omega)]
    exact NH.get_add_ne _ _ (fun e=>by rw[e] at hi';omega)
   ·intro x hx
    rcases List.mem_cons.1 hx with rfl|hx
    ·exact hf
    ·exact k.fr x hx
   ·intro x hx v1 h1 e
    rcases List.mem_cons.1 hx with rfl|hx
    ·rw[hk] at e;cases e
     exact ⟨Nat.le_refl _,by omega,kg _ (by omega)⟩
    ·obtain ⟨a1,a2,a3⟩:=kal x hx v1 h1 e
     exact ⟨show r.h.next.toNat<=_ by omega,a2,a3⟩
   ·intro x hx y hy v1 h1 v2 h2 ex ey he
    rcases List.mem_cons.1 hx with rfl|hx'
    ·rcases List.mem_cons.1 hy with rfl|hy'
     ·rfl
     ·have:=(kal y hy' v2 h2 ey).1;rw[←he] at this;omega
    ·rcases List.mem_cons.1 hy with rfl|hy'
     ·have:=(kal x hx' v1 h1 ex).1;rw[he] at this;omega
     ·exact k.dist x hx' y hy' v1 h1 v2 h2 ex ey he
theorem Bp {n:NOp} (hc:ax n= .read) {t:Tm} {v:NV}:∀{T:List Rec} {D D':Dyn},Chain P S self rnd D T D'->(∀r∈T,Fr r.h)->af n t D.h= .val v->
 (∀r∈T,∀u dfs ctx h,r.k= .eff u dfs ctx h->af n t h= .val v)->af n t D'.h= .val v:=by
 intro T
 induction T with
 |nil=>intro D D' h _ e _;rw[fG h];exact e
 |cons r T ih=>
  intro D D' h hf e he
  obtain ⟨rfl,hok,hch⟩:=dc h
  refine ih hch (fun x hx=>hf x (by simp[hx])) ?_ fun x hx=>he x (by simp[hx])
  cases hk:r.k with
  |off=>rw[show r.nx.h=r.h by simp[Rec.nx,hk]];exact e
  |pure u=>rw[show r.nx.h=r.h by simp[Rec.nx,hk]];exact e
  |read u=>rw[show r.nx.h=r.h by simp[Rec.nx,hk]];exact e
  |eff u dfs ctx h=>rw[show r.nx.h=h by simp[Rec.nx,hk]];exact he r (by simp) u dfs ctx h hk
  |alloc u h0=>
   have hok':az r.t r.o.guard=some true/\ax r.o.op= .alloc/\af r.o.op r.t r.h= .mem u h0:=by unfold Rec.ok at hok;rw[hk] at hok;exact hok
   obtain ⟨ob,rfl⟩:=D3 hok'.2.1 hok'.2.2
   rw[show r.nx.h=r.h.add ob by simp[Rec.nx,hk]]
   exact FZ hc (mF.add (hf r (by simp)) ob) e
end chain
theorem Rel.lt_next {P:Program} {ι:aU} {B:Nat} {h:NH} {w:World} (r:Rel P ι B h w) {i:D4} {p:Pl} (hi:ι i=some p):i.toNat<h.next.toNat:=by
 obtain ⟨o,h1,_⟩:=r.obj i p hi;exact r.fresh i o h1
theorem Rel.more {P:Program} {ι:aU} {B:Nat} {h h':NH} {w:World} (r:Rel P ι B h w) (hg:∀i,i.toNat<h.next.toNat->h'.get i=h.get i) (hf:Fr h'):Rel P ι B h' w where
 obj:=fun i p hi=>by rw[hg i (r.lt_next hi)];exact r.obj i p hi
 inj:=fun i j p q hi hj hij d1 d2=>r.inj i j p q hi hj hij (by rw[←hg i (r.lt_next hi)];exact d1) (by rw[←hg j (r.lt_next hj)];exact d2)
 base:=fun i p hi d=>r.base i p hi (by rw[←hg i (r.lt_next hi)];exact d)
 lt:=r.lt
 gl:=r.gl
 fresh:=hf
theorem Grow.more {P:Program} {B:Nat} {ι0 ι:aU} {h0 h h':NH} {w0 w:World} (g:Grow ι0 h0 w0 ι h w) (r:Rel P ι B h w) (hn:h.next.toNat<=h'.next.toNat) (hg:∀i,i.toNat<h.next.toNat->h'.get i=h.get i):Grow ι0 h0 w0 ι h' w where
 le:=g.le
 next:=Nat.le_trans g.next hn
 new:=g.new
 blk:=fun i p hi d=>g.blk i p hi (by rw[←hg i (r.lt_next hi)];exact d)
 keep:=fun i hi hl=>by rw[hg i (Nat.lt_of_lt_of_le hl g.next)];exact g.keep i hi hl
 size:=g.size
 os:=g.os
 tape:=g.tape
 output:=g.output
 frame:=g.frame
def aU.set (ι:aU) (n:D4) (p:Pl):aU:=fun i=>if i.toNat=n.toNat then some p else ι i
theorem aU.set_same (ι:aU) (n:D4) (p:Pl):ι.set n p n=some p:=Q5 rfl
theorem aU.set_ne (ι:aU) {n i:D4} (p:Pl) (h:i≠n):ι.set n p i=ι i:=Q4 fun e=>h (D4.toNat_inj e)
theorem aU.set_le {ι:aU} {n:D4} {p:Pl} (hn:ι n=none):ι.le (ι.set n p):=fun i q hi=>by
 rw[aU.set_ne _ _ (fun e=>by rw[e,hn] at hi;cases hi)];exact hi
theorem aU.set_cases {ι:aU} {n i:D4} {p q:Pl} (h:ι.set n p i=some q):(i=n/\q=p)∨(i≠n/\ι i=some q):=by
 by_cases e:i=n
 ·subst e;rw[aU.set_same] at h;exact .inl ⟨rfl,(Option.some.inj h).symm⟩
 ·rw[aU.set_ne _ _ e] at h;exact .inr ⟨e,h⟩
theorem Rel.at {P:Program} {ι:aU} {B:Nat} {h:NH} {w:World} (r:Rel P ι B h w) (hB:B<=w.heap.size) {n:D4} {o:NO} (hn:ι n=none) (hg:h.get n=some o) {O:Obj} {p:Pl} (hp:p.b=w.heap.size)
 (ho:∀ι',ι.le ι'->OR P ι' (w.alloc O) p o):Rel P (ι.set n p) B h (w.alloc O):=by
 have hle:ι.le (ι.set n p):=aU.set_le hn
 refine ⟨?_, ?_, ?_, ?_,r.fresh,r.gl.mono hle⟩
 ·intro i q hi
  rcases aU.set_cases hi with ⟨rfl,rfl⟩|⟨hne',hi⟩
  ·exact ⟨o,hg,ho _ hle⟩
  ·obtain ⟨u,h1,h2⟩:=r.obj i q hi
   exact ⟨u,h1,h2.mono hle (alloc_old w O _ (r.lt i q hi))⟩
 ·intro i j q1 q2 hi hj hij d1 d2
  rcases aU.set_cases hi with ⟨e1,e2⟩|⟨h1,hi'⟩
  ·rcases aU.set_cases hj with ⟨e3,e4⟩|⟨h2,hj'⟩
   ·exact Q3 (e1.trans e3.symm) hij
   ·have:=r.lt j q2 hj';rw[e2];omega
  ·rcases aU.set_cases hj with ⟨e3,e4⟩|⟨h2,hj'⟩
   ·have:=r.lt i q1 hi';rw[e4];omega
   ·exact r.inj i j q1 q2 hi' hj' hij d1 d2
 ·intro i q hi d
  rcases aU.set_cases hi with ⟨rfl,rfl⟩|⟨h1,hi⟩
  ·omega
  ·exact r.base i q hi d
 ·intro i q hi
  rcases aU.set_cases hi with ⟨rfl,rfl⟩|⟨h1,hi⟩
  ·simp;omega
  ·have:=r.lt i q hi;simp;omega
theorem Grow.at {ι0 ι:aU} {h0 h:NH} {w0 w:World} (g:Grow ι0 h0 w0 ι h w) {n:D4} (hn:ι n=none) (h1:h0.next.toNat<=n.toNat) {O:Obj} {p:Pl} (hp:p.b=w.heap.size):Grow ι0 h0 w0 (ι.set n p) h (w.alloc O) where
 le:=g.le.trans (aU.set_le hn)
 next:=g.next
 new:=fun i q hi=>by
  rcases aU.set_cases hi with ⟨rfl,rfl⟩|⟨_,hi⟩
  ·exact .inr h1
  ·exact g.new i q hi
 blk:=fun i q hi d=>by
  rcases aU.set_cases hi with ⟨rfl,rfl⟩|⟨_,hi⟩
  ·have:=g.size;exact .inl (by omega)
  ·exact g.blk i q hi d
 keep:=g.keep
 size:=by have:=g.size;simp;omega
 os:=g.os
 tape:=g.tape
 output:=g.output
 frame:=fun k hk hq=>by
  rw[alloc_old w O k (Nat.lt_of_lt_of_le hk g.size)];exact g.frame k hk hq
end Nm
namespace Nm
open Go
noncomputable def hV (l:List NOpd) (t:Tm):Tm:=match l with
 | []=> .leaf
 | .tmp d::l=>match NT.get d t with|some v=>NT.put d v (hV l t)|none=>hV l t
 | .const _::l=>hV l t
theorem uF {l:List NOpd} {t:Tm} {k:D4} {v:NV} (h:NT.get k (hV l t)=some v):NOpd.tmp k∈l/\NT.get k t=some v:=by
 induction l with
 |nil=>rw[show hV [] t= .leaf from rfl,NT.get_leaf] at h;cases h
 |cons x l ih=>
  cases x with
  |const u=>obtain ⟨h1,h2⟩:=ih h;exact ⟨by simp[h1],h2⟩
  |tmp d=>
   have h':NT.get k (match NT.get d t with|some v=>NT.put d v (hV l t)|none=>hV l t)=some v:=h
   cases hd:NT.get d t with
   |none=>rw[hd] at h';obtain ⟨h1,h2⟩:=ih h';exact ⟨by simp[h1],h2⟩
   |some u=>
    rw[hd] at h'
    dsimp only at h'
    by_cases e:k=d
    ·subst e;rw[NT.get_put_same] at h';exact ⟨by simp,by rw[hd];exact h'⟩
    ·rw[NT.get_put_ne e] at h';obtain ⟨h1,h2⟩:=ih h';exact ⟨by simp[h1],h2⟩
theorem Hp {l:List NOpd} {t:Tm} {k:D4} (h:NOpd.tmp k∈l):NT.get k (hV l t)=NT.get k t:=by
 induction l with
 |nil=>cases h
 |cons x l ih=>
  cases x with
  |const u=>rcases List.mem_cons.1 h with h|h;cases h;exact ih h
  |tmp d=>
   show NT.get k (match NT.get d t with|some v=>NT.put d v (hV l t)|none=>hV l t)=_
   by_cases e:k=d
   ·subst e
    cases hd:NT.get k t with
    |some u=>exact NT.get_put_same _ _ _
    |none=>
     dsimp only
     cases hk:NT.get k (hV l t) with
     |none=>rfl
     |some v=>have:=(uF hk).2;rw[hd] at this;cases this
   ·have hl:NOpd.tmp k∈l:=by
     rcases List.mem_cons.1 h with h|h
     ·injection h with h;exact Q3 h e
     ·exact h
    cases hd:NT.get d t with
    |none=>exact ih hl
    |some u=>dsimp only;rw[NT.get_put_ne e];exact ih hl
theorem Df {l:List NOpd} {t:Tm}:∀x∈l,ρ (hV l t) x=ρ t x:=by
 intro x hx
 cases x with
 |const v=>rfl
 |tmp d=>exact Hp hx
structure Inv (P:Program) (S:cR) (go:Option D4->NC->Dyn->Res) (rnd:Option D4) (B:Nat) (b:Frame) (ops:Array Oper) (d0 dE:Dyn) (R:List Rec) (ι0:aU) (cs0:List Frame) (w0:World) (size:Nat)
 (X:Nat->Prop) (R1 R2:List Rec) (D:Dyn) (ι:aU) (a:Act) (cs:List Frame) (w:World):Prop where
 down:∀i,X i->dP ops X i
 inR:∀i,X i->∃r∈R,r.o.idx=i
 split:R=R1++R2
 c1:Chain P S go rnd d0 R1 D
 c2:Chain P S go rnd D R2 dE
 effs:∀r∈R1,r.isE->X r.o.idx
 head:∀r R2',R2=r::R2'->r.isE/\¬X r.o.idx
 mv:Mv P B rnd b ι0 d0.ctx d0.h cs0 w0 ι D.dfs D.ctx D.h a.defers cs w
 pend:∀r∈R1,∀v h,r.k= .alloc v h->¬X r.o.idx->ι r.h.next=none/\D.h.get r.h.next=h.get r.h.next/\r.h.next.toNat<D.h.next.toNat/\d0.h.next.toNat<=r.h.next.toNat
 dist:∀r∈R1,∀r'∈R1,∀v h v' h',r.k= .alloc v h->r'.k= .alloc v' h'->¬X r.o.idx->¬X r'.o.idx->r.h.next=r'.h.next->r.o.idx=r'.o.idx
 fr:∀r∈R1,Fr r.h
 tw:∀r∈R,X r.o.idx->∀t,r.o.dst=some (D4.of t)->∃v',a.tmps[t]? =some v'/\VR ι r.val v'
 ti:∀k,(∀r∈R,X r.o.idx->r.o.dst≠some (D4.of k))->∀v,NT.get (D4.of k) d0.t=some v->∃v',a.tmps[k]? =some v'/\VR ι v v'
 size:a.tmps.size=size
section
variable {P:Program} {S:cR} {self:Option D4->NC->Dyn->Res} {rnd:Option D4} {B:Nat} {b:Frame} {k:List Item} {ops:Array Oper} {fn:Func} {l:List NOper}
 {d0 dE:Dyn} {R:List Rec} {ι0:aU} {cs0:List Frame} {w0:World} {size:Nat} {X:Nat->Prop} {R1 R2:List Rec} {D:Dyn} {ι:aU} {a:Act} {cs:List Frame} {w:World}
theorem FS (hL:Lay P ops l) {x y:NOper} (hx:x∈l) (hy:y∈l) (h:x.idx=y.idx):x=y:=by
 have hn:=hL.nodup
 clear hL
 induction l with
 |nil=>cases hx
 |cons z l ih=>
  rw[List.map_cons,List.nodup_cons] at hn
  rcases List.mem_cons.1 hx with rfl|hx'
  ·rcases List.mem_cons.1 hy with rfl|hy'
   ·rfl
   ·exact Q3 (List.mem_map.2 ⟨y,hy',h.symm⟩) hn.1
  ·rcases List.mem_cons.1 hy with rfl|hy'
   ·exact Q3 (List.mem_map.2 ⟨x,by assumption,h⟩) hn.1
   ·exact ih (by assumption) hy' hn.2
theorem jM (hL:Lay P ops l) {A C:List NOper} {x:NOper} (h:l=A++x::C) {y:NOper} (hy:y∈C) {z:NOper} (hz:z∈A++ [x]):z.idx≠y.idx:=by
 intro e
 have hn:=hL.nodup
 rw[h,show A++x::C=(A++ [x])++C by simp,List.map_append,List.nodup_append] at hn
 exact hn.2.2 z.idx (List.mem_map.2 ⟨z,hz,rfl⟩) y.idx (List.mem_map.2 ⟨y,hy,rfl⟩) e
theorem oZ (hr:RegOK P fn ops) (hd:∀i,X i->dP ops X i) {i:Nat} {o:Oper} (ho:ops[i]? =some o) (he:dP ops X i) {j:Nat} (hj:(vR ops i).testBit j=true):X j:=
 Jo hr hd i o ho he j hj
theorem known (hr:RegOK P fn ops) (hL:Lay P ops l) (hRl:∀r∈R,r.o∈l) (I:Inv P S self rnd B b ops d0 dE R ι0 cs0 w0 size X R1 R2 D ι a cs w)
 {A:List Rec} {no:NOper} {rest:List NOper} (hl:l=A.map (·.o)++no::rest) (hA:∀r∈A,r∈R) {D1:Dyn} (hc:Chain P S self rnd d0 A D1) {o:Oper} (ho:ops[no.idx]? =some o) (hE:dP ops X no.idx) (hnX:¬X no.idx)
 {t:Nat} (ht:∀j oj,ops[j]? =some oj->oj.dst=some t->j=no.idx∨(vR ops (max j no.idx)).testBit (min j no.idx)=true) {v:NV} (hv:NT.get (D4.of t) D1.t=some v):∃v',a.tmps[t]? =some v'/\VR ι v v':=by
 have hno:no∈l:=by rw[hl];simp
 have hord:∀x∈l,x.dst=some (D4.of t)->x.idx≠no.idx->(vR ops no.idx).testBit x.idx=true∨(vR ops x.idx).testBit no.idx=true:=by
  intro x hx hd hne
  obtain ⟨ox,m1,m2,_⟩:=hL.mem x hx
  rw[m2] at hd
  have hox:ox.dst=some t:=by
   cases h:ox.dst with
   |none=>rw[h] at hd;cases hd
   |some u=>rw[h] at hd;injection hd with hd;rw[D4.of_inj hd]
  rcases ht x.idx ox m1 hox with h|h
  ·exact Q3 h hne
  ·rcases Nat.lt_or_ge x.idx no.idx with hlt|hge
   ·rw[Nat.max_eq_right (by omega),Nat.min_eq_left (by omega)] at h;exact .inl h
   ·rw[Nat.max_eq_left (by omega),Nat.min_eq_right (by omega)] at h;exact .inr h
 by_cases hw:∃r∈A,r.o.dst=some (D4.of t)
 ·obtain ⟨r,hrA,hrd⟩:=hw
  obtain ⟨A1,A2,rfl⟩:=List.append_of_mem hrA
  have hrl:r.o∈l:=hRl r (hA r hrA)
  have hne:r.o.idx≠no.idx:=by
   intro e
   have hl':l=A1.map (·.o)++r.o::(A2.map (·.o)++no::rest):=by rw[hl];simp
   exact jM hL hl' (y:=no) (by simp) (z:=r.o) (by simp) e
  have honly:∀x∈A2,x.o.dst≠some (D4.of t):=by
   intro x hx hd
   have hxl:x.o∈l:=hRl x (hA x (by simp[hx]))
   obtain ⟨o1,m1,m2,_⟩:=hL.mem r.o hrl
   obtain ⟨o2,n1,n2,_⟩:=hL.mem x.o hxl
   have f:∀{q:Option Nat},q.map D4.of=some (D4.of t)->q=some t:=by
    intro q hq
    cases q with
    |none=>cases hq
    |some u=>injection hq with hq;rw[D4.of_inj hq]
   have he:=hL.once r.o.idx x.o.idx o1 o2 t m1 n1 (f (by rw[←m2];exact hrd)) (f (by rw[←n2];exact hd))
   have hl':l=A1.map (·.o)++r.o::(A2.map (·.o)++no::rest):=by rw[hl];simp
   exact jM hL hl' (y:=x.o) (by simp;exact .inl ⟨x,hx,rfl⟩) (z:=r.o) (by simp) he
  rw[nV hc hrd honly] at hv
  cases hv
  rcases hord r.o hrl hrd hne with h|h
  ·exact I.tw r (hA r hrA) (oZ hr I.down ho hE h) t hrd
  ·exfalso
   have hl':l=A1.map (·.o)++r.o::(A2.map (·.o)++no::rest):=by rw[hl];simp
   obtain ⟨_,_,_,_,_,hp⟩:=hL.mem r.o hrl
   obtain ⟨o',h1,h2⟩:=hL.pre _ _ _ hl' no.idx (by rw[hp];exact h)
   exact jM hL hl' (y:=no) (by simp) (z:=o') (by simp at h1 ⊢;exact .inl h1) h2
 ·rw[iO hc (fun x hx hd=>hw ⟨x,hx,hd⟩)] at hv
  refine I.ti t (fun x hx hX hd=> ?_) v hv
  have hxl:x.o∈l:=hRl x hx
  have hne:x.o.idx≠no.idx:=fun e=>hnX (e▸hX)
  have hxnA:x∉A:=fun h=>hw ⟨x,h,hd⟩
  rcases hord x.o hxl hd hne with h|h
  ·obtain ⟨_,_,_,_,_,hp⟩:=hL.mem no hno
   obtain ⟨o',h1,h2⟩:=hL.pre _ _ _ hl x.o.idx (by rw[hp];exact h)
   have ho'l:o'∈l:=by rw[hl];simp only[List.mem_append];exact .inl h1
   have:=FS hL ho'l hxl h2
   subst this
   obtain ⟨r',hr',he⟩:=List.mem_map.1 h1
   exact hw ⟨r',hr',by rw[he];exact hd⟩
  ·obtain ⟨ox,m1,_⟩:=hL.mem x.o hxl
   exact hnX (oZ hr I.down m1 (I.down _ hX) h)
theorem gS (hr:RegOK P fn ops) (hL:Lay P ops l) (hRl:∀r∈R,r.o∈l) (I:Inv P S self rnd B b ops d0 dE R ι0 cs0 w0 size X R1 R2 D ι a cs w)
 {A:List Rec} {no:NOper} {rest:List NOper} (hl:l=A.map (·.o)++no::rest) (hA:∀r∈A,r∈R) {D1:Dyn} (hc:Chain P S self rnd d0 A D1) {o:Oper} (ho:ops[no.idx]? =some o) (hE:dP ops X no.idx) (hnX:¬X no.idx)
 (hcp:ap P o.op=some no.op):TR ι (hV (opsOf no.op) D1.t) a.tmps:=by
 refine ⟨I.mv.sd.rel.gl,fun t v hv=> ?_⟩
 obtain ⟨h1,h2⟩:=uF hv
 have hop:=Hh hcp h1
 refine known hr hL hRl I hl hA hc ho hE hnX (t:=t) (fun j oj hj hd=> ?_) h2
 rcases KF hr.tmps hj ho hd hop with h|h
 ·exact .inl h
 ·exact .inr h
theorem mH (hr:RegOK P fn ops) (hL:Lay P ops l) (hRl:∀r∈R,r.o∈l) (I:Inv P S self rnd B b ops d0 dE R ι0 cs0 w0 size X R1 R2 D ι a cs w)
 {A:List Rec} {no:NOper} {rest:List NOper} (hl:l=A.map (·.o)++no::rest) (hA:∀r∈A,r∈R) {D1:Dyn} (hc:Chain P S self rnd d0 A D1) {o:Oper} (ho:ops[no.idx]? =some o) (hE:dP ops X no.idx) (hnX:¬X no.idx)
 (hG:oX ops o.guard no.guard) {on:Bool} (h:az D1.t no.guard=some on):Region.wanted o (yielded ops a.tmps)=on:=by
 refine mZ hG (ι:=ι) (fun t c hg v hv=> ?_) h
 cases hog:o.guard with
 |none=>rw[hog,hg] at hG;exact hG.elim
 |some jb=>
  obtain ⟨j,bb⟩:=jb
  rw[hog,hg] at hG
  obtain ⟨_,u,hu,hk⟩:=hG
  have:=D4.of_inj hk
  subst this
  obtain ⟨⟨e,he1,he2,he3⟩,_⟩:=hr.guard _ o j bb ho hog
  have hXj:X j:=by rw[←he2];exact hE o ho e he1 he3
  have hjd:∃oj,ops[j]? =some oj/\oj.dst=some t:=by
   unfold tM at hu
   split at hu
   ·rename_i oj hoj;exact ⟨oj,hoj,hu⟩
   ·cases hu
  obtain ⟨oj,hoj,hjt⟩:=hjd
  obtain ⟨r,hrR,hri⟩:=I.inR j hXj
  have hrd:r.o.dst=some (D4.of t):=by
   obtain ⟨o2,m1,m2,_⟩:=hL.mem r.o (hRl r hrR)
   rw[hri,hoj] at m1;cases m1
   rw[m2,hjt];rfl
  have hjb:(vR ops no.idx).testBit j=true:=by
   unfold vR
   rw[mE]
   obtain ⟨acc,h1,h2,h3⟩:=lF (fun acc (o:Oper)=>o.after.foldl (fun s e=>if Region.binds .any e then s|||2 ^ e.on|||acc.getD e.on 0 else s) 0) ops.toList no.idx o (by simpa using ho)
   rw[Array.getD_eq_getD_getElem?,h1]
   simp only[Option.getD_some]
   rw[←Array.foldl_toList]
   have hfold:∀(L:List Edge) (s:Nat),(e∈L∨s.testBit j=true)->(L.foldl (fun s e=>if Region.binds .any e then s|||2 ^ e.on|||acc.getD e.on 0 else s) s).testBit j=true:=by
    intro L
    induction L with
    |nil=>intro s h;rcases h with h|h;cases h;exact h
    |cons x L ih=>
     intro s h
     rw[List.foldl_cons]
     refine ih _ ?_
     rcases h with h|h
     ·rcases List.mem_cons.1 h with h|h
      ·right;rw[←h,Q5 he3,Nat.testBit_or,Nat.testBit_or,he2,Nat.testBit_two_pow];simp
      ·exact .inl h
     ·right
      split
      ·rw[Nat.testBit_or,Nat.testBit_or,h];rfl
      ·exact h
   exact hfold _ 0 (.inl he1)
  refine known hr hL hRl I hl hA hc ho hE hnX (t:=t) (fun j' oj' hj' hd'=> ?_) hv
  have:=hL.once j' j oj' oj t hj' hoj hd' hjt
  subst this
  right
  have hlt:=hr.edge no.idx o e ho he1 he3
  rw[he2] at hlt
  rw[Nat.max_eq_right (by omega),Nat.min_eq_left (by omega)]
  exact hjb
theorem mA (hL:Lay P ops l) (hRl:∀r∈R,r.o∈l) {ι':aU} (hle:ι.le ι') {r:Rec} (hr:r∈R) {o:Oper} (ho:ops[r.o.idx]? =some o) {v':Value} (hv:VR ι' r.val v') (hb:∀d,o.dst=some d->d<a.tmps.size)
 (tw:∀r∈R,X r.o.idx->∀t,r.o.dst=some (D4.of t)->∃v',a.tmps[t]? =some v'/\VR ι r.val v')
 (ti:∀k,(∀r∈R,X r.o.idx->r.o.dst≠some (D4.of k))->∀v,NT.get (D4.of k) d0.t=some v->∃v',a.tmps[k]? =some v'/\VR ι v v')
 (hRR:∀x∈R,x.o.idx=r.o.idx->x=r):
 (∀x∈R,(X x.o.idx∨x.o.idx=r.o.idx)->∀t,x.o.dst=some (D4.of t)->∃v'',(a.put o.dst v').tmps[t]? =some v''/\VR ι' x.val v'')/\
 (∀k,(∀x∈R,(X x.o.idx∨x.o.idx=r.o.idx)->x.o.dst≠some (D4.of k))->∀v,NT.get (D4.of k) d0.t=some v->∃v'',(a.put o.dst v').tmps[k]? =some v''/\VR ι' v v''):=by
 have hod:r.o.dst=o.dst.map D4.of:=by
  obtain ⟨o2,m1,m2,_⟩:=hL.mem r.o (hRl r hr);rw[ho] at m1;cases m1;exact m2
 have hput:∀t,o.dst≠some t->(a.put o.dst v').tmps[t]? =a.tmps[t]? :=by
  intro t ht
  cases hd:o.dst with
  |none=>rfl
  |some d=>
   show (a.tmps.setIfInBounds d v')[t]? =_
   rw[Array.getElem?_setIfInBounds_ne (fun e=>ht (by rw[hd,e]))]
 have hown:∀t,o.dst=some t->(a.put o.dst v').tmps[t]? =some v':=by
  intro t ht
  have:=hb t ht
  rw[ht]
  show (a.tmps.setIfInBounds t v')[t]? =_
  simp[this]
 constructor
 ·intro x hx hX t ht
  by_cases he:x.o.idx=r.o.idx
  ·have:=hRR x hx he
   subst this
   have hot:o.dst=some t:=by
    rw[hod] at ht
    cases h:o.dst with
    |none=>rw[h] at ht;cases ht
    |some u=>rw[h] at ht;injection ht with ht;rw[D4.of_inj ht]
   exact ⟨v',hown t hot,hv⟩
  ·have hX':X x.o.idx:=hX.resolve_right he
   obtain ⟨u,h1,h2⟩:=tw x hx hX' t ht
   refine ⟨u, ?_,h2.mono hle⟩
   rw[hput t ?_];exact h1
   intro hot
   obtain ⟨o2,m1,m2,_⟩:=hL.mem x.o (hRl x hx)
   have:o2.dst=some t:=by
    rw[m2] at ht
    cases h:o2.dst with
    |none=>rw[h] at ht;cases ht
    |some u=>rw[h] at ht;injection ht with ht;rw[D4.of_inj ht]
   exact he (hL.once _ _ o2 o t m1 ho this hot)
 ·intro t hn v hv0
  obtain ⟨u,h1,h2⟩:=ti t (fun x hx hX=>hn x hx (.inl hX)) v hv0
  refine ⟨u, ?_,h2.mono hle⟩
  rw[hput t ?_];exact h1
  intro hot
  exact hn r hr (.inr rfl) (by rw[hod,hot];rfl)
end
end Nm
namespace Nm
open Go
section
variable {P:Program} {S:cR} {self:Option D4->NC->Dyn->Res} {rnd:Option D4} {B:Nat} {b:Frame} {k:List Item} {ops:Array Oper} {fn:Func} {l:List NOper}
 {d0 dE:Dyn} {R:List Rec} {ι0:aU} {cs0:List Frame} {w0:World} {size:Nat} {X:Nat->Prop} {R1 R2:List Rec} {D:Dyn} {ι:aU} {a:Act} {cs:List Frame} {w:World}
theorem Mv.more {ctx:Option NV} {h:NH} {dfs':List Dfr} {ctx':Option NV} {h' h'':NH} {ds':List Deferred} {cs':List Frame} {w':World} (m:Mv P B rnd b ι0 ctx h cs0 w0 ι dfs' ctx' h' ds' cs' w') (hn:h'.next.toNat<=h''.next.toNat)
 (hg:∀i,i.toNat<h'.next.toNat->h''.get i=h'.get i) (hf:Fr h''):Mv P B rnd b ι0 ctx h cs0 w0 ι dfs' ctx' h'' ds' cs' w':=
 ⟨⟨m.sd.df,m.sd.cx,m.sd.rel.more hg hf,m.sd.base,m.sd.rn⟩,m.gr.more m.sd.rel hn hg,m.ca⟩
theorem Bt {op:Op} {n:NOp} (hc:ap P op=some n) (hcl:ax n≠.eff):∀c,op≠.defer c:=by
 rintro ⟨callee,args,ats⟩ rfl
 cases callee with
 |value f=>
  replace hc:fT f args.toList=some n:=hc
  unfold fT at hc
  split at hc
  ·cases hc;exact hcl rfl
  ·cases hc
 |builtin b=>have hc:(none:Option NOp)=some n:=hc;cases hc
 |invoke r m=>have hc:(none:Option NOp)=some n:=hc;cases hc
theorem xe {i:Nat} {rest:List Nat} {o:Oper} {n:NOp} (ho:ops[i]? =some o) (hw:Region.wanted o (yielded ops a.tmps)=true) (hc:ap P o.op=some n) (hcl:ax n= .alloc) {v':Value} {w':World}
 (h1:(execOp a.eval o).run P w= .ok (.value v') w'):
 Steps P (lone (b.atR a (.inRegion ops (i::rest)::k)) cs w) (lone (b.atR (a.put o.dst v') (.inRegion ops rest::k)) cs w'):=by
 have hg:=stepGR_op (P:=P) (b:=b) (k:=k) (cs:=cs) (w:=w) (rest:=rest) ho hw
 have hfin:∀v,(b.atR a (.inRegion ops (i::rest)::k)).finish v=b.atR (a.put o.dst v) (.inRegion ops rest::k):=by
  intro v;rw[Frame.finish_atR,ho];rfl
 rw[fg (.inr (Bt hc (by rw[hcl];simp)))] at hg
 refine .one (step_lone_go ?_)
 rw[hg,←hfin];simp[stepG.apply,h1]
theorem Ev (hC:CallsOK P S self) (hr:RegOK P fn ops) (hL:Lay P ops l) {rest0:List NOper} (hl:l=R.map (·.o)++rest0) (hQ:R.Pairwise QQ) (hsz:fn.ntmps<=size)
 (I:Inv P S self rnd B b ops d0 dE R ι0 cs0 w0 size X R1 R2 D ι a cs w) {r:Rec} (hrR:r∈R) (hE:dP ops X r.o.idx) (hnX:¬X r.o.idx) (rest:List Nat):
 ∃R1' R2' D' ι' a' cs' w',Steps P (lone (b.atR a (.inRegion ops (r.o.idx::rest)::k)) cs w) (lone (b.atR a' (.inRegion ops rest::k)) cs' w')/\
  Inv P S self rnd B b ops d0 dE R ι0 cs0 w0 size (fun j=>X j∨j=r.o.idx) R1' R2' D' ι' a' cs' w':=by
 have hRl:∀x∈R,x.o∈l:=fun x hx=>by rw[hl];simp only[List.mem_append];exact .inl (List.mem_map.2 ⟨x,hx,rfl⟩)
 obtain ⟨A,C,hAC⟩:=List.append_of_mem hrR
 have hA:∀x∈A,x∈R:=fun x hx=>by rw[hAC];simp[hx]
 have hlr:l=A.map (·.o)++r.o::(C.map (·.o)++rest0):=by rw[hl,hAC];simp
 have hchain:Chain P S self rnd d0 (A++r::C) dE:=by rw[←hAC,I.split];exact oT I.c1 I.c2
 obtain ⟨Dr,hcA,hcr⟩:=fm hchain
 obtain ⟨hDr,hok,hcC⟩:=dc hcr
 subst hDr
 obtain ⟨o,ho,hdst,hcp,hG,hpre⟩:=hL.mem r.o (hRl r hrR)
 have hbX:∀j,r.o.pre.testBit j=true->X j:=fun j hj=>oZ hr I.down ho hE (by rw[←hpre];exact hj)
 have hRnd:(R.map (·.o.idx)).Nodup:=by
  have:=hL.nodup
  rw[hl,List.map_append,List.nodup_append] at this
  have h1:=this.1
  rw[List.map_map] at h1
  exact h1
 have hRR:∀x∈R,∀y∈R,x.o.idx=y.o.idx->x=y:=by
  clear hlr hA hcA hcr hcC hchain hok hAC hQ hl hrR hRl I
  intro x hx y hy he
  induction R with
  |nil=>cases hx
  |cons z R ih=>
   rw[List.map_cons,List.nodup_cons] at hRnd
   rcases List.mem_cons.1 hx with rfl|hx'
   ·rcases List.mem_cons.1 hy with rfl|hy'
    ·rfl
    ·exact Q3 (List.mem_map.2 ⟨y,hy',he.symm⟩) hRnd.1
   ·rcases List.mem_cons.1 hy with rfl|hy'
    ·exact Q3 (List.mem_map.2 ⟨x,hx',he⟩) hRnd.1
    ·exact ih hRnd.2 hx' hy'
 have hX':∀j,(X j∨j=r.o.idx)->dP ops (fun j=>X j∨j=r.o.idx) j:=by
  intro j hj o' ho' e he hb
  rcases hj with hj|rfl
  ·exact .inl (I.down j hj o' ho' e he hb)
  ·exact .inl (hE o' ho' e he hb)
 have hinR:∀j,(X j∨j=r.o.idx)->∃x∈R,x.o.idx=j:=by
  rintro j (hj|rfl)
  ·exact I.inR j hj
  ·exact ⟨r,hrR,rfl⟩
 have hdb:∀d,o.dst=some d->d<a.tmps.size:=fun d hd=>by rw[I.size];exact Nat.lt_of_lt_of_le (hr.dst _ o d ho hd) hsz
 have hput:=fun {ι':aU} (hle:ι.le ι') {v':Value} (hv:VR ι' r.val v')=>mA hL hRl hle hrR ho hv hdb I.tw I.ti (fun x hx=>hRR x hx r hrR)
 have hguard:∀{on:Bool},az r.t r.o.guard=some on->Region.wanted o (yielded ops a.tmps)=on:=fun h=>mH hr hL hRl I hlr hA hcA ho hE hnX hG h
 have hhead:∀h2 R2',R2=h2::R2'->r∈R2'->QQ h2 r:=by
  intro h2 R2' h2e hm
  have hp:=hQ
  rw[I.split,h2e,List.pairwise_append] at hp
  exact (List.pairwise_cons.1 hp.2.1).1 r hm
 have hnohead:∀h2 R2',R2=h2::R2'->r.o.pre.testBit h2.o.idx=false:=by
  intro h2 R2' h2e
  cases hb:r.o.pre.testBit h2.o.idx with
  |false=>rfl
  |true=>exact Q3 (hbX _ hb) (I.head h2 R2' h2e).2
 have calm:∀{ι':aU} {a':Act} {cs':List Frame} {w':World} {v':Value} {ds:List Deferred},¬r.isE->(∀v h,r.k≠.alloc v h)->Mv P B rnd b ι D.ctx D.h cs w ι' D.dfs D.ctx D.h ds cs' w'->VR ι' r.val v'->a'=({a with defers:=ds}:Act).put o.dst v'->
  Inv P S self rnd B b ops d0 dE R ι0 cs0 w0 size (fun j=>X j∨j=r.o.idx) R1 R2 D ι' a' cs' w':=by
  intro ι' a' cs' w' v' ds hnE hnA mv hv he
  subst he
  have hpt:=mA (a:={a with defers:=ds}) hL hRl mv.gr.le hrR ho hv hdb I.tw I.ti (fun x hx=>hRR x hx r hrR)
  refine ⟨hX',hinR,I.split,I.c1,I.c2,fun x hx hxE=> .inl (I.effs x hx hxE),fun h2 R2' he=>⟨(I.head h2 R2' he).1, ?_⟩, ?_, ?_, ?_,I.fr,hpt.1,hpt.2, ?_⟩
  ·rintro (h|h)
   ·exact (I.head h2 R2' he).2 h
   ·have:h2=r:=hRR h2 (by rw[I.split,he];simp) r hrR h
    exact hnE (this▸(I.head h2 R2' he).1)
  ·rw[put_defers];exact I.mv.trans mv
  ·intro x hx v h e hn
   obtain ⟨p1,p2,p3,p4⟩:=I.pend x hx v h e (fun hX=>hn (.inl hX))
   refine ⟨?_,p2,p3,p4⟩
   cases hi:ι' x.h.next with
   |none=>rfl
   |some p=>
    rcases mv.gr.new _ _ hi with h|h
    ·rw[p1] at h;cases h
    ·omega
  ·exact fun x hx y hy v h v' h' e e' n n'=>I.dist x hx y hy v h v' h' e e' (fun hX=>n (.inl hX)) (fun hX=>n' (.inl hX))
  ·rw[fO];exact I.size
 have hrun:∀h,af r.o.op (hV (opsOf r.o.op) r.t) h=af r.o.op r.t h:=fun h=>oP Df h
 cases hk:r.k with
 |off=>
  have hg:az r.t r.o.guard=some false:=by unfold Rec.ok at hok;rw[hk] at hok;exact hok
  have hskip:=stepR_op_skip (P:=P) (b:=b) (a:=a) (k:=k) (cs:=cs) (w:=w) (ops:=ops) (i:=r.o.idx) (rest:=rest) (by simp[ho,hguard hg])
  simp only[ho,Option.bind_some] at hskip
  have hval:r.val=aS:=by simp[Rec.val,hk]
  exact ⟨R1,R2,D,ι,_,cs,w,.one hskip,calm (ds:=a.defers) (v':=undef) (by simp[Rec.isE,hk]) (by simp[hk]) (Mv.refl I.mv.sd) (by rw[hval];exact dK) rfl⟩
 |pure v=>
  have hok':az r.t r.o.guard=some true/\ax r.o.op= .pure/\af r.o.op r.t r.h= .val v:=by unfold Rec.ok at hok;rw[hk] at hok;exact hok
  obtain ⟨g1,g2,g3⟩:=hok'
  have hcp':ap P o.op=some r.o.op:=hcp.resolve_right fun e=>by rw[e] at g2;cases g2
  have hT:TR ι (hV (opsOf r.o.op) r.t) a.tmps:=gS hr hL hRl I hlr hA hcA ho hE hnX hcp'
  have hx:=gf (S:=S) (self:=self) (k:=k) (rest:=rest) hC ho (hguard g1) hcp' (mI hT) I.mv.sd
  rw[hrun,BP g2 r.t D.h r.h,g3] at hx
  obtain ⟨v',ι1,ds1,cs1,w1,x1,x2,x3⟩:=hx
  have hval:r.val=v:=by simp[Rec.val,hk]
  exact ⟨R1,R2,D,ι1,_,cs1,w1,x1,calm (by simp[Rec.isE,hk]) (by simp[hk]) x3 (by rw[hval];exact x2) rfl⟩
 |read v=>
  have hok':az r.t r.o.guard=some true/\ax r.o.op= .read/\af r.o.op r.t r.h= .val v:=by unfold Rec.ok at hok;rw[hk] at hok;exact hok
  obtain ⟨g1,g2,g3⟩:=hok'
  have hcp':ap P o.op=some r.o.op:=hcp.resolve_right fun e=>by rw[e] at g2;cases g2
  have hT:TR ι (hV (opsOf r.o.op) r.t) a.tmps:=gS hr hL hRl I hlr hA hcA ho hE hnX hcp'
  have hx:=gf (S:=S) (self:=self) (k:=k) (rest:=rest) hC ho (hguard g1) hcp' (mI hT) I.mv.sd
  have hval:r.val=v:=by simp[Rec.val,hk]
  have hread:af r.o.op r.t D.h= .val v:=by
   have hm:r∈R1∨r∈R2:=by have:=hrR;rw[I.split] at this;exact List.mem_append.1 this
   rcases hm with hm|hm
   ·obtain ⟨E1,E2,hE12⟩:=List.append_of_mem hm
    have hc1:=I.c1
    rw[hE12] at hc1
    obtain ⟨Dm,_,hc2⟩:=fm hc1
    obtain ⟨hDm,_,hc3⟩:=dc hc2
    refine Bp g2 hc3 (fun x hx=>I.fr x (by rw[hE12];simp[hx])) ?_ ?_
    ·rw[show r.nx.h=r.h by simp[Rec.nx,hk]];exact g3
    ·intro x hx u dfs ctx h e
     have hxR1:x∈R1:=by rw[hE12];simp[hx]
     have hXx:X x.o.idx:=I.effs x hxR1 (by unfold Rec.isE;rw[e];trivial)
     have hqq:QQ r x:=by
      have hp:=hQ
      rw[I.split,hE12,List.append_assoc,List.pairwise_append] at hp
      exact (List.pairwise_cons.1 hp.2.1).1 x (by simp[hx])
     unfold QQ at hqq
     rw[hk] at hqq
     unfold QR at hqq
     rw[e] at hqq
     refine hqq ?_
     cases hb:x.o.pre.testBit r.o.idx with
     |false=>rfl
     |true=>
      obtain ⟨ox,m1,_,_,_,mp⟩:=hL.mem x.o (hRl x (by rw[I.split];simp[hxR1]))
      exact Q3 (oZ hr I.down m1 (I.down _ hXx) (by rw[←mp];exact hb)) hnX
   ·cases hR2:R2 with
    |nil=>rw[hR2] at hm;cases hm
    |cons h2 R2'=>
     have hhd:=I.head h2 R2' hR2
     have hDh:D=h2.st:=by have:=I.c2;rw[hR2] at this;exact (dc this).1
     rw[hR2] at hm
     rcases List.mem_cons.1 hm with rfl|hm'
     ·have:=hhd.1;simp[Rec.isE,hk] at this
     ·have hqq:=hhead h2 R2' hR2 hm'
      unfold QQ at hqq
      have hisE:=hhd.1
      unfold Rec.isE at hisE
      split at hqq
      ·unfold QE at hqq
       rw[hk] at hqq
       rw[hDh]
       exact hqq (hnohead h2 R2' hR2)
      ·rename_i e;rw[e] at hisE;exact hisE.elim
      ·rename_i hno _
       split at hisE
       ·rename_i e;exact Q3 e (hno _ _ _ _)
       ·exact hisE.elim
  rw[hrun,hread] at hx
  obtain ⟨v',ι1,ds1,cs1,w1,x1,x2,x3⟩:=hx
  exact ⟨R1,R2,D,ι1,_,cs1,w1,x1,calm (by simp[Rec.isE,hk]) (by simp[hk]) x3 (by rw[hval];exact x2) rfl⟩
 |alloc v h=>
  have hok':az r.t r.o.guard=some true/\ax r.o.op= .alloc/\af r.o.op r.t r.h= .mem v h:=by unfold Rec.ok at hok;rw[hk] at hok;exact hok
  obtain ⟨g1,g2,g3⟩:=hok'
  have hcp':ap P o.op=some r.o.op:=hcp.resolve_right fun e=>by rw[e] at g2;cases g2
  have hT:TR ι (hV (opsOf r.o.op) r.t) a.tmps:=gS hr hL hRl I hlr hA hcA ho hE hnX hcp'
  have hm:r∈R1:=by
   have hm:r∈R1∨r∈R2:=by have:=hrR;rw[I.split] at this;exact List.mem_append.1 this
   rcases hm with hm|hm
   ·exact hm
   ·exfalso
    cases hR2:R2 with
    |nil=>rw[hR2] at hm;cases hm
    |cons h2 R2'=>
     have hhd:=I.head h2 R2' hR2
     rw[hR2] at hm
     rcases List.mem_cons.1 hm with rfl|hm'
     ·have:=hhd.1;simp[Rec.isE,hk] at this
     ·have hqq:=hhead h2 R2' hR2 hm'
      have hisE:=hhd.1
      unfold Rec.isE at hisE
      unfold QQ at hqq
      split at hqq
      ·unfold QE at hqq
       rw[hk] at hqq
       rw[hnohead h2 R2' hR2] at hqq;cases hqq
      ·rename_i e;rw[e] at hisE;exact hisE.elim
      ·rename_i hno _
       split at hisE
       ·rename_i e;exact Q3 e (hno _ _ _ _)
       ·exact hisE.elim
  obtain ⟨p1,p2,p3,p4⟩:=I.pend r hm v h hk hnX
  obtain ⟨ob,V,hAl⟩:=uG (P:=P) (ι:=ι) (w:=w) (t:=hV (opsOf r.o.op) r.t) (e:=a.eval) (h0:=r.h) hcp' (mI hT) g2 (by rw[hrun,g3];simp)
  have hv0:=hAl.all r.h
  rw[hrun,g3] at hv0
  injection hv0 with hv1 hv2
  obtain ⟨v',w1,O,p,hw1,hres,hpb,hOR,hVR⟩:=hAl.real
  have hstep:=xe (b:=b) (k:=k) (cs:=cs) (rest:=rest) ho (hguard g1) hcp' g2 hres
  have hn:ι r.h.next=none:=p1
  have hget:D.h.get r.h.next=some ob:=by rw[p2,hv2];exact NH.get_add_same _ _
  have hrel1:Rel P ι B D.h w1:=by rcases hw1 with rfl|rfl;exact I.mv.sd.rel;exact I.mv.sd.rel.drew
  have hgr1:Grow ι0 d0.h w0 ι D.h w1:=by rcases hw1 with rfl|rfl;exact I.mv.gr;exact I.mv.gr.drew
  have hw1s:w1.heap.size=w.heap.size:=by rcases hw1 with rfl|rfl<;>rfl
  have hB1:B<=w1.heap.size:=by rw[hw1s];exact I.mv.sd.base
  have hrel:=hrel1.at hB1 hn hget (p:=p) (O:=O) (by rw[hw1s];exact hpb) hOR
  have hgr:=hgr1.at hn p4 (O:=O) (p:=p) (by rw[hw1s];exact hpb)
  have hle:ι.le (ι.set r.h.next p):=aU.set_le hn
  have hvr:VR (ι.set r.h.next p) r.val v':=by
   rw[show r.val=v by simp[Rec.val,hk],hv1]
   exact hVR _ _ hle (aU.set_same _ _ _)
  have hpt:=hput hle hvr
  refine ⟨R1,R2,D,ι.set r.h.next p,_,cs,_,hstep,⟨hX',hinR,I.split,I.c1,I.c2,fun x hx hxE=> .inl (I.effs x hx hxE),fun h2 R2' he=>⟨(I.head h2 R2' he).1, ?_⟩, ?_, ?_, ?_,I.fr,hpt.1,hpt.2, ?_⟩⟩
  ·rintro (h|h)
   ·exact (I.head h2 R2' he).2 h
   ·have h3:h2=r:=hRR h2 (by rw[I.split,he];simp) r hrR h
    have:=(I.head h2 R2' he).1
    rw[h3] at this
    simp[Rec.isE,hk] at this
  ·rw[put_defers]
   have s:=I.mv.sd
   exact ⟨⟨s.df.mono hle,s.cx.mono hle,hrel,by have:=s.base;simp;omega,s.rn.mono hle⟩,hgr,I.mv.ca⟩
  ·intro x hx v2 h2 e hnx
   obtain ⟨q1,q2,q3,q4⟩:=I.pend x hx v2 h2 e (fun hX=>hnx (.inl hX))
   refine ⟨?_,q2,q3,q4⟩
   rw[aU.set_ne]
   ·exact q1
   ·intro he
    exact hnx (.inr (I.dist x hx r hm v2 h2 v h e hk (fun hX=>hnx (.inl hX)) hnX he))
  ·exact fun x hx y hy v h v' h' e e' n n'=>I.dist x hx y hy v h v' h' e e' (fun hX=>n (.inl hX)) (fun hX=>n' (.inl hX))
  ·rw[fO];exact I.size
 |eff v dfs1 ctx1 h1=>
  have hok':az r.t r.o.guard=some true/\ax r.o.op= .eff/\eL P S self rnd r.dfs r.ctx r.h (af r.o.op r.t r.h)= .next v dfs1 ctx1 h1:=by unfold Rec.ok at hok;rw[hk] at hok;exact hok
  obtain ⟨g1,g2,g3⟩:=hok'
  have hcp':ap P o.op=some r.o.op:=hcp.resolve_right fun e=>by rw[e] at g3;cases g3
  have hT:TR ι (hV (opsOf r.o.op) r.t) a.tmps:=gS hr hL hRl I hlr hA hcA ho hE hnX hcp'
  have hisE:r.isE:=by unfold Rec.isE;rw[hk];trivial
  have hR2:∃R2',R2=r::R2':=by
   have hm:r∈R1∨r∈R2:=by have:=hrR;rw[I.split] at this;exact List.mem_append.1 this
   rcases hm with hm|hm
   ·exact Q3 (I.effs r hm hisE) hnX
   ·cases hR2:R2 with
    |nil=>rw[hR2] at hm;cases hm
    |cons h2 R2'=>
     have hhd:=I.head h2 R2' hR2
     rw[hR2] at hm
     rcases List.mem_cons.1 hm with rfl|hm'
     ·exact ⟨R2',rfl⟩
     ·exfalso
      have hqq:=hhead h2 R2' hR2 hm'
      have hisE:=hhd.1
      unfold Rec.isE at hisE
      unfold QQ at hqq
      split at hqq
      ·unfold QE at hqq
       rw[hk] at hqq
       rw[hnohead h2 R2' hR2] at hqq;cases hqq
      ·rename_i e;rw[e] at hisE;exact hisE.elim
      ·rename_i hno _
       split at hisE
       ·rename_i e;exact Q3 e (hno _ _ _ _)
       ·exact hisE.elim
  obtain ⟨R2',hR2⟩:=hR2
  have hc2:=I.c2
  rw[hR2] at hc2
  obtain ⟨hD,_,hcR⟩:=dc hc2
  have hx:=gf (S:=S) (self:=self) (k:=k) (rest:=rest) hC ho (hguard g1) hcp' (mI hT) I.mv.sd
  rw[hrun,show D.h=r.h by rw[hD];rfl,show D.dfs=r.dfs by rw[hD];rfl,show D.ctx=r.ctx by rw[hD];rfl,g3] at hx
  obtain ⟨v',ι1,ds1,cs1,w1,x1,x2,x3⟩:=hx
  obtain ⟨T1,T2,hT12,hT1,hT2⟩:=ph R2'
  rw[hT12] at hcR
  obtain ⟨D',hc3,hc4⟩:=fm hcR
  have hnx:r.nx.dfs=dfs1/\r.nx.ctx=ctx1/\r.nx.h=h1:=by simp[Rec.nx,hk]
  obtain ⟨n1,n2,n3⟩:=hnx
  have sk:=rf hc3 hT1 (by rw[n3];exact x3.sd.rel.fresh)
  have s1:=sk.dfs;rw[n1] at s1
  have s2:=sk.ctx;rw[n2] at s2
  have s3:=sk.next;rw[n3] at s3
  have s4:=sk.get;rw[n3] at s4
  have hDh:D.h=r.h:=by rw[hD];rfl
  have x3':Mv P B rnd b ι D.ctx D.h cs w ι1 dfs1 ctx1 h1 ds1 cs1 w1:=by rw[hD];exact x3
  have mv1:=(I.mv.trans x3').more s3 s4 sk.fresh
  have hval:r.val=v:=by simp[Rec.val,hk]
  have hpt:=mA (a:={a with defers:=ds1}) hL hRl x3.gr.le hrR ho (by rw[hval];exact x2) hdb I.tw I.ti (fun x hx=>hRR x hx r hrR)
  have hmono:D.h.next.toNat<=h1.next.toNat:=x3'.gr.next
  refine ⟨R1++r::T1,T2,D',ι1,_,cs1,w1,x1,⟨hX',hinR, ?_,oT I.c1 (hD▸.cons r T1 D' (by rw[Rec.ok,hk];exact ⟨g1,g2,g3⟩) hc3),hc4, ?_, ?_, ?_, ?_, ?_, ?_,hpt.1,hpt.2, ?_⟩⟩
  ·rw[I.split,hR2,hT12];simp
  ·intro x hx hxE
   rcases List.mem_append.1 hx with hx|hx
   ·exact .inl (I.effs x hx hxE)
   ·rcases List.mem_cons.1 hx with rfl|hx
    ·exact .inr rfl
    ·exact Q3 hxE (hT1 x hx)
  ·intro h2 T2' he
   have hh2:=hT2 h2 T2' he
   refine ⟨hh2, ?_⟩
   have hmem:h2∈R2':=by rw[hT12,he];simp
   have hqq:QQ r h2:=by
    have hp:=hQ
    rw[I.split,hR2,List.pairwise_append] at hp
    exact (List.pairwise_cons.1 hp.2.1).1 h2 hmem
   have hbit:h2.o.pre.testBit r.o.idx=true:=by
    unfold QQ at hqq
    rw[hk] at hqq
    unfold QE at hqq
    cases hk2:h2.k with
    |eff v3 d3 c3 h3=>rw[hk2] at hqq;exact hqq
    |_=>unfold Rec.isE at hh2;rw[hk2] at hh2;exact hh2.elim
   have h2R:h2∈R:=by rw[I.split,hR2];simp[hmem]
   obtain ⟨o2,m1,_,_,_,mp⟩:=hL.mem h2.o (hRl h2 h2R)
   rintro (hX2|he2)
   ·exact hnX (oZ hr I.down m1 (I.down _ hX2) (by rw[←mp];exact hbit))
   ·have:=hRR h2 h2R r hrR he2
    subst this
    have hl2:l=A.map (·.o)++h2.o::(C.map (·.o)++rest0):=hlr
    obtain ⟨o',q1,q2⟩:=hL.pre _ _ _ hl2 h2.o.idx hbit
    have hnd:=hL.nodup
    rw[hl2,List.map_append,List.nodup_append] at hnd
    exact hnd.2.2 o'.idx (List.mem_map.2 ⟨o',q1,rfl⟩) h2.o.idx (by simp) q2
  ·rw[put_defers,s1,s2];exact mv1
  ·intro x hx v2 h2 e hnx2
   rcases List.mem_append.1 hx with hx|hx
   ·obtain ⟨q1,q2,q3,q4⟩:=I.pend x hx v2 h2 e (fun hX=>hnx2 (.inl hX))
    refine ⟨?_, ?_,Nat.lt_of_lt_of_le q3 (Nat.le_trans hmono s3),q4⟩
    ·cases hi:ι1 x.h.next with
     |none=>rfl
     |some p=>
      rcases x3'.gr.new _ _ hi with h|h
      ·rw[q1] at h;cases h
      ·omega
    ·rw[s4 _ (by omega),x3'.gr.keep _ q1 q3,q2]
   ·rcases List.mem_cons.1 hx with rfl|hx
    ·rw[hk] at e;cases e
    ·obtain ⟨q1,q2,q3⟩:=sk.al x hx v2 h2 e
     rw[n3] at q1
     refine ⟨?_,q3,q2, ?_⟩
     ·cases hi:ι1 x.h.next with
      |none=>rfl
      |some p=>have:=x3.sd.rel.lt_next hi;omega
     ·have:=I.mv.gr.next;omega
  ·intro x hx y hy v2 h2 v3 h3 e e' nx ny he
   rcases List.mem_append.1 hx with hx'|hx'
   ·have px:=I.pend x hx' v2 h2 e (fun hX=>nx (.inl hX))
    rcases List.mem_append.1 hy with hy'|hy'
    ·exact I.dist x hx' y hy' v2 h2 v3 h3 e e' (fun hX=>nx (.inl hX)) (fun hX=>ny (.inl hX)) he
    ·rcases List.mem_cons.1 hy' with rfl|hy''
     ·rw[hk] at e';cases e'
     ·obtain ⟨q1,q2,q3⟩:=sk.al y hy'' v3 h3 e'
      rw[n3,←he] at q1
      have:=px.2.2.1
      omega
   ·rcases List.mem_cons.1 hx' with rfl|hx''
    ·rw[hk] at e;cases e
    ·obtain ⟨q1,q2,q3⟩:=sk.al x hx'' v2 h2 e
     rcases List.mem_append.1 hy with hy'|hy'
     ·have py:=I.pend y hy' v3 h3 e' (fun hX=>ny (.inl hX))
      rw[n3,he] at q1
      have:=py.2.2.1
      omega
     ·rcases List.mem_cons.1 hy' with rfl|hy''
      ·rw[hk] at e';cases e'
      ·exact sk.dist x hx'' y hy'' v2 h2 v3 h3 e e' he
  ·intro x hx
   rcases List.mem_append.1 hx with hx|hx
   ·exact I.fr x hx
   ·rcases List.mem_cons.1 hx with rfl|hx
    ·rw[←hDh];exact I.mv.sd.rel.fresh
    ·exact sk.fr x hx
  ·rw[fO];exact I.size
end
end Nm
namespace Nm
open Go
section
variable {P:Program} {S:cR} {self:Option D4->NC->Dyn->Res} {rnd:Option D4} {B:Nat} {b:Frame} {k:List Item} {ops:Array Oper} {fn:Func} {l:List NOper}
 {d0 dE:Dyn} {R:List Rec} {ι0:aU} {cs0:List Frame} {w0:World} {size:Nat}
theorem dU.of_steps {m m':Machine} {ι:aU} {ctx:Option NV} {h:NH} {cs:List Frame} {w:World} {o:Out} {d':Dyn} (hs:Steps P m m') (g:dU P B rnd b k m' ι ctx h size cs w o d'):dU P B rnd b k m ι ctx h size cs w o d':=by
 obtain ⟨ι',a',cs',w',q1,q2⟩:=g
 exact ⟨ι',a',cs',w',q1.of_steps hs,q2⟩
theorem BZ (hC:CallsOK P S self) (hr:RegOK P fn ops) (hL:Lay P ops l) {rest0:List NOper} (hl:l=R.map (·.o)++rest0) (hQ:R.Pairwise QQ) (hsz:fn.ntmps<=size) {G:Out} {dF:Dyn}
 (hfin:∀(X:Nat->Prop) (R1 R2:List Rec) (D:Dyn) (ι:aU) (a:Act) (cs:List Frame) (w:World),Inv P S self rnd B b ops d0 dE R ι0 cs0 w0 size X R1 R2 D ι a cs w->(∀i,i<ops.size->X i)->
  dU P B rnd b k (lone (b.atR a (.inRegion ops []::k)) cs w) ι0 d0.ctx d0.h size cs0 w0 G dF)
 (hstop:∀(X:Nat->Prop) (R1 R2:List Rec) (D:Dyn) (ι:aU) (a:Act) (cs:List Frame) (w:World),Inv P S self rnd B b ops d0 dE R ι0 cs0 w0 size X R1 R2 D ι a cs w->∀(no:NOper) (rest:List Nat),no∈rest0->dP ops X no.idx->¬X no.idx->
  dU P B rnd b k (lone (b.atR a (.inRegion ops (no.idx::rest)::k)) cs w) ι0 d0.ctx d0.h size cs0 w0 G dF):
 ∀(fuel tt:Nat) (listed:Array Bool) (X:Nat->Prop) (R1 R2:List Rec) (D:Dyn) (ι:aU) (a:Act) (cs:List Frame) (w:World),listed.size=ops.size->(∀i,X i↔listed[i]? =some true)->(jr ops listed).length<=fuel->
  Inv P S self rnd B b ops d0 dE R ι0 cs0 w0 size X R1 R2 D ι a cs w->
  dU P B rnd b k (lone (b.atR a (.inRegion ops (Region.linearise.go .any ops fuel tt listed [])::k)) cs w) ι0 d0.ctx d0.h size cs0 w0 G dF:=by
 intro fuel
 induction fuel with
 |zero=>
  intro tt listed X R1 R2 D ι a cs w hs hX hleft I
  rw[HR]
  refine hfin X R1 R2 D ι a cs w I fun i hi=> ?_
  rw[hX]
  have he:jr ops listed= []:=List.eq_nil_of_length_eq_zero (by omega)
  rw[Array.getElem?_eq_getElem (by omega)]
  cases hb:listed[i]'(by omega) with
  |true=>rfl
  |false=>
   have hm:i∈jr ops listed:=by
    unfold jr
    rw[List.mem_filter]
    refine ⟨by simpa using hi, ?_⟩
    rw[Array.getD_eq_getD_getElem?,Array.getElem?_eq_getElem (by omega)];simp[hb]
   rw[he] at hm;cases hm
 |succ fuel ih=>
  intro tt listed X R1 R2 D ι a cs w hs hX hleft I
  rcases Gw ops fuel tt listed with ⟨h1,h2⟩|⟨i,t',h1,h2⟩
  ·rw[h2]
   exact hfin X R1 R2 D ι a cs w I fun i hi=>(hX i).2 (xt hr hs h1 i hi)
  ·rw[h2]
   obtain ⟨o,ho,hnl,hedge⟩:=CK h1
   have hi:i<ops.size:=(Array.getElem?_eq_some_iff.1 ho).1
   have hE:dP ops X i:=fun o' ho' e he hb=>by
    rw[ho] at ho';cases ho'
    exact (hX _).2 (hedge e he hb)
   have hnX:¬X i:=fun hx=>by
    have:=(hX i).1 hx
    rw[Array.getD_eq_getD_getElem?,this] at hnl
    cases hnl
   obtain ⟨no,hno,hidx⟩:=hL.all i hi
   rw[hl] at hno
   rcases List.mem_append.1 hno with hno|hno
   ·obtain ⟨r,hrR,rfl⟩:=List.mem_map.1 hno
    subst hidx
    obtain ⟨R1',R2',D',ι',a',cs',w',s1,I'⟩:=Ev (k:=k) hC hr hL hl hQ hsz I hrR hE hnX (Region.linearise.go .any ops fuel t' (listed.setIfInBounds r.o.idx true) [])
    refine dU.of_steps s1 (ih t' _ _ R1' R2' D' ι' a' cs' w' (by simpa using hs) (fun j=> ?_) ?_ I')
    ·by_cases hj:r.o.idx=j
     ·subst hj
      rw[Array.getElem?_setIfInBounds_self_of_lt (by omega)];simp
     ·rw[Array.getElem?_setIfInBounds_ne hj,hX j]
      constructor
      ·rintro (h|h)
       ·exact h
       ·exact Q3 h.symm hj
      ·exact .inl
    ·have hlt:(jr ops (listed.setIfInBounds r.o.idx true)).length<(jr ops listed).length:=by
      unfold jr
      refine HE (fun j _ hj=> ?_) r.o.idx (by simpa using hi) (by simp[hnl]) ?_
      ·rw[Array.getD_eq_getD_getElem?] at hj ⊢
       by_cases he:r.o.idx=j
       ·subst he;rw[Array.getElem?_setIfInBounds_self_of_lt (by omega)] at hj;simp at hj
       ·rw[Array.getElem?_setIfInBounds_ne he] at hj;exact hj
      ·rw[Array.getD_eq_getD_getElem?,Array.getElem?_setIfInBounds_self_of_lt (by omega)];rfl
     omega
   ·subst hidx
    exact hstop X R1 R2 D ι a cs w I no _ hno hE hnX
theorem rp:∀(l:List NOper) (hs:List (Nat×NH)) (rs:List (Nat×(NH->NR)×NV)) (d:Dyn) (o:Out) (d':Dyn),cd P S self rnd l hs rs d= .mk o d'->o= .norm∨∃v,o= .pan v:=by
 intro l
 induction l with
 |nil=>intro hs rs d o d' h;cases h;exact .inl rfl
 |cons x l ih=>
  intro hs rs d o d' h
  obtain ⟨t,dfs,ctx,hp⟩:=d
  rw[cm] at h
  cases hg:az t x.guard with
  |none=>rw[hg] at h;cases h
  |some on=>
   rw[hg] at h
   cases on with
   |false=>exact ih _ _ _ _ _ h
   |true=>
    dsimp only at h
    cases hcl:ax x.op with
    |pure=>
     rw[hcl] at h
     dsimp only at h
     cases hop:af x.op t hp<;>rw[hop] at h<;>first|exact ih _ _ _ _ _ h|cases h
    |alloc=>
     rw[hcl] at h
     dsimp only at h
     cases ha:ahead x.pre hs with
     |false=>rw[ha] at h;cases h
     |true=>rw[ha] at h;simp only[cond_true] at h;cases hop:af x.op t hp<;>rw[hop] at h<;>first|exact ih _ _ _ _ _ h|cases h
    |read=>
     rw[hcl] at h
     dsimp only at h
     cases hop:af x.op t hp with
     |val v=>
      rw[hop] at h
      dsimp only at h
      cases hst:e9 x.pre (af x.op t) v hs with
      |false=>rw[hst] at h;cases h
      |true=>rw[hst] at h;exact ih _ _ _ _ _ h
     |_=>rw[hop] at h;cases h
    |eff=>
     rw[hcl] at h
     dsimp only at h
     cases ha:ahead x.pre hs with
     |false=>rw[ha] at h;cases h
     |true=>
      rw[ha] at h
      have h':dQ (bQ x.idx l) (vW x.dst (fun d=>cond (stays x.pre d.h rs) (cd P S self rnd l ((x.idx,hp)::hs) rs d) .fail) t dfs ctx (eL P S self rnd dfs ctx hp (af x.op t hp)))= .mk o d':=h
      unfold dQ at h'
      split at h'
      ·cases hb:bQ x.idx l<;>rw[hb] at h'<;>cases h'
       exact .inr ⟨_,rfl⟩
      ·cases hoo:eL P S self rnd dfs ctx hp (af x.op t hp) with
       |fail=>rw[hoo] at h';cases h'
       |pan v h0=>rw[hoo] at h';cases h';exact .inr ⟨_,rfl⟩
       |next v dfs1 ctx1 h0=>
        rw[hoo] at h'
        have h2:cond (stays x.pre h0 rs) (cd P S self rnd l ((x.idx,hp)::hs) rs ⟨aQ x.dst v t,dfs1,ctx1,h0⟩) .fail= .mk o d':=h'
        cases hsy:stays x.pre h0 rs with
        |false=>rw[hsy] at h2;cases h2
        |true=>rw[hsy] at h2;exact ih _ _ _ _ _ h2
theorem Ff {a0:Act} (s:Sd P ι0 B rnd d0.dfs d0.ctx d0.h b a0.defers cs0 w0) (hT:TR ι0 d0.t a0.tmps) (hc:Chain P S self rnd d0 R dE) (hs:a0.tmps.size=size):
 ∃R1 R2 D,Inv P S self rnd B b ops d0 dE R ι0 cs0 w0 size (fun _=>False) R1 R2 D ι0 a0 cs0 w0:=by
 obtain ⟨T1,T2,hT12,hT1,hT2⟩:=ph R
 have hc':=hc
 rw[hT12] at hc'
 obtain ⟨D,c1,c2⟩:=fm hc'
 have sk:=rf c1 hT1 s.rel.fresh
 refine ⟨T1,T2,D,fun i h=>h.elim,fun i h=>h.elim,hT12,c1,c2,fun r hr hE=>Q3 hE (hT1 r hr),fun r R2' he=>⟨hT2 r R2' he,fun h=>h⟩, ?_, ?_,fun r hr r' hr' v h v' h' e e' _ _ he=>sk.dist r hr r' hr' v h v' h' e e' he,sk.fr,fun r _ h=>h.elim,fun t _ v hv=>hT.2 t v hv,hs⟩
 ·rw[sk.dfs,sk.ctx]
  exact (Mv.refl s).more sk.next sk.get sk.fresh
 ·intro r hr v h e _
  obtain ⟨q1,q2,q3⟩:=sk.al r hr v h e
  refine ⟨?_,q3,q2,q1⟩
  cases hi:ι0 r.h.next with
  |none=>rfl
  |some p=>have:=s.rel.lt_next hi;omega
theorem wx (hC:CallsOK P S self) (hr:RegOK P fn ops) (hL:Lay P ops l) (hsz:fn.ntmps<=size) {o:Out} {d':Dyn} (hrun:AS P S self l rnd d0= .mk o d') {a0:Act}
 (s:Sd P ι0 B rnd d0.dfs d0.ctx d0.h b a0.defers cs0 w0) (hT:TR ι0 d0.t a0.tmps) (hs:a0.tmps.size=size) (tt:Nat):
 dU P B rnd b k (lone (b.atR a0 (.inRegion ops (Region.linearise .any ops tt)::k)) cs0 w0) ι0 d0.ctx d0.h size cs0 w0 o d':=by
 have hstart:∀{R:List Rec} {dE:Dyn} {rest0:List NOper} {G:Out} {dF:Dyn},l=R.map (·.o)++rest0->R.Pairwise QQ->Chain P S self rnd d0 R dE->
  (∀(X:Nat->Prop) (R1 R2:List Rec) (D:Dyn) (ι:aU) (a:Act) (cs:List Frame) (w:World),Inv P S self rnd B b ops d0 dE R ι0 cs0 w0 size X R1 R2 D ι a cs w->(∀i,i<ops.size->X i)->
   dU P B rnd b k (lone (b.atR a (.inRegion ops []::k)) cs w) ι0 d0.ctx d0.h size cs0 w0 G dF)->
  (∀(X:Nat->Prop) (R1 R2:List Rec) (D:Dyn) (ι:aU) (a:Act) (cs:List Frame) (w:World),Inv P S self rnd B b ops d0 dE R ι0 cs0 w0 size X R1 R2 D ι a cs w->∀(no:NOper) (rest:List Nat),no∈rest0->dP ops X no.idx->¬X no.idx->
   dU P B rnd b k (lone (b.atR a (.inRegion ops (no.idx::rest)::k)) cs w) ι0 d0.ctx d0.h size cs0 w0 G dF)->
  dU P B rnd b k (lone (b.atR a0 (.inRegion ops (Region.linearise .any ops tt)::k)) cs0 w0) ι0 d0.ctx d0.h size cs0 w0 G dF:=by
  intro R dE rest0 G dF hl hQ hc hfin hstop
  obtain ⟨R1,R2,D,I⟩:=Ff (ops:=ops) s hT hc hs
  refine BZ hC hr hL hl hQ hsz hfin hstop ops.size tt (Array.replicate ops.size false) (fun _=>False) R1 R2 D ι0 a0 cs0 w0 (by simp) (fun i=> ?_) ?_ I
  ·simp[Array.getElem?_replicate]
  ·unfold jr
   exact Nat.le_trans (List.length_filter_le _ _) (by simp)
 unfold AS at hrun
 split at hrun
 ·
  rename_i v d1 hpan
  cases hrun
  obtain ⟨R,q,l2,h',q1,q2,q3,_,_,q6,q7,q8,q9,_,q11,q12⟩:=Fb l [] [] d0 d1 hpan
  have hRl:∀x∈R,x.o∈l:=fun x hx=>by rw[q1];simp only[List.mem_append];exact .inl (List.mem_map.2 ⟨x,hx,rfl⟩)
  have hql:q.o∈l:=by rw[q1];simp
  have hnq:∀x∈R,x.o.idx≠q.o.idx:=by
   intro x hx e
   have hnd:=hL.nodup
   rw[q1,List.map_append,List.nodup_append] at hnd
   exact hnd.2.2 x.o.idx (by rw[List.map_map];exact List.mem_map.2 ⟨x,hx,rfl⟩) q.o.idx (by simp) e
  refine hstart q1 q3 q2 (fun X R1 R2 D ι a cs w I hall=> ?_) (fun X R1 R2 D ι a cs w I no rest hno hE hnX=> ?_)
  ·obtain ⟨oq,m1,_⟩:=hL.mem q.o hql
   obtain ⟨x,hx,he⟩:=I.inR _ (hall q.o.idx (Array.getElem?_eq_some_iff.1 m1).1)
   exact Q3 he (hnq x hx)
  ·rcases List.mem_cons.1 hno with rfl|hno
   ·obtain ⟨oq,ho,hdst,hcp,hG,hpre⟩:=hL.mem q.o hql
    have hcp':ap P oq.op=some q.o.op:=hcp.resolve_right fun e=>by rw[e] at q8;cases q8
    have hT:TR ι (hV (opsOf q.o.op) q.t) a.tmps:=gS hr hL hRl I q1 (fun _ h=>h) q2 ho hE hnX hcp'
    have hgu:=mH hr hL hRl I q1 (fun _ h=>h) q2 ho hE hnX hG q6
    have hbX:∀j,q.o.pre.testBit j=true->X j:=fun j hj=>oZ hr I.down ho hE (by rw[←hpre];exact hj)
    have hR2:R2= []:=by
     cases hR2:R2 with
     |nil=>rfl
     |cons h2 R2'=>
      have hhd:=I.head h2 R2' hR2
      have hm:h2∈R:=by rw[I.split,hR2];simp
      exact Q3 (hbX _ (q11 h2 hm hhd.1)) hhd.2
    have hc2:=I.c2
    rw[hR2] at hc2
    have hD:=fG hc2
    have hx:=gf (S:=S) (self:=self) (k:=k) (rest:=rest) hC ho hgu hcp' (mI hT) I.mv.sd
    rw[oP Df D.h,←hD] at hx
    have q8':eL P S self rnd q.st.dfs q.st.ctx q.st.h (af q.o.op q.t q.st.h)= .pan v h':=q8
    rw[q8'] at hx
    obtain ⟨v',ι1,w1,td,x1,x2,x3⟩:=hx
    have hmv:=I.mv
    rw[←hD] at hmv
    rw[q9]
    refine ⟨ι1,a,cs,w1,⟨td,v',x2,x1⟩, ?_,hmv.trans x3,I.size⟩
    refine ⟨x3.sd.rel.gl,fun t v0 hv0=> ?_⟩
    obtain ⟨g1,g2⟩:=Cl hv0
    have g1':NT.get (D4.of t) q.st.t=some v0:=g1
    rw[iO q2 (fun x hx=>g2 x.o (hRl x hx))] at g1'
    obtain ⟨u,e1,e2⟩:=I.ti t (fun x hx _=>g2 x.o (hRl x hx)) v0 g1'
    exact ⟨u,e1,e2.mono x3.gr.le⟩
   ·exfalso
    have hnol:no∈l:=by rw[q1];simp[hno]
    obtain ⟨on,ho,_,_,_,hpre⟩:=hL.mem no hnol
    have hXq:X q.o.idx:=oZ hr I.down ho hE (by rw[←hpre];exact q12 no hno)
    obtain ⟨x,hx,he⟩:=I.inR _ hXq
    exact hnq x hx he
 ·rename_i hnp
  cases o with
  |norm=>
   obtain ⟨R,h1,h2,h3,_,_⟩:=Bv l [] [] d0 d' hrun
   have hRl:∀x∈R,x.o∈l:=fun x hx=>by rw[←h1];exact List.mem_map.2 ⟨x,hx,rfl⟩
   refine hstart (rest0:= []) (by rw[List.append_nil];exact h1.symm) h3 h2 (fun X R1 R2 D ι a cs w I hall=> ?_) (fun X R1 R2 D ι a cs w I no rest hno=>by cases hno)
   have hRX:∀x∈R,X x.o.idx:=fun x hx=>by
    obtain ⟨ox,m1,_⟩:=hL.mem x.o (hRl x hx)
    exact hall _ (Array.getElem?_eq_some_iff.1 m1).1
   have hR2:R2= []:=by
    cases hR2:R2 with
    |nil=>rfl
    |cons h2 R2'=>exact Q3 (hRX h2 (by rw[I.split,hR2];simp)) (I.head h2 R2' hR2).2
   have hc2:=I.c2
   rw[hR2] at hc2
   have hD:=fG hc2
   subst hD
   refine ⟨ι,a,cs,w,.one stepR_region_end, ?_,I.mv,I.size⟩
   refine ⟨I.mv.sd.rel.gl,fun t v hv=> ?_⟩
   by_cases hw:∃r∈R,r.o.dst=some (D4.of t)
   ·obtain ⟨r,hrR,hrd⟩:=hw
    obtain ⟨A,C,hAC⟩:=List.append_of_mem hrR
    have honly:∀x∈C,x.o.dst≠some (D4.of t):=by
     intro x hx hd
     have hxR:x∈R:=by rw[hAC];simp[hx]
     obtain ⟨o1,m1,m2,_⟩:=hL.mem r.o (hRl r hrR)
     obtain ⟨o2,n1,n2,_⟩:=hL.mem x.o (hRl x hxR)
     have f:∀{q:Option Nat},q.map D4.of=some (D4.of t)->q=some t:=by
      intro q hq
      cases q with
      |none=>cases hq
      |some u=>injection hq with hq;rw[D4.of_inj hq]
     have he:=hL.once r.o.idx x.o.idx o1 o2 t m1 n1 (f (by rw[←m2];exact hrd)) (f (by rw[←n2];exact hd))
     have hl':l=A.map (·.o)++r.o::C.map (·.o):=by rw[←h1,hAC];simp
     exact jM hL hl' (y:=x.o) (List.mem_map.2 ⟨x,hx,rfl⟩) (z:=r.o) (by simp) he
    have hch:=h2
    rw[hAC] at hch
    rw[nV hch hrd honly] at hv
    cases hv
    exact I.tw r hrR (hRX r hrR) t hrd
   ·rw[iO h2 (fun x hx hd=>hw ⟨x,hx,hd⟩)] at hv
    exact I.ti t (fun x hx _ hd=>hw ⟨x,hx,hd⟩) v hv
  |pan v=>exact Q3 hrun (hnp v d')
  |ret=>rcases rp l [] [] d0 _ d' hrun with h|⟨v,h⟩<;>cases h
  |exit id=>rcases rp l [] [] d0 _ d' hrun with h|⟨v,h⟩<;>cases h
end
end Nm
namespace Nm
open Go
section
variable {P:Program} {S:cR} {rnd:Option D4} {B:Nat} {b:Frame} {k:List Item} {size:Nat}
theorem dU.then {x:Item} {m:Machine} {ι:aU} {ctx:Option NV} {h:NH} {cs:List Frame} {w:World} {o:Out} {d1 d':Dyn} (g:dU P B rnd b (x::k) m ι ctx h size cs w .norm d1)
 (f:∀(ι':aU) (a':Act) (cs':List Frame) (w':World),TR ι' d1.t a'.tmps->Sd P ι' B rnd d1.dfs d1.ctx d1.h b a'.defers cs' w'->a'.tmps.size=size->
  dU P B rnd b k (lone (b.atR a' (x::k)) cs' w') ι' d1.ctx d1.h size cs' w' o d'):dU P B rnd b k m ι ctx h size cs w o d':=by
 obtain ⟨ι1,a1,cs1,w1,q1,q2,q3,q4⟩:=g
 obtain ⟨ι2,a2,cs2,w2,r1,r2,r3,r4⟩:=f ι1 a1 cs1 w1 q2 q3.sd q4
 exact ⟨ι2,a2,cs2,w2,r1.of_steps q1,r2,q3.trans r3,r4⟩
theorem dU.out {x:Item} {m:Machine} {ι:aU} {ctx:Option NV} {h:NH} {cs:List Frame} {w:World} {o:Out} {d':Dyn} (hx:∀id,o= .exit id->exitTo id (x::k)=exitTo id k) (ho:o≠.norm) (g:dU P B rnd b (x::k) m ι ctx h size cs w o d'):
 dU P B rnd b k m ι ctx h size cs w o d':=by
 obtain ⟨ι1,a1,cs1,w1,q1,q2⟩:=g
 refine ⟨ι1,a1,cs1,w1, ?_,q2⟩
 cases o with
 |norm=>exact Q3 rfl ho
 |ret=>exact q1
 |exit id=>obtain ⟨k0,h1,h2⟩:=q1;exact ⟨k0,h1.trans (hx id rfl),h2⟩
 |pan v=>exact q1
theorem dU.undrew {m:Machine} {ι:aU} {ctx:Option NV} {h:NH} {cs:List Frame} {w:World} {o:Out} {d':Dyn} (g:dU P B rnd b k m ι ctx h size cs w.drew o d'):dU P B rnd b k m ι ctx h size cs w o d':=by
 obtain ⟨ι1,a1,cs1,w1,q1,q2,q3,q4⟩:=g
 have gr:=q3.gr
 exact ⟨ι1,a1,cs1,w1,q1,q2,⟨q3.sd,⟨gr.le,gr.next,gr.new,gr.blk,gr.keep,gr.size,gr.os,gr.tape,gr.output,gr.frame⟩,q3.ca⟩,q4⟩
def EZ (st:Item) (c:Code):Prop:=st= .code c∨∃x,c= .loop x/\st= .inLoop x
def jq (P:Program) (S:cR) (n:Nat):Prop:=
 ∀(c:Code) (nc:NC) (fn:Func) (bl la:List Nat),c7 P c=some nc->CheckCode.code P fn bl la c= .ok ()->∀(rnd:Option D4) (d:Dyn) (o:Out) (d':Dyn),ev P S n rnd nc d= .mk o d'->
 ∀(st:Item),EZ st c->∀(B:Nat) (b:Frame) (k:List Item) (ι:aU) (a:Act) (cs:List Frame) (w:World),P.funcs[b.fn]? =some fn->TR ι d.t a.tmps->Sd P ι B rnd d.dfs d.ctx d.h b a.defers cs w->fn.ntmps<=a.tmps.size->
  dU P B rnd b k (lone (b.atR a (st::k)) cs w) ι d.ctx d.h a.tmps.size cs w o d'
theorem EB:∀{l:List Nat} {r:List D4},vL l=some r->r=l.map D4.of:=by
 intro l
 induction l with
 |nil=>intro r h;cases h;rfl
 |cons x l ih=>
  intro r h
  have h':(Option.rec none (fun t=>D4.ofNat x fun n=>some (n::t)) (vL l):Option (List D4))=some r:=h
  cases hl:vL l with
  |none=>rw[hl] at h';cases h'
  |some t=>
   rw[hl] at h'
   have h2:(D4.ofNat x fun n=>some (n::t))=some r:=h'
   rw[D4.ofNat_eq] at h2
   cases h2
   rw[ih hl];rfl
theorem rF {a:Act} {cs:List Frame} {w w₁:World} {g:Operand} {ps:Array Tmp} {assign body:Code} {l:Nat} {mark:List Deferred}
 (he:(Instr.enterLoop b.fn a.tmps ps assign body b.roundOf).run P w= .ok (l,mark) w₁):
 (stepG P true {frame:=b.atR a (.code (.rangeFunc g ps assign body)::k),callers:=cs,status:= .running,dying:=none} w).bare=
  (stepG.apply P true (b.atR {a with defers:=mark++a.defers} (.inRangeFunc l::k)) cs none (do let d ←resolve a.eval (rangeCall g l) 0;invoke d.target d.args) w₁).bare:=by
 have hev:=Frame.eval_atR b {a with defers:=mark++a.defers} (.inRangeFunc l::k)
 simp only[Frame.atR] at hev
 simp[stepG,stepG.exec,Frame.atR,Sem.runT_eq,he,GStep.bare_after,hev]
 rfl
theorem kq {self:Option D4->NC->Dyn->Res} (hC:CallsOK P S self) {fn:Func} (hfn:P.funcs[b.fn]? =some fn) {bl la:List Nat} {assign body:Code} {na nb:NC} (ca:c7 P assign=some na) (cb:c7 P body=some nb)
 (ka:CheckCode.code P fn [] [] assign= .ok ()) (kb:CheckCode.code P fn bl la body= .ok ()) {ps:Array Tmp} {nps:List D4} (hps:nps=ps.toList.map D4.of) (hpl:∀t∈ps.toList,t<fn.ntmps)
 {g:Operand} {f:Nat} {cap:List NV} {t:Tm} {dfs:List Dfr} {ctx:Option NV} {h:NH} {o:Out} {d':Dyn} (hrun:cE P S self f cap nps na nb t dfs ctx h= .mk o d')
 {ι:aU} {a:Act} {cs:List Frame} {w0 w:World} {mark:List Deferred} {r:Nat} (hT:TR ι t a.tmps) (s:Sd P ι B rnd dfs ctx h b (mark++a.defers) cs w) (hsz:fn.ntmps<=a.tmps.size)
 {cap':List Value} (hcap:VRL ι cap cap') (hg:a.eval g= .func (.func f) #[] cap'.toArray)
 (he:(Instr.enterLoop b.fn a.tmps ps assign body b.roundOf).run P w0= .ok (w.heap.size,mark) (w.alloc (.loop {state:= .ready,pending:=none,fn:=b.fn,tmps:=a.tmps,params:=ps,assign,body,defers:=r}))):
 dU P B rnd b k (lone (b.atR a (.code (.rangeFunc g ps assign body)::k)) cs w0) ι ctx h a.tmps.size cs w o d':=by
 obtain ⟨L,hL⟩:∃L:Loop,L={state:= .ready,pending:=none,fn:=b.fn,tmps:=a.tmps,params:=ps,assign,body,defers:=r}:=⟨_,rfl⟩
 rw[←hL] at he
 have hOR:∀ι':aU,ι.le ι'->OR P ι' (w.alloc (.loop L)) ⟨w.heap.size,0,0⟩ (.loop 0 .none t nps na nb):=fun ι' hle=>by
  subst hL
  exact ⟨_,cP w _,rfl,rfl,hT.mono hle,hps,ca,cb,⟨fn,bl,la,bl,hfn,hsz,ka,kb,rfl⟩,fun q hq=>Nat.lt_of_lt_of_le (hpl q hq) hsz⟩
 obtain ⟨ι1,i1,i2,i3,i4⟩:=s.rel.alloc s.base (.loop 0 .none t nps na nb) (.loop L) ⟨w.heap.size,0,0⟩ rfl hOR
 generalize hw1:w.alloc (.loop L)=w1 at *
 generalize hh1:h.add (.loop 0 .none t nps na nb)=h1 at *
 have hB1:B<=w1.heap.size:=Nat.le_trans s.base i4.size
 have hrun':(match bZ P S self f (.yld h.next::cap) h1 with
  | .val _ _ h3=>gd h.next t dfs ctx h3
  | .pan v _ h3=> .mk (.pan v) ⟨t,dfs,ctx,h3⟩
  | .fail=> .fail)=Res.mk o d':=by
  rw[←hrun,←hh1]
  exact (NH.new_eq h (.loop 0 .none t nps na nb) fun l h=>match bZ P S self f (.yld l::cap) h with
   | .val _ _ h=>gd l t dfs ctx h
   | .pan v _ h=> .mk (.pan v) ⟨t,dfs,ctx,h⟩
   | .fail=> .fail).symm
 have hcall:=hC.call ι1 B h1 w1 f (.yld h.next::cap) (.func (.yield w.heap.size) #[] #[]::cap') i3 hB1 (.cons _ _ _ _ (.yld h.next _ i1) (hcap.mono i2))
 have hs:(do let d ←resolve a.eval (rangeCall g w.heap.size) 0;invoke d.target d.args:Sem Next).run P w1=(callFunc f (Value.func (.yield w.heap.size) #[] #[]::cap').toArray).run P w1:=by
  simp only[resolve,hg,Deferred.ofValue,invoke,Sem.run_bind,Sem.run_pure,Result.andThen]
  congr 2
  simp[Act.eval]
 have hstep:=rF (k:=k) (cs:=cs) (g:=g) he
 have hfin:∀v,(b.atR {a with defers:=mark++a.defers} (.inRangeFunc w.heap.size::k)).finish v=b.atR {a with defers:=mark++a.defers} (.endRangeFunc w.heap.size::k):=finish_atR_inRangeFunc w.heap.size
 cases hcr:bZ P S self f (.yld h.next::cap) h1 with
 |fail=>rw[hcr] at hrun';cases hrun'
 |val v x h3=>
  rw[hcr] at hcall hrun'
  obtain ⟨ι3,v',w3,c1,c2,c3,c4,c5⟩:=hcall (b.atR {a with defers:=mark++a.defers} (.inRangeFunc w.heap.size::k)) cs
  have hto:Steps P (lone (b.atR a (.code (.rangeFunc g ps assign body)::k)) cs w0) (lone (b.atR {a with defers:=mark++a.defers} (.endRangeFunc w.heap.size::k)) cs w3):=by
   rcases c5 with c5|⟨w2,⟨f',ar,c5,c6⟩|⟨l,f',tm,x,y,c5,c6⟩⟩
   ·refine .one (step_lone_go ?_)
    rw[hstep,←hfin v'];simp[stepG.apply,hs,c5]
   ·refine .head (step_lone_go ?_) (by rw[←hfin v'];exact c6)
    rw[hstep];simp[stepG.apply,hs,c5,Frame.atR]
   ·refine .head (step_lone_go ?_) (by rw[←hfin v'];exact c6)
    rw[hstep];simp[stepG.apply,hs,c5,Frame.atR]
  have hp3:ι3 h.next=some ⟨w.heap.size,0,0⟩:=c4.le _ _ i1
  obtain ⟨ob,ho1,ho2⟩:=c2.obj _ _ hp3
  have hre:gd h.next t dfs ctx h3= .mk o d':=hrun'
  unfold gd at hre
  rw[ho1] at hre
  cases ob with
  |loop st pd tm ps2 a2 b2=>
   dsimp only at hre
   cases hst:Nat.beq st 1 with
   |true=>rw[hst] at hre;cases hre
   |false=>
    rw[hst,NH.set_eq] at hre
    simp only[cond_false] at hre
    have hst1:st≠1:=Nat.ne_of_beq_eq_false hst
    obtain ⟨L3,l1,l2,l3,l4,l5,l6,l7,l8,l9⟩:=ho2
    have hbusy:L3.state≠.busy:=by
     intro e
     rw[e] at l2
     match st,l2,hst1 with
     |0,l2,_=>cases l2
     |1,_,h=>exact h rfl
     |2,l2,_=>cases l2
     |3,l2,_=>cases l2
    have hend:=run_endLoop (P:=P) l1 hbusy
    have hsz3:w.heap.size<w3.heap.size:=c2.lt _ _ hp3
    obtain ⟨t1,t2⟩:=c2.turn (w':=w3.putObj w.heap.size (.loop {L3 with state:= .exhausted})) hp3 (by rw[ho1];simp) (.loop 3 pd tm ps2 a2 b2)
     ⟨_,World.putObj_heap_same hsz3,rfl,l3,l4,l5,l6,l7,l8,l9⟩ (by simp) rfl rfl rfl (fun q hq=>World.putObj_heap_other hq)
    have hle:ι.le ι3:=i2.trans c4.le
    have hend':=stepR_endRangeFunc (P:=P) (b:=b) (a:={a with defers:=mark++a.defers}) (k:=k) (cs:=cs) hend
    have hsteps:=hto.trans (.one hend')
    have hmv:Mv P B rnd b ι ctx h cs w ι3 dfs ctx (h3.put h.next (.loop 3 pd tm ps2 a2 b2)) (mark++a.defers) cs (w3.putObj w.heap.size (.loop {L3 with state:= .exhausted})):=
     ⟨⟨s.df.mono hle,s.cx.mono hle,t1,by simpa using c3,s.rn.mono hle⟩,(i4.trans c4).trans t2,.refl _ _⟩
    generalize w3.putObj w.heap.size (.loop {L3 with state:= .exhausted})=w4 at hsteps hmv
    cases pd with
    |none=>
     cases hre
     rw[show L3.pending=none from l3] at hsteps
     exact ⟨ι3,{a with defers:=mark++a.defers},cs,_,hsteps,hT.mono hle,hmv,rfl⟩
    |ret=>
     cases hre
     rw[show L3.pending=some .ret from l3] at hsteps
     exact ⟨ι3,{a with defers:=mark++a.defers},cs,_,⟨k,hsteps⟩,hT.mono hle,hmv,rfl⟩
    |exit id=>
     cases hre
     rw[show L3.pending=some (.exit id) from l3] at hsteps
     exact ⟨ι3,{a with defers:=mark++a.defers},cs,_,⟨k,rfl,hsteps⟩,hT.mono hle,hmv,rfl⟩
  |_=>cases hre
 |pan v x h3=>
  rw[hcr] at hcall hrun'
  cases hrun'
  obtain ⟨ι3,v',w3,c1,c2,c3,c4,w2,c5⟩:=hcall (b.atR {a with defers:=mark++a.defers} (.inRangeFunc w.heap.size::k)) cs
  have hle:ι.le ι3:=i2.trans c4.le
  refine ⟨ι3,{a with defers:=mark++a.defers},cs,w3,⟨.inRangeFunc w.heap.size::k,v',c1, ?_⟩,hT.mono hle,⟨⟨s.df.mono hle,s.cx.mono hle,c2,c3,s.rn.mono hle⟩,i4.trans c4,.refl _ _⟩,rfl⟩
  rw[←Frame.raise_atR b {a with defers:=mark++a.defers} (.inRangeFunc w.heap.size::k)]
  rcases c5 with ⟨f',ar,c5,c6⟩|⟨l,f',tm,x,y,c5,c6⟩
  ·refine .head (step_lone_go ?_) c6
   rw[hstep];simp[stepG.apply,hs,c5,Frame.atR]
  ·refine .head (step_lone_go ?_) c6
   rw[hstep];simp[stepG.apply,hs,c5,Frame.atR]
end
end Nm
namespace Nm
open Go
section
variable {P:Program} {S:cR}
theorem Cv (hM:P.follows .mixedOrders=true) {n:Nat} (hO:jq P S n) (hC:CallsOK P S (ev P S n)):jq P S (n+1):=by
 intro c nc fn bl la hc hk rnd d o d' hrun st hst B b k ι a cs w hfn hT s hsz
 have self:∀{x:Code} {nx:NC} {bl la:List Nat},c7 P x=some nx->CheckCode.code P fn bl la x= .ok ()->∀{d1:Dyn} {o1:Out} {d2:Dyn},ev P S n rnd nx d1= .mk o1 d2->∀{st:Item},EZ st x->
  ∀{k:List Item} {ι:aU} {a:Act} {cs:List Frame} {w:World},TR ι d1.t a.tmps->Sd P ι B rnd d1.dfs d1.ctx d1.h b a.defers cs w->fn.ntmps<=a.tmps.size->
  dU P B rnd b k (lone (b.atR a (st::k)) cs w) ι d1.ctx d1.h a.tmps.size cs w o1 d2:=
  fun hx hkx _ _ _ hr _ hs _ _ _ _ _ hT s hsz=>hO _ _ fn _ _ hx hkx rnd _ _ _ hr _ hs B b _ _ _ _ _ hfn hT s hsz
 have hcode:(∀x,c≠.loop x)->st= .code c:=fun h=>by
  rcases hst with h1|⟨x,h1,_⟩
  ·exact h1
  ·exact Q3 h1 (h x)
 cases c with
 |skip=>
  rw[hcode (by simp)]
  cases hc
  have hrun':(Res.mk .norm d)= .mk o d':=hrun
  cases hrun'
  exact ⟨ι,a,cs,w,.one stepR_skip,hT,Mv.refl s,rfl⟩
 |region id ops draw=>
  rw[hcode (by simp)]
  cases draw with
  |false=>
   have hc':(match ez P ops ops.toList 0 [] with|some l=>some (NC.reg l)|none=>none)=some nc:=hc
   split at hc'
   ·rename_i l hl
    cases hc'
    have hrun':dz P S (ev P S n) rnd l d= .mk o d':=hrun
    obtain ⟨t,dfs,ctx,h⟩:=d
    refine dU.of_steps (.one stepR_region) ?_
    have:=B4 (k:=k) hC (mT hk) ops.toList 0 l [] (fun j=>by simp) hl t dfs ctx h o d' hrun' ι a cs w hT s hsz
    rw[List.range_eq_range']
    simpa using this
   ·cases hc'
  |true=>
   obtain ⟨l,rfl,hL⟩:=Km hc
   have hrun':AS P S (ev P S n) l rnd d= .mk o d':=hrun
   have hs':Sd P ι B rnd d.dfs d.ctx d.h b a.defers cs w.drew:=⟨s.df,s.cx,s.rel.drew,s.base,s.rn⟩
   refine dU.undrew (dU.of_steps (.one stepR_region_draw) ?_)
   have hsch:Region.schedule (P.follows .mixedOrders) ops (w.tape w.drawn (.order b.fn id))=Region.linearise .any ops (w.tape w.drawn (.order b.fn id)):=by unfold Region.schedule;rw[hM];rfl
   rw[hsch]
   exact wx hC (mT hk) hL hsz hrun' hs' hT rfl _
 |seq x y=>
  rw[hcode (by simp)]
  have hc':(match c7 P x with|some a=>(match c7 P y with|some b=>some (NC.seq a b)|none=>none)|none=>none)=some nc:=hc
  split at hc'
  ·rename_i nx hx
   split at hc'
   ·rename_i ny hy
    cases hc'
    obtain ⟨k1,k2⟩:=EH hk
    have hrun':(match ev P S n rnd nx d with
     | .mk o d=>(match o with
      | .norm=>ev P S n rnd ny d
      |o=> .mk o d)
     | .fail=> .fail)=Res.mk o d':=xR.symm.trans hrun
    refine dU.of_steps (.one stepR_seq) ?_
    cases he:ev P S n rnd nx d with
    |fail=>rw[he] at hrun';cases hrun'
    |mk o1 d1=>
     rw[he] at hrun'
     have g1:=self hx k1 he (.inl rfl) (k:= .code y::k) hT s hsz
     cases o1 with
     |norm=>
      exact g1.then fun ι' a' cs' w' hT' s' hz=>by
       have:=self hy k2 hrun' (.inl rfl) (k:=k) hT' s' (by rw[hz];exact hsz)
       rw[hz] at this;exact this
     |ret=>cases hrun';exact g1.out (by simp) (by simp)
     |exit id=>cases hrun';exact g1.out (fun _ _=>rfl) (by simp)
     |pan v=>cases hrun';exact g1.out (by simp) (by simp)
   ·cases hc'
  ·cases hc'
 |cond e x y=>
  rw[hcode (by simp)]
  have hc':(match aC e with
   |some c=>(match c7 P x with|some a=>(match c7 P y with|some b=>some (NC.cond c a b)|none=>none)|none=>none)
   |none=>none)=some nc:=hc
  split at hc'
  ·rename_i ne hne
   split at hc'
   ·rename_i nx hx
    split at hc'
    ·rename_i ny hy
     cases hc'
     obtain ⟨k1,k2⟩:=Cw hk
     have hrun':(match ρ d.t ne with
      |some (.bool c)=>Bool.rec (ev P S n rnd ny d) (ev P S n rnd nx d) c
      |_=> .fail)=Res.mk o d':=A5.symm.trans hrun
     cases hv:ρ d.t ne with
     |none=>rw[hv] at hrun';cases hrun'
     |some v=>
      rw[hv] at hrun'
      cases v with
      |bool q=>
       have hq:=mI hT e ne hne _ hv
       have hev:a.eval e= .bool q:=by generalize a.eval e=z at hq;cases hq;rfl
       refine dU.of_steps (.one (stepR_cond hev)) ?_
       cases q with
       |true=>exact self hx k1 hrun' (.inl rfl) hT s hsz
       |false=>exact self hy k2 hrun' (.inl rfl) hT s hsz
      |_=>cases hrun'
    ·cases hc'
   ·cases hc'
  ·cases hc'
 |block id x=>
  rw[hcode (by simp)]
  have hc':(match c7 P x with|some a=>aq id fun id=>some (NC.block id a)|none=>none)=some nc:=hc
  split at hc'
  ·rename_i nx hx
   rw[ag] at hc'
   cases hc'
   have k1:=x9 hk
   have hrun':(match ev P S n rnd nx d with
    | .mk o d=>(match o with
     | .exit i=>cond (Nat.beq i id) (.mk .norm d) (.mk (.exit i) d)
     |o=> .mk o d)
    | .fail=> .fail)=Res.mk o d':=tO.symm.trans hrun
   refine dU.of_steps (.one stepR_block) ?_
   cases he:ev P S n rnd nx d with
   |fail=>rw[he] at hrun';cases hrun'
   |mk o1 d1=>
    rw[he] at hrun'
    have g1:=self hx k1 he (.inl rfl) (k:= .inBlock id::k) hT s hsz
    cases o1 with
    |norm=>
     cases hrun'
     obtain ⟨ι1,a1,cs1,w1,q1,q2⟩:=g1
     exact ⟨ι1,a1,cs1,w1,Steps.trans q1 (.one stepR_inBlock),q2⟩
    |ret=>cases hrun';exact g1.out (by simp) (by simp)
    |exit i=>
     dsimp only at hrun'
     cases hb:Nat.beq i id with
     |true=>
      rw[hb] at hrun'
      cases hrun'
      have:=Ra hb
      subst this
      obtain ⟨ι1,a1,cs1,w1,⟨k0,q0,q1⟩,q2⟩:=g1
      refine ⟨ι1,a1,cs1,w1,Steps.trans q1 (.one (stepR_exit ?_)),q2⟩
      rw[q0];simp[exitTo]
     |false=>
      rw[hb] at hrun'
      cases hrun'
      have hne:=Nat.ne_of_beq_eq_false hb
      refine g1.out (fun i' hi'=> ?_) (by simp)
      cases hi'
      have:(id==i)=false:=by simpa using fun e=>hne e.symm
      simp[exitTo,this]
    |pan v=>cases hrun';exact g1.out (by simp) (by simp)
  ·cases hc'
 |loop x=>
  have hc':(match c7 P x with|some a=>some (NC.loop a)|none=>none)=some nc:=hc
  split at hc'
  ·rename_i nx hx
   cases hc'
   have k1:=Ck hk
   have hrun':(match ev P S n rnd nx d with
    | .mk o d=>(match o with
     | .norm=>ev P S n rnd (.loop nx) d
     |o=> .mk o d)
    | .fail=> .fail)=Res.mk o d':=sB.symm.trans hrun
   have h1:Steps P (lone (b.atR a (st::k)) cs w) (lone (b.atR a (.code x:: .inLoop x::k)) cs w):=by
    rcases hst with rfl|⟨y,hy,rfl⟩
    ·exact .one stepR_loop
    ·cases hy;exact .one stepR_inLoop
   refine dU.of_steps h1 ?_
   cases he:ev P S n rnd nx d with
   |fail=>rw[he] at hrun';cases hrun'
   |mk o1 d1=>
    rw[he] at hrun'
    have g1:=self hx k1 he (.inl rfl) (k:= .inLoop x::k) hT s hsz
    cases o1 with
    |norm=>
     exact g1.then fun ι' a' cs' w' hT' s' hz=>by
      have:=self hc hk hrun' (.inr ⟨x,rfl,rfl⟩) (k:=k) hT' s' (by rw[hz];exact hsz)
      rw[hz] at this;exact this
    |ret=>cases hrun';exact g1.out (by simp) (by simp)
    |exit id=>cases hrun';exact g1.out (fun _ _=>rfl) (by simp)
    |pan v=>cases hrun';exact g1.out (by simp) (by simp)
  ·cases hc'
 |exit id=>
  rw[hcode (by simp)]
  have hc':(aq id fun id=>some (NC.exit id))=some nc:=hc
  rw[ag] at hc'
  cases hc'
  have hrun':Res.mk (.exit id) d= .mk o d':=hrun
  cases hrun'
  exact ⟨ι,a,cs,w,⟨k,rfl,Steps.refl P _⟩,hT,Mv.refl s,rfl⟩
 |ret=>
  rw[hcode (by simp)]
  cases hc
  have hrun':Res.mk .ret d= .mk o d':=hrun
  cases hrun'
  exact ⟨ι,a,cs,w,⟨k,Steps.refl P _⟩,hT,Mv.refl s,rfl⟩
 |rangeFunc g ps x y=>
  rw[hcode (by simp)]
  have hc':(match aC g,vL ps.toList with
   |some f,some ps=>(match c7 P x with|some a=>(match c7 P y with|some b=>some (NC.rangeFunc f ps a b)|none=>none)|none=>none)
   |_,_=>none)=some nc:=hc
  split at hc'
  ·rename_i nf nps hf hps
   split at hc'
   ·rename_i nx hx
    split at hc'
    ·rename_i ny hy
     cases hc'
     obtain ⟨k1,k2,k3⟩:=wL hk
     have hnps:=EB hps
     obtain ⟨t,dfs,ctx,h⟩:=d
     have hrun':(match ρ t nf with
      |some (.fn f cap)=>(match (generalizing:=false) rnd with
       |none=>h.new (.defd true) fun m h=>cE P S (ev P S n) f cap nps nx ny t (.mark m::dfs) ctx h
       |some l=>(match h.get l with
        |some (.loop ..)=>cE P S (ev P S n) f cap nps nx ny t dfs ctx h
        |_=> .fail))
      |_=> .fail)=Res.mk o d':=hrun
     cases hv:ρ t nf with
     |none=>rw[hv] at hrun';cases hrun'
     |some v=>
      rw[hv] at hrun'
      cases v with
      |fn f cap=>
       have hq:=mI hT g nf hf _ hv
       obtain ⟨cap',hcap,hg⟩:∃cap',VRL ι cap cap'/\a.eval g= .func (.func f) #[] cap'.toArray:=by
        generalize a.eval g=z at hq
        cases hq with
        |fn _ _ cap' h=>exact ⟨cap',h,rfl⟩
       cases rnd with
       |none=>
        have hro:b.roundOf=none:=s.rn
        have hrun2:(h.new (.defd true) fun m h=>cE P S (ev P S n) f cap nps nx ny t (.mark m::dfs) ctx h)=Res.mk o d':=hrun'
        rw[NH.new_eq] at hrun2
        obtain ⟨ι1,i1,i2,i3,i4⟩:=s.rel.alloc s.base (.defd true) (.deferred (some [])) ⟨w.heap.size,0,0⟩ rfl (fun ι' _=>cP w _)
        have henter:=run_enterLoop_outer (P:=P) (w:=w) b.fn a.tmps ps x y
        have hs1:Sd P ι1 B none (.mark h.next::dfs) ctx (h.add (.defd true)) b ([{target:= .collected w.heap.size,args:=#[]}]++a.defers) cs (w.alloc (.deferred (some []))):=
         ⟨⟨⟨_,i1,rfl⟩,s.df.mono i2⟩,s.cx.mono i2,i3,Nat.le_trans s.base i4.size,s.rn⟩
        have g:=kq (k:=k) hC hfn hx hy k2 k3 hnps k1 hrun2 (w0:=w) (mark:= [{target:= .collected w.heap.size,args:=#[]}]) (r:=w.heap.size) (hT.mono i2) hs1 hsz (hcap.mono i2) hg (by rw[hro,henter];simp)
        obtain ⟨ι2,a2,cs2,w2,q1,q2,q3,q4⟩:=g
        exact ⟨ι2,a2,cs2,w2,q1,q2,⟨q3.sd,i4.trans q3.gr,q3.ca⟩,q4⟩
       |some l0=>
        obtain ⟨p0,hp0,hro⟩:=s.rn
        have hrun2:(match h.get l0 with
         |some (.loop ..)=>cE P S (ev P S n) f cap nps nx ny t dfs ctx h
         |_=> .fail)=Res.mk o d':=hrun'
        obtain ⟨ob,ho1,ho2⟩:=s.rel.obj _ _ hp0
        rw[ho1] at hrun2
        cases ob with
        |loop st pd tm ps2 a2 b2=>
         obtain ⟨L3,l1,_⟩:=ho2
         have henter:(Instr.enterLoop b.fn a.tmps ps x y (some p0.b)).run P w= .ok (w.heap.size, []) (w.alloc (.loop {state:= .ready,pending:=none,fn:=b.fn,tmps:=a.tmps,params:=ps,assign:=x,body:=y,defers:=L3.defers})):=by
          unfold Instr.enterLoop
          simp only[Sem.run_bind,run_getLoop l1,run_newObj_alloc,Result.andThen,Sem.run_pure]
         exact kq (k:=k) hC hfn hx hy k2 k3 hnps k1 hrun2 (w0:=w) (mark:= []) (r:=L3.defers) hT s hsz hcap hg (by rw[hro,henter])
        |_=>cases hrun2
      |_=>cases hrun'
    ·cases hc'
   ·cases hc'
  ·cases hc'
 |_=>cases hc
end
end Nm
namespace Nm
open Go
def zt (ι:aU):Option NV->FrameMode->Prop
 |none,m=>m= .returning
 |some v,m=>∃v',m= .panicking [{v:=v',recovered:=false}]/\VR ι v v'
theorem zt.mono {ι ι':aU} (hι:ι.le ι') {p:Option NV} {m:FrameMode} (h:zt ι p m):zt ι' p m:=by
 cases p with
 |none=>exact h
 |some v=>obtain ⟨v',h1,h2⟩:=h;exact ⟨v',h1,h2.mono hι⟩
theorem zt.ne_run {ι:aU} {p:Option NV} {m:FrameMode} (h:zt ι p m):m≠.run:=by
 cases p with
 |none=>rw[show m= .returning from h];simp
 |some v=>obtain ⟨v',h1,h2⟩:=h;rw[h1];simp
theorem zt.settle {ι:aU} {p:Option NV} {m:FrameMode} (h:zt ι p m):Go.settle m=m:=by
 cases p with
 |none=>rw[show m= .returning from h];rfl
 |some v=>obtain ⟨v',h1,h2⟩:=h;rw[h1];rfl
theorem zt.ctx {ι:aU} {p:Option NV} {c:Frame} {cs:List Frame} (h:zt ι p c.mode):yj ι .deferred (c::cs) p:=by
 cases p with
 |none=>
  intro b hb
  have h':c.mode= .returning:=h
  unfold tryRecover
  rw[hb]
  simp only[h']
 |some v=>
  obtain ⟨v',h1,h2⟩:=h
  exact ⟨rfl,c,cs,v', [],rfl,h1,h2⟩
section
variable {P:Program} {S:cR} {B:Nat}
def GV (tmps:Array Value):ResultVar->Sem Value
 | .tmp t=>pure (tmps.getD t undef)
 | .cell a t=>do loadVar t (←asAddr (tmps.getD a undef))
theorem xE (fn:Func) (tmps:Array Value):results fn tmps=(do let vs ←fn.results.mapM (GV tmps);pure (if h:vs.size=1 then vs[0] else .tuple vs)):=by
 unfold results
 congr 1
noncomputable def rI (h:NH) (t:Tm):NRes->NR
 | .tmp k=>(match NT.get k t with|some v=>NR.val v|none=> .fail)
 | .cell1 k=>gG (.tmp k) t h
 | .cellN k n=>gs n (.tmp k) t h
theorem sC (h:NH) (t:Tm) (r:NRes) (l:List NRes) (F:CR) (K:List NV->CR):
 cG h t (r::l) F K=(match rI h t r with| .val v=>cG h t l F fun l=>K (v::l)|_=>F):=by
 cases r<;>rfl
theorem p8 {w:World} {T:TypeId} {v:Value} {u:Value} (h:aP ((Instr.loadAt T v).run P w)= .ok (.value u) w):(do loadVar T (←asAddr v):Sem Value).run P w= .ok u w:=by
 cases v with
 |pointer a=>
  cases a with
  |none=>simp[aP,Instr.loadAt,Instr.sureAddr,stuck,Sem.run_bind,Sem.run,Result.andThen] at h
  |some a=>
   simp only[aP,Instr.loadAt,Instr.sureAddr,asAddr,Sem.run_bind,Sem.run_pure,Result.andThen] at h ⊢
   cases hr:Sem.run P (loadVar T a) w with
   |ok x w1=>rw[hr] at h;cases h;rfl
   |halt x w1=>rw[hr] at h;cases h
 |_=>simp[aP,Instr.loadAt,Instr.sureAddr,stuck,Sem.run_bind,Sem.run,Result.andThen] at h
theorem Bu {ι:aU} {h:NH} {w:World} {t:Tm} {tmps:Array Value} (hT:TR ι t tmps) (hR:Rel P ι B h w) {r0:CR} (hr0:r0≠.fail):∀(l:List ResultVar) (nl:List NRes) (K:List NV->CR),dN P l=some nl->cG h t nl .fail K=r0->
 ∃vs vs',K vs=r0/\VRL ι vs vs'/\(l.mapM (GV tmps)).run P w= .ok vs' w:=by
 have ov:∀k:Nat,OV ι t (.tmp (D4.of k)) (tmps.getD k undef):=by
  intro k v hv
  obtain ⟨v',h1,h2⟩:=hT.2 k v hv
  rw[Au h1];exact h2
 intro l
 induction l with
 |nil=>
  intro nl K hc hk
  cases hc
  exact ⟨[], [],hk,.nil,by simp⟩
 |cons r l ih=>
  intro nl K hc hk
  have step:∀{nr:NRes} {nl':List NRes},dN P l=some nl'->nl=nr::nl'->(∀v,rI h t nr= .val v->∃v',(GV tmps r).run P w= .ok v' w/\VR ι v v')->
   ∃vs vs',K vs=r0/\VRL ι vs vs'/\((r::l).mapM (GV tmps)).run P w= .ok vs' w:=by
   intro nr nl' h1 h2 h3
   subst h2
   rw[sC] at hk
   cases hv:rI h t nr with
   |val v=>
    rw[hv] at hk
    obtain ⟨v',q1,q2⟩:=h3 v hv
    obtain ⟨vs,vs',p1,p2,p3⟩:=ih nl' _ h1 hk
    refine ⟨v::vs,v'::vs',p1,.cons _ _ _ _ q2 p2, ?_⟩
    rw[List.mapM_cons]
    simp only[Sem.run_bind,q1,p3,Result.andThen,Sem.run_pure]
   |_=>rw[hv] at hk;exact Q3 hk.symm hr0
  cases r with
  |tmp k=>
   have hc':(match dN P l with|some l=>D4.ofNat k fun t=>some (NRes.tmp t::l)|none=>none)=some nl:=by
    have e:dN P (.tmp k::l)=(match ResultVar.tmp k,dN P l with
     | .tmp t,some l=>D4.ofNat t fun t=>some (.tmp t::l)
     | .cell t ty,some l=>(match lP P ty with
      |some none=>D4.ofNat t fun t=>some (.cell1 t::l)
      |some (some n)=>D4.ofNat t fun t=>some (.cellN t n::l)
      |none=>none)
     |_,none=>none):=rfl
    rw[e] at hc
    cases hl:dN P l with
    |none=>rw[hl] at hc;exact hc
    |some l1=>rw[hl] at hc;exact hc
   cases hl:dN P l with
   |none=>rw[hl] at hc';cases hc'
   |some l1=>
    rw[hl] at hc'
    have hc2:(D4.ofNat k fun t=>some (NRes.tmp t::l1))=some nl:=hc'
    rw[D4.ofNat_eq] at hc2
    refine step hl (Option.some.inj hc2).symm fun v hv=> ?_
    have hv':(match NT.get (D4.of k) t with|some v=>NR.val v|none=> .fail)=NR.val v:=hv
    cases hg:NT.get (D4.of k) t with
    |none=>rw[hg] at hv';cases hv'
    |some u=>
     rw[hg] at hv';cases hv'
     exact ⟨_,rfl,ov k _ hg⟩
  |cell k T=>
   have e:dN P (.cell k T::l)=(match ResultVar.cell k T,dN P l with
    | .tmp t,some l=>D4.ofNat t fun t=>some (.tmp t::l)
    | .cell t ty,some l=>(match lP P ty with
     |some none=>D4.ofNat t fun t=>some (.cell1 t::l)
     |some (some n)=>D4.ofNat t fun t=>some (.cellN t n::l)
     |none=>none)
    |_,none=>none):=rfl
   rw[e] at hc
   cases hl:dN P l with
   |none=>rw[hl] at hc;cases hc
   |some l1=>
    rw[hl] at hc
    dsimp only at hc
    cases ha:lP P T with
    |none=>rw[ha] at hc;cases hc
    |some q=>
     rw[ha] at hc
     cases q with
     |none=>
      have hc2:(D4.ofNat k fun t=>some (NRes.cell1 t::l1))=some nl:=hc
      rw[D4.ofNat_eq] at hc2
      refine step hl (Option.some.inj hc2).symm fun v hv=> ?_
      have:=mO (B:=B) (h:=h) (w:=w) ha (ov k) hR
      rw[show gG (.tmp (D4.of k)) t h= .val v from hv] at this
      obtain ⟨v',h1,h2⟩:=this
      exact ⟨v',p8 h1,h2⟩
     |some m=>
      have hc2:(D4.ofNat k fun t=>some (NRes.cellN t m::l1))=some nl:=hc
      rw[D4.ofNat_eq] at hc2
      refine step hl (Option.some.inj hc2).symm fun v hv=> ?_
      have:=mV (B:=B) (h:=h) (w:=w) ha (ov k) hR
      rw[show gs m (.tmp (D4.of k)) t h= .val v from hv] at this
      obtain ⟨v',h1,h2⟩:=this
      exact ⟨v',p8 h1,h2⟩
theorem qp {ι:aU} {h:NH} {w:World} {t:Tm} {tmps:Array Value} (hT:TR ι t tmps) (hR:Rel P ι B h w) {fn:Func} {nl:List NRes} (hc:dN P fn.results.toList=some nl) {ctx:Option NV} {r0:CR} (hr0:r0≠.fail)
 (h0:cG h t nl .fail (fun l=> .val (iC l) ctx h)=r0):∃v v',r0= .val v ctx h/\VR ι v v'/\(results fn tmps).run P w= .ok v' w:=by
 obtain ⟨vs,vs',h1,h2,h3⟩:=Bu hT hR hr0 _ _ _ hc h0
 refine ⟨iC vs,if h:vs'.toArray.size=1 then vs'.toArray[0] else .tuple vs'.toArray,h1.symm, ?_, ?_⟩
 ·cases h2 with
  |nil=>exact .tup [] [] .nil
  |cons v v' l l' hv hl=>
   cases hl with
   |nil=>exact hv
   |cons u u' l l' hu hl=>
    have:¬(v'::u'::l').toArray.size=1:=by simp
    rw[dif_neg this]
    exact .tup _ _ (.cons _ _ _ _ hv (.cons _ _ _ _ hu hl))
 ·rw[xE,Array.mapM_eq_mapM_toList]
  simp only[Sem.run_bind,map_eq_pure_bind,h3,Result.andThen,Sem.run_pure]
end
end Nm
namespace Nm
open Go
section
variable {P:Program} {S:cR} {B:Nat}
theorem jN {f:Nat} {nf:NFun} (h:ah P f=some (.code nf)):∃fn c,P.funcs[f]? =some fn/\fn.body=some c/\fn.name≠ "runtime.NumGoroutine" /\c7 P c=some nf.body/\dN P fn.results.toList=some nf.results:=by
 unfold ah at h
 split at h
 ·rename_i fn hfn
  cases hn:(fn.name== "runtime.NumGoroutine") with
  |true=>rw[hn] at h;cases h
  |false=>
   rw[hn] at h
   simp only[cond_false] at h
   split at h
   ·rename_i c hb
    split at h
    ·rename_i nb nr h1 h2
     rw[ag] at h
     cases h
     exact ⟨fn,c,hfn,hb,by simpa using hn,h1,h2⟩
    ·cases h
   ·split at h<;>cases h
 ·cases h
theorem mj {f:Nat} {fn:Func} {c:Code} (hf:P.funcs[f]? =some fn) (hb:fn.body=some c) (hn:fn.name≠ "runtime.NumGoroutine") (args:Array Value) (w:World):(callFunc f args).run P w= .ok (.enter f args) w:=by
 simp[callFunc,hf,hb,hn]
noncomputable def cN:List NV->Nat->Tm->Tm
 | [],_,t=>t
 |v::vs,k,t=>cN vs (k+1) (NT.put (D4.of k) v t)
theorem Da {R:Type} (vs:List NV) (K:Tm->R):Do vs K=K (cN vs 0 .leaf):=by
 have go:∀(vs:List NV) (k:Nat) (t:Tm),(List.rec (motive:=fun _=>D4->Tm->R) (fun _ t=>K t) (fun v _ ih k t=>NT.set k v t fun t=>k.succ fun k=>ih k t) vs (D4.of k) t:R)=K (cN vs k t):=by
  intro vs
  induction vs with
  |nil=>intro k t;rfl
  |cons v vs ih=>
   intro k t
   have e:(List.rec (motive:=fun _=>D4->Tm->R) (fun _ t=>K t) (fun v _ ih k t=>NT.set k v t fun t=>k.succ fun k=>ih k t) (v::vs) (D4.of k) t:R)=
    NT.set (D4.of k) v t fun t=>(D4.of k).succ fun k=>(List.rec (motive:=fun _=>D4->Tm->R) (fun _ t=>K t) (fun v _ ih k t=>NT.set k v t fun t=>k.succ fun k=>ih k t) vs k t:R):=rfl
   rw[e,NT.set_eq,D4.succ_eq]
   exact ih (k+1) _
 exact go vs 0 .leaf
theorem xm:∀(vs:List NV) (k:Nat) (t:Tm) (j:Nat) (v:NV),NT.get (D4.of j) (cN vs k t)=some v->(∃i,j=k+i/\vs[i]? =some v)∨(NT.get (D4.of j) t=some v/\(j<k∨k+vs.length<=j)):=by
 intro vs
 induction vs with
 |nil=>intro k t j v h;exact .inr ⟨h,by simp;omega⟩
 |cons u vs ih=>
  intro k t j v h
  rcases ih (k+1) _ j v h with ⟨i,h1,h2⟩|⟨h1,h2⟩
  ·exact .inl ⟨i+1,by omega,by simpa using h2⟩
  ·by_cases e:j=k
   ·subst e
    rw[NT.get_put_same] at h1
    exact .inl ⟨0,rfl,by simpa using h1⟩
   ·rw[NT.get_put_ne (fun x=>e (D4.of_inj x))] at h1
    exact .inr ⟨h1,by simp;omega⟩
theorem GD {ι:aU} {args:List NV} {args':List Value} (hG:Kr ι) (h:VRL ι args args') (n:Nat):TR ι (cN args 0 .leaf) (args'.toArray++Array.replicate n undef):=by
 refine ⟨hG,fun j v hv=> ?_⟩
 rcases xm args 0 .leaf j v hv with ⟨i,h1,h2⟩|⟨h1,_⟩
 ·obtain ⟨v',h3,h4⟩:=h.get h2
  refine ⟨v', ?_,h4⟩
  have:j=i:=by omega
  subst this
  have hlt:=(List.getElem?_eq_some_iff.1 h3).1
  rw[Array.getElem?_append_left (by simpa using hlt)]
  simpa using h3
 ·rw[NT.get_leaf] at h1;cases h1
def N4 (P:Program) (B:Nat) (ι:aU) (h:NH) (w:World) (fr0:Frame) (kind:CallKind) (ctx:Option NV) (cs:List Frame):CR->Prop
 | .fail=>True
 | .val v ctx' h'=>∃ι' v' w' cs' fr,VR ι' v v'/\Rel P ι' B h' w'/\B<=w'.heap.size/\Grow ι h w ι' h' w'/\oQ cs ctx cs' ctx'/\Steps P (lone fr0 cs w) (lone fr cs' w')/\fr.kind=kind/\fr.fn=fr0.fn/\fr.going P w' (.returned v')
 | .pan v ctx' h'=>∃ι' v' w' cs' fr,VR ι' v v'/\Rel P ι' B h' w'/\B<=w'.heap.size/\Grow ι h w ι' h' w'/\oQ cs ctx cs' ctx'/\Steps P (lone fr0 cs w) (lone fr cs' w')/\fr.kind=kind/\fr.fn=fr0.fn/\fr.going P w' (.panicked [{v:=v',recovered:=false}])
def Iv (P:Program) (callF:Nat->List NV->Option NV->NH->CR):Prop:=
 ∀(f:Nat) (args:List NV) (p:Option NV) (h:NH),callF f args p h≠.fail->(∃nf,ah P f=some (.code nf))/\
  ∀(B:Nat) (ι:aU) (w:World) (args':List Value) (kind:CallKind) (cs:List Frame),Rel P ι B h w->B<=w.heap.size->VRL ι args args'->yj ι kind cs p->
   N4 P B ι h w (Frame.enter P f args'.toArray kind) kind p cs (callF f args p h)
theorem mQ (callF:Nat->List NV->Option NV->NH->CR) (K:Option NV->NH->CR) (c:Dfr) (l:List Dfr) (p:Option NV) (h:NH):
 unwind callF K (c::l) p h=match c with
  | .call f cap=>(match callF f cap p h with
   | .val _ p h=>unwind callF K l p h
   |_=> .fail)
  | .mark id=>match h.get id with
   |some (.defd true)=>unwind callF K l p (h.put id (.defd false))
   |_=> .fail:=by
 have e:unwind callF K (c::l) p h=match c with
  | .call f cap=>(match callF f cap p h with
   | .val _ p h=>unwind callF K l p h
   |_=> .fail)
  | .mark id=>match h.get id with
   |some (.defd true)=>h.set id (.defd false) fun h=>unwind callF K l p h
   |_=> .fail:=rfl
 rw[e]
 cases c with
 |call f cap=>rfl
 |mark id=>
  dsimp only
  split
  ·exact NH.set_eq _ _ _ _
  ·rfl
theorem sw {callF:Nat->List NV->Option NV->NH->CR} (hF:Iv P callF) {K:Option NV->NH->CR} {r:CR} (hr:r≠.fail):∀(l:List Dfr) (p:Option NV) (h:NH),unwind callF K l p h=r->
 ∀(ι:aU) (w:World) (fr:Frame) (cs:List Frame),DR ι l fr.defers->Rel P ι B h w->B<=w.heap.size->zt ι p fr.mode->
 ∃p' h' ι' w' fr',K p' h'=r/\Rel P ι' B h' w'/\B<=w'.heap.size/\Grow ι h w ι' h' w'/\zt ι' p' fr'.mode/\fr'.defers= []/\fr'.tmps=fr.tmps/\fr'.fn=fr.fn/\fr'.kind=fr.kind/\Steps P (lone fr cs w) (lone fr' cs w'):=by
 intro l
 induction l with
 |nil=>
  intro p h hu ι w fr cs hd hR hB hm
  have hde:fr.defers= []:=by
   cases hds:fr.defers with
   |nil=>rfl
   |cons d ds=>rw[hds] at hd;exact hd.elim
  exact ⟨p,h,ι,w,fr,hu,hR,hB,.refl _ _ _,hm,hde,rfl,rfl,rfl,Steps.refl P _⟩
 |cons c l ih=>
  intro p h hu ι w fr cs hd hR hB hm
  rw[mQ] at hu
  cases hds:fr.defers with
  |nil=>rw[hds] at hd;cases c<;>exact hd.elim
  |cons d ds=>
   rw[hds] at hd
   cases c with
   |mark id=>
    obtain ⟨⟨pl,hp,hde⟩,hd'⟩:=hd
    have hu':(match h.get id with
     |some (.defd true)=>unwind callF K l p (h.put id (.defd false))
     |_=> .fail)=r:=hu
    obtain ⟨ob,ho1,ho2⟩:=hR.obj _ _ hp
    rw[ho1] at hu'
    cases ob with
    |defd q=>
     cases q with
     |false=>exact Q3 hu'.symm hr
     |true=>
      have hob:w.heap[pl.b]? =some (.deferred (some [])):=ho2
      have htake:=run_takeDeferred (P:=P) hob
      have hst:=step_collected (cs:=cs) hm.ne_run hds (by rw[hde]) htake
      have hlt:=hR.lt _ _ hp
      obtain ⟨t1,t2⟩:=hR.turn (w':=w.putObj pl.b (.deferred none)) hp (by rw[ho1];simp) (.defd false) (World.putObj_heap_same hlt) (by simp) rfl rfl rfl (fun q hq=>World.putObj_heap_other hq)
      obtain ⟨p',h',ι',w',fr',q1,q2,q3,q4,q5,q6,q7,q8,q9,q10⟩:=ih p _ hu' ι _ {fr with defers:= []++ds} cs hd' t1 (by simpa using hB) hm
      exact ⟨p',h',ι',w',fr',q1,q2,q3,t2.trans q4,q5,q6,q7,q8,q9,.head hst q10⟩
    |_=>exact Q3 hu'.symm hr
   |call f cap=>
    obtain ⟨⟨cap',hcap,hde⟩,hd'⟩:=hd
    have hu':(match callF f cap p h with
     | .val _ p h=>unwind callF K l p h
     |_=> .fail)=r:=hu
    cases hcf:callF f cap p h with
    |fail=>rw[hcf] at hu';exact Q3 hu'.symm hr
    |pan v x h1=>rw[hcf] at hu';exact Q3 hu'.symm hr
    |val v p1 h1=>
     rw[hcf] at hu'
     obtain ⟨⟨nf,hnf⟩,hFr⟩:=hF f cap p h (by rw[hcf];simp)
     obtain ⟨fnn,code,e1,e2,e3,_⟩:=jN hnf
     have hinv:(invoke d.target d.args).run P w= .ok (.enter f cap'.toArray) w:=by
      rw[hde]
      have:=mj (P:=P) e1 e2 e3 (#[]++cap'.toArray) w
      simp only[Array.empty_append] at this
      simp only[invoke,Array.empty_append]
      exact this
     have hst:=step_defer (cs:=cs) hm.ne_run hds (by rw[hde]) hinv
     have hfr:=hFr B ι w cap' .deferred ({fr with defers:=ds}::cs) hR hB hcap (zt.ctx (c:={fr with defers:=ds}) hm)
     rw[hcf] at hfr
     obtain ⟨ι1,v',w1,cs1,frx,f1,f2,f3,f4,f5,f6,f7,_,f8⟩:=hfr
     have hback:∃m',zt ι1 p1 m'/\Steps P (lone fr cs w) (lone {fr with defers:=ds,mode:=m'} cs w1):=by
      rcases f5 with ⟨rfl,rfl⟩|⟨rfl,_,c0,rest,v0,older,g1,g2,rfl⟩
      ·refine ⟨fr.mode,hm.mono f4.le,.head hst (Steps.trans f6 (.one ?_))⟩
       have:=step_going_returned (c:={fr with defers:=ds}) (cs:=cs) f7 f8
       rw[show settle ({fr with defers:=ds}:Frame).mode=fr.mode from hm.settle] at this
       exact this
      ·injection g1 with g3 g4
       subst g3 g4
       refine ⟨.returning,rfl,.head hst (Steps.trans f6 (.one ?_))⟩
       have:=step_going_returned (c:={({fr with defers:=ds}:Frame) with mode:= .panicking ({v:=v0,recovered:=true}::older)}) (cs:=cs) f7 f8
       have hol:older= []:=by
        cases p with
        |none=>
         have:fr.mode= .returning:=hm
         rw[show ({fr with defers:=ds}:Frame).mode=fr.mode from rfl,this] at g2
         cases g2
        |some q=>
         obtain ⟨q',hq1,_⟩:=hm
         rw[show ({fr with defers:=ds}:Frame).mode=fr.mode from rfl,hq1] at g2
         cases g2
         rfl
       rw[hol] at this ⊢
       exact this
     obtain ⟨m',hm',hsteps⟩:=hback
     obtain ⟨p',h',ι',w',fr',q1,q2,q3,q4,q5,q6,q7,q8,q9,q10⟩:=ih p1 h1 hu' ι1 w1 {fr with defers:=ds,mode:=m'} cs (hd'.mono f4.le) f2 f3 hm'
     exact ⟨p',h',ι',w',fr',q1,q2,q3,f4.trans q4,q5,q6,q7,q8,q9,hsteps.trans q10⟩
def kZ (P:Program):Prop:=∀(f:Nat) (fn:Func) (c:Code),P.funcs[f]? =some fn->fn.body=some c->CheckCode.code P fn [] [] c= .ok ()
theorem lN (h:P.check= .ok ()):kZ P:=by
 intro f fn c hf hb
 unfold Program.check at h
 obtain ⟨_,h1,_⟩:=bV h
 have h2:=sv h1 f (by simp;exact (Array.getElem?_eq_some_iff.1 hf).1)
 unfold CheckCode.funcAt at h2
 rw[hf] at h2
 have h3:=uB h2
 unfold CheckCode.func at h3
 obtain ⟨_,_,h3⟩:=bV h3
 obtain ⟨_,_,h3⟩:=bV h3
 obtain ⟨_,_,h3⟩:=bV h3
 rw[hb] at h3
 simp only at h3
 obtain ⟨_,_,h3⟩:=bV h3
 obtain ⟨_,h4,_⟩:=bV h3
 exact h4
theorem dx (self:Option D4->NC->Dyn->Res) (depth f:Nat) (args:List NV) (ctx:Option NV) (h:NH):
 cL P self (depth+1) f args ctx h=match ah P f with
  |some (.code nf)=>(match self none nf.body ⟨cN args 0 .leaf, [],ctx,h⟩ with
   | .mk o d=>(match o with
    | .norm| .ret=>unwind (cL P self depth) (finish nf.results d) d.dfs none d.h
    | .pan v=>unwind (cL P self depth) (finish nf.results d) d.dfs (some v) d.h
    | .exit _=> .fail)
   | .fail=> .fail)
  |_=> .fail:=by
 have e:cL P self (depth+1) f args ctx h=match ah P f with
  |some (.code nf)=>Do args fun t=>(match self none nf.body ⟨t, [],ctx,h⟩ with
   | .mk o d=>(match o with
    | .norm| .ret=>unwind (cL P self depth) (finish nf.results d) d.dfs none d.h
    | .pan v=>unwind (cL P self depth) (finish nf.results d) d.dfs (some v) d.h
    | .exit _=> .fail)
   | .fail=> .fail)
  |_=> .fail:=rfl
 rw[e]
 split
 ·exact Da _ _
 ·rfl
theorem jL (hK:kZ P) {n:Nat} (hO:jq P S n):∀depth,Iv P (cL P (ev P S n) depth):=by
 intro depth
 induction depth with
 |zero=>intro f args p h hne;exact Q3 rfl hne
 |succ depth ih=>
  intro f args p h hne
  rw[dx] at hne ⊢
  cases hcf:ah P f with
  |none=>rw[hcf] at hne;exact Q3 rfl hne
  |some x=>
   cases x with
   |ext e=>rw[hcf] at hne;exact Q3 rfl hne
   |code nf=>
    refine ⟨⟨nf,rfl⟩,fun B ι w args' kind cs hR hB hargs hctx=> ?_⟩
    rw[hcf] at hne
    dsimp only at hne ⊢
    obtain ⟨fn,c,hf,hb,hname,hcc,hres⟩:=jN hcf
    let b:Frame:={(default:Frame) with fn:=f,kind:=kind}
    let a0:Act:={tmps:=args'.toArray++Array.replicate (fn.ntmps - args'.toArray.size) undef,defers:= []}
    have henter:Frame.enter P f args'.toArray kind=b.atR a0 [.code c]:=by
     simp[Frame.enter,Frame.atR,hf,hb,b,a0]
     rfl
    cases hev:ev P S n none nf.body ⟨cN args 0 .leaf, [],p,h⟩ with
    |fail=>rw[hev] at hne;exact Q3 rfl hne
    |mk o d=>
     rw[hev] at hne
     have hs:Sd P ι B none [] p h b a0.defers cs w:=⟨trivial,hctx,hR,hB,rfl⟩
     have hgo:=hO c nf.body fn [] [] hcc (hK f fn c hf hb) none ⟨cN args 0 .leaf, [],p,h⟩ o d hev (.code c) (.inl rfl) B b [] ι a0 cs w hf (GD hR.gl hargs _) hs (by simp[a0];omega)
     rw[←henter] at hgo
     obtain ⟨ι1,a1,cs1,w1,g1,g2,g3,g4⟩:=hgo
     have out:∀(q:Option NV) (fr1:Frame),(unwind (cL P (ev P S n) depth) (finish nf.results d) d.dfs q d.h)≠.fail->zt ι1 q fr1.mode->fr1.defers=a1.defers->fr1.tmps=a1.tmps->fr1.kind=kind->fr1.fn=f->
      Steps P (lone (Frame.enter P f args'.toArray kind) cs w) (lone fr1 cs1 w1)->N4 P B ι h w (Frame.enter P f args'.toArray kind) kind p cs (unwind (cL P (ev P S n) depth) (finish nf.results d) d.dfs q d.h):=by
      intro q fr1 hq hm hdf htm hkd hfn hst
      have sd:=g3.sd
      obtain ⟨p',h',ι',w',fr',q1,q2,q3,q4,q5,q6,q7,q8,q9,q10⟩:=sw ih hq d.dfs q d.h rfl ι1 w1 fr1 cs1 (by rw[hdf];exact sd.df) sd.rel sd.base hm
      have hTR:TR ι' d.t fr'.tmps:=by rw[q7,htm];exact g2.mono q4.le
      have hff:P.funcs[fr'.fn]? =some fn:=by rw[q8,hfn];exact hf
      cases p' with
      |none=>
       have q1':cG h' d.t nf.results .fail (fun l=> .val (iC l) d.ctx h')=unwind (cL P (ev P S n) depth) (finish nf.results d) d.dfs q d.h:=q1
       obtain ⟨v,v',r1,r2,r3⟩:=qp hTR q2 hres hq q1'
       rw[r1]
       exact ⟨ι',v',w',cs1,fr',r2,q2,q3,g3.gr.trans q4,g3.ca,hst.trans q10,by rw[q9,hkd],by rw[q8,hfn];rfl,q5,q6,fn,hff,r3⟩
      |some v=>
       have q1':CR.pan v d.ctx h'=unwind (cL P (ev P S n) depth) (finish nf.results d) d.dfs q d.h:=q1
       rw[←q1']
       obtain ⟨v',m1,m2⟩:=q5
       exact ⟨ι',v',w',cs1,fr',m2,q2,q3,g3.gr.trans q4,g3.ca,hst.trans q10,by rw[q9,hkd],by rw[q8,hfn];rfl,m1,q6,fn,hff⟩
     cases o with
     |norm=>
      have g1':Steps P (lone (Frame.enter P f args'.toArray kind) cs w) (lone (b.atR a1 []) cs1 w1):=g1
      exact out none {b.atR a1 [] with mode:= .returning} hne rfl rfl rfl rfl rfl (g1'.trans (.one (stepR_end rfl)))
     |ret=>
      obtain ⟨k0,g1'⟩:=g1
      exact out none {b.atR a1 (.code .ret::k0) with mode:= .returning} hne rfl rfl rfl rfl rfl (g1'.trans (.one (stepR_ret rfl)))
     |exit id=>exact Q3 rfl hne
     |pan v=>
      obtain ⟨td,v',m1,g1'⟩:=g1
      exact out (some v) _ hne ⟨v',rfl,m1⟩ rfl rfl rfl rfl g1'
end
end Nm
namespace Nm
open Go
theorem x1:Extern.allNextRows.lookup "math/bits.Add64" =none:=by kernel_rfl
theorem x2:Extern.allNextRows.lookup "" =none:=by kernel_rfl
theorem x3:Extern.allGenericRows.lookup "math/bits.Add64" =none:=by kernel_rfl
theorem x4:Extern.allTypedRows.lookup "math/bits.Add64" =none:=by kernel_rfl
theorem x5:Extern.allRows.lookup "math/bits.Add64" =some add64Entry:=by kernel_rfl
theorem y1:Extern.allNextRows.lookup "internal/bytealg.IndexByteString" =none:=by kernel_rfl
theorem y3:Extern.allGenericRows.lookup "internal/bytealg.IndexByteString" =none:=by kernel_rfl
theorem y4:Extern.allTypedRows.lookup "internal/bytealg.IndexByteString" =none:=by kernel_rfl
theorem y5:Extern.allRows.lookup "internal/bytealg.IndexByteString" =some Extern.BytealgIndexByte.indexByte:=by kernel_rfl
theorem QY:Extern.allNextRows.lookup "internal/bytealg.CountString" =none:=by kernel_rfl
theorem Q0:Extern.allGenericRows.lookup "internal/bytealg.CountString" =none:=by kernel_rfl
theorem QZ:Extern.allTypedRows.lookup "internal/bytealg.CountString" =none:=by kernel_rfl
theorem Q1:Extern.allRows.lookup "internal/bytealg.CountString" =some Extern.BytealgCount.count:=by kernel_rfl
theorem HL (c:Nat) (hc:c<=255):∀(l:List UInt8) (n:Nat),Fw c (l.map UInt8.toNat) n=n+Lib.countByte l c.toUInt8:=by
 intro l
 induction l with
 |nil=>intro n;rfl
 |cons x l ih=>
  intro n
  have e:Fw c (List.map UInt8.toNat (x::l)) n=cond (Nat.beq x.toNat c) (aq (Nat.succ n) (Fw c (l.map UInt8.toNat))) (Fw c (l.map UInt8.toNat) n):=rfl
  rw[e,ag,ih,ih]
  unfold Lib.countByte
  rw[List.count_cons]
  have hb:(x==c.toUInt8)=Nat.beq x.toNat c:=by
   rw[Bool.eq_iff_iff]
   simp only[beq_iff_eq,Nat.beq_eq]
   constructor
   ·intro h;rw[h];simp;omega
   ·intro h;rw[←h];simp
  rw[hb]
  cases Nat.beq x.toNat c<;>simp<;>omega
theorem Hl (c:Nat):∀(l:List Nat) (i:Nat),nA c l i=(l.findIdx? (fun x=>x==c)).map (·+i):=by
 intro l
 induction l with
 |nil=>intro i;rfl
 |cons x l ih=>
  intro i
  have e:nA c (x::l) i=cond (Nat.beq x c) (some i) (aq (Nat.succ i) (nA c l)):=rfl
  rw[e,ag,ih,List.findIdx?_cons]
  cases h:Nat.beq x c with
  |true=>have:=Ra h;simp[this]
  |false=>
   have:=Nat.ne_of_beq_eq_false h
   simp only[cond_false]
   rw[Q4 (by simpa using this)]
   cases List.findIdx? (fun x=>x==c) l with
   |none=>rfl
   |some j=>simp;omega
theorem wU (p:Nat->Bool):∀n,(List.range n).find? p=none↔∀i,i<n->p i=false:=by
 intro n;simp
theorem uZ (s:ByteArray) (c:Nat) (hc:c<=255):firstIdx s c.toUInt8=match nA c (s.data.toList.map UInt8.toNat) 0 with|some i=>(i:Int)|none=>-1:=by
 rw[Hl]
 have hsz:s.data.toList.length=s.size:=bM s
 have hml:(s.data.toList.map UInt8.toNat).length=s.size:=by rw[List.length_map,hsz]
 have hat:∀i (h:i<s.size),(s[i]! ==c.toUInt8)=(((s.data.toList.map UInt8.toNat)[i]'(by rw[hml];exact h))==c):=by
  intro i h
  have e:s[i]! =s.data.toList[i]'(by rw[hsz];exact h):=by
   rw[getElem!_pos s i h];simp[ByteArray.getElem_eq_getElem_data]
  rw[e,List.getElem_map]
  rw[Bool.eq_iff_iff]
  simp only[beq_iff_eq]
  constructor
  ·intro h;rw[h];simp;omega
  ·intro h;rw[←h];simp
 unfold firstIdx
 cases hf:(s.data.toList.map UInt8.toNat).findIdx? (fun x=>x==c) with
 |none=>
  have h1:(List.range s.size).find? (fun i=>s[i]! ==c.toUInt8)=none:=by
   rw[wU]
   intro i hi
   rw[hat i hi]
   rw[List.findIdx?_eq_none_iff] at hf
   exact hf _ (List.getElem_mem _)
  rw[h1];rfl
 |some j=>
  rw[List.findIdx?_eq_some_iff_getElem] at hf
  obtain ⟨hj,h1,h2⟩:=hf
  have hj':j<s.size:=by rw[←hml];exact hj
  have h3:(List.range s.size).find? (fun i=>s[i]! ==c.toUInt8)=some j:=by
   rw[List.find?_range_eq_some]
   refine ⟨?_,by simpa using hj',fun k hk=> ?_⟩
   ·rw[hat j hj'];exact h1
   ·rw[hat k (by omega)]
    simpa using h2 k hk
  rw[h3];simp
section
variable {P:Program} {S:cR} {B:Nat}
theorem BT {ι:aU} {fn:Func} {e:Ext} {f:Nat} (hf:P.funcs[f]? =some fn) (hb:fn.body=none) (he:zF fn=some e) {args:List NV} {args':List Value} (ha:VRL ι args args') {v:NV} (hv:fW e args=some v) (w:World):
 ∃v',(callFunc f args'.toArray).run P w= .ok (.value v') w/\VR ι v v':=by
 unfold zF at he
 obtain ⟨ho,he⟩:=aB he
 have ho':fn.origin= "" :=by simpa using ho
 cases hn:(fn.name== "math/bits.Add64") with
 |true=>
  rw[hn] at he
  cases he
  have hname:fn.name= "math/bits.Add64" :=by simpa using hn
  have hnx:Extern.findNext fn=none:=by unfold Extern.findNext;rw[hname,ho'];simp only[x1,x2];rfl
  have hfi:Extern.find fn=some add64Entry:=by unfold Extern.find;rw[hname,ho'];simp only[x3,x4,x5];rfl
  have hcall:=run_callFunc_extern hf (by rw[hname];decide) (by rw[hb];rfl) hnx hfi args'.toArray w
  unfold fW at hv
  split at hv
  ·rename_i x y c hargs
   obtain ⟨hc1,hv⟩:=aB hv
   rw[ag,ag] at hv
   cases hv
   cases ha with
   |cons _ _ _ _ h1 ha=>
    cases ha with
    |cons _ _ _ _ h2 ha=>
     cases ha with
     |cons _ _ _ _ h3 ha=>
      cases ha
      cases h1;cases h2;cases h3
      have hc:=Nat.le_of_ble_eq_true hc1
      refine ⟨_, ?_,.tup [_,_] [_,_] (.cons _ _ _ _ (.int .u64 _) (.cons _ _ _ _ (.int .u64 _) .nil))⟩
      have:=run_add64 (P:=P) (Int.ofNat x) (Int.ofNat y) (Int.ofNat c) (Int.natCast_nonneg _) (Int.natCast_nonneg _) (Int.natCast_nonneg _) (by show (c:Int)<=1;omega) w
      rw[hcall]
      show Result.andThen (Sem.run P (add64Entry #[.int .u64 (Int.ofNat x),.int .u64 (Int.ofNat y),.int .u64 (Int.ofNat c)]) w) _=_
      rw[this]
      rfl
  ·rename_i h;cases h
  ·rename_i h;cases h
  ·cases hv
 |false=>
  rw[hn] at he
  simp only[cond_false] at he
  cases hn2:(fn.name== "internal/bytealg.IndexByteString") with
  |true=>
   rw[hn2] at he
   cases he
   have hname:fn.name= "internal/bytealg.IndexByteString" :=by simpa using hn2
   have hnx:Extern.findNext fn=none:=by unfold Extern.findNext;rw[hname,ho'];simp only[y1,x2];rfl
   have hfi:Extern.find fn=some Extern.BytealgIndexByte.indexByte:=by unfold Extern.find;rw[hname,ho'];simp only[y3,y4,y5];rfl
   have hcall:=run_callFunc_extern hf (by rw[hname];decide) (by rw[hb];rfl) hnx hfi args'.toArray w
   unfold fW at hv
   split at hv
   ·rename_i h;cases h
   ·rename_i s c _
    obtain ⟨hc1,hv⟩:=aB hv
    have hc:=Nat.le_of_ble_eq_true hc1
    cases ha with
    |cons _ _ _ _ h1 ha=>
     cases ha with
     |cons _ _ _ _ h2 ha=>
      cases ha
      cases h2
      cases h1 with
      |str l s' hs=>
       subst hs
       have hrun:=run_indexByte_string (P:=P) s' (Int.ofNat c) w
       refine ⟨.int .i64 (firstIdx s' c.toUInt8), ?_, ?_⟩
       ·rw[hcall]
        show Result.andThen (Sem.run P (Extern.BytealgIndexByte.indexByte #[.string s',.int .u8 (Int.ofNat c)]) w) _=_
        rw[hrun]
        rfl
       ·rw[uZ s' c hc]
        cases hi:nA c (s'.data.toList.map UInt8.toNat) 0 with
        |none=>rw[hi] at hv;cases hv;exact .int .i64 _
        |some i=>rw[hi] at hv;cases hv;exact .int .i64 _
   ·rename_i h;cases h
   ·cases hv
  |false=>
   rw[hn2] at he
   simp only[cond_false] at he
   obtain ⟨hn3,he⟩:=aB he
   cases he
   have hname:fn.name= "internal/bytealg.CountString" :=by simpa using hn3
   have hnx:Extern.findNext fn=none:=by unfold Extern.findNext;rw[hname,ho'];simp only[QY,x2];rfl
   have hfi:Extern.find fn=some Extern.BytealgCount.count:=by unfold Extern.find;rw[hname,ho'];simp only[Q0,QZ,Q1];rfl
   have hcall:=run_callFunc_extern hf (by rw[hname];decide) (by rw[hb];rfl) hnx hfi args'.toArray w
   unfold fW at hv
   split at hv
   ·rename_i h;cases h
   ·rename_i h;cases h
   ·rename_i s c _
    obtain ⟨hc1,hv⟩:=aB hv
    have hc:=Nat.le_of_ble_eq_true hc1
    cases hv
    cases ha with
    |cons _ _ _ _ h1 ha=>
     cases ha with
     |cons _ _ _ _ h2 ha=>
      cases ha
      cases h2
      cases h1 with
      |str l s' hs=>
       subst hs
       refine ⟨.int .i64 (Lib.countByte s'.data.toList c.toUInt8), ?_, ?_⟩
       ·rw[hcall]
        show Result.andThen (Sem.run P (Extern.BytealgCount.count #[.string s',.int .u8 (Int.ofNat c)]) w) _=_
        rw[Lib.run_countString]
        rfl
       ·rw[HL c hc,Nat.zero_add]
        exact .int .i64 _
   ·cases hv
def gO (P:Program) (S:cR):Prop:=
 ∀(ι:aU) (B:Nat) (h:NH) (w:World) (f:Nat) (args:List NV) (args':List Value) (v:NV) (h':NH),S f args h=some (v,h')->Rel P ι B h w->B<=w.heap.size->VRL ι args args'->
  qP P ι B h w ((callFunc f args'.toArray).run P w) (.val v none h')
theorem Gc:gO P QU:=fun _ _ _ _ _ _ _ _ _ h=>by cases h
theorem B7 {f:Nat} {e:Ext} (h:ah P f=some (.ext e)):∃fn,P.funcs[f]? =some fn/\fn.body=none/\zF fn=some e:=by
 unfold ah at h
 split at h
 ·rename_i fn hfn
  cases hn:(fn.name== "runtime.NumGoroutine") with
  |true=>rw[hn] at h;cases h
  |false=>
   rw[hn] at h
   simp only[cond_false] at h
   split at h
   ·split at h
    ·rw[ag] at h;cases h
    ·cases h
   ·rename_i hb
    split at h
    ·rename_i e' he;cases h;exact ⟨fn,hfn,hb,he⟩
    ·cases h
 ·cases h
theorem eV {fr:Frame} {w:World} {e:Ending} (hk:fr.kind= .normal) (h:fr.going P w e):fr.leaving P w e:=by
 cases e with
 |returned v=>exact ⟨h.1,h.2.1,hk,h.2.2⟩
 |panicked c=>exact h
 |outgrown=>trivial
theorem pu (hK:kZ P) (hS:gO P S) {n:Nat} (hO:jq P S n) (ι:aU) (B:Nat) (h:NH) (w:World) (f:Nat) (args:List NV) (args':List Value) (hR:Rel P ι B h w) (hB:B<=w.heap.size) (ha:VRL ι args args'):
 qP P ι B h w ((callFunc f args'.toArray).run P w) (bZ P S (ev P S n) f args h):=by
 unfold bZ
 cases hs:S f args h with
 |some v=>exact hS ι B h w f args args' v.1 v.2 hs hR hB ha
 |none=>
  dsimp only
  cases hcf:ah P f with
  |none=>trivial
  |some x=>
   cases x with
   |ext e=>
    dsimp only
    cases hx:fW e args with
    |none=>trivial
    |some v=>
     intro c cs
     obtain ⟨fn,h1,h2,h3⟩:=B7 hcf
     obtain ⟨v',e1,e2⟩:=BT h1 h2 h3 ha hx w
     exact ⟨ι,v',w,e2,hR,hB,.refl _ _ _,.inl e1⟩
   |code nf=>
    dsimp only
    have hD:=jL hK hO 3 f args none h
    obtain ⟨fn,code,e1,e2,e3,_⟩:=jN hcf
    have hent:=mj (P:=P) e1 e2 e3 args'.toArray w
    cases hr:cL P (ev P S n) 3 f args none h with
    |fail=>trivial
    |val v x h'=>
     intro c cs
     obtain ⟨_,hF⟩:=hD (by rw[hr];simp)
     have hF:=hF B ι w args' .normal (c::cs) hR hB ha (fun b hb=>by unfold tryRecover;rw[hb])
     rw[hr] at hF
     obtain ⟨ι',v',w',cs',fr,f1,f2,f3,f4,f5,f6,f7,_,f8⟩:=hF
     obtain ⟨rfl,_⟩:=f5.none
     exact ⟨ι',v',w',f1,f2,f3,f4,.inr ⟨w,.inl ⟨f,args'.toArray,hent,Steps.trans f6 (.one (step_leave_returned (eV f7 f8)))⟩⟩⟩
    |pan v x h'=>
     intro c cs
     obtain ⟨_,hF⟩:=hD (by rw[hr];simp)
     have hF:=hF B ι w args' .normal (c::cs) hR hB ha (fun b hb=>by unfold tryRecover;rw[hb])
     rw[hr] at hF
     obtain ⟨ι',v',w',cs',fr,f1,f2,f3,f4,f5,f6,f7,_,f8⟩:=hF
     obtain ⟨rfl,_⟩:=f5.none
     exact ⟨ι',v',w',f1,f2,f3,f4,w,.inl ⟨f,args'.toArray,hent,Steps.trans f6 (.one (step_leave_panicked (eV f7 f8)))⟩⟩
noncomputable def qH:List D4->List NV->Tm->Tm
 |p::ps,v::vs,t=>qH ps vs (NT.put p v t)
 |_,_,t=>t
theorem mS {r:CR} (hr:r≠.fail) {K:Tm->CR}:∀{ps:List D4} {vs:List NV} {t:Tm},eD .fail ps vs t K=r->vs.length=ps.length/\K (qH ps vs t)=r:=by
 intro ps
 induction ps with
 |nil=>
  intro vs t h
  cases vs with
  |nil=>exact ⟨rfl,h⟩
  |cons v vs=>exact Q3 (show CR.fail=r from h).symm hr
 |cons p ps ih=>
  intro vs t h
  cases vs with
  |nil=>exact Q3 (show CR.fail=r from h).symm hr
  |cons v vs=>
   have e:eD .fail (p::ps) (v::vs) t K=NT.set p v t fun t=>eD .fail ps vs t K:=rfl
   rw[e,NT.set_eq] at h
   obtain ⟨h1,h2⟩:=ih h
   exact ⟨by simp[h1],h2⟩
theorem Hq {ι:aU}:∀{ps:List Nat} {vs:List NV} {vs':List Value} {t:Tm} {a:Array Value},VRL ι vs vs'->TR ι t a->(∀q∈ps,q<a.size)->
 TR ι (qH (ps.map D4.of) vs t) ((ps.zip vs').foldl (fun tmps (t,a)=>tmps.setIfInBounds t a) a)/\((ps.zip vs').foldl (fun tmps (t,a)=>tmps.setIfInBounds t a) a).size=a.size:=by
 intro ps
 induction ps with
 |nil=>intro vs vs' t a _ hT _;cases vs<;>exact ⟨hT,rfl⟩
 |cons p ps ih=>
  intro vs vs' t a hv hT hp
  cases hv with
  |nil=>exact ⟨hT,rfl⟩
  |cons v v' vs vs' h1 h2=>
   have hT':=hT.put (hp p (by simp)) h1
   obtain ⟨q1,q2⟩:=ih h2 hT' (fun q hq=>by simp;exact hp q (by simp[hq]))
   exact ⟨q1,q2.trans (by simp)⟩
def MN (P:Program) (B:Nat) (ι:aU) (h:NH) (w:World) (fr0:Frame) (c:Frame) (cs:List Frame):CR->Prop
 | .fail=>True
 | .val v _ h'=>∃ι' v' w',VR ι' v v'/\Rel P ι' B h' w'/\B<=w'.heap.size/\Grow ι h w ι' h' w'/\Steps P (lone fr0 (c::cs) w) (lone (c.finish v') cs w')
 | .pan v _ h'=>∃ι' v' w',VR ι' v v'/\Rel P ι' B h' w'/\B<=w'.heap.size/\Grow ι h w ι' h' w'/\Steps P (lone fr0 (c::cs) w) (lone (c.raise [{v:=v',recovered:=false}]) cs w')
theorem ni {n:Nat} (hO:jq P S n) (ι:aU) (B:Nat) (h:NH) (w:World) (l:D4) (p:Pl) (args:List NV) (args':List Value) (hR:Rel P ι B h w) (hB:B<=w.heap.size) (ha:VRL ι args args') (hp:ι l=some p):
 qP P ι B h w ((Instr.yield p.b args'.toArray).run P w) (round (ev P S n) l args h):=by
 by_cases hne:round (ev P S n) l args h= .fail
 ·rw[hne];trivial
 generalize hrr:round (ev P S n) l args h=r at hne
 have hrr':=hrr
 unfold round at hrr'
 obtain ⟨ob,ho1,ho2⟩:=hR.obj _ _ hp
 rw[ho1] at hrr'
 cases ob with
 |loop st pd tm ps na nb=>
  cases st with
  |succ st=>exact Q3 hrr'.symm hne
  |zero=>
   obtain ⟨L,l1,l2,l3,l4,l5,l6,l7,⟨fn,bl,la,lb,l8,l9,l10,l11,_⟩,l12⟩:=ho2
   obtain ⟨hlen,hrr2⟩:=mS hne hrr'
   have hsz:args'.toArray.size=L.params.size:=by
    have:=ha.length
    rw[l5] at hlen
    simp at hlen ⊢;omega
   have hy:=run_yield (P:=P) l1 hsz
   obtain ⟨t1,t2⟩:=Hq (ps:=L.params.toList) ha l4 l12
   have hz:(L.params.zip args'.toArray).foldl (fun tmps (t,a)=>tmps.setIfInBounds t a) L.tmps=(L.params.toList.zip args').foldl (fun tmps (t,a)=>tmps.setIfInBounds t a) L.tmps:=by
    rw[←Array.foldl_toList,Array.toList_zip]
   rw[hz] at hy
   rw[←l5] at t1
   generalize (L.params.toList.zip args').foldl (fun tmps (t,a)=>tmps.setIfInBounds t a) L.tmps=tmps at hy t1 t2
   let b:Frame:={(default:Frame) with fn:=L.fn,kind:= .normal,roundOf:=some p.b}
   have hfr:Frame.round p.b L.fn tmps L.assign L.body .normal=b.atR {tmps:=tmps,defers:= []} [.code L.assign,.beginRound,.code L.body]:=by
    simp[Frame.round,Frame.atR,b]
   cases hev:ev P S n (some l) na ⟨qH ps args tm, [],none,h⟩ with
   |fail=>rw[hev] at hrr2;exact Q3 hrr2.symm hne
   |mk o d=>
    rw[hev] at hrr2
    cases o with
    |norm=>
     dsimp only at hrr2
     cases hdd:d.dfs with
     |cons x xs=>rw[hdd] at hrr2;exact Q3 hrr2.symm hne
     |nil=>
      rw[hdd] at hrr2
      have hrb:dg (ev P S n) l nb d.t d.h=r:=hrr2
      have main:∀(c:Frame) (cs:List Frame),MN P B ι h w (Frame.round p.b L.fn tmps L.assign L.body .normal) c cs r:=by
       intro c cs
       have hctx:∀ι:aU,yj ι b.kind (c::cs) none:=fun ι b' hb'=>by unfold tryRecover;rw[hb']
       have hs:Sd P ι B (some l) [] none h b ([]:List Deferred) (c::cs) w:=⟨trivial,hctx ι,hR,hB,⟨p,hp,rfl⟩⟩
       have hgo:=hO L.assign na fn [] [] l6 l10 (some l) ⟨qH ps args tm, [],none,h⟩ .norm d hev (.code L.assign) (.inl rfl) B b [.beginRound,.code L.body] ι {tmps:=tmps,defers:= []} (c::cs) w l8 t1 hs (by rw[t2];exact l9)
       obtain ⟨ι1,a1,cs1,w1,g1,g2,g3,g4⟩:=hgo
       obtain ⟨rfl,hctx1⟩:=g3.ca.none
       have sd1:=g3.sd
       have hdef1:a1.defers= []:=by
        have:=sd1.df
        rw[hdd] at this
        cases hq:a1.defers with
        |nil=>rfl
        |cons d ds=>rw[hq] at this;exact this.elim
       have hp1:ι1 l=some p:=g3.gr.le _ _ hp
       obtain ⟨ob1,ho3,ho4⟩:=sd1.rel.obj _ _ hp1
       have hrb':=hrb
       unfold dg at hrb'
       rw[ho3] at hrb'
       cases ob1 with
       |loop st1 pd1 tm1 ps1 na1 nb1=>
        cases st1 with
        |succ st1=>exact Q3 hrb'.symm hne
        |zero=>
         replace hrb':d.h.set l (.loop 1 pd1 tm1 ps1 na1 nb1) (fun h=>match ev P S n (some l) nb ⟨d.t, [],none,h⟩ with
          | .mk o d=>(match o with
           | .pan v=>(match d.dfs with| []=>CR.pan v none d.h|_=> .fail)
           |o=>eC l o d.h)
          | .fail=> .fail)=r:=hrb'
         rw[NH.set_eq] at hrb'
         obtain ⟨L1,m1,m2,m3⟩:=ho4
         have hbr:=run_beginRound (P:=P) m1 m2
         have hlt1:=sd1.rel.lt _ _ hp1
         have hst1:SR 1 ({L1 with state:= .busy}:Loop).state:=rfl
         obtain ⟨u1,u2⟩:=sd1.rel.turn (w':=w1.putObj p.b (.loop {L1 with state:= .busy})) hp1 (by rw[ho3];simp) (.loop 1 pd1 tm1 ps1 na1 nb1)
          ⟨_,World.putObj_heap_same hlt1,hst1,m3⟩ (by simp) rfl rfl rfl (fun q hq=>World.putObj_heap_other hq)
         have hbeg:=stepR_beginRound (P:=P) (b:=b) (a:=a1) (k:= [.code L.body]) (cs:=c::cs) rfl hbr
         have hs2:Sd P ι1 B (some l) [] none (d.h.put l (.loop 1 pd1 tm1 ps1 na1 nb1)) b a1.defers (c::cs) (w1.putObj p.b (.loop {L1 with state:= .busy})):=
          ⟨by rw[hdef1];trivial,hctx ι1,u1,by simpa using sd1.base,⟨p,hp1,rfl⟩⟩
         generalize w1.putObj p.b (.loop {L1 with state:= .busy})=w2 at *
         generalize d.h.put l (.loop 1 pd1 tm1 ps1 na1 nb1)=h2 at *
         cases hev2:ev P S n (some l) nb ⟨d.t, [],none,h2⟩ with
         |fail=>rw[hev2] at hrb';exact Q3 hrb'.symm hne
         |mk o2 d2=>
          rw[hev2] at hrb'
          have hgo2:=hO L.body nb fn bl la l7 l11 (some l) ⟨d.t, [],none,h2⟩ o2 d2 hev2 (.code L.body) (.inl rfl) B b [] ι1 a1 (c::cs) w2 l8 g2 hs2 (by rw[g4,t2];exact l9)
          obtain ⟨ι3,a3,cs3,w3,e1,e2,e3,e4⟩:=hgo2
          obtain ⟨rfl,_⟩:=e3.ca.none
          have hp3:ι3 l=some p:=e3.gr.le _ _ hp1
          have hpre:Steps P (lone (Frame.round p.b L.fn tmps L.assign L.body .normal) (c::cs) w) (lone (b.atR a1 [.code L.body]) (c::cs) w2):=by
           rw[hfr];exact Steps.trans g1 (.one hbeg)
          have hgr:=(g3.gr.trans u2).trans e3.gr
          have fin:∀(jump:Option Code) (st':Nat) (pd':Jump),eC l o2 d2.h=r->(∀tm ps na nb,(match o2 with
           | .norm=>(d2.h.set l (.loop 0 .none tm ps na nb) fun h=>CR.val (.bool true) none h)
           | .ret=>d2.h.set l (.loop 2 .ret tm ps na nb) fun h=> .val (.bool false) none h
           | .exit id=>d2.h.set l (.loop 2 (.exit id) tm ps na nb) fun h=> .val (.bool false) none h
           | .pan _=> .fail)= .val (.bool jump.isNone) none (d2.h.put l (.loop st' pd' tm ps na nb)))->
           (SR st' (if jump.isNone then .ready else .done))->JR pd' jump->
           (∀(v:Value) (w4:World),(Instr.endRound p.b jump).run P w3= .ok v w4->Steps P (lone (b.atR a1 [.code L.body]) (c::cs) w2) (lone (c.finish v) cs w4))->
           MN P B ι h w (Frame.round p.b L.fn tmps L.assign L.body .normal) c cs r:=by
           intro jump st' pd' hre hval hSR hJR hsteps
           unfold eC at hre
           obtain ⟨ob3,ho5,ho6⟩:=e3.sd.rel.obj _ _ hp3
           rw[ho5] at hre
           cases ob3 with
           |loop st3 pd3 tm3 ps3 na3 nb3=>
            have hre':=(hval tm3 ps3 na3 nb3).symm.trans hre
            rw[←hre']
            obtain ⟨L3,k1,k2,k3,k4⟩:=ho6
            have hend:=run_endRound (P:=P) jump k1
            have hlt3:=e3.sd.rel.lt _ _ hp3
            obtain ⟨z1,z2⟩:=e3.sd.rel.turn (w':=w3.putObj p.b (.loop {L3 with state:=if jump.isNone then .ready else .done,pending:=jump})) hp3 (by rw[ho5];simp) (.loop st' pd' tm3 ps3 na3 nb3)
             ⟨_,World.putObj_heap_same hlt3,hSR,hJR,k4⟩ (by simp) rfl rfl rfl (fun q hq=>World.putObj_heap_other hq)
            exact ⟨ι3,.bool jump.isNone,_,.bool _,z1,by simpa using e3.sd.base,hgr.trans z2,hpre.trans (hsteps _ _ hend)⟩
           |_=>exact Q3 hre.symm hne
          cases o2 with
          |norm=>
           exact fin none 0 .none hrb' (fun tm ps na nb=>NH.set_eq _ _ _ _) rfl rfl fun v w4 he=>Steps.trans e1 (.one (stepR_round_end rfl rfl he))
          |ret=>
           obtain ⟨k0,e1⟩:=e1
           exact fin (some .ret) 2 .ret hrb' (fun tm ps na nb=>NH.set_eq _ _ _ _) rfl rfl fun v w4 he=>Steps.trans e1 (.one (stepR_round_ret rfl rfl he))
          |exit id=>
           obtain ⟨k0,e0,e1⟩:=e1
           exact fin (some (.exit id)) 2 (.exit id) hrb' (fun tm ps na nb=>NH.set_eq _ _ _ _) rfl rfl fun v w4 he=>Steps.trans e1 (.one (stepR_round_exit rfl rfl (by rw[e0];rfl) he))
          |pan v=>
           dsimp only at hrb'
           cases hd2:d2.dfs with
           |cons x xs=>rw[hd2] at hrb';exact Q3 hrb'.symm hne
           |nil=>
            rw[hd2] at hrb'
            rw[←show CR.pan v none d2.h=r from hrb']
            obtain ⟨td,v',f1,f2⟩:=e1
            have hdef3:a3.defers= []:=by
             have:=e3.sd.df
             rw[hd2] at this
             cases hq:a3.defers with
             |nil=>rfl
             |cons d ds=>rw[hq] at this;exact this.elim
            refine ⟨ι3,v',w3,f1,e3.sd.rel,e3.sd.base,hgr,hpre.trans (Steps.trans f2 (.one (step_leave_panicked ⟨rfl,hdef3,fn,l8⟩)))⟩
       |_=>exact Q3 hrb'.symm hne
      cases r with
      |fail=>trivial
      |val v x h'=>
       intro c cs
       obtain ⟨ι',v',w',q1,q2,q3,q4,q5⟩:=main c cs
       exact ⟨ι',v',w',q1,q2,q3,q4,.inr ⟨w,.inr ⟨p.b,L.fn,tmps,L.assign,L.body,hy,q5⟩⟩⟩
      |pan v x h'=>
       intro c cs
       obtain ⟨ι',v',w',q1,q2,q3,q4,q5⟩:=main c cs
       exact ⟨ι',v',w',q1,q2,q3,q4,w,.inr ⟨p.b,L.fn,tmps,L.assign,L.body,hy,q5⟩⟩
    |_=>exact Q3 hrr2.symm hne
 |_=>exact Q3 hrr'.symm hne
theorem pO (hM:P.follows .mixedOrders=true) (hK:kZ P) (hS:gO P S):∀n,jq P S n/\CallsOK P S (ev P S n):=by
 intro n
 induction n with
 |zero=>
  have h0:jq P S 0:=fun c nc fn bl la _ _ rnd d o d' h=>by cases h
  exact ⟨h0,⟨pu hK hS h0,ni h0⟩⟩
 |succ n ih=>
  have h1:jq P S (n+1):=Cv hM ih.1 ih.2
  exact ⟨h1,⟨pu hK hS h1,ni h1⟩⟩
end
end Nm
namespace Nm
open Go Go.RowKit
noncomputable def Fy (n:Nat):NT NO:=Nat.rec .leaf (fun k t=>NT.put (D4.of k) .dead t) n
noncomputable def G0:NH:=⟨Fy NG,D4.of NG⟩
theorem BF (n k:Nat):NT.get (D4.of k) (Fy n)=if k<n then some .dead else none:=by
 induction n with
 |zero=>exact NT.get_leaf _
 |succ n ih=>
  show NT.get (D4.of k) (NT.put (D4.of n) .dead (Fy n))=_
  by_cases e:k=n
  ·subst e;rw[NT.get_put_same,Q5 (Nat.lt_succ_self k)]
  ·rw[NT.get_put_ne (fun x=>e (D4.of_inj x)),ih]
   by_cases h:k<n
   ·rw[Q5 h,Q5 (by omega)]
   ·rw[Q4 h,Q4 (by omega)]
theorem FG (i:D4):G0.get i=if i.toNat<NG then some .dead else none:=by
 rw[←BF NG i.toNat,D4.of_toNat];rfl
def ι0:aU:=fun i=>if i.toNat<NG then some ⟨i.toNat,0,GN i.toNat⟩ else none
theorem Du {i:D4} {p:Pl} (h:ι0 i=some p):i.toNat<NG/\p=⟨i.toNat,0,GN i.toNat⟩:=by
 unfold ι0 at h
 split at h
 ·exact ⟨‹_›,(Option.some.inj h).symm⟩
 ·cases h
theorem Nv:Kr ι0:=fun g hg=>by unfold ι0;rw[D4.toNat_of,Q5 hg]
theorem lK {i:D4} {p:Pl} (h:ι0 i=some p):G0.get i=some .dead:=by rw[FG,Q5 (Du h).1]
theorem eY:¬Live (some .dead):=fun h=>h.1 rfl
theorem Ng (P:Program) (w:World) (hw:NG<=w.heap.size):Rel P ι0 w.heap.size G0 w where
 obj:=fun i p h=>⟨.dead,lK h,trivial⟩
 inj:=fun i j p q h _ _ hl _=>Q3 (lK h▸hl) eY
 base:=fun i p h hl=>Q3 (lK h▸hl) eY
 lt:=fun i p h=>by have:=Du h;rw[this.2];exact Nat.lt_of_lt_of_le this.1 hw
 fresh:=fun i o h=>by
  rw[FG] at h
  split at h
  ·show i.toNat<(D4.of NG).toNat;rw[D4.toNat_of];assumption
  ·cases h
 gl:=Nv
theorem Rel.room {P:Program} {ι:aU} {B:Nat} {h:NH} {w:World} (r:Rel P ι B h w):NG<=w.heap.size:=by
 rcases Nat.eq_zero_or_pos NG with h0|h0
 ·rw[h0];exact Nat.zero_le _
 ·have h1:=r.gl (NG - 1) (by omega)
  have h2:=r.lt _ _ h1
  dsimp only at h2
  omega
noncomputable def zU (m:NH) (cf:Nat->Option NFn) (S:cR) (n f:Nat) (args:List NV):CR:=cL cf (ev cf S n) 3 f args none m
noncomputable def wK (cf:Nat->Option NFn) (S:cR) (n f:Nat) (args:List NV):CR:=zU G0 cf S n f args
noncomputable def IY (r:CR):Bool:=
 match r with
 | .val (.bool b) _ _=>b
 |_=>false
noncomputable def zX (cf:Nat->Option NFn) (S:cR) (n f:Nat) (args:List NV):Bool:=IY (wK cf S n f args)
theorem C7 {P:Program} {S:cR} (hM:P.follows .mixedOrders=true) (hP:P.check= .ok ()) (hS:gO P S) {m:NH} {n f:Nat} {args:List NV} {v:NV} {x:Option NV} {h:NH} (hr:zU m P S n f args= .val v x h)
 {ι:aU} {w:World} (hR:Rel P ι w.heap.size m w) (hlive:∀i p,ι i=some p->¬Live (m.get i)) {args':List Value} (ha:VRL ι args args'):
 Calls P f args'.toArray w fun e w'=>(∃ι v',e= .returned v'/\VR ι v v'/\Rel P ι w.heap.size h w')/\Below w.heap.size w w':=by
 intro cs
 obtain ⟨hO,_⟩:=pO hM (lN hP) hS n
 have hD:=jL (lN hP) hO 3 f args none m
 obtain ⟨_,hF⟩:=hD (by rw[show cL P (ev P S n) 3 f args none m= .val v x h from hr];simp)
 have hF:=hF w.heap.size ι w args' .normal cs hR (Nat.le_refl _) ha (fun b hb=>by unfold tryRecover;rw[hb])
 rw[show cL P (ev P S n) 3 f args none m= .val v x h from hr] at hF
 obtain ⟨ι',v',w',cs',fr,f1,f2,f3,f4,f5,f6,f7,f8,f9⟩:=hF
 obtain ⟨rfl,_⟩:=f5.none
 refine ⟨.returned v',w',fr,⟨⟨ι',v',rfl,f1,f2⟩,⟨f4.os,f4.tape,f4.output,f4.size,fun k hk=>f4.frame k hk fun i p hi hl=>Q3 hl (hlive i p hi)⟩⟩,f6,f8,eV f7 f9⟩
theorem Ir {P:Program} {S:cR} (hM:P.follows .mixedOrders=true) (hP:P.check= .ok ()) (hS:gO P S) {n f:Nat} {args:List NV} {v:NV} {x:Option NV} {h:NH} (hr:wK P S n f args= .val v x h) {args':List Value} (ha:VRL ι0 args args') (w:World) (hw:NG<=w.heap.size):
 Calls P f args'.toArray w fun e w'=>(∃ι v',e= .returned v'/\VR ι v v'/\Rel P ι w.heap.size h w')/\Below w.heap.size w w':=
 C7 hM hP hS hr (Ng P w hw) (fun i p hi=>by rw[lK hi];exact eY) ha
end Nm
namespace Nm
open Go Go.RowKit
mutual
def fq:NV->Bool
 | .bool _| .int _ _| .str _| .nilp| .nils| .nilm| .nilf| .nili=>true
 | .ifc _ v=>fq v
 | .agg l=>kH l
 | .tup l=>kH l
 |_=>false
def kH:List NV->Bool
 | []=>true
 |v::l=>fq v&&kH l
end
mutual
theorem VR.plain {ι ι':aU}:∀{v:NV} {v':Value},VR ι v v'->fq v=true->VR ι' v v'
 |_,_,.bool b,_=> .bool b
 |_,_,.int k n,_=> .int k n
 |_,_,.str l s h,_=> .str l s h
 |_,_,.nilp,_=> .nilp
 |_,_,.ptr ..,h=>by simp[fq] at h
 |_,_,.nils,_=> .nils
 |_,_,.slc ..,h=>by simp[fq] at h
 |_,_,.nilm,_=> .nilm
 |_,_,.map ..,h=>by simp[fq] at h
 |_,_,.nilf,_=> .nilf
 |_,_,.fn ..,h=>by simp[fq] at h
 |_,_,.yld ..,h=>by simp[fq] at h
 |_,_,.nili,_=> .nili
 |_,_,.ifc t v v' h,k=> .ifc t v v' (VR.plain h (by simpa [fq] using k))
 |_,_,.agg l l' h h1,k=> .agg l l' (VRL.plain h (by simpa [fq] using k)) h1
 |_,_,.tup l l' h,k=> .tup l l' (VRL.plain h (by simpa [fq] using k))
theorem VRL.plain {ι ι':aU}:∀{l:List NV} {l':List Value},VRL ι l l'->kH l=true->VRL ι' l l'
 |_,_,.nil,_=> .nil
 |_,_,.cons v v' l l' h hl,k=> .cons v v' l l' (VR.plain h (by simp[kH] at k;exact k.1)) (VRL.plain hl (by simp[kH] at k;exact k.2))
end
noncomputable def OH (f:Nat) (args:List NV) (v:NV) (S:cR):cR:=fun g l=>
 cond (Nat.beq g f) (cond (iU (br 3) l args) (fun h=>some (v,h)) (S g l)) (S g l)
noncomputable def uo (cf:Nat->Option NFn) (S:cR) (n f:Nat) (args:List NV) (v:NV):Bool:=
 match wK cf S n f args with
 | .val u _ _=>cond (kH args) (cond (fq v) (br 5 u v) false) false
 |_=>false
theorem vg {P:Program} {self:Option D4->NC->Dyn->Res} {d f:Nat} {args:List NV} {ctx:Option NV} {h:NH} (hn:cL P self d f args ctx h≠.fail):∃nf,ah P f=some (.code nf):=by
 cases d with
 |zero=>exact Q3 rfl hn
 |succ d=>
  rw[dx] at hn
  cases hc:ah P f with
  |none=>rw[hc] at hn;exact Q3 rfl hn
  |some x=>
   cases x with
   |code nf=>exact ⟨nf,rfl⟩
   |ext e=>rw[hc] at hn;exact Q3 rfl hn
theorem GR {P:Program} {S:cR} (hM:P.follows .mixedOrders=true) (hP:P.check= .ok ()) (hS:gO P S) {n f:Nat} {args:List NV} {v:NV} (hr:uo P S n f args v=true):gO P (OH f args v S):=by
 intro ι B h w g l l' u hh hg hR hB hl
 have hg':cond (Nat.beq g f) (cond (iU (br 3) l args) (fun h=>some (v,h)) (S g l)) (S g l) h=some (u,hh):=hg
 by_cases h1:Nat.beq g f=true/\iU (br 3) l args=true
 ·obtain ⟨h2,h3⟩:=h1
  rw[h2,h3] at hg'
  cases hg'
  have:=Ra h2
  subst this
  have:=jG (je 3) h3
  subst this
  unfold uo at hr
  split at hr
  ·rename_i u x h0 hrun
   obtain ⟨p1,hr⟩:=fL hr
   obtain ⟨p2,hr⟩:=fL hr
   have:=je _ _ _ hr
   subst this
   intro c cs
   have hcalls:=Ir hM hP hS hrun (hl.plain p1) w hR.room
   obtain ⟨e,w',fr,⟨⟨ι1,v',he,hv,_⟩,hb⟩,hcomes,hfn,hleave⟩:=hcalls (c::cs)
   subst he
   obtain ⟨nf,hnf⟩:=vg (show cL P (ev P S n) 3 g l none G0≠.fail by rw[show cL P (ev P S n) 3 g l none G0=_ from hrun];simp)
   obtain ⟨fn,code,e1,e2,e3,_⟩:=jN hnf
   refine ⟨ι,v',w',hv.plain p2,⟨fun i p hi=> ?_,hR.inj,hR.base,fun i p hi=>Nat.lt_of_lt_of_le (hR.lt i p hi) hb.size,hR.fresh,hR.gl⟩,Nat.le_trans hB hb.size, ?_,.inr ⟨w,.inl ⟨g,l'.toArray,mj e1 e2 e3 _ w,Steps.trans hcomes (.one (step_leave_returned hleave))⟩⟩⟩
   ·obtain ⟨o,o1,o2⟩:=hR.obj i p hi
    exact ⟨o,o1,o2.mono (aU.le_refl _) (hb.block _ (hR.lt i p hi))⟩
   ·exact ⟨aU.le_refl _,Nat.le_refl _,fun _ _ x=> .inl x,fun i p x y=> .inr ⟨i,p,x,y,rfl⟩,fun _ _ _=>rfl,hb.size,hb.os,hb.tape,hb.output,fun b hb' _=>hb.block b hb'⟩
  ·cases hr
 ·have:S g l h=some (u,hh):=by
   cases h2:Nat.beq g f with
   |false=>rw[h2] at hg';exact hg'
   |true=>
    rw[h2] at hg'
    cases h3:iU (br 3) l args with
    |false=>rw[h3] at hg';exact hg'
    |true=>exact Q3 ⟨h2,h3⟩ h1
  exact hS ι B h w g l l' u hh this hR hB hl
noncomputable def aG (P:Program) (k:Nat) (nf:NFun) (f:Nat):Option NFn:=cond (Nat.beq f k) (some (.code nf)) (ah P f)
noncomputable def aI (m:Nat) (a b:Nat->Option NFn) (f:Nat):Option NFn:=cond (Nat.ble f m) (a f) (b f)
def ig (P:Program) (cf:Nat->Option NFn):Prop:=∀f,cf f=ah P f
theorem aj {P:Program} {k:Nat} {nf:NFun} (h:ah P k=some (.code nf)):ig P (aG P k nf):=fun f=>by
 unfold aG
 cases hb:Nat.beq f k with
 |false=>rfl
 |true=>rw[Ra hb];exact h.symm
theorem ak {P:Program} {m:Nat} {a b:Nat->Option NFn} (ha:ig P a) (hb:ig P b):ig P (aI m a b):=fun f=>by
 unfold aI
 cases Nat.ble f m with
 |false=>exact hb f
 |true=>exact ha f
theorem ig.run {P:Program} {cf:Nat->Option NFn} (h:ig P cf) {S:cR} {n f:Nat} {args:List NV} (hr:zX cf S n f args=true):zX P S n f args=true:=by
 have e:cf=ah P:=funext h
 rw[e] at hr;exact hr
theorem ig.kept {P:Program} {cf:Nat->Option NFn} (h:ig P cf) {S:cR} {n f:Nat} {args:List NV} {v:NV} (hr:uo cf S n f args v=true):uo P S n f args v=true:=by
 have e:cf=ah P:=funext h
 rw[e] at hr;exact hr
end Nm
namespace Nm
open Go Go.RowKit
def Le (a b:Option D4->NC->Dyn->Res):Prop:=∀r c d o d',a r c d= .mk o d'->b r c d= .mk o d'
section
variable {P:Program} {S:cR} {a b:Option D4->NC->Dyn->Res}
theorem jc {F G:Nat->List NV->Option NV->NH->CR} (h:∀f l p m r,F f l p m=r->r≠.fail->G f l p m=r) {K:Option NV->NH->CR}:∀(l:List Dfr) (p:Option NV) (m:NH) (r:CR),unwind F K l p m=r->r≠.fail->unwind G K l p m=r:=by
 intro l
 induction l with
 |nil=>exact fun p m r e _=>e
 |cons c l ih=>
  intro p m r e hr
  rw[mQ] at e ⊢
  cases c with
  |mark id=>
   dsimp only at e ⊢
   split at e
   ·exact ih _ _ _ e hr
   ·exact Q3 e.symm hr
  |call f cap=>
   dsimp only at e ⊢
   cases hf:F f cap p m with
   |fail=>rw[hf] at e;exact Q3 e.symm hr
   |pan v x m'=>rw[hf] at e;exact Q3 e.symm hr
   |val v x m'=>
    rw[hf] at e
    rw[h f cap p m _ hf (by simp)]
    exact ih _ _ _ e hr
theorem xF (h:Le a b):∀(d f:Nat) (l:List NV) (p:Option NV) (m:NH) (r:CR),cL P a d f l p m=r->r≠.fail->cL P b d f l p m=r:=by
 intro d
 induction d with
 |zero=>intro f l p m r e hr;exact Q3 e.symm hr
 |succ d ih=>
  intro f l p m r e hr
  rw[dx] at e ⊢
  cases hc:ah P f with
  |none=>rw[hc] at e;exact Q3 e.symm hr
  |some x=>
   cases x with
   |ext x=>rw[hc] at e;exact Q3 e.symm hr
   |code nf=>
    rw[hc] at e
    dsimp only at e ⊢
    cases ha:a none nf.body ⟨cN l 0 .leaf, [],p,m⟩ with
    |fail=>rw[ha] at e;exact Q3 e.symm hr
    |mk o d'=>
     rw[ha] at e
     rw[h _ _ _ _ _ ha]
     cases o with
     |norm=>exact jc (fun f l p m r=>ih f l p m r) _ _ _ _ e hr
     |ret=>exact jc (fun f l p m r=>ih f l p m r) _ _ _ _ e hr
     |pan v=>exact jc (fun f l p m r=>ih f l p m r) _ _ _ _ e hr
     |exit id=>exact Q3 e.symm hr
theorem ek (h:Le a b) {f:Nat} {l:List NV} {m:NH} {r:CR} (e:bZ P S a f l m=r) (hr:r≠.fail):bZ P S b f l m=r:=by
 unfold bZ at e ⊢
 cases hs:S f l m with
 |some v=>rw[hs] at e;exact e
 |none=>
  rw[hs] at e
  dsimp only at e ⊢
  cases hc:ah P f with
  |none=>rw[hc] at e;exact e
  |some x=>
   rw[hc] at e
   cases x with
   |ext x=>exact e
   |code nf=>exact xF h _ _ _ _ _ _ e hr
theorem pz (h:Le a b) {l:D4} {bd:NC} {t:Tm} {m:NH} {r:CR} (e:dg a l bd t m=r) (hr:r≠.fail):dg b l bd t m=r:=by
 unfold dg at e ⊢
 split at e
 ·rename_i p tm ps assign body hm
  rw[NH.set_eq] at e ⊢
  cases ha:a (some l) bd ⟨t, [],none,m.put l (.loop 1 p tm ps assign body)⟩ with
  |fail=>rw[ha] at e;exact Q3 e.symm hr
  |mk o d=>rw[ha] at e;rw[h _ _ _ _ _ ha];exact e
 ·exact Q3 e.symm hr
theorem fM (h:Le a b) {l:D4} {args:List NV} {m:NH} {r:CR} (e:round a l args m=r) (hr:r≠.fail):round b l args m=r:=by
 unfold round at e ⊢
 split at e
 ·rename_i x tm ps assign body hm
  obtain ⟨h1,h2⟩:=mS hr e
  have key:∀K:Tm->CR,eD .fail ps args tm K=K (qH ps args tm):=by
   clear e h2 hm
   intro K
   induction ps generalizing args tm with
   |nil=>cases args with
    |nil=>rfl
    |cons=>simp at h1
   |cons q ps ih=>
    cases args with
    |nil=>simp at h1
    |cons v vs=>
     have e:eD .fail (q::ps) (v::vs) tm K=NT.set q v tm fun t=>eD .fail ps vs t K:=rfl
     rw[e,NT.set_eq]
     exact ih _ (by simpa using h1)
  rw[key]
  cases ha:a (some l) assign ⟨qH ps args tm, [],none,m⟩ with
  |fail=>rw[ha] at h2;exact Q3 h2.symm hr
  |mk o d=>
   rw[ha] at h2
   rw[h _ _ _ _ _ ha]
   cases o with
   |norm=>
    dsimp only at h2 ⊢
    split at h2
    ·exact pz h h2 hr
    ·exact Q3 h2.symm hr
   |_=>exact Q3 h2.symm hr
 ·exact Q3 e.symm hr
theorem oW (h:Le a b) {rnd:Option D4} {dfs:List Dfr} {ctx:Option NV} {m:NH} {x:NR} {r:OpO} (e:eL P S a rnd dfs ctx m x=r) (hr:r≠.fail):eL P S b rnd dfs ctx m x=r:=by
 cases x with
 |call f l=>
  have e':vO dfs ctx (bZ P S a f l m)=r:=e
  have hn:bZ P S a f l m≠.fail:=fun hh=>by rw[hh] at e';exact hr e'.symm
  show vO dfs ctx (bZ P S b f l m)=r
  rw[ek h rfl hn];exact e'
 |yld l args=>
  have e':vO dfs ctx (round a l args m)=r:=e
  have hn:round a l args m≠.fail:=fun hh=>by rw[hh] at e';exact hr e'.symm
  show vO dfs ctx (round b l args m)=r
  rw[fM h rfl hn];exact e'
 |_=>exact e
theorem Fv {dst:Option D4} {K L:Dyn->Res} (hk:∀d o d',K d= .mk o d'->L d= .mk o d') {t:Tm} {dfs:List Dfr} {ctx:Option NV} {x:OpO} {o:Out} {d':Dyn} (e:vW dst K t dfs ctx x= .mk o d'):vW dst L t dfs ctx x= .mk o d':=by
 cases x with
 |fail=>cases e
 |next v dfs ctx h=>exact hk _ _ _ e
 |pan v h=>exact e
theorem L8 {dst:Option D4} {K:Dyn->Res} {t:Tm} {dfs:List Dfr} {ctx:Option NV} {x:OpO} {o:Out} {d':Dyn} (e:vW dst K t dfs ctx x= .mk o d'):x≠.fail:=by
 rintro rfl;cases e
theorem jz (h:Le a b) {rnd:Option D4}:∀(l:List NOper) (d:Dyn) (o:Out) (d':Dyn),dz P S a rnd l d= .mk o d'->dz P S b rnd l d= .mk o d':=by
 intro l
 induction l with
 |nil=>exact fun d o d' e=>e
 |cons x l ih=>
  rintro ⟨t,dfs,ctx,m⟩ o d' e
  rw[bU] at e ⊢
  cases hg:az t x.guard with
  |none=>rw[hg] at e;cases e
  |some on=>
   rw[hg] at e
   cases on with
   |false=>exact ih _ _ _ e
   |true=>
    dsimp only at e ⊢
    rw[oW h rfl (L8 e)]
    exact Fv ih e
theorem lZ (h:Le a b) {rnd:Option D4}:∀(l:List NOper) (hs:List (Nat×NH)) (rs:List (Nat×(NH->NR)×NV)) (d:Dyn) (o:Out) (d':Dyn),cd P S a rnd l hs rs d= .mk o d'->cd P S b rnd l hs rs d= .mk o d':=by
 intro l
 induction l with
 |nil=>exact fun hs rs d o d' e=>e
 |cons x l ih=>
  rintro hs rs ⟨t,dfs,ctx,m⟩ o d' e
  rw[cm] at e ⊢
  cases hg:az t x.guard with
  |none=>rw[hg] at e;cases e
  |some on=>
   rw[hg] at e
   cases on with
   |false=>exact ih _ _ _ _ _ e
   |true=>
    dsimp only at e ⊢
    cases hcl:ax x.op with
    |pure=>
     rw[hcl] at e
     dsimp only at e ⊢
     cases hop:af x.op t m<;>rw[hop] at e<;>first|exact ih _ _ _ _ _ e|cases e
    |alloc=>
     rw[hcl] at e
     dsimp only at e ⊢
     cases ha:ahead x.pre hs with
     |false=>rw[ha] at e;cases e
     |true=>
      rw[ha] at e
      simp only[cond_true] at e ⊢
      cases hop:af x.op t m<;>rw[hop] at e<;>first|exact ih _ _ _ _ _ e|cases e
    |read=>
     rw[hcl] at e
     dsimp only at e ⊢
     cases hop:af x.op t m with
     |val v=>
      rw[hop] at e
      dsimp only at e ⊢
      cases hst:e9 x.pre (af x.op t) v hs with
      |false=>rw[hst] at e;cases e
      |true=>rw[hst] at e;exact ih _ _ _ _ _ e
     |_=>rw[hop] at e;cases e
    |eff=>
     rw[hcl] at e
     dsimp only at e ⊢
     cases ha:ahead x.pre hs with
     |false=>rw[ha] at e;cases e
     |true=>
      rw[ha] at e
      simp only[cond_true] at e ⊢
      have hk:∀d o d',cond (stays x.pre d.h rs) (cd P S a rnd l ((x.idx,m)::hs) rs d) .fail= .mk o d'->cond (stays x.pre d.h rs) (cd P S b rnd l ((x.idx,m)::hs) rs d) .fail= .mk o d':=by
       intro d o d' e
       cases hs':stays x.pre d.h rs with
       |false=>rw[hs'] at e;cases e
       |true=>rw[hs'] at e;exact ih _ _ _ _ _ e
      have hne:eL P S a rnd dfs ctx m (af x.op t m)≠.fail:=by
       intro hh
       rw[hh] at e
       cases e
      rw[oW h rfl hne]
      cases hoo:eL P S a rnd dfs ctx m (af x.op t m) with
      |fail=>exact Q3 hoo hne
      |pan v m'=>rw[hoo] at e;exact e
      |next v dfs1 ctx1 m'=>
       rw[hoo] at e
       have e':dQ (bQ x.idx l) (cond (stays x.pre m' rs) (cd P S a rnd l ((x.idx,m)::hs) rs ⟨aQ x.dst v t,dfs1,ctx1,m'⟩) .fail)= .mk o d':=e
       show dQ (bQ x.idx l) (cond (stays x.pre m' rs) (cd P S b rnd l ((x.idx,m)::hs) rs ⟨aQ x.dst v t,dfs1,ctx1,m'⟩) .fail)= .mk o d'
       cases hin:cond (stays x.pre m' rs) (cd P S a rnd l ((x.idx,m)::hs) rs ⟨aQ x.dst v t,dfs1,ctx1,m'⟩) .fail with
       |fail=>rw[hin] at e';cases e'
       |mk o2 d2=>
        have:=hk ⟨aQ x.dst v t,dfs1,ctx1,m'⟩ o2 d2 hin
        rw[hin] at e'
        rw[show cond (stays x.pre m' rs) (cd P S b rnd l ((x.idx,m)::hs) rs ⟨aQ x.dst v t,dfs1,ctx1,m'⟩) .fail= .mk o2 d2 from this]
        exact e'
theorem ll (h:Le a b) {f:Nat} {cap:List NV} {ps:List D4} {x y:NC} {t:Tm} {dfs:List Dfr} {ctx:Option NV} {m:NH} {o:Out} {d':Dyn} (e:cE P S a f cap ps x y t dfs ctx m= .mk o d'):cE P S b f cap ps x y t dfs ctx m= .mk o d':=by
 unfold cE at e ⊢
 rw[NH.new_eq] at e ⊢
 cases hc:bZ P S a f (.yld m.next::cap) (m.add (.loop 0 .none t ps x y)) with
 |fail=>rw[hc] at e;cases e
 |val v c m'=>rw[hc] at e;rw[ek h hc (by simp)];exact e
 |pan v c m'=>rw[hc] at e;rw[ek h hc (by simp)];exact e
theorem xC (h:Le a b):Le (oE P S a) (oE P S b):=by
 intro r c d o d' e
 cases c with
 |skip=>exact e
 |reg l=>exact jz h _ _ _ _ e
 |regD l=>
  have e':(match cd P S a r l [] [] d with| .mk (.pan v) d=>Res.mk (.pan v) ⟨lw l d.t,d.dfs,d.ctx,d.h⟩|r=>r)= .mk o d':=e
  show (match cd P S b r l [] [] d with| .mk (.pan v) d=>Res.mk (.pan v) ⟨lw l d.t,d.dfs,d.ctx,d.h⟩|r=>r)= .mk o d'
  cases hr:cd P S a r l [] [] d with
  |fail=>rw[hr] at e';cases e'
  |mk o2 d2=>rw[hr] at e';rw[lZ h _ _ _ _ _ _ hr];exact e'
 |seq x y=>
  have e':(match a r x d with| .mk o d=>(match o with| .norm=>a r y d|o=> .mk o d)| .fail=> .fail)=Res.mk o d':=(yv (cf:=P) (S:=S)).symm.trans e
  refine (yv (cf:=P) (S:=S)).trans ?_
  show (match b r x d with| .mk o d=>(match o with| .norm=>b r y d|o=> .mk o d)| .fail=> .fail)=Res.mk o d'
  cases hx:a r x d with
  |fail=>rw[hx] at e';cases e'
  |mk o2 d2=>
   rw[hx] at e'
   rw[h _ _ _ _ _ hx]
   cases o2 with
   |norm=>exact h _ _ _ _ _ e'
   |_=>exact e'
 |cond g x y=>
  have e':(match ρ d.t g with|some (.bool c)=>(Bool.rec (a r y d) (a r x d) c:Res)|_=> .fail)=Res.mk o d':=(tp (cf:=P) (S:=S)).symm.trans e
  refine (tp (cf:=P) (S:=S)).trans ?_
  show (match ρ d.t g with|some (.bool c)=>(Bool.rec (b r y d) (b r x d) c:Res)|_=> .fail)=Res.mk o d'
  cases hg:ρ d.t g with
  |none=>rw[hg] at e';cases e'
  |some v=>
   rw[hg] at e'
   cases v with
   |bool q=>cases q<;>exact h _ _ _ _ _ e'
   |_=>cases e'
 |block id x=>
  have e':(match a r x d with| .mk o d=>(match o with| .exit i=>cond (Nat.beq i id) (.mk .norm d) (.mk (.exit i) d)|o=> .mk o d)| .fail=> .fail)=Res.mk o d':=(qd (cf:=P) (S:=S)).symm.trans e
  refine (qd (cf:=P) (S:=S)).trans ?_
  show (match b r x d with| .mk o d=>(match o with| .exit i=>cond (Nat.beq i id) (.mk .norm d) (.mk (.exit i) d)|o=> .mk o d)| .fail=> .fail)=Res.mk o d'
  cases hx:a r x d with
  |fail=>rw[hx] at e';cases e'
  |mk o2 d2=>rw[hx] at e';rw[h _ _ _ _ _ hx];exact e'
 |loop x=>
  have e':(match a r x d with| .mk o d=>(match o with| .norm=>a r (.loop x) d|o=> .mk o d)| .fail=> .fail)=Res.mk o d':=(lB (cf:=P) (S:=S)).symm.trans e
  refine (lB (cf:=P) (S:=S)).trans ?_
  show (match b r x d with| .mk o d=>(match o with| .norm=>b r (.loop x) d|o=> .mk o d)| .fail=> .fail)=Res.mk o d'
  cases hx:a r x d with
  |fail=>rw[hx] at e';cases e'
  |mk o2 d2=>
   rw[hx] at e'
   rw[h _ _ _ _ _ hx]
   cases o2 with
   |norm=>exact h _ _ _ _ _ e'
   |_=>exact e'
 |rangeFunc f ps x y=>
  obtain ⟨t,dfs,ctx,m⟩:=d
  have e':(match ρ t f with
   |some (.fn f cap)=>(match (generalizing:=false) r with
    |none=>m.new (.defd true) fun q m=>cE P S a f cap ps x y t (.mark q::dfs) ctx m
    |some l=>(match m.get l with
     |some (.loop ..)=>cE P S a f cap ps x y t dfs ctx m
     |_=> .fail))
   |_=> .fail)=Res.mk o d':=e
  show (match ρ t f with
   |some (.fn f cap)=>(match (generalizing:=false) r with
    |none=>m.new (.defd true) fun q m=>cE P S b f cap ps x y t (.mark q::dfs) ctx m
    |some l=>(match m.get l with
     |some (.loop ..)=>cE P S b f cap ps x y t dfs ctx m
     |_=> .fail))
   |_=> .fail)=Res.mk o d'
  cases hf:ρ t f with
  |none=>rw[hf] at e';cases e'
  |some v=>
   rw[hf] at e'
   cases v with
   |fn f cap=>
    dsimp only at e' ⊢
    cases r with
    |none=>
     dsimp only at e' ⊢
     rw[NH.new_eq] at e' ⊢
     exact ll h e'
    |some l=>
     dsimp only at e' ⊢
     split at e'
     ·exact ll h e'
     ·cases e'
   |_=>cases e'
 |exit id=>exact e
 |ret=>exact e
theorem GZ:∀n,Le (ev P S n) (ev P S (n+1)):=by
 intro n
 induction n with
 |zero=>intro r c d o d' e;cases e
 |succ n ih=>exact xC ih
theorem bY {n m:Nat} (hnm:n<=m):Le (ev P S n) (ev P S m):=by
 induction m with
 |zero=>
  have:n=0:=by omega
  subst this;exact fun _ _ _ _ _ e=>e
 |succ m ih=>
  by_cases h:n=m+1
  ·subst h;exact fun _ _ _ _ _ e=>e
  ·exact fun r c d o d' e=>GZ m r c d o d' (ih (by omega) r c d o d' e)
end
def dL (P:Program) (S:cR) (r:Option D4) (c:NC) (d:Dyn) (o:Out) (d':Dyn):Prop:=∃n,ev P S n r c d= .mk o d'
def Call (P:Program) (S:cR) (f:Nat) (l:List NV) (m:NH) (x:CR):Prop:=x≠.fail/\∃n,bZ P S (ev P S n) f l m=x
def fw (P:Program) (S:cR) (r:Option D4) (l:List NOper) (d:Dyn) (o:Out) (d':Dyn):Prop:=∃n,dz P S (ev P S n) r l d= .mk o d'
section
variable {P:Program} {S:cR} {r:Option D4}
theorem dL.skip (d:Dyn):dL P S r .skip d .norm d:=⟨1,rfl⟩
theorem dL.ret (d:Dyn):dL P S r .ret d .ret d:=⟨1,rfl⟩
theorem dL.exit (id:Nat) (d:Dyn):dL P S r (.exit id) d (.exit id) d:=⟨1,rfl⟩
theorem dL.seq {x y:NC} {d d1 d2:Dyn} {o:Out} (hx:dL P S r x d .norm d1) (hy:dL P S r y d1 o d2):dL P S r (.seq x y) d o d2:=by
 obtain ⟨n,hn⟩:=hx
 obtain ⟨m,hm⟩:=hy
 refine ⟨max n m+1, ?_⟩
 refine xR.trans ?_
 show (match ev P S (max n m) r x d with| .mk o d=>(match o with| .norm=>ev P S (max n m) r y d|o=> .mk o d)| .fail=> .fail)=Res.mk o d2
 rw[bY (Nat.le_max_left n m) _ _ _ _ _ hn]
 exact bY (Nat.le_max_right n m) _ _ _ _ _ hm
theorem dL.seq_out {x y:NC} {d d1:Dyn} {o:Out} (hx:dL P S r x d o d1) (ho:o≠.norm):dL P S r (.seq x y) d o d1:=by
 obtain ⟨n,hn⟩:=hx
 refine ⟨n+1, ?_⟩
 refine xR.trans ?_
 show (match ev P S n r x d with| .mk o d=>(match o with| .norm=>ev P S n r y d|o=> .mk o d)| .fail=> .fail)=Res.mk o d1
 rw[hn]
 cases o<;>first|rfl|exact Q3 rfl ho
theorem dL.cond {g:NOpd} {q:Bool} {x y:NC} {d d1:Dyn} {o:Out} (hg:ρ d.t g=some (.bool q)) (h:dL P S r (if q then x else y) d o d1):dL P S r (.cond g x y) d o d1:=by
 obtain ⟨n,hn⟩:=h
 refine ⟨n+1, ?_⟩
 refine A5.trans ?_
 show (match ρ d.t g with|some (.bool c)=>(Bool.rec (ev P S n r y d) (ev P S n r x d) c:Res)|_=> .fail)=Res.mk o d1
 rw[hg]
 cases q<;>exact hn
theorem dL.block {id:Nat} {x:NC} {d d1:Dyn} {o:Out} (h:dL P S r x d o d1):dL P S r (.block id x) d (match o with| .exit i=>_root_.cond (Nat.beq i id) .norm (.exit i)|o=>o) d1:=by
 obtain ⟨n,hn⟩:=h
 refine ⟨n+1, ?_⟩
 refine tO.trans ?_
 show (match ev P S n r x d with| .mk o d=>(match o with| .exit i=>_root_.cond (Nat.beq i id) (Res.mk .norm d) (Res.mk (.exit i) d)|o=>Res.mk o d)| .fail=>Res.fail)=_
 rw[hn]
 cases o with
 |exit i=>dsimp only;cases Nat.beq i id<;>rfl
 |_=>rfl
theorem dL.loop {x:NC} {d d1 d2:Dyn} {o:Out} (hx:dL P S r x d .norm d1) (hy:dL P S r (.loop x) d1 o d2):dL P S r (.loop x) d o d2:=by
 obtain ⟨n,hn⟩:=hx
 obtain ⟨m,hm⟩:=hy
 refine ⟨max n m+1, ?_⟩
 refine sB.trans ?_
 show (match ev P S (max n m) r x d with| .mk o d=>(match o with| .norm=>ev P S (max n m) r (.loop x) d|o=> .mk o d)| .fail=> .fail)=Res.mk o d2
 rw[bY (Nat.le_max_left n m) _ _ _ _ _ hn]
 exact bY (Nat.le_max_right n m) _ _ _ _ _ hm
theorem dL.loop_out {x:NC} {d d1:Dyn} {o:Out} (hx:dL P S r x d o d1) (ho:o≠.norm):dL P S r (.loop x) d o d1:=by
 obtain ⟨n,hn⟩:=hx
 refine ⟨n+1, ?_⟩
 refine sB.trans ?_
 show (match ev P S n r x d with| .mk o d=>(match o with| .norm=>ev P S n r (.loop x) d|o=> .mk o d)| .fail=> .fail)=Res.mk o d1
 rw[hn]
 cases o<;>first|rfl|exact Q3 rfl ho
theorem dL.reg {l:List NOper} {d d1:Dyn} {o:Out} (h:fw P S r l d o d1):dL P S r (.reg l) d o d1:=by
 obtain ⟨n,hn⟩:=h
 exact ⟨n+1,hn⟩
theorem fw.nil (d:Dyn):fw P S r [] d .norm d:=⟨0,rfl⟩
theorem fw.val {x:NOper} {l:List NOper} {t:Tm} {dfs:List Dfr} {ctx:Option NV} {m:NH} {o:Out} {d1:Dyn} {v:NV} (hg:az t x.guard=some true) (hop:af x.op t m= .val v)
 (h:fw P S r l ⟨aQ x.dst v t,dfs,ctx,m⟩ o d1):fw P S r (x::l) ⟨t,dfs,ctx,m⟩ o d1:=by
 obtain ⟨n,hn⟩:=h
 refine ⟨n, ?_⟩
 rw[bU,hg,hop]
 exact hn
theorem fw.mem {x:NOper} {l:List NOper} {t:Tm} {dfs:List Dfr} {ctx:Option NV} {m m':NH} {o:Out} {d1:Dyn} {v:NV} (hg:az t x.guard=some true) (hop:af x.op t m= .mem v m')
 (h:fw P S r l ⟨aQ x.dst v t,dfs,ctx,m'⟩ o d1):fw P S r (x::l) ⟨t,dfs,ctx,m⟩ o d1:=by
 obtain ⟨n,hn⟩:=h
 refine ⟨n, ?_⟩
 rw[bU,hg,hop]
 exact hn
theorem fw.off {x:NOper} {l:List NOper} {t:Tm} {dfs:List Dfr} {ctx:Option NV} {m:NH} {o:Out} {d1:Dyn} (hg:az t x.guard=some false)
 (h:fw P S r l ⟨aQ x.dst aS t,dfs,ctx,m⟩ o d1):fw P S r (x::l) ⟨t,dfs,ctx,m⟩ o d1:=by
 obtain ⟨n,hn⟩:=h
 refine ⟨n, ?_⟩
 rw[bU,hg]
 exact hn
theorem fw.call {x:NOper} {l:List NOper} {t:Tm} {dfs:List Dfr} {ctx:Option NV} {m m':NH} {o:Out} {d1:Dyn} {f:Nat} {args:List NV} {v:NV} {c:Option NV} (hg:az t x.guard=some true) (hop:af x.op t m= .call f args)
 (hc:Call P S f args m (.val v c m')) (h:fw P S r l ⟨aQ x.dst v t,dfs,ctx,m'⟩ o d1):fw P S r (x::l) ⟨t,dfs,ctx,m⟩ o d1:=by
 obtain ⟨n,hn⟩:=h
 obtain ⟨hne,k,hk⟩:=hc
 refine ⟨max n k, ?_⟩
 rw[bU,hg,hop]
 show vW x.dst (dz P S (ev P S (max n k)) r l) t dfs ctx (vO dfs ctx (bZ P S (ev P S (max n k)) f args m))=_
 rw[ek (bY (Nat.le_max_right n k)) hk hne]
 exact jz (bY (Nat.le_max_left n k)) _ _ _ _ hn
theorem Call.of_run {f:Nat} {nf:NFun} (hs:∀l,S f l=fun _=>none) (hf:ah P f=some (.code nf)) {args:List NV} {m:NH} {o:Out} {d:Dyn} (ho:o= .norm∨o= .ret) (h:dL P S none nf.body ⟨cN args 0 .leaf, [],none,m⟩ o d) (hd:d.dfs= [])
 {x:CR} (hx:cG d.h d.t nf.results .fail (fun l=> .val (iC l) d.ctx d.h)=x) (hne:x≠.fail):Call P S f args m x:=by
 obtain ⟨n,hn⟩:=h
 refine ⟨hne,n, ?_⟩
 unfold bZ
 rw[hs]
 dsimp only
 rw[hf]
 dsimp only
 rw[dx,hf]
 dsimp only
 rw[hn]
 rcases ho with rfl|rfl<;>(dsimp only;rw[hd];exact hx)
theorem E0 (hM:P.follows .mixedOrders=true) (hP:P.check= .ok ()) (hS:gO P S) {f:Nat} {args:List NV} {m m':NH} {v:NV} {c:Option NV} {nf:NFun} (hf:ah P f=some (.code nf)) (hs:S f args=fun _=>none) (hc:Call P S f args m (.val v c m'))
 {ι:aU} {w:World} (hR:Rel P ι w.heap.size m w) (hlive:∀i p,ι i=some p->¬Live (m.get i)) {args':List Value} (ha:VRL ι args args'):
 Calls P f args'.toArray w fun e w'=>(∃ι' v',e= .returned v'/\VR ι' v v'/\ι.le ι'/\Rel P ι' w.heap.size m' w')/\Below w.heap.size w w':=by
 intro cs
 obtain ⟨_,n,hn⟩:=hc
 have hn':cL P (ev P S n) 3 f args none m= .val v c m':=by
  unfold bZ at hn
  rw[hs] at hn
  dsimp only at hn
  rw[hf] at hn
  exact hn
 obtain ⟨hO,_⟩:=pO hM (lN hP) hS n
 have hD:=jL (lN hP) hO 3 f args none m
 obtain ⟨_,hF⟩:=hD (by rw[hn'];simp)
 have hF:=hF w.heap.size ι w args' .normal cs hR (Nat.le_refl _) ha (fun b hb=>by unfold tryRecover;rw[hb])
 rw[hn'] at hF
 obtain ⟨ι',v',w',cs',fr,f1,f2,f3,f4,f5,f6,f7,f8,f9⟩:=hF
 obtain ⟨rfl,_⟩:=f5.none
 refine ⟨.returned v',w',fr,⟨⟨ι',v',rfl,f1,f4.le,f2⟩,⟨f4.os,f4.tape,f4.output,f4.size,fun k hk=>f4.frame k hk fun i p hi hl=>Q3 hl (hlive i p hi)⟩⟩,f6,f8,eV f7 f9⟩
end
end Nm
namespace Nm
open Go Go.RowKit
noncomputable def am:List (D4×NV)->Tm->Tm
 | [],t=>t
 |p::l,t=>NT.put p.1 p.2 (am l t)
noncomputable def gP (k:D4):List (D4×NV)->Option NV->Option NV
 | [],d=>d
 |p::l,d=>cond (bA k p.1) (some p.2) (gP k l d)
theorem p7 (k:D4):bA k k=true:=by
 induction k with
 |e=>rfl
 |a d ih=>exact ih
 |b d ih=>exact ih
 |c d ih=>exact ih
 |f d ih=>exact ih
theorem jK (k:D4) (l:List (D4×NV)) (t:Tm):NT.get k (am l t)=gP k l (NT.get k t):=by
 induction l with
 |nil=>rfl
 |cons p l ih=>
  show NT.get k (NT.put p.1 p.2 (am l t))=cond (bA k p.1) (some p.2) (gP k l (NT.get k t))
  cases h:bA k p.1 with
  |true=>rw[jA h,NT.get_put_same];rfl
  |false=>
   have hne:k≠p.1:=fun e=>by rw[e,p7] at h;cases h
   rw[NT.get_put_ne hne,ih];rfl
def bL (P:Program) (S:cR) (r:Option D4) (l:List NOper) (hs:List (Nat×NH)) (rs:List (Nat×(NH->NR)×NV)) (d:Dyn) (o:Out) (d':Dyn):Prop:=∃n,cd P S (ev P S n) r l hs rs d= .mk o d'
section
variable {P:Program} {S:cR} {r:Option D4} {x:NOper} {l:List NOper} {hs:List (Nat×NH)} {rs:List (Nat×(NH->NR)×NV)} {t:Tm} {dfs:List Dfr} {ctx:Option NV} {m m':NH} {o:Out} {d d1:Dyn} {v:NV}
theorem dL.regD (h:bL P S r l [] [] d .norm d1):dL P S r (.regD l) d .norm d1:=by
 obtain ⟨n,hn⟩:=h
 refine ⟨n+1, ?_⟩
 show (match cd P S (ev P S n) r l [] [] d with| .mk (.pan v) d=>Res.mk (.pan v) ⟨lw l d.t,d.dfs,d.ctx,d.h⟩|r=>r)=_
 rw[hn]
theorem bL.nil (d:Dyn):bL P S r [] hs rs d .norm d:=⟨0,rfl⟩
theorem bL.off (hg:az t x.guard=some false) (h:bL P S r l hs rs ⟨aQ x.dst aS t,dfs,ctx,m⟩ o d1):bL P S r (x::l) hs rs ⟨t,dfs,ctx,m⟩ o d1:=by
 obtain ⟨n,hn⟩:=h
 exact ⟨n,by rw[cm,hg];exact hn⟩
theorem bL.pure (hg:az t x.guard=some true) (hc:ax x.op= .pure) (hop:af x.op t m= .val v) (h:bL P S r l hs rs ⟨aQ x.dst v t,dfs,ctx,m⟩ o d1):bL P S r (x::l) hs rs ⟨t,dfs,ctx,m⟩ o d1:=by
 obtain ⟨n,hn⟩:=h
 exact ⟨n,by rw[cm,hg];dsimp only;rw[hc];dsimp only;rw[hop];exact hn⟩
theorem bL.alloc (hg:az t x.guard=some true) (hc:ax x.op= .alloc) (ha:ahead x.pre hs=true) (hop:af x.op t m= .mem v m') (h:bL P S r l hs rs ⟨aQ x.dst v t,dfs,ctx,m'⟩ o d1):bL P S r (x::l) hs rs ⟨t,dfs,ctx,m⟩ o d1:=by
 obtain ⟨n,hn⟩:=h
 exact ⟨n,by rw[cm,hg];dsimp only;rw[hc];dsimp only;rw[ha,hop];exact hn⟩
theorem bL.read (hg:az t x.guard=some true) (hc:ax x.op= .read) (hop:af x.op t m= .val v) (ha:e9 x.pre (af x.op t) v hs=true)
 (h:bL P S r l hs ((x.idx,af x.op t,v)::rs) ⟨aQ x.dst v t,dfs,ctx,m⟩ o d1):bL P S r (x::l) hs rs ⟨t,dfs,ctx,m⟩ o d1:=by
 obtain ⟨n,hn⟩:=h
 exact ⟨n,by rw[cm,hg];dsimp only;rw[hc];dsimp only;rw[hop];dsimp only;rw[ha];exact hn⟩
theorem bL.eff (hg:az t x.guard=some true) (hc:ax x.op= .eff) (ha:ahead x.pre hs=true) (hop:af x.op t m= .mem v m') (hst:stays x.pre m' rs=true)
 (h:bL P S r l ((x.idx,m)::hs) rs ⟨aQ x.dst v t,dfs,ctx,m'⟩ .norm d1):bL P S r (x::l) hs rs ⟨t,dfs,ctx,m⟩ .norm d1:=by
 obtain ⟨n,hn⟩:=h
 refine ⟨n, ?_⟩
 rw[cm,hg];dsimp only;rw[hc];dsimp only;rw[ha,hop]
 show dQ (bQ x.idx l) (cond (stays x.pre m' rs) (cd P S (ev P S n) r l ((x.idx,m)::hs) rs ⟨aQ x.dst v t,dfs,ctx,m'⟩) .fail)=_
 rw[hst]
 show dQ (bQ x.idx l) (cd P S (ev P S n) r l ((x.idx,m)::hs) rs ⟨aQ x.dst v t,dfs,ctx,m'⟩)=_
 rw[hn];rfl
theorem bL.effv (hg:az t x.guard=some true) (hc:ax x.op= .eff) (ha:ahead x.pre hs=true) (hop:af x.op t m= .val v) (hst:stays x.pre m rs=true)
 (h:bL P S r l ((x.idx,m)::hs) rs ⟨aQ x.dst v t,dfs,ctx,m⟩ .norm d1):bL P S r (x::l) hs rs ⟨t,dfs,ctx,m⟩ .norm d1:=by
 obtain ⟨n,hn⟩:=h
 refine ⟨n, ?_⟩
 rw[cm,hg];dsimp only;rw[hc];dsimp only;rw[ha,hop]
 show dQ (bQ x.idx l) (cond (stays x.pre m rs) (cd P S (ev P S n) r l ((x.idx,m)::hs) rs ⟨aQ x.dst v t,dfs,ctx,m⟩) .fail)=_
 rw[hst]
 show dQ (bQ x.idx l) (cd P S (ev P S n) r l ((x.idx,m)::hs) rs ⟨aQ x.dst v t,dfs,ctx,m⟩)=_
 rw[hn];rfl
theorem bL.call {f:Nat} {args:List NV} {c:Option NV} (hg:az t x.guard=some true) (hc:ax x.op= .eff) (ha:ahead x.pre hs=true) (hop:af x.op t m= .call f args) (hcall:Call P S f args m (.val v c m')) (hst:stays x.pre m' rs=true)
 (h:bL P S r l ((x.idx,m)::hs) rs ⟨aQ x.dst v t,dfs,ctx,m'⟩ .norm d1):bL P S r (x::l) hs rs ⟨t,dfs,ctx,m⟩ .norm d1:=by
 obtain ⟨n,hn⟩:=h
 obtain ⟨hne,k,hk⟩:=hcall
 refine ⟨max n k, ?_⟩
 rw[cm,hg];dsimp only;rw[hc];dsimp only;rw[ha,hop]
 show dQ (bQ x.idx l) (vW x.dst (fun d=>cond (stays x.pre d.h rs) (cd P S (ev P S (max n k)) r l ((x.idx,m)::hs) rs d) .fail) t dfs ctx (vO dfs ctx (bZ P S (ev P S (max n k)) f args m)))=_
 rw[ek (bY (Nat.le_max_right n k)) hk hne]
 show dQ (bQ x.idx l) (cond (stays x.pre m' rs) (cd P S (ev P S (max n k)) r l ((x.idx,m)::hs) rs ⟨aQ x.dst v t,dfs,ctx,m'⟩) .fail)=_
 rw[hst]
 show dQ (bQ x.idx l) (cd P S (ev P S (max n k)) r l ((x.idx,m)::hs) rs ⟨aQ x.dst v t,dfs,ctx,m'⟩)=_
 rw[lZ (bY (Nat.le_max_left n k)) _ _ _ _ _ _ hn];rfl
end
def wI (P:Program) (S:cR) (l:D4) (args:List NV) (m:NH) (x:CR):Prop:=x≠.fail/\∃n,round (ev P S n) l args m=x
section
variable {P:Program} {S:cR} {r:Option D4} {x:NOper} {l:List NOper} {hs:List (Nat×NH)} {rs:List (Nat×(NH->NR)×NV)} {t:Tm} {dfs:List Dfr} {ctx:Option NV} {m m':NH} {o:Out} {d1:Dyn} {v:NV} {q:D4} {args:List NV} {c:Option NV}
theorem fw.yld (hg:az t x.guard=some true) (hop:af x.op t m= .yld q args) (hc:wI P S q args m (.val v c m')) (h:fw P S r l ⟨aQ x.dst v t,dfs,ctx,m'⟩ o d1):fw P S r (x::l) ⟨t,dfs,ctx,m⟩ o d1:=by
 obtain ⟨n,hn⟩:=h
 obtain ⟨hne,k,hk⟩:=hc
 refine ⟨max n k, ?_⟩
 rw[bU,hg,hop]
 show vW x.dst (dz P S (ev P S (max n k)) r l) t dfs ctx (vO dfs ctx (round (ev P S (max n k)) q args m))=_
 rw[fM (bY (Nat.le_max_right n k)) hk hne]
 exact jz (bY (Nat.le_max_left n k)) _ _ _ _ hn
theorem bL.yld (hg:az t x.guard=some true) (hc:ax x.op= .eff) (ha:ahead x.pre hs=true) (hop:af x.op t m= .yld q args) (hcall:wI P S q args m (.val v c m')) (hst:stays x.pre m' rs=true)
 (h:bL P S r l ((x.idx,m)::hs) rs ⟨aQ x.dst v t,dfs,ctx,m'⟩ .norm d1):bL P S r (x::l) hs rs ⟨t,dfs,ctx,m⟩ .norm d1:=by
 obtain ⟨n,hn⟩:=h
 obtain ⟨hne,k,hk⟩:=hcall
 refine ⟨max n k, ?_⟩
 rw[cm,hg];dsimp only;rw[hc];dsimp only;rw[ha,hop]
 show dQ (bQ x.idx l) (vW x.dst (fun d=>cond (stays x.pre d.h rs) (cd P S (ev P S (max n k)) r l ((x.idx,m)::hs) rs d) .fail) t dfs ctx (vO dfs ctx (round (ev P S (max n k)) q args m)))=_
 rw[fM (bY (Nat.le_max_right n k)) hk hne]
 show dQ (bQ x.idx l) (cond (stays x.pre m' rs) (cd P S (ev P S (max n k)) r l ((x.idx,m)::hs) rs ⟨aQ x.dst v t,dfs,ctx,m'⟩) .fail)=_
 rw[hst]
 show dQ (bQ x.idx l) (cd P S (ev P S (max n k)) r l ((x.idx,m)::hs) rs ⟨aQ x.dst v t,dfs,ctx,m'⟩)=_
 rw[lZ (bY (Nat.le_max_left n k)) _ _ _ _ _ _ hn];rfl
end
section
variable {P:Program} {S:cR} {r:Option D4} {x:NOper} {l:List NOper} {hs:List (Nat×NH)} {rs:List (Nat×(NH->NR)×NV)} {L:List (D4×NV)} {t:Tm} {dfs:List Dfr} {ctx:Option NV} {m m':NH} {o:Out} {d1:Dyn} {v:NV} {k:D4}
theorem bL.p (hd:x.dst=some k) (hg:az (am L t) x.guard=some true) (hc:ax x.op= .pure) (hop:af x.op (am L t) m= .val v) (h:bL P S r l hs rs ⟨am ((k,v)::L) t,dfs,ctx,m⟩ o d1):bL P S r (x::l) hs rs ⟨am L t,dfs,ctx,m⟩ o d1:=
 bL.pure hg hc hop (by rw[hd];exact h)
theorem bL.rd (hd:x.dst=some k) (hg:az (am L t) x.guard=some true) (hc:ax x.op= .read) (hop:af x.op (am L t) m= .val v) (ha:e9 x.pre (af x.op (am L t)) v hs=true)
 (h:bL P S r l hs ((x.idx,af x.op (am L t),v)::rs) ⟨am ((k,v)::L) t,dfs,ctx,m⟩ o d1):bL P S r (x::l) hs rs ⟨am L t,dfs,ctx,m⟩ o d1:=
 bL.read hg hc hop ha (by rw[hd];exact h)
theorem bL.e (hd:x.dst=some k) (hg:az (am L t) x.guard=some true) (hc:ax x.op= .eff) (ha:ahead x.pre hs=true) (hop:af x.op (am L t) m= .mem v m') (hst:stays x.pre m' rs=true)
 (h:bL P S r l ((x.idx,m)::hs) rs ⟨am ((k,v)::L) t,dfs,ctx,m'⟩ .norm d1):bL P S r (x::l) hs rs ⟨am L t,dfs,ctx,m⟩ .norm d1:=
 bL.eff hg hc ha hop hst (by rw[hd];exact h)
theorem bL.c {f:Nat} {args:List NV} {c:Option NV} (hd:x.dst=some k) (hg:az (am L t) x.guard=some true) (hc:ax x.op= .eff) (ha:ahead x.pre hs=true) (hop:af x.op (am L t) m= .call f args) (hcall:Call P S f args m (.val v c m')) (hst:stays x.pre m' rs=true)
 (h:bL P S r l ((x.idx,m)::hs) rs ⟨am ((k,v)::L) t,dfs,ctx,m'⟩ .norm d1):bL P S r (x::l) hs rs ⟨am L t,dfs,ctx,m⟩ .norm d1:=
 bL.call hg hc ha hop hcall hst (by rw[hd];exact h)
end
section
variable {t:Tm} {m:NH}
theorem kR {op:BinOp} {k:IntKind} {a b:Int} (h:fA op=false):ee .num op (.int k (.lit a)) (.int k (.lit b))=ki op k a b:=by
 show cond (fA op) (ki op k a b) (cond (rE k k) (ki op k a b) none)=_
 rw[show rE k k=true by cases k<;>rfl,h];rfl
theorem MS {k:IntKind} {a b:Int}:ee .num .lss (.int k (.lit a)) (.int k (.lit b))=some (.bool (decide (a<b))):=
 (kR rfl).trans (by show bX (vQ a b)=_;rw[ie,bm])
theorem O4 {k:IntKind} {a b:Int}:ee .num .leq (.int k (.lit a)) (.int k (.lit b))=some (.bool (decide (a<=b))):=
 (kR rfl).trans (by show bX (Gl a b)=_;rw[ji,bm])
theorem MO {k:IntKind} {a b:Int}:ee .num .gtr (.int k (.lit a)) (.int k (.lit b))=some (.bool (decide (b<a))):=
 (kR rfl).trans (by show bX (vQ b a)=_;rw[ie,bm])
theorem No {k:IntKind} {a b:Int}:ee .num .geq (.int k (.lit a)) (.int k (.lit b))=some (.bool (decide (b<=a))):=
 (kR rfl).trans (by show bX (Gl b a)=_;rw[ji,bm])
theorem NJ {k:IntKind} {a b:Int}:ee .num .eql (.int k (.lit a)) (.int k (.lit b))=some (.bool (decide (a=b))):=
 (kR rfl).trans (by show bX (qe a b)=_;rw[gh,bm];rfl)
theorem Mz {k:IntKind} {a b:Int}:ee .num .neq (.int k (.lit a)) (.int k (.lit b))=some (.bool (decide (a≠b))):=
 (kR rfl).trans (by show bX (j9 (qe a b))=_;rw[gh,bm,eW];by_cases h:a=b<;>simp[h])
theorem wrap_small {n:Int} (h:-9223372036854775808<=n) (h':n<9223372036854775808):cq .i64 n=n:=by
 cases n with
 |ofNat m=>
  show cond (Nat.ble (Nat.succ m) 9223372036854775808) (Int.ofNat m) _=_
  rw[Nat.ble_eq_true_of_le (by have:(m:Int)<9223372036854775808:=h';omega)];rfl
 |negSucc m=>
  show cond (Nat.ble (Nat.succ m) 9223372036854775808) (Int.negSucc m) _=_
  rw[Nat.ble_eq_true_of_le (by have:-9223372036854775808<=Int.negSucc m:=h;omega)];rfl
theorem Na {a b:Int} (h:-9223372036854775808<=a+b) (h':a+b<9223372036854775808):ee .num .add (.int .i64 (.lit a)) (.int .i64 (.lit b))=some (.int .i64 (.lit (a+b))):=by
 refine (kR rfl).trans ?_
 show dv .i64 (cq .i64 (Cb a b))=_
 have e:Cb a b=a+b:=by cases a<;>cases b<;>rfl
 rw[e,wrap_small h h']
 exact my _ _
end
end Nm
