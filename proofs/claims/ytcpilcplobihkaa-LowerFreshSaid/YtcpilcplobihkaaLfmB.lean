/- A machine that runs the given program with memory and order of evaluation taken apart from the model's, the proof that what it answers is what the model answers, and rules to reason of its runs. Part 2 of 4. -/
import Derived.MapKept
import Derived.Deep.AppendSrc
import Derived.Laws.IdiomStrings
import Derived.Laws.MakeOwn
import Derived.AtR
import Derived.RangeFuncIn
import Derived.Test.YtcpilcplobihkaaLfmA
namespace Nm
open Go
variable [Val]
section
variable {P:Program} {ι:aW} {B:Nat} {h:NH} {w:World} {t:Tm}
theorem lM {T T':Nat} {d:TypeDesc} (hT:P.underlying T=some d) (hn:∀m,d≠.interface m) {z:NV} (hz:pX P T=some z) (hTT:T'=T) (X:TypeId) {y:NOpd} {x:Value} (hx:OV ι t y x):
 bt P ι B h w (gH T' z y t h) (aG ((Instr.typeAssert x X T true).run P w)):=
 aV fun hr=>by
  obtain ⟨v,h1,h2⟩:=aE rfl hr
  unfold gH at *
  rw[←h2];rw[←h2] at hr
  have hv:=hx v h1
  subst hTT
  obtain ⟨zv,hzv,hzr⟩:∃zv,(∀w,(zeroValue T').run P w= .ok zv w)/\VR ι z zv:=by
   unfold pX at hz
   cases hi:P.info? T' with
   |none=>rw[hi] at hz;cases hz
   |some i=>
    rw[hi] at hz
    cases hzz:i.zero with
    |none=>simp only[hzz] at hz;cases hz
    |some zv=>simp only[hzz] at hz;exact ⟨zv,fun w=>fm hi hzz,d8 hz⟩
  cases hv with
  |nili=>
   refine ⟨_, ?_,.tup _ [zv,.bool false] (.cons _ _ _ _ hzr (.cons _ _ _ _ (.bool _) .nil))⟩
   unfold Instr.typeAssert
   rw[aG,Sem.run_bind,run_underlying hT]
   cases d<;>first|exact absurd rfl (hn _)|simp[hzv]
  |ifc u a a' ha=>
   dsimp only
   cases hb:Nat.beq u T' with
   |true=>
    obtain rfl:=Nat.eq_of_beq_eq_true hb
    refine ⟨_, ?_,.tup _ [a',.bool true] (.cons _ _ _ _ ha (.cons _ _ _ _ (.bool _) .nil))⟩
    unfold Instr.typeAssert
    rw[aG,Sem.run_bind,run_underlying hT]
    cases d<;>first|exact absurd rfl (hn _)|simp
   |false=>
    have hne:u≠T':=Nat.ne_of_beq_eq_false hb
    refine ⟨_, ?_,.tup _ [zv,.bool false] (.cons _ _ _ _ hzr (.cons _ _ _ _ (.bool _) .nil))⟩
    unfold Instr.typeAssert
    rw[aG,Sem.run_bind,run_underlying hT]
    cases d<;>first|exact absurd rfl (hn _)|simp[hne,hzv]
  |_=>exact absurd rfl hr
theorem sw (T:TypeId) (hR:Rel P ι B h w) (hB:B<=w.heap.size):bt P ι B h w (qS t h) (aG ((Instr.makeMap T none).run P w)):=by
 unfold qS
 rw[NH.new_eq]
 obtain ⟨ι',h1,h2,h3,h4⟩:=hR.alloc hB (.map []) (.map #[] 0) ⟨w.heap.size,0,0⟩ rfl fun ι' hle=>⟨#[],0,dY w _,trivial⟩
 exact ⟨_,_,ι',.inl rfl,.map _ _ h1,h3,h4⟩
def KD (s:Bool) (d:TypeDesc):Prop:=if s then d= .string else ∃k,d= .int k
omit [Val] in
theorem oQ {T:Nat} {s:Bool} (e:tq P T=some s):∃d,P.underlying T=some d/\KD s d:=by
 unfold tq at e
 split at e
 ·rename_i hu;cases e;exact ⟨_,hu,_,rfl⟩
 ·rename_i hu;cases e;exact ⟨_,hu,rfl⟩
 ·cases e
omit [Val] in
theorem gp {T:Nat} {s:Bool} {d:TypeDesc} (hd:P.underlying T=some d) (hk:KD s d) (em:Bool) (n:Nat) (k:Value):(Instr.checkKey em (n+1) T k).run P w= .ok () w:=by
 unfold Instr.checkKey
 simp only[Sem.run_bind,run_underlying hd,Result.andThen]
 cases s with
 |true=>obtain rfl:=hk;rfl
 |false=>obtain ⟨_,rfl⟩:=hk;rfl
theorem il {s:Bool} {a b:NV} {r:Bool} (e:fI s a b=some r) {x y:Value} (hx:VR ι a x) (hy:VR ι b y) {d:TypeDesc} (hd:KD s d):
 Instr.sameNow d x y=some r/\(r=true->y=x)/\Instr.sameBits 10000 x x=true:=by
 unfold fI at e
 split at e
 ·rename_i k a k' b
  obtain ⟨q,rfl⟩:=hd
  cases hx;cases hy
  cases hk:jG k k' with
  |false=>rw[hk] at e;cases e
  |true=>
   rw[hk] at e;cases e
   obtain rfl:=gF hk
   rw[bW]
   refine ⟨?_,fun hh=> ?_,by simp[Instr.sameBits]⟩
   ·simp only[Instr.sameNow,if_true]
   ·exact congrArg (Value.int k) (of_decide_eq_true hh).symm
 ·rename_i a b
  obtain rfl:=hd
  cases hx with
  |str _ s1 h1=>cases hy with
   |str _ s2 h2=>
    cases e
    rw[kZ]
    have hiff:(a=b)↔s1=s2:=by
     subst h1 h2
     constructor
     ·intro hh
      have:=List.map_inj_right (f:=UInt8.toNat) (fun x y hxy=>UInt8.toNat_inj.1 hxy) |>.1 hh
      cases s1;cases s2;simp at this;rw[this]
     ·rintro rfl;rfl
    refine ⟨?_,fun hh=> ?_,by simp only[Instr.sameBits];exact (MapKept.bytes_beq _ _).2 rfl⟩
    ·simp only[Instr.sameNow]
     congr 1
     rw[Bool.eq_iff_iff,MapKept.bytes_beq,beq_iff_eq]
     exact hiff.symm
    ·rw[hiff.1 (beq_iff_eq.1 hh)]
 ·cases e
theorem uw {s:Bool} {k:NV} {x:Value} (hx:VR ι k x) {d:TypeDesc} (hd:KD s d):∀(l:List (NV×NV)) (es:List MapEntry) (r:Option NV) (i:Nat),jt s k l=some r->MR ι l es->
 (r=none/\Instr.findNow d x es i=some none)∨∃v v' j,r=some v/\VR ι v v'/\Instr.findNow d x es i=some (some (j,v')):=by
 intro l
 induction l with
 |nil=>intro es r i e hm;cases es with|nil=>cases e;exact .inl ⟨rfl,rfl⟩|cons=>exact hm.elim
 |cons a l ih=>
  intro es r i e hm
  cases es with
  |nil=>exact hm.elim
  |cons b es=>
   obtain ⟨m1,m2,m3⟩:=hm
   have e':(Option.rec none (fun b=>cond b (some (some a.2)) (jt s k l)) (fI s k a.1):Option (Option NV))=some r:=e
   cases hq:fI s k a.1 with
   |none=>rw[hq] at e';cases e'
   |some q=>
    rw[hq] at e'
    obtain ⟨s1,s2,_⟩:=il hq hx m1 hd
    cases q with
    |true=>
     cases e'
     exact .inr ⟨_,_,i,rfl,m2,by rw[Instr.findNow,s1]⟩
    |false=>
     have e'':jt s k l=some r:=e'
     rcases ih es r (i+1) e'' m3 with ⟨r1,r2⟩|⟨v,v',j,r1,r2,r3⟩
     ·exact .inl ⟨r1,by rw[Instr.findNow,s1];exact r2⟩
     ·exact .inr ⟨v,v',j,r1,r2,by rw[Instr.findNow,s1];exact r3⟩
omit [Val] in
theorem kh {v:NV} {K:List (NV×NV)->NR} {r:NR} (e:jZ h v K=r) (hr:r≠.fail):(v= .nilm/\K []=r)∨∃id l,v= .map id/\h.get id=some (.map l)/\K l=r:=by
 unfold jZ at e
 split at e
 ·exact .inl ⟨rfl,e⟩
 ·split at e
  ·rename_i id _ l hl;exact .inr ⟨_,l,rfl,hl,e⟩
  ·exact absurd e.symm hr
 ·exact absurd e.symm hr
theorem qX {T kt et:Nat} (hT:P.underlying T=some (.map kt et)) {s:Bool} (hs:tq P kt=some s) {z:NV} (hz:pX P et=some z) (ok:Bool) {y q:NOpd} {x k:Value} (hx:OV ι t y x) (hk:OV ι t q k) (hR:Rel P ι B h w):
 bt P ι B h w (np s z ok y q t h) (aG ((Instr.lookup T x k ok).run P w)):=
 aV fun hr=>by
  obtain ⟨v,h1,h2⟩:=aE rfl hr
  unfold np at *
  rw[←h2];rw[←h2] at hr
  obtain ⟨u,h3,h4⟩:=aE rfl hr
  rw[←h4];rw[←h4] at hr
  obtain ⟨d,hd,hkd⟩:=oQ hs
  have hv:=hx v h1
  have hu:=hk u h3
  obtain ⟨zv,hzv,hzr⟩:∃zv,(∀w,(zeroValue et).run P w= .ok zv w)/\VR ι z zv:=by
   unfold pX at hz
   cases hi:P.info? et with
   |none=>rw[hi] at hz;cases hz
   |some i=>
    rw[hi] at hz
    cases hzz:i.zero with
    |none=>simp only[hzz] at hz;cases hz
    |some zv=>simp only[hzz] at hz;exact ⟨zv,fun w=>fm hi hzz,d8 hz⟩
  have fin:∀(l:List (NV×NV)) (es:Array MapEntry),MR ι l es.toList->∀r,jt s u l=some r->∃a,(Instr.findKey kt k es.toList).run P w= .ok a w/\
   match a with
   |none=>r=none
   |some (_,v')=>∃v,r=some v/\VR ι v v':=by
   intro l es hm r hf
   rcases uw hu hkd l es.toList r 0 hf hm with ⟨rfl,r2⟩|⟨v,v',j,rfl,r2,r3⟩
   ·exact ⟨_,MapKept.run_findKey (P:=P) (w:=w) hd r2,rfl⟩
   ·exact ⟨_,MapKept.run_findKey (P:=P) (w:=w) hd r3,v,rfl,r2⟩
  rcases kh rfl hr with ⟨rfl,h5⟩|⟨id,l,rfl,h6,h5⟩
  ·rw[←h5];rw[←h5] at hr
   obtain ⟨r,h7,h8⟩:=aF rfl hr
   rw[←h8]
   cases hv
   obtain ⟨a,ha,hb⟩:=fin [] #[] trivial r h7
   have hc:=gp (P:=P) (w:=w) hd hkd (#[]:Array MapEntry).isEmpty 9999 k
   have hrun:(Instr.lookup T (.map none) k ok).run P w= .ok (if ok then .tuple #[(a.map (·.2)).getD zv,.bool a.isSome] else (a.map (·.2)).getD zv) w:=by
    simp only[Instr.lookup,Sem.run_bind,run_underlying hT,Result.andThen_ok,Sem.run_pure,hc,ha]
    cases a<;>simp[hzv]
   rw[aG,hrun]
   cases a with
   |none=>
    obtain rfl:=hb
    cases ok with
    |true=>exact ⟨_,rfl,.tup _ [zv,.bool false] (.cons _ _ _ _ hzr (.cons _ _ _ _ (.bool _) .nil))⟩
    |false=>exact ⟨zv,rfl,hzr⟩
   |some a=>
    obtain ⟨v,rfl,hv⟩:=hb
    cases ok with
    |true=>exact ⟨_,rfl,.tup _ [a.2,.bool true] (.cons _ _ _ _ hv (.cons _ _ _ _ (.bool _) .nil))⟩
    |false=>exact ⟨a.2,rfl,hv⟩
  ·rw[←h5];rw[←h5] at hr
   obtain ⟨r,h7,h8⟩:=aF rfl hr
   rw[←h8]
   cases hv with
   |map _ p hp=>
    obtain ⟨es,clock,k1,k2⟩:=hR.mapAt hp h6
    have hg:=gW (P:=P) k1 (by simp)
    obtain ⟨a,ha,hb⟩:=fin l es k2 r h7
    have hc:=gp (P:=P) (w:=w) hd hkd es.isEmpty 9999 k
    have hrun:(Instr.lookup T (.map (some p.b)) k ok).run P w= .ok (if ok then .tuple #[(a.map (·.2)).getD zv,.bool a.isSome] else (a.map (·.2)).getD zv) w:=by
     simp only[Instr.lookup,Sem.run_bind,run_underlying hT,Result.andThen_ok,Sem.run_pure,hg,hc,ha]
     cases a<;>simp[hzv]
    rw[aG,hrun]
    cases a with
    |none=>
     obtain rfl:=hb
     cases ok with
     |true=>exact ⟨_,rfl,.tup _ [zv,.bool false] (.cons _ _ _ _ hzr (.cons _ _ _ _ (.bool _) .nil))⟩
     |false=>exact ⟨zv,rfl,hzr⟩
    |some a=>
     obtain ⟨v,rfl,hv⟩:=hb
     cases ok with
     |true=>exact ⟨_,rfl,.tup _ [a.2,.bool true] (.cons _ _ _ _ hv (.cons _ _ _ _ (.bool _) .nil))⟩
     |false=>exact ⟨a.2,rfl,hv⟩
theorem Rel.setMap (hR:Rel P ι B h w) {id:D4} {p:Pl} (hp:ι id=some p) {l:List (NV×NV)} (hl:h.get id=some (.map l)) {es:Array MapEntry} {clock:Nat} (hb:w.heap[p.b]? =some (.map es clock))
 {l':List (NV×NV)} {es':Array MapEntry} (clock':Nat) (hm:MR ι l' es'.toList):
 Rel P ι B (h.put id (.map l')) {w with heap:=w.heap.setIfInBounds p.b (.map es' clock')}/\Grow ι h w ι (h.put id (.map l')) {w with heap:=w.heap.setIfInBounds p.b (.map es' clock')}:=
 hR.turn hp (by rw[hl];simp) _ ⟨es',clock',(MapKept.heap_set hb).1,hm⟩ (by simp) rfl rfl rfl fun b hne=>(MapKept.heap_set hb).2 b hne
theorem wM {s:Bool} {k v:NV} {x y:Value} (hx:VR ι k x) (hy:VR ι v y) {d:TypeDesc} (hd:KD s d):∀(l:List (NV×NV)) (es:List MapEntry) (r:List (NV×NV)) (i:Nat),nz s k v l=some r->MR ι l es->
 (Instr.findNow d x es i=some none/\∀e:MapEntry,e.key=x->e.val=y->MR ι r (es++ [e]))∨
 ∃j e,Instr.findNow d x es i=some (some (i+j,e.val))/\es[j]? =some e/\e.key=x/\Instr.sameBits 10000 x x=true/\MR ι r (es.modify j fun e=>{e with key:=x,val:=y}):=by
 intro l
 induction l with
 |nil=>intro es r i e hm;cases es with|nil=>cases e;exact .inl ⟨rfl,fun e e1 e2=>⟨e1▸hx,e2▸hy,trivial⟩⟩|cons=>exact hm.elim
 |cons a l ih=>
  intro es r i e hm
  cases es with
  |nil=>exact hm.elim
  |cons b es=>
   obtain ⟨m1,m2,m3⟩:=hm
   have e':(Option.rec none (fun b=>cond b (some ((k,v)::l)) (Option.rec none (fun t=>some (a::t)) (nz s k v l))) (fI s k a.1):Option (List (NV×NV)))=some r:=e
   cases hq:fI s k a.1 with
   |none=>rw[hq] at e';cases e'
   |some q=>
    rw[hq] at e'
    obtain ⟨s1,s2,s3⟩:=il hq hx m1 hd
    cases q with
    |true=>
     cases e'
     refine .inr ⟨0,b,by rw[Instr.findNow,s1];rfl,rfl,s2 rfl,s3, ?_⟩
     exact ⟨hx,hy,m3⟩
    |false=>
     have e'':(Option.rec none (fun t=>some (a::t)) (nz s k v l):Option (List (NV×NV)))=some r:=e'
     cases hu:nz s k v l with
     |none=>rw[hu] at e'';cases e''
     |some r'=>
      rw[hu] at e'';cases e''
      rcases ih es r' (i+1) hu m3 with ⟨r1,r2⟩|⟨j,e,r1,r2,r3,r4,r5⟩
      ·exact .inl ⟨by rw[Instr.findNow,s1];exact r1,fun e e1 e2=>⟨m1,m2,r2 e e1 e2⟩⟩
      ·refine .inr ⟨j+1,e,by rw[Instr.findNow,s1];rw[show i+(j+1)=i+1+j by omega];exact r1,by simpa using r2,r3,r4, ?_⟩
       exact ⟨m1,m2,r5⟩
theorem gZ {T kt et:Nat} (hT:P.underlying T=some (.map kt et)) {s:Bool} (hs:tq P kt=some s) {y q z:NOpd} {x k u:Value} (hx:OV ι t y x) (hk:OV ι t q k) (hu:OV ι t z u) (hR:Rel P ι B h w):
 bt P ι B h w (iK s y q z t h) (vG ((Instr.mapUpdate T x k u).run P w)):=
 aV fun hr=>by
  obtain ⟨v,h1,h2⟩:=aE rfl hr
  unfold iK at *
  rw[←h2];rw[←h2] at hr
  obtain ⟨v2,h3,h4⟩:=aE rfl hr
  rw[←h4];rw[←h4] at hr
  obtain ⟨v3,h5,h6⟩:=aE rfl hr
  rw[←h6];rw[←h6] at hr
  obtain ⟨d,hd,hkd⟩:=oQ hs
  have hv:=hx v h1
  have hv2:=hk v2 h3
  have hv3:=hu v3 h5
  cases hv with
  |map id p hp=>
   dsimp only at hr ⊢
   rcases kh rfl hr with ⟨h7,_⟩|⟨id',l,h7,h8,h9⟩
   ·cases h7
   ·cases h7
    rw[←h9];rw[←h9] at hr
    obtain ⟨r,h10,h11⟩:=aF rfl hr
    rw[←h11,NH.set_eq]
    obtain ⟨es,clock,k1,k2⟩:=hR.mapAt hp h8
    have hg:=gW (P:=P) k1 (by simp)
    have hc:=gp (P:=P) (w:=w) hd hkd false 9999 k
    rcases wM hv2 hv3 hkd l es.toList r 0 h10 k2 with ⟨r1,r2⟩|⟨j,e,r1,r2,r3,r4,r5⟩
    ·have hf:=MapKept.run_findKey (P:=P) (w:=w) hd r1
     obtain ⟨m1,m2⟩:=hR.setMap hp h8 k1 (l':=r) (es':=es.push {key:=k,val:=u,born:=clock}) (clock+1) (by simpa using r2 _ rfl rfl)
     refine ⟨undef,_,ι,.inr ⟨?_,rfl⟩,dn,m1,m2⟩
     simp only[vG,Instr.mapUpdate,Sem.run_bind,run_underlying hT,Result.andThen_ok,hg,hc,hf,MapKept.run_setObj_map _ k1]
    ·rw[Nat.zero_add] at r1
     have hf:=MapKept.run_findKey (P:=P) (w:=w) hd r1
     have he:es[j]? =some e:=by simpa using r2
     have hst:(Instr.keyThatStays k k).run P w= .ok k w:=by simp[Instr.keyThatStays,r4]
     obtain ⟨m1,m2⟩:=hR.setMap hp h8 k1 (l':=r) (es':=es.modify j fun e=>{e with key:=k,val:=u}) clock (by simpa using r5)
     refine ⟨undef,_,ι,.inr ⟨?_,rfl⟩,dn,m1,m2⟩
     simp only[vG,Instr.mapUpdate,Sem.run_bind,run_underlying hT,Result.andThen_ok,hg,hc,hf,he,Option.map_some,Option.getD_some,r3,hst,MapKept.run_setObj_map _ k1]
  |_=>exact absurd rfl hr
omit [Val] in
theorem rV (es:Array MapEntry) (j:Nat):(es.eraseIdxIfInBounds j).toList=es.toList.eraseIdx j:=by
 unfold Array.eraseIdxIfInBounds
 split
 ·simp
 ·rw[List.eraseIdx_of_length_le];simp;omega
theorem u7 {s:Bool} {k:NV} {x:Value} (hx:VR ι k x) {d:TypeDesc} (hd:KD s d):∀(l:List (NV×NV)) (es:List MapEntry) (r:List (NV×NV)) (i:Nat),DX s k l=some r->MR ι l es->
 (Instr.findNow d x es i=some none/\MR ι r es)∨∃j v,Instr.findNow d x es i=some (some (i+j,v))/\MR ι r (es.eraseIdx j):=by
 intro l
 induction l with
 |nil=>intro es r i e hm;cases es with|nil=>cases e;exact .inl ⟨rfl,trivial⟩|cons=>exact hm.elim
 |cons a l ih=>
  intro es r i e hm
  cases es with
  |nil=>exact hm.elim
  |cons b es=>
   obtain ⟨m1,m2,m3⟩:=hm
   have e':(Option.rec none (fun b=>cond b (some l) (Option.rec none (fun t=>some (a::t)) (DX s k l))) (fI s k a.1):Option (List (NV×NV)))=some r:=e
   cases hq:fI s k a.1 with
   |none=>rw[hq] at e';cases e'
   |some q=>
    rw[hq] at e'
    obtain ⟨s1,s2,s3⟩:=il hq hx m1 hd
    cases q with
    |true=>
     cases e'
     exact .inr ⟨0,b.val,by rw[Instr.findNow,s1];rfl,m3⟩
    |false=>
     have e'':(Option.rec none (fun t=>some (a::t)) (DX s k l):Option (List (NV×NV)))=some r:=e'
     cases hu:DX s k l with
     |none=>rw[hu] at e'';cases e''
     |some r'=>
      rw[hu] at e'';cases e''
      rcases ih es r' (i+1) hu m3 with ⟨r1,r2⟩|⟨j,v,r1,r2⟩
      ·exact .inl ⟨by rw[Instr.findNow,s1];exact r1,m1,m2,r2⟩
      ·exact .inr ⟨j+1,v,by rw[Instr.findNow,s1];rw[show i+(j+1)=i+1+j by omega];exact r1,m1,m2,r2⟩
theorem rL {T kt et:Nat} (hT:P.underlying T=some (.map kt et)) {s:Bool} (hs:tq P kt=some s) {y q:NOpd} {x k:Value} (hx:OV ι t y x) (hk:OV ι t q k) (ts:List TypeId) (T':TypeId) (hR:Rel P ι B h w):
 bt P ι B h w (mX s y q t h) (aG ((Builtin.delete_ (T::ts).toArray T' #[x,k]).run P w)):=
 aV fun hr=>by
  obtain ⟨v,h1,h2⟩:=aE rfl hr
  unfold mX at *
  rw[←h2];rw[←h2] at hr
  obtain ⟨v2,h3,h4⟩:=aE rfl hr
  rw[←h4];rw[←h4] at hr
  obtain ⟨d,hd,hkd⟩:=oQ hs
  have hv:=hx v h1
  have hv2:=hk v2 h3
  have h0:(T::ts).toArray[0]? =some T:=by simp
  cases hv with
  |nilm=>
   have hc:=gp (P:=P) (w:=w) hd hkd true 9999 k
   exact ⟨undef,by simp[aG,Builtin.delete_,run_underlying hT,hc];rfl,dn⟩
  |map id p hp=>
   dsimp only at hr ⊢
   rcases kh rfl hr with ⟨h7,_⟩|⟨id',l,h7,h8,h9⟩
   ·cases h7
   ·cases h7
    rw[←h9];rw[←h9] at hr
    obtain ⟨r,h10,h11⟩:=aF rfl hr
    rw[←h11,NH.set_eq]
    obtain ⟨es,clock,k1,k2⟩:=hR.mapAt hp h8
    have hg:=gW (P:=P) k1 (by simp)
    have hc:=gp (P:=P) (w:=w) hd hkd es.isEmpty 9999 k
    rcases u7 hv2 hkd l es.toList r 0 h10 k2 with ⟨r1,r2⟩|⟨j,e,r1,r2⟩
    ·have hf:=MapKept.run_findKey (P:=P) (w:=w) hd r1
     obtain ⟨m1,m2⟩:=hR.setMap hp h8 k1 (l':=r) (es':=es) clock r2
     refine ⟨undef,_,ι,.inl ?_,dn,m1,m2⟩
     simp[aG,Builtin.delete_,run_underlying hT,hg,hc,hf,MapKept.run_setObj_map _ k1];rfl
    ·rw[Nat.zero_add] at r1
     have hf:=MapKept.run_findKey (P:=P) (w:=w) hd r1
     obtain ⟨m1,m2⟩:=hR.setMap hp h8 k1 (l':=r) (es':=es.eraseIdxIfInBounds j) clock (by rw[rV];exact r2)
     refine ⟨undef,_,ι,.inl ?_,dn,m1,m2⟩
     simp[aG,Builtin.delete_,run_underlying hT,hg,hc,hf,MapKept.run_setObj_map _ k1];rfl
  |_=>exact absurd rfl hr
end
end Nm
namespace Nm
open Go
variable [Val]
omit [Val] in
theorem NT.put_put {α:Type} (d:D4) (v u:α) (t:NT α):NT.put d u (NT.put d v t)=NT.put d u t:=by
 induction d generalizing t with
 |e=>cases t<;>rfl
 |a d ih=>cases t<;>simp only[NT.put_a,ih]
 |b d ih=>cases t<;>simp only[NT.put_b,ih]
 |c d ih=>cases t<;>simp only[NT.put_c,ih]
 |f d ih=>cases t<;>simp only[NT.put_f,ih]
omit [Val] in
theorem NH.put_put (h:NH) (id:D4) (a b:NO):(h.put id a).put id b=h.put id b:=by
 unfold NH.put;simp only[NT.put_put]
section
variable {P:Program} {ι:aW} {B:Nat} {h:NH} {w:World} {t:Tm}
theorem Rel.kill (hR:Rel P ι B h w) {id:D4} {p:Pl} (hp:ι id=some p) (hd:Live (h.get id)):Rel P ι B (h.put id .dead) w/\Grow ι h w ι (h.put id .dead) w:=
 hR.turn hp hd .dead trivial rfl rfl rfl rfl fun _ _=>rfl
theorem Rel.move (hR:Rel P ι B h w) {id:D4} {p:Pl} (hp:ι id=some p) {c:List NV} (hc:h.get id=some (.cells true c)) {off:Nat} (ho:off<=c.length):
 ∃ι',ι' h.next=some ⟨p.b,p.o+off,p.n⟩/\ι.le ι'/\Rel P ι' B ((h.put id .dead).add (.cells true (c.drop off))) w/\Grow ι h w ι' ((h.put id .dead).add (.cells true (c.drop off))) w:=by
 have hnd:Live (h.get id):=by rw[hc];simp
 obtain ⟨cur,T,fz,k1,k2,k3,k4,k5⟩:=hR.cellsAt hp hc
 obtain ⟨r1,g1⟩:=hR.kill hp hnd
 have hn:ι h.next=none:=by
  cases hi:ι h.next with
  |none=>rfl
  |some q=>obtain ⟨o,h1,_⟩:=hR.obj _ _ hi;exact absurd (hR.fresh _ _ h1) (Nat.lt_irrefl _)
 have hne:∀i q,ι i=some q->i≠h.next:=fun i q hi e=>by rw[e,hn] at hi;cases hi
 let q:Pl:=⟨p.b,p.o+off,p.n⟩
 let ι':aW:=fun i=>if i.toNat=h.next.toNat then some q else ι i
 have hold:∀i,i≠h.next->ι' i=ι i:=fun i hi=>if_neg fun e=>hi (D4.toNat_inj e)
 have hnew:ι' h.next=some q:=if_pos rfl
 have hle:ι.le ι':=fun i q hi=>by rw[hold i (hne i q hi)];exact hi
 have hcases:∀i u,ι' i=some u->(i=h.next/\u=q)∨(i≠h.next/\ι i=some u):=fun i u hi=>by
  by_cases e:i=h.next
  ·subst e;rw[hnew] at hi;exact .inl ⟨rfl,(Option.some.inj hi).symm⟩
  ·rw[hold i e] at hi;exact .inr ⟨e,hi⟩
 have hnx:(h.put id .dead).next=h.next:=rfl
 have hdead:∀i,(h.put id .dead).get i≠some .dead->i≠id:=fun i hi e=>hi (by rw[e];exact NH.get_put_same _ _ _)
 refine ⟨ι',hnew,hle,⟨?_, ?_, ?_, ?_, ?_⟩,⟨hle, ?_, ?_, ?_, ?_,Nat.le_refl _,rfl,rfl,rfl,fun _ _ _=>rfl⟩⟩
 ·intro i u hi
  rcases hcases i u hi with ⟨rfl,rfl⟩|⟨h1,hi⟩
  ·refine ⟨_,NH.get_add_same (h.put id .dead) _,cur,T,fz,k1,k2,k3, ?_, ?_⟩
   ·show p.o+off+(c.drop off).length<=p.n
    rw[List.length_drop];omega
   ·intro j v hj
    rw[List.getElem?_drop] at hj
    obtain ⟨v',a,b,d⟩:=k5 _ v hj
    exact ⟨v',by show cur[p.o+off+j]? =some v';rw[Nat.add_assoc];exact a,b.mono hle,d⟩
  ·obtain ⟨o,h2,h3⟩:=r1.obj i u hi
   exact ⟨o,by rw[NH.get_add_ne (h.put id .dead) _ h1];exact h2,h3.mono hle rfl⟩
 ·intro i j u1 u2 hi hj hij d1 d2
  rcases hcases i u1 hi with ⟨e1,e2⟩|⟨h1,hi'⟩
  ·rcases hcases j u2 hj with ⟨e3,e4⟩|⟨h2,hj'⟩
   ·exact absurd (e1.trans e3.symm) hij
   ·rw[NH.get_add_ne (h.put id .dead) _ h2] at d2
    have hji:=hdead j d2
    rw[NH.get_put_ne _ _ hji] at d2
    rw[e2]
    exact hR.inj id j p u2 hp hj' (Ne.symm hji) hnd d2
  ·rw[NH.get_add_ne (h.put id .dead) _ h1] at d1
   have hii:=hdead i d1.1
   rw[NH.get_put_ne _ _ hii] at d1
   rcases hcases j u2 hj with ⟨e3,e4⟩|⟨h2,hj'⟩
   ·rw[e4]
    exact (hR.inj id i p u1 hp hi' (Ne.symm hii) hnd d1.1).symm
   ·rw[NH.get_add_ne (h.put id .dead) _ h2] at d2
    have hji:=hdead j d2
    rw[NH.get_put_ne _ _ hji] at d2
    exact hR.inj i j u1 u2 hi' hj' hij d1 d2
 ·intro i u hi d
  rcases hcases i u hi with ⟨rfl,rfl⟩|⟨h1,hi⟩
  ·exact hR.base id p hp hnd
  ·rw[NH.get_add_ne (h.put id .dead) _ h1] at d;exact r1.base i u hi d
 ·intro i u hi
  rcases hcases i u hi with ⟨rfl,rfl⟩|⟨h1,hi⟩
  ·exact hR.lt id p hp
  ·exact hR.lt i u hi
 ·intro i u hu
  show i.toNat<h.next.nxt.toNat
  rw[D4.toNat_nxt]
  by_cases e:i=h.next
  ·subst e;omega
  ·rw[NH.get_add_ne (h.put id .dead) _ e] at hu;have:=r1.fresh i u hu;rw[hnx] at this;omega
 ·show h.next.toNat<=h.next.nxt.toNat
  rw[D4.toNat_nxt];omega
 ·intro i u hi
  rcases hcases i u hi with ⟨rfl,rfl⟩|⟨h1,hi⟩
  ·exact .inr (Nat.le_refl _)
  ·exact .inl hi
 ·intro i u hi d
  rcases hcases i u hi with ⟨rfl,rfl⟩|⟨h1,hi⟩
  ·exact .inr ⟨id,p,hp,hnd,rfl⟩
  ·rw[NH.get_add_ne (h.put id .dead) _ h1] at d;exact g1.blk i u hi d
 ·intro i hi hlt
  have h1:i≠h.next:=fun e=>by rw[e] at hlt;exact Nat.lt_irrefl _ hlt
  rw[NH.get_add_ne (h.put id .dead) _ h1]
  exact NH.get_put_ne _ _ fun e=>by rw[e,hp] at hi;cases hi
theorem jx {n:Nat} {v:NV} {K:Nat->List NV->NR} {r:NR} (e:fB n h v K=r) (hr:r≠.fail) {x:Value} (hx:VR ι v x) (hR:Rel P ι B h w):
 ∃(m:Nat) (new:List NV) (vs:List Value),K m new=r/\VRL ι new vs/\(∀u∈vs,u.oneCell'=true)/\vs.length=m*n/\
  ((x= .slice none 0 0/\m=0/\vs= [])∨∃a c,x= .slice (some a) m c/\∀j u,vs[j]? =some u->w.cell? (a.add j)=some u):=by
 unfold fB at e
 cases hx with
 |nils=>exact ⟨0, [], [],e,.nil,by simp,by simp,.inl ⟨rfl,rfl,rfl⟩⟩
 |slc id off len es kc p a cap hp hl hk hm he ha=>
  dsimp only at e
  obtain ⟨e1,e2⟩:=aJ e hr
  obtain rfl:=Nat.eq_of_beq_eq_true e1
  obtain ⟨wr,c,h3,h4⟩:=gP e2 hr
  obtain ⟨l,h5,h6⟩:=aF h4 hr
  rw[gl] at h5
  split at h5
  ·rename_i hle
   cases h5
   obtain ⟨cur,T',fz,k1,_,k3,k4,k5⟩:=hR.cellsAt hp h3
   obtain ⟨vs,m1,m2,m3,m4⟩:=iY (by omega) k5 off (len*es) hle
   refine ⟨len,_,vs,h6,m2,m3,m1,.inr ⟨a,cap,rfl, ?_⟩⟩
   intro j u hu
   have hjlt:j<vs.length:=(List.getElem?_eq_some_iff.1 hu).1
   have hpos:0<len:=by
    rcases Nat.eq_zero_or_pos len with rfl|h
    ·rw[m1,Nat.zero_mul] at hjlt;omega
    ·exact h
   obtain ⟨ha1,_⟩:=ha (by omega)
   subst ha1
   rw[Addr.add_mid,mH w p.b _ k1]
   exact m4 j u hu
  ·cases h5
 |_=>exact absurd e.symm hr
omit [Val] in
theorem kT {n b:Nat} (e:room n b=true):n*b<=1099511627776/\n<=1099511627776:=by
 unfold room at e
 cases h1:Nat.ble (Nat.mul n b) 1099511627776 with
 |false=>rw[h1] at e;cases e
 |true=>
  rw[h1] at e
  rw[bk] at h1
  have h2:Nat.ble n 1099511627776=true:=e
  rw[bk] at h2
  exact ⟨of_decide_eq_true h1,of_decide_eq_true h2⟩
theorem ju {T e ty tx:Nat} (hT:P.underlying T=some (.slice e)) {n bytes:Nat} (hn:bC P e=some n) (hb:gI P e=some bytes) {z:List NV} (hz:zeroOf P e=some z) (h0:1<=n)
 {s:NV} {x q:Value} (hs:VR ι s x) {m:Nat} {new:List NV} {vs:List Value} (hv:VRL ι new vs) (h1:∀u∈vs,u.oneCell'=true) (hlen:vs.length=m*n)
 (hsrcA:∀k,k=n->Src P k tx q m vs w) (hR:Rel P ι B h w) (hB:B<=w.heap.size):
 bt P ι B h w (eS n bytes h s m new) (aG ((Builtin.append_ #[T,tx] ty #[x,q]).run P w)):=
 aV fun hr=>by
  obtain ⟨i,zv,i1,i2,i3,i4,i5⟩:=ch (ι:=ι) hz
  obtain ⟨i',j1,j2⟩:=bD hn
  rw[i1] at j1;cases j1
  obtain ⟨i',j1,j3⟩:=j5 hb
  rw[i1] at j1;cases j1
  have hzl:zv.cells.size=n:=by have:=i4.length;simp at this;omega
  have hsrc:=hsrcA i.size j2
  have hlv:=hv.length
  unfold eS at *
  have grow:∀(old:List NV) (ovs:List Value) (base:Option Addr) (sLen sCap:Nat),VRL ι old ovs->(∀u∈ovs,u.oneCell'=true)->ovs.length=sLen*n->(Builtin.firstCells i.size sLen (.slice base sLen sCap)).run P w.drew= .ok ovs.toArray w.drew->
   sCap<sLen+m->(sLen+m)*bytes<=1099511627776->sLen+m<=1099511627776->∀(g:NH),Rel P ι B g w->∃v' w' ι',(Builtin.append_ #[T,tx] ty #[.slice base sLen sCap,q]).run P w= .ok v' w'/\VR ι' (.slc g.next 0 (sLen+m) n (sLen+m)) v'/\
    Rel P ι' B (g.add (.cells true (old++new))) w'/\Grow ι g w ι' (g.add (.cells true (old++new))) w':=by
   intro old ovs base sLen sCap ho ho1 hol hf hc hb1 hb2 g hRg
   have hfit:Builtin.nextslicecap (sLen+m) sCap*i.bytes<=281474976710656:=growslice_fits hc (by rw[j3];omega)
   have hrun:=run_append_grow_src (P:=P) w T tx ty e i zv hT i1 i2 base sLen sCap ovs hf q m vs hsrc hc (by omega) hfit
   have hge:=grownCap_ge w (sLen+m) sCap e
   have hcm:grownCap w (sLen+m) sCap e<=maxLen:=grownCap_le_maxLen w (sLen+m) sCap e (by simp only[maxLen];omega)
   have hal:=ho.app hv
   obtain ⟨ι',m1,m2,m3,m4⟩:=ew (hRg.drew) hB true (old++new) ((ovs++vs).toArray++Builtin.zeroCells zv.cells (grownCap w (sLen+m) sCap e - (sLen+m))) e
    (by rw[hal.length];simp) (by
     refine hal.atA (fun u hu=> ?_) fun j u hu=> ?_
     ·rcases List.mem_append.1 hu with hu|hu
      ·exact ho1 u hu
      ·exact h1 u hu
     ·rw[Array.getElem?_append_left (by rw[List.size_toArray];exact (List.getElem?_eq_some_iff.1 hu).1)]
      simpa using hu)
   refine ⟨_,_,ι',hrun, ?_,m3,⟨m4.le,m4.next,m4.new,m4.blk,m4.keep,m4.size,m4.os,m4.tape,m4.output,m4.frame⟩⟩
   refine VR.slc _ 0 (sLen+m) n _ _ _ _ m1 hge hge hcm h0 fun _=>⟨rfl, ?_⟩
   simp only[Array.size_append,List.size_toArray,List.length_append,size_zeroCells,hzl,hol,hlen,←Nat.add_mul]
   simp only[Nat.zero_add]
   exact Nat.mul_le_mul_right _ (by omega)
  cases hs with
  |nils=>
   cases m with
   |zero=>
    refine ⟨_, ?_,.nils⟩
    have hvs:vs= []:=List.eq_nil_of_length_eq_zero (by simpa using hlen)
    subst hvs
    rcases hsrc.kind with ⟨e',hk⟩|hk<;>simp[aG,Builtin.append_,run_underlying hT,run_underlying hk,Go.sizeOf,typeInfo,i1,hsrc.len,hsrc.cells]
   |succ m=>
    dsimp only at hr ⊢
    obtain ⟨c1,c2⟩:=aJ rfl hr
    rw[←c2,NH.new_eq]
    obtain ⟨b1,b2⟩:=kT c1
    obtain ⟨v',w',ι',q1,q2,q3,q4⟩:=grow [] [] none 0 0 .nil (by simp) (by simp) (by simp[Builtin.firstCells]) (by omega) (by rw[Nat.zero_add];exact b1) (by rw[Nat.zero_add];exact b2) h hR
    simp only[Nat.zero_add] at q2
    exact ⟨v',w',ι',.inl (by rw[aG,q1];rfl),q2,q3,q4⟩
  |slc id off len es kc p a cap hp hl hk hm he ha=>
   dsimp only at hr ⊢
   obtain ⟨e1,e2⟩:=aJ rfl hr
   rw[←e2];rw[←e2] at hr
   obtain rfl:=Nat.eq_of_beq_eq_true e1
   cases m with
   |zero=>
    refine ⟨_, ?_,.slc id off len es kc p a cap hp hl hk hm he ha⟩
    have hvs:vs= []:=List.eq_nil_of_length_eq_zero (by simpa using hlen)
    subst hvs
    rcases hsrc.kind with ⟨e',hk⟩|hk<;>simp[aG,Builtin.append_,run_underlying hT,run_underlying hk,Go.sizeOf,typeInfo,i1,hsrc.len,hsrc.cells,hl,storeCells]
   |succ m=>
    dsimp only at hr ⊢
    obtain ⟨c,h3,h4⟩:=ej rfl hr
    rw[←h4];rw[←h4] at hr
    rw[ae] at hr ⊢
    cases hkc:Nat.ble (Nat.add len (m+1)) kc with
    |true=>
     rw[hkc] at hr
     have hroom:len+(m+1)<=kc:=by rw[bk] at hkc;exact of_decide_eq_true hkc
     have hroom:len+(m+1)<=cap:=Nat.le_trans hroom hk
     simp only[cond_true] at hr ⊢
     obtain ⟨c',h5,h6⟩:=aF rfl hr
     rw[←h6,NH.set_eq]
     rw[fy] at h5
     split at h5
     ·rename_i hov
      cases h5
      have hov':off+len*es+new.length<=c.length:=hov
      obtain ⟨cur,T',fz,k1,k2,k3,k4,k5⟩:=hR.cellsAt hp h3
      have hfz:=k2 rfl
      subst hfz
      have hnd:Live (h.get id):=by rw[h3];simp
      obtain ⟨a1,a2⟩:=ha (by omega)
      subst a1
      have hfit:p.o+off+len*es+vs.length<=cur.size:=by
       rw[hlen,k3,Nat.add_assoc,←Nat.add_mul]
       exact Nat.le_trans (Nat.add_le_add_left (Nat.mul_le_mul_right _ hroom) _) a2
      have hst:=run_storeCells_at P p.b (p.o+off+len*es) T' vs 0 cur w k1 (by simpa using hfit) h1
      simp only[Nat.add_zero] at hst
      have hrun:(Builtin.append_ #[T,tx] ty #[.slice (some ⟨p.b,p.o+off,none⟩) len cap,q]).run P w=
       .ok (.slice (some ⟨p.b,p.o+off,none⟩) (len+(m+1)) cap) (w.setRow p.b (cur.toList.take (p.o+off+len*es)++vs++cur.toList.drop (p.o+off+len*es+vs.length)).toArray):=by
       have hcells:=hsrc.cells
       rw[j2] at hcells
       rw[List.append_assoc] at hst
       rcases hsrc.kind with ⟨e',hk⟩|hk<;>simp[Builtin.append_,run_underlying hT,run_underlying hk,Go.sizeOf,typeInfo,i1,j2,hsrc.len,hroom,hcells,Addr.add_mid,hst]
      obtain ⟨r1,g1⟩:=hR.turn hp hnd (.cells true (c.take (off+len*es)++new++c.drop (off+len*es+new.length))) (w':=w.setRow p.b (cur.toList.take (p.o+off+len*es)++vs++cur.toList.drop (p.o+off+len*es+vs.length)).toArray) (by
       refine ⟨_,T',(0,0),setRow_heap w p.b cur _ T' _ k1,fun _=>rfl, ?_, ?_, ?_⟩
       ·simp;omega
       ·simp;omega
       ·intro i v hi
        by_cases h2:i<off+len*es
        ·rw[List.append_assoc,List.getElem?_append_left (by simp;omega),List.getElem?_take,if_pos h2] at hi
         obtain ⟨v',a,b,c'⟩:=k5 i v hi
         refine ⟨v', ?_,b,c'⟩
         rw[←a,List.getElem?_toArray,List.append_assoc,List.getElem?_append_left (by simp;omega),List.getElem?_take,if_pos (by omega),Array.getElem?_toList]
        ·by_cases h2':i<off+len*es+new.length
         ·rw[List.getElem?_append_left (by simp;omega),List.getElem?_append_right (by simp;omega)] at hi
          obtain ⟨v',a,b⟩:=hv.get hi
          have hlt:=(List.getElem?_eq_some_iff.1 hi).1
          have hmin:min (off+len*es) c.length=off+len*es:=Nat.min_eq_left (by omega)
          simp only[List.length_take,hmin] at hlt a
          refine ⟨v', ?_,b,h1 _ (List.mem_of_getElem? a)⟩
          rw[←a,List.getElem?_toArray,List.getElem?_append_left (by simp;omega),List.getElem?_append_right (by simp;omega)]
          congr 1
          simp;omega
         ·have hmin:min (off+len*es) c.length=off+len*es:=Nat.min_eq_left (by omega)
          rw[List.getElem?_append_right (by simp;omega),List.getElem?_drop] at hi
          obtain ⟨v',a,b,c'⟩:=k5 _ v hi
          refine ⟨v', ?_,b,c'⟩
          rw[←a,List.getElem?_toArray,List.getElem?_append_right (by simp;omega),List.getElem?_drop,Array.getElem?_toList]
          congr 1
          simp only[List.length_append,List.length_take,hmin,Array.length_toList]
          have:min (p.o+off+len*es) cur.size=p.o+off+len*es:=Nat.min_eq_left (by omega)
          omega)
       (setRow_size _ _ _) rfl rfl rfl (fun b hb=>setRow_other w p.b b _ hb)
      exact ⟨_,_,ι,.inl (by rw[aG,hrun];rfl),.slc id off (len+(m+1)) es kc p _ cap hp hroom hk hm he (fun _=>⟨rfl,a2⟩),r1,g1⟩
     ·cases h5
    |false=>
    rw[hkc] at hr
    simp only[cond_false] at hr ⊢
    obtain ⟨c',h5,h6⟩:=aF rfl hr
    rw[←h6];rw[←h6] at hr
    obtain ⟨old,h7,h8⟩:=aF rfl hr
    rw[←h8];rw[←h8] at hr
    obtain ⟨c1,c2⟩:=aJ rfl hr
    rw[←c2,eM,NH.set_eq,NH.new_eq]
    rw[fg] at h5
    split at h5
    ·rename_i hoff
     cases h5
     rw[fW] at h7
     split at h7
     ·rename_i hlc
      cases h7
      rw[List.length_drop] at hlc
      have hlc':off+len*es<=c.length:=by have:Nat.mul len es=len*es:=rfl;omega
      obtain ⟨b1,b2⟩:=kT c1
      obtain ⟨cur,T',fz,k1,k2,k3,k4,k5⟩:=hR.cellsAt hp h3
      have hfz:=k2 rfl
      subst hfz
      obtain ⟨ovs,o1,o2,o3,o4⟩:=iY (by omega) k5 off (len*es) hlc'
      have hnd:Live (h.get id):=by rw[h3];simp
      by_cases hroom:len+(m+1)<=cap
      ·obtain ⟨a1,a2⟩:=ha (by omega)
       subst a1
       have hfit:p.o+off+len*es+vs.length<=cur.size:=by
        rw[hlen,k3,Nat.add_assoc,←Nat.add_mul]
        exact Nat.le_trans (Nat.add_le_add_left (Nat.mul_le_mul_right _ hroom) _) a2
       have hst:=run_storeCells_at P p.b (p.o+off+len*es) T' vs 0 cur w k1 (by simpa using hfit) h1
       simp only[Nat.add_zero] at hst
       have hrun:(Builtin.append_ #[T,tx] ty #[.slice (some ⟨p.b,p.o+off,none⟩) len cap,q]).run P w=
        .ok (.slice (some ⟨p.b,p.o+off,none⟩) (len+(m+1)) cap) (w.setRow p.b (cur.toList.take (p.o+off+len*es)++vs++cur.toList.drop (p.o+off+len*es+vs.length)).toArray):=by
        have hcells:=hsrc.cells
        rw[j2] at hcells
        rw[List.append_assoc] at hst
        rcases hsrc.kind with ⟨e',hk⟩|hk<;>simp[Builtin.append_,run_underlying hT,run_underlying hk,Go.sizeOf,typeInfo,i1,j2,hsrc.len,hroom,hcells,Addr.add_mid,hst]
       obtain ⟨r1,g1⟩:=hR.turn hp hnd (.cells true (c.take (off+len*es)++new)) (w':=w.setRow p.b (cur.toList.take (p.o+off+len*es)++vs++cur.toList.drop (p.o+off+len*es+vs.length)).toArray) (by
        refine ⟨_,T',(0,0),setRow_heap w p.b cur _ T' _ k1,fun _=>rfl, ?_, ?_, ?_⟩
        ·simp;omega
        ·simp;omega
        ·intro i v hi
         by_cases h2:i<off+len*es
         ·rw[List.getElem?_append_left (by simp;omega),List.getElem?_take,if_pos h2] at hi
          obtain ⟨v',a,b,c'⟩:=k5 i v hi
          refine ⟨v', ?_,b,c'⟩
          rw[←a,List.getElem?_toArray,List.append_assoc,List.getElem?_append_left (by simp;omega),List.getElem?_take,if_pos (by omega),Array.getElem?_toList]
         ·rw[List.getElem?_append_right (by simp;omega)] at hi
          obtain ⟨v',a,b⟩:=hv.get hi
          have hlt:=(List.getElem?_eq_some_iff.1 hi).1
          simp only[List.length_take,Nat.min_eq_left hlc'] at hlt a
          refine ⟨v', ?_,b,h1 _ (List.mem_of_getElem? a)⟩
          rw[←a,List.getElem?_toArray,List.getElem?_append_left (by simp;omega),List.getElem?_append_right (by simp;omega)]
          congr 1
          simp;omega)
        (setRow_size _ _ _) rfl rfl rfl (fun b hb=>setRow_other w p.b b _ hb)
       obtain ⟨ι',m1,m2,m3,m4⟩:=r1.move hp (NH.get_put_same _ _ _) (off:=off) (by simp;omega)
       rw[NH.put_put] at m3 m4
       have hcut:(c.take (off+len*es)++new).drop off=(c.drop off).take (len*es)++new:=by
        rw[List.drop_append_of_le_length (by simp;omega),List.drop_take]
        congr 2;omega
       rw[hcut] at m3 m4
       refine ⟨_,_,ι',.inl (by rw[aG,hrun];rfl), ?_,m3,g1.trans m4⟩
       exact VR.slc _ 0 (len+(m+1)) es _ ⟨p.b,p.o+off,p.n⟩ _ cap m1 hroom hroom hm he fun _=>⟨rfl,a2⟩
      ·have hfirst:(Builtin.firstCells i.size len (.slice (some a) len cap)).run P w.drew= .ok ovs.toArray w.drew:=by
        refine run_firstCells_some w.drew i.size len a len cap ovs (by rw[o1,j2]) ?_
        intro j u hu
        have hjlt:j<ovs.length:=(List.getElem?_eq_some_iff.1 hu).1
        have hpos:0<len:=by
         rcases Nat.eq_zero_or_pos len with rfl|h
         ·rw[o1,Nat.zero_mul] at hjlt;omega
         ·exact h
        obtain ⟨ha1,_⟩:=ha (by omega)
        subst ha1
        rw[Addr.add_mid]
        show w.cell? _=_
        rw[mH w p.b _ k1]
        exact o4 j u hu
       obtain ⟨r1,g1⟩:=hR.kill hp hnd
       obtain ⟨v',w',ι',q1,q2,q3,q4⟩:=grow _ ovs (some a) len cap o2 o3 o1 hfirst (by omega) b1 b2 (h.put id .dead) r1
       exact ⟨v',w',ι',.inl (by rw[aG,q1];rfl),q2,q3,g1.trans q4⟩
     ·cases h7
    ·cases h5
  |_=>exact absurd rfl hr
end
end Nm
namespace Nm
open Go
variable [Val]
section
variable {P:Program} {ι:aW} {B:Nat} {h:NH} {w:World} {t:Tm}
theorem qz {T tx e e' n bytes:Nat} (hT:P.underlying T=some (.slice e)) (hX:P.underlying tx=some (.slice e')) (hn:bC P e=some n) (hb:gI P e=some bytes) {z:List NV} (hz:zeroOf P e=some z) (h0:1<=n)
 (ty T':Nat) {y q:NOpd} {x u:Value} (hx:OV ι t y x) (hu:OV ι t q u) (hR:Rel P ι B h w) (hB:B<=w.heap.size):
 bt P ι B h w (oS n bytes T' y q t h) (aG ((Builtin.append_ #[T,tx] ty #[x,u]).run P w)):=
 aV fun hr=>by
  unfold oS at *
  obtain ⟨s,h1,h2⟩:=aE rfl hr
  rw[←h2];rw[←h2] at hr
  obtain ⟨v,h3,h4⟩:=aE rfl hr
  rw[←h4];rw[←h4] at hr
  obtain ⟨m,new,vs,k1,k2,k3,k4,k5⟩:=jx rfl hr (hu v h3) hR
  rw[←k1]
  refine ju hT hn hb hz h0 (hx s h1) k2 k3 k4 (fun k hk=> ?_) hR hB
  subst hk
  rcases k5 with ⟨rfl,rfl,rfl⟩|⟨a,c,rfl,k6⟩
  ·exact Src.ofNil w hX 0
  ·exact Src.ofSlice w hX a m c vs k4 k6 k3
omit [Val] in
theorem iS (b:List Nat) (K:List NV->NR):s9 b K=K (b.map fun x=> .int .u8 (.lit (.ofNat x))):=by
 induction b generalizing K with
 |nil=>rfl
 |cons a b ih=>exact ih _
theorem lH (s:ByteArray):VRL ι ((s.data.toList.map UInt8.toNat).map fun x=>NV.int .u8 (.lit (.ofNat x))) (byteCells s):=by
 unfold byteCells
 generalize s.data.toList=l
 induction l with
 |nil=>exact .nil
 |cons a l ih=>exact .cons _ _ _ _ (.int _ _) ih
theorem mw {T tx e:Nat} (hT:P.underlying T=some (.slice e)) (hX:P.underlying tx=some .string) (hn:bC P e=some 1) (hb:gI P e=some 1) {z:List NV} (hz:zeroOf P e=some z)
 (ty T':Nat) {y q:NOpd} {x u:Value} (hx:OV ι t y x) (hu:OV ι t q u) (hR:Rel P ι B h w) (hB:B<=w.heap.size):
 bt P ι B h w (iz T' y q t h) (aG ((Builtin.append_ #[T,tx] ty #[x,u]).run P w)):=
 aV fun hr=>by
  unfold iz at *
  obtain ⟨s,h1,h2⟩:=aE rfl hr
  rw[←h2];rw[←h2] at hr
  obtain ⟨v,h3,h4⟩:=aE rfl hr
  rw[←h4];rw[←h4] at hr
  have hv:=hu v h3
  cases hv with
  |str l s' hs=>
   subst hs
   dsimp only at hr ⊢
   rw[iS,bF]
   refine ju (vs:=byteCells s') hT hn hb hz (Nat.le_refl _) (hx s h1) (lH s') (fun u hu=> ?_) ?_ (fun k hk=> ?_) hR hB
   ·obtain ⟨_,_,rfl⟩:=List.mem_map.1 hu
    rfl
   ·rw[byteCells_length,List.length_map,bw,Nat.mul_one]
   ·subst hk
    rw[List.length_map,bw]
    exact Src.ofString w hX s'
  |_=>exact absurd rfl hr
theorem lm {S T e:Nat} (hS:P.underlying S=some .string) (hT:P.underlying T=some (.slice e)) (he:P.underlying e=some (.int .u8)) (T':Nat) {y:NOpd} {x:Value} (hx:OV ι t y x) (hR:Rel P ι B h w) (hB:B<=w.heap.size):
 bt P ι B h w (gV T' y t h) (aG ((convert S T x).run P w)):=
 aV fun hr=>by
  unfold gV at *
  obtain ⟨v,h1,h2⟩:=aE rfl hr
  rw[←h2];rw[←h2] at hr
  have hv:=hx v h1
  cases hv with
  |str l s hs=>
   subst hs
   dsimp only at hr ⊢
   rw[iS,bF] at hr ⊢
   obtain ⟨hlen,hr'⟩:=aJ rfl hr
   rw[←hr',NH.new_eq]
   rw[bk] at hlen
   have hlen:=of_decide_eq_true hlen
   rw[List.length_map,bw] at hlen ⊢
   have hge:=grownCap_ge w s.size 0 e
   have hcm:grownCap w s.size 0 e<=maxLen:=grownCap_le_maxLen w s.size 0 e (by simp only[maxLen];omega)
   have hrun:=run_bytes_of_string (P:=P) w S T e s hS hT he
   have hbs:(bytesRow s (grownCap w s.size 0 e)).size=grownCap w s.size 0 e:=by
    have:s.data.size=s.size:=rfl
    simp[bytesRow,this];omega
   have hcells:∀(i:Nat) (v:NV),((s.data.toList.map UInt8.toNat).map fun x=>NV.int .u8 (.lit (.ofNat x)))[i]? =some v->∃v':Value,(bytesRow s (grownCap w s.size 0 e))[0+i]? =some v'/\VR ι v v'/\v'.oneCell'=true:=by
    intro i v hi
    obtain ⟨v',a,b⟩:=(lH (ι:=ι) s).get hi
    refine ⟨v', ?_,b, ?_⟩
    ·have hlt:i<s.data.size:=by
      have:=(List.getElem?_eq_some_iff.1 hi).1
      simpa using this
     rw[Nat.zero_add,bytesRow_at s _ i hlt]
     rw[←a]
     unfold byteCells
     rw[List.getElem?_map,List.getElem?_eq_getElem (by simpa using hlt)]
     simp
    ·obtain ⟨_,_,rfl⟩:=List.mem_map.1 (List.mem_of_getElem? a)
     rfl
   obtain ⟨ι',m1,m2,m3,m4⟩:=hR.drew.alloc (show B<=w.drew.heap.size from hB) (.cells false ((s.data.toList.map UInt8.toNat).map fun x=>NV.int .u8 (.lit (.ofNat x)))) (.cells (bytesRow s (grownCap w s.size 0 e)) e ((bytesRow s (grownCap w s.size 0 e)).size,(bytesRow s (grownCap w s.size 0 e)).size+1))
    ⟨w.heap.size,0,(bytesRow s (grownCap w s.size 0 e)).size⟩ rfl fun ι' hle=>
     ⟨_,e,_,dY w.drew _,(fun hh=>by cases hh),rfl,(by show 0+_<=(bytesRow s (grownCap w s.size 0 e)).size;rw[hbs,List.length_map,List.length_map,bw,Nat.zero_add];exact hge),fun i v hi=>by
      obtain ⟨v',a,b,c⟩:=hcells i v hi
      exact ⟨v',a,b.mono hle,c⟩⟩
   refine ⟨_,_,ι',.inl (by rw[aG,hrun];rfl), ?_,m3,⟨m4.le,m4.next,m4.new,m4.blk,m4.keep,m4.size,m4.os,m4.tape,m4.output,m4.frame⟩⟩
   exact VR.slc _ 0 s.size 1 _ _ _ _ m1 hge hge hcm (Nat.le_refl _) fun _=>⟨rfl,by rw[hbs];simp⟩
  |_=>exact absurd rfl hr
theorem ph {l:List NV} {s:List Nat} (e:d6 l=some s) {vs:List Value} (hv:VRL ι l vs):∃bs:List UInt8,bs.map UInt8.toNat=s/\vs=bs.map fun b=> .int .u8 (b.toNat:Int):=by
 induction l generalizing s vs with
 |nil=>cases hv;cases e;exact ⟨[],rfl,rfl⟩
 |cons a l ih=>
  cases hv with
  |cons _ v' _ l' ha hl=>
   have e':Eh a (d6 l)=some s:=e
   clear e
   unfold Eh at e'
   split at e'
   ·rename_i x t ht
    cases ha
    cases hc:Nat.ble x 255 with
    |false=>rw[hc] at e';cases e'
    |true=>
     rw[hc] at e';cases e'
     rw[bk] at hc
     have hx:=of_decide_eq_true hc
     obtain ⟨bs,h1,h2⟩:=ih ht hl
     have hb:(UInt8.ofNat x).toNat=x:=by simp;omega
     exact ⟨UInt8.ofNat x::bs,by rw[List.map_cons,hb,h1],by rw[List.map_cons,hb,h2];rfl⟩
   ·cases e'
theorem lp {S T e:Nat} (hS:P.underlying S=some (.slice e)) (hT:P.underlying T=some .string) (he:P.underlying e=some (.int .u8)) {y:NOpd} {x:Value} (hx:OV ι t y x) (hR:Rel P ι B h w):
 bt P ι B h w (gJ y t h) (aG ((convert S T x).run P w)):=
 aV fun hr=>by
  unfold gJ at *
  obtain ⟨v,h1,h2⟩:=aE rfl hr
  rw[←h2];rw[←h2] at hr
  obtain ⟨m,new,vs,k1,k2,k3,k4,k5⟩:=jx rfl hr (hx v h1) hR
  rw[←k1];rw[←k1] at hr
  obtain ⟨s,h5,h6⟩:=aF rfl hr
  rw[←h6]
  obtain ⟨bs,b1,b2⟩:=ph h5 k2
  refine ⟨.string ⟨bs.toArray⟩, ?_,.str _ _ (by simpa using b1)⟩
  rcases k5 with ⟨rfl,rfl,rfl⟩|⟨a,c,rfl,k6⟩
  ·have:bs= []:=by simpa using b2.symm
   subst this
   simp[aG,convert,run_underlying hS,run_underlying hT,run_underlying he,Conv.bytesToString]
   rfl
  ·have hm:m=bs.length:=by rw[Nat.mul_one] at k4;rw[←k4,b2,List.length_map]
   subst hm
   rw[aG,run_convert_bytes_back w S T e a c bs hS he hT fun j hj=>k6 j _ (by rw[b2,List.getElem?_map,List.getElem?_eq_getElem hj];rfl)]
   rfl
omit [Val] in
theorem Bv {p:Pl} {cur:Array Value} {T:TypeId} {fz:Nat×Nat} (k1:w.heap[p.b]? =some (.cells cur T fz)):w.shape? p.b=some (T,cur.size):=by
 unfold World.shape?;rw[k1]
omit [Val] in
theorem sC {a:Addr} {n:Nat} {cur:Array Value} {T:TypeId} {fz:Nat×Nat} (k1:w.heap[a.block]? =some (.cells cur T fz)):
 (∃fz',(w.freeze a (n+1)).heap[a.block]? =some (.cells cur T fz'))/\(∀b,b≠a.block->(w.freeze a (n+1)).heap[b]? =w.heap[b]?)/\(w.freeze a (n+1)).heap.size=w.heap.size/\
  (w.freeze a (n+1)).os=w.os/\(w.freeze a (n+1)).tape=w.tape/\(w.freeze a (n+1)).output=w.output:=by
 have hlt:=(Array.getElem?_eq_some_iff.1 k1).1
 unfold World.freeze
 rw[if_neg (by omega)]
 obtain ⟨lo,hi⟩:=fz
 refine ⟨⟨(if lo==hi then (a.off,a.off+(n+1)) else (min lo a.off,max hi (a.off+(n+1)))), ?_⟩,fun b hb=> ?_,by simp,rfl,rfl,rfl⟩
 ·show (w.heap.modify a.block _)[a.block]? =_
  rw[Array.getElem?_modify,if_pos rfl,k1]
  rfl
 ·show (w.heap.modify a.block _)[b]? =_
  rw[Array.getElem?_modify,if_neg (Ne.symm hb)]
theorem pL {S e:Nat} (hS:P.underlying S=some (.slice e)) (he:P.underlying e=some (.int .u8)) {y:NOpd} {x:Value} (hx:OV ι t y x) (hR:Rel P ι B h w):
 bt P ι B h w (lG y t h) (aG ((convert S S x).run P w)):=
 aV fun hr=>by
  unfold lG at *
  obtain ⟨v,h1,h2⟩:=aE rfl hr
  rw[←h2];rw[←h2] at hr
  have hv:=hx v h1
  cases hv with
  |slc id off len es kc p a cap hp hl hk hm hes ha=>
   dsimp only at hr ⊢
   obtain ⟨c1,c2⟩:=aJ rfl hr
   rw[←c2];rw[←c2] at hr
   rw[bk] at c1
   have hpos:=of_decide_eq_true c1
   obtain ⟨c,h3,h4⟩:=ej rfl hr
   rw[←h4,NH.set_eq]
   obtain ⟨a1,a2⟩:=ha (by omega)
   subst a1
   obtain ⟨cur,T',fz,k1,k2,k3,k4,k5⟩:=hR.cellsAt hp h3
   obtain ⟨⟨fz',f1⟩,f2,f3,f4,f5,f6⟩:=sC (w:=w) (a:=⟨p.b,cur.size,none⟩) (n:=0) k1
   obtain ⟨r1,g1⟩:=hR.turn hp (by rw[h3];simp) (.cells false c) (w':=w.freeze ⟨p.b,cur.size,none⟩ 1) ⟨cur,T',fz',f1,(fun hh=>by cases hh),k3,k4,k5⟩ f3 f4 f5 f6 f2
   refine ⟨_,_,ι,.inl ?_,.slc id off len es kc p _ cap hp hl hk hm hes ha,r1,g1⟩
   simp[aG,convert,run_underlying hS,run_underlying he,markStringish,Bv k1,freeze,Sem.run]
  |_=>exact absurd rfl hr
theorem pn {T e n bytes:Nat} (hT:P.underlying T=some (.slice e)) (hn:bC P e=some n) (hb:gI P e=some bytes) {z:List NV} (hz:zeroOf P e=some z) (h0:1<=n) (T':Nat)
 {y q:NOpd} {x u:Value} (hx:OV ι t y x) (hu:OV ι t q u) (hR:Rel P ι B h w) (hB:B<=w.heap.size):bt P ι B h w (lD z n bytes T' y q t h) (aG ((Instr.makeSlice T x u).run P w)):=
 aV fun hr=>by
  unfold lD at *
  obtain ⟨k1,l,h1,h2⟩:=bZ rfl hr
  rw[←h2];rw[←h2] at hr
  obtain ⟨k2,c,h3,h4⟩:=bZ rfl hr
  rw[←h4];rw[←h4] at hr
  obtain ⟨c1,c2⟩:=aJ rfl hr
  rw[←c2];rw[←c2] at hr
  obtain ⟨c3,c4⟩:=aJ rfl hr
  rw[←c4,fJ,NH.new_eq]
  rw[bk] at c1
  have hlc:=of_decide_eq_true c1
  obtain ⟨b1,b2⟩:=kT c3
  obtain ⟨i,zv,i1,i2,i3,i4,i5⟩:=ch (ι:=ι) hz
  obtain ⟨i',j1,j2⟩:=bD hn
  rw[i1] at j1;cases j1
  obtain ⟨i',j1,j3⟩:=j5 hb
  rw[i1] at j1;cases j1
  have hzl:zv.cells.size=n:=by have:=i4.length;simp at this;omega
  have hvx:=hx _ h1
  have hvu:=hu _ h3
  cases hvx;cases hvu
  have hby:(i.bytes:Int)*(c:Int)<=281474976710656:=by
   have:((i.bytes*c:Nat):Int)<=281474976710656:=by rw[j3,Nat.mul_comm];omega
   rwa [Int.natCast_mul] at this
  have hrun:=run_make (P:=P) w T e i zv hT i1 i2 k1 k2 (Int.ofNat l) (Int.ofNat c) (by simp) (by simp;exact hlc) hby (by simp;omega)
  have hmade:(madeCells zv.cells (c*n)).toList=Nm.rep c zv.cells.toList:=by rw[←hzl];exact iU zv.cells c
  obtain ⟨q1,q2⟩:=iW i4 i5 c
  obtain ⟨ι',m1,m2,m3,m4⟩:=ew hR hB true (Nm.rep c z) (madeCells zv.cells (c*n)) e (by rw[q1.length,←hmade];simp) (q1.atA q2 fun j u hu=>by rw[←hmade] at hu;simpa using hu)
  refine ⟨_,_,ι',.inl (by rw[aG,hrun];rfl), ?_,by rw[j2];exact m3,by rw[j2];exact m4⟩
  exact VR.slc _ 0 l n _ _ _ c m1 hlc (Nat.le_refl _) (by simp only[maxLen];omega) h0 fun _=>⟨rfl,by simp[size_madeCells]⟩
omit [Val] in
theorem lV {id:D4} {off:Nat} {cs:List NV} {K:NH->NR} {r:NR} (e:storeAt h id off cs K=r) (hr:r≠.fail):
 ∃c,h.get id=some (.cells true c)/\off+cs.length<=c.length/\K (h.put id (.cells true (c.take off++cs++c.drop (off+cs.length))))=r:=by
 unfold storeAt at e
 obtain ⟨c,h1,h2⟩:=ej e hr
 obtain ⟨c',h3,h4⟩:=aF h2 hr
 rw[fy] at h3
 split at h3
 ·rename_i hle
  cases h3
  rw[NH.set_eq] at h4
  exact ⟨c,h1,hle,h4⟩
 ·cases h3
theorem u6 {T tx e e' n:Nat} (hT:P.underlying T=some (.slice e)) (_hX:P.underlying tx=some (.slice e')) (hn:bC P e=some n) (ty:Nat) {y q:NOpd} {x u:Value} (hx:OV ι t y x) (hu:OV ι t q u) (hR:Rel P ι B h w):
 bt P ι B h w (vg n y q t h) (aG ((Builtin.copy_ #[T,tx] ty #[x,u]).run P w)):=
 aV fun hr=>by
  unfold vg at *
  obtain ⟨d,h1,h2⟩:=aE rfl hr
  rw[←h2];rw[←h2] at hr
  obtain ⟨s,h3,h4⟩:=aE rfl hr
  rw[←h4];rw[←h4] at hr
  obtain ⟨m,new,vs,k1,k2,k3,k4,k5⟩:=jx rfl hr (hu s h3) hR
  rw[←k1];rw[←k1] at hr
  obtain ⟨i,i1,i2⟩:=bD hn
  have hlo:∀w',(Builtin.lenOf u).run P w'= .ok m w':=fun w'=>by
   rcases k5 with ⟨rfl,rfl,_⟩|⟨a,c,rfl,_⟩<;>rfl
  have hfc:∀k,k<=m->(Builtin.firstCells i.size k u).run P w= .ok (vs.take (k*n)).toArray w:=fun k hk=>by
   rcases k5 with ⟨rfl,rfl,rfl⟩|⟨a,c,rfl,k6⟩
   ·simp[Builtin.firstCells]
   ·refine run_firstCells_some w i.size k a m c _ ?_ fun j v hj=> ?_
    ·rw[List.length_take,k4,i2,Nat.min_eq_left (Nat.mul_le_mul_right _ hk)]
    ·rw[List.getElem?_take] at hj
     split at hj
     ·exact k6 j v hj
     ·cases hj
  have hvd:=hx d h1
  cases hvd with
  |nils=>
   refine ⟨_, ?_,.int _ _⟩
   have:=hfc 0 (Nat.zero_le _)
   simp[aG,Builtin.copy_,run_underlying hT,hlo,Go.sizeOf,typeInfo,i1,this,goInt]
  |slc id off len es kc p a cap hp hl hk hm hes ha=>
   dsimp only at hr ⊢
   obtain ⟨c1,c2⟩:=aJ rfl hr
   rw[←c2];rw[←c2] at hr
   obtain rfl:=Nat.eq_of_beq_eq_true c1
   have hmin:(Bool.rec len m (Nat.ble m len):Nat)=Nat.min m len:=by
    rw[bk]
    by_cases hml:m<=len
    ·rw[decide_eq_true hml];show m=Nat.min m len;exact (Nat.min_eq_left hml).symm
    ·rw[decide_eq_false hml];show len=Nat.min m len;exact (Nat.min_eq_right (by omega)).symm
   rw[hmin] at hr ⊢
   cases hk:Nat.min m len with
   |zero=>
    refine ⟨_, ?_,.int _ _⟩
    have:=hfc 0 (Nat.zero_le _)
    simp only[Nat.zero_mul,List.take_zero] at this
    simp[aG,Builtin.copy_,run_underlying hT,hlo,Go.sizeOf,typeInfo,i1,hk,this,goInt,storeCells]
   |succ k=>
    rw[hk] at hr
    dsimp only at hr ⊢
    have hkm:k+1<=m:=by rw[←hk];exact Nat.min_le_left _ _
    have hkl:k+1<=len:=by rw[←hk];exact Nat.min_le_right _ _
    obtain ⟨l,h5,h6⟩:=aF rfl hr
    rw[←h6];rw[←h6] at hr
    obtain ⟨c,h7,h8,h9⟩:=lV rfl hr
    rw[←h9]
    obtain ⟨a1,a2⟩:=ha (by omega)
    subst a1
    rw[fW] at h5
    split at h5
    ·cases h5
     have hv:VRL ι (new.take (Nat.mul (k+1) es)) (vs.take ((k+1)*es)):=k2.take _
     obtain ⟨w',s1,s2,s3⟩:=iy hR hp h7 hv (fun u hu=>k3 u (List.mem_of_mem_take hu)) h8
     refine ⟨_,w',ι,.inl ?_,.int _ _,s2,s3⟩
     have:=hfc (k+1) hkm
     simp[aG,Builtin.copy_,run_underlying hT,hlo,Go.sizeOf,typeInfo,i1,hk,this,goInt,s1]
    ·cases h5
  |_=>exact absurd rfl hr
theorem nj {T e:Nat} (hT:P.underlying T=some (.slice e)) {z:List NV} (hz:zeroOf P e=some z) (ts:List TypeId) (ty:Nat) {y:NOpd} {x:Value} (hx:OV ι t y x) (hR:Rel P ι B h w):
 bt P ι B h w (jJ z y t h) (aG ((Builtin.clear_ (T::ts).toArray ty #[x]).run P w)):=
 aV fun hr=>by
  unfold jJ at *
  obtain ⟨v,h1,h2⟩:=aE rfl hr
  rw[←h2];rw[←h2] at hr
  obtain ⟨i,zv,i1,i2,i3,i4,i5⟩:=ch (ι:=ι) hz
  have hv:=hx v h1
  cases hv with
  |nils=>exact ⟨undef,by simp[aG,Builtin.clear_,run_underlying hT];rfl,dn⟩
  |slc id off len es kc p a cap hp hl hk hm hes ha=>
   cases len with
   |zero=>exact ⟨undef,by simp[aG,Builtin.clear_,run_underlying hT];rfl,dn⟩
   |succ len=>
    dsimp only at hr ⊢
    rw[fJ] at hr ⊢
    obtain ⟨c,h7,h8,h9⟩:=lV rfl hr
    rw[←h9]
    obtain ⟨a1,a2⟩:=ha (by omega)
    subst a1
    obtain ⟨q1,q2⟩:=iW i4 i5 (len+1)
    obtain ⟨w',s1,s2,s3⟩:=iy hR hp h7 q1 q2 h8
    have hzc:(Builtin.zeroCells zv.cells (len+1)).toList=Nm.rep (len+1) zv.cells.toList:=iU zv.cells (len+1)
    refine ⟨_,w',ι,.inl ?_,dn,s2,s3⟩
    simp[aG,Builtin.clear_,run_underlying hT,fm i1 i2,hzc,s1]
    rfl
  |_=>exact absurd rfl hr
theorem Dl {l:List NOpd} {K:List NV->NR} {r:NR} (e:xo t l .fail K=r) (hr:r≠.fail):∃vs,(∀xs:List Value,Ih ι t l xs->VRL ι vs xs)/\K vs=r:=by
 obtain ⟨vs,h1,h2⟩:=rx (ι:=ι) e hr
 exact ⟨vs,fun xs hx=>h1 xs hx.1 hx.2,h2⟩
theorem vB {f:NOpd} {l:List NOpd} {x:Value} {xs:List Value} (hf:OV ι t f x) (hx:Ih ι t l xs):
 bt P ι B h w (uW f l t h) ((do let d ←Deferred.ofValue x xs.toArray;invoke d.target d.args:Sem Next).run P w):=
 aV fun hr=>by
  unfold uW at *
  obtain ⟨v,h1,h2⟩:=aE rfl hr
  rw[←h2];rw[←h2] at hr
  obtain ⟨vs,h3,h4⟩:=Dl (ι:=ι) rfl hr
  rw[←h4];rw[←h4] at hr
  have hvs:=h3 xs hx
  have hv:=hf v h1
  cases hv with
  |fn f cap cap' hc=>
   dsimp only
   rw[eM]
   exact ⟨xs++cap',hvs.app hc,by simp[Deferred.ofValue,invoke]⟩
  |yld l p hp=>exact ⟨xs,p,hp,hvs,by simp[Deferred.ofValue,invoke]⟩
  |_=>exact absurd rfl hr
theorem sU {f:NOpd} {x:Value} (hf:OV ι t f x):bt P ι B h w (qG f t h) ((do pure (Next.defer (←Deferred.ofValue x #[])):Sem Next).run P w):=
 aV fun hr=>by
  unfold qG at *
  obtain ⟨v,h1,h2⟩:=aE rfl hr
  rw[←h2];rw[←h2] at hr
  have hv:=hf v h1
  cases hv with
  |fn f cap cap' hc=>exact ⟨cap',hc,by simp[Deferred.ofValue]⟩
  |_=>exact absurd rfl hr
theorem tD {y:NOpd} {x:Value} (hx:OV ι t y x):bt P ι B h w (rA y t h) (aG ((Instr.panic x).run P w)):=
 aV fun hr=>by
  unfold rA at *
  obtain ⟨v,h1,h2⟩:=aE rfl hr
  rw[←h2];rw[←h2] at hr
  have hv:=hx v h1
  cases hv with
  |ifc T v v' hv=>exact ⟨_,.ifc _ _ _ hv,rfl⟩
  |_=>exact absurd rfl hr
end
end Nm
namespace Nm
open Go
variable [Val]
omit [Val] in
theorem bM {P:Program} {w:World} (s:Sem Value):(do pure (Next.value (←s)):Sem Next).run P w=aG (s.run P w):=by
 simp only[aG,Sem.run_bind,Sem.run_pure]
omit [Val] in
theorem Bq {P:Program} {w:World} (s:Sem Unit):(do s;pure Next.skip:Sem Next).run P w=vG (s.run P w):=by
 simp only[vG,Sem.run_bind,Sem.run_pure]
section
variable {P:Program} {ι:aW} {B:Nat} {h:NH} {w:World} {t:Tm} {e:Operand->Value}
def OE (ι:aW) (t:Tm) (e:Operand->Value):Prop:=∀x y,az x=some y->OV ι t y (e x)
theorem jV (hO:OE ι t e):∀{l:List Operand} {l':List NOpd},eE l=some l'->Ih ι t l' (l.map e):=by
 intro l
 induction l with
 |nil=>intro l' hc;cases hc;exact ⟨rfl,by simp⟩
 |cons x l ih=>
  intro l' hc
  have hc':(match az x,eE l with|some x,some l=>some (x::l)|_,_=>none)=some l':=hc
  split at hc'
  ·rename_i y m h1 h2
   cases hc'
   obtain ⟨a,b⟩:=ih h2
   refine ⟨by simp[a],fun i y' x' hi hx=> ?_⟩
   cases i with
   |zero=>simp at hi hx;subst hi hx;exact hO _ _ h1
   |succ i=>exact b i y' x' (by simpa using hi) (by simpa using hx)
  ·cases hc'
theorem fK (hO:OE ι t e) {place:Nat->Option (Nat×Nat)}:∀{l:List (Nat×Operand)} {ps:List (Nat×Nat×NOpd)},dW place l=some ps->nR ι t place ps (l.map fun p=>(p.1,e p.2)):=by
 intro l
 induction l with
 |nil=>intro ps hc;cases hc;exact trivial
 |cons x l ih=>
  intro ps hc
  have hc':(match place x.1,az x.2,dW place l with
   |some p,some x,some l=>aw p.1 fun o=>aw p.2 fun n=>some ((o,n,x)::l)
   |_,_,_=>none)=some ps:=hc
  split at hc'
  ·rename_i p y m h1 h2 h3
   simp only[ae] at hc'
   cases hc'
   exact ⟨h1,hO _ _ h2,ih h3⟩
  ·cases hc'
omit [Val] in
theorem lc {k:IntKind} {K:IntKind->Option NOp} {n:NOp} (hc:yu k K=some n):K k=some n:=by rw[sO] at hc;exact hc
omit [Val] in
theorem me {s f:Nat} {fd:Field} (hc:mL P s f=some fd):∃fs,P.underlying s=some (.struct fs)/\fs[f]? =some fd:=by
 unfold mL at hc
 split at hc
 ·rename_i fs hs;exact ⟨fs,hs,hc⟩
 ·cases hc
theorem jh (hO:OE ι t e) {x:Option Operand} {y:Option NOpd} (hc:mO x=some y):BV ι t y (x.map e):=by
 cases x with
 |none=>cases hc;trivial
 |some x=>
  have hc':(match az x with|some x=>some (some x)|none=>none)=some y:=hc
  split at hc'
  ·rename_i z hz;cases hc';exact hO _ _ hz
  ·cases hc'
omit [Val] in
theorem af {α:Type} {b:Bool} {x:Option α} {r:α} (hc:cond b x none=some r):b=true/\x=some r:=by
 cases b with
 |true=>exact ⟨rfl,hc⟩
 |false=>cases hc
theorem wJ {src dst:Nat} {x:Operand} {y:NOpd} {n:NOp} (hc:gk P src dst y=some n) (hx:OV ι t y (e x)) (hR:Rel P ι B h w) (hB:B<=w.heap.size):
 bt P ι B h w (ag n t h) (aG ((convert src dst (e x)).run P w)):=by
 unfold gk at hc
 split at hc
 ·rename_i k hs hd
  have hc:=lc hc;cases hc
  exact ue hs hd hx
 ·rename_i hs hd
  cases hc
  exact sS hs hd hx
 ·rename_i e' hs hd
  split at hc
  ·rename_i he
   rw[ae] at hc;cases hc
   exact lm hs hd he e' hx hR hB
  ·cases hc
 ·rename_i e' hs hd
  split at hc
  ·rename_i he
   cases hc
   exact lp hs hd he hx hR
  ·cases hc
 ·rename_i e' e'' hs hd
  split at hc
  ·rename_i he
   obtain ⟨c1,c2⟩:=af hc
   cases c2
   obtain rfl:=Nat.eq_of_beq_eq_true c1
   exact pL hd he hx hR
  ·cases hc
 ·cases hc
theorem pu {b:Builtin} {args:Array Operand} {ts:Array TypeId} {l:List NOpd} (hl:eE args.toList=some l) {n:NOp} (hc:cV P b l ts.toList=some n) (hO:OE ι t e) (hR:Rel P ι B h w) (hB:B<=w.heap.size) (ty:Nat) (cs:Array Bool):
 bt P ι B h w (ag n t h) ((builtin b ts ty cs (args.map e)).run P w):=by
 have hx0:=jV hO hl
 have ea:args.map e=(args.toList.map e).toArray:=by apply Array.ext';simp
 have et:ts=ts.toList.toArray:=Array.toArray_toList.symm
 unfold cV at hc
 rw[ea,et]
 generalize args.toList.map e=xs at *
 generalize ts.toList=us at *
 have one:∀{y:NOpd} {xs:List Value},Ih ι t [y] xs->∃x,xs= [x]/\OV ι t y x:=fun {y xs} hx=>by
  obtain ⟨h1,h2⟩:=hx
  match xs,h1 with| [x],_=>exact ⟨x,rfl,h2 0 y x rfl rfl⟩
 have two:∀{y z:NOpd} {xs:List Value},Ih ι t [y,z] xs->∃x u,xs= [x,u]/\OV ι t y x/\OV ι t z u:=fun {y z xs} hx=>by
  obtain ⟨h1,h2⟩:=hx
  match xs,h1 with| [x,u],_=>exact ⟨x,u,rfl,h2 0 y x rfl rfl,h2 1 z u rfl rfl⟩
 split at hc
 ·obtain ⟨x,rfl,hx⟩:=one hx0
  show bt P ι B h w (ag n t h) ((do pure (Next.value (←Builtin.len_ _ ty #[x])):Sem Next).run P w)
  rw[bM]
  split at hc
  ·rename_i hT;cases hc;exact qt hT hx
  ·rename_i hT;cases hc;exact rm hT hx
  ·rename_i hT;cases hc;exact rz hT hx hR
  ·rename_i hT;rw[ae] at hc;cases hc;exact kI (t:=t) (.inl ⟨_,hT⟩) rfl
  ·rename_i hT
   split at hc
   ·rename_i hA;rw[ae] at hc;cases hc;exact kI (t:=t) (.inr ⟨_,_,hT,hA⟩) rfl
   ·cases hc
  ·cases hc
 ·cases hc
  show bt P ι B h w _ ((do pure (Next.value (←Builtin.min_ _ ty _)):Sem Next).run P w)
  rw[bM]
  exact kp (mx:=false) hx0 us.toArray ty
 ·cases hc
  show bt P ι B h w _ ((do pure (Next.value (←Builtin.max_ _ ty _)):Sem Next).run P w)
  rw[bM]
  exact kp (mx:=true) hx0 us.toArray ty
 ·obtain ⟨x,u,rfl,hx,hu⟩:=two hx0
  show bt P ι B h w (ag n t h) ((do pure (Next.value (←Builtin.append_ _ ty #[x,u])):Sem Next).run P w)
  rw[bM]
  split at hc
  ·rename_i hT hX
   split at hc
   ·rename_i hn hb hz
    obtain ⟨c1,c2⟩:=af hc
    rw[ae] at c2;cases c2
    rw[bk] at c1
    exact qz hT hX hn hb hz (of_decide_eq_true c1) ty 0 hx hu hR hB
   ·cases hc
  ·rename_i hT hX
   split at hc
   ·rename_i hn hb hz
    obtain ⟨c1,c2⟩:=af hc
    rw[ae] at c2;cases c2
    rw[Bool.and_eq_true] at c1
    have q1:=Nat.eq_of_beq_eq_true c1.1
    have q2:=Nat.eq_of_beq_eq_true c1.2
    subst q1 q2
    exact mw hT hX hn hb hz ty 0 hx hu hR hB
   ·cases hc
  ·cases hc
 ·obtain ⟨x,u,rfl,hx,hu⟩:=two hx0
  show bt P ι B h w (ag n t h) ((do pure (Next.value (←Builtin.copy_ _ ty #[x,u])):Sem Next).run P w)
  rw[bM]
  split at hc
  ·rename_i hT hX
   split at hc
   ·rename_i hn
    cases hc
    exact u6 hT hX hn ty hx hu hR
   ·cases hc
  ·cases hc
 ·obtain ⟨x,u,rfl,hx,hu⟩:=two hx0
  show bt P ι B h w (ag n t h) ((do pure (Next.value (←Builtin.delete_ _ ty #[x,u])):Sem Next).run P w)
  rw[bM]
  split at hc
  ·rename_i hT
   split at hc
   ·rename_i hs
    cases hc
    exact rL hT hs hx hu _ ty hR
   ·cases hc
  ·cases hc
 ·obtain ⟨x,rfl,hx⟩:=one hx0
  show bt P ι B h w (ag n t h) ((do pure (Next.value (←Builtin.clear_ _ ty #[x])):Sem Next).run P w)
  rw[bM]
  split at hc
  ·rename_i hT
   split at hc
   ·rename_i hz
    cases hc
    exact nj hT hz [] ty hx hR
   ·cases hc
  ·cases hc
 ·cases hc
  rfl
 ·cases hc
omit [Val] in
theorem vS {d:TypeDesc} {c:BC} (hc:wZ d=some c):c.of d/\c≠.ifc:=by
 unfold wZ at hc
 split at hc<;>first|(cases hc;constructor<;>simp[BC.of])|cases hc
theorem EZ {dst:Option Tmp} {type:TypeId} {pos:String} {after:Array Edge} {guard:Option (Nat×Bool)} {x:Operand} {n:NOp} (hc:ap P (.move x)=some n) (hO:OE ι t e) (_hR:Rel P ι B h w) (_hB:B<=w.heap.size):
 bt P ι B h w (ag n t h) ((execOp e ⟨dst,.move x,type,pos,after,guard⟩).run P w):=by
 replace hc:ga x=some n:=hc
 unfold ga at hc
 split at hc
 ·rename_i y hy;cases hc;exact oX (hO _ _ hy)
 ·cases hc
theorem zZ {dst:Option Tmp} {type:TypeId} {pos:String} {after:Array Edge} {guard:Option (Nat×Bool)} {x:Operand} {n:NOp} (hc:ap P (.assign x)=some n) (hO:OE ι t e) (_hR:Rel P ι B h w) (_hB:B<=w.heap.size):
 bt P ι B h w (ag n t h) ((execOp e ⟨dst,.assign x,type,pos,after,guard⟩).run P w):=by
 replace hc:ga x=some n:=hc
 unfold ga at hc
 split at hc
 ·rename_i y hy;cases hc;exact oX (hO _ _ hy)
 ·cases hc
theorem Ec {dst:Option Tmp} {type:TypeId} {pos:String} {after:Array Edge} {guard:Option (Nat×Bool)} {c:Operand} {a:Operand} {b:Operand} {n:NOp} (hc:ap P (.pick c a b)=some n) (hO:OE ι t e) (_hR:Rel P ι B h w) (_hB:B<=w.heap.size):
 bt P ι B h w (ag n t h) ((execOp e ⟨dst,.pick c a b,type,pos,after,guard⟩).run P w):=by
 replace hc:oD c a b=some n:=hc
 unfold oD at hc
 split at hc
 ·rename_i h1 h2 h3;cases hc;exact uT (hO _ _ h1) (hO _ _ h2) (hO _ _ h3)
 ·cases hc
theorem Db {dst:Option Tmp} {type:TypeId} {pos:String} {after:Array Edge} {guard:Option (Nat×Bool)} {T:TypeId} {n:NOp} (hc:ap P (.alloc T)=some n) (_hO:OE ι t e) (hR:Rel P ι B h w) (hB:B<=w.heap.size):
 bt P ι B h w (ag n t h) ((execOp e ⟨dst,.alloc T,type,pos,after,guard⟩).run P w):=by
 replace hc:jP P T=some n:=hc
 unfold jP at hc
 split at hc
 ·rename_i z hz;rw[ae] at hc;cases hc
  show bt P ι B h w _ ((do pure (Next.value (←Instr.alloc T true (.tuple #[]))):Sem Next).run P w)
  rw[bM];exact tc (t:=t) hz hR hB T
 ·cases hc
theorem H4 {dst:Option Tmp} {type:TypeId} {pos:String} {after:Array Edge} {guard:Option (Nat×Bool)} {T:TypeId} {x:Operand} {n:NOp} (hc:ap P (.box T x)=some n) (hO:OE ι t e) (hR:Rel P ι B h w) (hB:B<=w.heap.size):
 bt P ι B h w (ag n t h) ((execOp e ⟨dst,.box T x,type,pos,after,guard⟩).run P w):=by
 replace hc:wL T x=some n:=hc
 unfold wL at hc
 split at hc
 ·rename_i y hy;rw[ae] at hc;cases hc
  show bt P ι B h w _ ((do pure (Next.value (←Instr.box T (e x))):Sem Next).run P w)
  rw[bM];exact AN (hO _ _ hy) hR hB T T
 ·cases hc
theorem Co {dst:Option Tmp} {type:TypeId} {pos:String} {after:Array Edge} {guard:Option (Nat×Bool)} {T:TypeId} {ps:Array (Nat×Operand)} {n:NOp} (hc:ap P (.build T ps)=some n) (hO:OE ι t e) (_hR:Rel P ι B h w) (_hB:B<=w.heap.size):
 bt P ι B h w (ag n t h) ((execOp e ⟨dst,.build T ps,type,pos,after,guard⟩).run P w):=by
 show bt P ι B h w _ ((do pure (Next.value (←Instr.build T (ps.map fun (i,x)=>(i,e x)))):Sem Next).run P w)
 have ep:(ps.map fun (i,x)=>(i,e x))=(ps.toList.map fun p=>(p.1,e p.2)).toArray:=by apply Array.ext';simp
 rw[bM,ep]
 replace hc:jO P T ps.toList=some n:=hc
 unfold jO at hc
 split at hc
 ·rename_i z hz
  split at hc
  ·rename_i fs hT
   split at hc
   ·rename_i pl hpl
    split at hc
    ·rename_i l hl;cases hc;exact jW hz hT hpl (fK hO hl)
    ·cases hc
   ·cases hc
  ·rename_i m el hT
   split at hc
   ·rename_i k hk
    split at hc
    ·rename_i l hl;cases hc;exact kP hz hT hk (fK hO hl)
    ·cases hc
   ·cases hc
  ·cases hc
 ·cases hc
theorem pw {dst:Option Tmp} {type:TypeId} {pos:String} {after:Array Edge} {guard:Option (Nat×Bool)} {T:TypeId} {len:Nat} {ps:Array (Nat×Operand)} {n:NOp} (hc:ap P (.buildSlice T len ps)=some n) (hO:OE ι t e) (hR:Rel P ι B h w) (hB:B<=w.heap.size):
 bt P ι B h w (ag n t h) ((execOp e ⟨dst,.buildSlice T len ps,type,pos,after,guard⟩).run P w):=by
 have ep:(ps.map fun (i,x)=>(i,e x))=(ps.toList.map fun p=>(p.1,e p.2)).toArray:=by apply Array.ext';simp
 unfold execOp
 dsimp only
 rw[bM,ep]
 replace hc:cS P T len ps.toList=some n:=hc
 unfold cS at hc
 split at hc
 ·rename_i el hT
  split at hc
  ·rename_i z k hz hk
   split at hc
   ·rename_i l hl
    obtain ⟨c1,c2⟩:=af hc
    rw[fJ,ae,ae] at c2;cases c2
    rw[Bool.and_eq_true] at c1
    have c3:len*k<=16777216:=Nat.le_of_ble_eq_true c1.2
    exact lE (T':=0) hT hz hk (Nat.le_of_ble_eq_true c1.1) c3 rfl rfl (fK hO hl) hR hB
   ·cases hc
  ·cases hc
 ·cases hc
theorem Ge {dst:Option Tmp} {type:TypeId} {pos:String} {after:Array Edge} {guard:Option (Nat×Bool)} {T:TypeId} {x:Operand} {n:NOp} (hc:ap P (.load T x)=some n) (hO:OE ι t e) (hR:Rel P ι B h w) (_hB:B<=w.heap.size):
 bt P ι B h w (ag n t h) ((execOp e ⟨dst,.load T x,type,pos,after,guard⟩).run P w):=by
 show bt P ι B h w _ ((do pure (Next.value (←Instr.loadAt T (e x))):Sem Next).run P w)
 rw[bM]
 replace hc:nA P T x=some n:=hc
 unfold nA at hc
 split at hc
 ·rename_i y hT hy;cases hc;exact lR hT (hO _ _ hy) hR
 ·rename_i k y hT hy;cases hc;exact md hT (hO _ _ hy) hR
 ·cases hc
theorem DU {dst:Option Tmp} {type:TypeId} {pos:String} {after:Array Edge} {guard:Option (Nat×Bool)} {T:TypeId} {a:Operand} {x:Operand} {n:NOp} (hc:ap P (.store T a x)=some n) (hO:OE ι t e) (hR:Rel P ι B h w) (_hB:B<=w.heap.size):
 bt P ι B h w (ag n t h) ((execOp e ⟨dst,.store T a x,type,pos,after,guard⟩).run P w):=by
 show bt P ι B h w _ ((do Instr.storeAt T (e a) (e x);pure Next.skip:Sem Next).run P w)
 rw[Bq]
 replace hc:jI P T a x=some n:=hc
 unfold jI at hc
 split at hc
 ·rename_i k ya yx hT ha hx;cases hc;exact sW hT (hO _ _ ha) (hO _ _ hx) hR
 ·cases hc
theorem su {dst:Option Tmp} {type:TypeId} {pos:String} {after:Array Edge} {guard:Option (Nat×Bool)} {x:Operand} {n:NOp} (hc:ap P (.nilCheck x)=some n) (hO:OE ι t e) (_hR:Rel P ι B h w) (_hB:B<=w.heap.size):
 bt P ι B h w (ag n t h) ((execOp e ⟨dst,.nilCheck x,type,pos,after,guard⟩).run P w):=by
 replace hc:dT x=some n:=hc
 unfold dT at hc
 split at hc
 ·rename_i y hy;cases hc;exact nJ (hO _ _ hy)
 ·cases hc
theorem Dy {dst:Option Tmp} {type:TypeId} {pos:String} {after:Array Edge} {guard:Option (Nat×Bool)} {op:BinOp} {T:TypeId} {x:Operand} {y:Operand} {T2:TypeId} {n:NOp} (hc:ap P (.binOp op T x y T2)=some n) (hO:OE ι t e) (_hR:Rel P ι B h w) (_hB:B<=w.heap.size):
 bt P ι B h w (ag n t h) ((execOp e ⟨dst,.binOp op T x y T2,type,pos,after,guard⟩).run P w):=by
 show bt P ι B h w _ ((do pure (Next.value (←(do eqGuard op T x y (e x) (e y);binOp op T (e x) (e y)))):Sem Next).run P w)
 rw[bM]
 replace hc:xe P op T x y=some n:=hc
 unfold xe at hc
 split at hc
 ·rename_i x' y' hx hy
  split at hc
  ·rename_i fs hT
   cases hg:P.eqGuardType P.depth T with
   |true=>rw[hg] at hc;cases hc
   |false=>
    rw[hg] at hc
    simp only[cond_false] at hc
    split at hc
    ·rename_i es hes;cases hc;exact lP (neg:=false) rfl hes hg (hO _ _ hx) (hO _ _ hy)
    ·rename_i es hes;cases hc;exact lP (neg:=true) rfl hes hg (hO _ _ hx) (hO _ _ hy)
    ·cases hc
  ·rename_i ms hT
   obtain ⟨c1,c2⟩:=af hc
   cases c2
   rw[Bool.or_eq_true] at c1
   exact pU hT (by simp[BC.of]) (hO _ _ hx) (hO _ _ hy) fun _=>c1
  ·rename_i d hT
   split at hc
   ·rename_i c hcl
    cases hc
    obtain ⟨q1,q2⟩:=vS hcl
    exact pU hT q1 (hO _ _ hx) (hO _ _ hy) fun q=>absurd q q2
   ·cases hc
  ·cases hc
 ·cases hc
theorem FB {dst:Option Tmp} {type:TypeId} {pos:String} {after:Array Edge} {guard:Option (Nat×Bool)} {op:UnOp} {T:TypeId} {x:Operand} {n:NOp} (hc:ap P (.unOp op T x)=some n) (hO:OE ι t e) (_hR:Rel P ι B h w) (_hB:B<=w.heap.size):
 bt P ι B h w (ag n t h) ((execOp e ⟨dst,.unOp op T x,type,pos,after,guard⟩).run P w):=by
 show bt P ι B h w _ ((do pure (Next.value (←Op.unary op (e x))):Sem Next).run P w)
 rw[bM]
 replace hc:HP op x=some n:=hc
 unfold HP at hc
 split at hc
 ·rename_i y hy;cases hc;exact Dn (hO _ _ hy)
 ·cases hc
theorem vH {dst0:Option Tmp} {type:TypeId} {pos:String} {after:Array Edge} {guard:Option (Nat×Bool)} {src:TypeId} {dst:TypeId} {x:Operand} {n:NOp} (hc:ap P (.convert src dst x)=some n) (hO:OE ι t e) (hR:Rel P ι B h w) (hB:B<=w.heap.size):
 bt P ι B h w (ag n t h) ((execOp e ⟨dst0,.convert src dst x,type,pos,after,guard⟩).run P w):=by
 show bt P ι B h w _ ((do pure (Next.value (←convert src dst (e x))):Sem Next).run P w)
 rw[bM]
 replace hc:nK P src dst x=some n:=hc
 unfold nK at hc
 split at hc
 ·rename_i y hy;exact wJ hc (hO _ _ hy) hR hB
 ·cases hc
theorem lA {dst:Option Tmp} {type:TypeId} {pos:String} {after:Array Edge} {guard:Option (Nat×Bool)} {T:TypeId} {x:Operand} {n:NOp} (hc:ap P (.makeInterface T x)=some n) (hO:OE ι t e) (_hR:Rel P ι B h w) (_hB:B<=w.heap.size):
 bt P ι B h w (ag n t h) ((execOp e ⟨dst,.makeInterface T x,type,pos,after,guard⟩).run P w):=by
 show bt P ι B h w _ ((do pure (Next.value (←Instr.makeInterface T (e x))):Sem Next).run P w)
 rw[bM]
 replace hc:wo P T x=some n:=hc
 unfold wo at hc
 split at hc
 ·cases hc
 ·rename_i d y hn hT hy;rw[ae] at hc;cases hc
  exact sc hT (fun m hm=>hn m hm) rfl (hO _ _ hy)
 ·cases hc
theorem sn {dst:Option Tmp} {type:TypeId} {pos:String} {after:Array Edge} {guard:Option (Nat×Bool)} {fn:Fn} {first:Array Operand} {caps:Array Operand} {n:NOp} (hc:ap P (.makeFunc fn first caps)=some n) (hO:OE ι t e) (_hR:Rel P ι B h w) (_hB:B<=w.heap.size):
 bt P ι B h w (ag n t h) ((execOp e ⟨dst,.makeFunc fn first caps,type,pos,after,guard⟩).run P w):=by
 cases fn with
 |func f=>
  show bt P ι B h w _ ((do pure (Next.value (←Instr.makeFunc (.func f) (first.map e) (caps.map e))):Sem Next).run P w)
  rw[bM]
  replace hc:nE f first.toList caps.toList=some n:=hc
  unfold nE at hc
  split at hc
  ·rename_i l h1 h2
   rw[ae] at hc;cases hc
   have e1:first.map e=#[]:=by
    have:first=#[]:=by apply Array.ext';simpa using h1
    rw[this];simp
   have e2:caps.map e=(caps.toList.map e).toArray:=by apply Array.ext';simp
   rw[e1,e2]
   exact uS (jV hO h2)
  ·cases hc
 |_=>have hc:(none:Option NOp)=some n:=hc;cases hc
theorem vY {dst:Option Tmp} {type:TypeId} {pos:String} {after:Array Edge} {guard:Option (Nat×Bool)} {T:TypeId} {r:Option Operand} {n:NOp} (hc:ap P (.makeMap T r)=some n) (_hO:OE ι t e) (hR:Rel P ι B h w) (hB:B<=w.heap.size):
 bt P ι B h w (ag n t h) ((execOp e ⟨dst,.makeMap T r,type,pos,after,guard⟩).run P w):=by
 cases r with
 |none=>
  cases hc
  show bt P ι B h w _ ((do pure (Next.value (←Instr.makeMap T none)):Sem Next).run P w)
  rw[bM]
  exact sw (t:=t) T hR hB
 |some r=>have hc:(none:Option NOp)=some n:=hc;cases hc
theorem rW {dst:Option Tmp} {type:TypeId} {pos:String} {after:Array Edge} {guard:Option (Nat×Bool)} {T:TypeId} {l:Operand} {c:Operand} {n:NOp} (hc:ap P (.makeSlice T l c)=some n) (hO:OE ι t e) (hR:Rel P ι B h w) (hB:B<=w.heap.size):
 bt P ι B h w (ag n t h) ((execOp e ⟨dst,.makeSlice T l c,type,pos,after,guard⟩).run P w):=by
 show bt P ι B h w _ ((do pure (Next.value (←Instr.makeSlice T (e l) (e c))):Sem Next).run P w)
 rw[bM]
 replace hc:fw P T l c=some n:=hc
 unfold fw at hc
 split at hc
 ·rename_i el hT
  split at hc
  ·rename_i h1 h2 h3 h4 h5
   obtain ⟨c1,c2⟩:=af hc
   rw[ae] at c2;cases c2
   rw[bk] at c1
   exact pn hT h2 h3 h1 (of_decide_eq_true c1) el (hO _ _ h4) (hO _ _ h5) hR hB
  ·cases hc
 ·cases hc
theorem CC {dst:Option Tmp} {type:TypeId} {pos:String} {after:Array Edge} {guard:Option (Nat×Bool)} {T:TypeId} {x:Operand} {lo:Option Operand} {hi:Option Operand} {mx:Option Operand} {n:NOp} (hc:ap P (.slice T x lo hi mx)=some n) (hO:OE ι t e) (_hR:Rel P ι B h w) (_hB:B<=w.heap.size):
 bt P ι B h w (ag n t h) ((execOp e ⟨dst,.slice T x lo hi mx,type,pos,after,guard⟩).run P w):=by
 show bt P ι B h w _ ((do pure (Next.value (←Instr.sliceAt T (e x) (lo.map e) (hi.map e) (mx.map e))):Sem Next).run P w)
 rw[bM]
 cases mx with
 |none=>
  replace hc:jH P T x lo hi=some n:=hc
  unfold jH at hc
  split at hc
  ·rename_i hT hx hl hh;cases hc;exact nY hT (hO _ _ hx) (jh hO hl) (jh hO hh)
  ·rename_i hT hx hl hh
   split at hc
   ·rename_i hk;cases hc;exact oF hT hk (hO _ _ hx) (jh hO hl) (jh hO hh)
   ·cases hc
  ·cases hc
 |some mx=>
  cases lo with
  |none=>have hc:(none:Option NOp)=some n:=hc;cases hc
  |some lo=>
   cases hi with
   |none=>have hc:(none:Option NOp)=some n:=hc;cases hc
   |some hi=>
    replace hc:gT P T x lo hi mx=some n:=hc
    unfold gT at hc
    split at hc
    ·rename_i hT hx hl hh hm
     split at hc
     ·rename_i hk;cases hc;exact nG hT hk (hO _ _ hx) (hO _ _ hl) (hO _ _ hh) (hO _ _ hm)
     ·cases hc
    ·cases hc
theorem rJ {dst:Option Tmp} {type:TypeId} {pos:String} {after:Array Edge} {guard:Option (Nat×Bool)} {s:TypeId} {x:Operand} {f:Nat} {n:NOp} (hc:ap P (.fieldAddr s x f)=some n) (hO:OE ι t e) (_hR:Rel P ι B h w) (_hB:B<=w.heap.size):
 bt P ι B h w (ag n t h) ((execOp e ⟨dst,.fieldAddr s x f,type,pos,after,guard⟩).run P w):=by
 show bt P ι B h w _ ((do pure (Next.value (←Instr.fieldAt s (e x) f)):Sem Next).run P w)
 rw[bM]
 replace hc:dp P s x f=some n:=hc
 unfold dp at hc
 split at hc
 ·rename_i fd y hf hy
  obtain ⟨fs,f1,f2⟩:=me hf
  split at hc
  ·rename_i k hk
   obtain ⟨c1,c2⟩:=af hc
   rw[ae] at c2;cases c2
   rw[bk] at c1
   have c1:=of_decide_eq_true c1
   obtain ⟨i,i1,i2⟩:=bD hk
   exact mt f1 f2 i1 (by omega) rfl (hO _ _ hy)
  ·cases hc
 ·cases hc
theorem CQ {dst:Option Tmp} {type:TypeId} {pos:String} {after:Array Edge} {guard:Option (Nat×Bool)} {s:TypeId} {x:Operand} {f:Nat} {n:NOp} (hc:ap P (.field s x f)=some n) (hO:OE ι t e) (_hR:Rel P ι B h w) (_hB:B<=w.heap.size):
 bt P ι B h w (ag n t h) ((execOp e ⟨dst,.field s x f,type,pos,after,guard⟩).run P w):=by
 show bt P ι B h w _ ((do pure (Next.value (←Instr.field s (e x) f)):Sem Next).run P w)
 rw[bM]
 replace hc:j4 P s x f=some n:=hc
 unfold j4 at hc
 split at hc
 ·rename_i fd y hf hy
  obtain ⟨fs,f1,f2⟩:=me hf
  split at hc
  ·rename_i hT;rw[ae] at hc;cases hc;exact qy f1 f2 hT rfl (hO _ _ hy)
  ·rename_i hT;rw[ae] at hc;cases hc;exact qx f1 f2 hT rfl (hO _ _ hy)
  ·cases hc
 ·cases hc
theorem rp {dst:Option Tmp} {type:TypeId} {pos:String} {after:Array Edge} {guard:Option (Nat×Bool)} {T:TypeId} {x:Operand} {i:Operand} {n:NOp} (hc:ap P (.indexAddr T x i)=some n) (hO:OE ι t e) (_hR:Rel P ι B h w) (_hB:B<=w.heap.size):
 bt P ι B h w (ag n t h) ((execOp e ⟨dst,.indexAddr T x i,type,pos,after,guard⟩).run P w):=by
 show bt P ι B h w _ ((do pure (Next.value (←Instr.indexAt T (e x) (e i))):Sem Next).run P w)
 rw[bM]
 replace hc:dq P T x i=some n:=hc
 unfold dq at hc
 split at hc
 ·rename_i hT hx hi
  split at hc
  ·rename_i hk;rw[ae] at hc;cases hc;exact o6 hT rfl hk (hO _ _ hx) (hO _ _ hi)
  ·cases hc
 ·rename_i hT hx hi
  split at hc
  ·rename_i hk;cases hc;exact oH hT hk (hO _ _ hx) (hO _ _ hi)
  ·cases hc
 ·cases hc
theorem DT {dst:Option Tmp} {type:TypeId} {pos:String} {after:Array Edge} {guard:Option (Nat×Bool)} {T:TypeId} {x:Operand} {i:Operand} {n:NOp} (hc:ap P (.index T x i)=some n) (hO:OE ι t e) (_hR:Rel P ι B h w) (_hB:B<=w.heap.size):
 bt P ι B h w (ag n t h) ((execOp e ⟨dst,.index T x i,type,pos,after,guard⟩).run P w):=by
 show bt P ι B h w _ ((do pure (Next.value (←Instr.index T (e x) (e i))):Sem Next).run P w)
 rw[bM]
 replace hc:jB P T x i=some n:=hc
 unfold jB at hc
 split at hc
 ·rename_i hT hx hi;cases hc;exact nP hT (hO _ _ hx) (hO _ _ hi)
 ·rename_i hT hx hi
  split at hc
  ·rename_i m hm;rw[ae] at hc;cases hc;exact mT hT hm (hO _ _ hx) (hO _ _ hi)
  ·cases hc
 ·cases hc
theorem AP {dst:Option Tmp} {type:TypeId} {pos:String} {after:Array Edge} {guard:Option (Nat×Bool)} {T:TypeId} {x:Operand} {i:Operand} {ok:Bool} {n:NOp} (hc:ap P (.lookup T x i ok)=some n) (hO:OE ι t e) (hR:Rel P ι B h w) (_hB:B<=w.heap.size):
 bt P ι B h w (ag n t h) ((execOp e ⟨dst,.lookup T x i ok,type,pos,after,guard⟩).run P w):=by
 show bt P ι B h w _ ((do pure (Next.value (←Instr.lookup T (e x) (e i) ok)):Sem Next).run P w)
 rw[bM]
 replace hc:gX P T x i ok=some n:=hc
 unfold gX at hc
 split at hc
 ·rename_i hT hx hi
  split at hc
  ·rename_i hz hs;cases hc;exact qX hT hs hz ok (hO _ _ hx) (hO _ _ hi) hR
  ·cases hc
 ·cases hc
theorem qF {dst:Option Tmp} {type:TypeId} {pos:String} {after:Array Edge} {guard:Option (Nat×Bool)} {T:TypeId} {m:Operand} {k:Operand} {x:Operand} {n:NOp} (hc:ap P (.mapUpdate T m k x)=some n) (hO:OE ι t e) (hR:Rel P ι B h w) (_hB:B<=w.heap.size):
 bt P ι B h w (ag n t h) ((execOp e ⟨dst,.mapUpdate T m k x,type,pos,after,guard⟩).run P w):=by
 show bt P ι B h w _ ((do Instr.mapUpdate T (e m) (e k) (e x);pure Next.skip:Sem Next).run P w)
 rw[Bq]
 replace hc:bu P T m k x=some n:=hc
 unfold bu at hc
 split at hc
 ·rename_i hT hm hk hx
  split at hc
  ·rename_i hs;cases hc;exact gZ hT hs (hO _ _ hm) (hO _ _ hk) (hO _ _ hx) hR
  ·cases hc
 ·cases hc
theorem zk {dst:Option Tmp} {type:TypeId} {pos:String} {after:Array Edge} {guard:Option (Nat×Bool)} {T:TypeId} {m:Operand} {k:Operand} {x:Operand} {n:NOp} (hc:ap P (.insert T m k x)=some n) (hO:OE ι t e) (hR:Rel P ι B h w) (_hB:B<=w.heap.size):
 bt P ι B h w (ag n t h) ((execOp e ⟨dst,.insert T m k x,type,pos,after,guard⟩).run P w):=by
 show bt P ι B h w _ ((do Instr.mapUpdate T (e m) (e k) (e x);pure Next.skip:Sem Next).run P w)
 rw[Bq]
 replace hc:bu P T m k x=some n:=hc
 unfold bu at hc
 split at hc
 ·rename_i hT hm hk hx
  split at hc
  ·rename_i hs;cases hc;exact gZ hT hs (hO _ _ hm) (hO _ _ hk) (hO _ _ hx) hR
  ·cases hc
 ·cases hc
theorem pk {dst:Option Tmp} {type:TypeId} {pos:String} {after:Array Edge} {guard:Option (Nat×Bool)} {x:Operand} {X:TypeId} {T:TypeId} {ok:Bool} {n:NOp} (hc:ap P (.typeAssert x X T ok)=some n) (hO:OE ι t e) (_hR:Rel P ι B h w) (_hB:B<=w.heap.size):
 bt P ι B h w (ag n t h) ((execOp e ⟨dst,.typeAssert x X T ok,type,pos,after,guard⟩).run P w):=by
 cases ok with
 |false=>have hc:(none:Option NOp)=some n:=hc;cases hc
 |true=>
  show bt P ι B h w _ ((do pure (Next.value (←Instr.typeAssert (e x) X T true)):Sem Next).run P w)
  rw[bM]
  replace hc:gK P T x=some n:=hc
  unfold gK at hc
  split at hc
  ·cases hc
  ·rename_i d z y hn hT hz hy;rw[ae] at hc;cases hc
   exact lM hT (fun m hm=>hn m hm) hz rfl X (hO _ _ hy)
  ·cases hc
theorem uY {dst:Option Tmp} {type:TypeId} {pos:String} {after:Array Edge} {guard:Option (Nat×Bool)} {x:Operand} {i:Nat} {n:NOp} (hc:ap P (.extract x i)=some n) (hO:OE ι t e) (_hR:Rel P ι B h w) (_hB:B<=w.heap.size):
 bt P ι B h w (ag n t h) ((execOp e ⟨dst,.extract x i,type,pos,after,guard⟩).run P w):=by
 show bt P ι B h w _ ((do pure (Next.value (←Instr.extract (e x) i)):Sem Next).run P w)
 rw[bM]
 replace hc:eZ x i=some n:=hc
 unfold eZ at hc
 split at hc
 ·rename_i y hy;rw[ae] at hc;cases hc;exact pK rfl (hO _ _ hy)
 ·cases hc
theorem A8 {dst:Option Tmp} {type:TypeId} {pos:String} {after:Array Edge} {guard:Option (Nat×Bool)} {x:Operand} {n:NOp} (hc:ap P (.panic x)=some n) (hO:OE ι t e) (_hR:Rel P ι B h w) (_hB:B<=w.heap.size):
 bt P ι B h w (ag n t h) ((execOp e ⟨dst,.panic x,type,pos,after,guard⟩).run P w):=by
 show bt P ι B h w _ ((do pure (Next.value (←Instr.panic (e x))):Sem Next).run P w)
 rw[bM]
 replace hc:jz x=some n:=hc
 unfold jz at hc
 split at hc
 ·rename_i y hy;cases hc;exact tD (hO _ _ hy)
 ·cases hc
theorem Eu {dst:Option Tmp} {type:TypeId} {pos:String} {after:Array Edge} {guard:Option (Nat×Bool)} {c:Call} {n:NOp} (hc:ap P (.call c)=some n) (hO:OE ι t e) (hR:Rel P ι B h w) (hB:B<=w.heap.size):
 bt P ι B h w (ag n t h) ((execOp e ⟨dst,.call c,type,pos,after,guard⟩).run P w):=by
 obtain ⟨callee,args,ats⟩:=c
 cases callee with
 |value f=>
  replace hc:n7 f args.toList=some n:=hc
  unfold n7 at hc
  split at hc
  ·rename_i hf hl
   cases hc
   have ea:args.map e=(args.toList.map e).toArray:=by apply Array.ext';simp
   show bt P ι B h w _ ((do let d ←Deferred.ofValue (e f) (args.map e);invoke d.target d.args:Sem Next).run P w)
   rw[ea]
   exact vB (hO _ _ hf) (jV hO hl)
  ·cases hc
 |builtin b=>
  replace hc:fh P b args.toList ats.toList=some n:=hc
  unfold fh at hc
  split at hc
  ·rename_i l hl
   exact pu hl hc hO hR hB type _
  ·cases hc
 |invoke r m=>have hc:(none:Option NOp)=some n:=hc;cases hc
theorem Dw {dst:Option Tmp} {type:TypeId} {pos:String} {after:Array Edge} {guard:Option (Nat×Bool)} {c:Call} {n:NOp} (hc:ap P (.defer c)=some n) (hO:OE ι t e) (_hR:Rel P ι B h w) (_hB:B<=w.heap.size):
 bt P ι B h w (ag n t h) ((execOp e ⟨dst,.defer c,type,pos,after,guard⟩).run P w):=by
 obtain ⟨callee,args,ats⟩:=c
 cases callee with
 |value f=>
  replace hc:ft f args.toList=some n:=hc
  unfold ft at hc
  split at hc
  ·rename_i y h1 hf
   cases hc
   have ea:args.map e=#[]:=by
    have:args=#[]:=by apply Array.ext';simpa using h1
    rw[this];simp
   show bt P ι B h w _ ((do pure (Next.defer (←Deferred.ofValue (e f) (args.map e))):Sem Next).run P w)
   rw[ea]
   exact sU (hO _ _ hf)
  ·cases hc
 |builtin b=>have hc:(none:Option NOp)=some n:=hc;cases hc
 |invoke r m=>have hc:(none:Option NOp)=some n:=hc;cases hc
theorem Bm {o:Oper} {n:NOp} (hc:ap P o.op=some n) (hO:OE ι t e) (hR:Rel P ι B h w) (hB:B<=w.heap.size):bt P ι B h w (ag n t h) ((execOp e o).run P w):=by
 obtain ⟨dst,op,type,pos,after,guard⟩:=o
 cases op with
 |move x=>exact EZ hc hO hR hB
 |assign x=>exact zZ hc hO hR hB
 |pick c a b=>exact Ec hc hO hR hB
 |alloc T=>exact Db hc hO hR hB
 |box T x=>exact H4 hc hO hR hB
 |build T ps=>exact Co hc hO hR hB
 |buildSlice T len ps=>exact pw hc hO hR hB
 |load T x=>exact Ge hc hO hR hB
 |store T a x=>exact DU hc hO hR hB
 |nilCheck x=>exact su hc hO hR hB
 |binOp op T x y T2=>exact Dy hc hO hR hB
 |unOp op T x=>exact FB hc hO hR hB
 |convert src dst x=>exact vH hc hO hR hB
 |makeInterface T x=>exact lA hc hO hR hB
 |makeFunc fn first caps=>exact sn hc hO hR hB
 |makeMap T r=>exact vY hc hO hR hB
 |makeSlice T l c=>exact rW hc hO hR hB
 |slice T x lo hi mx=>exact CC hc hO hR hB
 |fieldAddr s x f=>exact rJ hc hO hR hB
 |field s x f=>exact CQ hc hO hR hB
 |indexAddr T x i=>exact rp hc hO hR hB
 |index T x i=>exact DT hc hO hR hB
 |lookup T x i ok=>exact AP hc hO hR hB
 |mapUpdate T m k x=>exact qF hc hO hR hB
 |insert T m k x=>exact zk hc hO hR hB
 |typeAssert x X T ok=>exact pk hc hO hR hB
 |extract x i=>exact uY hc hO hR hB
 |panic x=>exact A8 hc hO hR hB
 |call c=>exact Eu hc hO hR hB
 |defer c=>exact Dw hc hO hR hB
 |next x s=>cases s<;>(have hc:(none:Option NOp)=some n:=hc;cases hc)
 |_=>have hc:(none:Option NOp)=some n:=hc;cases hc
end
end Nm
namespace Nm
open Go
variable [Val]
def wi (x:Option NOpd):List NOpd:=match x with|some x=> [x]|none=> []
def opsOf:NOp->List NOpd
 | .move x| .box x _| .load1 x| .loadN _ x| .nilCheck x| .un _ x| .toInt _ x| .strToBytes _ x| .bytesToStr x| .sameSlc x| .toStr x| .mkIfc _ x| .fieldAddr _ x| .field1 _ x| .fieldN _ _ x
 | .typeAssert _ _ x| .extract x _| .panic x| .lenStr x| .lenSlc x| .lenMap x| .clearSlc _ x| .defer x| .rangeMap x| .nextMap x| .entryMap x=> [x]
 | .pick c a b=> [c,a,b]
 | .build _ ps| .buildSlice _ _ _ _ ps=>ps.map fun p=>p.2.2
 | .store _ a x| .bin _ _ a x| .eqAgg _ _ a x| .mkSlice _ _ _ _ a x| .indexSlc _ a x| .indexArr _ _ a x| .indexStr a x| .indexAgg _ _ a x| .lookup _ _ _ a x| .append _ _ _ a x| .appendStr _ a x| .copy _ a x| .delete _ a x=> [a,x]
 | .mkFn _ l| .minmax _ l=>l
 | .sliceStr x lo hi| .sliceSlc _ x lo hi=>x::(wi lo++wi hi)
 | .sliceMax _ x lo hi mx=> [x,lo,hi,mx]
 | .mapUpdate _ m k v=> [m,k,v]
 | .call f l=>f::l
 | .fail| .alloc ..| .mkMap| .recover| .lenArr _=> []
section
variable {t t':Tm}
omit [Val] in
theorem nQ {R:Type} {l:List NOpd} (e:∀x∈l,ρ t x=ρ t' x) (F:R) (K:List NV->R):xo t l F K=xo t' l F K:=by
 induction l generalizing K with
 |nil=>rfl
 |cons x l ih=>
  show (Option.rec F (fun v=>xo t l F fun l=>K (v::l)) (ρ t x):R)=(Option.rec F (fun v=>xo t' l F fun l=>K (v::l)) (ρ t' x):R)
  rw[e x (by simp)]
  cases ρ t' x with
  |none=>rfl
  |some v=>exact ih (fun x hx=>e x (by simp[hx])) _
omit [Val] in
theorem wk {ps:List (Nat×Nat×NOpd)} (e:∀x∈ps.map (fun p=>p.2.2),ρ t x=ρ t' x) (l:List NV):c7 t ps l=c7 t' ps l:=by
 induction ps generalizing l with
 |nil=>rfl
 |cons p ps ih=>
  show (Option.rec none (fun v:NV=>Option.rec none (fun cs=>db cs fun k=>cond (Nat.beq k p.2.1) (Option.rec none (c7 t ps) (dx cs p.1 l)) none) (cellsOf v)) (ρ t p.2.2):Option (List NV))=
   (Option.rec none (fun v:NV=>Option.rec none (fun cs=>db cs fun k=>cond (Nat.beq k p.2.1) (Option.rec none (c7 t' ps) (dx cs p.1 l)) none) (cellsOf v)) (ρ t' p.2.2):Option (List NV))
  rw[e _ (by simp),funext (ih fun x hx=>e x (by simp at hx ⊢;exact .inr hx))]
omit [Val] in
theorem xd {ps:List (Nat×Nat×NOpd)} (e:∀x∈ps.map (fun p=>p.2.2),ρ t x=ρ t' x) (c:Nat) (l:List NV):cw t ps c l=cw t' ps c l:=by
 induction ps generalizing c l with
 |nil=>rfl
 |cons p ps ih=>
  have ih':cw t ps=cw t' ps:=funext fun c=>funext fun l=>ih (fun x hx=>e x (by simp at hx ⊢;exact .inr hx)) c l
  show (Option.rec none (fun v:NV=>Option.rec none (fun cs=>db cs fun k=>cond (Nat.beq k p.2.1) (cond (Nat.ble c p.1)
   (fN (Nat.sub p.1 c) (fun l=>Option.rec none (fun l=>Option.rec none (fun l=>ia cs l some) (cw t ps (Nat.add p.1 k) l)) (dh k l)) l) none) none) (cellsOf v)) (ρ t p.2.2):Option (List NV))=
   (Option.rec none (fun v:NV=>Option.rec none (fun cs=>db cs fun k=>cond (Nat.beq k p.2.1) (cond (Nat.ble c p.1)
   (fN (Nat.sub p.1 c) (fun l=>Option.rec none (fun l=>Option.rec none (fun l=>ia cs l some) (cw t' ps (Nat.add p.1 k) l)) (dh k l)) l) none) none) (cellsOf v)) (ρ t' p.2.2):Option (List NV))
  rw[e _ (by simp),ih']
omit [Val] in
theorem a8 {x:NOpd} (e:ρ t x=ρ t' x) (K K':NV->NR) (k:∀v,K v=K' v):wV t x K=wV t' x K':=by
 unfold wV;rw[e,funext k]
omit [Val] in
theorem cL {x:NOpd} (e:ρ t x=ρ t' x) (K K':Nat->NR) (k:∀v,K v=K' v):dS t x K=dS t' x K':=by
 unfold dS;rw[funext k];exact a8 e _ _ fun _=>rfl
omit [Val] in
theorem fG {x:Option NOpd} (e:∀y∈wi x,ρ t y=ρ t' y) (d:Nat) (K K':Nat->NR) (k:∀v,K v=K' v):dc t x d K=dc t' x d K':=by
 cases x with
 |none=>exact k d
 |some x=>exact cL (e x (by simp[wi])) _ _ k
omit [Val] in
theorem nZ {o:NOp} (e:∀x∈opsOf o,ρ t x=ρ t' x) (h:NH):ag o t h=ag o t' h:=by
 cases o with
 |fail=>rfl
 |alloc=>rfl
 |mkMap=>rfl
 |recover=>rfl
 |lenArr=>rfl
 |pick c a b=>
  refine a8 (e c (by simp[opsOf])) _ _ fun v=> ?_
  cases v<;>try rfl
  rename_i q
  cases q
  ·exact a8 (e b (by simp[opsOf])) _ _ fun _=>rfl
  ·exact a8 (e a (by simp[opsOf])) _ _ fun _=>rfl
 |build z ps=>show aR (c7 t ps z) _=aR (c7 t' ps z) _;rw[wk (fun x hx=>e x hx)]
 |buildSlice z n len T ps=>show aR (cw t ps 0 z) _=aR (cw t' ps 0 z) _;rw[xd (fun x hx=>e x hx)]
 |store n a x=>exact a8 (e a (by simp[opsOf])) _ _ fun _=>a8 (e x (by simp[opsOf])) _ _ fun _=>rfl
 |bin c op a x=>exact a8 (e a (by simp[opsOf])) _ _ fun _=>a8 (e x (by simp[opsOf])) _ _ fun _=>rfl
 |eqAgg n es a x=>exact a8 (e a (by simp[opsOf])) _ _ fun _=>a8 (e x (by simp[opsOf])) _ _ fun _=>rfl
 |lookup s z ok a x=>exact a8 (e a (by simp[opsOf])) _ _ fun _=>a8 (e x (by simp[opsOf])) _ _ fun _=>rfl
 |append n b T a x=>exact a8 (e a (by simp[opsOf])) _ _ fun _=>a8 (e x (by simp[opsOf])) _ _ fun _=>rfl
 |appendStr T a x=>exact a8 (e a (by simp[opsOf])) _ _ fun _=>a8 (e x (by simp[opsOf])) _ _ fun _=>rfl
 |copy n a x=>exact a8 (e a (by simp[opsOf])) _ _ fun _=>a8 (e x (by simp[opsOf])) _ _ fun _=>rfl
 |delete s a x=>exact a8 (e a (by simp[opsOf])) _ _ fun _=>a8 (e x (by simp[opsOf])) _ _ fun _=>rfl
 |mkSlice z n b T a x=>exact cL (e a (by simp[opsOf])) _ _ fun _=>cL (e x (by simp[opsOf])) _ _ fun _=>rfl
 |indexSlc n a x=>exact a8 (e a (by simp[opsOf])) _ _ fun _=>cL (e x (by simp[opsOf])) _ _ fun _=>rfl
 |indexArr n l a x=>exact a8 (e a (by simp[opsOf])) _ _ fun _=>cL (e x (by simp[opsOf])) _ _ fun _=>rfl
 |indexAgg m l a x=>exact a8 (e a (by simp[opsOf])) _ _ fun _=>cL (e x (by simp[opsOf])) _ _ fun _=>rfl
 |indexStr a x=>exact a8 (e a (by simp[opsOf])) _ _ fun _=>cL (e x (by simp[opsOf])) _ _ fun _=>rfl
 |mkFn f l=>exact nQ e _ _
 |minmax m l=>exact nQ e _ _
 |call f l=>exact a8 (e f (by simp[opsOf])) _ _ fun _=>nQ (fun x hx=>e x (by simp[opsOf,hx])) _ _
 |mapUpdate s m k v=>exact a8 (e m (by simp[opsOf])) _ _ fun _=>a8 (e k (by simp[opsOf])) _ _ fun _=>a8 (e v (by simp[opsOf])) _ _ fun _=>rfl
 |sliceStr x lo hi=>
  refine a8 (e x (by simp[opsOf])) _ _ fun v=> ?_
  cases v<;>try rfl
  show db _ _=db _ _
  rw[bF,bF]
  exact fG (fun y hy=>e y (by simp[opsOf,hy])) _ _ _ fun _=>fG (fun y hy=>e y (by simp[opsOf,hy])) _ _ _ fun _=>rfl
 |sliceSlc n x lo hi=>
  refine a8 (e x (by simp[opsOf])) _ _ fun v=> ?_
  cases v<;>try rfl
  all_goals exact fG (fun y hy=>e y (by simp[opsOf,hy])) _ _ _ fun _=>fG (fun y hy=>e y (by simp[opsOf,hy])) _ _ _ fun _=>rfl
 |sliceMax n x lo hi mx=>
  refine a8 (e x (by simp[opsOf])) _ _ fun v=> ?_
  cases v<;>try rfl
  exact cL (e lo (by simp[opsOf])) _ _ fun _=>cL (e hi (by simp[opsOf])) _ _ fun _=>cL (e mx (by simp[opsOf])) _ _ fun _=>rfl
 |_=>exact a8 (e _ (by simp[opsOf])) _ _ fun _=>rfl
end
section
variable {P:Program}
def Sub (n:NOp) (op:Op):Prop:=∀y∈opsOf n,∃x∈op.operands.toList,az x=some y
omit [Val] in
theorem ah {α:Type} {b:Bool} {x:Option α} {r:α} (hc:cond b none x=some r):x=some r:=by
 cases b with
 |true=>cases hc
 |false=>exact hc
omit [Val] in
theorem oh {l:List Operand} {l':List NOpd} (hc:eE l=some l'):∀y∈l',∃x∈l,az x=some y:=by
 induction l generalizing l' with
 |nil=>cases hc;simp
 |cons x l ih=>
  have hc':(match az x,eE l with|some x,some l=>some (x::l)|_,_=>none)=some l':=hc
  split at hc'
  ·rename_i z m h1 h2
   cases hc'
   intro y hy
   rcases List.mem_cons.1 hy with rfl|hy
   ·exact ⟨x,by simp,h1⟩
   ·obtain ⟨u,a,b⟩:=ih h2 y hy
    exact ⟨u,by simp[a],b⟩
  ·cases hc'
omit [Val] in
theorem qc {place:Nat->Option (Nat×Nat)} {l:List (Nat×Operand)} {ps:List (Nat×Nat×NOpd)} (hc:dW place l=some ps):∀y∈ps.map (fun p=>p.2.2),∃x∈l.map (·.2),az x=some y:=by
 induction l generalizing ps with
 |nil=>cases hc;simp
 |cons x l ih=>
  have hc':(match place x.1,az x.2,dW place l with
   |some p,some x,some l=>aw p.1 fun o=>aw p.2 fun n=>some ((o,n,x)::l)
   |_,_,_=>none)=some ps:=hc
  split at hc'
  ·rename_i p z m h1 h2 h3
   simp only[ae] at hc'
   cases hc'
   intro y hy
   rcases List.mem_cons.1 hy with rfl|hy
   ·exact ⟨x.2,by simp,h2⟩
   ·obtain ⟨u,a,b⟩:=ih h3 y hy
    exact ⟨u,List.mem_cons_of_mem _ a,b⟩
  ·cases hc'
omit [Val] in
theorem kQ {x:Option Operand} {y:Option NOpd} (hc:mO x=some y):∀z∈wi y,∃u∈x.toList,az u=some z:=by
 cases x with
 |none=>cases hc;simp[wi]
 |some x=>
  have hc':(match az x with|some x=>some (some x)|none=>none)=some y:=hc
  split at hc'
  ·rename_i z hz;cases hc';simp[wi,hz]
  ·cases hc'
omit [Val] in
theorem Cn (x:Operand) {n:NOp} (hc:ap P (.move x)=some n):Sub n (.move x):=by
 replace hc:ga x=some n:=hc
 unfold ga at hc
 repeat' split at hc
 all_goals first
  |(cases hc;done)
  |(cases hc;simp_all [Sub,opsOf,Op.operands];done)
  |(rw[ae] at hc;cases hc;simp_all [Sub,opsOf,Op.operands];done)
  |(replace hc:=(af hc).2;cases hc;simp_all [Sub,opsOf,Op.operands];done)
  |(replace hc:=(af hc).2;rw[ae] at hc;cases hc;simp_all [Sub,opsOf,Op.operands];done)
  |(replace hc:=ah hc;cases hc;done)
  |(replace hc:=ah hc;cases hc;simp_all [Sub,opsOf,Op.operands];done)
omit [Val] in
theorem vz (x:Operand) {n:NOp} (hc:ap P (.assign x)=some n):Sub n (.assign x):=by
 replace hc:ga x=some n:=hc
 unfold ga at hc
 repeat' split at hc
 all_goals first
  |(cases hc;done)
  |(cases hc;simp_all [Sub,opsOf,Op.operands];done)
  |(rw[ae] at hc;cases hc;simp_all [Sub,opsOf,Op.operands];done)
  |(replace hc:=(af hc).2;cases hc;simp_all [Sub,opsOf,Op.operands];done)
  |(replace hc:=(af hc).2;rw[ae] at hc;cases hc;simp_all [Sub,opsOf,Op.operands];done)
  |(replace hc:=ah hc;cases hc;done)
  |(replace hc:=ah hc;cases hc;simp_all [Sub,opsOf,Op.operands];done)
omit [Val] in
theorem CU (c a b:Operand) {n:NOp} (hc:ap P (.pick c a b)=some n):Sub n (.pick c a b):=by
 replace hc:oD c a b=some n:=hc
 unfold oD at hc
 repeat' split at hc
 all_goals first
  |(cases hc;done)
  |(cases hc;simp_all [Sub,opsOf,Op.operands];done)
  |(rw[ae] at hc;cases hc;simp_all [Sub,opsOf,Op.operands];done)
  |(replace hc:=(af hc).2;cases hc;simp_all [Sub,opsOf,Op.operands];done)
  |(replace hc:=(af hc).2;rw[ae] at hc;cases hc;simp_all [Sub,opsOf,Op.operands];done)
  |(replace hc:=ah hc;cases hc;done)
  |(replace hc:=ah hc;cases hc;simp_all [Sub,opsOf,Op.operands];done)
omit [Val] in
theorem ES (T:TypeId) (x:Operand) {n:NOp} (hc:ap P (.box T x)=some n):Sub n (.box T x):=by
 replace hc:wL T x=some n:=hc
 unfold wL at hc
 repeat' split at hc
 all_goals first
  |(cases hc;done)
  |(cases hc;simp_all [Sub,opsOf,Op.operands];done)
  |(rw[ae] at hc;cases hc;simp_all [Sub,opsOf,Op.operands];done)
  |(replace hc:=(af hc).2;cases hc;simp_all [Sub,opsOf,Op.operands];done)
  |(replace hc:=(af hc).2;rw[ae] at hc;cases hc;simp_all [Sub,opsOf,Op.operands];done)
  |(replace hc:=ah hc;cases hc;done)
  |(replace hc:=ah hc;cases hc;simp_all [Sub,opsOf,Op.operands];done)
omit [Val] in
theorem C4 (T:TypeId) (x:Operand) {n:NOp} (hc:ap P (.load T x)=some n):Sub n (.load T x):=by
 replace hc:nA P T x=some n:=hc
 unfold nA at hc
 repeat' split at hc
 all_goals first
  |(cases hc;done)
  |(cases hc;simp_all [Sub,opsOf,Op.operands];done)
  |(rw[ae] at hc;cases hc;simp_all [Sub,opsOf,Op.operands];done)
  |(replace hc:=(af hc).2;cases hc;simp_all [Sub,opsOf,Op.operands];done)
  |(replace hc:=(af hc).2;rw[ae] at hc;cases hc;simp_all [Sub,opsOf,Op.operands];done)
  |(replace hc:=ah hc;cases hc;done)
  |(replace hc:=ah hc;cases hc;simp_all [Sub,opsOf,Op.operands];done)
omit [Val] in
theorem zC (T:TypeId) (a x:Operand) {n:NOp} (hc:ap P (.store T a x)=some n):Sub n (.store T a x):=by
 replace hc:jI P T a x=some n:=hc
 unfold jI at hc
 repeat' split at hc
 all_goals first
  |(cases hc;done)
  |(cases hc;simp_all [Sub,opsOf,Op.operands];done)
  |(rw[ae] at hc;cases hc;simp_all [Sub,opsOf,Op.operands];done)
  |(replace hc:=(af hc).2;cases hc;simp_all [Sub,opsOf,Op.operands];done)
  |(replace hc:=(af hc).2;rw[ae] at hc;cases hc;simp_all [Sub,opsOf,Op.operands];done)
  |(replace hc:=ah hc;cases hc;done)
  |(replace hc:=ah hc;cases hc;simp_all [Sub,opsOf,Op.operands];done)
omit [Val] in
theorem rF (x:Operand) {n:NOp} (hc:ap P (.nilCheck x)=some n):Sub n (.nilCheck x):=by
 replace hc:dT x=some n:=hc
 unfold dT at hc
 repeat' split at hc
 all_goals first
  |(cases hc;done)
  |(cases hc;simp_all [Sub,opsOf,Op.operands];done)
  |(rw[ae] at hc;cases hc;simp_all [Sub,opsOf,Op.operands];done)
  |(replace hc:=(af hc).2;cases hc;simp_all [Sub,opsOf,Op.operands];done)
  |(replace hc:=(af hc).2;rw[ae] at hc;cases hc;simp_all [Sub,opsOf,Op.operands];done)
  |(replace hc:=ah hc;cases hc;done)
  |(replace hc:=ah hc;cases hc;simp_all [Sub,opsOf,Op.operands];done)
omit [Val] in
theorem AX (op:BinOp) (T:TypeId) (x y:Operand) (T2:TypeId) {n:NOp} (hc:ap P (.binOp op T x y T2)=some n):Sub n (.binOp op T x y T2):=by
 replace hc:xe P op T x y=some n:=hc
 unfold xe at hc
 repeat' split at hc
 all_goals first
  |(cases hc;done)
  |(cases hc;simp_all [Sub,opsOf,Op.operands];done)
  |(rw[ae] at hc;cases hc;simp_all [Sub,opsOf,Op.operands];done)
  |(replace hc:=(af hc).2;cases hc;simp_all [Sub,opsOf,Op.operands];done)
  |(replace hc:=(af hc).2;rw[ae] at hc;cases hc;simp_all [Sub,opsOf,Op.operands];done)
  |(replace hc:=ah hc;cases hc;done)
  |(replace hc:=ah hc;cases hc;simp_all [Sub,opsOf,Op.operands];done)
omit [Val] in
theorem DY (op:UnOp) (T:TypeId) (x:Operand) {n:NOp} (hc:ap P (.unOp op T x)=some n):Sub n (.unOp op T x):=by
 replace hc:HP op x=some n:=hc
 unfold HP at hc
 repeat' split at hc
 all_goals first
  |(cases hc;done)
  |(cases hc;simp_all [Sub,opsOf,Op.operands];done)
  |(rw[ae] at hc;cases hc;simp_all [Sub,opsOf,Op.operands];done)
  |(replace hc:=(af hc).2;cases hc;simp_all [Sub,opsOf,Op.operands];done)
  |(replace hc:=(af hc).2;rw[ae] at hc;cases hc;simp_all [Sub,opsOf,Op.operands];done)
  |(replace hc:=ah hc;cases hc;done)
  |(replace hc:=ah hc;cases hc;simp_all [Sub,opsOf,Op.operands];done)
omit [Val] in
theorem kA (T:TypeId) (x:Operand) {n:NOp} (hc:ap P (.makeInterface T x)=some n):Sub n (.makeInterface T x):=by
 replace hc:wo P T x=some n:=hc
 unfold wo at hc
 repeat' split at hc
 all_goals first
  |(cases hc;done)
  |(cases hc;simp_all [Sub,opsOf,Op.operands];done)
  |(rw[ae] at hc;cases hc;simp_all [Sub,opsOf,Op.operands];done)
  |(replace hc:=(af hc).2;cases hc;simp_all [Sub,opsOf,Op.operands];done)
  |(replace hc:=(af hc).2;rw[ae] at hc;cases hc;simp_all [Sub,opsOf,Op.operands];done)
  |(replace hc:=ah hc;cases hc;done)
  |(replace hc:=ah hc;cases hc;simp_all [Sub,opsOf,Op.operands];done)
omit [Val] in
theorem pp (T:TypeId) (l c:Operand) {n:NOp} (hc:ap P (.makeSlice T l c)=some n):Sub n (.makeSlice T l c):=by
 replace hc:fw P T l c=some n:=hc
 unfold fw at hc
 repeat' split at hc
 all_goals first
  |(cases hc;done)
  |(cases hc;simp_all [Sub,opsOf,Op.operands];done)
  |(rw[ae] at hc;cases hc;simp_all [Sub,opsOf,Op.operands];done)
  |(replace hc:=(af hc).2;cases hc;simp_all [Sub,opsOf,Op.operands];done)
  |(replace hc:=(af hc).2;rw[ae] at hc;cases hc;simp_all [Sub,opsOf,Op.operands];done)
  |(replace hc:=ah hc;cases hc;done)
  |(replace hc:=ah hc;cases hc;simp_all [Sub,opsOf,Op.operands];done)
omit [Val] in
theorem pc (s:TypeId) (x:Operand) (f:Nat) {n:NOp} (hc:ap P (.fieldAddr s x f)=some n):Sub n (.fieldAddr s x f):=by
 replace hc:dp P s x f=some n:=hc
 unfold dp at hc
 repeat' split at hc
 all_goals first
  |(cases hc;done)
  |(cases hc;simp_all [Sub,opsOf,Op.operands];done)
  |(rw[ae] at hc;cases hc;simp_all [Sub,opsOf,Op.operands];done)
  |(replace hc:=(af hc).2;cases hc;simp_all [Sub,opsOf,Op.operands];done)
  |(replace hc:=(af hc).2;rw[ae] at hc;cases hc;simp_all [Sub,opsOf,Op.operands];done)
  |(replace hc:=ah hc;cases hc;done)
  |(replace hc:=ah hc;cases hc;simp_all [Sub,opsOf,Op.operands];done)
omit [Val] in
theorem zA (s:TypeId) (x:Operand) (f:Nat) {n:NOp} (hc:ap P (.field s x f)=some n):Sub n (.field s x f):=by
 replace hc:j4 P s x f=some n:=hc
 unfold j4 at hc
 repeat' split at hc
 all_goals first
  |(cases hc;done)
  |(cases hc;simp_all [Sub,opsOf,Op.operands];done)
  |(rw[ae] at hc;cases hc;simp_all [Sub,opsOf,Op.operands];done)
  |(replace hc:=(af hc).2;cases hc;simp_all [Sub,opsOf,Op.operands];done)
  |(replace hc:=(af hc).2;rw[ae] at hc;cases hc;simp_all [Sub,opsOf,Op.operands];done)
  |(replace hc:=ah hc;cases hc;done)
  |(replace hc:=ah hc;cases hc;simp_all [Sub,opsOf,Op.operands];done)
omit [Val] in
theorem pm (T:TypeId) (x i:Operand) {n:NOp} (hc:ap P (.indexAddr T x i)=some n):Sub n (.indexAddr T x i):=by
 replace hc:dq P T x i=some n:=hc
 unfold dq at hc
 repeat' split at hc
 all_goals first
  |(cases hc;done)
  |(cases hc;simp_all [Sub,opsOf,Op.operands];done)
  |(rw[ae] at hc;cases hc;simp_all [Sub,opsOf,Op.operands];done)
  |(replace hc:=(af hc).2;cases hc;simp_all [Sub,opsOf,Op.operands];done)
  |(replace hc:=(af hc).2;rw[ae] at hc;cases hc;simp_all [Sub,opsOf,Op.operands];done)
  |(replace hc:=ah hc;cases hc;done)
  |(replace hc:=ah hc;cases hc;simp_all [Sub,opsOf,Op.operands];done)
omit [Val] in
theorem zK (T:TypeId) (x i:Operand) {n:NOp} (hc:ap P (.index T x i)=some n):Sub n (.index T x i):=by
 replace hc:jB P T x i=some n:=hc
 unfold jB at hc
 repeat' split at hc
 all_goals first
  |(cases hc;done)
  |(cases hc;simp_all [Sub,opsOf,Op.operands];done)
  |(rw[ae] at hc;cases hc;simp_all [Sub,opsOf,Op.operands];done)
  |(replace hc:=(af hc).2;cases hc;simp_all [Sub,opsOf,Op.operands];done)
  |(replace hc:=(af hc).2;rw[ae] at hc;cases hc;simp_all [Sub,opsOf,Op.operands];done)
  |(replace hc:=ah hc;cases hc;done)
  |(replace hc:=ah hc;cases hc;simp_all [Sub,opsOf,Op.operands];done)
omit [Val] in
theorem xh (T:TypeId) (x i:Operand) (ok:Bool) {n:NOp} (hc:ap P (.lookup T x i ok)=some n):Sub n (.lookup T x i ok):=by
 replace hc:gX P T x i ok=some n:=hc
 unfold gX at hc
 repeat' split at hc
 all_goals first
  |(cases hc;done)
  |(cases hc;simp_all [Sub,opsOf,Op.operands];done)
  |(rw[ae] at hc;cases hc;simp_all [Sub,opsOf,Op.operands];done)
  |(replace hc:=(af hc).2;cases hc;simp_all [Sub,opsOf,Op.operands];done)
  |(replace hc:=(af hc).2;rw[ae] at hc;cases hc;simp_all [Sub,opsOf,Op.operands];done)
  |(replace hc:=ah hc;cases hc;done)
  |(replace hc:=ah hc;cases hc;simp_all [Sub,opsOf,Op.operands];done)
omit [Val] in
theorem pB (T:TypeId) (m k x:Operand) {n:NOp} (hc:ap P (.mapUpdate T m k x)=some n):Sub n (.mapUpdate T m k x):=by
 replace hc:bu P T m k x=some n:=hc
 unfold bu at hc
 repeat' split at hc
 all_goals first
  |(cases hc;done)
  |(cases hc;simp_all [Sub,opsOf,Op.operands];done)
  |(rw[ae] at hc;cases hc;simp_all [Sub,opsOf,Op.operands];done)
  |(replace hc:=(af hc).2;cases hc;simp_all [Sub,opsOf,Op.operands];done)
  |(replace hc:=(af hc).2;rw[ae] at hc;cases hc;simp_all [Sub,opsOf,Op.operands];done)
  |(replace hc:=ah hc;cases hc;done)
  |(replace hc:=ah hc;cases hc;simp_all [Sub,opsOf,Op.operands];done)
omit [Val] in
theorem ww (T:TypeId) (m k x:Operand) {n:NOp} (hc:ap P (.insert T m k x)=some n):Sub n (.insert T m k x):=by
 replace hc:bu P T m k x=some n:=hc
 unfold bu at hc
 repeat' split at hc
 all_goals first
  |(cases hc;done)
  |(cases hc;simp_all [Sub,opsOf,Op.operands];done)
  |(rw[ae] at hc;cases hc;simp_all [Sub,opsOf,Op.operands];done)
  |(replace hc:=(af hc).2;cases hc;simp_all [Sub,opsOf,Op.operands];done)
  |(replace hc:=(af hc).2;rw[ae] at hc;cases hc;simp_all [Sub,opsOf,Op.operands];done)
  |(replace hc:=ah hc;cases hc;done)
  |(replace hc:=ah hc;cases hc;simp_all [Sub,opsOf,Op.operands];done)
omit [Val] in
theorem nS (x:Operand) (X T:TypeId) {n:NOp} (hc:ap P (.typeAssert x X T true)=some n):Sub n (.typeAssert x X T true):=by
 replace hc:gK P T x=some n:=hc
 unfold gK at hc
 repeat' split at hc
 all_goals first
  |(cases hc;done)
  |(cases hc;simp_all [Sub,opsOf,Op.operands];done)
  |(rw[ae] at hc;cases hc;simp_all [Sub,opsOf,Op.operands];done)
  |(replace hc:=(af hc).2;cases hc;simp_all [Sub,opsOf,Op.operands];done)
  |(replace hc:=(af hc).2;rw[ae] at hc;cases hc;simp_all [Sub,opsOf,Op.operands];done)
  |(replace hc:=ah hc;cases hc;done)
  |(replace hc:=ah hc;cases hc;simp_all [Sub,opsOf,Op.operands];done)
omit [Val] in
theorem tT (x:Operand) (i:Nat) {n:NOp} (hc:ap P (.extract x i)=some n):Sub n (.extract x i):=by
 replace hc:eZ x i=some n:=hc
 unfold eZ at hc
 repeat' split at hc
 all_goals first
  |(cases hc;done)
  |(cases hc;simp_all [Sub,opsOf,Op.operands];done)
  |(rw[ae] at hc;cases hc;simp_all [Sub,opsOf,Op.operands];done)
  |(replace hc:=(af hc).2;cases hc;simp_all [Sub,opsOf,Op.operands];done)
  |(replace hc:=(af hc).2;rw[ae] at hc;cases hc;simp_all [Sub,opsOf,Op.operands];done)
  |(replace hc:=ah hc;cases hc;done)
  |(replace hc:=ah hc;cases hc;simp_all [Sub,opsOf,Op.operands];done)
omit [Val] in
theorem zX (x:Operand) {n:NOp} (hc:ap P (.panic x)=some n):Sub n (.panic x):=by
 replace hc:jz x=some n:=hc
 unfold jz at hc
 repeat' split at hc
 all_goals first
  |(cases hc;done)
  |(cases hc;simp_all [Sub,opsOf,Op.operands];done)
  |(rw[ae] at hc;cases hc;simp_all [Sub,opsOf,Op.operands];done)
  |(replace hc:=(af hc).2;cases hc;simp_all [Sub,opsOf,Op.operands];done)
  |(replace hc:=(af hc).2;rw[ae] at hc;cases hc;simp_all [Sub,opsOf,Op.operands];done)
  |(replace hc:=ah hc;cases hc;done)
  |(replace hc:=ah hc;cases hc;simp_all [Sub,opsOf,Op.operands];done)
omit [Val] in
theorem CY {src dst:Nat} {x:Operand} {y:NOpd} {n:NOp} (hx:az x=some y) (hc:gk P src dst y=some n):Sub n (.convert src dst x):=by
 have key:opsOf n= [y]:=by
  unfold gk at hc
  repeat' split at hc
  all_goals first
   |(cases hc;done)
   |(cases hc;rfl)
   |(replace hc:=lc hc;cases hc;rfl)
   |(rw[ae] at hc;cases hc;rfl)
   |(replace hc:=(af hc).2;cases hc;rfl)
 intro z hz
 rw[key] at hz
 simp at hz
 subst hz
 exact ⟨x,by simp[Op.operands],hx⟩
omit [Val] in
theorem tA {b:Builtin} {args:List NOpd} {ts:List TypeId} {n:NOp} (hc:cV P b args ts=some n):∀y∈opsOf n,y∈args:=by
 unfold cV at hc
 repeat' split at hc
 all_goals first
  |(cases hc;done)
  |(cases hc;simp[opsOf];done)
  |(rw[ae] at hc;cases hc;simp[opsOf];done)
  |(replace hc:=(af hc).2;rw[ae] at hc;cases hc;simp[opsOf];done)
omit [Val] in
theorem I2 {op:Op} {n:NOp} (hc:ap P op=some n):Sub n op:=by
 cases op with
 |move x=>exact Cn x hc
 |assign x=>exact vz x hc
 |pick c a b=>exact CU c a b hc
 |alloc T=>
  replace hc:jP P T=some n:=hc
  unfold jP at hc
  split at hc
  ·rw[ae] at hc;cases hc;intro y hy;cases hy
  ·cases hc
 |box T x=>exact ES T x hc
 |build T ps=>
  replace hc:jO P T ps.toList=some n:=hc
  unfold jO at hc
  repeat' split at hc
  all_goals first
   |(cases hc;done)
   |(rename_i l hl;cases hc;intro y hy;obtain ⟨u,a,b⟩:=qc hl y hy;exact ⟨u,by simpa [Op.operands] using a,b⟩)
 |buildSlice T len ps=>
  replace hc:cS P T len ps.toList=some n:=hc
  unfold cS at hc
  repeat' split at hc
  all_goals first
   |(cases hc;done)
   |(rename_i l hl;replace hc:=(af hc).2;rw[fJ,ae,ae] at hc;cases hc;intro y hy;obtain ⟨u,a,b⟩:=qc hl y hy;exact ⟨u,by simpa [Op.operands] using a,b⟩)
 |load T x=>exact C4 T x hc
 |store T a x=>exact zC T a x hc
 |nilCheck x=>exact rF x hc
 |binOp op T x y T2=>exact AX op T x y T2 hc
 |unOp op T x=>exact DY op T x hc
 |convert src dst x=>
  replace hc:nK P src dst x=some n:=hc
  unfold nK at hc
  split at hc
  ·rename_i y hy;exact CY hy hc
  ·cases hc
 |makeInterface T x=>exact kA T x hc
 |makeFunc fn first caps=>
  cases fn with
  |func f=>
   replace hc:nE f first.toList caps.toList=some n:=hc
   unfold nE at hc
   split at hc
   ·rename_i l h1 h2
    rw[ae] at hc;cases hc
    intro y hy
    obtain ⟨u,a,b⟩:=oh h2 y hy
    exact ⟨u,by simp[Op.operands,h1,a],b⟩
   ·cases hc
  |_=>have hc:(none:Option NOp)=some n:=hc;cases hc
 |makeMap T r=>
  cases r with
  |none=>cases hc;intro y hy;cases hy
  |some r=>have hc:(none:Option NOp)=some n:=hc;cases hc
 |makeSlice T l c=>exact pp T l c hc
 |slice T x lo hi mx=>
  cases mx with
  |none=>
   replace hc:jH P T x lo hi=some n:=hc
   unfold jH at hc
   split at hc
   ·rename_i hT hx hl hh
    cases hc
    intro y hy
    simp only[opsOf,List.mem_cons,List.mem_append] at hy
    rcases hy with rfl|hy|hy
    ·exact ⟨x,by simp[Op.operands],hx⟩
    ·obtain ⟨u,a,b⟩:=kQ hl y hy;exact ⟨u,by simp only[Op.operands];simp at a ⊢;simp[a],b⟩
    ·obtain ⟨u,a,b⟩:=kQ hh y hy;exact ⟨u,by simp only[Op.operands];simp at a ⊢;simp[a],b⟩
   ·rename_i hT hx hl hh
    split at hc
    ·cases hc
     intro y hy
     simp only[opsOf,List.mem_cons,List.mem_append] at hy
     rcases hy with rfl|hy|hy
     ·exact ⟨x,by simp[Op.operands],hx⟩
     ·obtain ⟨u,a,b⟩:=kQ hl y hy;exact ⟨u,by simp only[Op.operands];simp at a ⊢;simp[a],b⟩
     ·obtain ⟨u,a,b⟩:=kQ hh y hy;exact ⟨u,by simp only[Op.operands];simp at a ⊢;simp[a],b⟩
    ·cases hc
   ·cases hc
  |some mx=>
   cases lo with
   |none=>have hc:(none:Option NOp)=some n:=hc;cases hc
   |some lo=>
    cases hi with
    |none=>have hc:(none:Option NOp)=some n:=hc;cases hc
    |some hi=>
     replace hc:gT P T x lo hi mx=some n:=hc
     unfold gT at hc
     split at hc
     ·rename_i hT hx hl hh hm
      split at hc
      ·cases hc
       intro y hy
       simp only[opsOf,List.mem_cons,List.not_mem_nil,or_false] at hy
       rcases hy with rfl|rfl|rfl|rfl
       ·exact ⟨x,by simp[Op.operands],hx⟩
       ·exact ⟨lo,by simp[Op.operands],hl⟩
       ·exact ⟨hi,by simp[Op.operands],hh⟩
       ·exact ⟨mx,by simp[Op.operands],hm⟩
      ·cases hc
     ·cases hc
 |fieldAddr s x f=>exact pc s x f hc
 |field s x f=>exact zA s x f hc
 |indexAddr T x i=>exact pm T x i hc
 |index T x i=>exact zK T x i hc
 |lookup T x i ok=>exact xh T x i ok hc
 |mapUpdate T m k x=>exact pB T m k x hc
 |insert T m k x=>exact ww T m k x hc
 |typeAssert x X T ok=>
  cases ok with
  |false=>have hc:(none:Option NOp)=some n:=hc;cases hc
  |true=>exact nS x X T hc
 |extract x i=>exact tT x i hc
 |panic x=>exact zX x hc
 |call c=>
  obtain ⟨callee,args,ats⟩:=c
  cases callee with
  |value f=>
   replace hc:n7 f args.toList=some n:=hc
   unfold n7 at hc
   split at hc
   ·rename_i hf hl
    cases hc
    intro y hy
    rcases List.mem_cons.1 hy with rfl|hy
    ·exact ⟨f,by simp[Op.operands,Call.operands],hf⟩
    ·obtain ⟨u,a,b⟩:=oh hl y hy
     exact ⟨u,by simp[Op.operands,Call.operands];right;simpa using a,b⟩
   ·cases hc
  |builtin b=>
   replace hc:fh P b args.toList ats.toList=some n:=hc
   unfold fh at hc
   split at hc
   ·rename_i l hl
    intro y hy
    obtain ⟨u,a,b⟩:=oh hl y (tA hc y hy)
    exact ⟨u,by simp[Op.operands,Call.operands];simpa using a,b⟩
   ·cases hc
  |invoke r m=>have hc:(none:Option NOp)=some n:=hc;cases hc
 |defer c=>
  obtain ⟨callee,args,ats⟩:=c
  cases callee with
  |value f=>
   replace hc:ft f args.toList=some n:=hc
   unfold ft at hc
   split at hc
   ·rename_i y h1 hf
    cases hc
    intro z hz
    simp only[opsOf,List.mem_singleton] at hz
    subst hz
    exact ⟨f,by simp[Op.operands,Call.operands],hf⟩
   ·cases hc
  |builtin b=>have hc:(none:Option NOp)=some n:=hc;cases hc
  |invoke r m=>have hc:(none:Option NOp)=some n:=hc;cases hc
 |_=>have hc:(none:Option NOp)=some n:=hc;cases hc
omit [Val] in
theorem Fk {x:Operand} {k:Nat} (hc:az x=some (.tmp (D4.of k))):x= .tmp k:=by
 cases x with
 |tmp j=>
  have hc':(D4.ofNat j fun t=>some (NOpd.tmp t))=some (.tmp (D4.of k)):=hc
  rw[D4.ofNat_eq] at hc'
  injection hc' with hc'
  injection hc' with hc'
  rw[D4.of_inj hc']
 |const v=>
  have hc':(match ofValue v with|some v=>some (NOpd.const v)|none=>none)=some (.tmp (D4.of k)):=hc
  split at hc'<;>cases hc'
 |func f=>
  have hc':(aw f fun f=>some (NOpd.const (.fn f [])))=some (.tmp (D4.of k)):=hc
  rw[ae] at hc';cases hc'
 |global g=>cases hc
omit [Val] in
theorem FA {op:Op} {n:NOp} (hc:ap P op=some n) {k:Nat} (hk:NOpd.tmp (D4.of k)∈opsOf n):Operand.tmp k∈op.operands.toList:=by
 obtain ⟨x,h1,h2⟩:=I2 hc _ hk
 rw[←Fk h2];exact h1
end
end Nm
namespace Nm
open Go
variable [Val]
omit [Val] in
theorem vq {b:Bool} {m:String} (h:CheckCode.require b m= .ok ()):b=true:=by
 unfold CheckCode.require at h
 cases b with
 |true=>rfl
 |false=>cases h
omit [Val] in
theorem bH {α β:Type} {x:Except String α} {f:α->Except String β} {r:β} (h:(x>>=f)= .ok r):∃a,x= .ok a/\f a= .ok r:=by
 cases x with
 |error e=>cases h
 |ok a=>exact ⟨a,rfl,h⟩
omit [Val] in
theorem rb {α:Type} {f:α->Except String PUnit}:∀{l:List α},l.forM f= .ok ()->∀a∈l,f a= .ok ():=by
 intro l
 induction l with
 |nil=>intro _ a ha;cases ha
 |cons b l ih=>
  intro h a ha
  have h':(f b>>=fun _=>l.forM f)= .ok ():=h
  obtain ⟨u,h1,h2⟩:=bH h'
  rcases List.mem_cons.1 ha with rfl|ha
  ·exact h1
  ·exact ih h2 a ha
omit [Val] in
theorem tg {α:Type} {f:String->String} {x:Except String α} {r:α} (h:x.mapError f= .ok r):x= .ok r:=by
 cases x with
 |error e=>cases h
 |ok a=>exact h
omit [Val] in
theorem Jq {α:Type} (f:α->Except String PUnit) (l:List α):Array.forM f l.toArray=l.forM f:=by simp
structure RegOK (P:Program) (fn:Func) (ops:Array Oper):Prop where
 dst:∀(i:Nat) (o:Oper) (d:Nat),ops[i]? =some o->o.dst=some d->d<fn.ntmps
 edge:∀(i:Nat) (o:Oper) (e:Edge),ops[i]? =some o->e∈o.after.toList->Region.binds .any e=true->e.on<i
 guard:∀(i:Nat) (o:Oper) (j:Nat) (b:Bool),ops[i]? =some o->o.guard=some (j,b)->(∃e∈o.after.toList,e.on=j/\Region.binds .any e=true)/\∃(oj:Oper) (d:Nat),ops[j]? =some oj/\oj.dst=some d
 tmps:Region.temporariesOk ops (Region.before ops)=true
section
variable {P:Program} {fn:Func} {bl la:List Nat}
omit [Val] in
theorem A0 {a b:Code} (h:CheckCode.code P fn bl la (.seq a b)= .ok ()):CheckCode.code P fn bl la a= .ok ()/\CheckCode.code P fn bl la b= .ok ():=by
 unfold CheckCode.code at h
 obtain ⟨_,h1,h2⟩:=bH h
 exact ⟨h1,h2⟩
omit [Val] in
theorem Ak {c:Operand} {a b:Code} (h:CheckCode.code P fn bl la (.cond c a b)= .ok ()):CheckCode.code P fn bl la a= .ok ()/\CheckCode.code P fn bl la b= .ok ():=by
 unfold CheckCode.code at h
 obtain ⟨_,_,h⟩:=bH h
 obtain ⟨_,h1,h2⟩:=bH h
 exact ⟨h1,h2⟩
omit [Val] in
theorem u5 {id:Nat} {a:Code} (h:CheckCode.code P fn bl la (.block id a)= .ok ()):CheckCode.code P fn (id::bl) la a= .ok ():=by
 unfold CheckCode.code at h;exact h
omit [Val] in
theorem zV {a:Code} (h:CheckCode.code P fn bl la (.loop a)= .ok ()):CheckCode.code P fn bl la a= .ok ():=by
 unfold CheckCode.code at h;exact h
omit [Val] in
theorem xp {f:Operand} {ps:Array Nat} {a b:Code} (h:CheckCode.code P fn bl la (.rangeFunc f ps a b)= .ok ()):
 (∀t∈ps.toList,t<fn.ntmps)/\CheckCode.code P fn [] [] a= .ok ()/\CheckCode.code P fn bl la b= .ok ():=by
 unfold CheckCode.code at h
 obtain ⟨_,_,h⟩:=bH h
 obtain ⟨_,h1,h⟩:=bH h
 obtain ⟨_,_,h⟩:=bH h
 obtain ⟨_,h2,h3⟩:=bH h
 refine ⟨fun t ht=> ?_,h2,h3⟩
 rw[show ps=ps.toList.toArray by simp,Jq] at h1
 have:=vq (rb h1 t ht)
 simpa using this
omit [Val] in
theorem mh {id:Nat} {ops:Array Oper} {draw:Bool} (h:CheckCode.code P fn bl la (.region id ops draw)= .ok ()):RegOK P fn ops:=by
 unfold CheckCode.code at h
 unfold CheckCode.region at h
 obtain ⟨_,h1,h⟩:=bH h
 obtain ⟨_,_,h⟩:=bH h
 have hok:=vq h
 unfold Region.ok at hok
 simp only[Bool.and_eq_true] at hok
 obtain ⟨⟨⟨⟨hedge,htmp⟩,_⟩,_⟩,_⟩:=hok
 have hmem:∀i o,ops[i]? =some o->(o,i)∈ops.zipIdx/\(o,i)∈ops.toList.zipIdx:=fun i o ho=>by
  have hlt:=(Array.getElem?_eq_some_iff.1 ho).1
  have he:=(Array.getElem?_eq_some_iff.1 ho).2
  constructor
  ·rw[Array.mem_zipIdx_iff_getElem?];exact ho
  ·rw[List.mem_zipIdx_iff_getElem?];simpa using ho
 refine ⟨?_, ?_, ?_,htmp⟩
 ·intro i o d ho hd
  have:=rb h1 (o,i) (hmem i o ho).2
  dsimp only at this
  rw[hd] at this
  obtain ⟨_,h2,_⟩:=bH this
  have:=vq h2
  simpa using this
 ·intro i o e ho he hb
  rw[Array.all_eq_true'] at hedge
  have:=hedge (o,i) (hmem i o ho).1
  simp only[Bool.and_eq_true] at this
  have h2:=this.1
  rw[Array.all_eq_true'] at h2
  have h3:=h2 e (by simpa using he)
  rw[Bool.or_eq_true] at h3
  rcases h3 with h3|h3
  ·simpa using h3
  ·unfold Region.binds at hb
   split at h3
   ·rename_i hg;rw[hg] at hb;cases hb
   ·cases h3
 ·intro i o j b ho hg
  rw[Array.all_eq_true'] at hedge
  have:=hedge (o,i) (hmem i o ho).1
  simp only[Bool.and_eq_true] at this
  have h2:=this.2
  rw[hg] at h2
  simp only[Bool.and_eq_true] at h2
  obtain ⟨h3,h4⟩:=h2
  rw[Array.any_eq_true'] at h3
  obtain ⟨e,e1,e2⟩:=h3
  simp only[Bool.and_eq_true,beq_iff_eq] at e2
  refine ⟨⟨e,by simpa using e1,e2.1,e2.2⟩, ?_⟩
  rw[Option.isSome_iff_exists] at h4
  obtain ⟨d,hd⟩:=h4
  rw[Option.bind_eq_some_iff] at hd
  obtain ⟨oj,q1,q2⟩:=hd
  exact ⟨oj,d,q1,q2⟩
end
omit [Val] in
theorem yD {α:Type} {p:List α->Prop} (h0:p []) (h1:∀l a,p l->p (l++ [a])):∀l,p l:=by
 intro l
 have h:p l.reverse.reverse:=by
  induction l.reverse with
  |nil=>exact h0
  |cons a m ih=>rw[List.reverse_cons];exact h1 _ _ ih
 simpa using h
def dg {α β:Type} (g:Array β->α->β) (l:List α):Array β:=l.foldl (fun acc a=>acc.push (g acc a)) #[]
omit [Val] in
theorem cG {α β:Type} (g:Array β->α->β) (l:List α) (a:α):dg g (l++ [a])=(dg g l).push (g (dg g l) a):=by simp[dg]
omit [Val] in
theorem pj {α β:Type} (g:Array β->α->β) (l:List α):(dg g l).size=l.length:=by
 induction l using yD with
 |h0=>rfl
 |h1 l a ih=>rw[cG];simp[ih]
omit [Val] in
theorem kS {α β:Type} (g:Array β->α->β) (l:List α) (i:Nat) (a:α) (h:l[i]? =some a):
 ∃acc:Array β,(dg g l)[i]? =some (g acc a)/\acc.size=i/\∀j,j<i->acc[j]? =(dg g l)[j]? :=by
 induction l using yD with
 |h0=>simp at h
 |h1 l b ih=>
  have hs:=pj g l
  by_cases hi:i<l.length
  ·rw[List.getElem?_append_left hi] at h
   obtain ⟨acc,h1,h2,h3⟩:=ih h
   refine ⟨acc, ?_,h2,fun j hj=> ?_⟩
   ·rw[cG,Array.getElem?_push,if_neg (by omega)];exact h1
   ·rw[cG,Array.getElem?_push,if_neg (by omega)];exact h3 j hj
  ·have hlt:=(List.getElem?_eq_some_iff.1 h).1
   simp at hlt
   have hil:i=l.length:=by omega
   subst hil
   have:b=a:=by simpa using h
   subst this
   refine ⟨dg g l, ?_,hs,fun j hj=> ?_⟩
   ·rw[cG,Array.getElem?_push,if_pos hs.symm]
   ·rw[cG,Array.getElem?_push,if_neg (by omega)]
def uJ (ops:Array Oper) (i:Nat):Nat:=(Region.before ops).getD i 0
omit [Val] in
theorem lj (ops:Array Oper):Region.before ops=dg (fun acc (o:Oper)=>o.after.foldl (fun s e=>if Region.binds .any e then s|||2 ^ e.on|||acc.getD e.on 0 else s) 0) ops.toList:=by
 unfold Region.before dg
 rw[←Array.foldl_toList]
omit [Val] in
theorem Be (f:Nat->Nat) (b:Edge->Bool) (j:Nat):∀(l:List Edge) (s:Nat),(l.foldl (fun s e=>if b e then s|||2 ^ e.on|||f e.on else s) s).testBit j=true->
 s.testBit j=true∨∃e∈l,b e=true/\(e.on=j∨(f e.on).testBit j=true):=by
 intro l
 induction l with
 |nil=>intro s h;exact .inl h
 |cons e l ih=>
  intro s h
  rw[List.foldl_cons] at h
  rcases ih _ h with h|⟨e',h1,h2,h3⟩
  ·by_cases hb:b e=true
   ·rw[if_pos hb] at h
    rw[Nat.testBit_or,Nat.testBit_or,Bool.or_eq_true,Bool.or_eq_true] at h
    rcases h with (h|h)|h
    ·exact .inl h
    ·rw[Nat.testBit_two_pow] at h
     exact .inr ⟨e,by simp,hb,.inl (by simpa using h)⟩
    ·exact .inr ⟨e,by simp,hb,.inr h⟩
   ·rw[if_neg hb] at h;exact .inl h
  ·exact .inr ⟨e',by simp[h1],h2,h3⟩
omit [Val] in
theorem F9 {ops:Array Oper} {i:Nat} {o:Oper} (ho:ops[i]? =some o) {j:Nat} (h:(uJ ops i).testBit j=true):
 ∃e∈o.after.toList,Region.binds .any e=true/\(e.on=j∨(e.on<i/\(uJ ops e.on).testBit j=true)):=by
 unfold uJ at h
 rw[lj] at h
 obtain ⟨acc,h1,h2,h3⟩:=kS (fun acc (o:Oper)=>o.after.foldl (fun s e=>if Region.binds .any e then s|||2 ^ e.on|||acc.getD e.on 0 else s) 0) ops.toList i o (by simpa using ho)
 rw[Array.getD_eq_getD_getElem?,h1] at h
 simp only[Option.getD_some] at h
 rw[←Array.foldl_toList] at h
 rcases Be (fun k=>acc.getD k 0) (Region.binds .any) j o.after.toList 0 h with h|⟨e,e1,e2,e3⟩
 ·simp at h
 ·refine ⟨e,e1,e2, ?_⟩
  rcases e3 with e3|e3
  ·exact .inl e3
  ·right
   by_cases hlt:e.on<i
   ·refine ⟨hlt, ?_⟩
    unfold uJ
    rw[lj,Array.getD_eq_getD_getElem?,←h3 _ hlt,←Array.getD_eq_getD_getElem?];exact e3
   ·rw[Array.getD_eq_getD_getElem?,Array.getElem?_eq_none (by omega)] at e3
    simp at e3
def cY (ops:Array Oper) (X:Nat->Prop) (i:Nat):Prop:=∀o,ops[i]? =some o->∀e∈o.after.toList,Region.binds .any e=true->X e.on
omit [Val] in
theorem I6 {P:Program} {fn:Func} {ops:Array Oper} (hr:RegOK P fn ops) {X:Nat->Prop} (hX:∀i,X i->cY ops X i):∀(i:Nat) (o:Oper),ops[i]? =some o->cY ops X i->∀j,(uJ ops i).testBit j=true->X j:=by
 intro i
 induction i using Nat.strongRecOn with
 |_ i ih=>
  intro o ho he j hj
  obtain ⟨e,e1,e2,e3⟩:=F9 ho hj
  have hx:=he o ho e e1 e2
  rcases e3 with rfl|⟨e3,e4⟩
  ·exact hx
  ·have hlt:=hr.edge i o e ho e1 e2
   have hsz:e.on<ops.size:=Nat.lt_trans hlt (Array.getElem?_eq_some_iff.1 ho).1
   exact ih e.on hlt ops[e.on] (Array.getElem?_eq_getElem hsz) (hX _ hx) j e4
def bN (ops:Array Oper) (listed:Array Bool):List Nat:=
 (List.range ops.size).filter fun i=> !listed.getD i true&&((ops[i]?).map (·.after.all fun e=> !Region.binds .any e||listed.getD e.on false)).getD false
omit [Val] in
theorem Fj (ops:Array Oper) (t:Nat) (listed:Array Bool):Region.linearise.go .any ops 0 t listed []= []:=by simp[Region.linearise.go]
omit [Val] in
theorem IR (ops:Array Oper):∀(fuel t:Nat) (listed:Array Bool) (acc:List Nat),Region.linearise.go .any ops fuel t listed acc=acc.reverse++Region.linearise.go .any ops fuel t listed []:=by
 intro fuel
 induction fuel with
 |zero=>intro t listed acc;simp[Region.linearise.go]
 |succ fuel ih=>
  intro t listed acc
  simp only[Region.linearise.go]
  split
  ·rename_i i _
   rw[ih _ _ (i::acc),ih _ _ [i]]
   simp
  ·simp
omit [Val] in
theorem F1 (ops:Array Oper) (fuel t:Nat) (listed:Array Bool):
 (bN ops listed= []/\Region.linearise.go .any ops (fuel+1) t listed []= [])∨
 ∃i t',i∈bN ops listed/\Region.linearise.go .any ops (fuel+1) t listed []=i::Region.linearise.go .any ops fuel t' (listed.setIfInBounds i true) []:=by
 simp only[Region.linearise.go]
 change (bN ops listed= []/\(match (bN ops listed)[t % (bN ops listed).length]? with
  |some i=>Region.linearise.go .any ops fuel (t / (bN ops listed).length) (listed.setIfInBounds i true) [i]
  |none=> [].reverse)= [])∨∃i t',i∈bN ops listed/\(match (bN ops listed)[t % (bN ops listed).length]? with
  |some i=>Region.linearise.go .any ops fuel (t / (bN ops listed).length) (listed.setIfInBounds i true) [i]
  |none=> [].reverse)=i::Region.linearise.go .any ops fuel t' (listed.setIfInBounds i true) []
 cases hi:(bN ops listed)[t % (bN ops listed).length]? with
 |none=>
  left
  refine ⟨?_,rfl⟩
  cases hr:bN ops listed with
  |nil=>rfl
  |cons x xs=>
   rw[hr] at hi
   have hlt:t % (x::xs).length<(x::xs).length:=Nat.mod_lt _ (by simp)
   simp at hi
   simp at hlt
   omega
 |some i=>
  right
  refine ⟨i,t / (bN ops listed).length,List.mem_of_getElem? hi, ?_⟩
  dsimp only
  rw[IR];simp
def iA (ops:Array Oper) (listed:Array Bool):List Nat:=(List.range ops.size).filter fun i=> !listed.getD i true
omit [Val] in
theorem E6 {p q:Nat->Bool}:∀{l:List Nat},(∀i∈l,q i=true->p i=true)->∀i∈l,p i=true->q i=false->(l.filter q).length<(l.filter p).length:=by
 intro l
 induction l with
 |nil=>intro _ i hi;cases hi
 |cons a l ih=>
  intro hpq i hi hp hq
  have hle:(l.filter q).length<=(l.filter p).length:=by
   clear ih hi
   have hpq':∀i∈l,q i=true->p i=true:=fun i hi=>hpq i (by simp[hi])
   clear hpq
   induction l with
   |nil=>simp
   |cons b l ih2=>
    have:=ih2 fun i hi=>hpq' i (by simp[hi])
    rw[List.filter_cons,List.filter_cons]
    by_cases hqb:q b=true
    ·rw[if_pos hqb,if_pos (hpq' b (by simp) hqb)];simpa using this
    ·rw[if_neg hqb]
     split
     ·simp;omega
     ·exact this
  rcases List.mem_cons.1 hi with rfl|hi
  ·rw[List.filter_cons,List.filter_cons,if_pos hp,if_neg (by simp[hq])]
   simp;omega
  ·have:=ih (fun j hj=>hpq j (by simp[hj])) i hi hp hq
   rw[List.filter_cons,List.filter_cons]
   by_cases hqa:q a=true
   ·rw[if_pos hqa,if_pos (hpq a (by simp) hqa)];simpa using this
   ·rw[if_neg hqa]
    split
    ·simp;omega
    ·exact this
omit [Val] in
theorem xk {P:Program} {fn:Func} {ops:Array Oper} (hr:RegOK P fn ops) {listed:Array Bool} (hs:listed.size=ops.size) (h:bN ops listed= []):∀i,i<ops.size->listed[i]? =some true:=by
 intro i
 induction i using Nat.strongRecOn with
 |_ i ih=>
  intro hi
  rw[Array.getElem?_eq_getElem (by omega)]
  cases hl:listed[i]'(by omega) with
  |true=>rfl
  |false=>
   have hm:i∈bN ops listed:=by
    unfold bN
    rw[List.mem_filter]
    refine ⟨by simpa using hi, ?_⟩
    rw[Bool.and_eq_true]
    constructor
    ·rw[Array.getD_eq_getD_getElem?,Array.getElem?_eq_getElem (by omega)];simp[hl]
    ·rw[Array.getElem?_eq_getElem hi]
     simp only[Option.map_some,Option.getD_some]
     rw[Array.all_eq_true']
     intro e he
     cases hb:Region.binds .any e with
     |false=>rfl
     |true=>
      have hlt:=hr.edge i ops[i] e (Array.getElem?_eq_getElem hi) (by simpa using he) hb
      have:=ih e.on hlt (by omega)
      rw[Array.getD_eq_getD_getElem?,this];rfl
   rw[h] at hm;cases hm
omit [Val] in
theorem zU {ops:Array Oper} {listed:Array Bool} {i:Nat} (h:i∈bN ops listed):∃o,ops[i]? =some o/\listed.getD i true=false/\∀e∈o.after.toList,Region.binds .any e=true->listed[e.on]? =some true:=by
 unfold bN at h
 rw[List.mem_filter] at h
 obtain ⟨h1,h2⟩:=h
 rw[Bool.and_eq_true] at h2
 have hi:i<ops.size:=by simpa using h1
 refine ⟨ops[i],Array.getElem?_eq_getElem hi,by simpa using h2.1,fun e he hb=> ?_⟩
 have h3:=h2.2
 rw[Array.getElem?_eq_getElem hi] at h3
 simp only[Option.map_some,Option.getD_some] at h3
 rw[Array.all_eq_true'] at h3
 have:=h3 e (by simpa using he)
 rw[hb] at this
 simp only[Bool.not_true,Bool.false_or] at this
 rw[Array.getD_eq_getD_getElem?] at this
 cases hq:listed[e.on]? with
 |none=>rw[hq] at this;cases this
 |some b=>rw[hq] at this;simp at this;rw[this]
end Nm
namespace Nm
open Go
variable [Val]
noncomputable def aT (d:Option D4) (v:NV) (t:Tm):Tm:=match d with|some k=>NT.put k v t|none=>t
omit [Val] in
theorem dl {R:Type} (d:Option D4) (v:NV) (t:Tm) (K:Tm->R):iB d v t K=K (aT d v t):=by
 cases d with
 |none=>rfl
 |some k=>exact NT.set_eq _ _ _ _
def DR (ι:aW):List Dfr->List Deferred->Prop
 | [], []=>True
 | .call f cap::l,d::l'=>(∃cap',VRL ι cap cap'/\d={target:= .fn (.func f) cap'.toArray,args:=#[]})/\DR ι l l'
 | .mark id::l,d::l'=>(∃p,ι id=some p/\d={target:= .collected p.b,args:=#[]})/\DR ι l l'
 |_,_=>False
theorem DR.mono {ι ι':aW} (hι:ι.le ι'):∀{l:List Dfr} {l':List Deferred},DR ι l l'->DR ι' l l'
 | [], [],_=>trivial
 | [],_::_,h=>h
 | .call _ _::_, [],h=>h
 | .mark _::_, [],h=>h
 | .call _ _::_,_::_,⟨⟨c,h1,h2⟩,h3⟩=>⟨⟨c,h1.mono hι,h2⟩,DR.mono hι h3⟩
 | .mark _::_,_::_,⟨⟨p,h1,h2⟩,h3⟩=>⟨⟨p,hι _ _ h1,h2⟩,DR.mono hι h3⟩
def uZ (ι:aW) (kind:CallKind) (cs:List Frame):Option NV->Prop
 |none=>∀b:Frame,b.kind=kind->tryRecover b cs=none
 |some v=>kind= .deferred/\∃(c:Frame) (rest:List Frame) (v':Value) (older:List PanicEntry),cs=c::rest/\c.mode= .panicking ({v:=v',recovered:=false}::older)/\VR ι v v'
theorem uZ.mono {ι ι':aW} (hι:ι.le ι') {k:CallKind} {cs:List Frame} {x:Option NV} (h:uZ ι k cs x):uZ ι' k cs x:=by
 cases x with
 |none=>exact h
 |some v=>obtain ⟨h1,c,r,v',o,h2,h3,h4⟩:=h;exact ⟨h1,c,r,v',o,h2,h3,h4.mono hι⟩
def mS (cs:List Frame) (x:Option NV) (cs':List Frame) (x':Option NV):Prop:=
 (cs'=cs/\x'=x)∨(x'=none/\x≠none/\∃(c:Frame) (rest:List Frame) (v':Value) (older:List PanicEntry),cs=c::rest/\c.mode= .panicking ({v:=v',recovered:=false}::older)/\
  cs'={c with mode:= .panicking ({v:=v',recovered:=true}::older)}::rest)
omit [Val] in
theorem mS.refl (cs:List Frame) (x:Option NV):mS cs x cs x:= .inl ⟨rfl,rfl⟩
omit [Val] in
theorem mS.trans {a b c:List Frame} {x y z:Option NV} (h:mS a x b y) (k:mS b y c z):mS a x c z:=by
 rcases h with ⟨rfl,rfl⟩|⟨rfl,h1,h2⟩
 ·exact k
 ·rcases k with ⟨rfl,rfl⟩|⟨_,k1,_⟩
  ·exact .inr ⟨rfl,h1,h2⟩
  ·exact absurd rfl k1
omit [Val] in
theorem mS.none {a b:List Frame} {y:Option NV} (h:mS a none b y):b=a/\y=Option.none:=by
 rcases h with ⟨rfl,rfl⟩|⟨_,h,_⟩
 ·exact ⟨rfl,rfl⟩
 ·exact absurd rfl h
def Lv (ι:aW):Option D4->Option Nat->Prop
 |none,r=>r=none
 |some l,r=>∃p,ι l=some p/\r=some p.b
omit [Val] in
theorem Lv.mono {ι ι':aW} (hι:ι.le ι') {l:Option D4} {r:Option Nat} (h:Lv ι l r):Lv ι' l r:=by
 cases l with
 |none=>exact h
 |some l=>obtain ⟨p,h1,h2⟩:=h;exact ⟨p,hι _ _ h1,h2⟩
structure Sd (P:Program) (ι:aW) (B:Nat) (rnd:Option D4) (dfs:List Dfr) (ctx:Option NV) (h:NH) (b:Frame) (ds:List Deferred) (cs:List Frame) (w:World):Prop where
 df:DR ι dfs ds
 cx:uZ ι b.kind cs ctx
 rel:Rel P ι B h w
 base:B<=w.heap.size
 rn:Lv ι rnd b.roundOf
structure Mv (P:Program) (B:Nat) (rnd:Option D4) (b:Frame) (ι:aW) (ctx:Option NV) (h:NH) (cs:List Frame) (w:World) (ι':aW) (dfs':List Dfr) (ctx':Option NV) (h':NH) (ds':List Deferred) (cs':List Frame) (w':World):Prop where
 sd:Sd P ι' B rnd dfs' ctx' h' b ds' cs' w'
 gr:Grow ι h w ι' h' w'
 ca:mS cs ctx cs' ctx'
theorem Mv.refl {P:Program} {B:Nat} {rnd:Option D4} {b:Frame} {ι:aW} {dfs:List Dfr} {ctx:Option NV} {h:NH} {ds:List Deferred} {cs:List Frame} {w:World} (s:Sd P ι B rnd dfs ctx h b ds cs w):
 Mv P B rnd b ι ctx h cs w ι dfs ctx h ds cs w:=⟨s,.refl _ _ _,.refl _ _⟩
theorem Mv.trans {P:Program} {B:Nat} {rnd:Option D4} {b:Frame} {ι ι1 ι2:aW} {dfs1 dfs2:List Dfr} {ctx ctx1 ctx2:Option NV} {h h1 h2:NH} {ds1 ds2:List Deferred} {cs cs1 cs2:List Frame} {w w1 w2:World}
 (x:Mv P B rnd b ι ctx h cs w ι1 dfs1 ctx1 h1 ds1 cs1 w1) (y:Mv P B rnd b ι1 ctx1 h1 cs1 w1 ι2 dfs2 ctx2 h2 ds2 cs2 w2):Mv P B rnd b ι ctx h cs w ι2 dfs2 ctx2 h2 ds2 cs2 w2:=
 ⟨y.sd,x.gr.trans y.gr,x.ca.trans y.ca⟩
inductive OpO where
 |fail
 |next (v:NV) (dfs:List Dfr) (ctx:Option NV) (h:NH)
 |pan (v:NV) (h:NH)
section
variable (P:Program) (S:Nat->List NV->Option NV) (self:Option D4->NC->Dyn->Res)
noncomputable def yf (dfs:List Dfr) (ctx:Option NV):CR->OpO
 | .val v _ h=> .next v dfs ctx h
 | .pan v _ h=> .pan v h
 | .fail=> .fail
noncomputable def dQ (rnd:Option D4) (dfs:List Dfr) (ctx:Option NV) (h:NH):NR->OpO
 | .fail=> .fail
 | .val v=> .next v dfs ctx h
 | .mem v h=> .next v dfs ctx h
 | .call f args=>yf dfs ctx (cm P S self f args h)
 | .yld l args=>yf dfs ctx (round self l args h)
 | .pan v=> .pan v h
 | .dfr f cap=>match rnd with|none=> .next aM (.call f cap::dfs) ctx h|some _=> .fail
 | .recov=>match rnd,ctx with
  |none,some v=> .next v dfs none h
  |none,none=> .next .nili dfs none h
  |some _,_=> .fail
noncomputable def zS (dst:Option D4) (K:Dyn->Res) (t:Tm) (dfs:List Dfr) (ctx:Option NV):OpO->Res
 | .fail=> .fail
 | .next v dfs ctx h=>K ⟨aT dst v t,dfs,ctx,h⟩
 | .pan v h=> .mk (.pan v) ⟨t,dfs,ctx,h⟩
omit [Val] in
theorem qi (rnd:Option D4) (dst:Option D4) (K:Dyn->Res) (t:Tm) (dfs:List Dfr) (ctx:Option NV) (h:NH) (r:NR):
 nT P S self rnd dst K t dfs ctx h r=zS dst K t dfs ctx (dQ P S self rnd dfs ctx h r):=by
 cases r with
 |fail=>rfl
 |val v=>exact dl dst v t fun t=>K ⟨t,dfs,ctx,h⟩
 |mem v h=>exact dl dst v t fun t=>K ⟨t,dfs,ctx,h⟩
 |call f args=>
  show mG dst K t dfs ctx (cm P S self f args h)=zS dst K t dfs ctx (yf dfs ctx (cm P S self f args h))
  cases cm P S self f args h with
  |fail=>rfl
  |val v c h=>exact dl dst v t fun t=>K ⟨t,dfs,ctx,h⟩
  |pan v c h=>rfl
 |yld l args=>
  show mG dst K t dfs ctx (round self l args h)=zS dst K t dfs ctx (yf dfs ctx (round self l args h))
  cases round self l args h with
  |fail=>rfl
  |val v c h=>exact dl dst v t fun t=>K ⟨t,dfs,ctx,h⟩
  |pan v c h=>rfl
 |pan v=>rfl
 |dfr f cap=>cases rnd with|none=>exact dl dst aM t fun t=>K ⟨t,.call f cap::dfs,ctx,h⟩|some l=>rfl
 |recov=>
  cases rnd with
  |none=>
   cases ctx with
   |none=>exact dl dst .nili t fun t=>K ⟨t,dfs,none,h⟩
   |some v=>exact dl dst v t fun t=>K ⟨t,dfs,none,h⟩
  |some l=>rfl
end
def ss (P:Program) (ι:aW) (B:Nat) (h:NH) (w:World) (s:Result Next):CR->Prop
 | .fail=>True
 | .val v _ h'=>∀(c:Frame) (cs:List Frame),∃ι' v' w',VR ι' v v'/\Rel P ι' B h' w'/\B<=w'.heap.size/\Grow ι h w ι' h' w'/\
  (s= .ok (.value v') w'∨∃w1,((∃f args,s= .ok (.enter f args) w1/\Steps P (lone (Frame.enter P f args .normal) (c::cs) w1) (lone (c.finish v') cs w'))∨
   (∃l f tm x y,s= .ok (.round l f tm x y) w1/\Steps P (lone (Frame.round l f tm x y .normal) (c::cs) w1) (lone (c.finish v') cs w'))))
 | .pan v _ h'=>∀(c:Frame) (cs:List Frame),∃ι' v' w',VR ι' v v'/\Rel P ι' B h' w'/\B<=w'.heap.size/\Grow ι h w ι' h' w'/\
  ∃w1,((∃f args,s= .ok (.enter f args) w1/\Steps P (lone (Frame.enter P f args .normal) (c::cs) w1) (lone (c.raise [{v:=v',recovered:=false}]) cs w'))∨
   (∃l f tm x y,s= .ok (.round l f tm x y) w1/\Steps P (lone (Frame.round l f tm x y .normal) (c::cs) w1) (lone (c.raise [{v:=v',recovered:=false}]) cs w')))
structure CallsOK (P:Program) (S:Nat->List NV->Option NV) (go:Option D4->NC->Dyn->Res):Prop where
 call:∀(ι:aW) (B:Nat) (h:NH) (w:World) (f:Nat) (args:List NV) (args':List Value),Rel P ι B h w->B<=w.heap.size->VRL ι args args'->
  ss P ι B h w ((callFunc f args'.toArray).run P w) (cm P S go f args h)
 yld:∀(ι:aW) (B:Nat) (h:NH) (w:World) (l:D4) (p:Pl) (args:List NV) (args':List Value),Rel P ι B h w->B<=w.heap.size->VRL ι args args'->ι l=some p->
  ss P ι B h w ((Instr.yield p.b args'.toArray).run P w) (round go l args h)
section
variable {P:Program} {S:Nat->List NV->Option NV} {self:Option D4->NC->Dyn->Res} {B:Nat} {b:Frame} {a:Act} {k:List Item} {cs:List Frame} {w:World} {ops:Array Oper}
omit [Val] in
theorem eB {ro:Option Nat} {e:Operand->Value} {o:Oper} (h:ro=none∨∀c,o.op≠.defer c):Oper.semAt ro e o=execOp e o:=by
 rcases h with rfl|h
 ·rfl
 ·exact Oper.semAt_eq _ _ _ h
omit [Val] in
theorem pC (b:Frame) (a:Act) (todo:List Item) (cs:List Frame) (x:Frame) (hx:x.kind=b.kind):tryRecover (b.atR a todo) cs=tryRecover x cs:=by
 cases cs with
 |nil=>unfold tryRecover;cases b;cases x;simp only at hx;subst hx;rfl
 |cons c r=>unfold tryRecover;cases b;cases x;simp only at hx;subst hx;rfl
theorem fo (hC:CallsOK P S self) {ι:aW} {rnd:Option D4} {dfs:List Dfr} {ctx:Option NV} {h:NH} {i:Nat} {rest:List Nat} {o:Oper} {n:NOp} {t:Tm} (ho:ops[i]? =some o) (hw:Region.wanted o (yielded ops a.tmps)=true) (hc:ap P o.op=some n) (hO:OE ι t a.eval)
 (s:Sd P ι B rnd dfs ctx h b a.defers cs w):
 match dQ P S self rnd dfs ctx h (ag n t h) with
 | .fail=>True
 | .next v dfs' ctx' h'=>∃(v':Value) (ι':aW) (ds':List Deferred) (cs':List Frame) (w':World),
  Steps P (lone (b.atR a (.inRegion ops (i::rest)::k)) cs w) (lone (b.atR (({a with defers:=ds'}:Act).put o.dst v') (.inRegion ops rest::k)) cs' w')/\VR ι' v v'/\Mv P B rnd b ι ctx h cs w ι' dfs' ctx' h' ds' cs' w'
 | .pan v h'=>∃(v':Value) (ι':aW) (w':World) (todo:List Item),
  Steps P (lone (b.atR a (.inRegion ops (i::rest)::k)) cs w) (lone {b.atR a todo with mode:= .panicking [{v:=v',recovered:=false}]} cs w')/\VR ι' v v'/\Mv P B rnd b ι ctx h cs w ι' dfs ctx h' a.defers cs w':=by
 have hop:=Bm (o:=o) hc hO s.rel s.base
 have hg:=stepGR_op (P:=P) (b:=b) (k:=k) (cs:=cs) (w:=w) (rest:=rest) ho hw
 have hfin:∀v,(b.atR a (.inRegion ops (i::rest)::k)).finish v=b.atR (a.put o.dst v) (.inRegion ops rest::k):=by
  intro v;rw[Frame.finish_atR,ho];rfl
 have same:∀{ι':aW} {h':NH} {w':World},Rel P ι' B h' w'->B<=w'.heap.size->Grow ι h w ι' h' w'->Mv P B rnd b ι ctx h cs w ι' dfs ctx h' a.defers cs w':=
  fun hr hb hgr=>⟨⟨s.df.mono hgr.le,s.cx.mono hgr.le,hr,hb,s.rn.mono hgr.le⟩,hgr,.refl _ _⟩
 have nodef:(∀f cap,ag n t h≠.dfr f cap)->ag n t h≠.fail->∀c,o.op≠.defer c:=by
  intro h1 h2 c hd
  rw[hd] at hc
  obtain ⟨callee,args,ats⟩:=c
  cases callee with
  |value f=>
   replace hc:ft f args.toList=some n:=hc
   unfold ft at hc
   split at hc
   ·rename_i y h3 hf
    cases hc
    have e1:ag (.defer y) t h=wV t y fun f=>match f with| .fn f cap=> .dfr f cap|_=> .fail:=rfl
    obtain ⟨v,h4,h5⟩:=aE e1.symm h2
    rw[←h5] at h1 h2
    cases v<;>first|exact absurd rfl h2|exact h1 _ _ rfl
   ·cases hc
  |builtin b=>have hc:(none:Option NOp)=some n:=hc;cases hc
  |invoke r m=>have hc:(none:Option NOp)=some n:=hc;cases hc
 cases hr:ag n t h with
 |fail=>trivial
 |val v=>
  rw[hr] at hop
  obtain ⟨v',h1,h2⟩:=hop
  rw[eB (.inr (nodef (by rw[hr];simp) (by rw[hr];simp)))] at hg
  refine ⟨v',ι,a.defers,cs,w,.one (step_lone_go ?_),h2,Mv.refl s⟩
  rw[hg,←hfin];simp[stepG.apply,h1]
 |mem v h'=>
  rw[hr] at hop
  obtain ⟨v',w',ι',h1,h2,h3,h4⟩:=hop
  rw[eB (.inr (nodef (by rw[hr];simp) (by rw[hr];simp)))] at hg
  refine ⟨v',ι',a.defers,cs,w',.one (step_lone_go ?_),h2,same h3 (Nat.le_trans s.base h4.size) h4⟩
  rcases h1 with h1|⟨h1,rfl⟩
  ·rw[hg,←hfin];simp[stepG.apply,h1]
  ·rw[hg,←hfin];simp[stepG.apply,h1]
 |pan v=>
  rw[hr] at hop
  obtain ⟨v',h1,h2⟩:=hop
  rw[eB (.inr (nodef (by rw[hr];simp) (by rw[hr];simp)))] at hg
  refine ⟨v',ι,w,.inRegion ops (i::rest)::k,.one (step_lone_go ?_),h1,Mv.refl s⟩
  rw[hg,←Frame.raise_atR b a (.inRegion ops (i::rest)::k)];simp[stepG.apply,h2]
 |call f args=>
  rw[hr] at hop
  obtain ⟨args',h1,h2⟩:=hop
  rw[eB (.inr (nodef (by rw[hr];simp) (by rw[hr];simp)))] at hg
  have hcall:=hC.call ι B h w f args args' s.rel s.base h1
  show match yf dfs ctx (cm P S self f args h) with| .fail=>_| .next v dfs' ctx' h'=>_| .pan v h'=>_
  cases hcr:cm P S self f args h with
  |fail=>trivial
  |val v x h'=>
   rw[hcr] at hcall
   obtain ⟨ι',v',w',c1,c2,c3,c4,c5⟩:=hcall (b.atR a (.inRegion ops (i::rest)::k)) cs
   refine ⟨v',ι',a.defers,cs,w', ?_,c1,same c2 c3 c4⟩
   rcases c5 with c5|⟨w1,⟨f',ar,c5,c6⟩|⟨l,f',tm,x,y,c5,c6⟩⟩
   ·refine .one (step_lone_go ?_)
    rw[hg,←hfin];simp[stepG.apply,h2,c5]
   ·refine .head (step_lone_go ?_) (by rw[←hfin];exact c6)
    rw[hg];simp[stepG.apply,h2,c5,Frame.atR]
   ·refine .head (step_lone_go ?_) (by rw[←hfin];exact c6)
    rw[hg];simp[stepG.apply,h2,c5,Frame.atR]
  |pan v x h'=>
   rw[hcr] at hcall
   obtain ⟨ι',v',w',c1,c2,c3,c4,w1,c5⟩:=hcall (b.atR a (.inRegion ops (i::rest)::k)) cs
   refine ⟨v',ι',w',.inRegion ops (i::rest)::k, ?_,c1,same c2 c3 c4⟩
   rw[←Frame.raise_atR b a (.inRegion ops (i::rest)::k)]
   rcases c5 with ⟨f',ar,c5,c6⟩|⟨l,f',tm,x,y,c5,c6⟩
   ·refine .head (step_lone_go ?_) c6
    rw[hg];simp[stepG.apply,h2,c5,Frame.atR]
   ·refine .head (step_lone_go ?_) c6
    rw[hg];simp[stepG.apply,h2,c5,Frame.atR]
 |yld l args=>
  rw[hr] at hop
  obtain ⟨args',p,hp,h1,h2⟩:=hop
  rw[eB (.inr (nodef (by rw[hr];simp) (by rw[hr];simp)))] at hg
  have hcall:=hC.yld ι B h w l p args args' s.rel s.base h1 hp
  show match yf dfs ctx (round self l args h) with| .fail=>_| .next v dfs' ctx' h'=>_| .pan v h'=>_
  cases hcr:round self l args h with
  |fail=>trivial
  |val v x h'=>
   rw[hcr] at hcall
   obtain ⟨ι',v',w',c1,c2,c3,c4,c5⟩:=hcall (b.atR a (.inRegion ops (i::rest)::k)) cs
   refine ⟨v',ι',a.defers,cs,w', ?_,c1,same c2 c3 c4⟩
   rcases c5 with c5|⟨w1,⟨f',ar,c5,c6⟩|⟨l,f',tm,x,y,c5,c6⟩⟩
   ·refine .one (step_lone_go ?_)
    rw[hg,←hfin];simp[stepG.apply,h2,c5]
   ·refine .head (step_lone_go ?_) (by rw[←hfin];exact c6)
    rw[hg];simp[stepG.apply,h2,c5,Frame.atR]
   ·refine .head (step_lone_go ?_) (by rw[←hfin];exact c6)
    rw[hg];simp[stepG.apply,h2,c5,Frame.atR]
  |pan v x h'=>
   rw[hcr] at hcall
   obtain ⟨ι',v',w',c1,c2,c3,c4,w1,c5⟩:=hcall (b.atR a (.inRegion ops (i::rest)::k)) cs
   refine ⟨v',ι',w',.inRegion ops (i::rest)::k, ?_,c1,same c2 c3 c4⟩
   rw[←Frame.raise_atR b a (.inRegion ops (i::rest)::k)]
   rcases c5 with ⟨f',ar,c5,c6⟩|⟨l,f',tm,x,y,c5,c6⟩
   ·refine .head (step_lone_go ?_) c6
    rw[hg];simp[stepG.apply,h2,c5,Frame.atR]
   ·refine .head (step_lone_go ?_) c6
    rw[hg];simp[stepG.apply,h2,c5,Frame.atR]
 |dfr f cap=>
  rw[hr] at hop
  obtain ⟨cap',h1,h2⟩:=hop
  cases rnd with
  |some l=>trivial
  |none=>
   have hro:b.roundOf=none:=s.rn
   rw[eB (.inl hro)] at hg
   refine ⟨undef,ι,{target:= .fn (.func f) cap'.toArray,args:=#[]}::a.defers,cs,w,.one (step_lone_go ?_),dn,⟨⟨⟨⟨cap',h1,rfl⟩,s.df⟩,s.cx,s.rel,s.base,s.rn⟩,.refl _ _ _,.refl _ _⟩⟩
   have hd:∀d,({b.atR a (.inRegion ops (i::rest)::k) with defers:=d::a.defers}:Frame).finish undef=b.atR (({a with defers:=d::a.defers}:Act).put o.dst undef) (.inRegion ops rest::k):=fun d=>by
    have:=Frame.finish_atR b {a with defers:=d::a.defers} ops i rest k undef
    rw[ho] at this;exact this
   rw[hg]
   simp only[stepG.apply,Sem.runT_eq,h2,GStep.bare_after]
   exact congrArg (fun fr=>GStep.go {frame:=fr,callers:=cs,status:= .running,dying:=none} w) (hd _)
 |recov=>
  rw[hr] at hop
  cases rnd with
  |some l=>cases ctx<;>trivial
  |none=>
   have hro:b.roundOf=none:=s.rn
   rw[eB (.inl hro)] at hg
   cases ctx with
   |none=>
    refine ⟨.nilIface,ι,a.defers,cs,w,.one (step_lone_go ?_),.nili,Mv.refl s⟩
    have htr:tryRecover (b.atR a (.inRegion ops (i::rest)::k)) cs=none:=by rw[pC b a _ cs b rfl];exact s.cx b rfl
    rw[hg,←hfin]
    simp only[Frame.atR,hro] at htr ⊢
    have hop':Sem.run P (execOp a.eval o) w= .ok .recover w:=hop
    simp[stepG.apply,hop',htr]
   |some v=>
    obtain ⟨hk,c,r,v',older,hcs,hm,hv⟩:=s.cx
    subst hcs
    refine ⟨v',ι,a.defers,{c with mode:= .panicking ({v:=v',recovered:=true}::older)}::r,w,.one (step_lone_go ?_),hv,⟨⟨s.df, ?_,s.rel,s.base,s.rn⟩,.refl _ _ _,.inr ⟨rfl,by simp,c,r,v',older,rfl,hm,rfl⟩⟩⟩
    ·have htr:tryRecover (b.atR a (.inRegion ops (i::rest)::k)) (c::r)=some (v',{c with mode:= .panicking ({v:=v',recovered:=true}::older)}::r):=by
      unfold tryRecover
      have:(b.atR a (.inRegion ops (i::rest)::k)).kind= .deferred:=hk
      rw[this]
      simp only[hm]
     rw[hg,←hfin]
     simp only[Frame.atR,hro] at htr ⊢
     have hop':Sem.run P (execOp a.eval o) w= .ok .recover w:=hop
     simp[stepG.apply,hop',htr]
    ·intro x hx
     unfold tryRecover
     rw[hx,hk]
end
end Nm
namespace Nm
open Go
variable [Val]
def oZ (ops:Array Oper):Option (Nat×Bool)->Option (D4×Bool)->Prop
 |none,none=>True
 |some (j,b),some (k,b')=>b'=b/\∃t,tv ops j=some t/\k=D4.of t
 |_,_=>False
omit [Val] in
theorem kr {P:Program} {ops:Array Oper} {o:Oper} {pre idx:Nat} {no:NOper} (h:im P ops o pre idx=some no):
 no.dst=o.dst.map D4.of/\(ap P o.op=some no.op∨no.op= .fail)/\oZ ops o.guard no.guard/\no.pre=pre/\no.idx=idx:=by
 unfold im at h
 split at h
 ·rename_i d n hd hn
  rw[ae] at h
  have h1:d=o.dst.map D4.of:=by
   unfold KM at hd
   split at hd
   ·rename_i e he;rw[D4.ofNat_eq] at hd;cases hd;rw[he];rfl
   ·rename_i he;cases hd;rw[he];rfl
  have h2:ap P o.op=some n∨n= .fail:=by
   split at hn
   ·rename_i n' hn';cases hn;exact .inl hn'
   ·cases hn;exact .inr rfl
  split at h
  ·rename_i hg
   rw[ae] at h;cases h
   exact ⟨h1,h2,by rw[hg];trivial,rfl,rfl⟩
  ·rename_i j hg
   split at h
   ·rename_i t ht
    rw[ae,D4.ofNat_eq] at h;cases h
    exact ⟨h1,h2,by rw[hg];exact ⟨rfl,t,ht,rfl⟩,rfl,rfl⟩
   ·cases h
  ·rename_i j hg
   split at h
   ·rename_i t ht
    rw[ae,D4.ofNat_eq] at h;cases h
    exact ⟨h1,h2,by rw[hg];exact ⟨rfl,t,ht,rfl⟩,rfl,rfl⟩
   ·cases h
 ·cases h
theorem VR.notBool {ι:aW} {v:NV} {v':Value} (h:VR ι v v') (hn:∀b,v≠.bool b):∀b,v'≠.bool b:=by
 cases h with
 |bool b=>exact absurd rfl (hn b)
 |_=>intro b h;cases h
theorem lU {ι:aW} {ops:Array Oper} {o:Oper} {g:Option (D4×Bool)} (hg:oZ ops o.guard g) {t:Tm} {tmps:Array Value} {on:Bool}
 (hT:∀k b,g=some (D4.of k,b)->∀v,NT.get (D4.of k) t=some v->∃v',tmps[k]? =some v'/\VR ι v v') (h:aB t g=some on):Region.wanted o (yielded ops tmps)=on:=by
 unfold Region.wanted
 cases ho:o.guard with
 |none=>
  rw[ho] at hg
  cases g with
  |none=>cases h;rfl
  |some _=>exact hg.elim
 |some jb=>
  obtain ⟨j,b⟩:=jb
  rw[ho] at hg
  cases g with
  |none=>exact hg.elim
  |some kb=>
   obtain ⟨k,b'⟩:=kb
   obtain ⟨rfl,u,hu,rfl⟩:=hg
   have hd:(ops[j]?).bind (·.dst)=some u:=by
    unfold tv at hu
    split at hu
    ·rename_i oj hoj;rw[hoj];exact hu
    ·cases hu
   have h':(match NT.get (D4.of u) t with|some (.bool c)=>some (fu b' c)|some _=>some false|none=>none)=some on:=by
    rw[←h]
    show _=(Option.rec none (fun v=>NV.onBool (some false) (fun c=>some (fu b' c)) v) (NT.get (D4.of u) t):Option Bool)
    cases NT.get (D4.of u) t with
    |none=>rfl
    |some v=>cases v<;>rfl
   split at h'
   ·rename_i c hc
    cases h'
    obtain ⟨v',h1,h2⟩:=hT u b' rfl _ hc
    cases h2
    show (yielded ops tmps j==some b')=_
    have hy:yielded ops tmps j=some c:=by unfold yielded;rw[hd];simp only[Option.bind_some,h1]
    rw[hy,i9]
    cases b'<;>cases c<;>rfl
   ·rename_i v hnb hc
    cases h'
    obtain ⟨v',h1,h2⟩:=hT u b' rfl _ hc
    have hv:=h2.notBool fun c hc'=>hnb c (by rw[hc'])
    show (yielded ops tmps j==some b')=_
    have hy:yielded ops tmps j=none:=by
     unfold yielded
     rw[hd]
     simp only[Option.bind_some,h1]
     cases v'<;>first|exact absurd rfl (hv _)|rfl
    rw[hy];rfl
   ·cases h'
omit [Val] in
theorem xX {a:Array Value} {k:Nat} {v:Value} (h:a[k]? =some v):a.getD k undef=v:=by
 rw[Array.getD_eq_getD_getElem?,h];rfl
theorem mg {ι:aW} {t:Tm} {a:Act} (hT:TR ι t a.tmps):OE ι t a.eval:=by
 intro x y hc v hv
 cases x with
 |tmp k=>
  have hc':(D4.ofNat k fun t=>some (NOpd.tmp t))=some y:=hc
  rw[D4.ofNat_eq] at hc';cases hc'
  obtain ⟨v',h1,h2⟩:=hT k v hv
  show VR ι v (a.tmps.getD k undef)
  rw[xX h1];exact h2
 |const c=>
  have hc':(match ofValue c with|some v=>some (NOpd.const v)|none=>none)=some y:=hc
  split at hc'
  ·rename_i u hu;cases hc';cases hv;exact d8 hu
  ·cases hc'
 |func f=>
  have hc':(aw f fun f=>some (NOpd.const (.fn f [])))=some y:=hc
  rw[ae] at hc';cases hc';cases hv
  exact .fn f [] [] .nil
 |global g=>cases hc
def Ln (P:Program) (b:Frame) (k:List Item) (m:Machine) (ι':aW):Out->Act->List Frame->World->Prop
 | .norm,a',cs',w'=>Steps P m (lone (b.atR a' k) cs' w')
 | .ret,a',cs',w'=>∃k0,Steps P m (lone (b.atR a' (.code .ret::k0)) cs' w')
 | .exit id,a',cs',w'=>∃k0,exitTo id k0=exitTo id k/\Steps P m (lone (b.atR a' (.code (.exit id)::k0)) cs' w')
 | .pan v,a',cs',w'=>∃todo v',VR ι' v v'/\Steps P m (lone {b.atR a' todo with mode:= .panicking [{v:=v',recovered:=false}]} cs' w')
theorem Ln.of_steps {P:Program} {b:Frame} {k:List Item} {m m':Machine} {ι':aW} (hs:Steps P m m') {o:Out} {a':Act} {cs':List Frame} {w':World} (h:Ln P b k m' ι' o a' cs' w'):Ln P b k m ι' o a' cs' w':=by
 cases o with
 |norm=>exact hs.trans h
 |ret=>obtain ⟨k0,h⟩:=h;exact ⟨k0,hs.trans h⟩
 |exit id=>obtain ⟨k0,h1,h⟩:=h;exact ⟨k0,h1,hs.trans h⟩
 |pan v=>obtain ⟨td,v',h1,h⟩:=h;exact ⟨td,v',h1,hs.trans h⟩
def dk (P:Program) (B:Nat) (rnd:Option D4) (b:Frame) (k:List Item) (m:Machine) (ι:aW) (ctx:Option NV) (h:NH) (size:Nat) (cs:List Frame) (w:World) (o:Out) (d':Dyn):Prop:=
 ∃(ι':aW) (a':Act) (cs':List Frame) (w':World),Ln P b k m ι' o a' cs' w'/\TR ι' d'.t a'.tmps/\Mv P B rnd b ι ctx h cs w ι' d'.dfs d'.ctx d'.h a'.defers cs' w'/\a'.tmps.size=size
section
variable {P:Program} {S:Nat->List NV->Option NV} {self:Option D4->NC->Dyn->Res} {B:Nat} {b:Frame} {k:List Item} {ops:Array Oper} {fn:Func}
omit [Val] in
theorem fp (a:Act) (d:Option Tmp) (v:Value):(a.put d v).tmps.size=a.tmps.size:=by cases d<;>simp[Act.put]
omit [Val] in
theorem put_defers (a:Act) (d:Option Tmp) (v:Value):(a.put d v).defers=a.defers:=by cases d<;>rfl
theorem TR.putD {ι:aW} {t:Tm} {a:Act} (hT:TR ι t a.tmps) {d:Option Tmp} (hd:∀k,d=some k->k<a.tmps.size) {v:NV} {v':Value} (hv:VR ι v v'):TR ι (aT (d.map D4.of) v t) (a.put d v').tmps:=by
 cases d with
 |none=>exact hT
 |some k=>exact hT.put (hd k rfl) hv
omit [Val] in
theorem cU (rnd:Option D4) (o:NOper) (l:List NOper) (t:Tm) (dfs:List Dfr) (ctx:Option NV) (h:NH):
 c9 P S self rnd (o::l) ⟨t,dfs,ctx,h⟩=match aB t o.guard with
  |none=> .fail
  |some false=>c9 P S self rnd l ⟨aT o.dst aM t,dfs,ctx,h⟩
  |some true=>zS o.dst (c9 P S self rnd l) t dfs ctx (dQ P S self rnd dfs ctx h (ag o.op t h)):=by
 have e:c9 P S self rnd (o::l) ⟨t,dfs,ctx,h⟩=Option.rec .fail (fun on=>Bool.rec (iB o.dst aM t fun t=>c9 P S self rnd l ⟨t,dfs,ctx,h⟩)
  (nT P S self rnd o.dst (c9 P S self rnd l) t dfs ctx h (ag o.op t h)) on) (aB t o.guard):=rfl
 rw[e]
 cases aB t o.guard with
 |none=>rfl
 |some on=>
  cases on with
  |false=>exact dl o.dst aM t fun t=>c9 P S self rnd l ⟨t,dfs,ctx,h⟩
  |true=>exact qi _ _ _ _ _ _ _ _ _ _ _
theorem zt (hC:CallsOK P S self) (hr:RegOK P fn ops) {rnd:Option D4}:∀(l:List Oper) (i:Nat) (nl:List NOper) (pre:List Nat),(∀j,l[j]? =ops[i+j]?)->dz P ops l i pre=some nl->
 ∀(t:Tm) (dfs:List Dfr) (ctx:Option NV) (h:NH) (o:Out) (d':Dyn),c9 P S self rnd nl ⟨t,dfs,ctx,h⟩= .mk o d'->
 ∀(ι:aW) (a:Act) (cs:List Frame) (w:World),TR ι t a.tmps->Sd P ι B rnd dfs ctx h b a.defers cs w->fn.ntmps<=a.tmps.size->
 dk P B rnd b k (lone (b.atR a (.inRegion ops (List.range' i l.length)::k)) cs w) ι ctx h a.tmps.size cs w o d':=by
 intro l
 induction l with
 |nil=>
  intro i nl pre _ hc t dfs ctx h o d' hrun ι a cs w hT s _
  cases hc
  cases hrun
  exact ⟨ι,a,cs,w,.one stepR_region_end,hT,Mv.refl s,rfl⟩
 |cons o1 l ih=>
  intro i nl pre hl hc t dfs ctx h o d' hrun ι a cs w hT s hsz
  have hc':(match im P ops o1 (pre.headD 0) i,dz P ops l (Nat.succ i) pre.tail with|some o,some l=>some (o::l)|_,_=>none)=some nl:=hc
  split at hc'
  ·rename_i no nl' h1 h2
   cases hc'
   obtain ⟨i1,i2,i3,i4,i5⟩:=kr h1
   have ho:ops[i]? =some o1:=by have:=hl 0;simpa using this.symm
   have hl':∀j,l[j]? =ops[Nat.succ i+j]? :=fun j=>by have:=hl (j+1);simp at this;rw[this];congr 1;omega
   have hdst:∀d,o1.dst=some d->d<a.tmps.size:=fun d hd=>Nat.lt_of_lt_of_le (hr.dst i o1 d ho hd) hsz
   rw[cU] at hrun
   have hrange:List.range' i (o1::l).length=i::List.range' (Nat.succ i) l.length:=by simp[List.range'_succ]
   rw[hrange]
   cases hgd:aB t no.guard with
   |none=>rw[hgd] at hrun;cases hrun
   |some on=>
    have hwant:=lU i3 (ops:=ops) (tmps:=a.tmps) (ι:=ι) (fun k b _ v hv=>hT k v hv) hgd
    rw[hgd] at hrun
    cases on with
    |false=>
     have hskip:=stepR_op_skip (P:=P) (b:=b) (a:=a) (k:=k) (cs:=cs) (w:=w) (ops:=ops) (i:=i) (rest:=List.range' (Nat.succ i) l.length) (by simp[ho,hwant])
     simp only[ho,Option.bind_some] at hskip
     have hT':TR ι (aT no.dst aM t) (a.put o1.dst undef).tmps:=by rw[i1];exact hT.putD hdst dn
     obtain ⟨ι',a',cs',w',q1,q2,q3,q4⟩:=ih (Nat.succ i) nl' pre.tail hl' h2 _ dfs ctx h o d' hrun ι (a.put o1.dst undef) cs w hT' (by rw[put_defers];exact s) (by rw[fp];exact hsz)
     exact ⟨ι',a',cs',w',q1.of_steps (.one hskip),q2,q3,by rw[q4,fp]⟩
    |true=>
     rcases i2 with i2|i2
     ·have hx:=fo (S:=S) (self:=self) (k:=k) (rest:=List.range' (Nat.succ i) l.length) hC ho hwant i2 (mg hT) s
      cases hoo:dQ P S self rnd dfs ctx h (ag no.op t h) with
      |fail=>rw[hoo] at hrun;cases hrun
      |next v dfs1 ctx1 h1=>
       rw[hoo] at hrun hx
       obtain ⟨v',ι1,ds1,cs1,w1,x1,x2,x3⟩:=hx
       have hrun':c9 P S self rnd nl' ⟨aT no.dst v t,dfs1,ctx1,h1⟩= .mk o d':=hrun
       have hT':TR ι1 (aT no.dst v t) (({a with defers:=ds1}:Act).put o1.dst v').tmps:=by
        rw[i1];exact TR.putD (a:={a with defers:=ds1}) (hT.mono x3.gr.le) hdst x2
       obtain ⟨ι',a',cs',w',q1,q2,q3,q4⟩:=ih (Nat.succ i) nl' pre.tail hl' h2 _ dfs1 ctx1 h1 o d' hrun' ι1 (({a with defers:=ds1}:Act).put o1.dst v') cs1 w1 hT' (by rw[put_defers];exact x3.sd) (by rw[fp];exact hsz)
       exact ⟨ι',a',cs',w',q1.of_steps x1,q2,x3.trans q3,by rw[q4,fp]⟩
      |pan v h1=>
       rw[hoo] at hrun hx
       obtain ⟨v',ι1,w1,td,x1,x2,x3⟩:=hx
       cases hrun
       exact ⟨ι1,a,cs,w1,⟨td,v',x2,x1⟩,hT.mono x3.gr.le,x3,rfl⟩
     ·rw[i2] at hrun
      cases hrun
  ·cases hc'
end
end Nm
namespace Nm
open Go
variable [Val]
structure AllocR (P:Program) (ι:aW) (w:World) (f:NH->NR) (res:Result Next) (o:NO) (V:D4->NV):Prop where
 all:∀h,f h= .mem (V h.next) (h.add o)
 live:o≠.dead
 real:∃(v':Value) (w1:World) (O:Obj) (p:Pl),(w1=w∨w1=w.drew)/\res= .ok (.value v') (w1.alloc O)/\p.b=w.heap.size/\(∀ι':aW,ι.le ι'->OR P ι' (w1.alloc O) p o)/\∀(ι':aW) (n:D4),ι.le ι'->ι' n=some p->VR ι' (V n) v'
theorem VR.int_inv {ι:aW} {k:IntKind} {n:Int} {v:Value} (h:VR ι (.int k (.lit n)) v):v= .int k n:=by cases h;rfl
section
variable {P:Program} {ι:aW} {w:World} {t:Tm} {e:Operand->Value}
theorem iR {w1:World} {wr:Bool} {cs:List NV} {cur:Array Value} {T:TypeId} {fz:Nat×Nat} (hw:wr=true->fz=(0,0)) (hl:cs.length<=cur.size)
 (hc:∀(i:Nat) (v:NV),cs[i]? =some v->∃v':Value,cur[i]? =some v'/\VR ι v v'/\v'.oneCell'=true):
 ∀ι':aW,ι.le ι'->OR P ι' (w1.alloc (.cells cur T fz)) ⟨w1.heap.size,0,cur.size⟩ (.cells wr cs):=fun ι' hle=>
 ⟨cur,T,fz,dY w1 _,hw,rfl,by simpa using hl,fun i v hi=>by
  obtain ⟨v',a,b,c⟩:=hc i v hi
  exact ⟨v',by simpa using a,b.mono hle,c⟩⟩
theorem sV {T:TypeId} {h0:NH} {dst:Option Tmp} {type:TypeId} {pos:String} {after:Array Edge} {guard:Option (Nat×Bool)} {n:NOp} (hc:ap P (.alloc T)=some n) (_hr:ag n t h0≠.fail):
 ∃o V,AllocR P ι w (ag n t) ((execOp e ⟨dst,.alloc T,type,pos,after,guard⟩).run P w) o V:=by
 replace hc:jP P T=some n:=hc
 unfold jP at hc
 split at hc
 ·rename_i z hz;rw[ae] at hc;cases hc
  obtain ⟨i,zv,hi,hzv,hsz,hzl,hz1⟩:=ch (ι:=ι) hz
  refine ⟨.cells true z,fun n=> .ptr n 0,fun h=>NH.new_eq h (.cells true z) fun id h=>NR.mem (.ptr id 0) h,by simp, ?_⟩
  refine ⟨_,w,.cells zv.cells T,⟨w.heap.size,0,zv.cells.size⟩,.inl rfl, ?_,rfl,iR (fun _=>rfl) (by rw[hzl.length];simp) (by simpa using hzl.at hz1),fun ι' n _ hn=>VR.ptr _ 0 _ hn⟩
  show (do pure (Next.value (←Instr.alloc T true (.tuple #[]))):Sem Next).run P w=_
  rw[bM]
  simp[aG,Instr.alloc,zeroValue,typeInfo,hi,hzv,newVar,newRow]
 ·cases hc
theorem Aw {T:TypeId} {x:Operand} {h0:NH} {dst:Option Tmp} {type:TypeId} {pos:String} {after:Array Edge} {guard:Option (Nat×Bool)} {n:NOp} (hc:ap P (.box T x)=some n) (hO:OE ι t e) (hr:ag n t h0≠.fail):
 ∃o V,AllocR P ι w (ag n t) ((execOp e ⟨dst,.box T x,type,pos,after,guard⟩).run P w) o V:=by
 replace hc:wL T x=some n:=hc
 unfold wL at hc
 split at hc
 ·rename_i y hy;rw[ae] at hc;cases hc
  obtain ⟨v,h1,h2⟩:=aE (t:=t) (x:=y) (K:=fun v=>aR (cellsOf v) fun cs=>h0.new (.cells true cs) fun id h=> .mem (.ptr id 0) h) rfl hr
  obtain ⟨cs,h3,h4⟩:=aF h2 hr
  have hc:=(hO _ _ hy v h1).cells h3
  refine ⟨.cells true cs,fun n=> .ptr n 0,fun h=> ?_,by simp, ?_⟩
  ·show wV t y _=_
   unfold wV
   rw[h1]
   show aR (cellsOf v) _=_
   rw[h3]
   exact NH.new_eq h (.cells true cs) fun id h=>NR.mem (.ptr id 0) h
  refine ⟨_,w,.cells (e x).cells T,⟨w.heap.size,0,(e x).cells.size⟩,.inl rfl, ?_,rfl,iR (fun _=>rfl) (by rw[hc.1.length];simp) (by simpa using hc.1.at hc.2),fun ι' n _ hn=>VR.ptr _ 0 _ hn⟩
  show (do pure (Next.value (←Instr.box T (e x))):Sem Next).run P w=_
  rw[bM]
  simp[aG,Instr.box,newVar,newRow]
 ·cases hc
theorem sx {T:TypeId} {dst:Option Tmp} {type:TypeId} {pos:String} {after:Array Edge} {guard:Option (Nat×Bool)}:
 ∃o V,AllocR P ι w (ag .mkMap t) ((execOp e ⟨dst,.makeMap T none,type,pos,after,guard⟩).run P w) o V:=
 ⟨.map [],fun n=> .map n,fun h=>NH.new_eq h (.map []) fun id h=>NR.mem (.map id) h,by simp,_,w,.map #[] 0,⟨w.heap.size,0,0⟩,.inl rfl,rfl,rfl,fun ι' _=>⟨#[],0,dY w _,trivial⟩,fun ι' n _ hn=> .map _ _ hn⟩
theorem lB {T:TypeId} {len:Nat} {ps:Array (Nat×Operand)} {h0:NH} {dst:Option Tmp} {type:TypeId} {pos:String} {after:Array Edge} {guard:Option (Nat×Bool)} {n:NOp} (hc:ap P (.buildSlice T len ps)=some n) (hO:OE ι t e) (hr:ag n t h0≠.fail):
 ∃o V,AllocR P ι w (ag n t) ((execOp e ⟨dst,.buildSlice T len ps,type,pos,after,guard⟩).run P w) o V:=by
 have ep:(ps.map fun (i,x)=>(i,e x))=(ps.toList.map fun p=>(p.1,e p.2)).toArray:=by apply Array.ext';simp
 unfold execOp
 dsimp only
 rw[bM,ep]
 replace hc:cS P T len ps.toList=some n:=hc
 unfold cS at hc
 split at hc
 ·rename_i el hT
  split at hc
  ·rename_i z k hz hk
   split at hc
   ·rename_i l hl
    obtain ⟨c1,c2⟩:=af hc
    rw[fJ,ae,ae] at c2;cases c2
    rw[Bool.and_eq_true] at c1
    have hsz:len*k<=16777216:=Nat.le_of_ble_eq_true c1.2
    have h0':=Nat.le_of_ble_eq_true c1.1
    have hq:=fK (ι:=ι) (t:=t) (e:=e) hO hl
    obtain ⟨r,h1,h2⟩:=aF (o:=cw t l 0 (Nm.rep len z)) (K:=fun l=>h0.new (.cells true l) fun id h=> .mem (.slc id 0 len k len) h) rfl hr
    obtain ⟨i,zv,i1,i2,i3,i4,i5⟩:=ch (ι:=ι) hz
    obtain ⟨j,j1,j2⟩:=bD hk
    rw[i1] at j1;cases j1
    have hzl:=i4.length
    have hsize:zv.cells.size=k:=by simp at hzl;omega
    have hrow:((Array.range (len*k)).map (zv.cells[·% zv.cells.size]!)).toList=Nm.rep len zv.cells.toList:=by rw[←hsize];exact iU zv.cells len
    obtain ⟨q1,q2⟩:=iW i4 i5 len
    obtain ⟨rs,k1,k2,k3⟩:=lZ _ _ hq 0 _ r h1 ((Array.range (len*k)).map (zv.cells[·% zv.cells.size]!)) [] rfl (by rw[hrow];simpa using q1) (by rw[hrow];exact q2)
    simp only[List.nil_append] at k2
    have hrs:rs.size=len*k:=by rw[pQ _ _ _ k1];simp
    refine ⟨.cells true r,fun n=> .slc n 0 len k len,fun h=> ?_,by simp, ?_⟩
    ·show aR (cw t l 0 (Nm.rep len z)) _=_
     rw[h1]
     exact NH.new_eq h (.cells true r) fun id h=>NR.mem (.slc id 0 len k len) h
    refine ⟨_,w,.cells rs el,⟨w.heap.size,0,rs.size⟩,.inl rfl, ?_,rfl,iR (fun _=>rfl) (by rw[k2.length];simp) (k2.atA k3 fun i u hu=>by simpa using hu),
     fun ι' n _ hn=>VR.slc _ 0 len k _ _ ⟨w.heap.size,0,none⟩ len hn (Nat.le_refl _) (Nat.le_refl _) ?_ h0' (fun _=>⟨rfl, ?_⟩)⟩
    ·have hle:¬len*i.size>2 ^ 24:=by rw[j2];omega
     have hp:(fun x=>some (x*i.size,i.size))=(fun x:Nat=>some (Nat.mul x k,k)):=by rw[j2];rfl
     by_cases hnz:len*i.size=0
     ·have:len=0:=by rw[j2] at hnz;rcases Nat.mul_eq_zero.1 hnz with h|h<;>omega
      subst this
      have e1:((Array.range (0*k)).map (zv.cells[·% zv.cells.size]!))=#[]:=by simp
      rw[e1] at k1
      have e2:∀f:Nat->Value,((Array.range (0*i.size)).map f)=#[]:=fun f=>by simp
      simp only[aG,Instr.buildSlice,Sem.run_bind,run_underlying hT,Result.andThen_ok,eA i1,if_neg hle,Sem.run_pure,if_pos hnz,e2,hp,k1]
      simp[newRow]
     ·simp only[aG,Instr.buildSlice,Sem.run_bind,run_underlying hT,Result.andThen_ok,eA i1,if_neg hle,Sem.run_pure,if_neg hnz,fm i1 i2,hp]
      rw[j2,k1]
      simp[newRow]
    ·have:=Nat.le_mul_of_pos_right len h0';simp only[maxLen];omega
    ·rw[hrs];simp
   ·cases hc
  ·cases hc
 ·cases hc
theorem pF {T:TypeId} {lo co:Operand} {h0:NH} {dst:Option Tmp} {type:TypeId} {pos:String} {after:Array Edge} {guard:Option (Nat×Bool)} {n:NOp} (hc:ap P (.makeSlice T lo co)=some n) (hO:OE ι t e) (hr:ag n t h0≠.fail):
 ∃o V,AllocR P ι w (ag n t) ((execOp e ⟨dst,.makeSlice T lo co,type,pos,after,guard⟩).run P w) o V:=by
 show ∃o V,AllocR P ι w (ag n t) ((do pure (Next.value (←Instr.makeSlice T (e lo) (e co))):Sem Next).run P w) o V
 rw[bM]
 replace hc:fw P T lo co=some n:=hc
 unfold fw at hc
 split at hc
 ·rename_i el hT
  split at hc
  ·rename_i z sz by_ yl yc hz hn hb hyl hyc
   obtain ⟨c1,c2⟩:=af hc
   rw[ae] at c2;cases c2
   have hpos:=Nat.le_of_ble_eq_true c1
   obtain ⟨k1,l,h1,h2⟩:=bZ (t:=t) (x:=yl) (K:=fun l=>dS t yc fun c=>cond (Nat.ble l c) (cond (room c by_) (wA c z fun cs=>h0.new (.cells true cs) fun id h=> .mem (.slc id 0 l sz c) h) .fail) .fail) rfl hr
   obtain ⟨k2,c,h3,h4⟩:=bZ h2 hr
   obtain ⟨d1,d2⟩:=aJ h4 hr
   obtain ⟨d3,d4⟩:=aJ d2 hr
   have hlc:=Nat.le_of_ble_eq_true d1
   obtain ⟨b1,b2⟩:=kT d3
   obtain ⟨i,zv,i1,i2,i3,i4,i5⟩:=ch (ι:=ι) hz
   obtain ⟨i',j1,j2⟩:=bD hn
   rw[i1] at j1;cases j1
   obtain ⟨i',j1,j3⟩:=j5 hb
   rw[i1] at j1;cases j1
   have hzl:zv.cells.size=sz:=by have:=i4.length;simp at this;omega
   have hvx:=hO _ _ hyl _ h1
   have hvu:=hO _ _ hyc _ h3
   have hby:(i.bytes:Int)*(c:Int)<=281474976710656:=by
    have:((i.bytes*c:Nat):Int)<=281474976710656:=by rw[j3,Nat.mul_comm];omega
    rwa [Int.natCast_mul] at this
   have el1:e lo= .int k1 (Int.ofNat l):=VR.int_inv hvx
   have el2:e co= .int k2 (Int.ofNat c):=VR.int_inv hvu
   have hrun:=run_make (P:=P) w T el i zv hT i1 i2 k1 k2 (Int.ofNat l) (Int.ofNat c) (by simp) (by simp;exact hlc) hby (by simp;omega)
   rw[←el1,←el2,j2] at hrun
   have hmade:(madeCells zv.cells (c*sz)).toList=Nm.rep c zv.cells.toList:=by rw[←hzl];exact iU zv.cells c
   obtain ⟨q1,q2⟩:=iW i4 i5 c
   refine ⟨.cells true (Nm.rep c z),fun n=> .slc n 0 l sz c,fun h=> ?_,by simp, ?_⟩
   ·show dS t yl _=_
    unfold dS wV
    rw[h1]
    show dS t yc _=_
    unfold dS wV
    rw[h3]
    show cond (Nat.ble l c) _ _=_
    rw[d1]
    show cond (room c by_) _ _=_
    rw[d3]
    show wA _ _ _=_
    rw[fJ]
    exact NH.new_eq h (.cells true (Nm.rep c z)) fun id h=>NR.mem (.slc id 0 l sz c) h
   refine ⟨_,w,.cells (madeCells zv.cells (c*sz)) el,⟨w.heap.size,0,(madeCells zv.cells (c*sz)).size⟩,.inl rfl,by rw[aG,hrun];rfl,rfl,
    iR (fun _=>rfl) (by rw[q1.length,←hmade];simp) (q1.atA q2 fun j u hu=>by rw[←hmade] at hu;simpa using hu),
    fun ι' n _ hn=>VR.slc _ 0 l sz _ _ ⟨w.heap.size,0,none⟩ c hn hlc (Nat.le_refl _) (by simp only[maxLen];omega) hpos (fun _=>⟨rfl,by simp[size_madeCells]⟩)⟩
  ·cases hc
 ·cases hc
omit [Val] in
theorem Dx (x:Operand) {n:NOp} (hc:ap P (.move x)=some n):aj n≠.alloc:=by
 replace hc:ga x=some n:=hc
 unfold ga at hc
 repeat' split at hc
 all_goals first
  |(cases hc;done)
  |(cases hc;simp[aj];done)
  |(rw[ae] at hc;cases hc;simp[aj];done)
  |(replace hc:=(af hc).2;cases hc;simp[aj];done)
  |(replace hc:=(af hc).2;rw[ae] at hc;cases hc;simp[aj];done)
  |(replace hc:=ah hc;cases hc;done)
  |(replace hc:=ah hc;cases hc;simp[aj];done)
omit [Val] in
theorem xm (x:Operand) {n:NOp} (hc:ap P (.assign x)=some n):aj n≠.alloc:=by
 replace hc:ga x=some n:=hc
 unfold ga at hc
 repeat' split at hc
 all_goals first
  |(cases hc;done)
  |(cases hc;simp[aj];done)
  |(rw[ae] at hc;cases hc;simp[aj];done)
  |(replace hc:=(af hc).2;cases hc;simp[aj];done)
  |(replace hc:=(af hc).2;rw[ae] at hc;cases hc;simp[aj];done)
  |(replace hc:=ah hc;cases hc;done)
  |(replace hc:=ah hc;cases hc;simp[aj];done)
omit [Val] in
theorem C3 (c a b:Operand) {n:NOp} (hc:ap P (.pick c a b)=some n):aj n≠.alloc:=by
 replace hc:oD c a b=some n:=hc
 unfold oD at hc
 repeat' split at hc
 all_goals first
  |(cases hc;done)
  |(cases hc;simp[aj];done)
  |(rw[ae] at hc;cases hc;simp[aj];done)
  |(replace hc:=(af hc).2;cases hc;simp[aj];done)
  |(replace hc:=(af hc).2;rw[ae] at hc;cases hc;simp[aj];done)
  |(replace hc:=ah hc;cases hc;done)
  |(replace hc:=ah hc;cases hc;simp[aj];done)
omit [Val] in
theorem CI (T:TypeId) (x:Operand) {n:NOp} (hc:ap P (.load T x)=some n):aj n≠.alloc:=by
 replace hc:nA P T x=some n:=hc
 unfold nA at hc
 repeat' split at hc
 all_goals first
  |(cases hc;done)
  |(cases hc;simp[aj];done)
  |(rw[ae] at hc;cases hc;simp[aj];done)
  |(replace hc:=(af hc).2;cases hc;simp[aj];done)
  |(replace hc:=(af hc).2;rw[ae] at hc;cases hc;simp[aj];done)
  |(replace hc:=ah hc;cases hc;done)
  |(replace hc:=ah hc;cases hc;simp[aj];done)
omit [Val] in
theorem zn (T:TypeId) (a x:Operand) {n:NOp} (hc:ap P (.store T a x)=some n):aj n≠.alloc:=by
 replace hc:jI P T a x=some n:=hc
 unfold jI at hc
 repeat' split at hc
 all_goals first
  |(cases hc;done)
  |(cases hc;simp[aj];done)
  |(rw[ae] at hc;cases hc;simp[aj];done)
  |(replace hc:=(af hc).2;cases hc;simp[aj];done)
  |(replace hc:=(af hc).2;rw[ae] at hc;cases hc;simp[aj];done)
  |(replace hc:=ah hc;cases hc;done)
  |(replace hc:=ah hc;cases hc;simp[aj];done)
omit [Val] in
theorem qB (x:Operand) {n:NOp} (hc:ap P (.nilCheck x)=some n):aj n≠.alloc:=by
 replace hc:dT x=some n:=hc
 unfold dT at hc
 repeat' split at hc
 all_goals first
  |(cases hc;done)
  |(cases hc;simp[aj];done)
  |(rw[ae] at hc;cases hc;simp[aj];done)
  |(replace hc:=(af hc).2;cases hc;simp[aj];done)
  |(replace hc:=(af hc).2;rw[ae] at hc;cases hc;simp[aj];done)
  |(replace hc:=ah hc;cases hc;done)
  |(replace hc:=ah hc;cases hc;simp[aj];done)
omit [Val] in
theorem zO (op:BinOp) (T:TypeId) (x y:Operand) (T2:TypeId) {n:NOp} (hc:ap P (.binOp op T x y T2)=some n):aj n≠.alloc:=by
 replace hc:xe P op T x y=some n:=hc
 unfold xe at hc
 repeat' split at hc
 all_goals first
  |(cases hc;done)
  |(cases hc;simp[aj];done)
  |(rw[ae] at hc;cases hc;simp[aj];done)
  |(replace hc:=(af hc).2;cases hc;simp[aj];done)
  |(replace hc:=(af hc).2;rw[ae] at hc;cases hc;simp[aj];done)
  |(replace hc:=ah hc;cases hc;done)
  |(replace hc:=ah hc;cases hc;simp[aj];done)
omit [Val] in
theorem B9 (op:UnOp) (T:TypeId) (x:Operand) {n:NOp} (hc:ap P (.unOp op T x)=some n):aj n≠.alloc:=by
 replace hc:HP op x=some n:=hc
 unfold HP at hc
 repeat' split at hc
 all_goals first
  |(cases hc;done)
  |(cases hc;simp[aj];done)
  |(rw[ae] at hc;cases hc;simp[aj];done)
  |(replace hc:=(af hc).2;cases hc;simp[aj];done)
  |(replace hc:=(af hc).2;rw[ae] at hc;cases hc;simp[aj];done)
  |(replace hc:=ah hc;cases hc;done)
  |(replace hc:=ah hc;cases hc;simp[aj];done)
omit [Val] in
theorem kC (T:TypeId) (x:Operand) {n:NOp} (hc:ap P (.makeInterface T x)=some n):aj n≠.alloc:=by
 replace hc:wo P T x=some n:=hc
 unfold wo at hc
 repeat' split at hc
 all_goals first
  |(cases hc;done)
  |(cases hc;simp[aj];done)
  |(rw[ae] at hc;cases hc;simp[aj];done)
  |(replace hc:=(af hc).2;cases hc;simp[aj];done)
  |(replace hc:=(af hc).2;rw[ae] at hc;cases hc;simp[aj];done)
  |(replace hc:=ah hc;cases hc;done)
  |(replace hc:=ah hc;cases hc;simp[aj];done)
omit [Val] in
theorem pz (s:TypeId) (x:Operand) (f:Nat) {n:NOp} (hc:ap P (.fieldAddr s x f)=some n):aj n≠.alloc:=by
 replace hc:dp P s x f=some n:=hc
 unfold dp at hc
 repeat' split at hc
 all_goals first
  |(cases hc;done)
  |(cases hc;simp[aj];done)
  |(rw[ae] at hc;cases hc;simp[aj];done)
  |(replace hc:=(af hc).2;cases hc;simp[aj];done)
  |(replace hc:=(af hc).2;rw[ae] at hc;cases hc;simp[aj];done)
  |(replace hc:=ah hc;cases hc;done)
  |(replace hc:=ah hc;cases hc;simp[aj];done)
omit [Val] in
theorem zy (s:TypeId) (x:Operand) (f:Nat) {n:NOp} (hc:ap P (.field s x f)=some n):aj n≠.alloc:=by
 replace hc:j4 P s x f=some n:=hc
 unfold j4 at hc
 repeat' split at hc
 all_goals first
  |(cases hc;done)
  |(cases hc;simp[aj];done)
  |(rw[ae] at hc;cases hc;simp[aj];done)
  |(replace hc:=(af hc).2;cases hc;simp[aj];done)
  |(replace hc:=(af hc).2;rw[ae] at hc;cases hc;simp[aj];done)
  |(replace hc:=ah hc;cases hc;done)
  |(replace hc:=ah hc;cases hc;simp[aj];done)
omit [Val] in
theorem pf (T:TypeId) (x i:Operand) {n:NOp} (hc:ap P (.indexAddr T x i)=some n):aj n≠.alloc:=by
 replace hc:dq P T x i=some n:=hc
 unfold dq at hc
 repeat' split at hc
 all_goals first
  |(cases hc;done)
  |(cases hc;simp[aj];done)
  |(rw[ae] at hc;cases hc;simp[aj];done)
  |(replace hc:=(af hc).2;cases hc;simp[aj];done)
  |(replace hc:=(af hc).2;rw[ae] at hc;cases hc;simp[aj];done)
  |(replace hc:=ah hc;cases hc;done)
  |(replace hc:=ah hc;cases hc;simp[aj];done)
omit [Val] in
theorem zx (T:TypeId) (x i:Operand) {n:NOp} (hc:ap P (.index T x i)=some n):aj n≠.alloc:=by
 replace hc:jB P T x i=some n:=hc
 unfold jB at hc
 repeat' split at hc
 all_goals first
  |(cases hc;done)
  |(cases hc;simp[aj];done)
  |(rw[ae] at hc;cases hc;simp[aj];done)
  |(replace hc:=(af hc).2;cases hc;simp[aj];done)
  |(replace hc:=(af hc).2;rw[ae] at hc;cases hc;simp[aj];done)
  |(replace hc:=ah hc;cases hc;done)
  |(replace hc:=ah hc;cases hc;simp[aj];done)
omit [Val] in
theorem wP (T:TypeId) (x i:Operand) (ok:Bool) {n:NOp} (hc:ap P (.lookup T x i ok)=some n):aj n≠.alloc:=by
 replace hc:gX P T x i ok=some n:=hc
 unfold gX at hc
 repeat' split at hc
 all_goals first
  |(cases hc;done)
  |(cases hc;simp[aj];done)
  |(rw[ae] at hc;cases hc;simp[aj];done)
  |(replace hc:=(af hc).2;cases hc;simp[aj];done)
  |(replace hc:=(af hc).2;rw[ae] at hc;cases hc;simp[aj];done)
  |(replace hc:=ah hc;cases hc;done)
  |(replace hc:=ah hc;cases hc;simp[aj];done)
omit [Val] in
theorem pA (T:TypeId) (m k x:Operand) {n:NOp} (hc:ap P (.mapUpdate T m k x)=some n):aj n≠.alloc:=by
 replace hc:bu P T m k x=some n:=hc
 unfold bu at hc
 repeat' split at hc
 all_goals first
  |(cases hc;done)
  |(cases hc;simp[aj];done)
  |(rw[ae] at hc;cases hc;simp[aj];done)
  |(replace hc:=(af hc).2;cases hc;simp[aj];done)
  |(replace hc:=(af hc).2;rw[ae] at hc;cases hc;simp[aj];done)
  |(replace hc:=ah hc;cases hc;done)
  |(replace hc:=ah hc;cases hc;simp[aj];done)
omit [Val] in
theorem vj (T:TypeId) (m k x:Operand) {n:NOp} (hc:ap P (.insert T m k x)=some n):aj n≠.alloc:=by
 replace hc:bu P T m k x=some n:=hc
 unfold bu at hc
 repeat' split at hc
 all_goals first
  |(cases hc;done)
  |(cases hc;simp[aj];done)
  |(rw[ae] at hc;cases hc;simp[aj];done)
  |(replace hc:=(af hc).2;cases hc;simp[aj];done)
  |(replace hc:=(af hc).2;rw[ae] at hc;cases hc;simp[aj];done)
  |(replace hc:=ah hc;cases hc;done)
  |(replace hc:=ah hc;cases hc;simp[aj];done)
omit [Val] in
theorem mP (x:Operand) (X T:TypeId) {n:NOp} (hc:ap P (.typeAssert x X T true)=some n):aj n≠.alloc:=by
 replace hc:gK P T x=some n:=hc
 unfold gK at hc
 repeat' split at hc
 all_goals first
  |(cases hc;done)
  |(cases hc;simp[aj];done)
  |(rw[ae] at hc;cases hc;simp[aj];done)
  |(replace hc:=(af hc).2;cases hc;simp[aj];done)
  |(replace hc:=(af hc).2;rw[ae] at hc;cases hc;simp[aj];done)
  |(replace hc:=ah hc;cases hc;done)
  |(replace hc:=ah hc;cases hc;simp[aj];done)
omit [Val] in
theorem tC (x:Operand) (i:Nat) {n:NOp} (hc:ap P (.extract x i)=some n):aj n≠.alloc:=by
 replace hc:eZ x i=some n:=hc
 unfold eZ at hc
 repeat' split at hc
 all_goals first
  |(cases hc;done)
  |(cases hc;simp[aj];done)
  |(rw[ae] at hc;cases hc;simp[aj];done)
  |(replace hc:=(af hc).2;cases hc;simp[aj];done)
  |(replace hc:=(af hc).2;rw[ae] at hc;cases hc;simp[aj];done)
  |(replace hc:=ah hc;cases hc;done)
  |(replace hc:=ah hc;cases hc;simp[aj];done)
omit [Val] in
theorem zm (x:Operand) {n:NOp} (hc:ap P (.panic x)=some n):aj n≠.alloc:=by
 replace hc:jz x=some n:=hc
 unfold jz at hc
 repeat' split at hc
 all_goals first
  |(cases hc;done)
  |(cases hc;simp[aj];done)
  |(rw[ae] at hc;cases hc;simp[aj];done)
  |(replace hc:=(af hc).2;cases hc;simp[aj];done)
  |(replace hc:=(af hc).2;rw[ae] at hc;cases hc;simp[aj];done)
  |(replace hc:=ah hc;cases hc;done)
  |(replace hc:=ah hc;cases hc;simp[aj];done)
omit [Val] in
theorem zN (T:TypeId) (ps:Array (Nat×Operand)) {n:NOp} (hc:ap P (.build T ps)=some n):aj n≠.alloc:=by
 replace hc:jO P T ps.toList=some n:=hc
 unfold jO at hc
 repeat' split at hc
 all_goals first
  |(cases hc;done)
  |(cases hc;simp[aj];done)
  |(rw[ae] at hc;cases hc;simp[aj];done)
  |(replace hc:=(af hc).2;cases hc;simp[aj];done)
  |(replace hc:=(af hc).2;rw[ae] at hc;cases hc;simp[aj];done)
  |(replace hc:=ah hc;cases hc;done)
  |(replace hc:=ah hc;cases hc;simp[aj];done)
omit [Val] in
theorem Df (f:FuncId) (first caps:Array Operand) {n:NOp} (hc:ap P (.makeFunc (.func f) first caps)=some n):aj n≠.alloc:=by
 replace hc:nE f first.toList caps.toList=some n:=hc
 unfold nE at hc
 repeat' split at hc
 all_goals first
  |(cases hc;done)
  |(cases hc;simp[aj];done)
  |(rw[ae] at hc;cases hc;simp[aj];done)
  |(replace hc:=(af hc).2;cases hc;simp[aj];done)
  |(replace hc:=(af hc).2;rw[ae] at hc;cases hc;simp[aj];done)
  |(replace hc:=ah hc;cases hc;done)
  |(replace hc:=ah hc;cases hc;simp[aj];done)
omit [Val] in
theorem xq (T:TypeId) (x:Operand) (lo hi:Option Operand) {n:NOp} (hc:ap P (.slice T x lo hi none)=some n):aj n≠.alloc:=by
 replace hc:jH P T x lo hi=some n:=hc
 unfold jH at hc
 repeat' split at hc
 all_goals first
  |(cases hc;done)
  |(cases hc;simp[aj];done)
  |(rw[ae] at hc;cases hc;simp[aj];done)
  |(replace hc:=(af hc).2;cases hc;simp[aj];done)
  |(replace hc:=(af hc).2;rw[ae] at hc;cases hc;simp[aj];done)
  |(replace hc:=ah hc;cases hc;done)
  |(replace hc:=ah hc;cases hc;simp[aj];done)
omit [Val] in
theorem wm (T:TypeId) (x lo hi mx:Operand) {n:NOp} (hc:ap P (.slice T x (some lo) (some hi) (some mx))=some n):aj n≠.alloc:=by
 replace hc:gT P T x lo hi mx=some n:=hc
 unfold gT at hc
 repeat' split at hc
 all_goals first
  |(cases hc;done)
  |(cases hc;simp[aj];done)
  |(rw[ae] at hc;cases hc;simp[aj];done)
  |(replace hc:=(af hc).2;cases hc;simp[aj];done)
  |(replace hc:=(af hc).2;rw[ae] at hc;cases hc;simp[aj];done)
  |(replace hc:=ah hc;cases hc;done)
  |(replace hc:=ah hc;cases hc;simp[aj];done)
omit [Val] in
theorem sD {b:Builtin} {args:List NOpd} {ts:List TypeId} {n:NOp} (hc:cV P b args ts=some n):aj n≠.alloc:=by
 unfold cV at hc
 repeat' split at hc
 all_goals first
  |(cases hc;done)
  |(cases hc;simp[aj];done)
  |(rw[ae] at hc;cases hc;simp[aj];done)
  |(replace hc:=(af hc).2;rw[ae] at hc;cases hc;simp[aj];done)
theorem vP {src T:TypeId} {x:Operand} {h0:NH} {dst:Option Tmp} {type:TypeId} {pos:String} {after:Array Edge} {guard:Option (Nat×Bool)} {n:NOp} (hc:ap P (.convert src T x)=some n) (hO:OE ι t e) (hcl:aj n= .alloc) (hr:ag n t h0≠.fail):
 ∃o V,AllocR P ι w (ag n t) ((execOp e ⟨dst,.convert src T x,type,pos,after,guard⟩).run P w) o V:=by
 show ∃o V,AllocR P ι w (ag n t) ((do pure (Next.value (←convert src T (e x))):Sem Next).run P w) o V
 rw[bM]
 replace hc:nK P src T x=some n:=hc
 unfold nK at hc
 split at hc
 ·rename_i y hy
  unfold gk at hc
  split at hc
  ·replace hc:=lc hc;cases hc;cases hcl
  ·cases hc;cases hcl
  ·rename_i el hS hT
   split at hc
   ·rename_i he
    rw[ae] at hc;cases hc
    obtain ⟨v,h1,h2⟩:=aE (t:=t) (x:=y) (K:=fun v=>match v with| .str s=>s9 s fun l=>db s fun n=>cond (Nat.ble n 1099511627776) (h0.new (.cells false l) fun id h=> .mem (.slc id 0 n 1 n) h) .fail|_=> .fail) rfl hr
    have hv:=hO _ _ hy v h1
    generalize hex:e x=xv at hv ⊢
    cases hv with
    |str l s hs=>
     subst hs
     dsimp only at h2
     rw[iS,bF] at h2
     obtain ⟨hlen,_⟩:=aJ h2 hr
     have hlen':=Nat.le_of_ble_eq_true hlen
     rw[List.length_map,bw] at hlen'
     have hge:=grownCap_ge w s.size 0 el
     have hcm:grownCap w s.size 0 el<=maxLen:=grownCap_le_maxLen w s.size 0 el (by simp only[maxLen];omega)
     have hrun:=run_bytes_of_string (P:=P) w src T el s hS hT he
     have hbs:(bytesRow s (grownCap w s.size 0 el)).size=grownCap w s.size 0 el:=by
      have:s.data.size=s.size:=rfl
      simp[bytesRow,this];omega
     have hcells:∀(i:Nat) (v:NV),((s.data.toList.map UInt8.toNat).map fun x=>NV.int .u8 (.lit (.ofNat x)))[i]? =some v->∃v':Value,(bytesRow s (grownCap w s.size 0 el))[i]? =some v'/\VR ι v v'/\v'.oneCell'=true:=by
      intro i v hi
      obtain ⟨v',a,b⟩:=(lH (ι:=ι) s).get hi
      refine ⟨v', ?_,b, ?_⟩
      ·have hlt:i<s.data.size:=by
        have:=(List.getElem?_eq_some_iff.1 hi).1
        simpa using this
       rw[bytesRow_at s _ i hlt]
       rw[←a]
       unfold byteCells
       rw[List.getElem?_map,List.getElem?_eq_getElem (by simpa using hlt)]
       simp
      ·obtain ⟨_,_,rfl⟩:=List.mem_map.1 (List.mem_of_getElem? a)
       rfl
     refine ⟨.cells false ((s.data.toList.map UInt8.toNat).map fun x=>NV.int .u8 (.lit (.ofNat x))),fun n=> .slc n 0 s.size 1 s.size,fun h=> ?_,by simp, ?_⟩
     ·show wV t y _=_
      unfold wV
      rw[h1]
      show s9 _ _=_
      rw[iS,bF]
      show cond _ _ _=_
      rw[hlen,List.length_map,bw]
      exact NH.new_eq h (.cells false ((s.data.toList.map UInt8.toNat).map fun x=>NV.int .u8 (.lit (.ofNat x)))) fun id h=>NR.mem (.slc id 0 s.size 1 s.size) h
     refine ⟨_,w.drew,_,⟨w.drew.heap.size,0,(bytesRow s (grownCap w s.size 0 el)).size⟩,.inr rfl,by rw[aG,hrun];rfl,rfl,
      iR (fun hh=>by cases hh) (by rw[hbs,List.length_map,List.length_map,bw];exact hge) hcells,fun ι' n _ hn=>VR.slc _ 0 s.size 1 _ _ ⟨w.heap.size,0,none⟩ _ hn hge hge hcm (Nat.le_refl _) fun _=>⟨rfl,by rw[hbs];simp⟩⟩
    |_=>exact absurd h2.symm hr
   ·cases hc
  ·split at hc
   ·cases hc;cases hcl
   ·cases hc
  ·split at hc
   ·replace hc:=(af hc).2;cases hc;cases hcl
   ·cases hc
  ·cases hc
 ·cases hc
theorem uj {o:Oper} {h0:NH} {n:NOp} (hc:ap P o.op=some n) (hO:OE ι t e) (hcl:aj n= .alloc) (hr:ag n t h0≠.fail):
 ∃ob V,AllocR P ι w (ag n t) ((execOp e o).run P w) ob V:=by
 obtain ⟨dst,op,type,pos,after,guard⟩:=o
 cases op with
 |move x=>exact absurd hcl (Dx x hc)
 |assign x=>exact absurd hcl (xm x hc)
 |pick c a b=>exact absurd hcl (C3 c a b hc)
 |alloc T=>exact sV hc hr
 |box T x=>exact Aw hc hO hr
 |build T ps=>exact absurd hcl (zN T ps hc)
 |buildSlice T len ps=>exact lB hc hO hr
 |load T x=>exact absurd hcl (CI T x hc)
 |store T a x=>exact absurd hcl (zn T a x hc)
 |nilCheck x=>exact absurd hcl (qB x hc)
 |binOp op T x y T2=>exact absurd hcl (zO op T x y T2 hc)
 |unOp op T x=>exact absurd hcl (B9 op T x hc)
 |convert src T x=>exact vP hc hO hcl hr
 |makeInterface T x=>exact absurd hcl (kC T x hc)
 |makeFunc fn first caps=>
  cases fn with
  |func f=>exact absurd hcl (Df f first caps hc)
  |_=>have hc:(none:Option NOp)=some n:=hc;cases hc
 |makeMap T r=>
  cases r with
  |none=>cases hc;exact sx
  |some r=>have hc:(none:Option NOp)=some n:=hc;cases hc
 |makeSlice T l c=>exact pF hc hO hr
 |slice T x lo hi mx=>
  cases mx with
  |none=>exact absurd hcl (xq T x lo hi hc)
  |some mx=>
   cases lo with
   |none=>have hc:(none:Option NOp)=some n:=hc;cases hc
   |some lo=>
    cases hi with
    |none=>have hc:(none:Option NOp)=some n:=hc;cases hc
    |some hi=>exact absurd hcl (wm T x lo hi mx hc)
 |fieldAddr s x f=>exact absurd hcl (pz s x f hc)
 |field s x f=>exact absurd hcl (zy s x f hc)
 |indexAddr T x i=>exact absurd hcl (pf T x i hc)
 |index T x i=>exact absurd hcl (zx T x i hc)
 |lookup T x i ok=>exact absurd hcl (wP T x i ok hc)
 |mapUpdate T m k x=>exact absurd hcl (pA T m k x hc)
 |insert T m k x=>exact absurd hcl (vj T m k x hc)
 |typeAssert x X T ok=>
  cases ok with
  |false=>have hc:(none:Option NOp)=some n:=hc;cases hc
  |true=>exact absurd hcl (mP x X T hc)
 |extract x i=>exact absurd hcl (tC x i hc)
 |panic x=>exact absurd hcl (zm x hc)
 |call c=>
  obtain ⟨callee,args,ats⟩:=c
  cases callee with
  |value f=>
   replace hc:n7 f args.toList=some n:=hc
   unfold n7 at hc
   split at hc
   ·cases hc;cases hcl
   ·cases hc
  |builtin b=>
   replace hc:fh P b args.toList ats.toList=some n:=hc
   unfold fh at hc
   split at hc
   ·exact absurd hcl (sD hc)
   ·cases hc
  |invoke r m=>have hc:(none:Option NOp)=some n:=hc;cases hc
 |defer c=>
  obtain ⟨callee,args,ats⟩:=c
  cases callee with
  |value f=>
   replace hc:ft f args.toList=some n:=hc
   unfold ft at hc
   split at hc
   ·cases hc;cases hcl
   ·cases hc
  |builtin b=>have hc:(none:Option NOp)=some n:=hc;cases hc
  |invoke r m=>have hc:(none:Option NOp)=some n:=hc;cases hc
 |_=>have hc:(none:Option NOp)=some n:=hc;cases hc
end
end Nm
namespace Nm
open Go
variable [Val]
omit [Val] in
theorem AD {n:NOp} (hc:aj n= .pure) (t:Tm) (h h':NH):ag n t h=ag n t h':=by
 cases n<;>first|rfl|cases hc
def mu (h h':NH):Prop:=∀id o,h.get id=some o->h'.get id=some o
omit [Val] in
theorem mu.refl (h:NH):mu h h:=fun _ _ x=>x
omit [Val] in
theorem mu.trans {a b c:NH} (x:mu a b) (y:mu b c):mu a c:=fun i o h=>y i o (x i o h)
omit [Val] in
theorem mu.add {h:NH} (hf:∀i o,h.get i=some o->i.toNat<h.next.toNat) (o:NO):mu h (h.add o):=fun i u hi=>by
 have hne:i≠h.next:=fun e=>by have:=hf i u hi;rw[e] at this;exact Nat.lt_irrefl _ this
 rw[NH.get_add_ne _ _ hne];exact hi
omit [Val] in
theorem jK {h h':NH} (hx:mu h h') {id:D4} {K:List NV->NR} {v:NV} (e:bS h id K= .val v):bS h' id K= .val v:=by
 obtain ⟨wr,c,h1,h2⟩:=gP e (by simp)
 unfold bS
 rw[hx id _ h1];exact h2
omit [Val] in
theorem sf {h h':NH} (hx:mu h h') {m:NV} {K:List (NV×NV)->NR} {v:NV} (e:jZ h m K= .val v):jZ h' m K= .val v:=by
 rcases kh e (by simp) with ⟨rfl,h1⟩|⟨id,l,rfl,h1,h2⟩
 ·exact h1
 ·unfold jZ
  dsimp only
  rw[hx id _ h1];exact h2
omit [Val] in
theorem lr {t:Tm} {x:NOpd} {K K':NV->NR} {v:NV} (e:wV t x K= .val v) (hk:∀u,K u= .val v->K' u= .val v):wV t x K'= .val v:=by
 obtain ⟨u,h1,h2⟩:=aE e (by simp)
 unfold wV
 rw[h1];exact hk u h2
omit [Val] in
theorem BS {n:NOp} (hc:aj n= .read) {t:Tm} {h h':NH} (hx:mu h h') {v:NV} (e:ag n t h= .val v):ag n t h'= .val v:=by
 cases n with
 |load1 x=>
  refine lr (K':=fun a=>match a with| .ptr id off=>bS h' id fun c=>aR (ij c off) .val|_=> .fail) e fun u hu=> ?_
  cases u<;>first|exact jK hx hu|exact hu
 |loadN k x=>
  refine lr (K':=fun a=>match a with| .ptr id off=>bS h' id fun c=>aR (fC c off k) fun l=> .val (.agg l)|_=> .fail) e fun u hu=> ?_
  cases u<;>first|exact jK hx hu|exact hu
 |lookup s z ok x i=>
  refine lr (K':=fun m=>wV t i fun k=>jZ h' m fun l=>aR (jt s k l) fun r=>Option.rec (Bool.rec (.val z) (.val (.tup [z,.bool false])) ok) (fun v=>Bool.rec (.val v) (.val (.tup [v,.bool true])) ok) r) e fun u hu=> ?_
  exact lr hu fun k hk=>sf hx hk
 |bytesToStr x=>
  refine lr (K':=fun v=>fB 1 h' v fun _ l=>aR (d6 l) fun s=> .val (.str s)) e fun u hu=> ?_
  cases u with
  |slc id off len es kc=>
   have hu':cond (Nat.beq es 1) (bS h id fun c=>aR (fC c off (Nat.mul len 1)) fun l=>aR (d6 l) fun s=> .val (.str s)) .fail=NR.val v:=hu
   obtain ⟨h1,h2⟩:=aJ hu' (by simp)
   show cond (Nat.beq es 1) (bS h' id fun c=>aR (fC c off (Nat.mul len 1)) fun l=>aR (d6 l) fun s=> .val (.str s)) .fail=NR.val v
   rw[h1]
   exact jK hx h2
  |_=>exact hu
 |lenMap x=>
  refine lr (K':=fun v=>jZ h' v fun l=>db l fun n=> .val (.int .i64 (.lit (.ofNat n)))) e fun u hu=> ?_
  exact sf hx hu
 |_=>cases hc
omit [Val] in
theorem iL:∀{a b:D4},bn a b=true->a=b:=by
 intro a
 induction a with
 |e=>intro b h;cases b<;>first|rfl|cases h
 |a d ih=>intro b h;cases b<;>first|(rw[ih h])|cases h
 |b d ih=>intro b h;cases b<;>first|(rw[ih h])|cases h
 |c d ih=>intro b h;cases b<;>first|(rw[ih h])|cases h
 |f d ih=>intro b h;cases b<;>first|(rw[ih h])|cases h
omit [Val] in
theorem de {a b:Bool} (h:cond a b false=true):a=true/\b=true:=by
 cases a with
 |true=>exact ⟨rfl,h⟩
 |false=>cases h
omit [Val] in
theorem kR {f:NV->NV->Bool} (hf:∀a b,f a b=true->a=b):∀{l m:List NV},iq f l m=true->l=m:=by
 intro l
 induction l with
 |nil=>intro m h;cases m<;>first|rfl|cases h
 |cons a l ih=>
  intro m h
  cases m with
  |nil=>cases h
  |cons b m=>
   obtain ⟨h1,h2⟩:=de (show cond (f a b) (iq f l m) false=true from h)
   rw[hf a b h1,ih h2]
omit [Val] in
theorem CN:∀{a b:List ST},pP a b=true->a=b:=by
 intro a
 induction a with
 |nil=>intro b h;cases b with
  |nil=>rfl
  |cons u b=>cases h
 |cons t a ih=>
  intro b h
  cases b with
  |nil=>cases h
  |cons u b=>
   obtain ⟨m,i,lo,hi⟩:=t
   obtain ⟨m',i',lo',hi'⟩:=u
   obtain ⟨h1,h⟩:=de (show cond (Nat.beq m m') (cond (Nat.beq i i') (cond (Nat.beq lo lo') (cond (Nat.beq hi hi') (pP a b) false) false) false) false=true from h)
   obtain ⟨h2,h⟩:=de h
   obtain ⟨h3,h⟩:=de h
   obtain ⟨h4,h⟩:=de h
   rw[Nat.eq_of_beq_eq_true h1,Nat.eq_of_beq_eq_true h2,Nat.eq_of_beq_eq_true h3,Nat.eq_of_beq_eq_true h4,ih h]
omit [Val] in
theorem kE:∀(d:Nat) (a b:NV),bP d a b=true->a=b:=by
 intro d
 induction d with
 |zero=>intro a b h;cases h
 |succ d ih=>
  intro a b h
  replace h:yo (bP d) a b=true:=h
  unfold yo at h
  split at h
  ·obtain ⟨h1,h2⟩:=de h
   obtain ⟨h3,h4⟩:=de h2
   rw[bW] at h3
   rw[gF h1,eq_of_beq h3,CN h4]
  ·rw[i9] at h;rw[eq_of_beq h]
  ·obtain ⟨h1,h2⟩:=de h
   rw[gF h1]
   rw[bW] at h2
   rw[eq_of_beq h2]
  ·rw[kZ] at h;rw[eq_of_beq h]
  ·rfl
  ·rfl
  ·rfl
  ·rfl
  ·rfl
  ·obtain ⟨h1,h2⟩:=de h
   rw[iL h1,Nat.eq_of_beq_eq_true h2]
  ·obtain ⟨h1,h2⟩:=de h
   obtain ⟨h3,h4⟩:=de h2
   obtain ⟨h5,h6⟩:=de h4
   obtain ⟨h7,h8⟩:=de h6
   rw[iL h1,Nat.eq_of_beq_eq_true h3,Nat.eq_of_beq_eq_true h5,Nat.eq_of_beq_eq_true h7,Nat.eq_of_beq_eq_true h8]
  ·rw[iL h]
  ·rw[iL h]
  ·obtain ⟨h1,h2⟩:=de h
   rw[Nat.eq_of_beq_eq_true h1,kR ih h2]
  ·rw[kR ih h]
  ·rw[kR ih h]
  ·cases h
omit [Val] in
theorem qp {pre:Nat} {h:NH}:∀{l:List (Nat×(NH->NR)×NV)},stays pre h l=true->∀r∈l,pre.testBit r.1=false->r.2.1 h= .val r.2.2:=by
 intro l
 induction l with
 |nil=>intro _ r hr;cases hr
 |cons a l ih=>
  intro h1 r hr hb
  have h':cond (Nat.testBit pre a.1) (stays pre h l) (match a.2.1 h with| .val v=>cond (bP 4 v a.2.2) (stays pre h l) false|_=>false)=true:=h1
  cases hp:Nat.testBit pre a.1 with
  |true=>
   rw[hp] at h'
   rcases List.mem_cons.1 hr with rfl|hr
   ·rw[hp] at hb;cases hb
   ·exact ih h' r hr hb
  |false=>
   rw[hp] at h'
   simp only[cond_false] at h'
   split at h'
   ·rename_i v hv
    obtain ⟨h2,h3⟩:=de h'
    rcases List.mem_cons.1 hr with rfl|hr
    ·rw[hv,kE _ _ _ h2]
    ·exact ih h3 r hr hb
   ·cases h'
omit [Val] in
theorem qj {pre:Nat} {f:NH->NR} {v:NV}:∀{l:List (Nat×NH)},eo pre f v l=true->∀r∈l,pre.testBit r.1=false->f r.2= .val v:=by
 intro l
 induction l with
 |nil=>intro _ r hr;cases hr
 |cons a l ih=>
  intro h1 r hr hb
  have h':cond (Nat.testBit pre a.1) (eo pre f v l) (match f a.2 with| .val u=>cond (bP 4 u v) (eo pre f v l) false|_=>false)=true:=h1
  cases hp:Nat.testBit pre a.1 with
  |true=>
   rw[hp] at h'
   rcases List.mem_cons.1 hr with rfl|hr
   ·rw[hp] at hb;cases hb
   ·exact ih h' r hr hb
  |false=>
   rw[hp] at h'
   simp only[cond_false] at h'
   split at h'
   ·rename_i u hu
    obtain ⟨h2,h3⟩:=de h'
    rcases List.mem_cons.1 hr with rfl|hr
    ·rw[hu,kE _ _ _ h2]
    ·exact ih h3 r hr hb
   ·cases h'
omit [Val] in
theorem fY {pre:Nat}:∀{l:List (Nat×NH)},ahead pre l=true->∀r∈l,pre.testBit r.1=true:=by
 intro l
 induction l with
 |nil=>intro _ r hr;cases hr
 |cons a l ih=>
  intro h1 r hr
  obtain ⟨h2,h3⟩:=de (show cond (Nat.testBit pre a.1) (ahead pre l) false=true from h1)
  rcases List.mem_cons.1 hr with rfl|hr
  ·exact h2
  ·exact ih h3 r hr
omit [Val] in
theorem wg {i:Nat}:∀{l:List NOper},cA i l=true->∀o∈l,o.pre.testBit i=true:=by
 intro l
 induction l with
 |nil=>intro _ r hr;cases hr
 |cons a l ih=>
  intro h1 r hr
  obtain ⟨h2,h3⟩:=de (show cond (Nat.testBit a.pre i) (cA i l) false=true from h1)
  rcases List.mem_cons.1 hr with rfl|hr
  ·exact h2
  ·exact ih h3 r hr
omit [Val] in
theorem zp:∀{l:List NOper} {m m':Nat},uB l m=some m'->
 (∀j,m'.testBit j=true↔m.testBit j=true∨∃o∈l,o.idx=j)/\(l.map (·.idx)).Nodup/\(∀o∈l,m.testBit o.idx=false)/\
 (∀l1 o l2,l=l1++o::l2->∀j,o.pre.testBit j=true->m.testBit j=true∨∃o'∈l1,o'.idx=j):=by
 intro l
 induction l with
 |nil=>
  intro m m' h
  cases h
  exact ⟨fun j=>by simp,by simp,by simp,fun l1 o l2 h=>by cases l1<;>cases h⟩
 |cons a l ih=>
  intro m m' h
  have h':cond (Nat.testBit m a.idx) none (cond (Nat.beq (Nat.land a.pre m) a.pre) (aw (Nat.lor m (Nat.pow 2 a.idx)) (uB l)) none)=some m':=h
  cases hb:Nat.testBit m a.idx with
  |true=>rw[hb] at h';cases h'
  |false=>
   rw[hb] at h'
   obtain ⟨h2,h3⟩:=af (show cond (Nat.beq (Nat.land a.pre m) a.pre) (aw (Nat.lor m (Nat.pow 2 a.idx)) (uB l)) none=some m' from h')
   rw[ae] at h3
   obtain ⟨i1,i2,i3,i4⟩:=ih h3
   have hbit:∀j,(Nat.lor m (Nat.pow 2 a.idx)).testBit j=true↔m.testBit j=true∨a.idx=j:=fun j=>by
    have e:Nat.lor m (Nat.pow 2 a.idx)=m|||2 ^ a.idx:=rfl
    rw[e,Nat.testBit_or,Bool.or_eq_true,Nat.testBit_two_pow]
    simp
   have hpre:∀j,a.pre.testBit j=true->m.testBit j=true:=fun j hj=>by
    have e:a.pre&&& m=a.pre:=Nat.eq_of_beq_eq_true h2
    rw[←e,Nat.testBit_and,Bool.and_eq_true] at hj
    exact hj.2
   refine ⟨fun j=> ?_, ?_, ?_, ?_⟩
   ·rw[i1 j,hbit j]
    constructor
    ·rintro ((h|h)|⟨o,h,h'⟩)
     ·exact .inl h
     ·exact .inr ⟨a,by simp,h⟩
     ·exact .inr ⟨o,by simp[h],h'⟩
    ·rintro (h|⟨o,h,hoj⟩)
     ·exact .inl (.inl h)
     ·rcases List.mem_cons.1 h with rfl|h
      ·exact .inl (.inr hoj)
      ·exact .inr ⟨o,h,hoj⟩
   ·rw[List.map_cons,List.nodup_cons]
    refine ⟨fun hm=> ?_,i2⟩
    obtain ⟨o,ho,he⟩:=List.mem_map.1 hm
    have:=i3 o ho
    have h4:=(hbit o.idx).2 (.inr he.symm)
    rw[this] at h4;cases h4
   ·intro o ho
    rcases List.mem_cons.1 ho with rfl|ho
    ·exact hb
    ·cases hq:m.testBit o.idx with
     |false=>rfl
     |true=>have h4:=(hbit o.idx).2 (.inl hq);rw[i3 o ho] at h4;cases h4
   ·intro l1 o l2 he j hj
    cases l1 with
    |nil=>cases he;exact .inl (hpre j hj)
    |cons c l1=>
     injection he with he1 he2
     subst he1
     rcases i4 l1 o l2 he2 j hj with h4|⟨o',h4,h5⟩
     ·rcases (hbit j).1 h4 with h6|h6
      ·exact .inl h6
      ·exact .inr ⟨a,by simp,h6⟩
     ·exact .inr ⟨o',by simp[h4],h5⟩
end Nm
namespace Nm
open Go
variable [Val]
inductive RK where
 |off
 |pure (v:NV)
 |alloc (v:NV) (h:NH)
 |read (v:NV)
 |eff (v:NV) (dfs:List Dfr) (ctx:Option NV) (h:NH)
structure Rec where
 o:NOper
 t:Tm
 dfs:List Dfr
 ctx:Option NV
 h:NH
 k:RK
def Rec.st (r:Rec):Dyn:=⟨r.t,r.dfs,r.ctx,r.h⟩
def Rec.val (r:Rec):NV:=match r.k with| .off=>aM| .pure v| .alloc v _| .read v| .eff v _ _ _=>v
noncomputable def Rec.nx (r:Rec):Dyn:=match r.k with
 | .off| .pure _| .read _=>⟨aT r.o.dst r.val r.t,r.dfs,r.ctx,r.h⟩
 | .alloc _ h=>⟨aT r.o.dst r.val r.t,r.dfs,r.ctx,h⟩
 | .eff _ dfs ctx h=>⟨aT r.o.dst r.val r.t,dfs,ctx,h⟩
section
variable (P:Program) (S:Nat->List NV->Option NV) (self:Option D4->NC->Dyn->Res) (rnd:Option D4)
def Rec.ok (r:Rec):Prop:=match r.k with
 | .off=>aB r.t r.o.guard=some false
 | .pure v=>aB r.t r.o.guard=some true/\aj r.o.op= .pure/\ag r.o.op r.t r.h= .val v
 | .alloc v h=>aB r.t r.o.guard=some true/\aj r.o.op= .alloc/\ag r.o.op r.t r.h= .mem v h
 | .read v=>aB r.t r.o.guard=some true/\aj r.o.op= .read/\ag r.o.op r.t r.h= .val v
 | .eff v dfs ctx h=>aB r.t r.o.guard=some true/\aj r.o.op= .eff/\dQ P S self rnd r.dfs r.ctx r.h (ag r.o.op r.t r.h)= .next v dfs ctx h
inductive Chain:Dyn->List Rec->Dyn->Prop
 |nil (d:Dyn):Chain d [] d
 |cons (r:Rec) (R:List Rec) (d':Dyn) (h:r.ok P S self rnd) (c:Chain r.nx R d'):Chain r.st (r::R) d'
def QE (i:Nat) (h0:NH) (r:Rec):Prop:=match r.k with
 | .alloc _ _| .eff _ _ _ _=>r.o.pre.testBit i=true
 | .read v=>r.o.pre.testBit i=false->ag r.o.op r.t h0= .val v
 |_=>True
def QR (i:Nat) (f:NH->NR) (v:NV) (r:Rec):Prop:=match r.k with
 | .eff _ _ _ h=>r.o.pre.testBit i=false->f h= .val v
 |_=>True
def QQ (r r':Rec):Prop:=match r.k with
 | .eff _ _ _ _=>QE r.o.idx r.h r'
 | .read v=>QR r.o.idx (ag r.o.op r.t) v r'
 |_=>True
end
section
variable {P:Program} {S:Nat->List NV->Option NV} {self:Option D4->NC->Dyn->Res} {rnd:Option D4}
omit [Val] in
theorem bX (o:NOper) (l:List NOper) (hs:List (Nat×NH)) (rs:List (Nat×(NH->NR)×NV)) (t:Tm) (dfs:List Dfr) (ctx:Option NV) (h:NH):
 bQ P S self rnd (o::l) hs rs ⟨t,dfs,ctx,h⟩=match aB t o.guard with
  |none=> .fail
  |some false=>bQ P S self rnd l hs rs ⟨aT o.dst aM t,dfs,ctx,h⟩
  |some true=>match aj o.op with
   | .pure=>(match ag o.op t h with
    | .val v=>bQ P S self rnd l hs rs ⟨aT o.dst v t,dfs,ctx,h⟩
    |_=> .fail)
   | .alloc=>cond (ahead o.pre hs) (match ag o.op t h with
    | .mem v h=>bQ P S self rnd l hs rs ⟨aT o.dst v t,dfs,ctx,h⟩
    |_=> .fail) .fail
   | .read=>(match ag o.op t h with
    | .val v=>cond (eo o.pre (ag o.op t) v hs) (bQ P S self rnd l hs ((o.idx,ag o.op t,v)::rs) ⟨aT o.dst v t,dfs,ctx,h⟩) .fail
    |_=> .fail)
   | .eff=>cond (ahead o.pre hs) (dj (cA o.idx l) (zS o.dst (fun d=>cond (stays o.pre d.h rs) (bQ P S self rnd l ((o.idx,h)::hs) rs d) .fail) t dfs ctx (dQ P S self rnd dfs ctx h (ag o.op t h)))) .fail:=by
 have e:bQ P S self rnd (o::l) hs rs ⟨t,dfs,ctx,h⟩=Option.rec .fail (fun on=>Bool.rec (iB o.dst aM t fun t=>bQ P S self rnd l hs rs ⟨t,dfs,ctx,h⟩)
  (match aj o.op with
   | .pure=>(match ag o.op t h with
    | .val v=>iB o.dst v t fun t=>bQ P S self rnd l hs rs ⟨t,dfs,ctx,h⟩
    |_=> .fail)
   | .alloc=>cond (ahead o.pre hs) (match ag o.op t h with
    | .mem v h=>iB o.dst v t fun t=>bQ P S self rnd l hs rs ⟨t,dfs,ctx,h⟩
    |_=> .fail) .fail
   | .read=>(match ag o.op t h with
    | .val v=>cond (eo o.pre (ag o.op t) v hs) (iB o.dst v t fun t'=>bQ P S self rnd l hs ((o.idx,ag o.op t,v)::rs) ⟨t',dfs,ctx,h⟩) .fail
    |_=> .fail)
   | .eff=>cond (ahead o.pre hs) (dj (cA o.idx l) (nT P S self rnd o.dst (fun d=>cond (stays o.pre d.h rs) (bQ P S self rnd l ((o.idx,h)::hs) rs d) .fail) t dfs ctx h (ag o.op t h))) .fail) on)
  (aB t o.guard):=rfl
 rw[e]
 cases aB t o.guard with
 |none=>rfl
 |some on=>
  cases on with
  |false=>exact dl o.dst aM t fun t=>bQ P S self rnd l hs rs ⟨t,dfs,ctx,h⟩
  |true=>
   dsimp only
   cases aj o.op with
   |pure=>
    dsimp only
    cases ag o.op t h<;>first|rfl|exact dl o.dst _ t fun t=>bQ P S self rnd l hs rs ⟨t,dfs,ctx,h⟩
   |alloc=>
    dsimp only
    congr 1
    cases ag o.op t h with
    |mem v h=>exact dl o.dst v t fun t=>bQ P S self rnd l hs rs ⟨t,dfs,ctx,h⟩
    |_=>rfl
   |read=>
    dsimp only
    cases ag o.op t h with
    |val v=>exact congrArg (fun x=>cond (eo o.pre (ag o.op t) v hs) x .fail) (dl o.dst v t fun t'=>bQ P S self rnd l hs ((o.idx,ag o.op t,v)::rs) ⟨t',dfs,ctx,h⟩)
    |_=>rfl
   |eff=>
    dsimp only
    rw[qi]
omit [Val] in
theorem w9 {b:Bool} {r:Res} {d:Dyn} (h:dj b r= .mk .norm d):r= .mk .norm d:=by
 unfold dj at h
 split at h
 ·cases b<;>cases h
 ·exact h
omit [Val] in
theorem zF {b:Bool} {r:Res} {v:NV} {d:Dyn} (h:dj b r= .mk (.pan v) d):r= .mk (.pan v) d/\b=true:=by
 unfold dj at h
 split at h
 ·cases b with
  |true=>exact ⟨h,rfl⟩
  |false=>cases h
 ·rename_i hn;exact absurd h (hn v d)
omit [Val] in
theorem Ap:∀(l:List NOper) (hs:List (Nat×NH)) (rs:List (Nat×(NH->NR)×NV)) (d d':Dyn),bQ P S self rnd l hs rs d= .mk .norm d'->
 ∃R:List Rec,R.map (·.o)=l/\Chain P S self rnd d R d'/\R.Pairwise QQ/\(∀e∈hs,∀r∈R,QE e.1 e.2 r)/\(∀e∈rs,∀r∈R,QR e.1 e.2.1 e.2.2 r):=by
 intro l
 induction l with
 |nil=>
  intro hs rs d d' h
  cases h
  exact ⟨[],rfl,.nil _,.nil,by simp,by simp⟩
 |cons o l ih=>
  intro hs rs d d' h
  obtain ⟨t,dfs,ctx,hp⟩:=d
  rw[bX] at h
  cases hg:aB t o.guard with
  |none=>rw[hg] at h;cases h
  |some on=>
   rw[hg] at h
   cases on with
   |false=>
    obtain ⟨R,h1,h2,h3,h4,h5⟩:=ih hs rs _ d' h
    refine ⟨⟨o,t,dfs,ctx,hp,.off⟩::R,by rw[List.map_cons,h1],.cons ⟨o,t,dfs,ctx,hp,.off⟩ R d' hg h2,.cons (fun r _=>trivial) h3,fun e he r hr=> ?_,fun e he r hr=> ?_⟩
    ·rcases List.mem_cons.1 hr with rfl|hr
     ·trivial
     ·exact h4 e he r hr
    ·rcases List.mem_cons.1 hr with rfl|hr
     ·trivial
     ·exact h5 e he r hr
   |true=>
    dsimp only at h
    cases hcl:aj o.op with
    |pure=>
     rw[hcl] at h
     dsimp only at h
     cases hop:ag o.op t hp with
     |val v=>
      rw[hop] at h
      obtain ⟨R,h1,h2,h3,h4,h5⟩:=ih hs rs _ d' h
      refine ⟨⟨o,t,dfs,ctx,hp,.pure v⟩::R,by rw[List.map_cons,h1],.cons ⟨o,t,dfs,ctx,hp,.pure v⟩ R d' ⟨hg,hcl,hop⟩ h2,.cons (fun r _=>trivial) h3,fun e he r hr=> ?_,fun e he r hr=> ?_⟩
      ·rcases List.mem_cons.1 hr with rfl|hr
       ·trivial
       ·exact h4 e he r hr
      ·rcases List.mem_cons.1 hr with rfl|hr
       ·trivial
       ·exact h5 e he r hr
     |_=>rw[hop] at h;cases h
    |alloc=>
     rw[hcl] at h
     dsimp only at h
     cases ha:ahead o.pre hs with
     |false=>rw[ha] at h;cases h
     |true=>
      rw[ha] at h
      simp only[cond_true] at h
      cases hop:ag o.op t hp with
      |mem v h0=>
       rw[hop] at h
       obtain ⟨R,h1,h2,h3,h4,h5⟩:=ih hs rs _ d' h
       refine ⟨⟨o,t,dfs,ctx,hp,.alloc v h0⟩::R,by rw[List.map_cons,h1],.cons ⟨o,t,dfs,ctx,hp,.alloc v h0⟩ R d' ⟨hg,hcl,hop⟩ h2,.cons (fun r _=>trivial) h3,fun e he r hr=> ?_,fun e he r hr=> ?_⟩
       ·rcases List.mem_cons.1 hr with rfl|hr
        ·exact fY ha e he
        ·exact h4 e he r hr
       ·rcases List.mem_cons.1 hr with rfl|hr
        ·trivial
        ·exact h5 e he r hr
      |_=>rw[hop] at h;cases h
    |read=>
     rw[hcl] at h
     dsimp only at h
     cases hop:ag o.op t hp with
     |val v=>
      rw[hop] at h
      dsimp only at h
      cases hst:eo o.pre (ag o.op t) v hs with
      |false=>rw[hst] at h;cases h
      |true=>
       rw[hst] at h
       obtain ⟨R,h1,h2,h3,h4,h5⟩:=ih hs ((o.idx,ag o.op t,v)::rs) _ d' h
       refine ⟨⟨o,t,dfs,ctx,hp,.read v⟩::R,by rw[List.map_cons,h1],.cons ⟨o,t,dfs,ctx,hp,.read v⟩ R d' ⟨hg,hcl,hop⟩ h2,.cons (fun r hr=>h5 (o.idx,ag o.op t,v) (by simp) r hr) h3,fun e he r hr=> ?_,fun e he r hr=> ?_⟩
       ·rcases List.mem_cons.1 hr with rfl|hr
        ·exact fun hb=>qj hst e he hb
        ·exact h4 e he r hr
       ·rcases List.mem_cons.1 hr with rfl|hr
        ·trivial
        ·exact h5 e (by simp[he]) r hr
     |_=>rw[hop] at h;cases h
    |eff=>
     rw[hcl] at h
     dsimp only at h
     cases ha:ahead o.pre hs with
     |false=>rw[ha] at h;cases h
     |true=>
      rw[ha] at h
      replace h:=w9 h
      cases hoo:dQ P S self rnd dfs ctx hp (ag o.op t hp) with
      |fail=>rw[hoo] at h;cases h
      |pan v h0=>rw[hoo] at h;cases h
      |next v dfs1 ctx1 h0=>
       rw[hoo] at h
       have h':cond (stays o.pre h0 rs) (bQ P S self rnd l ((o.idx,hp)::hs) rs ⟨aT o.dst v t,dfs1,ctx1,h0⟩) .fail= .mk .norm d':=h
       cases hsy:stays o.pre h0 rs with
       |false=>rw[hsy] at h';cases h'
       |true=>
        rw[hsy] at h'
        obtain ⟨R,h1,h2,h3,h4,h5⟩:=ih ((o.idx,hp)::hs) rs _ d' h'
        refine ⟨⟨o,t,dfs,ctx,hp,.eff v dfs1 ctx1 h0⟩::R,by rw[List.map_cons,h1],.cons ⟨o,t,dfs,ctx,hp,.eff v dfs1 ctx1 h0⟩ R d' ⟨hg,hcl,hoo⟩ h2,.cons (fun r hr=>h4 (o.idx,hp) (by simp) r hr) h3,fun e he r hr=> ?_,fun e he r hr=> ?_⟩
        ·rcases List.mem_cons.1 hr with rfl|hr
         ·exact fY ha e he
         ·exact h4 e (by simp[he]) r hr
        ·rcases List.mem_cons.1 hr with rfl|hr
         ·exact fun hb=>qp hsy e he hb
         ·exact h5 e he r hr
def Rec.isE (r:Rec):Prop:=match r.k with| .eff _ _ _ _=>True|_=>False
omit [Val] in
theorem DN {v:NV}:∀(l:List NOper) (hs:List (Nat×NH)) (rs:List (Nat×(NH->NR)×NV)) (d d':Dyn),bQ P S self rnd l hs rs d= .mk (.pan v) d'->
 ∃(R:List Rec) (q:Rec) (l2:List NOper) (h':NH),l=R.map (·.o)++q.o::l2/\Chain P S self rnd d R q.st/\R.Pairwise QQ/\(∀e∈hs,∀r∈R,QE e.1 e.2 r)/\(∀e∈rs,∀r∈R,QR e.1 e.2.1 e.2.2 r)/\
  aB q.t q.o.guard=some true/\aj q.o.op= .eff/\dQ P S self rnd q.dfs q.ctx q.h (ag q.o.op q.t q.h)= .pan v h'/\d'=⟨q.t,q.dfs,q.ctx,h'⟩/\
  (∀e∈hs,q.o.pre.testBit e.1=true)/\(∀r∈R,r.isE->q.o.pre.testBit r.o.idx=true)/\∀o∈l2,o.pre.testBit q.o.idx=true:=by
 intro l
 induction l with
 |nil=>intro hs rs d d' h;cases h
 |cons o l ih=>
  intro hs rs d d' h
  obtain ⟨t,dfs,ctx,hp⟩:=d
  rw[bX] at h
  have fin:∀(r0:Rec) (hs1:List (Nat×NH)) (rs1:List (Nat×(NH->NR)×NV)),r0.o=o->r0.st=⟨t,dfs,ctx,hp⟩->r0.ok P S self rnd->bQ P S self rnd l hs1 rs1 r0.nx= .mk (.pan v) d'->(∀e∈hs,e∈hs1)->(∀e∈rs,e∈rs1)->
   (∀R:List Rec,(∀e∈hs1,∀r∈R,QE e.1 e.2 r)->(∀e∈rs1,∀r∈R,QR e.1 e.2.1 e.2.2 r)->∀r∈R,QQ r0 r)->(∀e∈hs,QE e.1 e.2 r0)->(∀e∈rs,QR e.1 e.2.1 e.2.2 r0)->(r0.isE->∃h,(r0.o.idx,h)∈hs1)->
   ∃(R:List Rec) (q:Rec) (l2:List NOper) (h':NH),o::l=R.map (·.o)++q.o::l2/\Chain P S self rnd ⟨t,dfs,ctx,hp⟩ R q.st/\R.Pairwise QQ/\(∀e∈hs,∀r∈R,QE e.1 e.2 r)/\(∀e∈rs,∀r∈R,QR e.1 e.2.1 e.2.2 r)/\
    aB q.t q.o.guard=some true/\aj q.o.op= .eff/\dQ P S self rnd q.dfs q.ctx q.h (ag q.o.op q.t q.h)= .pan v h'/\d'=⟨q.t,q.dfs,q.ctx,h'⟩/\
    (∀e∈hs,q.o.pre.testBit e.1=true)/\(∀r∈R,r.isE->q.o.pre.testBit r.o.idx=true)/\∀o∈l2,o.pre.testBit q.o.idx=true:=by
   intro r0 hs1 rs1 e1 e2 hok hrun s1 s2 hqq hqe hqr hise
   obtain ⟨R,q,l2,h',q1,q2,q3,q4,q5,q6,q7,q8,q9,q10,q11,q12⟩:=ih hs1 rs1 _ d' hrun
   refine ⟨r0::R,q,l2,h',by rw[q1,List.map_cons,e1];rfl,e2▸.cons r0 R q.st hok q2,.cons (hqq R q4 q5) q3,fun e he r hr=> ?_,fun e he r hr=> ?_,q6,q7,q8,q9,fun e he=>q10 e (s1 e he),fun r hr hE=> ?_,q12⟩
   ·rcases List.mem_cons.1 hr with rfl|hr
    ·exact hqe e he
    ·exact q4 e (s1 e he) r hr
   ·rcases List.mem_cons.1 hr with rfl|hr
    ·exact hqr e he
    ·exact q5 e (s2 e he) r hr
   ·rcases List.mem_cons.1 hr with rfl|hr
    ·obtain ⟨h0,hm⟩:=hise hE;exact q10 _ hm
    ·exact q11 r hr hE
  cases hg:aB t o.guard with
  |none=>rw[hg] at h;cases h
  |some on=>
   rw[hg] at h
   cases on with
   |false=>exact fin ⟨o,t,dfs,ctx,hp,.off⟩ hs rs rfl rfl hg h (fun _ x=>x) (fun _ x=>x) (fun _ _ _ _ _=>trivial) (fun _ _=>trivial) (fun _ _=>trivial) (fun x=>x.elim)
   |true=>
    dsimp only at h
    cases hcl:aj o.op with
    |pure=>
     rw[hcl] at h
     dsimp only at h
     cases hop:ag o.op t hp with
     |val u=>
      rw[hop] at h
      exact fin ⟨o,t,dfs,ctx,hp,.pure u⟩ hs rs rfl rfl ⟨hg,hcl,hop⟩ h (fun _ x=>x) (fun _ x=>x) (fun _ _ _ _ _=>trivial) (fun _ _=>trivial) (fun _ _=>trivial) (fun x=>x.elim)
     |_=>rw[hop] at h;cases h
    |alloc=>
     rw[hcl] at h
     dsimp only at h
     cases ha:ahead o.pre hs with
     |false=>rw[ha] at h;cases h
     |true=>
      rw[ha] at h
      simp only[cond_true] at h
      cases hop:ag o.op t hp with
      |mem u h0=>
       rw[hop] at h
       exact fin ⟨o,t,dfs,ctx,hp,.alloc u h0⟩ hs rs rfl rfl ⟨hg,hcl,hop⟩ h (fun _ x=>x) (fun _ x=>x) (fun _ _ _ _ _=>trivial) (fun e he=>fY ha e he) (fun _ _=>trivial) (fun x=>x.elim)
      |_=>rw[hop] at h;cases h
    |read=>
     rw[hcl] at h
     dsimp only at h
     cases hop:ag o.op t hp with
     |val u=>
      rw[hop] at h
      dsimp only at h
      cases hst:eo o.pre (ag o.op t) u hs with
      |false=>rw[hst] at h;cases h
      |true=>
       rw[hst] at h
       exact fin ⟨o,t,dfs,ctx,hp,.read u⟩ hs ((o.idx,ag o.op t,u)::rs) rfl rfl ⟨hg,hcl,hop⟩ h (fun _ x=>x) (fun _ x=>by simp[x]) (fun R _ h5 r hr=>h5 (o.idx,ag o.op t,u) (by simp) r hr) (fun e he hb=>qj hst e he hb) (fun _ _=>trivial) (fun x=>x.elim)
     |_=>rw[hop] at h;cases h
    |eff=>
     rw[hcl] at h
     dsimp only at h
     cases ha:ahead o.pre hs with
     |false=>rw[ha] at h;cases h
     |true=>
      rw[ha] at h
      obtain ⟨h,hbh⟩:=zF h
      cases hoo:dQ P S self rnd dfs ctx hp (ag o.op t hp) with
      |fail=>rw[hoo] at h;cases h
      |pan u h0=>
       rw[hoo] at h
       cases h
       exact ⟨[],⟨o,t,dfs,ctx,hp,.off⟩,l,h0,rfl,.nil _,.nil,by simp,by simp,hg,hcl,hoo,rfl,fun e he=>fY ha e he,by simp,wg hbh⟩
      |next u dfs1 ctx1 h0=>
       rw[hoo] at h
       have h':cond (stays o.pre h0 rs) (bQ P S self rnd l ((o.idx,hp)::hs) rs ⟨aT o.dst u t,dfs1,ctx1,h0⟩) .fail= .mk (.pan v) d':=h
       cases hsy:stays o.pre h0 rs with
       |false=>rw[hsy] at h';cases h'
       |true=>
        rw[hsy] at h'
        exact fin ⟨o,t,dfs,ctx,hp,.eff u dfs1 ctx1 h0⟩ ((o.idx,hp)::hs) rs rfl rfl ⟨hg,hcl,hoo⟩ h' (fun _ x=>by simp[x]) (fun _ x=>x) (fun R h4 _ r hr=>h4 (o.idx,hp) (by simp) r hr) (fun e he=>fY ha e he) (fun e he hb=>qp hsy e he hb) (fun _=>⟨hp,by simp⟩)
end
end Nm
namespace Nm
open Go
variable [Val]
omit [Val] in
theorem NT.get_del_same {α:Type} (d:D4) (t:NT α):NT.get d (NT.del d t)=none:=by
 induction d generalizing t with
 |e=>cases t<;>rfl
 |a d ih=>cases t<;>first|rfl|exact ih _
 |b d ih=>cases t<;>first|rfl|exact ih _
 |c d ih=>cases t<;>first|rfl|exact ih _
 |f d ih=>cases t<;>first|rfl|exact ih _
omit [Val] in
theorem NT.get_del_ne {α:Type} {d i:D4} (h:i≠d) (t:NT α):NT.get i (NT.del d t)=NT.get i t:=by
 induction d generalizing t i with
 |e=>cases i<;>first|exact absurd rfl h|(cases t<;>rfl)
 |a d ih=>cases i<;>cases t<;>first|rfl|exact ih (fun x=>h (by rw[x])) _
 |b d ih=>cases i<;>cases t<;>first|rfl|exact ih (fun x=>h (by rw[x])) _
 |c d ih=>cases i<;>cases t<;>first|rfl|exact ih (fun x=>h (by rw[x])) _
 |f d ih=>cases i<;>cases t<;>first|rfl|exact ih (fun x=>h (by rw[x])) _
omit [Val] in
theorem AQ:∀{l:List NOper} {t:Tm} {k:D4} {v:NV},NT.get k (oV l t)=some v->NT.get k t=some v/\∀o∈l,o.dst≠some k:=by
 intro l
 induction l with
 |nil=>intro t k v h;exact ⟨h,by simp⟩
 |cons o l ih=>
  intro t k v h
  have h':NT.get k (match o.dst with|some d=>NT.del d (oV l t)|none=>oV l t)=some v:=h
  cases hd:o.dst with
  |none=>
   rw[hd] at h'
   obtain ⟨h1,h2⟩:=ih h'
   refine ⟨h1,fun o' ho=> ?_⟩
   rcases List.mem_cons.1 ho with rfl|ho
   ·rw[hd];simp
   ·exact h2 o' ho
  |some d=>
   rw[hd] at h'
   dsimp only at h'
   have hne:k≠d:=fun e=>by rw[e,NT.get_del_same] at h';cases h'
   rw[NT.get_del_ne hne] at h'
   obtain ⟨h1,h2⟩:=ih h'
   refine ⟨h1,fun o' ho=> ?_⟩
   rcases List.mem_cons.1 ho with rfl|ho
   ·rw[hd];exact fun e=>hne (Option.some.inj e).symm
   ·exact h2 o' ho
structure Lay (P:Program) (ops:Array Oper) (l:List NOper):Prop where
 mem:∀no∈l,∃o,ops[no.idx]? =some o/\no.dst=o.dst.map D4.of/\(ap P o.op=some no.op∨no.op= .fail)/\oZ ops o.guard no.guard/\no.pre=uJ ops no.idx
 nodup:(l.map (·.idx)).Nodup
 all:∀i,i<ops.size->∃no∈l,no.idx=i
 pre:∀l1 o l2,l=l1++o::l2->∀j,o.pre.testBit j=true->∃o'∈l1,o'.idx=j
 once:∀(i j:Nat) (oi oj:Oper) (t:Nat),ops[i]? =some oi->ops[j]? =some oj->oi.dst=some t->oj.dst=some t->i=j
omit [Val] in
theorem pi {P:Program} {ops:Array Oper}:∀(l:List Oper) (i:Nat) (nl:List NOper) (pre:List Nat),(∀j,l[j]? =ops[i+j]?)->(∀j,pre.getD j 0=uJ ops (i+j))->dz P ops l i pre=some nl->
 ∀no∈nl,∃o,ops[no.idx]? =some o/\no.dst=o.dst.map D4.of/\(ap P o.op=some no.op∨no.op= .fail)/\oZ ops o.guard no.guard/\no.pre=uJ ops no.idx:=by
 intro l
 induction l with
 |nil=>intro i nl pre _ _ hc no hno;cases hc;cases hno
 |cons o1 l ih=>
  intro i nl pre hl hp hc no hno
  have hc':(match im P ops o1 (pre.headD 0) i,dz P ops l (Nat.succ i) pre.tail with|some o,some l=>some (o::l)|_,_=>none)=some nl:=hc
  split at hc'
  ·rename_i no' nl' h1 h2
   cases hc'
   rcases List.mem_cons.1 hno with rfl|hno
   ·obtain ⟨i1,i2,i3,i4,i5⟩:=kr h1
    have ho:ops[i]? =some o1:=by have:=hl 0;simpa using this.symm
    have hpi:pre.headD 0=uJ ops i:=by have:=hp 0;cases pre<;>simpa using this
    exact ⟨o1,by rw[i5];exact ho,i1,i2,i3,by rw[i4,i5,hpi]⟩
   ·refine ih (Nat.succ i) nl' pre.tail (fun j=> ?_) (fun j=> ?_) h2 no hno
    ·have:=hl (j+1);simp at this;rw[this];congr 1;omega
    ·have:=hp (j+1)
     rw[show Nat.succ i+j=i+(j+1) by omega,←this]
     cases pre<;>simp
  ·cases hc'
omit [Val] in
theorem lz {k:Nat} {es:List Nat} {eff:Bool} {rest:List NOper}:∀{l:List NOper} {o:NOper},o∈kq k es eff l rest->o∈l∨o∈rest:=by
 intro l
 induction l with
 |nil=>intro o h;exact .inr h
 |cons a l ih=>
  intro o h
  have h':o∈(Bool.rec (kq k es eff l rest) (a::kq k es eff l rest) (Bool.rec false (Nat.beq (DD a.pre es) k) (Bool.rec (Bool.rec true false eff) eff (yw (aj a.op)))):List NOper):=h
  generalize (Bool.rec false (Nat.beq (DD a.pre es) k) (Bool.rec (Bool.rec true false eff) eff (yw (aj a.op))):Bool)=c at h'
  cases c with
  |false=>rcases ih h' with h|h<;>simp[h]
  |true=>
   rcases List.mem_cons.1 h' with rfl|h'
   ·simp
   ·rcases ih h' with h|h<;>simp[h]
omit [Val] in
theorem wK {es:List Nat} {l:List NOper}:∀{ks:List Nat} {k:Nat} {o:NOper},o∈uX es l ks k->o∈l:=by
 intro ks
 induction ks with
 |nil=>
  intro k o h
  rcases lz (show o∈kq k es false l [] from h) with h|h
  ·exact h
  ·cases h
 |cons a ks ih=>
  intro k o h
  have h':o∈kq k es false l (kq k es true l (aw (Nat.succ k) (uX es l ks))):=h
  rw[ae] at h'
  rcases lz h' with h|h
  ·exact h
  ·rcases lz h with h|h
   ·exact h
   ·exact ih h
omit [Val] in
theorem AJ {α R:Type} (l:List α) (K:List α->R):vJ l K=K l:=by
 induction l generalizing K with
 |nil=>rfl
 |cons a l ih=>exact ih fun t=>K (a::t)
omit [Val] in
theorem nF (t:Nat) (o:Oper) (l:List Oper):hJ t (o::l)=if o.dst=some t then hJ t l+1 else hJ t l:=by
 have e:hJ t (o::l)=(match o.dst with|some d=>Bool.rec (hJ t l) (Nat.succ (hJ t l)) (Nat.beq d t)|none=>hJ t l):=rfl
 rw[e]
 cases o.dst with
 |none=>simp
 |some d=>
  dsimp only
  cases h:Nat.beq d t with
  |true=>have:=Nat.eq_of_beq_eq_true h;simp[this]
  |false=>have:=Nat.ne_of_beq_eq_false h;simp[this]
omit [Val] in
theorem AH {t:Nat}:∀{l:List Oper} {i:Nat} {o:Oper},l[i]? =some o->o.dst=some t->1<=hJ t l:=by
 intro l
 induction l with
 |nil=>intro i o h;simp at h
 |cons a l ih=>
  intro i o h hd
  rw[nF]
  cases i with
  |zero=>simp at h;subst h;rw[if_pos hd];omega
  |succ i=>have:=ih (by simpa using h) hd;split<;>omega
omit [Val] in
theorem pR {t:Nat}:∀{l:List Oper} {i j:Nat} {o o':Oper},i<j->l[i]? =some o->l[j]? =some o'->o.dst=some t->o'.dst=some t->2<=hJ t l:=by
 intro l
 induction l with
 |nil=>intro i j o o' _ h;simp at h
 |cons a l ih=>
  intro i j o o' hij h h' hd hd'
  rw[nF]
  cases j with
  |zero=>omega
  |succ j=>
   cases i with
   |zero=>simp at h;subst h;rw[if_pos hd];have:=AH (l:=l) (by simpa using h') hd';omega
   |succ i=>have:=ih (i:=i) (j:=j) (by omega) (by simpa using h) (by simpa using h') hd hd';split<;>omega
omit [Val] in
theorem AL {all:List Oper}:∀{l:List Oper},(List.rec (motive:=fun _=>List Oper->Bool) (fun _=>true) (fun o _ r all=>match o.dst with
 |some t=>cond (Nat.beq (hJ t all) 1) (r all) false
 |none=>r all) l all:Bool)=true->∀o∈l,∀t,o.dst=some t->hJ t all=1:=by
 intro l
 induction l with
 |nil=>intro _ o h;cases h
 |cons a l ih=>
  intro h o ho t ht
  dsimp only at h
  cases ha:a.dst with
  |none=>
   rw[ha] at h
   rcases List.mem_cons.1 ho with rfl|ho
   ·rw[ha] at ht;cases ht
   ·exact ih h o ho t ht
  |some d=>
   rw[ha] at h
   obtain ⟨h1,h2⟩:=de h
   rcases List.mem_cons.1 ho with rfl|ho
   ·rw[ha] at ht;cases ht;exact Nat.eq_of_beq_eq_true h1
   ·exact ih h2 o ho t ht
omit [Val] in
theorem wY {ops:Array Oper} (h:u9 ops.toList=true) (i j:Nat) (oi oj:Oper) (t:Nat) (hi:ops[i]? =some oi) (hj:ops[j]? =some oj) (ti:oi.dst=some t) (tj:oj.dst=some t):i=j:=by
 have h1:=AL h oi (by rw[Array.mem_toList_iff];exact Array.mem_of_getElem? hi) t ti
 rcases Nat.lt_trichotomy i j with hlt|he|hlt
 ·have:=pR (l:=ops.toList) hlt (by simpa using hi) (by simpa using hj) ti tj;omega
 ·exact he
 ·have:=pR (l:=ops.toList) hlt (by simpa using hj) (by simpa using hi) tj ti;omega
omit [Val] in
theorem uu {o:Option Nat} {k:Nat} (h:qU o k=true):o=some k:=by
 cases o with
 |none=>cases h
 |some m=>rw[Nat.eq_of_beq_eq_true h]
omit [Val] in
theorem GL {P:Program} {ops:Array Oper} {nc:NC} {id:Nat} (h:cI P (.region id ops true)=some nc):∃l,nc= .regD l/\Lay P ops l:=by
 have h':(match dz P ops ops.toList 0 (Region.before ops).toList with
  |some l=>vJ (Gt l) fun e=>cond (qU (uB e 0) (Nat.sub (Nat.pow 2 ops.size) 1)&&u9 ops.toList) (some (.regD e)) none
  |none=>none)=some nc:=h
 split at h'
 ·rename_i l0 hl0
  rw[AJ] at h'
  obtain ⟨hb,hc⟩:=af h'
  cases hc
  rw[Bool.and_eq_true] at hb
  obtain ⟨hb1,hb2⟩:=hb
  have hm:=pi ops.toList 0 l0 _ (fun j=>by simp) (fun j=>by unfold uJ;simp[Array.getD_eq_getD_getElem?,List.getD_eq_getElem?_getD]) hl0
  obtain ⟨p1,p2,p3,p4⟩:=zp (uu hb1)
  refine ⟨_,rfl,⟨fun no hno=>hm no (wK hno),p2,fun i hi=> ?_,fun l1 o l2 he j hj=> ?_,wY hb2⟩⟩
  ·have hbit:(Nat.sub (Nat.pow 2 ops.size) 1).testBit i=true:=by
    have e:Nat.sub (Nat.pow 2 ops.size) 1=2 ^ ops.size - 1:=rfl
    rw[e,Nat.testBit_two_pow_sub_one];simpa using hi
   rcases (p1 i).1 hbit with h|h
   ·simp at h
   ·exact h
  ·rcases p4 l1 o l2 he j hj with h|h
   ·simp at h
   ·exact h
 ·cases h'
def xg (n:Nat) (w:Array (List (Tmp×Nat))) (p:Oper×Nat):Array (List (Tmp×Nat)):=match p.1.dst with
 |some d=>w.modify (d % n) ((d,p.2)::·)
 |none=>w
omit [Val] in
theorem zB {n:Nat} {w:Array (List (Tmp×Nat))} {p:Oper×Nat}:(xg n w p).size=w.size:=by unfold xg;split<;>simp
omit [Val] in
theorem AT {n:Nat} {w:Array (List (Tmp×Nat))} {p:Oper×Nat} {k:Nat} {x:Tmp×Nat} (h:x∈w.getD k []):x∈(xg n w p).getD k []:=by
 unfold xg
 split
 ·rename_i d _
  rw[Array.getD_eq_getD_getElem?] at h ⊢
  rw[Array.getElem?_modify]
  split
  ·rename_i he
   cases hw:w[k]? with
   |none=>rw[hw] at h;simp at h
   |some l=>rw[hw] at h;simp at h ⊢;exact .inr h
  ·exact h
 ·exact h
omit [Val] in
theorem A7 {n:Nat} {x:Tmp×Nat} {k:Nat}:∀(L:List (Oper×Nat)) (w:Array (List (Tmp×Nat))),x∈w.getD k []->x∈(L.foldl (xg n) w).getD k []:=by
 intro L
 induction L with
 |nil=>exact fun w h=>h
 |cons p L ih=>exact fun w h=>ih _ (AT h)
omit [Val] in
theorem BL {n:Nat} {o:Oper} {i d:Nat} (hd:o.dst=some d) (hn:0<n):∀(L:List (Oper×Nat)) (w:Array (List (Tmp×Nat))),w.size=n->(o,i)∈L->(d,i)∈(L.foldl (xg n) w).getD (d % n) []:=by
 intro L
 induction L with
 |nil=>intro w _ h;cases h
 |cons p L ih=>
  intro w hw h
  rcases List.mem_cons.1 h with rfl|h
  ·refine A7 L _ ?_
   unfold xg
   dsimp only
   rw[hd]
   dsimp only
   rw[Array.getD_eq_getD_getElem?,Array.getElem?_modify,if_pos rfl,Array.getElem?_eq_getElem (by rw[hw];exact Nat.mod_lt _ hn)]
   simp
  ·exact ih _ (by rw[zB];exact hw) h
omit [Val] in
theorem GM {ops:Array Oper} {b:Array Nat} (h:Region.temporariesOk ops b=true) {i j:Nat} {oi oj:Oper} {t:Nat} (hi:ops[i]? =some oi) (hj:ops[j]? =some oj) (ht:oi.dst=some t) (hr:Operand.tmp t∈oj.op.operands.toList):
 i=j∨(b.getD (max i j) 0).testBit (min i j)=true:=by
 unfold Region.temporariesOk at h
 have hz:∀(k:Nat) (o:Oper),ops[k]? =some o->(o,k)∈ops.toList.zipIdx:=fun k o ho=>by
  rw[List.mem_zipIdx_iff_getElem?];simpa using ho
 rw[List.all_eq_true] at h
 have h1:=h (oj,j) (hz j oj hj)
 dsimp only at h1
 rw[List.all_eq_true] at h1
 have h2:=h1 t (by
  rw[List.mem_append];right
  rw[List.mem_filterMap]
  exact ⟨.tmp t,hr,rfl⟩)
 rw[List.all_eq_true] at h2
 have hn:0<ops.size:=by have:=(Array.getElem?_eq_some_iff.1 hi).1;omega
 have h3:=h2 (t,i) (BL (n:=ops.size) ht hn ops.toList.zipIdx (Array.replicate ops.size []) (by simp) (hz i oi hi))
 simp only[Bool.or_eq_true,beq_iff_eq,bne_iff_ne,ne_eq,not_true_eq_false,false_or] at h3
 exact h3
end Nm
namespace Nm
open Go
variable [Val]
section chain
variable {P:Program} {S:Nat->List NV->Option NV} {self:Option D4->NC->Dyn->Res} {rnd:Option D4}
omit [Val] in
theorem cM {r:Rec} {R:List Rec} {d d':Dyn} (h:Chain P S self rnd d (r::R) d'):d=r.st/\r.ok P S self rnd/\Chain P S self rnd r.nx R d':=by
 cases h with
 |cons _ _ _ h c=>exact ⟨rfl,h,c⟩
omit [Val] in
theorem eU {d d':Dyn} (h:Chain P S self rnd d [] d'):d'=d:=by cases h;rfl
omit [Val] in
theorem ez:∀{R1 R2:List Rec} {d d':Dyn},Chain P S self rnd d (R1++R2) d'->∃dm,Chain P S self rnd d R1 dm/\Chain P S self rnd dm R2 d':=by
 intro R1
 induction R1 with
 |nil=>intro R2 d d' h;exact ⟨d,.nil d,h⟩
 |cons r R1 ih=>
  intro R2 d d' h
  obtain ⟨rfl,hok,hc⟩:=cM (show Chain P S self rnd d (r::(R1++R2)) d' from h)
  obtain ⟨dm,h1,h2⟩:=ih hc
  exact ⟨dm,.cons r R1 dm hok h1,h2⟩
omit [Val] in
theorem oC:∀{R1 R2:List Rec} {d dm d':Dyn},Chain P S self rnd d R1 dm->Chain P S self rnd dm R2 d'->Chain P S self rnd d (R1++R2) d':=by
 intro R1
 induction R1 with
 |nil=>intro R2 d dm d' h h';rw[eU h] at h';exact h'
 |cons r R1 ih=>
  intro R2 d dm d' h h'
  obtain ⟨rfl,hok,hc⟩:=cM h
  exact .cons r (R1++R2) d' hok (ih hc h')
omit [Val] in
theorem Lb (r:Rec):r.nx.t=aT r.o.dst r.val r.t:=by unfold Rec.nx;cases r.k<;>rfl
omit [Val] in
theorem BT {d:Option D4} {k:D4} (h:d≠some k) (v:NV) (t:Tm):NT.get k (aT d v t)=NT.get k t:=by
 cases d with
 |none=>rfl
 |some d=>exact NT.get_put_ne (fun e=>h (by rw[e])) v t
omit [Val] in
theorem vp {d:Option D4} {k:D4} (h:d=some k) (v:NV) (t:Tm):NT.get k (aT d v t)=some v:=by rw[h];exact NT.get_put_same _ _ _
omit [Val] in
theorem gY {k:D4}:∀{R:List Rec} {d d':Dyn},Chain P S self rnd d R d'->(∀w∈R,w.o.dst≠some k)->NT.get k d'.t=NT.get k d.t:=by
 intro R
 induction R with
 |nil=>intro d d' h _;rw[eU h]
 |cons r R ih=>
  intro d d' h hn
  obtain ⟨rfl,_,hc⟩:=cM h
  rw[ih hc fun w hw=>hn w (by simp[hw]),Lb,BT (hn r (by simp))];rfl
omit [Val] in
theorem oU {k:D4} {A C:List Rec} {w:Rec} {d d':Dyn} (h:Chain P S self rnd d (A++w::C) d') (hw:w.o.dst=some k) (hn:∀x∈C,x.o.dst≠some k):NT.get k d'.t=some w.val:=by
 obtain ⟨dm,_,h2⟩:=ez h
 obtain ⟨_,_,hc⟩:=cM h2
 rw[gY hc hn,Lb,vp hw]
omit [Val] in
theorem Bi {n:NOp} (hc:aj n= .alloc) {t:Tm} {h h':NH} {v:NV} (e:ag n t h= .mem v h'):∃o,h'=h.add o:=by
 have fin:∀{o:NO} {f:D4->NV},(h.new o fun id h=>NR.mem (f id) h)= .mem v h'->∃o,h'=h.add o:=by
  intro o f e
  rw[NH.new_eq] at e
  injection e with _ e
  exact ⟨o,e.symm⟩
 have ne:NR.mem v h'≠.fail:=by simp
 cases n with
 |alloc z T=>exact fin (f:=fun id=> .ptr id 0) e
 |box x T=>
  obtain ⟨u,_,h2⟩:=aE e ne
  obtain ⟨cs,_,h4⟩:=aF h2 ne
  exact fin (f:=fun id=> .ptr id 0) h4
 |buildSlice z n len T ps=>
  obtain ⟨cs,_,h4⟩:=aF (show aR (cw t ps 0 z) _=_ from e) ne
  exact fin (f:=fun id=> .slc id 0 len n len) h4
 |mkMap=>exact fin (f:=fun id=> .map id) e
 |mkSlice z n b T l c=>
  obtain ⟨k,m,_,h2⟩:=bZ e ne
  obtain ⟨k',m',_,h3⟩:=bZ h2 ne
  obtain ⟨_,h4⟩:=aJ h3 ne
  obtain ⟨_,h5⟩:=aJ h4 ne
  rw[fJ] at h5
  exact fin (f:=fun id=> .slc id 0 m n m') h5
 |strToBytes T x=>
  obtain ⟨u,_,h2⟩:=aE e ne
  cases u with
  |str s=>
   dsimp only at h2
   rw[iS,bF] at h2
   obtain ⟨_,h3⟩:=aJ h2 ne
   exact fin (f:=fun id=> .slc id 0 s.length 1 s.length) h3
  |_=>cases h2
 |_=>cases hc
def Fr (h:NH):Prop:=∀i o,h.get i=some o->i.toNat<h.next.toNat
omit [Val] in
theorem Fr.add {h:NH} (hf:Fr h) (o:NO):Fr (h.add o):=by
 intro i u hu
 show i.toNat<h.next.nxt.toNat
 rw[D4.toNat_nxt]
 by_cases e:i=h.next
 ·subst e;omega
 ·rw[NH.get_add_ne _ _ e] at hu;have:=hf i u hu;omega
omit [Val] in
theorem oB:∀(T:List Rec),∃T1 T2,T=T1++T2/\(∀r∈T1,¬r.isE)/\(∀r T',T2=r::T'->r.isE):=by
 intro T
 induction T with
 |nil=>exact ⟨[], [],rfl,by simp,fun r T' h=>by cases h⟩
 |cons r T ih=>
  by_cases h:r.isE
  ·exact ⟨[],r::T,rfl,by simp,fun r' T' e=>by cases e;exact h⟩
  ·obtain ⟨T1,T2,h1,h2,h3⟩:=ih
   exact ⟨r::T1,T2,by rw[h1];rfl,fun r' hr=>by
    rcases List.mem_cons.1 hr with rfl|hr
    ·exact h
    ·exact h2 r' hr,h3⟩
structure Skip (D D':Dyn) (T:List Rec):Prop where
 dfs:D'.dfs=D.dfs
 ctx:D'.ctx=D.ctx
 fresh:Fr D'.h
 next:D.h.next.toNat<=D'.h.next.toNat
 get:∀i,i.toNat<D.h.next.toNat->D'.h.get i=D.h.get i
 fr:∀r∈T,Fr r.h
 al:∀r∈T,∀v h,r.k= .alloc v h->D.h.next.toNat<=r.h.next.toNat/\r.h.next.toNat<D'.h.next.toNat/\D'.h.get r.h.next=h.get r.h.next
 dist:∀r∈T,∀r'∈T,∀v h v' h',r.k= .alloc v h->r'.k= .alloc v' h'->r.h.next=r'.h.next->r.o.idx=r'.o.idx
omit [Val] in
theorem pY:∀{T:List Rec} {D D':Dyn},Chain P S self rnd D T D'->(∀r∈T,¬r.isE)->Fr D.h->Skip D D' T:=by
 intro T
 induction T with
 |nil=>
  intro D D' h _ hf
  rw[eU h]
  exact ⟨rfl,rfl,hf,Nat.le_refl _,fun _ _=>rfl,by simp,by simp,by simp⟩
 |cons r T ih=>
  intro D D' h hn hf
  obtain ⟨rfl,hok,hc⟩:=cM h
  have hn':∀r∈T,¬r.isE:=fun x hx=>hn x (by simp[hx])
  have same:(∀v h,r.k≠.alloc v h)->r.nx.dfs=r.dfs->r.nx.ctx=r.ctx->r.nx.h=r.h->Skip r.st D' (r::T):=by
   intro hk e1 e2 e3
   have k:=ih hc hn' (by rw[e3];exact hf)
   refine ⟨k.dfs.trans e1,k.ctx.trans e2,k.fresh,by have:=k.next;rw[e3] at this;exact this,fun i hi=>by have:=k.get i (by rw[e3];exact hi);rw[e3] at this;exact this, ?_, ?_, ?_⟩
   ·intro x hx
    rcases List.mem_cons.1 hx with rfl|hx
    ·exact hf
    ·exact k.fr x hx
   ·intro x hx v h e
    rcases List.mem_cons.1 hx with rfl|hx'
    ·exact absurd e (hk _ _)
    ·have:=k.al x hx' v h e;rw[e3] at this;exact this
   ·intro x hx y hy v h v' h' ex ey
    rcases List.mem_cons.1 hx with rfl|hx'
    ·exact absurd ex (hk _ _)
    ·rcases List.mem_cons.1 hy with rfl|hy'
     ·exact absurd ey (hk _ _)
     ·exact k.dist x hx' y hy' v h v' h' ex ey
  cases hk:r.k with
  |off=>exact same (by simp[hk]) (by simp[Rec.nx,hk]) (by simp[Rec.nx,hk]) (by simp[Rec.nx,hk])
  |pure v=>exact same (by simp[hk]) (by simp[Rec.nx,hk]) (by simp[Rec.nx,hk]) (by simp[Rec.nx,hk])
  |read v=>exact same (by simp[hk]) (by simp[Rec.nx,hk]) (by simp[Rec.nx,hk]) (by simp[Rec.nx,hk])
  |eff v dfs ctx h=>exact absurd (show r.isE by unfold Rec.isE;rw[hk];trivial) (hn r (by simp))
  |alloc v h0=>
   have hok':aB r.t r.o.guard=some true/\aj r.o.op= .alloc/\ag r.o.op r.t r.h= .mem v h0:=by unfold Rec.ok at hok;rw[hk] at hok;exact hok
   obtain ⟨_,o2,o3⟩:=hok'
   obtain ⟨ob,rfl⟩:=Bi o2 o3
   have e1:r.nx.dfs=r.dfs:=by simp[Rec.nx,hk]
   have e2:r.nx.ctx=r.ctx:=by simp[Rec.nx,hk]
   have e3:r.nx.h=r.h.add ob:=by simp[Rec.nx,hk]
   have hf':Fr r.h:=hf
   have k:=ih hc hn' (by rw[e3];exact hf'.add ob)
   have kn:=k.next
   rw[e3] at kn
   have kn':r.h.next.nxt.toNat<=D'.h.next.toNat:=kn
   rw[D4.toNat_nxt] at kn'
   have hnx:(r.h.add ob).next.toNat=r.h.next.toNat+1:=D4.toNat_nxt _
   have kg:∀i,i.toNat<r.h.next.toNat+1->D'.h.get i=(r.h.add ob).get i:=fun i hi=>by
    have:=k.get i (by rw[e3,hnx];exact hi);rw[e3] at this;exact this
   have kal:∀x∈T,∀v h,x.k= .alloc v h->r.h.next.toNat+1<=x.h.next.toNat/\x.h.next.toNat<D'.h.next.toNat/\D'.h.get x.h.next=h.get x.h.next:=fun x hx v h e=>by
    have:=k.al x hx v h e;rw[e3,hnx] at this;exact this
   refine ⟨k.dfs.trans e1,k.ctx.trans e2,k.fresh,show r.h.next.toNat<=_ by omega,fun i hi=> ?_, ?_, ?_, ?_⟩
   ·have hi':i.toNat<r.h.next.toNat:=hi
    rw[kg i (by omega)]
    exact NH.get_add_ne _ _ (fun e=>by rw[e] at hi';omega)
   ·intro x hx
    rcases List.mem_cons.1 hx with rfl|hx
    ·exact hf
    ·exact k.fr x hx
   ·intro x hx v1 h1 e
    rcases List.mem_cons.1 hx with rfl|hx
    ·rw[hk] at e;cases e
     exact ⟨Nat.le_refl _,by omega,kg _ (by omega)⟩
    ·obtain ⟨a1,a2,a3⟩:=kal x hx v1 h1 e
     exact ⟨show r.h.next.toNat<=_ by omega,a2,a3⟩
   ·intro x hx y hy v1 h1 v2 h2 ex ey he
    rcases List.mem_cons.1 hx with rfl|hx'
    ·rcases List.mem_cons.1 hy with rfl|hy'
     ·rfl
     ·have:=(kal y hy' v2 h2 ey).1;rw[←he] at this;omega
    ·rcases List.mem_cons.1 hy with rfl|hy'
     ·have:=(kal x hx' v1 h1 ex).1;rw[he] at this;omega
     ·exact k.dist x hx' y hy' v1 h1 v2 h2 ex ey he
omit [Val] in
theorem Az {n:NOp} (hc:aj n= .read) {t:Tm} {v:NV}:∀{T:List Rec} {D D':Dyn},Chain P S self rnd D T D'->(∀r∈T,Fr r.h)->ag n t D.h= .val v->
 (∀r∈T,∀u dfs ctx h,r.k= .eff u dfs ctx h->ag n t h= .val v)->ag n t D'.h= .val v:=by
 intro T
 induction T with
 |nil=>intro D D' h _ e _;rw[eU h];exact e
 |cons r T ih=>
  intro D D' h hf e he
  obtain ⟨rfl,hok,hch⟩:=cM h
  refine ih hch (fun x hx=>hf x (by simp[hx])) ?_ fun x hx=>he x (by simp[hx])
  cases hk:r.k with
  |off=>rw[show r.nx.h=r.h by simp[Rec.nx,hk]];exact e
  |pure u=>rw[show r.nx.h=r.h by simp[Rec.nx,hk]];exact e
  |read u=>rw[show r.nx.h=r.h by simp[Rec.nx,hk]];exact e
  |eff u dfs ctx h=>rw[show r.nx.h=h by simp[Rec.nx,hk]];exact he r (by simp) u dfs ctx h hk
  |alloc u h0=>
   have hok':aB r.t r.o.guard=some true/\aj r.o.op= .alloc/\ag r.o.op r.t r.h= .mem u h0:=by unfold Rec.ok at hok;rw[hk] at hok;exact hok
   obtain ⟨ob,rfl⟩:=Bi hok'.2.1 hok'.2.2
   rw[show r.nx.h=r.h.add ob by simp[Rec.nx,hk]]
   exact BS hc (mu.add (hf r (by simp)) ob) e
end chain
theorem Rel.lt_next {P:Program} {ι:aW} {B:Nat} {h:NH} {w:World} (r:Rel P ι B h w) {i:D4} {p:Pl} (hi:ι i=some p):i.toNat<h.next.toNat:=by
 obtain ⟨o,h1,_⟩:=r.obj i p hi;exact r.fresh i o h1
theorem Rel.more {P:Program} {ι:aW} {B:Nat} {h h':NH} {w:World} (r:Rel P ι B h w) (hg:∀i,i.toNat<h.next.toNat->h'.get i=h.get i) (hf:Fr h'):Rel P ι B h' w where
 obj:=fun i p hi=>by rw[hg i (r.lt_next hi)];exact r.obj i p hi
 inj:=fun i j p q hi hj hij d1 d2=>r.inj i j p q hi hj hij (by rw[←hg i (r.lt_next hi)];exact d1) (by rw[←hg j (r.lt_next hj)];exact d2)
 base:=fun i p hi d=>r.base i p hi (by rw[←hg i (r.lt_next hi)];exact d)
 lt:=r.lt
 fresh:=hf
theorem Grow.more {P:Program} {B:Nat} {ι0 ι:aW} {h0 h h':NH} {w0 w:World} (g:Grow ι0 h0 w0 ι h w) (r:Rel P ι B h w) (hn:h.next.toNat<=h'.next.toNat) (hg:∀i,i.toNat<h.next.toNat->h'.get i=h.get i):Grow ι0 h0 w0 ι h' w where
 le:=g.le
 next:=Nat.le_trans g.next hn
 new:=g.new
 blk:=fun i p hi d=>g.blk i p hi (by rw[←hg i (r.lt_next hi)];exact d)
 keep:=fun i hi hl=>by rw[hg i (Nat.lt_of_lt_of_le hl g.next)];exact g.keep i hi hl
 size:=g.size
 os:=g.os
 tape:=g.tape
 output:=g.output
 frame:=g.frame
def aW.set (ι:aW) (n:D4) (p:Pl):aW:=fun i=>if i.toNat=n.toNat then some p else ι i
omit [Val] in
theorem aW.set_same (ι:aW) (n:D4) (p:Pl):ι.set n p n=some p:=if_pos rfl
omit [Val] in
theorem aW.set_ne (ι:aW) {n i:D4} (p:Pl) (h:i≠n):ι.set n p i=ι i:=if_neg fun e=>h (D4.toNat_inj e)
omit [Val] in
theorem aW.set_le {ι:aW} {n:D4} {p:Pl} (hn:ι n=none):ι.le (ι.set n p):=fun i q hi=>by
 rw[aW.set_ne _ _ (fun e=>by rw[e,hn] at hi;cases hi)];exact hi
omit [Val] in
theorem aW.set_cases {ι:aW} {n i:D4} {p q:Pl} (h:ι.set n p i=some q):(i=n/\q=p)∨(i≠n/\ι i=some q):=by
 by_cases e:i=n
 ·subst e;rw[aW.set_same] at h;exact .inl ⟨rfl,(Option.some.inj h).symm⟩
 ·rw[aW.set_ne _ _ e] at h;exact .inr ⟨e,h⟩
theorem Rel.at {P:Program} {ι:aW} {B:Nat} {h:NH} {w:World} (r:Rel P ι B h w) (hB:B<=w.heap.size) {n:D4} {o:NO} (hn:ι n=none) (hg:h.get n=some o) {O:Obj} {p:Pl} (hp:p.b=w.heap.size)
 (ho:∀ι',ι.le ι'->OR P ι' (w.alloc O) p o):Rel P (ι.set n p) B h (w.alloc O):=by
 have hle:ι.le (ι.set n p):=aW.set_le hn
 refine ⟨?_, ?_, ?_, ?_,r.fresh⟩
 ·intro i q hi
  rcases aW.set_cases hi with ⟨rfl,rfl⟩|⟨hne',hi⟩
  ·exact ⟨o,hg,ho _ hle⟩
  ·obtain ⟨u,h1,h2⟩:=r.obj i q hi
   exact ⟨u,h1,h2.mono hle (i6 w O _ (r.lt i q hi))⟩
 ·intro i j q1 q2 hi hj hij d1 d2
  rcases aW.set_cases hi with ⟨e1,e2⟩|⟨h1,hi'⟩
  ·rcases aW.set_cases hj with ⟨e3,e4⟩|⟨h2,hj'⟩
   ·exact absurd (e1.trans e3.symm) hij
   ·have:=r.lt j q2 hj';rw[e2];omega
  ·rcases aW.set_cases hj with ⟨e3,e4⟩|⟨h2,hj'⟩
   ·have:=r.lt i q1 hi';rw[e4];omega
   ·exact r.inj i j q1 q2 hi' hj' hij d1 d2
 ·intro i q hi d
  rcases aW.set_cases hi with ⟨rfl,rfl⟩|⟨h1,hi⟩
  ·omega
  ·exact r.base i q hi d
 ·intro i q hi
  rcases aW.set_cases hi with ⟨rfl,rfl⟩|⟨h1,hi⟩
  ·simp;omega
  ·have:=r.lt i q hi;simp;omega
omit [Val] in
theorem Grow.at {ι0 ι:aW} {h0 h:NH} {w0 w:World} (g:Grow ι0 h0 w0 ι h w) {n:D4} (hn:ι n=none) (h1:h0.next.toNat<=n.toNat) {O:Obj} {p:Pl} (hp:p.b=w.heap.size):Grow ι0 h0 w0 (ι.set n p) h (w.alloc O) where
 le:=g.le.trans (aW.set_le hn)
 next:=g.next
 new:=fun i q hi=>by
  rcases aW.set_cases hi with ⟨rfl,rfl⟩|⟨_,hi⟩
  ·exact .inr h1
  ·exact g.new i q hi
 blk:=fun i q hi d=>by
  rcases aW.set_cases hi with ⟨rfl,rfl⟩|⟨_,hi⟩
  ·have:=g.size;exact .inl (by omega)
  ·exact g.blk i q hi d
 keep:=g.keep
 size:=by have:=g.size;simp;omega
 os:=g.os
 tape:=g.tape
 output:=g.output
 frame:=fun k hk hq=>by
  rw[i6 w O k (Nat.lt_of_lt_of_le hk g.size)];exact g.frame k hk hq
end Nm
