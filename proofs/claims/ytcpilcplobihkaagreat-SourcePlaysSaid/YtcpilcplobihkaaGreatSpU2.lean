/- Contracts of functions that the law SourcePlays reaches, part 2. -/
import Derived.Test.YtcpilcplobihkaaGreatSpU1
set_option linter.unusedSimpArgs false
set_option linter.unusedVariables false
open Go Nm Go.Proofs
namespace FR
def vO (c:Nat):Bool:=decide (97<=c/\c<=122)
def fe (c:Nat):Bool:=decide (48<=c/\c<=57)
def ej (c:Nat):Bool:=vO c||fe c||decide (c=95)
def yP (c:Nat):Bool:=decide (c=32∨c=9∨c=10∨c=13)
theorem oX (m:NH) (c:Nat):aS Tryz.prog S0 110 [u8 c] m (.bool (vO c)) m:=by
 have h:∃v m',aS Tryz.prog S0 110 [u8 c] m v m'/\v= .bool (vO c)/\m'=m:=by
  refine WF.ex fun K hK=> ?_
  refine WF.of_wpG (fun _=>rfl) t6 (L:= [(.e,u8 c)]) rfl ?_
  unfold Gj
  by_cases h1:97<=c
  ·by_cases h2:c<=122
   ·simp (disch:=first|assumption|omega) only[go_sem,seval]
    exact hK _ _ ⟨by simp[vO,h1,h2],aa m⟩
   ·simp (disch:=first|assumption|omega) only[go_sem,seval]
    exact hK _ _ ⟨by simp[vO,h2],aa m⟩
  ·simp (disch:=first|assumption|omega) only[go_sem,seval]
   exact hK _ _ ⟨by simp[vO,h1],aa m⟩
 obtain ⟨v,m',h,rfl,rfl⟩:=h
 exact h
theorem rx (m:NH) (c:Nat):aS Tryz.prog S0 109 [u8 c] m (.bool (fe c)) m:=by
 have h:∃v m',aS Tryz.prog S0 109 [u8 c] m v m'/\v= .bool (fe c)/\m'=m:=by
  refine WF.ex fun K hK=> ?_
  refine WF.of_wpG (fun _=>rfl) uf (L:= [(.e,u8 c)]) rfl ?_
  unfold Fa
  by_cases h1:48<=c
  ·by_cases h2:c<=57
   ·simp (disch:=first|assumption|omega) only[go_sem,seval]
    exact hK _ _ ⟨by simp[fe,h1,h2],aa m⟩
   ·simp (disch:=first|assumption|omega) only[go_sem,seval]
    exact hK _ _ ⟨by simp[fe,h2],aa m⟩
  ·simp (disch:=first|assumption|omega) only[go_sem,seval]
   exact hK _ _ ⟨by simp[fe,h1],aa m⟩
 obtain ⟨v,m',h,rfl,rfl⟩:=h
 exact h
theorem EE (m:NH) (c:Nat):aS Tryz.prog S0 108 [u8 c] m (.bool (ej c)) m:=by
 have h:∃v m',aS Tryz.prog S0 108 [u8 c] m v m'/\v= .bool (ej c)/\m'=m:=by
  refine WF.ex fun K hK=> ?_
  refine WF.of_wpG (fun _=>rfl) vp (L:= [(.e,u8 c)]) rfl ?_
  unfold Ef
  have a1:=oX m c
  have a2:=rx m c
  cases h1:vO c with
  |true=>
   rw[h1] at a1
   simp (disch:=first|assumption|omega) only[go_sem,seval,aa,a1.wf']
   exact hK _ _ ⟨by simp[ej,h1],rfl⟩
  |false=>
   rw[h1] at a1
   cases h2:fe c with
   |true=>
    rw[h2] at a2
    simp (disch:=first|assumption|omega) only[go_sem,seval,aa,a1.wf',a2.wf']
    exact hK _ _ ⟨by simp[ej,h2],rfl⟩
   |false=>
    rw[h2] at a2
    by_cases h3:c=95
    ·simp (disch:=first|assumption|omega) only[go_sem,seval,aa,a1.wf',a2.wf']
     exact hK _ _ ⟨by simp[ej,h3],rfl⟩
    ·simp (disch:=first|assumption|omega) only[go_sem,seval,aa,a1.wf',a2.wf']
     exact hK _ _ ⟨by simp[ej,h1,h2,h3],rfl⟩
 obtain ⟨v,m',h,rfl,rfl⟩:=h
 exact h
def aV (p:Nat->Bool) (s:List Nat) (a:Nat):Nat:=a+((s.drop a).takeWhile p).length
theorem gx {p:Nat->Bool} {s:List Nat} {a:Nat} (h:a<s.length) (hp:p s[a]=true):aV p s a=aV p s (a+1):=by
 unfold aV
 rw[List.drop_eq_getElem_cons h,List.takeWhile_cons,Rj hp,List.length_cons]
 omega
theorem qZ {p:Nat->Bool} {s:List Nat} {a:Nat} (h:a<s.length) (hp:p s[a]=false):aV p s a=a:=by
 unfold aV
 rw[List.drop_eq_getElem_cons h,List.takeWhile_cons,Ri (by simp[hp])];rfl
theorem oE {p:Nat->Bool} {s:List Nat} {a:Nat} (h:s.length<=a):aV p s a=a:=by
 unfold aV
 rw[List.drop_eq_nil_of_le h];rfl
theorem jy {p:Nat->Bool} {s:List Nat} {a:Nat}:a<=aV p s a:=by unfold aV;omega
theorem fY {p:Nat->Bool} {s:List Nat} {a:Nat} (h:a<=s.length):aV p s a<=s.length:=by
 unfold aV
 have:=(List.takeWhile_sublist (l:=s.drop a) p).length_le
 rw[List.length_drop] at this;omega
def x8:Bool->List Nat->Nat
 |_, []=>0
 |false,c::l=>if yP c then 1+x8 false l else if c=35 then 1+x8 true l else 0
 |true,c::l=>if c=10 then 1+x8 false l else 1+x8 true l
def bx (s:List Nat) (a:Nat):Nat:=a+x8 false (s.drop a)
theorem Lu:∀(l:List Nat) (q:Bool),x8 q l<=l.length:=by
 intro l
 induction l with
 |nil=>intro q;cases q<;>exact Nat.le_refl 0
 |cons c l ih=>
  intro q
  have h1:=ih false
  have h2:=ih true
  cases q with
  |false=>
   show (if yP c then 1+x8 false l else if c=35 then 1+x8 true l else 0)<=l.length+1
   split
   ·omega
   ·split<;>omega
  |true=>
   show (if c=10 then 1+x8 false l else 1+x8 true l)<=l.length+1
   split<;>omega
def mI (s:List Nat) (a:Nat):Nat:=a+x8 true (s.drop a)
theorem ig {s:List Nat} {a:Nat} (h:a<s.length):bx s a=if yP s[a] then bx s (a+1) else if s[a]=35 then mI s (a+1) else a:=by
 unfold bx mI
 rw[List.drop_eq_getElem_cons h]
 show a+(if yP s[a] then 1+x8 false (s.drop (a+1)) else if s[a]=35 then 1+x8 true (s.drop (a+1)) else 0)=_
 split
 ·omega
 ·split<;>omega
theorem nu {s:List Nat} {a:Nat} (h:a<s.length):mI s a=if s[a]=10 then bx s (a+1) else mI s (a+1):=by
 unfold bx mI
 rw[List.drop_eq_getElem_cons h]
 show a+(if s[a]=10 then 1+x8 false (s.drop (a+1)) else 1+x8 true (s.drop (a+1)))=_
 split<;>omega
theorem qE {s:List Nat} {a:Nat} (h:s.length<=a):bx s a=a:=by
 unfold bx;rw[List.drop_eq_nil_of_le h];rfl
theorem CG {s:List Nat} {a:Nat} (h:s.length<=a):mI s a=a:=by
 unfold mI;rw[List.drop_eq_nil_of_le h];rfl
theorem lf {s:List Nat} {a:Nat} (h:a<=s.length):bx s a<=s.length:=by
 have:=Lu (s.drop a) false
 rw[List.length_drop] at this
 unfold bx;omega
theorem vd {s:List Nat} {a:Nat}:a<=bx s a:=by unfold bx;omega
theorem H8 (s:List Nat):∀(k a:Nat),k=s.length - a->mI s a=bx s (aV (fun c=>decide (c≠10)) s a):=by
 intro k
 induction k with
 |zero=>intro a hk;rw[oE (by omega),CG (by omega),qE (by omega)]
 |succ k ih=>
  intro a hk
  have ha:a<s.length:=by omega
  by_cases h:s[a]=10
  ·rw[qZ ha (by simp[h]),nu ha,Rj h,ig ha,Rj (by simp[yP,h])]
  ·rw[gx ha (by simp[h]),nu ha,Ri h];exact ih (a+1) (by omega)
theorem xp {s:List Nat} {a:Nat} (h:a<s.length) (hs:s[a]=35):bx s a=bx s (aV (fun c=>decide (c≠10)) s a):=by
 rw[gx h (by simp[hs]),ig h,Ri (by simp[yP,hs]),Rj hs,H8 s _ _ rfl]
theorem Cm {s:List Nat} {a:Nat} (h:a<s.length) (hb:yP s[a]=false) (hs:s[a]≠35):bx s a=a:=by
 rw[ig h,Ri (by simp[hb]),Ri hs]
theorem G1 {m:NH} {vb:NV} {s:List Nat} (hs:s.length<=1000000) (hb:Sl m vb 1 (mS s)) {a:Nat} (ha:a<=s.length) {t:Tm} (g1:NT.get D4.e t=some vb) (g2:NT.get D4.e.a t=some (ii a))
 {Q:Out->Dyn->Prop} (hQ:∀t',NT.get D4.e t'=some vb->NT.get D4.e.a t'=some (ii (aV (fun c=>decide (c≠10)) s a))->Q (.exit 3) ⟨ai [] t', [],none,m⟩):W Tryz.prog S0 none rM.loop ⟨t, [],none,m⟩ Q:=by
 have hlen:=hb.len
 rw[List.length_map] at hlen
 refine W.loop (fun k d=>∃t i,d=⟨t, [],none,m⟩/\NT.get D4.e t=some vb/\NT.get D4.e.a t=some (ii (i:Nat))/\aV (fun c=>decide (c≠10)) s i=aV (fun c=>decide (c≠10)) s a/\i+k=s.length) ?_ (s.length - a) _ ⟨_,a,rfl,g1,g2,rfl,by omega⟩
 rintro k d ⟨t,i,rfl,g1,g2,hr,hik⟩
 have hQ':=fun L t'=>hQ (ai L t')
 simp only[DK] at hQ'
 apply ao
 unfold rM
 change wp _ _ _ _ ⟨ai [] t, [],none,m⟩ _
 by_cases hi:i<s.length
 ·obtain ⟨id,off,w,c,a1,a2,a3,a4,a5⟩:=hb.at i (by simpa using hi)
  rw[List.getElem_map] at a5
  have c0:=aA a5 0 (by omega)
  rw[Nat.add_zero] at c0
  by_cases h10:s[i]=10
  ·simp (disch:=first|assumption|omega) only[go_sem,seval,g1,g2,hlen,a1,a2,c0]
   refine hQ' _ _ ?_ ?_
   ·simp (disch:=first|assumption|omega) only[go_sem,seval,g1]
   ·simp (disch:=first|assumption|omega) only[go_sem,seval,g2];rw[←hr,qZ hi (by simp[h10])]
  ·simp (disch:=first|assumption|omega) only[go_sem,seval,g1,g2,hlen,a1,a2,c0]
   refine ⟨k - 1,by omega,_,i+1,rfl, ?_, ?_,by rw[←hr,gx hi (by simp[h10])],by omega⟩
   ·simp (disch:=first|assumption|omega) only[go_sem,seval,g1]
   ·simp (disch:=first|assumption|omega) only[go_sem,seval]<;>rfl
 ·simp (disch:=first|assumption|omega) only[go_sem,seval,g1,g2,hlen]
  refine hQ' _ _ ?_ ?_
  ·simp (disch:=first|assumption|omega) only[go_sem,seval,g1]
  ·simp (disch:=first|assumption|omega) only[go_sem,seval,g2];rw[←hr,oE (by omega)]
theorem EU (m:NH) {vb:NV} {s:List Nat} (hs:s.length<=1000000) (hb:Sl m vb 1 (mS s)) {a:Nat} (ha:a<=s.length):aS Tryz.prog S0 65 [vb,ii a] m (ii (bx s a)) m:=by
 have h:∃v m',aS Tryz.prog S0 65 [vb,ii a] m v m'/\v=ii (bx s a)/\m'=m:=by
  refine WF.ex fun K hK=> ?_
  refine WF.of_wpG (fun _=>rfl) AD (L:= [(.a .e,ii a),(.e,vb)]) rfl ?_
  unfold Kq
  have hlen:=hb.len
  rw[List.length_map] at hlen
  simp (disch:=first|assumption|omega) only[go_sem,seval,aa]
  refine W.loop (fun k d=>∃t i,d=⟨t, [],none,m⟩/\NT.get D4.e t=some vb/\NT.get D4.e.a t=some (ii (i:Nat))/\bx s i=bx s a/\i+k=s.length) ?_ (s.length - a) _ ⟨_,a,rfl,by simp only[go_sem,seval],by simp only[go_sem,seval],rfl,by omega⟩
  rintro k d ⟨t,i,rfl,g1,g2,hr,hik⟩
  apply ao
  unfold Aq
  change wp _ _ _ _ ⟨ai [] t, [],none,m⟩ _
  by_cases hi:i<s.length
  ·obtain ⟨id,off,w,c,a1,a2,a3,a4,a5⟩:=hb.at i (by simpa using hi)
   rw[List.getElem_map] at a5
   have c0:=aA a5 0 (by omega)
   rw[Nat.add_zero] at c0
   have blk:∀h:yP s[i]=true,bx s (i+1)=bx s a:=fun h=>by rw[←hr,ig hi,Rj h]
   by_cases h1:s[i]=32
   ·simp (disch:=first|assumption|omega) only[go_sem,seval,g1,g2,hlen,a1,a2,c0]
    refine ⟨k - 1,by omega,_,i+1,rfl, ?_, ?_,blk (by simp[yP,h1]),by omega⟩
    ·simp (disch:=first|assumption|omega) only[go_sem,seval,g1]
    ·simp (disch:=first|assumption|omega) only[go_sem,seval]<;>rfl
   ·by_cases h2:s[i]=9
    ·simp (disch:=first|assumption|omega) only[go_sem,seval,g1,g2,hlen,a1,a2,c0]
     refine ⟨k - 1,by omega,_,i+1,rfl, ?_, ?_,blk (by simp[yP,h2]),by omega⟩
     ·simp (disch:=first|assumption|omega) only[go_sem,seval,g1]
     ·simp (disch:=first|assumption|omega) only[go_sem,seval]<;>rfl
    ·by_cases h3:s[i]=10
     ·simp (disch:=first|assumption|omega) only[go_sem,seval,g1,g2,hlen,a1,a2,c0]
      refine ⟨k - 1,by omega,_,i+1,rfl, ?_, ?_,blk (by simp[yP,h3]),by omega⟩
      ·simp (disch:=first|assumption|omega) only[go_sem,seval,g1]
      ·simp (disch:=first|assumption|omega) only[go_sem,seval]<;>rfl
     ·by_cases h4:s[i]=13
      ·simp (disch:=first|assumption|omega) only[go_sem,seval,g1,g2,hlen,a1,a2,c0]
       refine ⟨k - 1,by omega,_,i+1,rfl, ?_, ?_,blk (by simp[yP,h4]),by omega⟩
       ·simp (disch:=first|assumption|omega) only[go_sem,seval,g1]
       ·simp (disch:=first|assumption|omega) only[go_sem,seval]<;>rfl
      ·have hnb:yP s[i]=false:=by simp[yP,h1,h2,h3,h4]
       by_cases h5:s[i]=35
       ·simp (disch:=first|assumption|omega) only[go_sem,seval,g1,g2,hlen,a1,a2,c0]
        refine G1 hs hb (a:=i) (by omega) ?_ ?_ ?_
        ·simp (disch:=first|assumption|omega) only[go_sem,seval,g1]
        ·simp (disch:=first|assumption|omega) only[go_sem,seval,g2]
        intro t' g1 g2
        simp (disch:=first|assumption|omega) only[go_sem,seval]
        have hle:=fY (p:=fun c=>decide (c≠10)) (s:=s) (a:=i) (by omega)
        have hlt:i+1<=aV (fun c=>decide (c≠10)) s i:=by rw[gx hi (by simp[h5])];exact jy
        exact ⟨s.length - aV (fun c=>decide (c≠10)) s i,by omega,t',_,rfl,g1,g2,by rw[←xp hi h5];exact hr,by omega⟩
       ·simp (disch:=first|assumption|omega) only[go_sem,seval,g1,g2,hlen,a1,a2,c0]
        exact hK _ _ ⟨by rw[←hr,Cm hi hnb h5],rfl⟩
  ·simp (disch:=first|assumption|omega) only[go_sem,seval,g1,g2,hlen]
   exact hK _ _ ⟨by rw[←hr,qE (by omega)],rfl⟩
 obtain ⟨v,m',h,rfl,rfl⟩:=h
 exact h
def gj:List (List Nat):= [[99,101,108,108], [116,104,114,101,97,100], [114,101,99,111,118,101,114], [115,101,116], [108,111,97,100], [115,116,111,114,101], [99,97,115], [102,101,110,99,101], [111,117,116], [105,102], [101,108,115,101], [119,104,105,108,101]]
theorem Jj (m:NH) (t:List Nat):∃v m',aS Tryz.prog S0 111 [.str t] m v m'/\v= .bool (decide (t∈gj))/\Chg [] m m':=by
 refine WF.ex fun K hK=> ?_
 refine WF.of_wpG (fun _=>rfl) vC (L:= [(.e,.str t)]) rfl ?_
 unfold EF
 simp (disch:=first|assumption|omega|(simp only[aI]<;>omega)) only[go_sem,seval]
 generalize hM:hp _ 1 m=M
 have hC:Chg [] m M:=ba hM rfl
 have hv:Sl M (.slc (na m 0) 0 12 1 12) 1 (bE gj):=by
  rw[←hM]
  exact (aU.of (B:=m) (C:=bE gj) (by simp) az bo (bv (by omega)) rfl rfl rfl).sl
 have hwl:gj.length=12:=rfl
 refine W.loop (fun k d=>∃t' i,d=⟨t', [],none,M⟩/\NT.get D4.e t'=some (.str t)/\NT.get D4.e.c t'=some (.slc (na m 0) 0 12 1 12)/\NT.get D4.e.f t'=some (ii (i:Nat))/\t∉gj.take i/\i+k=12) ?_ 12 _ ⟨_,0,rfl,by simp only[go_sem,seval],by simp only[go_sem,seval],by simp only[go_sem,seval]<;>rfl,by simp,by omega⟩
 rintro k d ⟨t',i,rfl,g1,g2,g3,hno,hik⟩
 apply ao
 unfold ut
 change wp _ _ _ _ ⟨ai [] t', [],none,M⟩ _
 by_cases hi:i<12
 ·obtain ⟨id,off,w,c,a1,a2,a3,a4,a5⟩:=hv.at i (by simpa [hwl] using hi)
  rw[List.getElem_map] at a5
  have c0:=aA a5 0 (by omega)
  rw[Nat.add_zero] at c0
  by_cases he:gj[i]=t
  ·simp (disch:=first|assumption|omega) only[go_sem,seval,g1,g2,g3,a1,a2,c0,he]
   exact hK _ _ ⟨by rw[Rl (show t∈gj by rw[←he];exact List.getElem_mem _)],hC⟩
  ·simp (disch:=first|assumption|omega) only[go_sem,seval,g1,g2,g3,a1,a2,c0,he]
   refine ⟨k - 1,by omega,_,i+1,rfl, ?_, ?_, ?_, ?_,by omega⟩
   ·simp (disch:=first|assumption|omega) only[go_sem,seval,g1]
   ·simp (disch:=first|assumption|omega) only[go_sem,seval,g2]
   ·simp (disch:=first|assumption|omega) only[go_sem,seval]<;>rfl
   ·rw[List.take_add_one,List.getElem?_eq_getElem (by omega)]
    simp only[Option.toList_some,List.mem_append,List.mem_singleton,not_or]
    exact ⟨hno,fun q=>he q.symm⟩
 ·simp (disch:=first|assumption|omega) only[go_sem,seval,g1,g2,g3]
  have e:i=12:=by omega
  subst e
  rw[List.take_of_length_le (by rw[hwl];omega)] at hno
  exact hK _ _ ⟨by simp[hno],hC⟩
def mg:List Nat->Nat->Option Nat
 | [],n=>some n
 |c::l,n=>if 10*n+(c - 48)<18446744073709551616 then mg l (10*n+(c - 48)) else none
def Ck (s:List Nat):Option Nat:=if 1<s.length/\s[0]? =some 48 then none else mg s 0
def d8:List Nat:= [123,125,40,41,91,93,59,43,45,42,38,61,60]
def cut (s:List Nat) (a e:Nat):List Nat:=(s.take e).drop a
def eY (s:List Nat) (a:Nat):Option (Nat×List Nat×Nat×Nat):=
 match s[a]? with
 |none=>none
 |some c=>
  if vO c then (if cut s a (aV ej s a)∈gj then some (4,cut s a (aV ej s a),0,aV ej s a) else if (cut s a (aV ej s a)).length<=16 then some (1,cut s a (aV ej s a),0,aV ej s a) else none)
  else if fe c then (match Ck (cut s a (aV fe s a)) with|some n=>if aV ej s a=aV fe s a then some (2, [],n,aV fe s a) else none|none=>none)
  else if c∈d8 then some (3, [c],0,a+1) else none
theorem EQ {a n d:Int} {t:List Nat}:bj 4 (.agg [.int .i64 (.lit a),.str t,.int .u64 (.lit n),.int .i64 (.lit d)]) (.agg [.int .i64 (.lit a),.str t,.int .u64 (.lit n),.int .i64 (.lit d)])=true:=by
 refine iQ ?_
 intro v hv
 simp only[Rp,Rm,or_false] at hv
 rcases hv with rfl|rfl|rfl|rfl<;>trivial
theorem rv (p:Nat->Bool) (s:List Nat) (a:Nat):cut s a (aV p s a)=(s.drop a).takeWhile p:=by
 unfold cut aV
 rw[List.drop_take,Nat.add_sub_cancel_left]
 exact (List.prefix_iff_eq_take.mp (List.takeWhile_prefix p)).symm
theorem Jm {p:Nat->Bool} {s:List Nat} {a c:Nat} (hb:s[a]? =some c) (hp:p c=true):∃l,cut s a (aV p s a)=c::l:=by
 rw[rv]
 obtain ⟨ha,hc⟩:=List.getElem?_eq_some_iff.mp hb
 rw[List.drop_eq_getElem_cons ha,hc,List.takeWhile_cons,hp]
 exact ⟨_,rfl⟩
theorem yi (p:Nat->Bool) (l:List Nat):∀c∈l.takeWhile p,p c=true:=by
 induction l with
 |nil=>intro c h;simp at h
 |cons x l ih=>
  intro c h
  rw[List.takeWhile_cons] at h
  split at h
  ·rcases List.mem_cons.mp h with rfl|h
   ·assumption
   ·exact ih c h
  ·simp at h
theorem Bv (p:Nat->Bool) (s:List Nat) (a:Nat):∀c∈cut s a (aV p s a),p c=true:=by rw[rv];exact yi p _
theorem H0 (c:Nat) (h:fe c=true):ej c=true:=by unfold ej;rw[h];simp
structure Tok where
 k:Nat
 t:List Nat
 n:Nat
 p:Nat
def Tok.l (x:Tok):List NV:= [ii x.k,.str x.t,u64 x.n,ii x.p]
def cW (s:List Nat):Nat->Nat->List Tok×Option Nat
 |0,_=>([],none)
 |k+1,a=>if a<s.length then (match eY s a with
  |none=>([],some a)
  |some (kd,t,n,e)=>(⟨kd,t,n,a⟩::(cW s k (bx s e)).1,(cW s k (bx s e)).2)) else ([⟨5, [],0,s.length⟩],none)
def dr (s:List Nat):List Tok×Option Nat:=cW s (s.length+1) (bx s 0)
theorem Dz {p:Nat->Bool} {s:List Nat} {a c:Nat} (hb:s[a]? =some c) (hp:p c=true):a<aV p s a:=by
 obtain ⟨ha,hc⟩:=List.getElem?_eq_some_iff.mp hb
 rw[gx ha (by rw[hc];exact hp)]
 exact jy
theorem Gv {s:List Nat} {a kd n e:Nat} {t:List Nat} (h:eY s a=some (kd,t,n,e)):a<e/\e<=s.length:=by
 unfold eY at h
 cases hb:s[a]? with
 |none=>rw[hb] at h;cases h
 |some c=>
  rw[hb] at h
  obtain ⟨ha,hc⟩:=List.getElem?_eq_some_iff.mp hb
  dsimp only at h
  have g1:vO c=true->a<aV ej s a:=fun q=>Dz hb (by unfold ej;rw[q];rfl)
  have g2:fe c=true->a<aV fe s a:=fun q=>Dz hb q
  have l1:=fY (p:=ej) (s:=s) (a:=a) (by omega)
  have l2:=fY (p:=fe) (s:=s) (a:=a) (by omega)
  split at h
  ·rename_i hL
   split at h
   ·cases h;exact ⟨g1 hL,l1⟩
   ·split at h
    ·cases h;exact ⟨g1 hL,l1⟩
    ·cases h
  ·split at h
   ·rename_i hD
    split at h
    ·split at h
     ·cases h;exact ⟨g2 hD,l2⟩
     ·cases h
    ·cases h
   ·split at h
    ·cases h;exact ⟨by omega,by omega⟩
    ·cases h
theorem lI (s:List Nat):∀(k a:Nat),(cW s k a).1.length<=k:=by
 intro k
 induction k with
 |zero=>intro a;simp[cW]
 |succ k ih=>
  intro a
  unfold cW
  split
  ·split
   ·simp
   ·rename_i kd t n e _
    have:=ih (bx s e)
    simp only[List.length_cons];omega
  ·simp
def PC (s:List Nat):Int->List Tok->Prop
 |_, []=>True
 |w,x::l=>w<x.p/\x.p<=s.length/\x.t.length<=s.length - x.p/\cut s x.p (x.p+x.t.length)=x.t/\(x.k=5↔l= [])/\PC s x.p l
theorem kJ {s:List Nat} {a e:Nat} (h:e<=s.length):(cut s a e).length=e - a:=by unfold cut;rw[List.length_drop,List.length_take];omega
theorem sv (s:List Nat) (a:Nat):cut s a a= []:=by unfold cut;exact List.drop_take_self
theorem G4 {s:List Nat} {a e:Nat} (h:e<=s.length) (h':a<=e):cut s a (a+(cut s a e).length)=cut s a e:=by rw[kJ h,Nat.add_sub_cancel' h']
theorem Hv {s:List Nat} {a c:Nat} (hb:s[a]? =some c):cut s a (a+1)= [c]:=by
 obtain ⟨ha,hc⟩:=List.getElem?_eq_some_iff.mp hb
 unfold cut
 rw[List.take_add_one,hb]
 simp only[Option.toList_some]
 rw[List.drop_append_of_le_length (by rw[List.length_take];omega),List.drop_take_self];rfl
theorem LR {s:List Nat} {a kd n e:Nat} {t:List Nat} (h:eY s a=some (kd,t,n,e)):kd≠5/\t.length<=s.length - a/\cut s a (a+t.length)=t:=by
 unfold eY at h
 cases hb:s[a]? with
 |none=>rw[hb] at h;cases h
 |some c=>
  rw[hb] at h
  obtain ⟨ha,hc⟩:=List.getElem?_eq_some_iff.mp hb
  dsimp only at h
  have l1:=fY (p:=ej) (s:=s) (a:=a) (by omega)
  have l2:=jy (p:=ej) (s:=s) (a:=a)
  have c1:=G4 l1 l2
  have c2:=kJ (a:=a) l1
  split at h
  ·split at h
   ·cases h;exact ⟨by omega,by omega,c1⟩
   ·split at h
    ·cases h;exact ⟨by omega,by omega,c1⟩
    ·cases h
  ·split at h
   ·split at h
    ·split at h
     ·cases h;exact ⟨by omega,by simp,sv s a⟩
     ·cases h
    ·cases h
   ·split at h
    ·cases h;exact ⟨by omega,by simp;omega,Hv hb⟩
    ·cases h
theorem Da (s:List Nat):∀(k a:Nat) (w:Int),s.length<=a+k->a<=s.length->w<a->(cW s (k+1) a).2=none->PC s w (cW s (k+1) a).1/\(cW s (k+1) a).1≠ []:=by
 intro k
 induction k with
 |zero=>
  intro a w h1 h2 h3 h4
  rw[cW,Ri (by omega)]
  exact ⟨⟨by simp;omega,Nat.le_refl _,by simp,sv s _,by simp,trivial⟩,by simp⟩
 |succ k ih=>
  intro a w h1 h2 h3 h4
  by_cases ha:a<s.length
  ·rw[cW,Rj ha] at h4 ⊢
   cases hk:eY s a with
   |none=>rw[hk] at h4;cases h4
   |some x=>
    obtain ⟨kd,t,n,e⟩:=x
    rw[hk] at h4
    obtain ⟨e1,e2⟩:=Gv hk
    obtain ⟨t1,t2,t3⟩:=LR hk
    have g1:e<=bx s e:=vd
    obtain ⟨i1,i2⟩:=ih (bx s e) a (by omega) (lf e2) (by omega) h4
    exact ⟨⟨h3,by simp;omega,t2,t3,⟨fun q=>Rh q t1,fun q=>Rh q i2⟩,i1⟩,by simp⟩
  ·rw[cW,Ri ha]
   exact ⟨⟨by simp;omega,Nat.le_refl _,by simp,sv s _,by simp,trivial⟩,by simp⟩
theorem Ic {s:List Nat} (h:(dr s).2=none):PC s (-1) (dr s).1/\(dr s).1≠ []:=by
 have:=lf (s:=s) (a:=0) (Nat.zero_le _)
 exact Da s s.length (bx s 0) (-1) (by omega) this (by omega) h
theorem NL {m:NH} {vb f:NV} {s:List Nat} (hs:s.length<=1000000) (hb:Sl m vb 1 (mS s)) {a:Nat} (ha:a<=s.length) {t:Tm} (g1:NT.get D4.e t=some vb) (g2:NT.get D4.e.a.c t=some (ii a)) (g3:NT.get D4.e.a t=some (ii a)) (g4:NT.get D4.e.f t=some f)
 {Q:Out->Dyn->Prop} (hQ:∀L t',NT.get D4.e (ai L t')=some vb->NT.get D4.e.a (ai L t')=some (ii a)->NT.get D4.e.f (ai L t')=some f->NT.get D4.e.a.c (ai L t')=some (ii ((aV ej s a:Nat):Int))->Q (.exit 0) ⟨ai L t', [],none,m⟩):W Tryz.prog S0 none ri.loop ⟨t, [],none,m⟩ Q:=by
 have hlen:=hb.len
 rw[List.length_map] at hlen
 refine W.loop (fun k d=>∃t i,d=⟨t, [],none,m⟩/\NT.get D4.e t=some vb/\NT.get D4.e.a t=some (ii a)/\NT.get D4.e.f t=some f/\NT.get D4.e.a.c t=some (ii (i:Nat))/\aV ej s i=aV ej s a/\i+k=s.length) ?_ (s.length - a) _ ⟨_,a,rfl,g1,g3,g4,g2,rfl,by omega⟩
 rintro k d ⟨t,i,rfl,g1,g3,g4,g2,hr,hik⟩
 apply ao
 unfold ri
 change wp _ _ _ _ ⟨ai [] t, [],none,m⟩ _
 by_cases hi:i<s.length
 ·obtain ⟨id,off,w,c,a1,a2,a3,a4,a5⟩:=hb.at i (by simpa using hi)
  rw[List.getElem_map] at a5
  have c0:=aA a5 0 (by omega)
  rw[Nat.add_zero] at c0
  have hI:=EE m s[i]
  cases h1:ej s[i] with
  |false=>
   rw[h1] at hI
   simp (disch:=first|assumption|omega) only[go_sem,seval,g1,g2,hlen,a1,a2,c0,hI.wf']
   refine hQ _ _ ?_ ?_ ?_ ?_
   ·simp (disch:=first|assumption|omega) only[go_sem,seval,g1]
   ·simp (disch:=first|assumption|omega) only[go_sem,seval,g3]
   ·simp (disch:=first|assumption|omega) only[go_sem,seval,g4]
   ·simp (disch:=first|assumption|omega) only[go_sem,seval,g2];rw[←hr,qZ hi h1]
  |true=>
   rw[h1] at hI
   simp (disch:=first|assumption|omega) only[go_sem,seval,g1,g2,hlen,a1,a2,c0,hI.wf']
   refine ⟨k - 1,by omega,_,i+1,rfl, ?_, ?_, ?_, ?_,by rw[←hr,gx hi h1],by omega⟩
   ·simp (disch:=first|assumption|omega) only[go_sem,seval,g1]
   ·simp (disch:=first|assumption|omega) only[go_sem,seval,g3]
   ·simp (disch:=first|assumption|omega) only[go_sem,seval,g4]
   ·simp (disch:=first|assumption|omega) only[go_sem,seval]<;>rfl
 ·simp (disch:=first|assumption|omega) only[go_sem,seval,g1,g2,hlen]
  refine hQ _ _ ?_ ?_ ?_ ?_
  ·simp (disch:=first|assumption|omega) only[go_sem,seval,g1]
  ·simp (disch:=first|assumption|omega) only[go_sem,seval,g3]
  ·simp (disch:=first|assumption|omega) only[go_sem,seval,g4]
  ·simp (disch:=first|assumption|omega) only[go_sem,seval,g2];rw[←hr,oE (by omega)]
theorem Gg {s:List Nat} {a:Nat} (h:∀c∈cut s a (aV ej s a),fe c=true):aV fe s a=aV ej s a:=by
 rw[rv] at h
 unfold aV
 congr 1
 generalize s.drop a=l at h ⊢
 induction l with
 |nil=>rfl
 |cons x l ih=>
  rw[List.takeWhile_cons] at h
  rw[List.takeWhile_cons,List.takeWhile_cons]
  cases hx:ej x with
  |false=>
   have:fe x=false:=by cases hd:fe x with
    |false=>rfl
    |true=>rw[H0 x hd] at hx;cases hx
   simp[hx,this]
  |true=>
   rw[hx] at h
   have h0:=h x (by simp)
   rw[h0]
   simp only[if_true,List.length_cons]
   rw[ih fun c hc=>h c (by simp[hc])]
def xz (s:List Nat) (a:Nat):Prop:=aV ej s a≠aV fe s a∨mg (cut s a (aV fe s a)) 0=none
theorem Iq {s:List Nat} {a e i:Nat} (h1:a<=i) (h2:i<e) (h3:e<=s.length):(cut s a e).drop (i - a)=s[i]::(cut s a e).drop (i+1 - a):=by
 have hlt:i - a<(cut s a e).length:=by rw[kJ h3];omega
 have hg:(cut s a e)[i - a]? =s[i]? :=by
  unfold cut
  rw[List.getElem?_drop,show a+(i - a)=i by omega,List.getElem?_take_of_lt h2]
 rw[List.getElem?_eq_getElem hlt,List.getElem?_eq_getElem (by omega),Option.some.injEq] at hg
 rw[List.drop_eq_getElem_cons hlt,show i - a+1=i+1 - a by omega,hg]
theorem OO {m:NH} {vb:NV} {s:List Nat} (hs:s.length<=1000000) (hb:Sl m vb 1 (mS s)) {a:Nat} (ha:a<=s.length) {t:Tm} {r tk:D4} {b0 b1 b2 b3 a0 a1 a2 a3 cc:NV}
 (hr:m.get r=some (.cells true [b0,b1,b2,b3])) (htk:m.get tk=some (.cells true [a0,a1,a2,a3])) (orr:am m r) (otk:am m tk)
 (g1:NT.get D4.e t=some vb) (g2:NT.get D4.e.a.c t=some (ii ((aV ej s a:Nat):Int))) (g3:NT.get D4.e.a t=some (ii a)) (g4:NT.get D4.e.f t=some (.ptr r 0)) (g5:NT.get D4.e.b.a t=some (.ptr tk 0)) (g6:NT.get D4.e.b.b t=some (u64 0)) (g7:NT.get D4.e.b.c t=some (ii a)) (g8:NT.get D4.e.a.f t=some cc)
 {Q:Out->Dyn->Prop}
 (hbad:xz s a->∀L t',NT.get D4.e.f (ai L t')=some (.ptr r 0)->NT.get D4.e.a.a (ai L t')=some (ii a)->NT.get D4.e.a.b (ai L t')=some (ii 2)->Q .ret ⟨ai L t', [],none,m.put r (.cells true [a0,a1,a2,a3])⟩)
 (hok:∀n,aV ej s a=aV fe s a->mg (cut s a (aV fe s a)) 0=some n->∀L t',NT.get D4.e.b.a (ai L t')=some (.ptr tk 0)->NT.get D4.e.a.c (ai L t')=some (ii ((aV ej s a:Nat):Int))->NT.get D4.e.a (ai L t')=some (ii a)->NT.get D4.e.f (ai L t')=some (.ptr r 0)->NT.get D4.e.b.b (ai L t')=some (u64 n)->NT.get D4.e.a.f (ai L t')=some cc->Q (.exit 3) ⟨ai L t', [],none,m⟩):
 W Tryz.prog S0 none qS.loop ⟨t, [],none,m⟩ Q:=by
 have hlen:=hb.len
 rw[List.length_map] at hlen
 have hle:aV ej s a<=s.length:=fY ha
 have hge:a<=aV ej s a:=jy
 generalize hto:aV ej s a=to at hle hge g2 hok
 refine W.loop (fun k d=>∃t i n,d=⟨t, [],none,m⟩/\NT.get D4.e t=some vb/\NT.get D4.e.a.c t=some (ii (to:Nat))/\NT.get D4.e.a t=some (ii a)/\NT.get D4.e.f t=some (.ptr r 0)/\NT.get D4.e.b.a t=some (.ptr tk 0)/\NT.get D4.e.b.b t=some (u64 n)/\NT.get D4.e.b.c t=some (ii (i:Nat))/\NT.get D4.e.a.f t=some cc/\n<18446744073709551616/\a<=i/\(∀c∈(cut s a to).take (i - a),fe c=true)/\mg ((cut s a to).drop (i - a)) n=mg (cut s a to) 0/\i+k=to) ?_ (to - a) _
  ⟨_,a,0,rfl,g1,g2,g3,g4,g5,g6,g7,g8,by omega,Nat.le_refl _,by simp,by simp,by omega⟩
 rintro k d ⟨t,i,n,rfl,g1,g2,g3,g4,g5,g6,g7,g8,hn,hai,hall,hv,hik⟩
 apply ao
 unfold qS
 change wp _ _ _ _ ⟨ai [] t, [],none,m⟩ _
 by_cases hi:i<to
 ·obtain ⟨id,off,w,c',x1,x2,x3,x4,x5⟩:=hb.at i (by simp;omega)
  rw[List.getElem_map] at x5
  have c0:=aA x5 0 (by omega)
  rw[Nat.add_zero] at c0
  have hcg:=Iq (s:=s) hai hi hle
  have hD:=rx m s[i]
  generalize hc:s[i]=c at c0 hcg hD
  rw[hcg] at hv
  have hmem:c∈cut s a to:=by
   have:c∈(cut s a to).drop (i - a):=by rw[hcg];simp
   exact List.mem_of_mem_drop this
  cases h1:fe c with
  |false=>
   rw[h1] at hD
   simp (disch:=first|assumption|omega|(simp only[aI]<;>omega)) only[go_sem,seval,aa,g1,g2,g3,g4,g5,g6,g7,hlen,x1,x2,c0,hD.wf',hr,htk]
   refine hbad (Or.inl fun h=> ?_) _ _ ?_ ?_ ?_
   ·rw[hto] at h
    have:=Bv fe s a c (by rw[←h];exact hmem)
    rw[h1] at this;cases this
   ·simp (disch:=first|assumption|omega) only[go_sem,seval,g4]
   ·simp (disch:=first|assumption|omega) only[go_sem,seval]
   ·simp (disch:=first|assumption|omega) only[go_sem,seval]
  |true=>
   rw[h1] at hD
   have hdd:=h1
   unfold fe at hdd
   rw[decide_eq_true_eq] at hdd
   have e1:((c:Int) - 48) % 256=((c - 48:Nat):Int):=by omega
   have e2:((c - 48:Nat):Int) % 18446744073709551616=((c - 48:Nat):Int):=by omega
   have e3:(18446744073709551615 - ((c - 48:Nat):Int)) % 18446744073709551616=((18446744073709551615 - (c - 48):Nat):Int):=by omega
   have q10:∀x:Nat,x<18446744073709551616->c7 .num .quo (.int .u64 (.lit (x:Int))) (.int .u64 (.lit 10))=some (.int .u64 (.lit ((x / 10:Nat):Int))):=by
    intro x hx
    have:=FX (a:=x) (b:=10) (by omega)
    rw[show x / 10 % 18446744073709551616=x / 10 by omega] at this
    exact this
   have q10:=q10 (18446744073709551615 - (c - 48)) (by omega)
   have hvn:mg (c::(cut s a to).drop (i+1 - a)) n=if 10*n+(c - 48)<18446744073709551616 then mg ((cut s a to).drop (i+1 - a)) (10*n+(c - 48)) else none:=rfl
   by_cases hlt:10*n+(c - 48)<18446744073709551616
   ·rw[hvn,Rj hlt] at hv
    have hle10:n<=(18446744073709551615 - (c - 48)) / 10:=by omega
    have e4:(10*(n:Int) % 18446744073709551616+((c - 48:Nat):Int)) % 18446744073709551616=((10*n+(c - 48):Nat):Int):=by omega
    generalize hqq:(18446744073709551615 - (c - 48)) / 10=qq at q10 hle10
    simp (disch:=first|assumption|omega) only[go_sem,seval,aa,g1,g2,g3,g4,g5,g6,g7,hlen,x1,x2,c0,hD.wf',e1,e2,e3,q10,e4]
    refine ⟨k - 1,by omega,_,i+1,10*n+(c - 48),rfl, ?_, ?_, ?_, ?_, ?_, ?_, ?_, ?_,hlt,by omega, ?_,hv,by omega⟩
    ·simp (disch:=first|assumption|omega) only[go_sem,seval,g1]
    ·simp (disch:=first|assumption|omega) only[go_sem,seval,g2]
    ·simp (disch:=first|assumption|omega) only[go_sem,seval,g3]
    ·simp (disch:=first|assumption|omega) only[go_sem,seval,g4]
    ·simp (disch:=first|assumption|omega) only[go_sem,seval,g5]
    ·simp (disch:=first|assumption|omega) only[go_sem,seval]
    ·simp (disch:=first|assumption|omega) only[go_sem,seval]<;>rfl
    ·simp (disch:=first|assumption|omega) only[go_sem,seval,g8]
    ·intro x hx
     rw[show i+1 - a=i - a+1 by omega,List.take_add_one] at hx
     have hg:(cut s a to)[i - a]? =some c:=by
      have:=congrArg (fun l=>l[0]?) hcg
      simpa using this
     rw[hg] at hx
     simp only[Option.toList_some,List.mem_append,List.mem_singleton] at hx
     rcases hx with hx|rfl
     ·exact hall x hx
     ·exact h1
   ·rw[hvn,Ri hlt] at hv
    have hle10:(18446744073709551615 - (c - 48)) / 10<n:=by omega
    generalize hqq:(18446744073709551615 - (c - 48)) / 10=qq at q10 hle10
    simp (disch:=first|assumption|omega|(simp only[aI]<;>omega)) only[go_sem,seval,aa,g1,g2,g3,g4,g5,g6,g7,hlen,x1,x2,c0,hD.wf',e1,e2,e3,q10,hr,htk]
    refine hbad ?_ _ _ ?_ ?_ ?_
    ·unfold xz
     by_cases h:aV ej s a=aV fe s a
     ·right;rw[←h,hto];exact hv.symm
     ·exact Or.inl h
    ·simp (disch:=first|assumption|omega) only[go_sem,seval,g4]
    ·simp (disch:=first|assumption|omega) only[go_sem,seval]
    ·simp (disch:=first|assumption|omega) only[go_sem,seval]
 ·simp (disch:=first|assumption|omega) only[go_sem,seval,g1,g2,g7,hlen]
  have hia:i - a=(cut s a to).length:=by rw[kJ hle];omega
  rw[hia,List.take_length] at hall
  have he:aV fe s a=aV ej s a:=Gg (by rw[hto];exact hall)
  rw[hia,List.drop_length] at hv
  rw[hto] at he
  refine hok n he.symm ?_ _ _ ?_ ?_ ?_ ?_ ?_ ?_
  ·rw[he,←hv];rfl
  ·simp (disch:=first|assumption|omega) only[go_sem,seval,g5]
  ·simp (disch:=first|assumption|omega) only[go_sem,seval,g2]
  ·simp (disch:=first|assumption|omega) only[go_sem,seval,g3]
  ·simp (disch:=first|assumption|omega) only[go_sem,seval,g4]
  ·simp (disch:=first|assumption|omega) only[go_sem,seval,g6]
  ·simp (disch:=first|assumption|omega) only[go_sem,seval,g8]
theorem Pg {m:NH} {t:Tm} {r tk:D4} {b0 b1 b2 b3 a0 a1 a2 a3:NV} {c a:Nat} (ha':a<=1000000)
 (hr:m.get r=some (.cells true [b0,b1,b2,b3])) (htk:m.get tk=some (.cells true [a0,a1,a2,a3])) (orr:am m r) (otk:am m tk) (hrt:r≠tk)
 (g1:NT.get D4.e.c.a t=some (.str d8)) (g2:NT.get D4.e.c.b t=some (ii 0)) (g3:NT.get D4.e.a t=some (ii a)) (g4:NT.get D4.e.f t=some (.ptr r 0)) (g5:NT.get D4.e.b.a t=some (.ptr tk 0)) (g6:NT.get D4.e.a.f t=some (u8 c))
 {Q:Out->Dyn->Prop}
 (hok:c∈d8->∀L t' m',m'.get r=some (.cells true [ii 3,.str [c],a2,a3])->Chg [r,tk] m m'->NT.get D4.e.f (ai L t')=some (.ptr r 0)->NT.get D4.e.a.a (ai L t')=some (ii ((a:Int)+1))->NT.get D4.e.a.b (ai L t')=some (ii 0)->Q .ret ⟨ai L t', [],none,m'⟩)
 (hbad:c∉d8->∀L t',NT.get D4.e.b.a (ai L t')=some (.ptr tk 0)->NT.get D4.e.a (ai L t')=some (ii a)->NT.get D4.e.f (ai L t')=some (.ptr r 0)->Q (.exit 5) ⟨ai L t', [],none,m⟩):
 W Tryz.prog S0 none rL.loop ⟨t, [],none,m⟩ Q:=by
 have hsl:d8.length=13:=rfl
 refine W.loop (fun k d=>∃t i,d=⟨t, [],none,m⟩/\NT.get D4.e.c.a t=some (.str d8)/\NT.get D4.e.c.b t=some (ii (i:Nat))/\NT.get D4.e.a t=some (ii a)/\NT.get D4.e.f t=some (.ptr r 0)/\NT.get D4.e.b.a t=some (.ptr tk 0)/\NT.get D4.e.a.f t=some (u8 c)/\c∉d8.take i/\i+k=13) ?_ 13 _ ⟨_,0,rfl,g1,g2,g3,g4,g5,g6,by simp,by omega⟩
 rintro k d ⟨t,i,rfl,g1,g2,g3,g4,g5,g6,hno,hik⟩
 apply ao
 unfold rL
 change wp _ _ _ _ ⟨ai [] t, [],none,m⟩ _
 rw[←aa m]
 by_cases hi:i<13
 ·have hb:d8[i]? =some d8[i]:=List.getElem?_eq_getElem (by omega)
  by_cases he:d8[i]=c
  ·rw[he] at hb
   have e1:List.drop i (List.take ((i:Int)+1).toNat d8)= [c]:=by
    rw[show ((i:Int)+1).toNat=i+1 by omega,List.take_add_one,hb]
    simp only[Option.toList_some]
    rw[List.drop_append_of_le_length (by rw[List.length_take];omega),List.drop_take_self];rfl
   simp (disch:=first|assumption|omega|(simp only[aI]<;>omega)) only[go_sem,seval,g1,g2,g3,g4,g5,g6,hb,hsl,e1,hr,htk,EQ]
   refine hok (by rw[←he];exact List.getElem_mem _) _ _ _ ?_ ?_ ?_ ?_ ?_
   ·exact (aF orr).trans ap
   ·exact (aC rfl).weak (by simp[aB])
   ·simp (disch:=first|assumption|omega) only[go_sem,seval,g4]
   ·simp (disch:=first|assumption|omega) only[go_sem,seval]
   ·simp (disch:=first|assumption|omega) only[go_sem,seval]
  ·have hne:((d8[i]:Int)=(c:Int))=False:=by simp;omega
   simp (disch:=first|assumption|omega) only[go_sem,seval,g1,g2,g3,g4,g5,g6,hb,hsl]
   refine ⟨k - 1,by omega,_,i+1,by rw[aa], ?_, ?_, ?_, ?_, ?_, ?_, ?_,by omega⟩
   ·simp (disch:=first|assumption|omega) only[go_sem,seval,g1]
   ·simp (disch:=first|assumption|omega) only[go_sem,seval]<;>rfl
   ·simp (disch:=first|assumption|omega) only[go_sem,seval,g3]
   ·simp (disch:=first|assumption|omega) only[go_sem,seval,g4]
   ·simp (disch:=first|assumption|omega) only[go_sem,seval,g5]
   ·simp (disch:=first|assumption|omega) only[go_sem,seval,g6]
   ·rw[List.take_add_one,hb]
    simp only[Option.toList_some,List.mem_append,List.mem_singleton,not_or]
    exact ⟨hno,fun q=>he q.symm⟩
 ·simp (disch:=first|assumption|omega) only[go_sem,seval,g1,g2,hsl]
  rw[aa]
  refine hbad ?_ _ _ ?_ ?_ ?_
  ·have:i=13:=by omega
   subst this
   exact hno
  ·simp (disch:=first|assumption|omega) only[go_sem,seval,g5]
  ·simp (disch:=first|assumption|omega) only[go_sem,seval,g3]
  ·simp (disch:=first|assumption|omega) only[go_sem,seval,g4]
theorem Fg (s:List Nat) (a e:Nat):((mS s).drop a).take (e - a)=mS (cut s a e):=by
 unfold cut
 rw[List.drop_take]
 simp[List.map_take,List.map_drop]
theorem lw {s:List Nat} {a c:Nat} (hbs:s[a]? =some c) (hD:fe c=true):Ck (cut s a (aV fe s a))=if 1<aV fe s a - a/\c=48 then none else mg (cut s a (aV fe s a)) 0:=by
 have ha:=(List.getElem?_eq_some_iff.mp hbs).1
 obtain ⟨l,hl⟩:=Jm hbs hD
 have hn:=kJ (s:=s) (a:=a) (fY (p:=fe) (s:=s) (a:=a) (by omega))
 unfold Ck
 rw[hn]
 have e:((cut s a (aV fe s a))[0]? =some 48)↔(c=48):=by rw[hl];simp
 by_cases h:1<aV fe s a - a/\c=48
 ·rw[Rj h,Rj ⟨h.1,e.mpr h.2⟩]
 ·rw[Ri h,Ri fun q=>h ⟨q.1,e.mp q.2⟩]
theorem lk {s:List Nat} {a c:Nat} (hbs:s[a]? =some c) (hD:fe c=true):eY s a=(match Ck (cut s a (aV fe s a)) with|some n=>if aV ej s a=aV fe s a then some (2, [],n,aV fe s a) else none|none=>none):=by
 have hL:vO c=false:=by
  unfold fe at hD;rw[decide_eq_true_eq] at hD
  unfold vO;rw[decide_eq_false_iff_not];omega
 unfold eY;rw[hbs];simp only[hL,hD];rfl
theorem uW {s:List Nat} {a c:Nat} (hbs:s[a]? =some c) (hD:fe c=true) (h:xz s a):eY s a=none:=by
 rw[lk hbs hD,lw hbs hD]
 by_cases h1:1<aV fe s a - a/\c=48
 ·rw[Rj h1]
 ·rw[Ri h1]
  rcases h with h|h
  ·cases mg (cut s a (aV fe s a)) 0 with
   |none=>rfl
   |some n=>simp[h]
  ·rw[h]
theorem HX (m:NH) {vb:NV} {s:List Nat} (hs:s.length<=1000000) (h256:∀c∈s,c<256) (hb:Sl m vb 1 (mS s)) {a:Nat} (ha:a<s.length):
 ∃v m',aS Tryz.prog S0 66 [vb,ii a] m v m'/\(∃(k0:Int) (t0:List Nat) (n0 p:Int),v= .tup [.agg [ii k0,.str t0,.int .u64 (.lit n0),ii a],ii p,ii (if (eY s a).isSome then 0 else 2)]/\∀k t n e,eY s a=some (k,t,n,e)->k0=k/\t0=t/\n0=n/\p=e)/\Chg [] m m':=by
 refine WF.ex fun K hK=> ?_
 refine WF.of_wpG (fun _=>rfl) zA (L:= [(.a .e,ii a),(.e,vb)]) rfl ?_
 unfold My
 simp (disch:=first|assumption|omega) only[go_sem,seval]
 generalize hM0:hp _ 1 m=M0
 have hC0:Chg [] m M0:=ba hM0 rfl
 have r0:M0.get (na m 0)=some (.cells true [ii 0,.str [],u64 0,ii 0]):=bz hM0
 have or0:am M0 (na m 0):=bw hM0 (by omega)
 have hb0:=hb.chg hC0 fun _ _=>by simp
 refine NL hs hb0 (Nat.le_of_lt ha) (by simp only[go_sem,seval]) (by simp only[go_sem,seval]) (by simp only[go_sem,seval]) (f:= .ptr (na m 0) 0) (by simp only[go_sem,seval]) ?_
 intro L t g1 g2 g3 g4
 rw[←aa M0]
 obtain ⟨id,off,w,c',x1,x2,x3,x4,x5⟩:=hb0.at a (by simpa using ha)
 rw[List.getElem_map] at x5
 have c0:=aA x5 0 (by omega)
 rw[Nat.add_zero] at c0
 have hbs:s[a]? =some s[a]:=List.getElem?_eq_getElem ha
 have hc256:=h256 s[a] (List.getElem_mem ha)
 generalize hc:s[a]=c at c0 hbs hc256
 have hd:∀m,aS Tryz.prog S0 109 [u8 c] m (.bool (fe c)) m:=fun m=>rx m c
 have hl:∀m,aS Tryz.prog S0 110 [u8 c] m (.bool (vO c)) m:=fun m=>oX m c
 generalize hT:ai L t=T at g1 g2 g3 g4
 change wp _ _ _ _ ⟨ai [] T, [],none,_⟩ _
 have na_ne:na m 0≠na M0 0:=or0.ne 0
 have na_ne':na M0 0≠na m 0:=fun e=>or0.ne 0 e.symm
 have chF:∀(M1:NH) {MF:NH} {T1 T2:List D4},Chg T1 M0 M1->Chg T2 M1 MF->(∀i∈T1++T2,i=na m 0∨i=na M0 0)->Chg [] m MF:=by
  intro M1 MF T1 T2 h1 h2 hi
  refine (hC0.weak (T:=T1++T2) (by simp)).trans ((h1.weak (T:=T1++T2) (by intro i hi _;simp[hi])).trans h2 (by intro i hi _;simp[hi])) (fun _ h _=>h) |>.weak ?_
  intro i hi' ho
  rcases hi i hi' with rfl|rfl
  ·exact Rh ho az
  ·exact Rh (hC0.old ho) az
 cases hD:fe c with
 |true=>
  rw[hD] at hd
  simp (disch:=first|assumption|omega|(simp only[aI]<;>omega)) only[go_sem,seval,g1,g2,g3,g4,x1,x2,c0,(hd _).wf']
  generalize hM1:hp _ 1 M0=M1
  have hC1:Chg [] M0 M1:=ba hM1 rfl
  have p0:=(hC1.get or0 (by simp)).trans r0
  have op0:=hC1.old or0
  have p1:M1.get (na M0 0)=some (.cells true [ii 0,.str [],u64 0,ii a]):=bz hM1
  have op1:am M1 (na M0 0):=bw hM1 (by omega)
  have hb1:=hb0.chg hC1 fun _ _=>by simp
  refine OO hs hb1 (Nat.le_of_lt ha) p0 p1 op0 op1 (cc:=u8 c) ?_ ?_ ?_ ?_ ?_ ?_ ?_ ?_ ?_ ?_
  ·simp (disch:=first|assumption|omega) only[go_sem,seval,g1]
  ·simp (disch:=first|assumption|omega) only[go_sem,seval,g4]
  ·simp (disch:=first|assumption|omega) only[go_sem,seval,g2]
  ·simp (disch:=first|assumption|omega) only[go_sem,seval,g3]
  ·simp (disch:=first|assumption|omega) only[go_sem,seval]
  ·simp (disch:=first|assumption|omega) only[go_sem,seval]<;>rfl
  ·simp (disch:=first|assumption|omega) only[go_sem,seval,g2]
  ·simp (disch:=first|assumption|omega) only[go_sem,seval]
  ·intro hbn L' t' k1 k2 k3
   generalize ai L' t'=T' at k1 k2 k3
   rw[show M1.put (na m 0) (.cells true [ii 0,.str [],u64 0,ii a])=hp [(.o (na m 0),.cells true [ii 0,.str [],u64 0,ii a])] 0 M1 from by rw[←cg op0,aa]]
   change xR _ K .ret ⟨ai [] T', [],none,_⟩
   have T:eY s a=none:=uW hbs hD hbn
   simp (disch:=first|assumption|omega) only[go_sem,seval,k1,k2,k3]
   refine hK _ _ ⟨⟨_,_,_,_,by rw[T];rfl, ?_⟩,chF M1 hC1 (aC rfl) (by simp[aB])⟩
   intro k t n e he;rw[T] at he;cases he
  ·intro n hrr hv L' t' k1 k2 k3 k4 k5 k6
   generalize ai L' t'=T' at k1 k2 k3 k4 k5 k6
   rw[←aa M1]
   change wp _ _ _ _ ⟨ai [] T', [],none,_⟩ _
   have hge:a<=aV ej s a:=jy
   have hle:aV ej s a<=s.length:=fY (Nat.le_of_lt ha)
   by_cases h48:c=48
   ·by_cases hgt:a+1<aV ej s a
    ·have T:eY s a=none:=by rw[lk hbs hD,lw hbs hD,Rj ⟨by omega,h48⟩]
     simp (disch:=first|assumption|omega|(simp only[aI]<;>omega)) only[go_sem,seval,k1,k2,k3,k4,k5,k6,p0,p1]
     refine hK _ _ ⟨⟨_,_,_,_,by rw[T];rfl, ?_⟩,chF M1 hC1 (aC rfl) (by simp[aB])⟩
     intro k t n e he;rw[T] at he;cases he
    ·have T:eY s a=some (2, [],n,aV fe s a):=by rw[lk hbs hD,lw hbs hD,Ri (by omega),hv];simp[hrr]
     simp (disch:=first|assumption|omega|(simp only[aI]<;>omega)) only[go_sem,seval,k1,k2,k3,k4,k5,k6,p0,p1,na_ne]
     refine hK _ _ ⟨⟨_,_,_,_,by rw[T];rfl, ?_⟩,chF M1 hC1 (aC rfl) (by simp[aB])⟩
     intro k t n e he;rw[T] at he;cases he
     exact ⟨rfl,rfl,rfl,by rw[hrr]⟩
   ·have T:eY s a=some (2, [],n,aV fe s a):=by rw[lk hbs hD,lw hbs hD,Ri (by omega),hv];simp[hrr]
    simp (disch:=first|assumption|omega|(simp only[aI]<;>omega)) only[go_sem,seval,k1,k2,k3,k4,k5,k6,p0,p1,na_ne]
    refine hK _ _ ⟨⟨_,_,_,_,by rw[T];rfl, ?_⟩,chF M1 hC1 (aC rfl) (by simp[aB])⟩
    intro k t n e he;rw[T] at he;cases he
    exact ⟨rfl,rfl,rfl,by rw[hrr]⟩
 |false=>
  rw[hD] at hd
  cases hL:vO c with
  |true=>
   rw[hL] at hl
   simp (disch:=first|assumption|omega|(simp only[aI]<;>omega)) only[go_sem,seval,g1,g2,g3,g4,x1,x2,c0,(hd _).wf',(hl _).wf']
   generalize hM1:hp _ 1 M0=M1
   have hC1:Chg [] M0 M1:=ba hM1 rfl
   have op0:=hC1.old or0
   have p1:M1.get (na M0 0)=some (.cells true [ii 0,.str [],u64 0,ii a]):=bz hM1
   have op1:am M1 (na M0 0):=bw hM1 (by omega)
   have hb1:=hb0.chg hC1 fun _ _=>by simp
   have p0:=(hC1.get or0 (by simp)).trans r0
   have hge:a<=aV ej s a:=jy
   have hle:aV ej s a<=s.length:=fY (Nat.le_of_lt ha)
   refine zR (a:=a) (b:=aV ej s a) hb1 hge (by simpa using hle) ?_ ?_ ?_
   ·intro K;simp (disch:=first|assumption|omega) only[go_sem,seval]
   ·intro d K hd;simp (disch:=first|assumption|omega) only[go_sem,seval]
   intro v' hv' _
   rw[Fg] at hv'
   have hbt:=hv'.bts (fun c hc=>h256 c (List.mem_of_mem_take (List.mem_of_mem_drop hc)))
   rw[←aa M1]
   have hbt:Ii (hp [] 0 M1) v'= .val (.str (cut s a (aV ej s a))):=by rw[aa];exact hbt
   simp (disch:=first|assumption|omega|(simp only[aI]<;>omega)) only[go_sem,seval,g1,g2,g3,g4,hbt,p1]
   generalize hM2:hp _ 0 M1=M2
   have hC2:Chg [na M0 0] M1 M2:=by rw[←hM2];exact (aC rfl).weak (by simp[aB])
   have s0:=(hC2.get op0 (by simpa using na_ne)).trans p0
   have s1:M2.get (na M0 0)=some (.cells true [ii 1,.str (cut s a (aV ej s a)),u64 0,ii a]):=by rw[←hM2];simp (config:={maxSteps:=1000000}) (disch:=first|assumption|omega|(apply bv;omega)|(apply bJ;assumption)|(simp only[aI]<;>omega)) only[go_sem,seval]
   have os0:=hC2.old op0
   have os1:=hC2.old op1
   obtain ⟨wv,M3,hw,rfl,hC3⟩:=Jj M2 (cut s a (aV ej s a))
   have y0:=(hC3.get os0 (by simp)).trans s0
   have y1:=(hC3.get os1 (by simp)).trans s1
   have oy0:=hC3.old os0
   have oy1:=hC3.old os1
   have hC13:Chg [na M0 0] M0 M3:=(hC1.weak (T:= [na M0 0]) (by simp)).trans ((hC2.weak (T:= [na M0 0]) (by simp)).trans (hC3.weak (T:= [na M0 0]) (by simp)) (fun _ h _=>h)) (fun _ h _=>h)
   have TT:eY s a=(if cut s a (aV ej s a)∈gj then some (4,cut s a (aV ej s a),0,aV ej s a) else if (cut s a (aV ej s a)).length<=16 then some (1,cut s a (aV ej s a),0,aV ej s a) else none):=by
    unfold eY;rw[hbs];simp only[hL];rfl
   by_cases hwd:cut s a (aV ej s a)∈gj
   ·rw[Rl hwd] at hw
    rw[Rj hwd] at TT
    simp (config:={maxSteps:=1000000}) (disch:=first|assumption|omega|(apply bv;omega)|(apply bJ;assumption)|(simp only[aI]<;>omega)) only[go_sem,seval,hw.wf,g1,g2,g3,g4,y0,y1]
    refine hK _ _ ⟨⟨_,_,_,_,by rw[TT];rfl, ?_⟩,chF M3 hC13 (aC rfl) (by simp[aB])⟩
    intro k t n e he;rw[TT] at he;cases he
    exact ⟨rfl,rfl,rfl,rfl⟩
   ·rw[Rk hwd] at hw
    rw[Ri hwd] at TT
    by_cases h16:(cut s a (aV ej s a)).length<=16
    ·rw[Rj h16] at TT
     simp (config:={maxSteps:=1000000}) (disch:=first|assumption|omega|(apply bv;omega)|(apply bJ;assumption)|(simp only[aI]<;>omega)) only[go_sem,seval,hw.wf,g1,g2,g3,g4,y0,y1]
     refine hK _ _ ⟨⟨_,_,_,_,by rw[TT];rfl, ?_⟩,chF M3 hC13 (aC rfl) (by simp[aB])⟩
     intro k t n e he;rw[TT] at he;cases he
     exact ⟨rfl,rfl,rfl,rfl⟩
    ·rw[Ri h16] at TT
     simp (config:={maxSteps:=1000000}) (disch:=first|assumption|omega|(apply bv;omega)|(apply bJ;assumption)|(simp only[aI]<;>omega)) only[go_sem,seval,hw.wf,g1,g2,g3,g4,y0,y1]
     refine hK _ _ ⟨⟨_,_,_,_,by rw[TT];rfl, ?_⟩,chF M3 hC13 (aC rfl) (by simp[aB])⟩
     intro k t n e he;rw[TT] at he;cases he
  |false=>
   rw[hL] at hl
   simp (disch:=first|assumption|omega|(simp only[aI]<;>omega)) only[go_sem,seval,g1,g2,g3,g4,x1,x2,c0,(hd _).wf',(hl _).wf']
   generalize hM1:hp _ 1 M0=M1
   have hC1:Chg [] M0 M1:=ba hM1 rfl
   have p0:=(hC1.get or0 (by simp)).trans r0
   have op0:=hC1.old or0
   have p1:M1.get (na M0 0)=some (.cells true [ii 0,.str [],u64 0,ii a]):=bz hM1
   have op1:am M1 (na M0 0):=bw hM1 (by omega)
   have T:eY s a=if c∈d8 then some (3, [c],0,a+1) else none:=by unfold eY;rw[hbs];simp[hL,hD]
   refine Pg (c:=c) (a:=a) (by omega) p0 p1 op0 op1 na_ne ?_ ?_ ?_ ?_ ?_ ?_ ?_ ?_
   ·simp (disch:=first|assumption|omega) only[go_sem,seval]<;>rfl
   ·simp (disch:=first|assumption|omega) only[go_sem,seval]
   ·simp (disch:=first|assumption|omega) only[go_sem,seval,g2]
   ·simp (disch:=first|assumption|omega) only[go_sem,seval,g3]
   ·simp (disch:=first|assumption|omega) only[go_sem,seval]
   ·simp (disch:=first|assumption|omega) only[go_sem,seval]
   ·intro hm L' t' m' q0 hCm k1 k2 k3
    rw[Rj hm] at T
    generalize ai L' t'=T' at k1 k2 k3
    change xR _ K .ret ⟨ai [] T', [],none,m'⟩
    simp (disch:=first|assumption|omega) only[go_sem,seval,k1,k2,k3,q0]
    refine hK _ _ ⟨⟨_,_,_,_,by rw[T];rfl, ?_⟩,chF M1 hC1 hCm (by simp)⟩
    intro k t n e he;rw[T] at he;cases he
    exact ⟨rfl,rfl,rfl,by omega⟩
   ·intro hm L' t' k1 k2 k3
    rw[Ri hm] at T
    generalize ai L' t'=T' at k1 k2 k3
    rw[←aa M1]
    change wp _ _ _ _ ⟨ai [] T', [],none,_⟩ _
    simp (disch:=first|assumption|omega|(simp only[aI]<;>omega)) only[go_sem,seval,k1,k2,k3,p0,p1]
    refine hK _ _ ⟨⟨_,_,_,_,by rw[T];rfl, ?_⟩,chF M1 hC1 (aC rfl) (by simp[aB])⟩
    intro k t n e he;rw[T] at he;cases he
theorem IB {m M0:NH} {vb:NV} {s:List Nat} (hs:s.length<=16384) (h256:∀c∈s,c<256) (hb:Sl m vb 1 (mS s)) (hCm:Chg [] m M0) {t:Tm}
 (g1:NT.get D4.e t=some vb) (g2:NT.get D4.e.a.a t=some .nils) (g3:NT.get D4.e.a.b t=some (ii ((bx s 0:Nat):Int))) {Q:Out->Dyn->Prop}
 (hbad:∀a,(dr s).2=some a->∀L t' M,Chg [] m M->NT.get D4.e.b (ai L t')=some .nils->NT.get D4.e.c (ai L t')=some (ii a)->NT.get D4.e.f (ai L t')=some (ii 2)->Q .ret ⟨ai L t', [],none,M⟩)
 (hok:∀T,dr s=(T++ [⟨5, [],0,s.length⟩],none)->∀L t' M u,Chg [] m M->aU m M u 4 (T.map Tok.l)->NT.get D4.e (ai L t')=some vb->NT.get D4.e.a.a (ai L t')=some u->Q (.exit 0) ⟨ai L t', [],none,M⟩):
 W Tryz.prog S0 none qU.loop ⟨t, [],none,M0⟩ Q:=by
 have hsk0:bx s 0<=s.length:=lf (Nat.zero_le _)
 refine W.loop (fun k d=>∃t M i L u,d=⟨t, [],none,M⟩/\NT.get D4.e t=some vb/\NT.get D4.e.a.a t=some u/\NT.get D4.e.a.b t=some (ii (i:Nat))/\i<=s.length/\s.length<=i+k/\Chg [] m M/\aU m M u 4 (L.map Tok.l)/\dr s=(L++(cW s (k+1) i).1,(cW s (k+1) i).2)) ?_ s.length _
  ⟨_,M0,bx s 0, [],.nils,rfl,g1,g2,g3,hsk0,by omega,hCm,aU.nil,rfl⟩
 rintro k d ⟨t,M,i,L,u,rfl,g1,g2,g3,hi,hik,hC,hu,hT⟩
 apply ao
 unfold qU
 change wp _ _ _ _ ⟨ai [] t, [],none,M⟩ _
 rw[←aa M]
 have hLl:L.length<=s.length+1:=by
  have h:=lI s (s.length+1) (bx s 0)
  have h2:(dr s).1.length=_:=congrArg (fun x=>x.1.length) hT
  rw[List.length_append] at h2
  have h3:(dr s).1.length<=s.length+1:=h
  omega
 have hbM:=hb.chg hC fun _ _=>by simp
 have hlen:=hbM.len
 rw[show (mS s).length=s.length by simp] at hlen
 by_cases hlt:i<s.length
 ·obtain ⟨k,rfl⟩:∃k',k=k'+1:=⟨k - 1,by omega⟩
  have hTs:cW s (k+1+1) i=(match eY s i with
   |none=>([],some i)
   |some (kd,t,n,e)=>(⟨kd,t,n,i⟩::(cW s (k+1) (bx s e)).1,(cW s (k+1) (bx s e)).2)):=by
   rw[cW,Rj hlt]
  obtain ⟨v,M2,hr,⟨k0,t0,n0,p,rfl,htk⟩,hC2⟩:=HX (hp [] 0 M) (by omega) h256 (by rw[aa];exact hbM) hlt
  have hC2:Chg [] M M2:=by rw[aa] at hC2;exact hC2
  cases hk:eY s i with
  |none=>
   rw[hk] at hr
   have hr:aS Tryz.prog S0 66 [vb,ii i] (hp [] 0 M) (.tup [.agg [ii k0,.str t0,.int .u64 (.lit n0),ii i],ii p,ii 2]) M2:=hr
   rw[hTs,hk] at hT
   simp (disch:=first|assumption|omega|(simp only[aI]<;>omega)) only[go_sem,seval,g1,g2,g3,hlen,hr.wf]
   refine hbad i (by rw[hT]) _ _ _ ((hC.trans hC2 (by simp)).trans (aC rfl) (by simp[aB])) ?_ ?_ ?_
   ·simp (disch:=first|assumption|omega) only[go_sem,seval]
   ·simp (disch:=first|assumption|omega) only[go_sem,seval]
   ·simp (disch:=first|assumption|omega) only[go_sem,seval]
  |some x=>
   obtain ⟨kd,tx,n,e⟩:=x
   rw[hk] at hr
   obtain ⟨e0,e1,e2,e3⟩:=htk kd tx n e hk
   rw[e0,e1,e2,e3] at hr
   have hr:aS Tryz.prog S0 66 [vb,ii i] (hp [] 0 M) (.tup [.agg [ii kd,.str tx,.int .u64 (.lit (n:Int)),ii i],ii e,ii 0]) M2:=hr
   obtain ⟨l1,l2⟩:=Gv hk
   simp (disch:=first|assumption|omega|(simp only[aI]<;>omega)) only[go_sem,seval,g1,g2,g3,hlen,hr.wf]
   generalize hM3:hp _ 2 M2=M3
   have hC3:Chg [] M2 M3:=ba hM3 rfl
   have n1:M3.get (na M2 1)=some (.cells true (Tok.l ⟨kd,tx,n,i⟩)):=bz hM3
   have on1:am M3 (na M2 1):=bw hM3 (by omega)
   have hCC:Chg [] m M3:=hC.trans (hC2.trans hC3 (by simp)) (by simp)
   refine vw (hu.chg (hC2.trans hC3 fun _ h _=>h) fun _ _=>by simp) n1 on1 rfl (fun i hi=>hCC.old hi) (by simp;omega) (by simp;omega) ?_
   intro u' M5 hu' hC5
   have hC6:Chg [] m M5:=(hCC.weak (T:=ids u) (by simp)).trans hC5 (fun _ h _=>h) |>.weak (by intro j hj ho;exact Rh ho (hu.new j hj))
   have hsk:aS Tryz.prog S0 65 [vb,ii e] (hp [] 0 M5) (ii ((bx s e:Nat):Int)) (hp [] 0 M5):=EU _ (by omega) (by rw[aa];exact hb.chg hC6 fun _ _=>by simp) l2
   simp (disch:=first|assumption|omega) only[go_sem,seval,g1,g2,g3,hsk.wf']
   have hge:e<=bx s e:=vd
   refine ⟨k,by omega,_,M5,bx s e,L++ [⟨kd,tx,n,i⟩],u',by rw[aa], ?_, ?_, ?_,lf l2,by omega,hC6, ?_, ?_⟩
   ·simp (disch:=first|assumption|omega) only[go_sem,seval,g1]
   ·simp (disch:=first|assumption|omega) only[go_sem,seval]
   ·simp (disch:=first|assumption|omega) only[go_sem,seval]
   ·rw[List.map_append];exact hu'
   ·rw[hT,hTs,hk];simp
 ·have hTs:cW s (k+1) i=([⟨5, [],0,s.length⟩],none):=by rw[cW,Ri hlt]
  rw[hTs] at hT
  simp (disch:=first|assumption|omega) only[go_sem,seval,g1,g2,g3,hlen]
  rw[aa]
  refine hok L hT _ _ _ u hC hu ?_ ?_
  ·simp (disch:=first|assumption|omega) only[go_sem,seval,g1]
  ·simp (disch:=first|assumption|omega) only[go_sem,seval,g2]
theorem E0 (m:NH) {v:NV} {b:List Nat} (hv:Sl m v 1 (mS b)) (hb:∀c∈b,c<256):
 ∃r m',aS Tryz.prog S0 40 [v] m r m'/\(if 16384<b.length then r= .tup [.nils,ii 0,ii 3] else (match (dr b).2 with|some a=>r= .tup [.nils,ii a,ii 2]|none=>∃u,r= .tup [u,ii b.length,ii 0]/\aU m m' u 4 ((dr b).1.map Tok.l)))/\Chg [] m m':=by
 refine WF.ex fun K hK=> ?_
 refine WF.of_wpG (fun _=>rfl) z9 (L:= [(.e,v)]) rfl ?_
 unfold Lt
 have hlen:=hv.len
 rw[show (mS b).length=b.length by simp] at hlen
 by_cases h1:16384<b.length
 ·simp (disch:=first|assumption|omega) only[go_sem,seval,hlen,aa]
  refine hK _ _ ⟨by rw[Rj h1],Chg.refl m⟩
 ·have hs0:aS Tryz.prog S0 65 [v,ii 0] m (ii ((bx b 0:Nat):Int)) m:=EU m (by omega) hv (a:=0) (Nat.zero_le _)
  simp (disch:=first|assumption|omega) only[go_sem,seval,hlen,aa,hs0.wf']
  refine IB (m:=m) (s:=b) (vb:=v) (by omega) hb hv (Chg.refl m) ?_ ?_ ?_ ?_ ?_
  ·simp (disch:=first|assumption|omega) only[go_sem,seval]
  ·simp (disch:=first|assumption|omega) only[go_sem,seval]
  ·simp (disch:=first|assumption|omega) only[go_sem,seval]
  ·intro a he L t M hC g1 g2 g3
   generalize ai L t=T at g1 g2 g3
   change xR _ K .ret ⟨ai [] T, [],none,M⟩
   simp (disch:=first|assumption|omega) only[go_sem,seval,g1,g2,g3]
   refine hK _ _ ⟨by rw[Ri h1,he],hC⟩
  ·intro Tl hT L t M u hC hu g1 g2
   generalize ai L t=T at g1 g2
   change wp _ _ _ _ ⟨ai [] T, [],none,M⟩ _
   rw[←aa M]
   have hlen:=(hv.chg hC fun _ _=>by simp).len
   rw[show (mS b).length=b.length by simp] at hlen
   have hTl:Tl.length<=b.length+1:=by
    have h:=lI b (b.length+1) (bx b 0)
    have h2:(dr b).1.length=_:=congrArg (fun x=>x.1.length) hT
    rw[List.length_append] at h2
    have h3:(dr b).1.length<=b.length+1:=h
    omega
   simp (disch:=first|assumption|omega|(simp only[aI]<;>omega)) only[go_sem,seval,g1,g2,hlen]
   generalize hM3:hp _ 1 M=M3
   have hC3:Chg [] M M3:=ba hM3 rfl
   have n1:M3.get (na M 0)=some (.cells true (Tok.l ⟨5, [],0,b.length⟩)):=bz hM3
   have on1:am M3 (na M 0):=bw hM3 (by omega)
   have hCC:Chg [] m M3:=hC.trans hC3 (by simp)
   refine vw (hu.chg hC3 fun _ _=>by simp) n1 on1 rfl (fun i hi=>hCC.old hi) (by simp;omega) (by simp;omega) ?_
   intro u' M5 hu' hC5
   have hC6:Chg [] m M5:=(hCC.weak (T:=ids u) (by simp)).trans hC5 (fun _ h _=>h) |>.weak (by intro j hj ho;exact Rh ho (hu.new j hj))
   have hlen5:=(hv.chg hC6 fun _ _=>by simp).len
   rw[show (mS b).length=b.length by simp] at hlen5
   simp (disch:=first|assumption|omega) only[go_sem,seval,g1,g2,hlen5]
   rw[aa]
   refine hK _ _ ⟨?_,hC6⟩
   rw[Ri h1,hT]
   exact ⟨u',rfl,by rw[List.map_append];exact hu'⟩
structure Rs where
 (a e b:Nat)
def aJ (L:List Tok) (a:Nat):Tok:=(L[a]?).getD ⟨0, [],0,0⟩
def bp (e:Nat) (s:Rs):Rs:=if s.e=0 then ⟨s.a,e,s.a⟩ else s
def aj (s:Rs):Rs:=⟨s.a+1,s.e,s.b⟩
def qm:List Nat->Nat
 |c::_=>if vO c then 4 else 3
 | []=>3
def aY (L:List Tok) (w:List Nat) (s:Rs):Bool:=decide (s.e=0/\(aJ L s.a).k=qm w/\(aJ L s.a).t=w)
def aZ (L:List Tok) (w:List Nat) (s:Rs):Rs:=if aY L w s then aj s else bp 2 s
def bc (L:List Tok) (s:Rs):List Nat×Rs:=if s.e≠0∨(aJ L s.a).k≠1 then ([],bp 2 s) else ((aJ L s.a).t,aj s)
structure RD (m:NH) (r:D4) (vl:NV) (s:Rs) (rest:List NV):Prop where
 g:m.get r=some (.cells true (vl::ii s.a::ii s.e::ii s.b::rest))
 o:am m r
structure RC (m0:NH) (L:List Tok) (vl:NV) (r:D4):Prop where
 sl:Sl m0 vl 4 (L.map Tok.l)
 len:L.length<=20000
 no:¬am m0 r
theorem RD.chg {m m':NH} {r:D4} {vl:NV} {s:Rs} {rest:List NV} {S:List D4} (h:RD m r vl s rest) (hC:Chg S m m') (hr:r∉S):RD m' r vl s rest:=⟨(hC.get h.o hr).trans h.g,hC.old h.o⟩
theorem RC.chg {m0 m m':NH} {L:List Tok} {vl:NV} {r:D4} (h:RC m0 L vl r) (h0:Chg [] m0 m) (hC:Chg [r] m m'):Chg [] m0 m':=h0.trans hC fun i hi ho=>by
 have hi:=one hi;subst hi;exact Rh ho h.no
theorem bG {L:List Tok} {w:List Nat} {s:Rs} (h:aY L w s=true):s.e=0/\s.a<L.length:=by
 obtain ⟨h1,h2,h3⟩:=of_decide_eq_true h
 refine ⟨h1, ?_⟩
 rcases Nat.lt_or_ge s.a L.length with q|q
 ·exact q
 ·rw[aJ,List.getElem?_eq_none q] at h2
  have:qm w≠0:=by unfold qm;split;split<;>omega;omega
  exact Rh h2.symm this
theorem pS {T:Tok}:T.l[0]? =some (ii T.k):=_root_.id rfl
theorem vP {T:Tok}:T.l[1]? =some (.str T.t):=_root_.id rfl
theorem PE {T:Tok}:T.l[2]? =some (u64 T.n):=_root_.id rfl
section
variable {m0 m:NH} {L:List Tok} {vl:NV} {r:D4} {s:Rs} {rest:List NV}
theorem gT (hd:RD m r vl s rest) (e:Nat):∃m',aS Tryz.prog S0 69 [.ptr r 0,ii e] m (.tup []) m'/\RD m' r vl (bp e s) rest/\Chg [r] m m':=by
 refine WF.ex1 fun K hK=> ?_
 refine WF.of_wpG (fun _=>rfl) yN (L:= [(.a .e,ii e),(.e,.ptr r 0)]) rfl ?_
 unfold LC
 obtain ⟨g,o⟩:=hd
 by_cases h:s.e=0
 ·rw[h] at g
  simp (disch:=first|assumption|omega|(simp only[aI]<;>omega)) only[go_sem,seval,g]
  refine hK _ ⟨⟨?_,bJ o⟩,(aC rfl).weak (by intro i hi _;simpa [aB] using hi)⟩
  rw[bp,Rj h]
  exact (aF o).trans ap
 ·have hd:decide ((s.e:Int)=0)=false:=Rk (by omega)
  simp (disch:=first|assumption|omega) only[go_sem,seval,g,hd,aa]
  refine hK _ ⟨⟨?_,o⟩,(Chg.refl m).weak (by simp)⟩
  rw[bp,Ri h];exact g
theorem iP (hc:RC m0 L vl r) (h0:Chg [] m0 m) (hd:RD m r vl s rest):∃m',aS Tryz.prog S0 41 [.ptr r 0] m (.agg (aJ L s.a).l) m'/\Chg [] m m':=by
 refine WF.ex1 fun K hK=> ?_
 refine WF.of_wpG (fun _=>rfl) zX (L:= [(.e,.ptr r 0)]) rfl ?_
 unfold Lv
 obtain ⟨g,o⟩:=hd
 have hs:=hc.sl.chg h0 fun _ _=>by simp
 have hlen:=hs.len
 have hll:=hc.len
 rw[List.length_map] at hlen
 have hvs:bj 4 vl vl=true:=hs.same
 by_cases h:s.a<L.length
 ·obtain ⟨id,off,w,c,a1,a2,a3,a4,a5⟩:=hs.at s.a (by simpa using h)
  rw[List.getElem_map] at a5
  have hl:(Tok.l L[s.a]).length=4:=rfl
  have hl':(Tok.l L[s.a]).take 4=Tok.l L[s.a]:=rfl
  simp (disch:=first|assumption|omega|(simp only[aI]<;>omega)) only[go_sem,seval,g,hlen,a1,a2,a5,hl,hl',hvs]
  have e:aJ L s.a=L[s.a]:=by rw[aJ,List.getElem?_eq_getElem h];rfl
  rw[e] at hK
  exact hK _ (aC rfl)
 ·have e:aJ L s.a=⟨0, [],0,0⟩:=by rw[aJ,List.getElem?_eq_none (by omega)];rfl
  rw[e] at hK
  simp (disch:=first|assumption|omega|(simp only[aI]<;>omega)) only[go_sem,seval,g,hlen,hvs]
  exact hK _ (aC rfl)
theorem dp (hc:RC m0 L vl r) (h0:Chg [] m0 m) (hd:RD m r vl s rest) (w:List Nat) (hw:w≠ []) (ha:s.a<=100000):∃m',aS Tryz.prog S0 67 [.ptr r 0,.str w] m (.bool (aY L w s)) m'/\RD m' r vl (if aY L w s then aj s else s) rest/\Chg [r] m m':=by
 refine WF.ex1 fun K hK=> ?_
 refine WF.of_wpG (fun _=>rfl) y8 (L:= [(.a .e,.str w),(.e,.ptr r 0)]) rfl ?_
 unfold KM
 simp (disch:=first|assumption|omega) only[go_sem,seval,aa]
 refine WF.use1H (iP hc h0 hd) ?_
 intro m1 hC1
 have hd1:=hd.chg hC1 (by simp)
 generalize hT:aJ L s.a=T
 obtain ⟨c,w',rfl⟩:=List.exists_cons_of_ne_nil hw
 have hw0:(c::w')[0]? =some c:=rfl
 obtain ⟨g,o⟩:=hd1
 have hkw:qm (c::w')=if vO c then 4 else 3:=rfl
 have hl:(Tok.l T).length=4:=rfl
 have hlr:=oX
 have yes:∀M,aY L (c::w') s=true->Chg [r] m M->M.get r=some (.cells true (vl::ii (s.a+1:Nat)::ii s.e::ii s.b::rest))->am M r->K (.bool true) M:=fun M h1 h2 h3 h4=>by
  rw[h1,Rj rfl] at hK
  exact hK M ⟨⟨h3,h4⟩,h2⟩
 have no:∀M,aY L (c::w') s=false->Chg [] m M->K (.bool false) M:=fun M h1 h2=>by
  rw[h1,Ri (by simp)] at hK
  exact hK M ⟨hd.chg h2 (by simp),h2.weak (by simp)⟩
 have tb:∀k,qm (c::w')=k->aY L (c::w') s=decide (s.e=0/\T.k=k/\T.t=c::w'):=fun k hk=>by rw[aY,hT,hk]
 have hC2:∀l,aB l= []->Chg [] m (hp l 1 m1):=fun l e=>hC1.trans (aC e) (by simp)
 cases hlt:vO c with
 |true=>
  have tb:=tb 4 (by rw[hkw,hlt];rfl)
  by_cases he:s.e=0
  ·by_cases hk:T.k=4
   ·by_cases ht:T.t=c::w'
    ·simp (disch:=first|assumption|omega|(simp only[aI]<;>omega)) only[go_sem,seval,hw0,hl,pS,vP,(hlr _ _).wf',hlt,g]
     refine yes _ (by rw[tb];simp[he,hk,ht]) ?_ ((aF o).trans ap) (bJ o)
     exact (hC1.weak (by simp)).trans (aC rfl) (by simp[aB])
    ·simp (disch:=first|assumption|omega|(simp only[aI]<;>omega)) only[go_sem,seval,hw0,hl,pS,vP,(hlr _ _).wf',hlt,g]
     refine no _ (by rw[tb];simp[ht]) ?_;exact hC2 _ rfl
   ·simp (disch:=first|assumption|omega|(simp only[aI]<;>omega)) only[go_sem,seval,hw0,hl,pS,vP,(hlr _ _).wf',hlt,g]
    refine no _ (by rw[tb];simp[hk]) ?_;exact hC2 _ rfl
  ·simp (disch:=first|assumption|omega|(simp only[aI]<;>omega)) only[go_sem,seval,hw0,hl,pS,vP,(hlr _ _).wf',hlt,g]
   refine no _ (by rw[tb];simp[he]) ?_;exact hC2 _ rfl
 |false=>
  have tb:=tb 3 (by rw[hkw,hlt];rfl)
  by_cases he:s.e=0
  ·by_cases hk:T.k=3
   ·by_cases ht:T.t=c::w'
    ·simp (disch:=first|assumption|omega|(simp only[aI]<;>omega)) only[go_sem,seval,hw0,hl,pS,vP,(hlr _ _).wf',hlt,g]
     refine yes _ (by rw[tb];simp[he,hk,ht]) ?_ ((aF o).trans ap) (bJ o)
     exact (hC1.weak (by simp)).trans (aC rfl) (by simp[aB])
    ·simp (disch:=first|assumption|omega|(simp only[aI]<;>omega)) only[go_sem,seval,hw0,hl,pS,vP,(hlr _ _).wf',hlt,g]
     refine no _ (by rw[tb];simp[ht]) ?_;exact hC2 _ rfl
   ·simp (disch:=first|assumption|omega|(simp only[aI]<;>omega)) only[go_sem,seval,hw0,hl,pS,vP,(hlr _ _).wf',hlt,g]
    refine no _ (by rw[tb];simp[hk]) ?_;exact hC2 _ rfl
  ·simp (disch:=first|assumption|omega|(simp only[aI]<;>omega)) only[go_sem,seval,hw0,hl,pS,vP,(hlr _ _).wf',hlt,g]
   refine no _ (by rw[tb];simp[he]) ?_;exact hC2 _ rfl
theorem gi (hc:RC m0 L vl r) (h0:Chg [] m0 m) (hd:RD m r vl s rest) (w:List Nat) (hw:w≠ []) (ha:s.a<=100000):∃m',aS Tryz.prog S0 70 [.ptr r 0,.str w] m (.tup []) m'/\RD m' r vl (aZ L w s) rest/\Chg [r] m m':=by
 refine WF.ex1 fun K hK=> ?_
 refine WF.of_wpG (fun _=>rfl) zF (L:= [(.a .e,.str w),(.e,.ptr r 0)]) rfl ?_
 unfold Jk
 simp (disch:=first|assumption|omega) only[go_sem,seval,aa]
 refine WF.use1 (dp hc h0 hd w hw ha) ?_
 rintro m1 ⟨hd1,hC1⟩
 unfold aZ at hK
 cases hb:aY L w s with
 |true=>
  rw[hb] at hd1 hK
  simp (disch:=first|assumption|omega) only[go_sem,seval]
  exact hK _ ⟨hd1,hC1⟩
 |false=>
  rw[hb] at hd1 hK
  simp (disch:=first|assumption|omega) only[go_sem,seval]
  refine WF.use1 (gT (s:=s) hd1 2) ?_
  rintro m2 ⟨hd2,hC2⟩
  simp (disch:=first|assumption|omega) only[go_sem,seval]
  exact hK _ ⟨hd2,hC1.trans hC2 fun _ h _=>h⟩
theorem md (hc:RC m0 L vl r) (h0:Chg [] m0 m) (hd:RD m r vl s rest) (ha:s.a<=100000):∃m',aS Tryz.prog S0 68 [.ptr r 0] m (.str (bc L s).1) m'/\RD m' r vl (bc L s).2 rest/\Chg [r] m m':=by
 refine WF.ex1 fun K hK=> ?_
 refine WF.of_wpG (fun _=>rfl) yT (L:= [(.e,.ptr r 0)]) rfl ?_
 unfold Kp
 simp (disch:=first|assumption|omega) only[go_sem,seval,aa]
 refine WF.use1H (iP hc h0 hd) ?_
 intro m1 hC1
 have hd1:=hd.chg hC1 (by simp)
 have hl:(Tok.l (aJ L s.a)).length=4:=rfl
 unfold bc at hK
 generalize aJ L s.a=T at hK hl
 obtain ⟨g,o⟩:=hd1
 have bad:(s.e≠0∨T.k≠1)->∀M,Chg [] m M->∃m',aS Tryz.prog S0 69 [.ptr r 0,ii 2] M (.tup []) m'/\K (.str []) m':=fun h M hC=>by
  rw[Rj h] at hK
  obtain ⟨m2,h1,hd2,hC2⟩:=gT (hd.chg hC (by simp)) 2
  exact ⟨m2,h1,hK _ ⟨hd2,(hC.weak (by simp)).trans hC2 fun _ h _=>h⟩⟩
 by_cases he:s.e=0
 ·by_cases hk:T.k=1
  ·rw[Ri (by omega)] at hK
   simp (disch:=first|assumption|omega|(simp only[aI]<;>omega)) only[go_sem,seval,hl,pS,vP,g]
   refine hK _ ⟨⟨(aF o).trans ap,bJ o⟩,(hC1.weak (by simp)).trans (aC rfl) (by simp[aB])⟩
  ·simp (disch:=first|assumption|omega|(simp only[aI]<;>omega)) only[go_sem,seval,hl,pS,vP,g]
   refine WF.use1 (bad (Or.inr hk) _ (fN hC1 rfl)) ?_
   intro M h
   simp (disch:=first|assumption|omega) only[go_sem,seval]
   exact h
 ·simp (disch:=first|assumption|omega|(simp only[aI]<;>omega)) only[go_sem,seval,hl,pS,vP,g]
  refine WF.use1 (bad (Or.inl he) _ (fN hC1 rfl)) ?_
  intro M h
  simp (disch:=first|assumption|omega) only[go_sem,seval]
  exact h
end
abbrev Fe (n:Nat):Ex:= .mk 0 n 0 [] []
abbrev vB (s:List Nat):Ex:= .mk 1 0 0 s []
abbrev x7 (o:Nat) (x y:Ex):Ex:= .mk 2 0 o [] [x,y]
mutual
def Ex.depth:Ex->Nat
 | .mk _ _ _ _ ks=>cX ks+1
def cX:List Ex->Nat
 | []=>0
 |x::xs=>max x.depth (cX xs)
end
theorem pW (a b:List Ex):cX (a++b)=max (cX a) (cX b):=by
 induction a with
 |nil=>simp[cX]
 |cons x a ih=>rw[List.cons_append,cX,cX,ih];omega
section
variable (L:List Tok)
def cN (E:Rs->Ex×Rs) (d:Nat) (s:Rs):Ex×Rs:=
 if s.e≠0 then (zE,s) else if 29<d then (zE,bp 11 s) else if (aJ L s.a).k=2 then (Fe (aJ L s.a).n,aj s) else if (aJ L s.a).k=1 then (vB (aJ L s.a).t,aj s)
 else if aY L [40] s=true then ((E (aj s)).1,aZ L [41] (E (aj s)).2) else (zE,bp 2 s)
def im (T:Tok):Nat:=if T.k=3/\T.t.length=1 then T.t.headD 0 else 0
def w9 (o:Nat):Bool:=decide (o=43∨o=45∨o=42∨o=38∨o=61∨o=60)
def eT (P:Rs->Ex×Rs):Nat->Ex->Rs->Ex×Rs
 |0,x,s=>(x,s)
 |f+1,x,s=>if s.e≠0 then (x,s) else if w9 (im (aJ L s.a))=false then (x,s) else
  if (P (aj s)).2.e≠0 then (x,(P (aj s)).2) else
   eT P f (x7 (im (aJ L s.a)) x (P (aj s)).1) (if 30<(x7 (im (aJ L s.a)) x (P (aj s)).1).depth then bp 11 (P (aj s)).2 else (P (aj s)).2)
def iB (E:Rs->Ex×Rs) (d:Nat) (s:Rs):Ex×Rs:=eT L (cN L E d) (L.length+1) (cN L E d s).1 (cN L E d s).2
def iZ:Nat->Rs->Ex×Rs
 |0,s=>iB L (fun s=>(zE,s)) 30 s
 |n+1,s=>iB L (iZ n) (29 - n) s
end
structure St (L:List Tok) (s s':Rs):Prop where
 le:s.a<=s'.a
 lim:s.a<=L.length->s'.a<=L.length
 err:s.e≠0->s'=s
 lim2:∀{N:Nat},(∀a,1<=(aJ L a).k->(aJ L a).k<=4->a<N)->s.a<=N->s.b<=N->s'.a<=N/\s'.b<=N
theorem St.refl (L:List Tok) (s:Rs):St L s s:=⟨Nat.le_refl _,fun h=>h,fun _=>rfl,fun _ h1 h2=>⟨h1,h2⟩⟩
theorem St.trans {L:List Tok} {a b c:Rs} (h:St L a b) (h':St L b c):St L a c:=⟨Nat.le_trans h.le h'.le,fun q=>h'.lim (h.lim q),fun q=>by have:=h.err q;subst this;exact h'.err q,fun hN h1 h2=>let ⟨q1,q2⟩:=h.lim2 hN h1 h2;h'.lim2 hN q1 q2⟩
theorem St.zero {L:List Tok} {s s':Rs} (h:St L s s') (e:s'.e=0):s.e=0:=by
 rcases Nat.eq_zero_or_pos s.e with q|q
 ·exact q
 ·have:=h.err (by omega);subst this;exact e
theorem b8 (L:List Tok) (e:Nat) (s:Rs):St L s (bp e s):=by
 unfold bp
 split
 ·exact ⟨Nat.le_refl _,fun h=>h,fun h=>Rh ‹_› h,fun _ h1 _=>⟨h1,h1⟩⟩
 ·exact St.refl L s
theorem il {L:List Tok} {s:Rs} (h:s.a<L.length) (he:s.e=0) (hk:1<=(aJ L s.a).k/\(aJ L s.a).k<=4):St L s (aj s):=⟨Nat.le_succ _,fun _=>h,fun q=>Rh he q,fun hN _ h2=>⟨hN _ hk.1 hk.2,h2⟩⟩
theorem ei {L:List Tok} {w:List Nat} {s:Rs} (h:aY L w s=true):St L s (aj s):=by
 obtain ⟨h1,h2,h3⟩:=of_decide_eq_true h
 refine il (bG h).2 h1 ?_
 rw[h2]
 unfold qm
 split
 ·split<;>omega
 ·omega
theorem mj {L:List Tok} {a:Nat} (h:(aJ L a).k≠0):a<L.length:=by
 rcases Nat.lt_or_ge a L.length with q|q
 ·exact q
 ·rw[aJ,List.getElem?_eq_none q] at h;exact Rh rfl h
theorem bS (L:List Tok) (w:List Nat) (s:Rs):St L s (aZ L w s):=by
 unfold aZ
 split
 ·rename_i h;exact ei h
 ·exact b8 _ _ _
theorem cC (L:List Tok) (s:Rs):St L s (bc L s).2:=by
 unfold bc
 split
 ·exact b8 _ _ _
 ·rename_i h
  exact il (mj (by omega)) (by omega) (by omega)
theorem ip {L:List Tok} {E:Rs->Ex×Rs} {d:Nat} (hE:∀s,St L s (E s).2) (s:Rs):St L s (cN L E d s).2:=by
 unfold cN
 split
 ·exact St.refl _ _
 ·split
  ·exact b8 _ _ _
  ·split
   ·exact il (mj (by omega)) (by omega) (by omega)
   ·split
    ·exact il (mj (by omega)) (by omega) (by omega)
    ·split
     ·rename_i h;exact ((ei h).trans (hE _)).trans (bS _ _ _)
     ·exact b8 _ _ _
theorem rH {L:List Tok} {a:Nat} (h:w9 (im (aJ L a))=true):a<L.length:=by
 refine mj fun q=> ?_
 unfold im at h
 rw[Ri (by omega)] at h
 exact Rh h (by decide)
theorem J7 {L:List Tok} {a:Nat} (h:w9 (im (aJ L a))=true):1<=(aJ L a).k/\(aJ L a).k<=4:=by
 unfold im at h
 by_cases q:(aJ L a).k=3/\(aJ L a).t.length=1
 ·omega
 ·rw[Ri q] at h;exact Rh h (by decide)
theorem lA {L:List Tok} {P:Rs->Ex×Rs} (hP:∀s,St L s (P s).2):∀(f:Nat) (x:Ex) (s:Rs),St L s (eT L P f x s).2:=by
 intro f
 induction f with
 |zero=>intro x s;exact St.refl _ _
 |succ f ih=>
  intro x s
  rw[eT]
  split
  ·exact St.refl _ _
  ·split
   ·exact St.refl _ _
   ·rename_i h1 h2
    have h3:=(il (rH (by simpa using h2)) (by omega:s.e=0) (J7 (by simpa using h2))).trans (hP (aj s))
    split
    ·exact h3
    ·refine (h3.trans ?_).trans (ih _ _)
     split
     ·exact b8 _ _ _
     ·exact St.refl _ _
theorem ug {L:List Tok} {E:Rs->Ex×Rs} {d:Nat} (hE:∀s,St L s (E s).2) (s:Rs):St L s (iB L E d s).2:=(ip hE s).trans (lA (ip hE) _ _ _)
theorem cq (L:List Tok):∀(n:Nat) (s:Rs),St L s (iZ L n s).2:=by
 intro n
 induction n with
 |zero=>exact fun s=>ug (fun s=>St.refl _ s) s
 |succ n ih=>exact fun s=>ug ih s
def Dn (E:Rs->Ex×Rs):Prop:=∀s,(E s).2.e=0->(E s).1.sz+s.a<=(E s).2.a
theorem sc {L:List Tok} {E:Rs->Ex×Rs} {d:Nat} (hS:∀s,St L s (E s).2) (hE:Dn E):Dn (cN L E d):=by
 intro s
 unfold cN
 have hf:∀e,e≠0->(bp e s).e≠0:=fun e he=>by unfold bp;split;exact he;assumption
 split
 ·intro h;exact Rh h ‹_›
 ·split
  ·intro h;exact Rh h (hf 11 (by omega))
  ·split
   ·intro _;simp[Ex.sz,jV,aj];omega
   ·split
    ·intro _;simp[Ex.sz,jV,aj];omega
    ·split
     ·intro h
      have h1:=bS L [41] (E (aj s)).2
      have h2:=hE (aj s) (h1.zero h)
      have h3:=h1.le
      have h4:(aj s).a=s.a+1:=rfl
      dsimp only at h ⊢
      omega
     ·intro h;exact Rh h (hf 2 (by omega))
theorem G5 {L:List Tok} {P:Rs->Ex×Rs} (hS:∀s,St L s (P s).2) (hP:Dn P):∀(f:Nat) (x:Ex) (s:Rs) (a0:Nat),(s.e=0->x.sz+a0<=s.a)->(eT L P f x s).2.e=0->(eT L P f x s).1.sz+a0<=(eT L P f x s).2.a:=by
 intro f
 induction f with
 |zero=>intro x s a0 h h2;exact h h2
 |succ f ih=>
  intro x s a0 h
  rw[eT]
  split
  ·intro h2;exact Rh h2 ‹_›
  ·split
   ·intro h2;exact h h2
   ·split
    ·intro h2;exact Rh h2 ‹_›
    ·rename_i h1 h2 h3
     refine ih _ _ a0 fun h4=> ?_
     have h5:=hP (aj s) (by omega)
     have h6:=h (by omega)
     have h7:(aj s).a=s.a+1:=rfl
     have h8:(x7 (im (aJ L s.a)) x (P (aj s)).1).sz=1+(x.sz+((P (aj s)).1.sz+0)):=by simp[Ex.sz,jV]
     rw[h8]
     split
     ·unfold bp;split
      ·show _+a0<=(P (aj s)).2.a;omega
      ·omega
     ·omega
theorem sK {L:List Tok} {E:Rs->Ex×Rs} {d:Nat} (hS:∀s,St L s (E s).2) (hP:Dn (cN L E d)):Dn (iB L E d):=by
 intro s h
 exact G5 (ip hS) hP _ _ _ s.a (fun h=>hP s h) h
theorem oJ (L:List Tok) (E:Rs->Ex×Rs):Dn (cN L E 30):=by
 intro s
 unfold cN
 split
 ·intro h;exact Rh h ‹_›
 ·rw[Rj (by omega)]
  intro h;unfold bp at h;split at h
  ·exact Rh h (by show (11:Nat)≠0;omega)
  ·exact Rh h ‹_›
theorem rT (L:List Tok):∀n:Nat,Dn (iZ L n):=by
 intro n
 induction n with
 |zero=>exact sK (fun s=>St.refl _ s) (oJ L _)
 |succ n ih=>exact sK (cq L n) (sc (cq L n) ih)
abbrev oT (m:NH):D4->Prop:=fun i=>¬am m i
theorem RE.chg {mc m m':NH} {x:Ex} {c:List NV} {S:List D4} (h:RE m (oT mc) x c) (hC:Chg S m m') (hS:∀i∈S,am mc i):RE m' (oT mc) x c:=h.stays (aX.of hC fun i hi hs=>hi (hS i hs))
theorem RS.chg {mc m m':NH} {x:Stm} {c:List NV} {S:List D4} (h:RS m (oT mc) x c) (hC:Chg S m m') (hS:∀i∈S,am mc i):RS m' (oT mc) x c:=h.stays (aX.of hC fun i hi hs=>hi (hS i hs))
theorem RE.new {mc mb m:NH} {x:Ex} {c:List NV} (h:RE m (oT mc) x c) (hC:∀i,am mb i->am mc i):RE m (oT mb) x c:=h.weak fun i hi ho=>hi (hC i ho)
theorem RS.new {mc mb m:NH} {x:Stm} {c:List NV} (h:RS m (oT mc) x c) (hC:∀i,am mb i->am mc i):RS m (oT mb) x c:=h.weak fun i hi ho=>hi (hC i ho)
theorem Mm (m:NH) (T:D4->Prop) (n:Nat):RE m T (Fe n) ((Fe n).l .nils):=BK m T 0 n 0 []
theorem GN (m:NH) (T:D4->Prop) (s:List Nat):RE m T (vB s) ((vB s).l .nils):=BK m T 1 0 0 s
def PP (x:Ex):Prop:=∀{m0 m:NH} {T:D4->Prop} {c:List NV},RE m0 T x c->aX T m0 m->x.sz<=100000000->∃m',aS Tryz.prog S0 153 [.agg c] m (ii x.depth) m'/\Chg [] m m'
theorem Kd:∀x:Ex,x.depth<=x.sz:=by
 apply Ex.ind
 intro k n o s ks ih
 rw[Ex.depth,Ex.sz]
 have:∀ks:List Ex,(∀x∈ks,x.depth<=x.sz)->cX ks<=jV ks:=by
  intro ks
  induction ks with
  |nil=>intro _;simp[cX]
  |cons x xs ih=>
   intro h
   have h1:=h x (List.mem_cons_self ..)
   have h2:=ih fun y hy=>h y (List.mem_cons_of_mem _ hy)
   rw[cX,jV];omega
 have:=this ks ih
 omega
theorem Hl {l:List Ex} {x:Ex} (hx:x∈l):x.sz<=jV l:=by
 induction l with
 |nil=>simp at hx
 |cons a l ih=>
  rw[jV]
  rcases List.mem_cons.mp hx with rfl|hx
  ·omega
  ·have:=ih hx;omega
theorem HZ:∀x:Ex,PP x:=by
 apply Ex.ind
 intro k n o s ks ih m0 m T c hR hst hsz
 obtain ⟨vk,C,rfl,hS⟩:=hR.inv
 rw[Ex.sz] at hsz
 refine WF.ex1 fun K hK=> ?_
 refine WF.of_wpG (fun _=>rfl) tM (L:= [(.e,.agg [ii k,u64 n,u8 o,.str s,vk])]) rfl ?_
 unfold Ff
 simp (disch:=first|assumption|omega) only[go_sem,seval]
 generalize hM1:hp _ 1 m=M1
 have hC1:Chg [] m M1:=ba hM1 rfl
 have hg1:M1.get (na m 0)=some (.cells true [ii k,u64 n,u8 o,.str s,vk]):=bz hM1
 have ho1:am M1 (na m 0):=bw hM1 (by omega)
 have hls:=nk ks
 refine W.loop (fun j d=>∃t M i,d=⟨t, [],none,M⟩/\NT.get D4.e.a t=some (.ptr (na m 0) 0)/\NT.get D4.e.c t=some (ii (cX (ks.take i)))/\NT.get D4.e.f t=some (ii (i:Nat))/\i+j=ks.length/\Chg [] M1 M) ?_ ks.length _ ⟨_,M1,0,rfl,by simp only[go_sem,seval],by simp only[go_sem,seval]<;>rfl,by simp only[go_sem,seval]<;>rfl,by omega,Chg.refl M1⟩
 rintro j d ⟨t,M,i,rfl,g1,g2,g3,hij,hC⟩
 apply ao
 unfold sJ
 change wp _ _ _ _ ⟨ai [] t, [],none,M⟩ _
 have hstM:aX T m0 M:=fun i hi ho=>by
  obtain ⟨q1,q2⟩:=hst i hi ho
  have hCM:Chg [] m M:=hC1.trans hC (by simp)
  exact ⟨(hCM.get q2 (by simp)).trans q1,hCM.old q2⟩
 have hSM:=hS.stays hstM
 have hgM:=(hC.get ho1 (by simp)).trans hg1
 have hlen:=hSM.sl.len
 rw[hS.len] at hlen
 by_cases hi:i<ks.length
 ·obtain ⟨cx,hcx,hRx⟩:=hS.at i hi
  have hc:i<C.length:=by rw[hS.len];exact hi
  obtain ⟨id,off,wr,c,a1,a2,a3,a4,a5⟩:=hSM.sl.at i hc
  have ecx:C[i]=cx:=by rw[List.getElem?_eq_getElem hc] at hcx;injection hcx
  rw[ecx] at a5
  have hsx:=Hl (List.getElem_mem hi)
  obtain ⟨m',hr,hC'⟩:=ih ks[i] (List.getElem_mem hi) hRx hstM (by omega)
  have htk:cX (ks.take (i+1))=max (cX (ks.take i)) ks[i].depth:=by
   rw[List.take_add_one,List.getElem?_eq_getElem hi,Option.toList_some,pW,cX,cX];omega
  simp (disch:=first|assumption|omega) only[go_sem,seval,g1,g2,g3,hgM,hlen,a1,a2,a5,hr.wf']
  by_cases hgt:cX (ks.take i)<ks[i].depth
  ·simp (disch:=first|assumption|omega) only[go_sem,seval,g1,g2,g3]
   refine ⟨j - 1,by omega,_,m',i+1,by rfl,by simp only[go_sem,seval,g1], ?_,by simp only[go_sem,seval]<;>rfl,by omega,hC.trans hC' (by simp)⟩
   simp (disch:=first|assumption|omega) only[go_sem,seval,htk]
   rw[Nat.max_eq_right (by omega)]
  ·simp (disch:=first|assumption|omega) only[go_sem,seval,g1,g2,g3]
   refine ⟨j - 1,by omega,_,m',i+1,by rfl,by simp only[go_sem,seval,g1], ?_,by simp only[go_sem,seval]<;>rfl,by omega,hC.trans hC' (by simp)⟩
   simp (disch:=first|assumption|omega) only[go_sem,seval,htk,g2]
   rw[Nat.max_eq_left (by omega)]
 ·have e:(ks.take i)=ks:=List.take_of_length_le (by omega)
  rw[e] at g2
  have hd:=Kd (.mk k n o s ks)
  rw[Ex.depth,Ex.sz] at hd
  rw[Ex.depth] at hK
  simp (disch:=first|assumption|omega) only[go_sem,seval,g1,g2,g3,hgM,hlen]
  exact hK _ (hC1.trans hC (by simp))
def LO (f:Nat) (m0:NH) (L:List Tok) (vl:NV) (r:D4) (rest:List NV) (E:Rs->Ex×Rs) (d:Nat):Prop:=∀{m:NH} {s:Rs},Chg [] m0 m->RD m r vl s rest->s.a<=L.length->
 ∃v m',aS Tryz.prog S0 f [.ptr r 0,ii d] m v m'/\(∃u,v= .agg ((E s).1.l u)/\RE m' (oT m) (E s).1 ((E s).1.l u))/\RD m' r vl (E s).2 rest/\Chg [r] m m'
theorem nh {S:List D4} {m M:NH} {l:List (AK×NO)} {k:Nat} (h:Chg S m M) (ho:∀i∈aB l,am m i->i∈S):Chg S m (hp l k M):=h.trans (aC rfl) ho
section
variable {m0:NH} {L:List Tok} {vl:NV} {r:D4} {rest:List NV} {E:Rs->Ex×Rs}
theorem CX (hc:RC m0 L vl r) {d:Nat} (hst:∀s,St L s (E s).2) (hE:d<=29->LO 141 m0 L vl r rest E (d+1)) (hd30:d<=30):LO 152 m0 L vl r rest (cN L E d) d:=by
 intro m s h0 hd ha
 refine WF.ex fun K hK=> ?_
 refine WF.of_wpG (fun _=>rfl) sF (L:= [(.a .e,ii d),(.e,.ptr r 0)]) rfl ?_
 unfold Gd
 have hll:=hc.len
 simp (disch:=first|assumption|omega) only[go_sem,seval]
 generalize hM1:hp _ 1 m=M1
 have hC1:Chg [] m M1:=ba hM1 rfl
 have hg1:M1.get (na m 0)=some (.cells true [ii 0,u64 0,u8 0,.str [],.nils]):=bz hM1
 have ho1:am M1 (na m 0):=bw hM1 (by omega)
 have hr0:r≠na m 0:=hd.o.ne 0
 have hr0':na m 0≠r:=fun e=>hr0 e.symm
 have hd1:=hd.chg hC1 (by simp)
 have hn1:∀i,am m i->am M1 i:=fun i hi=>hC1.old hi
 refine WF.use1H (iP hc (h0.trans hC1 (by simp)) hd1) ?_
 intro M2 hC2
 have hd2:=hd1.chg hC2 (by simp)
 have hg2:=(hC2.get ho1 (by simp)).trans hg1
 have ho2:=hC2.old ho1
 have hC02:=hC1.trans hC2 (by simp)
 have hl:(Tok.l (aJ L s.a)).length=4:=rfl
 have hpf:cN L E d s=if s.e≠0 then (zE,s) else if 29<d then (zE,bp 11 s) else if (aJ L s.a).k=2 then (Fe (aJ L s.a).n,aj s) else if (aJ L s.a).k=1 then (vB (aJ L s.a).t,aj s)
  else if aY L [40] s=true then ((E (aj s)).1,aZ L [41] (E (aj s)).2) else (zE,bp 2 s):=rfl
 rw[hpf] at hK
 clear hpf
 generalize hT:aJ L s.a=T at hK hl
 have hdg:=hd2.g
 have hdo:=hd2.o
 have hCr2:Chg [r] m M2:=hC02.weak (by simp)
 have fin:∀{M:NH} {s':Rs} {u:NV} {x:Ex} {l:List (AK×NO)} {k:Nat},RD M r vl s' rest->Chg [r] m M->RE M (oT m) x (x.l u)->(∀i∈aB l,i=na m 0)->(RE (hp l k M) (oT m) x (x.l u)->RD (hp l k M) r vl s' rest/\Chg [r] m (hp l k M)):=fun h1 h2 h3 h4 _=>
  ⟨h1.chg (aC rfl) fun hi=>hr0 (h4 _ hi),nh h2 fun i hi ho=>Rh (h4 i hi▸ho) az⟩
 by_cases he:s.e=0
 ·rw[Ri (by omega)] at hK
  by_cases h29:29<d
  ·rw[Rj h29] at hK
   simp (disch:=first|assumption|omega|(simp only[aI]<;>omega)) only[go_sem,seval,hl,hdg]
   generalize hM3:hp _ 1 M2=M3
   have hC3:Chg [] M2 M3:=ba hM3 rfl
   refine WF.use1H (gT (hd2.chg hC3 (by simp)) 11) ?_
   rintro M4 ⟨hd4,hC4⟩
   have hg4:=(hC4.get (hC3.old ho2) (by simpa using hr0.symm)).trans ((hC3.get ho2 (by simp)).trans hg2)
   have ho4:=hC4.old (hC3.old ho2)
   simp (disch:=first|assumption|omega|(simp only[aI]<;>omega)) only[go_sem,seval,hg4]
   exact hK _ _ ⟨⟨.nils,rfl,BK _ _ _ _ _ _⟩,fin hd4 ((hCr2.trans hC3 (by simp)).trans hC4 fun _ h _=>h) (BK _ _ 0 0 0 []) (by simp[aB]) (BK _ _ _ _ _ _)⟩
  ·rw[Ri h29] at hK
   by_cases h2:T.k=2
   ·rw[Rj h2] at hK
    simp (disch:=first|assumption|omega|(simp only[aI]<;>omega)) only[go_sem,seval,hl,pS,PE,hdg,hg2,hr0]
    refine hK _ _ ⟨⟨.nils,rfl,Mm _ _ _⟩,⟨?_,bJ (by assumption)⟩, ?_⟩
    ·refine (aF hdo).trans ?_
     simp only[bh hr0,ap];rfl
    ·exact nh hCr2 (by simp[aB,az])
   ·rw[Ri h2] at hK
    by_cases h1:T.k=1
    ·rw[Rj h1] at hK
     simp (disch:=first|assumption|omega|(simp only[aI]<;>omega)) only[go_sem,seval,hl,pS,vP,hdg,hg2,hr0]
     refine hK _ _ ⟨⟨.nils,rfl,GN _ _ _⟩,⟨?_,bJ (by assumption)⟩, ?_⟩
     ·refine (aF hdo).trans ?_
      simp only[bh hr0,ap];rfl
     ·exact nh hCr2 (by simp[aB,az])
    ·rw[Ri h1] at hK
     simp (disch:=first|assumption|omega|(simp only[aI]<;>omega)) only[go_sem,seval,hl,pS,hdg]
     generalize hM3:hp _ 1 M2=M3
     have hC3:Chg [] M2 M3:=ba hM3 rfl
     have hd3:=hd2.chg hC3 (by simp)
     refine WF.use1H (dp hc (h0.trans (hC02.trans hC3 (by simp)) (by simp)) hd3 [40] (by simp) (by omega)) ?_
     rintro M4 ⟨hd4,hC4⟩
     have hg4:=(hC4.get (hC3.old ho2) (by simpa using hr0.symm)).trans ((hC3.get ho2 (by simp)).trans hg2)
     have ho4:=hC4.old (hC3.old ho2)
     have hC04:Chg [r] m M4:=(hCr2.trans hC3 (by simp)).trans hC4 fun _ h _=>h
     cases hb:aY L [40] s with
     |true=>
      rw[hb,Rj rfl] at hK hd4
      dsimp only at hK
      generalize hEs:E (aj s)=Es at hK
      obtain ⟨-,hlt⟩:=bG hb
      simp (disch:=first|assumption|omega) only[go_sem,seval,aa]
      refine WF.useH (hE (by omega) (hc.chg h0 hC04) hd4 hlt) ?_
      rintro v5 M5 ⟨⟨u,rfl,hx5⟩,hd5,hC5⟩
      have hst5:=hst (aj s)
      rw[hEs] at hx5 hd5 hst5 ⊢
      have hg5:=(hC5.get ho4 (by simpa using hr0.symm)).trans hg4
      have ho5:=hC5.old ho4
      have hC05:Chg [r] m M5:=hC04.trans hC5 fun _ h _=>h
      have hx5l:(Es.1.l u).length=5:=rfl
      simp (disch:=first|assumption|omega|(simp only[aI]<;>omega)) only[go_sem,seval,hx5l]
      generalize hM6:hp _ 1 M5=M6
      have hC6:Chg [] M5 M6:=ba hM6 rfl
      have hg6:M6.get (na M5 0)=some (.cells true (Es.1.l u)):=bz hM6
      have ho6:am M6 (na M5 0):=bw hM6 (by omega)
      have hlim:=hst5.lim hlt
      refine WF.use1H (gi hc (hc.chg h0 (hC05.trans hC6 (by simp))) (hd5.chg hC6 (by simp)) [41] (by simp) (by omega)) ?_
      rintro M7 ⟨hd7,hC7⟩
      have hg7:=(hC7.get (hC6.old ho5) (by simpa using hr0.symm)).trans ((hC6.get ho5 (by simp)).trans hg5)
      have ho7:=hC7.old (hC6.old ho5)
      have hr5:na M5 0≠r:=fun e=>(hd5.o.ne 0 e.symm)
      have hb7:=(hC7.get ho6 (by simpa using hr5)).trans hg6
      have hC07:Chg [r] m M7:=(hC05.trans hC6 (by simp)).trans hC7 fun _ h _=>h
      have hl5':(Es.1.l u).take 5=Es.1.l u:=rfl
      simp (disch:=first|assumption|omega|(simp only[aI]<;>omega)) only[go_sem,seval,hg7,hb7,hx5l,hl5']
      have hx7:RE M7 (oT M4) Es.1 (Es.1.l u):=(hx5.chg hC6 (by simp)).chg hC7 fun i hi=>by
       have hi:=one hi;subst hi;exact hd4.o
      generalize hM8:hp _ 0 M7=M8
      have hC8:Chg [na m 0] M7 M8:=ba hM8 rfl
      have hx8:RE M8 (oT M4) Es.1 (Es.1.l u):=hx7.chg hC8 fun i hi=>by
       have hi:=one hi;subst hi;exact ho4
      have hx9:RE M8 (oT m) Es.1 (Es.1.l u):=hx8.new fun i hi=>hC04.old hi
      have hd8:=hd7.chg hC8 (by simpa using hr0)
      have hC08:Chg [r] m M8:=hC07.trans hC8 fun i hi ho=>by
       have hi:=one hi;subst hi;exact Rh ho az
      exact hK _ _ ⟨⟨u,rfl,hx9⟩,hd8,hC08⟩
     |false=>
      rw[hb,Ri Bool.false_ne_true] at hK hd4
      simp (disch:=first|assumption|omega) only[go_sem,seval,aa]
      refine WF.use1H (gT hd4 2) ?_
      rintro M5 ⟨hd5,hC5⟩
      have hg5:=(hC5.get ho4 (by simpa using hr0.symm)).trans hg4
      have ho5:=hC5.old ho4
      simp (disch:=first|assumption|omega|(simp only[aI]<;>omega)) only[go_sem,seval,hg5]
      exact hK _ _ ⟨⟨.nils,rfl,BK _ _ _ _ _ _⟩,fin hd5 (hC04.trans hC5 fun _ h _=>h) (BK _ _ 0 0 0 []) (by simp[aB]) (BK _ _ _ _ _ _)⟩
 ·rw[Rj he] at hK
  simp (disch:=first|assumption|omega|(simp only[aI]<;>omega)) only[go_sem,seval,hl,hdg,hg2]
  exact hK _ _ ⟨⟨.nils,rfl,BK _ _ _ _ _ _⟩,fin hd2 hCr2 (BK _ _ 0 0 0 []) (by simp[aB]) (BK _ _ _ _ _ _)⟩
end
theorem RE.old {m:NH} {T:D4->Prop} {x:Ex} {c:List NV} (h:RE m T x c):RE m (fun i=>T i/\am m i) x c:=by
 induction h with
 |mk hv hT hl h ih=>exact .mk hv (fun i hi=>⟨hT i hi,hv.old i hi⟩) hl ih
theorem RS.old {m:NH} {T:D4->Prop} {x:Stm} {c:List NV} (h:RS m T x c):RS m (fun i=>T i/\am m i) x c:=by
 induction h with
 |mk hi hx hy hb hbT hbl hbR he heT hel heR ih1 ih2=>exact .mk hi.old hx.old hy.old hb (fun i q=>⟨hbT i q,hb.old i q⟩) hbl ih1 he (fun i q=>⟨heT i q,he.old i q⟩) hel ih2
theorem NP {m:NH} {T:D4->Prop} {o:Nat} {x y:Ex} {cx cy:List NV} (hx:RE m T x cx) (hy:RE m T y cy) {id:D4} (hT:T id) (hg:m.get id=some (.cells true (cx++cy))) (ho:am m id):RE m T (x7 o x y) ((x7 o x y).l (.slc id 0 2 5 2)):=by
 refine .mk (C:= [cx,cy]) ⟨?_,Or.inr ⟨id,0,2,true,_,rfl,hg,ho, ?_, ?_⟩⟩ (by intro i hi;simp[ids] at hi;subst hi;exact hT) rfl ?_
 ·intro c hc;simp at hc;rcases hc with rfl|rfl
  ·exact hx.len
  ·exact hy.len
 ·simp[hx.len,hy.len]
 ·simp[hx.len,hy.len]
  rw[List.take_of_length_le (by simp[hx.len,hy.len])]
 ·intro i z c h1 h2
  match i with
  |0=>cases h1;cases h2;exact hx
  |1=>cases h1;cases h2;exact hy
  |i+2=>simp at h1
section
variable {m0:NH} {L:List Tok} {vl:NV} {r:D4} {rest:List NV}
theorem BT (hc:RC m0 L vl r) {P:Rs->Ex×Rs} {d:Nat} (hst:∀s,St L s (P s).2) (hsz:Dn P) (hP:LO 152 m0 L vl r rest P d) {m:NH} (h0:Chg [] m0 m) {b1 b2:D4} (hb1:¬am m b1) (hb2:¬am m b2) (hb12:b1≠b2) (horm:am m r)
 {X:Ex} {S:Rs} {M:NH} {x:Ex} {s:Rs} {u:NV} (hd:RD M r vl s rest) (hx:RE M (fun i=>¬am m i/\i≠b1/\i≠b2) x (x.l u)) (hg:M.get b2=some (.cells true (x.l u))) (hob:am M b2) (hob1:am M b1) {z1:List NV} (hg1:M.get b1=some (.cells true z1)) (ha:s.a<=L.length) (hxs:s.e=0->x.sz<=s.a) (hxz:x.sz<=100000) (hC:Chg [r] m M) (hE:eT L P (L.length+1) x s=(X,S))
 {t:Tm} (g1:NT.get D4.e t=some (.ptr r 0)) (g2:NT.get D4.e.a t=some (ii d)) (g3:NT.get D4.e.f t=some (.ptr b1 0)) (g4:NT.get D4.e.a.a t=some (.ptr b2 0)) {Q:Out->Dyn->Prop}
 (hQ:∀t' M' u',NT.get D4.e.f t'=some (.ptr b1 0)->NT.get D4.e.a.a t'=some (.ptr b2 0)->RD M' r vl S rest->RE M' (fun i=>¬am m i/\i≠b1/\i≠b2) X (X.l u')->M'.get b2=some (.cells true (X.l u'))->am M' b2->am M' b1->M'.get b1=some (.cells true z1)->Chg [r] m M'->Q (.exit 0) ⟨ai [] t', [],none,M'⟩):
 W Tryz.prog S0 none o9.loop ⟨t, [],none,M⟩ Q:=by
 refine W.loop (fun k D=>∃t M x s u f,D=⟨t, [],none,M⟩/\NT.get D4.e t=some (.ptr r 0)/\NT.get D4.e.a t=some (ii d)/\NT.get D4.e.f t=some (.ptr b1 0)/\NT.get D4.e.a.a t=some (.ptr b2 0)/\RD M r vl s rest/\RE M (fun i=>¬am m i/\i≠b1/\i≠b2) x (x.l u)/\M.get b2=some (.cells true (x.l u))/\am M b2/\am M b1/\M.get b1=some (.cells true z1)/\s.a<=L.length/\(s.e=0->x.sz<=s.a)/\x.sz<=100000/\Chg [r] m M/\eT L P f x s=(X,S)/\L.length<f+s.a/\k=f) ?_ (L.length+1) _ ⟨t,M,x,s,u,L.length+1,rfl,g1,g2,g3,g4,hd,hx,hg,hob,hob1,hg1,ha,hxs,hxz,hC,hE,by omega,rfl⟩
 clear hd hx hg hob hob1 hg1 ha hxs hxz hC hE g1 g2 g3 g4
 rintro k D ⟨t,M,x,s,u,f,rfl,g1,g2,g3,g4,hd,hx,hg,hob,hob1,hg1,ha,hxs,hxz,hC,hE,hf,rfl⟩
 apply ao
 unfold o9
 change wp _ _ _ _ ⟨ai [] t, [],none,M⟩ _
 have hll:=hc.len
 obtain ⟨f,rfl⟩:∃f',k=f'+1:=⟨k - 1,by omega⟩
 rw[eT] at hE
 have hdg:=hd.g
 refine gv (fun D=>s.e=0/\∃t',D=⟨t', [],none,M⟩/\NT.get D4.e t'=some (.ptr r 0)/\NT.get D4.e.a t'=some (ii d)/\NT.get D4.e.f t'=some (.ptr b1 0)/\NT.get D4.e.a.a t'=some (.ptr b2 0)) (fun R hR=> ?_) ?_
 ·by_cases he:s.e=0
  ·simp (disch:=first|assumption|omega) only[go_sem,seval,g1,g2,g3,g4,hdg]
   exact hR _ ⟨he,_,rfl,by simp only[go_sem,seval,g1],by simp only[go_sem,seval,g2],by simp only[go_sem,seval,g3],by simp only[go_sem,seval,g4]⟩
  ·rw[Rj he] at hE
   injection hE with e1 e2
   subst e1 e2
   have hde:decide ((s.e:Int)=0)=false:=Rk (by omega)
   simp (disch:=first|assumption|omega) only[go_sem,seval,g1,g2,g3,g4,hdg,hde]
   exact hQ _ M u (by simp only[go_sem,seval,g3]) (by simp only[go_sem,seval,g4]) hd hx hg hob hob1 hg1 hC
 clear g1 g2 g3 g4
 rintro D ⟨he,t,rfl,g1,g2,g3,g4⟩
 rw[Ri (by omega)] at hE
 change wp _ _ _ _ ⟨ai [] t, [],none,M⟩ _
 rw[su]
 have hl:(Tok.l (aJ L s.a)).length=4:=rfl
 refine Qo (fun D=>∃t' M2,D=⟨t', [],none,M2⟩/\Chg [] M M2/\w9 (im (aJ L s.a))=true/\NT.get D4.e t'=some (.ptr r 0)/\NT.get D4.e.a t'=some (ii d)/\NT.get D4.e.f t'=some (.ptr b1 0)/\NT.get D4.e.a.a t'=some (.ptr b2 0)/\NT.get D4.e.a.c t'=some (u8 (im (aJ L s.a)))) (fun R hR=> ?_) ?_
 ·simp (disch:=first|assumption|omega) only[go_sem,seval,g1,g2,g3,g4,hdg]
  refine WF.use1H (iP hc (hc.chg h0 hC) hd) ?_
  intro M2 hC2
  generalize hT:aJ L s.a=T at hE hl hR
  have out:∀(l:List (AK×NO)) (k:Nat) (t':Tm),w9 (im T)=false->NT.get D4.e.f t'=some (.ptr b1 0)->NT.get D4.e.a.a t'=some (.ptr b2 0)->aB l= []->Q (.exit 0) ⟨ai [] t', [],none,hp l k M2⟩:=by
   intro l k t' hop q1 q2 ho
   rw[Rj hop] at hE
   injection hE with e1 e2
   subst e1 e2
   have hC3:=fN (k:=k) hC2 ho
   exact hQ _ _ u q1 q2 (hd.chg hC3 (by simp)) (hx.stays (lF hC3 _)) ((hC3.get hob (by simp)).trans hg) (hC3.old hob) (hC3.old hob1) ((hC3.get hob1 (by simp)).trans hg1) (hC.trans hC3 (by simp))
  by_cases h3:T.k=3
  ·by_cases h1:T.t.length=1
   ·obtain ⟨c,hc1⟩:=List.length_eq_one_iff.mp h1
    have hopc:im T=c:=by unfold im;rw[Rj ⟨h3,h1⟩,hc1];rfl
    have h00:T.t[0]? =some c:=by rw[hc1];rfl
    rw[hopc] at hR out
    by_cases hop:w9 c=true
    ·have hcs:=of_decide_eq_true hop
     rcases hcs with rfl|rfl|rfl|rfl|rfl|rfl<;>simp (disch:=first|assumption|omega|(simp only[aI]<;>omega)) only[go_sem,seval,g1,g2,g3,g4,hl,pS,vP,h3,h1,h00]<;>exact hR _ ⟨_,_,rfl,fN hC2 rfl,hop,by simp only[go_sem,seval,g1],by simp only[go_sem,seval,g2],by simp only[go_sem,seval,g3],by simp only[go_sem,seval,g4],by simp only[go_sem,seval]<;>rfl⟩
    ·have hop':w9 c=false:=by simpa using hop
     have hcs:=of_decide_eq_false hop'
     simp (disch:=first|assumption|omega|(simp only[aI]<;>omega)) only[go_sem,seval,g1,g2,g3,g4,hl,pS,vP,h3,h1,h00]
     exact out _ _ _ hop' (by simp only[go_sem,seval,g3]) (by simp only[go_sem,seval,g4]) rfl
   ·have hopc:im T=0:=by unfold im;rw[Ri (fun h=>h1 h.2)]
    rw[hopc] at hR out
    simp (disch:=first|assumption|omega|(simp only[aI]<;>omega)) only[go_sem,seval,g1,g2,g3,g4,hl,pS,vP,h3]
    exact out _ _ _ rfl (by simp only[go_sem,seval,g3]) (by simp only[go_sem,seval,g4]) rfl
  ·have hopc:im T=0:=by unfold im;rw[Ri (fun h=>h3 h.1)]
   rw[hopc] at hR out
   simp (disch:=first|assumption|omega|(simp only[aI]<;>omega)) only[go_sem,seval,g1,g2,g3,g4,hl,pS,vP]
   exact out _ _ _ rfl (by simp only[go_sem,seval,g3]) (by simp only[go_sem,seval,g4]) rfl
 clear g1 g2 g3 g4
 rintro D ⟨t,M2,rfl,hC2,hop,g1,g2,g3,g4,g5⟩
 have hlt:=rH hop
 rw[Ri (by simp[hop])] at hE
 generalize im (aJ L s.a)=o at hE g5
 change wp _ _ _ _ ⟨ai [] t, [],none,M2⟩ _
 rw[←aa M2]
 have hd2:=hd.chg hC2 (by simp)
 have hdg2:=hd2.g
 have hdo2:=hd2.o
 simp (disch:=first|assumption|omega|(simp only[aI]<;>omega)) only[go_sem,seval,g1,g2,g3,g4,g5,hdg2]
 generalize hM3:hp _ 0 M2=M3
 have hC3:Chg [r] M2 M3:=ba hM3 rfl
 have hd3:RD M3 r vl (aj s) rest:=⟨by rw[←hM3];exact (aF hdo2).trans ap,hC3.old hdo2⟩
 have hC03:Chg [r] m M3:=(hC.trans hC2 (by simp)).trans hC3 fun _ h _=>h
 have nb1:b1∉ [r]:=by simp;rintro rfl;exact hb1 horm
 have nb2:b2∉ [r]:=by simp;rintro rfl;exact hb2 horm
 have hCb:∀{M M':NH} {z:List NV} {b:D4},Chg [r] M M'->b∉ [r]->am M b->M.get b=some (.cells true z)->M'.get b=some (.cells true z)/\am M' b:=fun h hn ho hg=>⟨(h.get ho hn).trans hg,h.old ho⟩
 have hC23:Chg [r] M M3:=(hC2.weak (by simp)).trans hC3 fun _ h _=>h
 refine WF.use (hP (hc.chg h0 hC03) hd3 hlt) ?_
 rintro v4 M4 ⟨⟨w,rfl,hy4⟩,hd4,hC4⟩
 have hst4:=hst (aj s)
 have hsz4:=hsz (aj s)
 have hna:(aj s).a=s.a+1:=rfl
 have hlim:=hst4.lim hlt
 generalize hP4:P (aj s)=p4 at hy4 hd4 hE hst4 hsz4 hlim
 obtain ⟨y,s4⟩:=p4
 dsimp only at hy4 hd4 hE hst4 hsz4 hlim
 have hC24:Chg [r] M M4:=hC23.trans hC4 fun _ h _=>h
 obtain ⟨hg4,ho4⟩:=hCb hC24 nb2 hob hg
 obtain ⟨hg14,ho14⟩:=hCb hC24 nb1 hob1 hg1
 have hx4:RE M4 (fun i=>¬am m i/\i≠b1/\i≠b2) x (x.l u):=hx.stays (aX.of hC24 fun i hi hs=>by
  have hs:=one hs;subst hs;exact hi.1 horm)
 have hC04:Chg [r] m M4:=hC03.trans hC4 fun _ h _=>h
 have hy4':RE M4 (fun i=>¬am m i/\i≠b1/\i≠b2) y (y.l w):=hy4.weak fun i hi=>⟨fun h=>hi (hC03.old h),fun h=>hi (h▸hC23.old hob1),fun h=>hi (h▸hC23.old hob)⟩
 have hyl:(y.l w).length=5:=rfl
 have hxl:(x.l u).length=5:=rfl
 rw[←aa M4]
 by_cases he4:s4.e=0
 ·rw[Ri (by omega)] at hE
  have hys:=hsz4 he4
  have hdg4:=hd4.g
  have hdo4:=hd4.o
  have hyl':(y.l w).take 5=y.l w:=rfl
  have hxl':(x.l u).take 5=x.l u:=rfl
  have hxd:(y.l w).drop 5= []:=rfl
  simp (disch:=first|assumption|omega|(simp only[aI]<;>omega)) only[go_sem,seval,g1,g2,g3,g4,g5,hyl,hdg4,hg4,hxl,hyl',hxl']
  generalize hM5:hp _ 2 M4=M5
  have hC5:Chg [b2] M4 M5:=ba hM5 rfl
  have hg5:M5.get b2=some (.cells true ((x7 o x y).l (.slc (na M4 1) 0 2 5 2))):=gL ho4 hM5
  have hk5:M5.get (na M4 1)=some (.cells true (x.l u++y.l w)):=bz hM5
  have hko5:am M5 (na M4 1):=bw hM5 (by omega)
  have hTk:¬am m (na M4 1)/\na M4 1≠b1/\na M4 1≠b2:=⟨fun h=>az (hC04.old h),fun h=>ho14.ne 1 h.symm,fun h=>ho4.ne 1 h.symm⟩
  have hs5:aX (fun i=>¬am m i/\i≠b1/\i≠b2) M4 M5:=aX.of hC5 fun i hi hs=>by
   simp only[Rp,Rm,or_false] at hs;exact hi.2.2 hs
  have hxy5:RE M5 (fun i=>¬am m i/\i≠b1/\i≠b2) (x7 o x y) ((x7 o x y).l (.slc (na M4 1) 0 2 5 2)):=NP (hx4.stays hs5) (hy4'.stays hs5) hTk hk5 hko5
  have hosz:(x7 o x y).sz=1+(x.sz+(y.sz+0)):=by simp[Ex.sz,jV]
  refine WF.use1H (HZ (x7 o x y) hxy5 (fun i _ ho=>⟨rfl,ho⟩) (by omega)) ?_
  intro M6 hC6
  have hd5:RD M5 r vl s4 rest:=hd4.chg hC5 (by simp;rintro rfl;exact hb2 horm)
  have hd6:=hd5.chg hC6 (by simp)
  have hC56:Chg [b2] M4 M6:=hC5.trans hC6 (by simp)
  have hxy6:=hxy5.stays (lF hC6 _)
  have hg6:=(hC6.get (hC5.old ho4) (by simp)).trans hg5
  have ho6:=hC56.old ho4
  have ho16:=hC56.old ho14
  have hg16:=(hC56.get ho14 (by simpa using hb12)).trans hg14
  have hC06:Chg [r] m M6:=hC04.trans hC56 fun i hi ho=>by
   have hi:=one hi;subst hi;exact Rh ho hb2
  have he0:=hxs he
  by_cases hdp:30<(x7 o x y).depth
  ·rw[Rj hdp] at hE
   simp (disch:=first|assumption|omega) only[go_sem,seval,g1]
   rw[aa]
   refine WF.use1 (gT hd6 11) ?_
   rintro M7 ⟨hd7,hC7⟩
   obtain ⟨hg7,ho7⟩:=hCb hC7 nb2 ho6 hg6
   obtain ⟨hg17,ho17⟩:=hCb hC7 nb1 ho16 hg16
   have hxy7:=hxy6.stays (m':=M7) (aX.of hC7 fun i hi hs=>by
    have hs:=one hs;subst hs;exact hi.1 horm)
   have hfe:(bp 11 s4).e≠0/\(bp 11 s4).a=s4.a:=by unfold bp;rw[Rj he4];exact ⟨by show (11:Nat)≠0;omega,rfl⟩
   simp (disch:=first|assumption|omega) only[go_sem,seval]
   refine ⟨f,by omega,_,M7,x7 o x y,_,_,f,by rfl,by simp only[go_sem,seval,g1],by simp only[go_sem,seval,g2],by simp only[go_sem,seval,g3],by simp only[go_sem,seval,g4],hd7,hxy7,hg7,ho7,ho17,hg17,by rw[hfe.2];exact hlim,fun h=>Rh h hfe.1,by omega,hC06.trans hC7 fun _ h _=>h,hE, ?_,rfl⟩
   have:=hst4.le
   rw[hfe.2];omega
  ·rw[Ri hdp] at hE
   simp (disch:=first|assumption|omega) only[go_sem,seval,g1]
   refine ⟨f,by omega,_,M6,x7 o x y,_,_,f,by rw[aa],by simp only[go_sem,seval,g1],by simp only[go_sem,seval,g2],by simp only[go_sem,seval,g3],by simp only[go_sem,seval,g4],hd6,hxy6,hg6,ho6,ho16,hg16,hlim,fun h=>by omega,by omega,hC06,hE, ?_,rfl⟩
   have:=hst4.le
   omega
 ·rw[Rj he4] at hE
  injection hE with e1 e2
  subst e1 e2
  have hdg4:=hd4.g
  have hdo4:=hd4.o
  simp (disch:=first|assumption|omega|(simp only[aI]<;>omega)) only[go_sem,seval,g1,g2,g3,g4,g5,hyl,hdg4]
  generalize hM5:hp _ 1 M4=M5
  have hC5:Chg [] M4 M5:=ba hM5 rfl
  exact hQ _ M5 u (by simp only[go_sem,seval,g3]) (by simp only[go_sem,seval,g4]) (hd4.chg hC5 (by simp)) (hx4.stays (lF hC5 _)) ((hC5.get ho4 (by simp)).trans hg4) (hC5.old ho4) (hC5.old ho14) ((hC5.get ho14 (by simp)).trans hg14) (hC04.trans hC5 (by simp))
end
section
variable {m0:NH} {L:List Tok} {vl:NV} {r:D4} {rest:List NV}
theorem Ay (hc:RC m0 L vl r) {E:Rs->Ex×Rs} {d:Nat} (hst:∀s,St L s (E s).2) (hP:LO 152 m0 L vl r rest (cN L E d) d) (hsz:Dn (cN L E d)) (hsz1:∀s,s.a<=L.length->(cN L E d s).1.sz<=100000):LO 141 m0 L vl r rest (iB L E d) d:=by
 intro m s h0 hd ha
 refine WF.ex fun K hK=> ?_
 refine WF.of_wpG (fun _=>rfl) sT (L:= [(.a .e,ii d),(.e,.ptr r 0)]) rfl ?_
 unfold EC
 have hll:=hc.len
 simp (disch:=first|assumption|omega) only[go_sem,seval]
 generalize hM1:hp _ 1 m=M1
 have hC1:Chg [] m M1:=ba hM1 rfl
 have hg1:M1.get (na m 0)=some (.cells true [ii 0,u64 0,u8 0,.str [],.nils]):=bz hM1
 have ho1:am M1 (na m 0):=bw hM1 (by omega)
 have hr0:na m 0≠r:=fun e=>hd.o.ne 0 e.symm
 have hd1:=hd.chg hC1 (by simp)
 refine WF.useH (hP (h0.trans hC1 (by simp)) hd1 ha) ?_
 rintro v2 M2 ⟨⟨u,rfl,hx2⟩,hd2,hC2⟩
 have hst2:=ip (L:=L) (d:=d) hst s
 have hlim:=hst2.lim ha
 have hsz2:=hsz s
 have hszz:=hsz1 s ha
 have hXS:eT L (cN L E d) (L.length+1) (cN L E d s).1 (cN L E d s).2=((iB L E d s).1,(iB L E d s).2):=rfl
 generalize (iB L E d s).1=X at hXS hK
 generalize (iB L E d s).2=S at hXS hK
 generalize cN L E d s=p at hx2 hd2 hlim hsz2 hszz hXS
 obtain ⟨x,s2⟩:=p
 dsimp only at hx2 hd2 hlim hsz2 hszz hXS
 have hg2:=(hC2.get ho1 (by simpa using hr0)).trans hg1
 have ho2:=hC2.old ho1
 have hxl:(x.l u).length=5:=rfl
 have hC02:Chg [r] m M2:=(hC1.weak (by simp)).trans hC2 fun _ h _=>h
 simp (disch:=first|assumption|omega|(simp only[aI]<;>omega)) only[go_sem,seval,hxl]
 generalize hM3:hp _ 1 M2=M3
 have hC3:Chg [] M2 M3:=ba hM3 rfl
 have hg3:M3.get (na M2 0)=some (.cells true (x.l u)):=bz hM3
 have ho3:am M3 (na M2 0):=bw hM3 (by omega)
 have hx3:RE M3 (fun i=>¬am m i/\i≠na m 0/\i≠na M2 0) x (x.l u):=(hx2.old.stays (lF hC3 _)).weak fun i hi=>⟨fun h=>hi.1 (hC1.old h),fun h=>hi.1 (h▸ho1),fun h=>az (h▸hi.2)⟩
 refine BT hc (ip hst) hsz hP h0 (b1:=na m 0) (b2:=na M2 0) az (fun h=>az (hC02.old h)) (fun e=>ho2.ne 0 e) hd.o (hd2.chg hC3 (by simp)) hx3 hg3 ho3 (hC3.old ho2) ((hC3.get ho2 (by simp)).trans hg2) hlim (fun h=>by have:=hsz2 h;omega) hszz (hC02.trans hC3 (by simp)) hXS (by simp only[go_sem,seval]) (by simp only[go_sem,seval]) (by simp only[go_sem,seval]) (by simp only[go_sem,seval]) ?_
 intro t' M' u' q1 q2 q3 q4 q5 q6 q7 q8 q9
 have hXl:(X.l u').length=5:=rfl
 have hXl':(X.l u').take 5=X.l u':=rfl
 rw[←aa M']
 simp (disch:=first|assumption|omega|(simp only[aI]<;>omega)) only[go_sem,seval,q1,q2,q5,q8,hXl,hXl']
 generalize hM5:hp _ 0 M'=M5
 have hC5:Chg [na m 0] M' M5:=ba hM5 rfl
 have hx5:RE M5 (oT m) X (X.l u'):=(q4.stays (m':=M5) (aX.of hC5 fun i hi hs=>by
  simp only[Rp,Rm,or_false] at hs;exact hi.2.1 hs)).weak fun i hi=>hi.1
 exact hK _ _ ⟨⟨u',rfl,hx5⟩,q3.chg hC5 (by simpa using hr0.symm),q9.trans hC5 fun i hi ho=>by
  have hi:=one hi;subst hi;exact Rh ho az⟩
theorem Hs {P:Rs->Ex×Rs} (hst:∀s,St L s (P s).2) (hsz:Dn P):∀(f:Nat) (x:Ex) (s:Rs),s.a<=L.length->(s.e=0->x.sz<=s.a)->x.sz<=L.length+1->(eT L P f x s).1.sz<=L.length+1:=by
 intro f
 induction f with
 |zero=>intro x s _ _ h;exact h
 |succ f ih=>
  intro x s ha h1 h2
  rw[eT]
  split
  ·exact h2
  ·split
   ·exact h2
   ·rename_i q1 q2
    have hlt:=rH (L:=L) (a:=s.a) (by simpa using q2)
    have h3:=(hst (aj s)).lim hlt
    split
    ·exact h2
    ·rename_i q3
     have h5:=hsz (aj s) (by omega)
     have h6:=h1 (by omega)
     have h7:(aj s).a=s.a+1:=rfl
     have h8:(x7 (im (aJ L s.a)) x (P (aj s)).1).sz=1+(x.sz+((P (aj s)).1.sz+0)):=by simp[Ex.sz,jV]
     have hfa:∀e,(bp e (P (aj s)).2).a=(P (aj s)).2.a:=fun e=>by unfold bp;split<;>rfl
     refine ih _ _ ?_ ?_ (by omega)
     ·split
      ·rw[hfa];exact h3
      ·exact h3
     ·split
      ·rw[hfa];omega
      ·omega
theorem uQ {E:Rs->Ex×Rs} {d:Nat} (hst:∀s,St L s (E s).2) (hsz:Dn (cN L E d)) (hp1:∀s,s.a<=L.length->(cN L E d s).1.sz<=L.length+1) (s:Rs) (ha:s.a<=L.length):(iB L E d s).1.sz<=L.length+1:=
 Hs (ip hst) hsz _ _ _ ((ip (L:=L) (d:=d) hst s).lim ha) (fun h=>by have:=hsz s h;omega) (hp1 s ha)
theorem nj {E:Rs->Ex×Rs} {d:Nat} (hE:∀s,s.a<=L.length->(E s).1.sz<=L.length+1) (s:Rs) (ha:s.a<=L.length):(cN L E d s).1.sz<=L.length+1:=by
 unfold cN
 split
 ·simp[zE,Ex.sz,jV]
 ·split
  ·simp[zE,Ex.sz,jV]
  ·split
   ·simp[Ex.sz,jV]
   ·split
    ·simp[Ex.sz,jV]
    ·split
     ·rename_i h;exact hE _ (bG h).2
     ·simp[zE,Ex.sz,jV]
theorem Dv:∀(n:Nat) (s:Rs),s.a<=L.length->(iZ L n s).1.sz<=L.length+1:=by
 intro n
 induction n with
 |zero=>exact fun s ha=>uQ (fun s=>St.refl _ s) (oJ L _) (nj fun s _=>by simp[zE,Ex.sz,jV]) s ha
 |succ n ih=>exact fun s ha=>uQ (cq L n) (sc (cq L n) (rT L n)) (nj ih) s ha
theorem L9 (hc:RC m0 L vl r):∀n,n<=30->LO 141 m0 L vl r rest (iZ L n) (30 - n):=by
 have hll:=hc.len
 intro n
 induction n with
 |zero=>
  intro _
  have e2:iZ L 0=iB L (fun s=>(zE,s)) 30:=by funext s;rfl
  rw[e2]
  intro m s
  exact Ay (E:=fun s=>(zE,s)) hc (fun s=>St.refl _ s) (CX hc (fun s=>St.refl _ s) (fun h=>by omega) (by omega)) (oJ L _) fun s ha=>by have:=nj (L:=L) (E:=fun s=>(zE,s)) (d:=30) (fun s _=>by simp[zE,Ex.sz,jV]) s ha;omega
 |succ n ih=>
  intro hn
  have e:30 - (n+1)=29 - n:=by omega
  have h1:29 - n+1=30 - n:=by omega
  have e2:iZ L (n+1)=iB L (iZ L n) (29 - n):=by funext s;rfl
  rw[e,e2]
  intro m s
  exact Ay hc (cq L n) (CX hc (cq L n) (fun _=>by rw[h1];exact ih (by omega)) (by omega)) (sc (cq L n) (rT L n)) fun s ha=>by have:=nj (d:=29 - n) (Dv n) s ha;omega
end
section
variable (L:List Tok)
abbrev ek (s:Rs):Ex×Rs:=iZ L 30 s
def bm (s:Rs):List Nat×Ex×Rs:=if aY L [91] (bc L s).2=true then ((bc L s).1,(ek L (aj (bc L s).2)).1,aZ L [93] (ek L (aj (bc L s).2)).2) else ((bc L s).1,zE,(bc L s).2)
def vg (x:Stm) (s:Rs):Stm×Rs:=(x,aZ L [59] s)
def OC (p:Int) (s:Rs):Stm×Rs:=vg L (.mk 0 p (bc L s).1 [] zE (ek L (bc L s).2).1 zE [] []) (ek L (bc L s).2).2
def IM (p:Int) (s:Rs):Stm×Rs:=vg L (.mk 1 p (bc L s).1 (bm L (bc L s).2).1 (bm L (bc L s).2).2.1 zE zE [] []) (bm L (bc L s).2).2.2
def EG (p:Int) (s:Rs):Stm×Rs:=vg L (.mk 2 p [] (bm L s).1 (bm L s).2.1 (ek L (bm L s).2.2).1 zE [] []) (ek L (bm L s).2.2).2
def Ny (p:Int) (s:Rs):Stm×Rs:=vg L (.mk 3 p (bc L s).1 (bm L (bc L s).2).1 (bm L (bc L s).2).2.1 (ek L (bm L (bc L s).2).2.2).1 (ek L (ek L (bm L (bc L s).2).2.2).2).1 [] []) (ek L (ek L (bm L (bc L s).2).2.2).2).2
def Oo (p:Int) (s:Rs):Stm×Rs:=vg L (.mk 5 p [] [] zE (ek L s).1 zE [] []) (ek L s).2
def Jc (B:Rs->List Stm×Rs) (p:Int) (s:Rs):Stm×Rs:=
 if aY L [101,108,115,101] (B (ek L s).2).2=true then (.mk 6 p [] [] zE (ek L s).1 zE (B (ek L s).2).1 (B (aj (B (ek L s).2).2)).1,(B (aj (B (ek L s).2).2)).2)
 else (.mk 6 p [] [] zE (ek L s).1 zE (B (ek L s).2).1 [],(B (ek L s).2).2)
def E9 (B:Rs->List Stm×Rs) (p:Int) (s:Rs):Stm×Rs:=(.mk 7 p [] [] zE (ek L s).1 zE (B (ek L s).2).1 [],(B (ek L s).2).2)
def cJ (B:Rs->List Stm×Rs) (s:Rs):Stm×Rs:=
 if aY L [115,101,116] s=true then OC L (aJ L s.a).p (aj s)
 else if aY L [108,111,97,100] s=true then IM L (aJ L s.a).p (aj s)
 else if aY L [115,116,111,114,101] s=true then EG L (aJ L s.a).p (aj s)
 else if aY L [99,97,115] s=true then Ny L (aJ L s.a).p (aj s)
 else if aY L [102,101,110,99,101] s=true then vg L (.mk 4 (aJ L s.a).p [] [] zE zE zE [] []) (aj s)
 else if aY L [111,117,116] s=true then Oo L (aJ L s.a).p (aj s)
 else if aY L [105,102] s=true then Jc L B (aJ L s.a).p (aj s)
 else if aY L [119,104,105,108,101] s=true then E9 L B (aJ L s.a).p (aj s)
 else vg L (.mk 0 (aJ L s.a).p [] [] zE zE zE [] []) (bp 2 s)
def fI (S:Rs->Stm×Rs):Nat->List Stm->Rs->List Stm×Rs
 |0,l,s=>(l,s)
 |f+1,l,s=>if s.e≠0 then (l,s) else if aY L [125] s=true then (l,aj s) else fI S f (l++ [(S s).1]) (S s).2
def dI (d:Nat) (s:Rs):Rs:=if s.e=0/\29<d/\(aJ L s.a).k=3/\(aJ L s.a).t= [123] then bp 11 s else s
def iI (S:Rs->Stm×Rs) (d:Nat) (s:Rs):List Stm×Rs:=fI L S (L.length+1) [] (aZ L [123] (dI L d s))
def du:Nat->Rs->List Stm×Rs
 |0,s=>iI L (fun s=>(.mk 0 0 [] [] zE zE zE [] [],bp 2 s)) 30 s
 |n+1,s=>iI L (cJ L (du n)) (29 - n) s
end
section
variable {m0:NH} {L:List Tok} {vl:NV} {r:D4} {rest:List NV}
theorem eH (s:Rs):St L s (bm L s).2.2:=by
 unfold bm
 split
 ·rename_i h;exact (((cC L s).trans (ei h)).trans (cq L 30 _)).trans (bS _ _ _)
 ·exact cC L s
theorem I4 (hc:RC m0 L vl r):LO 141 m0 L vl r rest (ek L) 0:=by
 intro m s
 exact L9 hc 30 (Nat.le_refl _)
theorem qN (hc:RC m0 L vl r) {m:NH} {s:Rs} (h0:Chg [] m0 m) (hd:RD m r vl s rest) (ha:s.a<=L.length) {pb:D4} (hpr:pb≠r) (hop:am m pb) (hnp:¬am m0 pb) {c0 c1 c2 c3:NV} {c:List NV} (hl:c.length=12)
 (hg:m.get pb=some (.cells true (c0::c1::c2::c3::ii 0::u64 0::u8 0:: .str []:: .nils::c))):
 ∃m',aS Tryz.prog S0 142 [.ptr r 0,.ptr pb 0] m (.tup []) m'/\∃u,m'.get pb=some (.cells true (c0::c1::c2:: .str (bm L s).1::((bm L s).2.1.l u++c)))/\RE m' (oT m) (bm L s).2.1 ((bm L s).2.1.l u)/\RD m' r vl (bm L s).2.2 rest/\Chg [r,pb] m m':=by
 refine WF.ex1 fun K hK=> ?_
 refine WF.of_wpG (fun _=>rfl) t7 (L:= [(.a .e,.ptr pb 0),(.e,.ptr r 0)]) rfl ?_
 unfold Ea
 have hll:=hc.len
 have hrp:r≠pb:=fun e=>hpr e.symm
 simp (disch:=first|assumption|omega) only[go_sem,seval,aa]
 refine WF.use1H (md hc h0 hd (by omega)) ?_
 rintro M1 ⟨hd1,hC1⟩
 have hst1:=cC L s
 unfold bm at hK
 generalize bc L s=q at hK hd1 hst1
 obtain ⟨n,s1⟩:=q
 dsimp only at hK hd1 hst1
 have hg1:=(hC1.get hop (by simpa using hpr)).trans hg
 have ho1:=hC1.old hop
 simp (disch:=first|assumption|omega|(simp only[aI]<;>omega)) only[go_sem,seval,hg1]
 generalize hM2:hp _ 0 M1=M2
 have hC2:Chg [pb] M1 M2:=ba hM2 rfl
 have hg2:M2.get pb=some (.cells true (c0::c1::c2:: .str n::ii 0::u64 0::u8 0:: .str []:: .nils::c)):=gL ho1 hM2
 have ho2:=hC2.old ho1
 have hd2:=hd1.chg hC2 (by simpa using hrp)
 have hC02:Chg [r,pb] m M2:=(hC1.weak (by simp)).trans hC2 (by simp)
 have hlim:=hst1.lim ha
 have hbase:∀{M},Chg [r,pb] m M->Chg [] m0 M:=fun h=>h0.trans h fun i hi ho=>by
  simp only[Rp,Rm,or_false] at hi
  rcases hi with rfl|rfl
  ·exact Rh ho hc.no
  ·exact Rh ho hnp
 refine WF.use1H (dp hc (hbase hC02) hd2 [91] (by simp) (by omega)) ?_
 rintro M3 ⟨hd3,hC3⟩
 have hg3:=(hC3.get ho2 (by simpa using hpr)).trans hg2
 have ho3:=hC3.old ho2
 have hC03:Chg [r,pb] m M3:=hC02.trans hC3 (by intro i hi _;simp at hi ⊢;exact Or.inl hi)
 cases hb:aY L [91] s1 with
 |true=>
  rw[hb,Rj rfl] at hK hd3
  have hlt:=(bG hb).2
  simp (disch:=first|assumption|omega) only[go_sem,seval,aa]
  refine WF.useH (I4 hc (hbase hC03) hd3 hlt) ?_
  rintro v4 M4 ⟨⟨u,rfl,hx4⟩,hd4,hC4⟩
  have hst4:=cq L 30 (aj s1)
  have hlim4:=hst4.lim hlt
  dsimp only at hK
  generalize hq:ek L (aj s1)=q at hK hx4 hd4
  have hq':iZ L 30 (aj s1)=q:=hq
  rw[hq'] at hlim4
  obtain ⟨x,s4⟩:=q
  dsimp only at hK hx4 hd4 hlim4
  have hg4:=(hC4.get ho3 (by simpa using hpr)).trans hg3
  have ho4:=hC4.old ho3
  have hxl:(x.l u).length=5:=rfl
  simp (disch:=first|assumption|omega|(simp only[aI]<;>omega)) only[go_sem,seval,hg4,hxl,hl]
  generalize hM5:hp _ 0 M4=M5
  have hC5:Chg [pb] M4 M5:=ba hM5 rfl
  have hg5:M5.get pb=some (.cells true (c0::c1::c2:: .str n::(x.l u++c))):=gL ho4 hM5
  have ho5:=hC5.old ho4
  have hC04:Chg [r,pb] m M4:=hC03.trans hC4 (by intro i hi _;simp at hi ⊢;exact Or.inl hi)
  have hC05:Chg [r,pb] m M5:=hC04.trans hC5 (by simp)
  refine WF.use1H (gi hc (hbase hC05) (hd4.chg hC5 (by simpa using hrp)) [93] (by simp) (by omega)) ?_
  rintro M6 ⟨hd6,hC6⟩
  simp (disch:=first|assumption|omega) only[go_sem,seval,aa]
  refine hK _ ⟨u,(hC6.get ho5 (by simpa using hpr)).trans hg5, ?_,hd6,hC05.trans hC6 (by intro i hi _;simp at hi ⊢;exact Or.inl hi)⟩
  refine ((hx4.chg hC5 ?_).chg hC6 ?_).new fun i hi=>hC03.old hi
  ·intro i hi;have hi:=one hi;subst hi;exact ho3
  ·intro i hi;have hi:=one hi;subst hi;exact hd3.o
 |false=>
  rw[hb,Ri Bool.false_ne_true] at hK hd3
  simp (disch:=first|assumption|omega) only[go_sem,seval,aa]
  exact hK _ ⟨.nils,hg3,BK _ _ 0 0 0 [],hd3,hC03⟩
end
def QN (m0:NH) (L:List Tok) (vl:NV) (r:D4) (rest:List NV) (S:Rs->Stm×Rs) (d:Nat):Prop:=∀{m:NH} {s:Rs},Chg [] m0 m->RD m r vl s rest->s.a<=L.length->
 ∃v m',aS Tryz.prog S0 112 [.ptr r 0,ii d] m v m'/\(∃w,v= .agg ((S s).1.l w)/\RS m' (oT m) (S s).1 ((S s).1.l w))/\RD m' r vl (S s).2 rest/\Chg [r] m m'
def QG (m0:NH) (L:List Tok) (vl:NV) (r:D4) (rest:List NV) (B:Rs->List Stm×Rs) (d:Nat):Prop:=∀{m:NH} {s:Rs},Chg [] m0 m->RD m r vl s rest->s.a<=L.length->
 ∃v m',aS Tryz.prog S0 71 [.ptr r 0,ii d] m v m'/\(∃C,SS m' (oT m) v (B s).1 C)/\RD m' r vl (B s).2 rest/\Chg [r] m m'
section
variable {m0:NH} {L:List Tok} {vl:NV} {r:D4} {rest:List NV}
theorem kO (d:Nat) (s:Rs):St L s (dI L d s):=by
 unfold dI
 split
 ·exact b8 _ _ _
 ·exact St.refl _ _
theorem BM (hc:RC m0 L vl r) {S:Rs->Stm×Rs} {d:Nat} (hst:∀s,St L s (S s).2) (hpr:∀s,s.e=0->s.a<(S s).2.a∨(S s).2.e≠0) (hS:d<=29->QN m0 L vl r rest S d) (hd29:∀s:Rs,d=30->True) {m:NH} (h0:Chg [] m0 m) (horm:am m r)
 {X:List Stm} {Z:Rs} {M:NH} {s:Rs} (hde:s.e≠0∨d<=29) (hd:RD M r vl s rest) (ha:s.a<=L.length) (hC:Chg [r] m M) (hE:fI L S (L.length+1) [] s=(X,Z))
 {t:Tm} (g1:NT.get D4.e t=some (.ptr r 0)) (g2:NT.get D4.e.a t=some (ii d)) (g3:NT.get D4.e.a.a t=some .nils) {Q:Out->Dyn->Prop}
 (hQ:∀t' M' v C,NT.get D4.e.a.a t'=some v->RD M' r vl Z rest->SS M' (oT m) v X C->Chg [r] m M'->Q (.exit 0) ⟨ai [] t', [],none,M'⟩):
 W Tryz.prog S0 none sn.loop ⟨t, [],none,M⟩ Q:=by
 refine W.loop (fun k D=>∃t M l s v C,D=⟨t, [],none,M⟩/\NT.get D4.e t=some (.ptr r 0)/\NT.get D4.e.a t=some (ii d)/\NT.get D4.e.a.a t=some v/\(s.e≠0∨d<=29)/\RD M r vl s rest/\aU m M v 21 C/\C.length=l.length/\(∀(j:Nat) (x:Stm) (c:List NV),l[j]? =some x->C[j]? =some c->RS M (fun i=>¬am m i/\i∉ids v) x c)/\s.a<=L.length/\Chg [r] m M/\fI L S k l s=(X,Z)/\(L.length<k+s.a∨s.e≠0)/\l.length+k<=L.length+1) ?_ (L.length+1) _ ⟨t,M, [],s,.nils, [],rfl,g1,g2,g3,hde,hd,aU.nil,rfl,by simp,ha,hC,hE,Or.inl (by omega),by simp⟩
 clear hde hd ha hC hE g1 g2 g3
 rintro k D ⟨t,M,l,s,v,C,rfl,g1,g2,g3,hde,hd,hv,hcl,hR,ha,hC,hE,hf,hlk⟩
 apply ao
 unfold sn
 change wp _ _ _ _ ⟨ai [] t, [],none,M⟩ _
 have hll:=hc.len
 have hdg:=hd.g
 by_cases he:s.e=0
 ·obtain ⟨f,rfl⟩:∃f',k=f'+1:=⟨k - 1,by rcases hf with h|h<;>omega⟩
  rw[fI,Ri (by omega)] at hE
  simp (disch:=first|assumption|omega) only[go_sem,seval,g1,g2,g3,hdg]
  refine WF.use1H (dp hc (hc.chg h0 hC) hd [125] (by simp) (by omega)) ?_
  rintro M2 ⟨hd2,hC2⟩
  have hrv:∀i∈ids v,i∉ [r]:=fun i hi h=>by
   have h:=one h;subst h;exact hv.new _ hi horm
  have hv2:=hv.chg hC2 hrv
  have hC02:Chg [r] m M2:=hC.trans hC2 fun _ h _=>h
  have hst2:aX (fun i=>¬am m i/\i∉ids v) M M2:=aX.of hC2 fun i hi hs=>by
   have hs:=one hs;subst hs;exact hi.1 horm
  cases hb:aY L [125] s with
  |true=>
   rw[hb,Rj rfl] at hE hd2
   injection hE with e1 e2
   subst e1 e2
   simp (disch:=first|assumption|omega) only[go_sem,seval,g1,g2,g3,aa]
   exact hQ _ M2 v C (by simp only[go_sem,seval,g3]) hd2 ⟨hv2.sl,fun i hi=>hv2.new i hi,hcl,fun j x c h1 h2=>((hR j x c h1 h2).stays hst2).weak fun i hi=>hi.1⟩ hC02
  |false=>
   rw[hb,Ri Bool.false_ne_true] at hE hd2
   simp (disch:=first|assumption|omega) only[go_sem,seval,g1,g2,g3,aa]
   refine WF.useH (hS (by omega) (hc.chg h0 hC02) hd2 ha) ?_
   rintro v3 M3 ⟨⟨w,rfl,hx3⟩,hd3,hC3⟩
   have hlim:=(hst s).lim ha
   have hpr':=hpr s he
   generalize S s=q at hE hx3 hd3 hlim hpr'
   obtain ⟨x,s3⟩:=q
   dsimp only at hE hx3 hd3 hlim hpr'
   have hxl:(x.l w).length=21:=rfl
   have hxl':(x.l w).take 21=x.l w:=rfl
   simp (disch:=first|assumption|omega|(simp only[aI]<;>omega)) only[go_sem,seval,g1,g2,g3,hxl]
   have hC4:Chg [] M3 (hp [(.n 0,.cells true (x.l w))] 1 M3):=aC rfl
   have hv3:=hv2.chg hC3 hrv
   have hC03:Chg [r] m M3:=hC02.trans hC3 fun _ h _=>h
   refine fm (cs:=x.l w) (hv3.chg hC4 fun _ _=>by simp) bo (bv (by omega)) hxl (fun i hi=>hC4.old (hC03.old hi)) (by omega) (by omega) ?_
   intro v5 M5 hv5 hC5 hF5
   generalize hM4:hp [(.n 0,.cells true (x.l w))] 1 M3=M4 at hC4 hC5 hF5
   have hC34:Chg [r] M2 M4:=hC3.trans hC4 (by simp)
   have hd5:RD M5 r vl s3 rest:=(hd3.chg hC4 (by simp)).chg hC5 fun h=>hv.new _ h horm
   have hC05:Chg [r] m M5:=(hC02.trans hC34 fun _ h _=>h).trans hC5 fun i hi ho=>Rh ho (hv.new i hi)
   have hlen5:(l++ [x]).length=l.length+1:=by simp
   simp (disch:=first|assumption|omega) only[go_sem,seval,g1,g2,g3]
   refine ⟨f,by omega,_,M5,l++ [x],s3,v5,C++ [x.l w],by rfl,by simp only[go_sem,seval,g1],by simp only[go_sem,seval,g2],by simp only[go_sem,seval], ?_,hd5,hv5,by simp[hcl], ?_,hlim,hC05,hE, ?_,by omega⟩
   ·rcases hde with h|h
    ·exact Rh he h
    ·exact Or.inr h
   ·have hold:∀(j:Nat) (y:Stm) (c:List NV),l[j]? =some y->C[j]? =some c->RS M5 (fun i=>¬am m i/\i∉ids v5) y c:=fun j y c h1 h2=>by
     have a1:=((hR j y c h1 h2).stays hst2).stays (m':=M4) (aX.of hC34 fun i hi hs=>by
      have hs:=one hs;subst hs;exact hi.1 horm)
     have a2:=a1.old.stays (m':=M5) (aX.of hC5 fun i hi hs=>hi.1.2 hs)
     exact a2.weak fun i hi=>⟨hi.1.1,fun h=>(hF5 i h).elim hi.1.2 fun q=>q hi.2⟩
    have hnew:RS M5 (fun i=>¬am m i/\i∉ids v5) x (x.l w):=by
     have a1:RS M4 (oT M2) x (x.l w):=hx3.chg hC4 (by simp)
     have a2:=a1.old.stays (m':=M5) (aX.of hC5 fun i hi hs=>hi.1 (hv2.sl.old i hs))
     exact a2.weak fun i hi=>⟨fun h=>hi.1 (hC02.old h),fun h=>(hF5 i h).elim (fun q=>hi.1 (hv2.sl.old i q)) fun q=>q hi.2⟩
    intro j y c h1 h2
    rcases Nat.lt_or_ge j l.length with h|h
    ·rw[List.getElem?_append_left h] at h1
     rw[List.getElem?_append_left (by omega)] at h2
     exact hold j y c h1 h2
    ·rw[List.getElem?_append_right h] at h1
     rw[List.getElem?_append_right (by omega),hcl] at h2
     cases hj:j - l.length with
     |zero=>rw[hj] at h1 h2;cases h1;cases h2;exact hnew
     |succ n=>rw[hj] at h1;simp at h1
   ·rcases hpr' with h|h
    ·left;rcases hf with q|q<;>omega
    ·exact Or.inr h
 ·have hde':decide ((s.e:Int)=0)=false:=Rk (by omega)
  have hE':(l,s)=(X,Z):=by
   cases k with
   |zero=>exact hE
   |succ k=>rw[fI,Rj he] at hE;exact hE
  injection hE' with e1 e2
  subst e1 e2
  simp (disch:=first|assumption|omega) only[go_sem,seval,g1,g2,g3,hdg,hde']
  exact hQ _ M v C (by simp only[go_sem,seval,g3]) hd ⟨hv.sl,fun i hi=>hv.new i hi,hcl,fun j x c h1 h2=>(hR j x c h1 h2).weak fun i hi=>hi.1⟩ hC
theorem Av (hc:RC m0 L vl r) {S:Rs->Stm×Rs} {d:Nat} (hst:∀s,St L s (S s).2) (hpr:∀s,s.e=0->s.a<(S s).2.a∨(S s).2.e≠0) (hS:d<=29->QN m0 L vl r rest S d):QG m0 L vl r rest (iI L S d) d:=by
 intro m s h0 hd ha
 refine WF.ex fun K hK=> ?_
 refine WF.of_wpG (fun _=>rfl) AL (L:= [(.a .e,ii d),(.e,.ptr r 0)]) rfl ?_
 unfold Mj
 have hll:=hc.len
 have hdg:=hd.g
 refine QD (fun D=>D=⟨ai [(D4.e.a.a,.nils),(D4.e.f,.nils),(D4.e.a,ii d),(D4.e,.ptr r 0)] .leaf, [],none,m⟩) (fun R hR=> ?_) ?_
 ·simp (disch:=first|assumption|omega) only[go_sem,seval,aa]
  exact hR _ rfl
 rintro D rfl
 refine gv (fun D=>∃t M,D=⟨t, [],none,M⟩/\NT.get D4.e t=some (.ptr r 0)/\NT.get D4.e.a t=some (ii d)/\NT.get D4.e.a.a t=some .nils/\RD M r vl (dI L d s) rest/\Chg [r] m M) (fun R hR=> ?_) ?_
 ·have no:∀(t:Tm) (M:NH),NT.get D4.e t=some (.ptr r 0)->NT.get D4.e.a t=some (ii d)->NT.get D4.e.a.a t=some .nils->dI L d s=s->Chg [] m M->R ⟨t, [],none,M⟩:=fun t M q1 q2 q3 q4 q5=>hR _ ⟨t,M,rfl,q1,q2,q3,by rw[q4];exact hd.chg q5 (by simp),q5.weak (by simp)⟩
  by_cases he:s.e=0
  ·by_cases h29:29<d
   ·obtain ⟨M1,hr1,hC1⟩:=iP hc h0 hd
    have hd1:=hd.chg hC1 (by simp)
    obtain ⟨M2,hr2,hC2⟩:=iP hc (h0.trans hC1 (by simp)) hd1
    have hd2:=hd1.chg hC2 (by simp)
    have hl0:(aJ L s.a).l[0]? =some (ii (aJ L s.a).k):=rfl
    have hl1:(aJ L s.a).l[1]? =some (.str (aJ L s.a).t):=rfl
    by_cases hk:(aJ L s.a).k=3
    ·by_cases ht:(aJ L s.a).t= [123]
     ·simp (disch:=first|assumption|omega) only[go_sem,seval,hdg,hr1.wf',hr2.wf',hl0,hl1]
      refine WF.use1 (gT hd2 11) ?_
      rintro M3 ⟨hd3,hC3⟩
      simp (disch:=first|assumption|omega) only[go_sem,seval]
      refine hR _ ⟨_,M3,rfl,by simp only[go_sem,seval],by simp only[go_sem,seval],by simp only[go_sem,seval], ?_,((hC1.trans hC2 (by simp)).weak (by simp)).trans hC3 fun _ h _=>h⟩
      rw[dI,Rj ⟨he,h29,hk,ht⟩];exact hd3
     ·simp (disch:=first|assumption|omega) only[go_sem,seval,hdg,hr1.wf',hr2.wf',hl0,hl1]
      exact no _ _ (by simp only[go_sem,seval]) (by simp only[go_sem,seval]) (by simp only[go_sem,seval]) (by rw[dI,Ri (fun h=>ht h.2.2.2)]) (hC1.trans hC2 (by simp))
    ·simp (disch:=first|assumption|omega) only[go_sem,seval,hdg,hr1.wf',hr2.wf',hl0,hl1]
     exact no _ _ (by simp only[go_sem,seval]) (by simp only[go_sem,seval]) (by simp only[go_sem,seval]) (by rw[dI,Ri (fun h=>hk h.2.2.1)]) hC1
   ·simp (disch:=first|assumption|omega) only[go_sem,seval,hdg]
    exact no _ _ (by simp only[go_sem,seval]) (by simp only[go_sem,seval]) (by simp only[go_sem,seval]) (by rw[dI,Ri (fun h=>h29 h.2.1)]) (Chg.refl m)
  ·have hde':decide ((s.e:Int)=0)=false:=Rk (by omega)
   simp (disch:=first|assumption|omega) only[go_sem,seval,hdg,hde']
   exact no _ _ (by simp only[go_sem,seval]) (by simp only[go_sem,seval]) (by simp only[go_sem,seval]) (by rw[dI,Ri (fun h=>he h.1)]) (Chg.refl m)
 rintro D ⟨t,M,rfl,g1,g2,g3,hdM,hCM⟩
 change wp _ _ _ _ ⟨ai [] t, [],none,M⟩ _
 have hst1:=(kO (L:=L) d s).lim ha
 have hst2:=(bS L [123] (dI L d s)).lim hst1
 have hX:fI L S (L.length+1) [] (aZ L [123] (dI L d s))=((iI L S d s).1,(iI L S d s).2):=rfl
 have hdeep:(aZ L [123] (dI L d s)).e≠0∨d<=29:=by
  rcases Nat.lt_or_ge 29 d with h|h
  ·left
   have hff:∀e (s:Rs),e≠0->(bp e s).e≠0:=fun e s h=>by unfold bp;split;exact h;assumption
   by_cases he:s.e=0
   ·by_cases hk:(aJ L s.a).k=3/\(aJ L s.a).t= [123]
    ·have e1:dI L d s=bp 11 s:=by rw[dI,Rj ⟨he,h,hk.1,hk.2⟩]
     rw[e1]
     intro q
     exact hff 11 s (by omega) ((bS L [123] _).zero q)
    ·have e1:dI L d s=s:=by rw[dI,Ri (fun h=>hk ⟨h.2.2.1,h.2.2.2⟩)]
     rw[e1]
     have e2:aY L [123] s=false:=Rk fun q=>hk ⟨q.2.1,q.2.2⟩
     rw[aZ,e2,Ri Bool.false_ne_true]
     exact hff 2 s (by omega)
   ·intro q
    exact he ((kO (L:=L) d s).zero ((bS L [123] _).zero q))
  ·exact Or.inr h
 generalize (iI L S d s).1=X at hX hK
 generalize (iI L S d s).2=Z at hX hK
 simp (disch:=first|assumption|omega) only[go_sem,seval,g1,g2,g3]
 refine WF.use1 (gi hc (hc.chg h0 hCM) hdM [123] (by simp) (by omega)) ?_
 rintro M2 ⟨hd2,hC2⟩
 have hC02:Chg [r] m M2:=hCM.trans hC2 fun _ h _=>h
 simp (disch:=first|assumption|omega) only[go_sem,seval,g1,g2,g3]
 refine BM hc hst hpr hS (fun _ _=>trivial) h0 hd.o hdeep hd2 hst2 hC02 hX (by simp only[go_sem,seval,g1]) (by simp only[go_sem,seval,g2]) (by simp only[go_sem,seval,g3]) ?_
 intro t' M' v C q1 q2 q3 q4
 simp (disch:=first|assumption|omega) only[go_sem,seval,q1]
 exact hK _ _ ⟨⟨C,q3⟩,q2,q4⟩
end
abbrev TB (m:NH) (b1 b2:D4):D4->Prop:=fun i=>¬am m i/\i≠b1/\i≠b2
structure SC (m:NH) (r b1 b2:D4) (vl:NV) (rest z:List NV) (M:NH) (s:Rs) (c:List NV):Prop where
 hd:RD M r vl s rest
 g2:M.get b2=some (.cells true c)
 o2:am M b2
 g1:M.get b1=some (.cells true z)
 o1:am M b1
 hC:Chg [r] m M
section
variable {m0:NH} {L:List Tok} {vl:NV} {r b1 b2:D4} {rest z:List NV} {m M M':NH} {s s':Rs} {c c':List NV} {l:List (AK×NO)} {k:Nat}
theorem SC.call (h:SC m r b1 b2 vl rest z M s c) (h1:b1≠r) (h2:b2≠r) (hC:Chg [r] M M') (hd:RD M' r vl s' rest):SC m r b1 b2 vl rest z M' s' c:=
 ⟨hd,(hC.get h.o2 (by simpa using h2)).trans h.g2,hC.old h.o2,(hC.get h.o1 (by simpa using h1)).trans h.g1,hC.old h.o1,h.hC.trans hC fun _ h _=>h⟩
theorem SC.grow (h:SC m r b1 b2 vl rest z M s c) (hC:Chg [] M M'):SC m r b1 b2 vl rest z M' s c:=
 ⟨h.hd.chg hC (by simp),(hC.get h.o2 (by simp)).trans h.g2,hC.old h.o2,(hC.get h.o1 (by simp)).trans h.g1,hC.old h.o1,h.hC.trans hC (by simp)⟩
theorem SC.put (h:SC m r b1 b2 vl rest z M s c) (h2:b2≠r) (h12:b1≠b2) (hn:¬am m b2) (hl:∀i∈aB l,i=b2):SC m r b1 b2 vl rest z (hp ((.o b2,.cells true c')::l) k M) s c':=by
 have hC:Chg [b2] M (hp ((.o b2,.cells true c')::l) k M):=(aC rfl).weak fun i hi _=>by
  simp only[aB,Rp] at hi ⊢
  rcases hi with rfl|hi
  ·exact Or.inl rfl
  ·exact Or.inl (hl i hi)
 exact ⟨h.hd.chg hC (by simpa using h2.symm),(aF h.o2).trans ap,hC.old h.o2,(hC.get h.o1 (by simpa using h12)).trans h.g1,hC.old h.o1,h.hC.trans hC fun i hi ho=>by
  have hi:=one hi;subst hi;exact Rh ho hn⟩
theorem SC.place (h:SC m r b1 b2 vl rest z M s c) (h1:b1≠r) (h12:b1≠b2) (hn:¬am m b2) (hC:Chg [r,b2] M M') (hd:RD M' r vl s' rest) (hg:M'.get b2=some (.cells true c')):SC m r b1 b2 vl rest z M' s' c':=
 ⟨hd,hg,hC.old h.o2,(hC.get h.o1 (by simp;exact ⟨h1,h12⟩)).trans h.g1,hC.old h.o1,h.hC.trans hC fun i hi ho=>by
  simp only[Rp,Rm,or_false] at hi
  rcases hi with rfl|rfl
  ·simp
  ·exact Rh ho hn⟩
theorem dL (hr:am m r) (hC:Chg [r] M M'):aX (TB m b1 b2) M M':=aX.of hC fun i hi hs=>by
 have hs:=one hs;subst hs;exact hi.1 hr
theorem cU (hl:∀i∈aB l,i=b2):aX (TB m b1 b2) M (hp l k M):=aX.of (aC rfl) fun i hi hs=>hi.2.2 (hl i hs)
theorem SC.tb (h:SC m r b1 b2 vl rest z M s c):∀i,oT M i->TB m b1 b2 i:=fun i hi=>⟨fun q=>hi (h.hC.old q),fun q=>hi (q▸h.o1),fun q=>hi (q▸h.o2)⟩
theorem SS.weak {m:NH} {T T':D4->Prop} (hT':∀i,T i->T' i) {v:NV} {l:List Stm} {C:List (List NV)} (h:SS m T v l C):SS m T' v l C:=⟨h.sl,fun i hi=>hT' i (h.hT i hi),h.len,fun i x c a b=>(h.R i x c a b).weak hT'⟩
theorem uT (m:NH) (T:D4->Prop):SS m T .nils [] []:=⟨Sl.nil,by simp[ids],rfl,by simp⟩
theorem RS.of {m:NH} {T:D4->Prop} {k a:Int} {nm ce:List Nat} {i x y:Ex} {b e:List Stm} {ui ux uy vb ve:NV} (hi:RE m T i (i.l ui)) (hx:RE m T x (x.l ux)) (hy:RE m T y (y.l uy)) {B E:List (List NV)} (hb:SS m T vb b B) (he:SS m T ve e E):
 RS m T (.mk k a nm ce i x y b e) ((Stm.mk k a nm ce i x y b e).l ⟨ui,ux,uy,vb,ve⟩):= .mk hi hx hy hb.sl hb.hT hb.len hb.R he.sl he.hT he.len he.R
theorem gV (m:NH) (T:D4->Prop):RE m T zE (zE.l .nils):=BK m T 0 0 0 []
abbrev dR (k p:Int):List NV:= [ii k,ii p,.str [],.str [],ii 0,u64 0,u8 0,.str [],.nils,ii 0,u64 0,u8 0,.str [],.nils,ii 0,u64 0,u8 0,.str [],.nils,.nils,.nils]
end
section
variable {m0:NH} {L:List Tok} {vl:NV} {r:D4} {rest:List NV}
set_option maxHeartbeats 4000000 in
theorem JH (hc:RC m0 L vl r) {B:Rs->List Stm×Rs} {d:Nat} (hst:∀s,St L s (B s).2) (hB:QG m0 L vl r rest B (d+1)) (hd29:d<=29):QN m0 L vl r rest (cJ L B) d:=by
 intro m s h0 hd ha
 refine WF.ex fun K hK=> ?_
 refine WF.of_wpG (fun _=>rfl) uL (L:= [(.a .e,ii d),(.e,.ptr r 0)]) rfl ?_
 unfold FL
 have hll:=hc.len
 refine P6 (fun D=>∃t M b1 b2,D=⟨t, [],none,M⟩/\SC m r b1 b2 vl rest (dR 0 0) M s (dR 0 (aJ L s.a).p)/\¬am m b1/\¬am m b2/\b1≠b2/\NT.get D4.e t=some (.ptr r 0)/\NT.get D4.e.a t=some (ii d)/\NT.get D4.e.f t=some (.ptr b1 0)/\NT.get D4.e.a.a t=some (.ptr b2 0)/\NT.get D4.e.a.b t=some (.bool true)) (fun R hR=> ?_) ?_
 ·simp (disch:=first|assumption|omega) only[go_sem,seval]
  generalize hM1:hp _ 1 m=M1
  have hC1:Chg [] m M1:=ba hM1 rfl
  have g1:M1.get (na m 0)=some (.cells true (dR 0 0)):=bz hM1
  have o1:am M1 (na m 0):=bw hM1 (by omega)
  refine WF.use1H (iP hc (h0.trans hC1 (by simp)) (hd.chg hC1 (by simp))) ?_
  intro M2 hC2
  have hl3:(aJ L s.a).l[3]? =some (ii (aJ L s.a).p):=rfl
  simp (disch:=first|assumption|omega|(simp only[aI]<;>omega)) only[go_sem,seval,hl3]
  generalize hM3:hp _ 1 M2=M3
  have hC3:Chg [] M2 M3:=ba hM3 rfl
  have hC02:=hC1.trans hC2 (by simp)
  have hC03:=hC02.trans hC3 (by simp)
  have o12:=hC2.old o1
  refine hR _ ⟨_,M3,na m 0,na M2 0,rfl,⟨hd.chg hC03 (by simp), ?_, ?_,(hC3.get o12 (by simp)).trans ((hC2.get o1 (by simp)).trans g1),hC3.old o12,hC03.weak (by simp)⟩,az,fun h=>az (hC02.old h),fun e=>o12.ne 0 e,by simp only[go_sem,seval],by simp only[go_sem,seval],by simp only[go_sem,seval],by simp only[go_sem,seval],by simp only[go_sem,seval]⟩
  ·rw[←hM3];exact bo
  ·rw[←hM3];exact bv (by omega)
 rintro D ⟨t,M,b1,b2,rfl,hs,hn1,hn2,h12,g1,g2,g3,g4,g5⟩
 change wp _ _ _ _ ⟨ai [] t, [],none,M⟩ _
 have hr1:b1≠r:=fun e=>hn1 (e▸hd.o)
 have hr2:b2≠r:=fun e=>hn2 (e▸hd.o)
 have hr2':r≠b2:=fun e=>hr2 e.symm
 have hnb2:¬am m0 b2:=fun h=>hn2 (h0.old h)
 have hro:=hd.o
 refine gv (fun D=>∃t M x w s' q,D=⟨t, [],none,M⟩/\SC m r b1 b2 vl rest (dR 0 0) M s' (x.l w)/\RS M (TB m b1 b2) x (x.l w)/\(x,if q then aZ L [59] s' else s')=cJ L B s/\s'.a<=L.length/\NT.get D4.e t=some (.ptr r 0)/\NT.get D4.e.f t=some (.ptr b1 0)/\NT.get D4.e.a.a t=some (.ptr b2 0)/\NT.get D4.e.a.b t=some (.bool q)) (fun R hR=> ?_) ?_
 ·have hbase:∀{M:NH} {s:Rs} {c:List NV},SC m r b1 b2 vl rest (dR 0 0) M s c->Chg [] m0 M:=fun h=>hc.chg h0 h.hC
  have hput:∀{M:NH} {s:Rs} {c c':List NV} {l:List (AK×NO)} {k:Nat},SC m r b1 b2 vl rest (dR 0 0) M s c->(∀i∈aB l,i=b2)->SC m r b1 b2 vl rest (dR 0 0) (hp ((.o b2,.cells true c')::l) k M) s c':=fun h hl=>h.put hr2 h12 hn2 hl
  generalize hpp:((aJ L s.a).p:Int)=p at hs
  have fin:∀{t:Tm} {M:NH} {x:Stm} {w:SV} {s':Rs} {q:Bool},SC m r b1 b2 vl rest (dR 0 0) M s' (x.l w)->RS M (TB m b1 b2) x (x.l w)->(x,if q then aZ L [59] s' else s')=cJ L B s->s'.a<=L.length->NT.get D4.e t=some (.ptr r 0)->NT.get D4.e.f t=some (.ptr b1 0)->NT.get D4.e.a.a t=some (.ptr b2 0)->NT.get D4.e.a.b t=some (.bool q)->R ⟨t, [],none,M⟩:=fun h1 h2 h3 h4 h5 h6 h7 h8=>hR _ ⟨_,_,_,_,_,_,rfl,h1,h2,h3,h4,h5,h6,h7,h8⟩
  rw[su]
  simp (disch:=first|assumption|omega) only[go_sem,seval,g1,g2,g3,g4,g5,aa]
  refine WF.use1H (dp hc (hbase hs) hs.hd [115,101,116] (by simp) (by omega)) ?_
  rintro M0 ⟨hd0,hC0⟩
  cases hb0:aY L [115,101,116] s with
  |true=>
   obtain ⟨he,hlt⟩:=bG hb0
   have hlim:(aj s).a<=L.length:=hlt
   rw[hb0,Rj rfl] at hd0
   replace hs:=hs.call hr1 hr2 hC0 hd0
   have hg2:=hs.g2
   have ho2:=hs.o2
   simp (disch:=first|assumption|omega) only[go_sem,seval,g1,g2,g3,g4,g5,hg2,aa]
   refine WF.use1H (md hc (hbase hs) hs.hd (by omega)) ?_
   rintro N0_1 ⟨hd,hC⟩
   replace hs:=hs.call hr1 hr2 hC hd
   replace hlim:=(cC L _).lim hlim
   generalize hqs0_2:(bc L (aj s)).2=s0_2 at hs hlim
   generalize hqn0_3:(bc L (aj s)).1=n0_3
   have hg2:=hs.g2
   have ho2:=hs.o2
   simp (disch:=first|assumption|omega|(simp only[aI]<;>omega)) only[go_sem,seval,g1,g2,g3,g4,g5,hg2]
   generalize hMg:hp _ 0 _=M0_4
   have hs':SC m r b1 b2 vl rest (dR 0 0) M0_4 s0_2 [ii 0,ii p,.str n0_3,.str [],ii 0,u64 0,u8 0,.str [],.nils,ii 0,u64 0,u8 0,.str [],.nils,ii 0,u64 0,u8 0,.str [],.nils,.nils,.nils]:=by rw[←hMg];exact hput hs (by simp[aB])
   clear hMg
   replace hs:=hs'
   refine WF.useH (I4 hc (hbase hs) hs.hd hlim) ?_
   rintro v N0_5 ⟨⟨u0_6,rfl,hx⟩,hd,hC⟩
   have tX:=hx.weak hs.tb
   replace hs:=hs.call hr1 hr2 hC hd
   replace hlim:(ek L s0_2).2.a<=L.length:=(cq L 30 _).lim hlim
   generalize hqs0_8:(ek L s0_2).2=s0_8 at hs hlim
   generalize hqx0_7:(ek L s0_2).1=x0_7 at tX
   clear hx hd
   have hxl:(x0_7.l u0_6).length=5:=rfl
   have hg2:=hs.g2
   have ho2:=hs.o2
   simp (disch:=first|assumption|omega|(simp only[aI]<;>omega)) only[go_sem,seval,g1,g2,g3,g4,g5,hg2]
   generalize hMg:hp _ 0 _=M0_9
   have hs':SC m r b1 b2 vl rest (dR 0 0) M0_9 s0_8 [ii 0,ii p,.str n0_3,.str [],ii 0,u64 0,u8 0,.str [],.nils,ii x0_7.k,u64 x0_7.n,u8 x0_7.o,.str x0_7.s,u0_6,ii 0,u64 0,u8 0,.str [],.nils,.nils,.nils]:=by rw[←hMg];exact hput hs (by simp[aB])
   replace tX:=tX.stays (m':=M0_9) (by rw[←hMg];exact cU (by simp[aB]))
   clear hMg
   replace hs:=hs'
   refine fin (x:= .mk 0 p n0_3 [] zE x0_7 zE [] []) (w:=⟨.nils,u0_6,.nils,.nils,.nils⟩) (s':=s0_8) (q:=true) hs (RS.of (gV _ _) tX (gV _ _) (uT _ _) (uT _ _)) ?_ hlim (by simp only[go_sem,seval,g1]) (by simp only[go_sem,seval,g3]) (by simp only[go_sem,seval,g4]) (by simp only[go_sem,seval,g5])
   rw[cJ,Rj hb0,hpp]
   subst hqx0_7 hqs0_8 hqn0_3 hqs0_2
   rfl
  |false=>
  have ne0:¬(aY L [115,101,116] s=true):=by rw[hb0];exact Bool.false_ne_true
  rw[hb0,Ri Bool.false_ne_true] at hd0
  replace hs:=hs.call hr1 hr2 hC0 hd0
  simp (disch:=first|assumption|omega) only[go_sem,seval,g1,g2,g3,g4,g5,aa]
  refine WF.use1H (dp hc (hbase hs) hs.hd [108,111,97,100] (by simp) (by omega)) ?_
  rintro M1 ⟨hd1,hC1⟩
  cases hb1:aY L [108,111,97,100] s with
  |true=>
   obtain ⟨he,hlt⟩:=bG hb1
   have hlim:(aj s).a<=L.length:=hlt
   rw[hb1,Rj rfl] at hd1
   replace hs:=hs.call hr1 hr2 hC1 hd1
   have hg2:=hs.g2
   have ho2:=hs.o2
   simp (disch:=first|assumption|omega|(simp only[aI]<;>omega)) only[go_sem,seval,g1,g2,g3,g4,g5,hg2]
   generalize hMg:hp _ 0 _=M1_1
   have hs':SC m r b1 b2 vl rest (dR 0 0) M1_1 (aj s) [ii 1,ii p,.str [],.str [],ii 0,u64 0,u8 0,.str [],.nils,ii 0,u64 0,u8 0,.str [],.nils,ii 0,u64 0,u8 0,.str [],.nils,.nils,.nils]:=by rw[←hMg];exact hput hs (by simp[aB])
   clear hMg
   replace hs:=hs'
   refine WF.use1H (md hc (hbase hs) hs.hd (by omega)) ?_
   rintro N1_2 ⟨hd,hC⟩
   replace hs:=hs.call hr1 hr2 hC hd
   replace hlim:=(cC L _).lim hlim
   generalize hqs1_3:(bc L (aj s)).2=s1_3 at hs hlim
   generalize hqn1_4:(bc L (aj s)).1=n1_4
   have hg2:=hs.g2
   have ho2:=hs.o2
   simp (disch:=first|assumption|omega|(simp only[aI]<;>omega)) only[go_sem,seval,g1,g2,g3,g4,g5,hg2]
   generalize hMg:hp _ 0 _=M1_5
   have hs':SC m r b1 b2 vl rest (dR 0 0) M1_5 s1_3 [ii 1,ii p,.str n1_4,.str [],ii 0,u64 0,u8 0,.str [],.nils,ii 0,u64 0,u8 0,.str [],.nils,ii 0,u64 0,u8 0,.str [],.nils,.nils,.nils]:=by rw[←hMg];exact hput hs (by simp[aB])
   clear hMg
   replace hs:=hs'
   refine WF.use1 (qN hc (hbase hs) hs.hd hlim hr2 hs.o2 hnb2 (by rfl) hs.g2) ?_
   rintro N1_6 ⟨u1_7,hg,hx,hd,hC⟩
   have tI:=hx.weak hs.tb
   replace hs:=hs.place hr1 h12 hn2 hC hd hg
   replace hlim:=(eH (L:=L) s1_3).lim hlim
   generalize hqs1_9:(bm L s1_3).2.2=s1_9 at hs hlim
   generalize hqx1_8:(bm L s1_3).2.1=x1_8 at hs tI
   generalize hqn1_10:(bm L s1_3).1=n1_10 at hs
   clear hx hd hg
   have hg2:=hs.g2
   have ho2:=hs.o2
   simp (disch:=first|assumption|omega) only[go_sem,seval,g1,g2,g3,g4,g5,hg2,aa]
   refine fin (x:= .mk 1 p n1_4 n1_10 x1_8 zE zE [] []) (w:=⟨u1_7,.nils,.nils,.nils,.nils⟩) (s':=s1_9) (q:=true) hs (RS.of tI (gV _ _) (gV _ _) (uT _ _) (uT _ _)) ?_ hlim (by simp only[go_sem,seval,g1]) (by simp only[go_sem,seval,g3]) (by simp only[go_sem,seval,g4]) (by simp only[go_sem,seval,g5])
   rw[cJ,Ri ne0,Rj hb1,hpp]
   subst hqn1_10 hqx1_8 hqs1_9 hqn1_4 hqs1_3
   rfl
  |false=>
  have ne1:¬(aY L [108,111,97,100] s=true):=by rw[hb1];exact Bool.false_ne_true
  rw[hb1,Ri Bool.false_ne_true] at hd1
  replace hs:=hs.call hr1 hr2 hC1 hd1
  simp (disch:=first|assumption|omega) only[go_sem,seval,g1,g2,g3,g4,g5,aa]
  refine WF.use1H (dp hc (hbase hs) hs.hd [115,116,111,114,101] (by simp) (by omega)) ?_
  rintro M2 ⟨hd2,hC2⟩
  cases hb2:aY L [115,116,111,114,101] s with
  |true=>
   obtain ⟨he,hlt⟩:=bG hb2
   have hlim:(aj s).a<=L.length:=hlt
   rw[hb2,Rj rfl] at hd2
   replace hs:=hs.call hr1 hr2 hC2 hd2
   have hg2:=hs.g2
   have ho2:=hs.o2
   simp (disch:=first|assumption|omega|(simp only[aI]<;>omega)) only[go_sem,seval,g1,g2,g3,g4,g5,hg2]
   generalize hMg:hp _ 0 _=M2_1
   have hs':SC m r b1 b2 vl rest (dR 0 0) M2_1 (aj s) [ii 2,ii p,.str [],.str [],ii 0,u64 0,u8 0,.str [],.nils,ii 0,u64 0,u8 0,.str [],.nils,ii 0,u64 0,u8 0,.str [],.nils,.nils,.nils]:=by rw[←hMg];exact hput hs (by simp[aB])
   clear hMg
   replace hs:=hs'
   refine WF.use1 (qN hc (hbase hs) hs.hd hlim hr2 hs.o2 hnb2 (by rfl) hs.g2) ?_
   rintro N2_2 ⟨u2_3,hg,hx,hd,hC⟩
   have tI:=hx.weak hs.tb
   replace hs:=hs.place hr1 h12 hn2 hC hd hg
   replace hlim:=(eH (L:=L) (aj s)).lim hlim
   generalize hqs2_5:(bm L (aj s)).2.2=s2_5 at hs hlim
   generalize hqx2_4:(bm L (aj s)).2.1=x2_4 at hs tI
   generalize hqn2_6:(bm L (aj s)).1=n2_6 at hs
   clear hx hd hg
   have hg2:=hs.g2
   have ho2:=hs.o2
   simp (disch:=first|assumption|omega) only[go_sem,seval,g1,g2,g3,g4,g5,hg2,aa]
   refine WF.useH (I4 hc (hbase hs) hs.hd hlim) ?_
   rintro v N2_7 ⟨⟨u2_8,rfl,hx⟩,hd,hC⟩
   have tX:=hx.weak hs.tb
   replace hs:=hs.call hr1 hr2 hC hd
   replace tI:=tI.stays (dL hro hC)
   replace hlim:(ek L s2_5).2.a<=L.length:=(cq L 30 _).lim hlim
   generalize hqs2_10:(ek L s2_5).2=s2_10 at hs hlim
   generalize hqx2_9:(ek L s2_5).1=x2_9 at tX
   clear hx hd
   have hxl:(x2_9.l u2_8).length=5:=rfl
   have hg2:=hs.g2
   have ho2:=hs.o2
   simp (disch:=first|assumption|omega|(simp only[aI]<;>omega)) only[go_sem,seval,g1,g2,g3,g4,g5,hg2]
   generalize hMg:hp _ 0 _=M2_11
   have hs':SC m r b1 b2 vl rest (dR 0 0) M2_11 s2_10 [ii 2,ii p,.str [],.str n2_6,ii x2_4.k,u64 x2_4.n,u8 x2_4.o,.str x2_4.s,u2_3,ii x2_9.k,u64 x2_9.n,u8 x2_9.o,.str x2_9.s,u2_8,ii 0,u64 0,u8 0,.str [],.nils,.nils,.nils]:=by rw[←hMg];exact hput hs (by simp[aB])
   replace tI:=tI.stays (m':=M2_11) (by rw[←hMg];exact cU (by simp[aB]))
   replace tX:=tX.stays (m':=M2_11) (by rw[←hMg];exact cU (by simp[aB]))
   clear hMg
   replace hs:=hs'
   refine fin (x:= .mk 2 p [] n2_6 x2_4 x2_9 zE [] []) (w:=⟨u2_3,u2_8,.nils,.nils,.nils⟩) (s':=s2_10) (q:=true) hs (RS.of tI tX (gV _ _) (uT _ _) (uT _ _)) ?_ hlim (by simp only[go_sem,seval,g1]) (by simp only[go_sem,seval,g3]) (by simp only[go_sem,seval,g4]) (by simp only[go_sem,seval,g5])
   rw[cJ,Ri ne0,Ri ne1,Rj hb2,hpp]
   subst hqx2_9 hqs2_10 hqn2_6 hqx2_4 hqs2_5
   rfl
  |false=>
  have ne2:¬(aY L [115,116,111,114,101] s=true):=by rw[hb2];exact Bool.false_ne_true
  rw[hb2,Ri Bool.false_ne_true] at hd2
  replace hs:=hs.call hr1 hr2 hC2 hd2
  simp (disch:=first|assumption|omega) only[go_sem,seval,g1,g2,g3,g4,g5,aa]
  refine WF.use1H (dp hc (hbase hs) hs.hd [99,97,115] (by simp) (by omega)) ?_
  rintro M3 ⟨hd3,hC3⟩
  cases hb3:aY L [99,97,115] s with
  |true=>
   obtain ⟨he,hlt⟩:=bG hb3
   have hlim:(aj s).a<=L.length:=hlt
   rw[hb3,Rj rfl] at hd3
   replace hs:=hs.call hr1 hr2 hC3 hd3
   have hg2:=hs.g2
   have ho2:=hs.o2
   simp (disch:=first|assumption|omega|(simp only[aI]<;>omega)) only[go_sem,seval,g1,g2,g3,g4,g5,hg2]
   generalize hMg:hp _ 0 _=M3_1
   have hs':SC m r b1 b2 vl rest (dR 0 0) M3_1 (aj s) [ii 3,ii p,.str [],.str [],ii 0,u64 0,u8 0,.str [],.nils,ii 0,u64 0,u8 0,.str [],.nils,ii 0,u64 0,u8 0,.str [],.nils,.nils,.nils]:=by rw[←hMg];exact hput hs (by simp[aB])
   clear hMg
   replace hs:=hs'
   refine WF.use1H (md hc (hbase hs) hs.hd (by omega)) ?_
   rintro N3_2 ⟨hd,hC⟩
   replace hs:=hs.call hr1 hr2 hC hd
   replace hlim:=(cC L _).lim hlim
   generalize hqs3_3:(bc L (aj s)).2=s3_3 at hs hlim
   generalize hqn3_4:(bc L (aj s)).1=n3_4
   have hg2:=hs.g2
   have ho2:=hs.o2
   simp (disch:=first|assumption|omega|(simp only[aI]<;>omega)) only[go_sem,seval,g1,g2,g3,g4,g5,hg2]
   generalize hMg:hp _ 0 _=M3_5
   have hs':SC m r b1 b2 vl rest (dR 0 0) M3_5 s3_3 [ii 3,ii p,.str n3_4,.str [],ii 0,u64 0,u8 0,.str [],.nils,ii 0,u64 0,u8 0,.str [],.nils,ii 0,u64 0,u8 0,.str [],.nils,.nils,.nils]:=by rw[←hMg];exact hput hs (by simp[aB])
   clear hMg
   replace hs:=hs'
   refine WF.use1 (qN hc (hbase hs) hs.hd hlim hr2 hs.o2 hnb2 (by rfl) hs.g2) ?_
   rintro N3_6 ⟨u3_7,hg,hx,hd,hC⟩
   have tI:=hx.weak hs.tb
   replace hs:=hs.place hr1 h12 hn2 hC hd hg
   replace hlim:=(eH (L:=L) s3_3).lim hlim
   generalize hqs3_9:(bm L s3_3).2.2=s3_9 at hs hlim
   generalize hqx3_8:(bm L s3_3).2.1=x3_8 at hs tI
   generalize hqn3_10:(bm L s3_3).1=n3_10 at hs
   clear hx hd hg
   have hg2:=hs.g2
   have ho2:=hs.o2
   simp (disch:=first|assumption|omega) only[go_sem,seval,g1,g2,g3,g4,g5,hg2,aa]
   refine WF.useH (I4 hc (hbase hs) hs.hd hlim) ?_
   rintro v N3_11 ⟨⟨u3_12,rfl,hx⟩,hd,hC⟩
   have tX:=hx.weak hs.tb
   replace hs:=hs.call hr1 hr2 hC hd
   replace tI:=tI.stays (dL hro hC)
   replace hlim:(ek L s3_9).2.a<=L.length:=(cq L 30 _).lim hlim
   generalize hqs3_14:(ek L s3_9).2=s3_14 at hs hlim
   generalize hqx3_13:(ek L s3_9).1=x3_13 at tX
   clear hx hd
   have hxl:(x3_13.l u3_12).length=5:=rfl
   have hg2:=hs.g2
   have ho2:=hs.o2
   simp (disch:=first|assumption|omega|(simp only[aI]<;>omega)) only[go_sem,seval,g1,g2,g3,g4,g5,hg2]
   generalize hMg:hp _ 0 _=M3_15
   have hs':SC m r b1 b2 vl rest (dR 0 0) M3_15 s3_14 [ii 3,ii p,.str n3_4,.str n3_10,ii x3_8.k,u64 x3_8.n,u8 x3_8.o,.str x3_8.s,u3_7,ii x3_13.k,u64 x3_13.n,u8 x3_13.o,.str x3_13.s,u3_12,ii 0,u64 0,u8 0,.str [],.nils,.nils,.nils]:=by rw[←hMg];exact hput hs (by simp[aB])
   replace tI:=tI.stays (m':=M3_15) (by rw[←hMg];exact cU (by simp[aB]))
   replace tX:=tX.stays (m':=M3_15) (by rw[←hMg];exact cU (by simp[aB]))
   clear hMg
   replace hs:=hs'
   refine WF.useH (I4 hc (hbase hs) hs.hd hlim) ?_
   rintro v N3_16 ⟨⟨u3_17,rfl,hx⟩,hd,hC⟩
   have tY:=hx.weak hs.tb
   replace hs:=hs.call hr1 hr2 hC hd
   replace tI:=tI.stays (dL hro hC)
   replace tX:=tX.stays (dL hro hC)
   replace hlim:(ek L s3_14).2.a<=L.length:=(cq L 30 _).lim hlim
   generalize hqs3_19:(ek L s3_14).2=s3_19 at hs hlim
   generalize hqx3_18:(ek L s3_14).1=x3_18 at tY
   clear hx hd
   have hxl:(x3_18.l u3_17).length=5:=rfl
   have hg2:=hs.g2
   have ho2:=hs.o2
   simp (disch:=first|assumption|omega|(simp only[aI]<;>omega)) only[go_sem,seval,g1,g2,g3,g4,g5,hg2]
   generalize hMg:hp _ 0 _=M3_20
   have hs':SC m r b1 b2 vl rest (dR 0 0) M3_20 s3_19 [ii 3,ii p,.str n3_4,.str n3_10,ii x3_8.k,u64 x3_8.n,u8 x3_8.o,.str x3_8.s,u3_7,ii x3_13.k,u64 x3_13.n,u8 x3_13.o,.str x3_13.s,u3_12,ii x3_18.k,u64 x3_18.n,u8 x3_18.o,.str x3_18.s,u3_17,.nils,.nils]:=by rw[←hMg];exact hput hs (by simp[aB])
   replace tI:=tI.stays (m':=M3_20) (by rw[←hMg];exact cU (by simp[aB]))
   replace tX:=tX.stays (m':=M3_20) (by rw[←hMg];exact cU (by simp[aB]))
   replace tY:=tY.stays (m':=M3_20) (by rw[←hMg];exact cU (by simp[aB]))
   clear hMg
   replace hs:=hs'
   refine fin (x:= .mk 3 p n3_4 n3_10 x3_8 x3_13 x3_18 [] []) (w:=⟨u3_7,u3_12,u3_17,.nils,.nils⟩) (s':=s3_19) (q:=true) hs (RS.of tI tX tY (uT _ _) (uT _ _)) ?_ hlim (by simp only[go_sem,seval,g1]) (by simp only[go_sem,seval,g3]) (by simp only[go_sem,seval,g4]) (by simp only[go_sem,seval,g5])
   rw[cJ,Ri ne0,Ri ne1,Ri ne2,Rj hb3,hpp]
   subst hqx3_18 hqs3_19 hqx3_13 hqs3_14 hqn3_10 hqx3_8 hqs3_9 hqn3_4 hqs3_3
   rfl
  |false=>
  have ne3:¬(aY L [99,97,115] s=true):=by rw[hb3];exact Bool.false_ne_true
  rw[hb3,Ri Bool.false_ne_true] at hd3
  replace hs:=hs.call hr1 hr2 hC3 hd3
  simp (disch:=first|assumption|omega) only[go_sem,seval,g1,g2,g3,g4,g5,aa]
  refine WF.use1H (dp hc (hbase hs) hs.hd [102,101,110,99,101] (by simp) (by omega)) ?_
  rintro M4 ⟨hd4,hC4⟩
  cases hb4:aY L [102,101,110,99,101] s with
  |true=>
   obtain ⟨he,hlt⟩:=bG hb4
   have hlim:(aj s).a<=L.length:=hlt
   rw[hb4,Rj rfl] at hd4
   replace hs:=hs.call hr1 hr2 hC4 hd4
   have hg2:=hs.g2
   have ho2:=hs.o2
   simp (disch:=first|assumption|omega|(simp only[aI]<;>omega)) only[go_sem,seval,g1,g2,g3,g4,g5,hg2]
   generalize hMg:hp _ 0 _=M4_1
   have hs':SC m r b1 b2 vl rest (dR 0 0) M4_1 (aj s) [ii 4,ii p,.str [],.str [],ii 0,u64 0,u8 0,.str [],.nils,ii 0,u64 0,u8 0,.str [],.nils,ii 0,u64 0,u8 0,.str [],.nils,.nils,.nils]:=by rw[←hMg];exact hput hs (by simp[aB])
   clear hMg
   replace hs:=hs'
   refine fin (x:= .mk 4 p [] [] zE zE zE [] []) (w:=⟨.nils,.nils,.nils,.nils,.nils⟩) (s':=(aj s)) (q:=true) hs (RS.of (gV _ _) (gV _ _) (gV _ _) (uT _ _) (uT _ _)) ?_ hlim (by simp only[go_sem,seval,g1]) (by simp only[go_sem,seval,g3]) (by simp only[go_sem,seval,g4]) (by simp only[go_sem,seval,g5])
   rw[cJ,Ri ne0,Ri ne1,Ri ne2,Ri ne3,Rj hb4,hpp]
   rfl
  |false=>
  have ne4:¬(aY L [102,101,110,99,101] s=true):=by rw[hb4];exact Bool.false_ne_true
  rw[hb4,Ri Bool.false_ne_true] at hd4
  replace hs:=hs.call hr1 hr2 hC4 hd4
  simp (disch:=first|assumption|omega) only[go_sem,seval,g1,g2,g3,g4,g5,aa]
  refine WF.use1H (dp hc (hbase hs) hs.hd [111,117,116] (by simp) (by omega)) ?_
  rintro M5 ⟨hd5,hC5⟩
  cases hb5:aY L [111,117,116] s with
  |true=>
   obtain ⟨he,hlt⟩:=bG hb5
   have hlim:(aj s).a<=L.length:=hlt
   rw[hb5,Rj rfl] at hd5
   replace hs:=hs.call hr1 hr2 hC5 hd5
   have hg2:=hs.g2
   have ho2:=hs.o2
   simp (disch:=first|assumption|omega|(simp only[aI]<;>omega)) only[go_sem,seval,g1,g2,g3,g4,g5,hg2]
   generalize hMg:hp _ 0 _=M5_1
   have hs':SC m r b1 b2 vl rest (dR 0 0) M5_1 (aj s) [ii 5,ii p,.str [],.str [],ii 0,u64 0,u8 0,.str [],.nils,ii 0,u64 0,u8 0,.str [],.nils,ii 0,u64 0,u8 0,.str [],.nils,.nils,.nils]:=by rw[←hMg];exact hput hs (by simp[aB])
   clear hMg
   replace hs:=hs'
   refine WF.useH (I4 hc (hbase hs) hs.hd hlim) ?_
   rintro v N5_2 ⟨⟨u5_3,rfl,hx⟩,hd,hC⟩
   have tX:=hx.weak hs.tb
   replace hs:=hs.call hr1 hr2 hC hd
   replace hlim:(ek L (aj s)).2.a<=L.length:=(cq L 30 _).lim hlim
   generalize hqs5_5:(ek L (aj s)).2=s5_5 at hs hlim
   generalize hqx5_4:(ek L (aj s)).1=x5_4 at tX
   clear hx hd
   have hxl:(x5_4.l u5_3).length=5:=rfl
   have hg2:=hs.g2
   have ho2:=hs.o2
   simp (disch:=first|assumption|omega|(simp only[aI]<;>omega)) only[go_sem,seval,g1,g2,g3,g4,g5,hg2]
   generalize hMg:hp _ 0 _=M5_6
   have hs':SC m r b1 b2 vl rest (dR 0 0) M5_6 s5_5 [ii 5,ii p,.str [],.str [],ii 0,u64 0,u8 0,.str [],.nils,ii x5_4.k,u64 x5_4.n,u8 x5_4.o,.str x5_4.s,u5_3,ii 0,u64 0,u8 0,.str [],.nils,.nils,.nils]:=by rw[←hMg];exact hput hs (by simp[aB])
   replace tX:=tX.stays (m':=M5_6) (by rw[←hMg];exact cU (by simp[aB]))
   clear hMg
   replace hs:=hs'
   refine fin (x:= .mk 5 p [] [] zE x5_4 zE [] []) (w:=⟨.nils,u5_3,.nils,.nils,.nils⟩) (s':=s5_5) (q:=true) hs (RS.of (gV _ _) tX (gV _ _) (uT _ _) (uT _ _)) ?_ hlim (by simp only[go_sem,seval,g1]) (by simp only[go_sem,seval,g3]) (by simp only[go_sem,seval,g4]) (by simp only[go_sem,seval,g5])
   rw[cJ,Ri ne0,Ri ne1,Ri ne2,Ri ne3,Ri ne4,Rj hb5,hpp]
   subst hqx5_4 hqs5_5
   rfl
  |false=>
  have ne5:¬(aY L [111,117,116] s=true):=by rw[hb5];exact Bool.false_ne_true
  rw[hb5,Ri Bool.false_ne_true] at hd5
  replace hs:=hs.call hr1 hr2 hC5 hd5
  simp (disch:=first|assumption|omega) only[go_sem,seval,g1,g2,g3,g4,g5,aa]
  refine WF.use1H (dp hc (hbase hs) hs.hd [105,102] (by simp) (by omega)) ?_
  rintro M6 ⟨hd6,hC6⟩
  cases hb6:aY L [105,102] s with
  |true=>
   obtain ⟨he,hlt⟩:=bG hb6
   have hlim:(aj s).a<=L.length:=hlt
   rw[hb6,Rj rfl] at hd6
   replace hs:=hs.call hr1 hr2 hC6 hd6
   have hg2:=hs.g2
   have ho2:=hs.o2
   simp (disch:=first|assumption|omega|(simp only[aI]<;>omega)) only[go_sem,seval,g1,g2,g3,g4,g5,hg2]
   generalize hMg:hp _ 0 _=M6_1
   have hs':SC m r b1 b2 vl rest (dR 0 0) M6_1 (aj s) [ii 6,ii p,.str [],.str [],ii 0,u64 0,u8 0,.str [],.nils,ii 0,u64 0,u8 0,.str [],.nils,ii 0,u64 0,u8 0,.str [],.nils,.nils,.nils]:=by rw[←hMg];exact hput hs (by simp[aB])
   clear hMg
   replace hs:=hs'
   refine WF.useH (I4 hc (hbase hs) hs.hd hlim) ?_
   rintro v N6_2 ⟨⟨u6_3,rfl,hx⟩,hd,hC⟩
   have tX:=hx.weak hs.tb
   replace hs:=hs.call hr1 hr2 hC hd
   replace hlim:(ek L (aj s)).2.a<=L.length:=(cq L 30 _).lim hlim
   generalize hqs6_5:(ek L (aj s)).2=s6_5 at hs hlim
   generalize hqx6_4:(ek L (aj s)).1=x6_4 at tX
   clear hx hd
   have hxl:(x6_4.l u6_3).length=5:=rfl
   have hg2:=hs.g2
   have ho2:=hs.o2
   simp (disch:=first|assumption|omega|(simp only[aI]<;>omega)) only[go_sem,seval,g1,g2,g3,g4,g5,hg2]
   generalize hMg:hp _ 0 _=M6_6
   have hs':SC m r b1 b2 vl rest (dR 0 0) M6_6 s6_5 [ii 6,ii p,.str [],.str [],ii 0,u64 0,u8 0,.str [],.nils,ii x6_4.k,u64 x6_4.n,u8 x6_4.o,.str x6_4.s,u6_3,ii 0,u64 0,u8 0,.str [],.nils,.nils,.nils]:=by rw[←hMg];exact hput hs (by simp[aB])
   replace tX:=tX.stays (m':=M6_6) (by rw[←hMg];exact cU (by simp[aB]))
   clear hMg
   replace hs:=hs'
   refine WF.useH (hB (hbase hs) hs.hd hlim) ?_
   rintro v6_8 N6_7 ⟨⟨C6_9,hx⟩,hd,hC⟩
   have tB:=hx.weak hs.tb
   replace hs:=hs.call hr1 hr2 hC hd
   replace tX:=tX.stays (dL hro hC)
   replace hlim:=(hst s6_5).lim hlim
   generalize hqs6_11:(B s6_5).2=s6_11 at hs hlim
   generalize hql6_10:(B s6_5).1=l6_10 at tB
   clear hx hd
   have hg2:=hs.g2
   have ho2:=hs.o2
   simp (disch:=first|assumption|omega|(simp only[aI]<;>omega)) only[go_sem,seval,g1,g2,g3,g4,g5,hg2,tB.sl.one]
   generalize hMg:hp _ 0 _=M6_12
   have hs':SC m r b1 b2 vl rest (dR 0 0) M6_12 s6_11 [ii 6,ii p,.str [],.str [],ii 0,u64 0,u8 0,.str [],.nils,ii x6_4.k,u64 x6_4.n,u8 x6_4.o,.str x6_4.s,u6_3,ii 0,u64 0,u8 0,.str [],.nils,v6_8,.nils]:=by rw[←hMg];exact hput hs (by simp[aB])
   replace tX:=tX.stays (m':=M6_12) (by rw[←hMg];exact cU (by simp[aB]))
   replace tB:=tB.stays (m':=M6_12) (by rw[←hMg];exact cU (by simp[aB]))
   clear hMg
   replace hs:=hs'
   refine WF.use1H (dp hc (hbase hs) hs.hd [101,108,115,101] (by simp) (by omega)) ?_
   rintro Me ⟨hde,hCe⟩
   replace hs':=hs.call hr1 hr2 hCe hde
   replace tX:=tX.stays (dL hro hCe)
   replace tB:=tB.stays (dL hro hCe)
   cases hbe:aY L [101,108,115,101] s6_11 with
   |true=>
    rw[hbe,Rj rfl] at hs'
    replace hs:=hs'
    have hlim:(aj s6_11).a<=L.length:=(bG hbe).2
    have hg2:=hs.g2
    have ho2:=hs.o2
    simp (disch:=first|assumption|omega) only[go_sem,seval,g1,g2,g3,g4,g5,hg2,tB.sl.one,aa]
    refine WF.useH (hB (hbase hs) hs.hd hlim) ?_
    rintro v6t_14 N6t_13 ⟨⟨C6t_15,hx⟩,hd,hC⟩
    have tE:=hx.weak hs.tb
    replace hs:=hs.call hr1 hr2 hC hd
    replace tX:=tX.stays (dL hro hC)
    replace tB:=tB.stays (dL hro hC)
    replace hlim:=(hst (aj s6_11)).lim hlim
    generalize hqs6t_17:(B (aj s6_11)).2=s6t_17 at hs hlim
    generalize hql6t_16:(B (aj s6_11)).1=l6t_16 at tE
    clear hx hd
    have hg2:=hs.g2
    have ho2:=hs.o2
    simp (disch:=first|assumption|omega|(simp only[aI]<;>omega)) only[go_sem,seval,g1,g2,g3,g4,g5,hg2,tB.sl.one,tE.sl.one]
    generalize hMg:hp _ 0 _=M6t_18
    have hs':SC m r b1 b2 vl rest (dR 0 0) M6t_18 s6t_17 [ii 6,ii p,.str [],.str [],ii 0,u64 0,u8 0,.str [],.nils,ii x6_4.k,u64 x6_4.n,u8 x6_4.o,.str x6_4.s,u6_3,ii 0,u64 0,u8 0,.str [],.nils,v6_8,v6t_14]:=by rw[←hMg];exact hput hs (by simp[aB])
    replace tX:=tX.stays (m':=M6t_18) (by rw[←hMg];exact cU (by simp[aB]))
    replace tB:=tB.stays (m':=M6t_18) (by rw[←hMg];exact cU (by simp[aB]))
    replace tE:=tE.stays (m':=M6t_18) (by rw[←hMg];exact cU (by simp[aB]))
    clear hMg
    replace hs:=hs'
    refine fin (x:= .mk 6 p [] [] zE x6_4 zE l6_10 l6t_16) (w:=⟨.nils,u6_3,.nils,v6_8,v6t_14⟩) (s':=s6t_17) (q:=false) hs (RS.of (gV _ _) tX (gV _ _) tB tE) ?_ hlim (by simp only[go_sem,seval,g1]) (by simp only[go_sem,seval,g3]) (by simp only[go_sem,seval,g4]) (by simp only[go_sem,seval,g5])
    rw[cJ,Ri ne0,Ri ne1,Ri ne2,Ri ne3,Ri ne4,Ri ne5,Rj hb6,hpp]
    subst hql6t_16 hqs6t_17 hql6_10 hqs6_11 hqx6_4 hqs6_5
    rw[Jc,Rj hbe];rfl
   |false=>
    rw[hbe,Ri Bool.false_ne_true] at hs'
    replace hs:=hs'
    have nee:¬(aY L [101,108,115,101] s6_11=true):=by rw[hbe];exact Bool.false_ne_true
    have hg2:=hs.g2
    have ho2:=hs.o2
    simp (disch:=first|assumption|omega) only[go_sem,seval,g1,g2,g3,g4,g5,hg2,tB.sl.one,aa]
    refine fin (x:= .mk 6 p [] [] zE x6_4 zE l6_10 []) (w:=⟨.nils,u6_3,.nils,v6_8,.nils⟩) (s':=s6_11) (q:=false) hs (RS.of (gV _ _) tX (gV _ _) tB (uT _ _)) ?_ hlim (by simp only[go_sem,seval,g1]) (by simp only[go_sem,seval,g3]) (by simp only[go_sem,seval,g4]) (by simp only[go_sem,seval,g5])
    rw[cJ,Ri ne0,Ri ne1,Ri ne2,Ri ne3,Ri ne4,Ri ne5,Rj hb6,hpp]
    subst hql6_10 hqs6_11 hqx6_4 hqs6_5
    rw[Jc,Ri nee];rfl
  |false=>
  have ne6:¬(aY L [105,102] s=true):=by rw[hb6];exact Bool.false_ne_true
  rw[hb6,Ri Bool.false_ne_true] at hd6
  replace hs:=hs.call hr1 hr2 hC6 hd6
  simp (disch:=first|assumption|omega) only[go_sem,seval,g1,g2,g3,g4,g5,aa]
  refine WF.use1H (dp hc (hbase hs) hs.hd [119,104,105,108,101] (by simp) (by omega)) ?_
  rintro M7 ⟨hd7,hC7⟩
  cases hb7:aY L [119,104,105,108,101] s with
  |true=>
   obtain ⟨he,hlt⟩:=bG hb7
   have hlim:(aj s).a<=L.length:=hlt
   rw[hb7,Rj rfl] at hd7
   replace hs:=hs.call hr1 hr2 hC7 hd7
   have hg2:=hs.g2
   have ho2:=hs.o2
   simp (disch:=first|assumption|omega|(simp only[aI]<;>omega)) only[go_sem,seval,g1,g2,g3,g4,g5,hg2]
   generalize hMg:hp _ 0 _=M7_1
   have hs':SC m r b1 b2 vl rest (dR 0 0) M7_1 (aj s) [ii 7,ii p,.str [],.str [],ii 0,u64 0,u8 0,.str [],.nils,ii 0,u64 0,u8 0,.str [],.nils,ii 0,u64 0,u8 0,.str [],.nils,.nils,.nils]:=by rw[←hMg];exact hput hs (by simp[aB])
   clear hMg
   replace hs:=hs'
   refine WF.useH (I4 hc (hbase hs) hs.hd hlim) ?_
   rintro v N7_2 ⟨⟨u7_3,rfl,hx⟩,hd,hC⟩
   have tX:=hx.weak hs.tb
   replace hs:=hs.call hr1 hr2 hC hd
   replace hlim:(ek L (aj s)).2.a<=L.length:=(cq L 30 _).lim hlim
   generalize hqs7_5:(ek L (aj s)).2=s7_5 at hs hlim
   generalize hqx7_4:(ek L (aj s)).1=x7_4 at tX
   clear hx hd
   have hxl:(x7_4.l u7_3).length=5:=rfl
   have hg2:=hs.g2
   have ho2:=hs.o2
   simp (disch:=first|assumption|omega|(simp only[aI]<;>omega)) only[go_sem,seval,g1,g2,g3,g4,g5,hg2]
   generalize hMg:hp _ 0 _=M7_6
   have hs':SC m r b1 b2 vl rest (dR 0 0) M7_6 s7_5 [ii 7,ii p,.str [],.str [],ii 0,u64 0,u8 0,.str [],.nils,ii x7_4.k,u64 x7_4.n,u8 x7_4.o,.str x7_4.s,u7_3,ii 0,u64 0,u8 0,.str [],.nils,.nils,.nils]:=by rw[←hMg];exact hput hs (by simp[aB])
   replace tX:=tX.stays (m':=M7_6) (by rw[←hMg];exact cU (by simp[aB]))
   clear hMg
   replace hs:=hs'
   refine WF.useH (hB (hbase hs) hs.hd hlim) ?_
   rintro v7_8 N7_7 ⟨⟨C7_9,hx⟩,hd,hC⟩
   have tB:=hx.weak hs.tb
   replace hs:=hs.call hr1 hr2 hC hd
   replace tX:=tX.stays (dL hro hC)
   replace hlim:=(hst s7_5).lim hlim
   generalize hqs7_11:(B s7_5).2=s7_11 at hs hlim
   generalize hql7_10:(B s7_5).1=l7_10 at tB
   clear hx hd
   have hg2:=hs.g2
   have ho2:=hs.o2
   simp (disch:=first|assumption|omega|(simp only[aI]<;>omega)) only[go_sem,seval,g1,g2,g3,g4,g5,hg2,tB.sl.one]
   generalize hMg:hp _ 0 _=M7_12
   have hs':SC m r b1 b2 vl rest (dR 0 0) M7_12 s7_11 [ii 7,ii p,.str [],.str [],ii 0,u64 0,u8 0,.str [],.nils,ii x7_4.k,u64 x7_4.n,u8 x7_4.o,.str x7_4.s,u7_3,ii 0,u64 0,u8 0,.str [],.nils,v7_8,.nils]:=by rw[←hMg];exact hput hs (by simp[aB])
   replace tX:=tX.stays (m':=M7_12) (by rw[←hMg];exact cU (by simp[aB]))
   replace tB:=tB.stays (m':=M7_12) (by rw[←hMg];exact cU (by simp[aB]))
   clear hMg
   replace hs:=hs'
   refine fin (x:= .mk 7 p [] [] zE x7_4 zE l7_10 []) (w:=⟨.nils,u7_3,.nils,v7_8,.nils⟩) (s':=s7_11) (q:=false) hs (RS.of (gV _ _) tX (gV _ _) tB (uT _ _)) ?_ hlim (by simp only[go_sem,seval,g1]) (by simp only[go_sem,seval,g3]) (by simp only[go_sem,seval,g4]) (by simp only[go_sem,seval,g5])
   rw[cJ,Ri ne0,Ri ne1,Ri ne2,Ri ne3,Ri ne4,Ri ne5,Ri ne6,Rj hb7,hpp]
   subst hql7_10 hqs7_11 hqx7_4 hqs7_5
   rfl
  |false=>
  have ne7:¬(aY L [119,104,105,108,101] s=true):=by rw[hb7];exact Bool.false_ne_true
  rw[hb7,Ri Bool.false_ne_true] at hd7
  replace hs:=hs.call hr1 hr2 hC7 hd7
  simp (disch:=first|assumption|omega) only[go_sem,seval,g1,g2,g3,g4,g5,aa]
  refine WF.use1 (gT hs.hd 2) ?_
  rintro M9 ⟨hd9,hC9⟩
  replace hs:=hs.call hr1 hr2 hC9 hd9
  have hlim:=(b8 L 2 s).lim ha
  simp (disch:=first|assumption|omega) only[go_sem,seval,g1,g2,g3,g4,g5]
  refine fin (x:= .mk 0 p [] [] zE zE zE [] []) (w:=⟨.nils,.nils,.nils,.nils,.nils⟩) (s':=bp 2 s) (q:=true) hs (RS.of (gV _ _) (gV _ _) (gV _ _) (uT _ _) (uT _ _)) ?_ hlim (by simp only[go_sem,seval,g1]) (by simp only[go_sem,seval,g3]) (by simp only[go_sem,seval,g4]) (by simp only[go_sem,seval,g5])
  rw[cJ,Ri ne0,Ri ne1,Ri ne2,Ri ne3,Ri ne4,Ri ne5,Ri ne6,Ri ne7,hpp]
  rfl
 clear g1 g2 g3 g4 g5 hs
 rintro D ⟨t,M,x,w,s',q,rfl,hs,hx,hE,ha',g1,g3,g4,g5⟩
 change wp _ _ _ _ ⟨ai [] t, [],none,M⟩ _
 rw[←hE] at hK
 have hxl:(x.l w).length=21:=rfl
 have hxl':(x.l w).take 21=x.l w:=rfl
 have fin:∀{M s''},SC m r b1 b2 vl rest (dR 0 0) M s'' (x.l w)->RS M (TB m b1 b2) x (x.l w)->(if q then aZ L [59] s' else s')=s''->K (.agg (x.l w)) (hp [(.o b1,.cells true (x.l w))] 0 M):=fun {M s''} h1 h2 h3=>by
  have hC:Chg [b1] M (hp [(.o b1,.cells true (x.l w))] 0 M):=aC rfl
  refine hK _ _ ⟨⟨w,rfl,(h2.stays (aX.of hC fun i hi hs=> ?_)).weak fun i hi=>hi.1⟩, ?_,h1.hC.trans hC fun i hi ho=> ?_⟩
  ·simp only[Rp,Rm,or_false] at hs;exact hi.2.1 hs
  ·show RD _ r vl (if q then aZ L [59] s' else s') rest
   rw[h3];exact h1.hd.chg hC (by simpa using fun e=>hr1 e.symm)
  ·have hi:=one hi;subst hi;exact Rh ho hn1
 cases q with
 |true=>
  simp (disch:=first|assumption|omega) only[go_sem,seval,g1,g3,g4,g5,aa]
  refine WF.use1H (gi hc (hc.chg h0 hs.hC) hs.hd [59] (by simp) (by omega)) ?_
  rintro M2 ⟨hd2,hC2⟩
  have hs2:=hs.call hr1 hr2 hC2 hd2
  have hg2:=hs2.g2
  have hg1:=hs2.g1
  have ho1:=hs2.o1
  have ho2:=hs2.o2
  simp (disch:=first|assumption|omega|(simp only[aI]<;>omega)) only[go_sem,seval,g1,g3,g4,g5,hg2,hg1,hxl,hxl']
  exact fin hs2 (hx.stays (dL hro hC2)) rfl
 |false=>
  have hg2:=hs.g2
  have hg1:=hs.g1
  have ho1:=hs.o1
  have ho2:=hs.o2
  rw[←aa M]
  simp (disch:=first|assumption|omega|(simp only[aI]<;>omega)) only[go_sem,seval,g1,g3,g4,g5,hg2,hg1,hxl,hxl']
  exact fin hs hx rfl
end
section
variable {L:List Tok}
theorem iL (s:Rs):St L s (ek L s).2:=cq L 30 s
theorem j4 {x:Stm} {s s':Rs} (h:St L s s'):St L s (vg L x s').2:=h.trans (bS _ _ _)
theorem KO (p:Int) (s:Rs):St L s (OC L p s).2:=j4 ((cC L s).trans (iL _))
theorem Iy (p:Int) (s:Rs):St L s (IM L p s).2:=j4 ((cC L s).trans (eH _))
theorem Gq (p:Int) (s:Rs):St L s (EG L p s).2:=j4 ((eH s).trans (iL _))
theorem Lz (p:Int) (s:Rs):St L s (Ny L p s).2:=j4 ((((cC L s).trans (eH _)).trans (iL _)).trans (iL _))
theorem Mn (p:Int) (s:Rs):St L s (Oo L p s).2:=j4 (iL _)
theorem NY {B:Rs->List Stm×Rs} (hB:∀s,St L s (B s).2) (p:Int) (s:Rs):St L s (Jc L B p s).2:=by
 unfold Jc
 have h:=(iL (L:=L) s).trans (hB _)
 split
 ·rename_i q;exact (h.trans (ei q)).trans (hB _)
 ·exact h
theorem FQ {B:Rs->List Stm×Rs} (hB:∀s,St L s (B s).2) (p:Int) (s:Rs):St L s (E9 L B p s).2:=(iL s).trans (hB _)
theorem uh {B:Rs->List Stm×Rs} (hB:∀s,St L s (B s).2) (s:Rs):(∃t,St L s t/\St L t (cJ L B s).2/\(s.e=0->s.a<t.a∨t.e≠0)):=by
 have y:∀{w:List Nat},aY L w s=true->St L s (aj s):=fun h=>ei h
 have n:s.a<(aj s).a:=Nat.lt_succ_self _
 unfold cJ
 split
 ·exact ⟨aj s,y ‹_›,KO _ _,fun _=>Or.inl n⟩
 ·split
  ·exact ⟨aj s,y ‹_›,Iy _ _,fun _=>Or.inl n⟩
  ·split
   ·exact ⟨aj s,y ‹_›,Gq _ _,fun _=>Or.inl n⟩
   ·split
    ·exact ⟨aj s,y ‹_›,Lz _ _,fun _=>Or.inl n⟩
    ·split
     ·exact ⟨aj s,y ‹_›,j4 (St.refl _ _),fun _=>Or.inl n⟩
     ·split
      ·exact ⟨aj s,y ‹_›,Mn _ _,fun _=>Or.inl n⟩
      ·split
       ·exact ⟨aj s,y ‹_›,NY hB _ _,fun _=>Or.inl n⟩
       ·split
        ·exact ⟨aj s,y ‹_›,FQ hB _ _,fun _=>Or.inl n⟩
        ·refine ⟨bp 2 s,b8 _ _ _,j4 (St.refl _ _),fun h=>Or.inr ?_⟩
         rw[bp,Rj h];show (2:Nat)≠0;omega
theorem qI {B:Rs->List Stm×Rs} (hB:∀s,St L s (B s).2) (s:Rs):St L s (cJ L B s).2:=by
 obtain ⟨t,h1,h2,-⟩:=uh hB s
 exact h1.trans h2
theorem Ha {B:Rs->List Stm×Rs} (hB:∀s,St L s (B s).2) (s:Rs) (he:s.e=0):s.a<(cJ L B s).2.a∨(cJ L B s).2.e≠0:=by
 obtain ⟨t,h1,h2,h3⟩:=uh hB s
 rcases h3 he with q|q
 ·left;have:=h2.le;omega
 ·right;rw[h2.err q];exact q
theorem uj {S:Rs->Stm×Rs} (hS:∀s,St L s (S s).2):∀(f:Nat) (l:List Stm) (s:Rs),St L s (fI L S f l s).2:=by
 intro f
 induction f with
 |zero=>exact fun l s=>St.refl _ _
 |succ f ih=>
  intro l s
  rw[fI]
  split
  ·exact St.refl _ _
  ·split
   ·exact ei ‹_›
   ·exact (hS s).trans (ih _ _)
theorem tG {S:Rs->Stm×Rs} (hS:∀s,St L s (S s).2) (d:Nat) (s:Rs):St L s (iI L S d s).2:=((kO d s).trans (bS _ _ _)).trans (uj hS _ _ _)
theorem fa:∀(n:Nat) (s:Rs),St L s (du L n s).2:=by
 intro n
 induction n with
 |zero=>exact fun s=>tG (fun s=>b8 _ _ _) _ s
 |succ n ih=>exact fun s=>tG (qI ih) _ s
def P7 (B:Rs->List Stm×Rs):Prop:=∀s,(B s).2.e=0->cI (B s).1+4*s.a<=4*(B s).2.a
theorem kU (s:Rs) (h:(ek L s).2.e=0):(ek L s).1.sz+s.a<=(ek L s).2.a:=rT L 30 s h
theorem mX {s:Rs} (h:(bc L s).2.e=0):s.a+1<=(bc L s).2.a:=by
 unfold bc at h ⊢
 split
 ·rename_i q
  rw[Rj q] at h
  have h0:=(b8 L 2 s).zero h
  rw[bp,Rj h0] at h
  exact Rh h (by show (2:Nat)≠0;omega)
 ·exact Nat.le_refl _
theorem dP {w:List Nat} {s:Rs} (h:(aZ L w s).e=0):s.e=0/\(aZ L w s).a=s.a+1:=by
 have h0:=(bS L w s).zero h
 refine ⟨h0, ?_⟩
 unfold aZ at h ⊢
 split
 ·rfl
 ·rename_i q
  rw[Ri q,bp,Rj h0] at h
  exact Rh h (by show (2:Nat)≠0;omega)
theorem pn {s:Rs} (h:(bm L s).2.2.e=0):(bm L s).2.1.sz+s.a<=(bm L s).2.2.a:=by
 unfold bm at h ⊢
 split
 ·rename_i q
  rw[Rj q] at h
  obtain ⟨h1,h2⟩:=dP h
  have h3:=kU _ h1
  have h4:=(ei q).le
  have h5:=(cC L s).le
  have h6:(aj (bc L s).2).a=(bc L s).2.a+1:=rfl
  dsimp only at h1 h2 h3 h4 h5 ⊢
  omega
 ·rename_i q
  rw[Ri q] at h
  have:=mX h
  simp[zE,Ex.sz,jV];omega
theorem mK:zE.sz=1:=by simp[zE,Ex.sz,jV]
theorem gX (k p:Int) (nm ce:List Nat) (i x y:Ex) (b e:List Stm):(Stm.mk k p nm ce i x y b e).sz=1+i.sz+x.sz+y.sz+cI b+cI e:=by rw[Stm.sz]
theorem qf:cI []=0:=rfl
set_option maxHeartbeats 4000000 in
theorem IA {B:Rs->List Stm×Rs} (hSt:∀s,St L s (B s).2) (hB:P7 B) (s:Rs) (h:(cJ L B s).2.e=0):(cJ L B s).1.sz+4*s.a<=4*(cJ L B s).2.a:=by
 have n:(aj s).a=s.a+1:=rfl
 unfold cJ at h ⊢
 split
 ·rename_i q
  rw[Rj q] at h
  obtain ⟨h1,h2⟩:=dP h
  have h3:=kU _ h1
  have h4:=mX ((iL (L:=L) _).zero h1)
  show (Stm.mk ..).sz+_<=4*(aZ L [59] _).a
  rw[h2,gX,mK,qf];omega
 ·rename_i q0;rw[Ri q0] at h
  split
  ·rename_i q
   rw[Rj q] at h
   obtain ⟨h1,h2⟩:=dP h
   have h3:=pn h1
   have h4:=mX ((eH (L:=L) _).zero h1)
   show (Stm.mk ..).sz+_<=4*(aZ L [59] _).a
   rw[h2,gX,mK,qf];omega
  ·rename_i q0;rw[Ri q0] at h
   split
   ·rename_i q
    rw[Rj q] at h
    obtain ⟨h1,h2⟩:=dP h
    have h3:=kU _ h1
    have h4:=pn ((iL (L:=L) _).zero h1)
    show (Stm.mk ..).sz+_<=4*(aZ L [59] _).a
    rw[h2,gX,mK,qf];omega
   ·rename_i q0;rw[Ri q0] at h
    split
    ·rename_i q
     rw[Rj q] at h
     obtain ⟨h1,h2⟩:=dP h
     have h3:=kU _ h1
     have h1':=(iL (L:=L) _).zero h1
     have h4:=kU _ h1'
     have h1'':=(iL (L:=L) _).zero h1'
     have h5:=pn h1''
     have h6:=mX ((eH (L:=L) _).zero h1'')
     show (Stm.mk ..).sz+_<=4*(aZ L [59] _).a
     rw[h2,gX,qf];omega
    ·rename_i q0;rw[Ri q0] at h
     split
     ·rename_i q
      rw[Rj q] at h
      obtain ⟨h1,h2⟩:=dP h
      show (Stm.mk ..).sz+_<=4*(aZ L [59] _).a
      rw[h2,gX,mK,qf];omega
     ·rename_i q0;rw[Ri q0] at h
      split
      ·rename_i q
       rw[Rj q] at h
       obtain ⟨h1,h2⟩:=dP h
       have h3:=kU _ h1
       show (Stm.mk ..).sz+_<=4*(aZ L [59] _).a
       rw[h2,gX,mK,qf];omega
      ·rename_i q0;rw[Ri q0] at h
       split
       ·rename_i q
        rw[Rj q] at h
        unfold Jc at h ⊢
        split
        ·rename_i q2
         rw[Rj q2] at h
         have h1:=hB _ h
         have h2:=(hSt _).zero h
         have h3:=hB _ h2
         have h4:=kU _ ((hSt _).zero h2)
         have h5:(aj (B (ek L (aj s)).2).2).a=(B (ek L (aj s)).2).2.a+1:=rfl
         rw[gX,mK];dsimp only at *;omega
        ·rename_i q2
         rw[Ri q2] at h
         have h3:=hB _ h
         have h4:=kU _ ((hSt _).zero h)
         rw[gX,mK,qf];dsimp only at *;omega
       ·rename_i q0;rw[Ri q0] at h
        split
        ·rename_i q
         rw[Rj q] at h
         have h3:=hB _ h
         have h4:=kU _ ((hSt _).zero h)
         show (Stm.mk ..).sz+_<=4*(B _).2.a
         rw[gX,mK,qf];omega
        ·rename_i q0;rw[Ri q0] at h
         obtain ⟨h1,h2⟩:=dP h
         have h3:=(b8 L 2 s).zero h1
         rw[bp,Rj h3] at h1
         exact Rh h1 (by show (2:Nat)≠0;omega)
theorem xS (a b:List Stm):cI (a++b)=cI a+cI b:=by
 induction a with
 |nil=>simp[cI]
 |cons x a ih=>rw[List.cons_append,cI,cI,ih];omega
theorem Dy {S:Rs->Stm×Rs} (hSt:∀s,St L s (S s).2) (hS:∀s,(S s).2.e=0->(S s).1.sz+4*s.a<=4*(S s).2.a):∀(f:Nat) (l:List Stm) (s:Rs) (a0:Nat),(s.e=0->cI l+4*a0<=4*s.a)->(fI L S f l s).2.e=0->cI (fI L S f l s).1+4*a0<=4*(fI L S f l s).2.a:=by
 intro f
 induction f with
 |zero=>intro l s a0 h h2;exact h h2
 |succ f ih=>
  intro l s a0 h
  rw[fI]
  split
  ·intro h2;exact Rh h2 ‹_›
  ·split
   ·rename_i q1 q2
    intro h2
    have h1:=h (by omega)
    have:(aj s).a=s.a+1:=rfl
    dsimp only;omega
   ·rename_i q1 q2
    refine ih _ _ a0 fun h2=> ?_
    have h1:=h (by omega)
    have h3:=hS s h2
    rw[xS,cI,qf];omega
theorem DC {S:Rs->Stm×Rs} (hSt:∀s,St L s (S s).2) (hS:∀s,(S s).2.e=0->(S s).1.sz+4*s.a<=4*(S s).2.a) (d:Nat):P7 (iI L S d):=by
 intro s h
 refine Dy hSt hS _ _ _ s.a (fun h2=> ?_) h
 have:=((kO (L:=L) d s).trans (bS L [123] _)).le
 rw[qf];omega
theorem AS:∀n:Nat,P7 (du L n):=by
 intro n
 induction n with
 |zero=>
  intro s h
  have h1:=(uj (L:=L) (S:=fun s=>(Stm.mk 0 0 [] [] zE zE zE [] [],bp 2 s)) (fun s=>b8 _ _ _) _ _ _).zero h
  have h2:=(bS L [123] _).zero h1
  have h3:=(kO (L:=L) 30 s).zero h2
  exfalso
  obtain ⟨h4,h5⟩:=dP h1
  have hff:∀e (s:Rs),e≠0->(bp e s).e≠0:=fun e s h=>by unfold bp;split;exact h;assumption
  by_cases hk:(aJ L s.a).k=3/\(aJ L s.a).t= [123]
  ·rw[dI,Rj ⟨h3,by omega,hk.1,hk.2⟩] at h4
   exact hff 11 s (by omega) h4
  ·have e1:dI L 30 s=s:=by rw[dI,Ri (fun h=>hk ⟨h.2.2.1,h.2.2.2⟩)]
   rw[e1] at h1
   have e2:aY L [123] s=false:=Rk fun q=>hk ⟨q.2.1,q.2.2⟩
   rw[aZ,e2,Ri Bool.false_ne_true] at h1
   exact hff 2 s (by omega) h1
 |succ n ih=>exact DC (qI (fa n)) (IA (fa n) ih) _
end
section
variable {m0:NH} {L:List Tok} {vl:NV} {r:D4} {rest:List NV}
theorem Fv (hc:RC m0 L vl r):∀n,n<=30->QG m0 L vl r rest (du L n) (30 - n):=by
 intro n
 induction n with
 |zero=>
  intro _
  have e2:du L 0=iI L (fun s=>(.mk 0 0 [] [] zE zE zE [] [],bp 2 s)) 30:=by funext s;rfl
  rw[e2]
  intro m s
  exact Av (S:=fun s=>(.mk 0 0 [] [] zE zE zE [] [],bp 2 s)) hc (fun s=>b8 _ _ _) (fun s he=>Or.inr (by rw[bp,Rj he];show (2:Nat)≠0;omega)) (fun h=>by omega)
 |succ n ih=>
  intro hn
  have e:30 - (n+1)=29 - n:=by omega
  have h1:29 - n+1=30 - n:=by omega
  have e2:du L (n+1)=iI L (cJ L (du L n)) (29 - n):=by funext s;rfl
  rw[e,e2]
  intro m s
  exact Av hc (qI (fa n)) (Ha (fa n)) (fun _=>by rw[←h1] at ih;intro m s;exact JH hc (fa n) (ih (by omega)) (by omega))
end
structure Ps where
 cs:List (List Nat×Int)
 ts:List (List Nat×List Stm)
 rc:List Stm
 rd:Bool
section
variable (L:List Tok)
def bK (T:Tok):Int:=if T.n<1048576 then T.n else 1048576
def sP (s:Rs):(List Nat×Int)×Rs:=
 if aY L [91] (bc L s).2=true then
  if (aJ L (aj (bc L s).2).a).k=2 then (((bc L s).1,bK (aJ L (aj (bc L s).2).a)),aZ L [59] (aZ L [93] (aj (aj (bc L s).2))))
  else (((bc L s).1,1),aZ L [59] (aZ L [93] (bp 2 (aj (bc L s).2))))
 else (((bc L s).1,1),aZ L [59] (bc L s).2)
def kI (s:Rs):(List Nat×List Stm)×Rs:=(((bc L s).1,(du L 30 (bc L s).2).1),(du L 30 (bc L s).2).2)
abbrev eu:List Nat:= [114,101,99,111,118,101,114]
def bi (rec:Bool) (s:Rs):Rs:=if rec=true/\(aJ L s.a).k=4/\(aJ L s.a).t=eu then bp 5 s else s
def EN (rec:Bool) (s:Rs):List Stm×Rs:=du L 30 (aZ L eu (bi L rec s))
def ft (P:Ps) (s:Rs):Ps×Rs:=
 if aY L [99,101,108,108] s=true then (⟨P.cs++ [(sP L (aj s)).1],P.ts,P.rc,P.rd⟩,(sP L (aj s)).2)
 else if aY L [116,104,114,101,97,100] s=true then (⟨P.cs,P.ts++ [(kI L (aj s)).1],P.rc,P.rd⟩,(kI L (aj s)).2)
 else (⟨P.cs,P.ts,(EN L P.rd s).1,true⟩,(EN L P.rd s).2)
end
abbrev TP (mR:NH) (vc vt:NV):D4->Prop:=fun i=>¬am mR i/\i∉ids vc/\i∉ids vt
structure PD (mR M:NH) (r:D4) (vl:NV) (s:Rs) (P:Ps) (vc vt vr:NV):Prop where
 hd:RD M r vl s [.bool P.rd,vc,vt,vr]
 cc:aU mR M vc 2 (jH P.cs)
 tt:∃C,aU mR M vt 2 C/\C.length=P.ts.length/\∀(j:Nat) (x:List Nat×List Stm) (c:List NV),P.ts[j]? =some x->C[j]? =some c->∃vb B,c= [.str x.1,vb]/\SS M (TP mR vc vt) vb x.2 B
 rr:∃C,SS M (TP mR vc vt) vr P.rc C
 dd:∀i∈ids vc,i∉ids vt
 oo:∀i,am mR i->am M i
 oR:am mR r
section
variable {m0 mR:NH} {L:List Tok} {vl vc vt vr:NV} {r:D4} {M M':NH} {s s':Rs} {P:Ps}
theorem PD.call (h:PD mR M r vl s P vc vt vr) (hC:Chg [r] M M') (hd:RD M' r vl s' [.bool P.rd,vc,vt,vr]):PD mR M' r vl s' P vc vt vr:=by
 have hn:∀{v e C},aU mR M v e C->∀i∈ids v,i∉ [r]:=fun hv i hi hs=>by
  have hs:=one hs;subst hs;exact hv.new _ hi h.oR
 have hst:aX (TP mR vc vt) M M':=aX.of hC fun i hi hs=>by
  have hs:=one hs;subst hs;exact hi.1 h.oR
 obtain ⟨C,t1,t2,t3⟩:=h.tt
 obtain ⟨D,r1⟩:=h.rr
 exact ⟨hd,h.cc.chg hC (hn h.cc),⟨C,t1.chg hC (hn t1),t2,fun j x c a b=>by obtain ⟨vb,B,e,q⟩:=t3 j x c a b;exact ⟨vb,B,e,q.stays hst⟩⟩,⟨D,r1.stays hst⟩,h.dd,fun i hi=>hC.old (h.oo i hi),h.oR⟩
theorem PD.grow (h:PD mR M r vl s P vc vt vr) (hC:Chg [] M M'):PD mR M' r vl s P vc vt vr:=h.call (hC.weak (by simp)) (h.hd.chg hC (by simp))
end
section
variable {mR:NH} {vl vc vt vr:NV} {r:D4} {M:NH} {s:Rs} {P:Ps}
theorem ng (h:PD mR M r vl s P vc vt vr) {v:NV} {M5 M6:NH} {c:List Nat×Int} (h5:Chg [] M M5) (hv:aU mR M6 v 2 (jH P.cs++ [[.str c.1,ii c.2]])) (h6:Chg (ids vc) M5 M6) (hF:bC M5 vc v):
 PD mR (hp [(.o r,.cells true [vl,ii s.a,ii s.e,ii s.b,.bool P.rd,v,vt,vr])] 0 M6) r vl s ⟨P.cs++ [c],P.ts,P.rc,P.rd⟩ v vt vr:=by
 have h:=h.grow h5
 have o5:=h.oo
 have hr6:am M6 r:=h6.old h.hd.o
 have hC:Chg [r] M6 (hp [(.o r,.cells true [vl,ii s.a,ii s.e,ii s.b,.bool P.rd,v,vt,vr])] 0 M6):=aC rfl
 obtain ⟨C,t1,t2,t3⟩:=h.tt
 obtain ⟨D,r1⟩:=h.rr
 have hvt:∀i∈ids vt,i∉ids vc:=fun i hi hc=>h.dd i hc hi
 have nr:∀{v e C M},aU mR M v e C->∀i∈ids v,i∉ [r]:=fun hv i hi hs=>by
  have hs:=one hs;subst hs;exact hv.new _ hi h.oR
 have hS:∀{w:NV} {l:List Stm} {C:List (List NV)},SS M5 (TP mR vc vt) w l C->SS (hp [(.o r,.cells true [vl,ii s.a,ii s.e,ii s.b,.bool P.rd,v,vt,vr])] 0 M6) (TP mR v vt) w l C:=fun q=>by
  have q1:SS M5 (fun i=>TP mR vc vt i/\am M5 i) _ _ _:=⟨q.sl,fun i hi=>⟨q.hT i hi,q.sl.old i hi⟩,q.len,fun i x c a b=>(q.R i x c a b).old⟩
  have q2:=q1.stays (m':=M6) (aX.of h6 fun i hi hs=>hi.1.2.1 hs)
  have q3:=q2.stays (aX.of hC fun i hi hs=>by
   have hs:=one hs;subst hs;exact hi.1.1 h.oR)
  exact q3.weak fun i hi=>⟨hi.1.1,fun a=>(hF i a).elim hi.1.2.1 fun z=>z hi.2,hi.1.2.2⟩
 refine ⟨⟨(aF hr6).trans ap,bJ hr6⟩, ?_,⟨C,(t1.chg h6 hvt).chg hC (nr t1),t2,fun j x c a b=>by obtain ⟨vb,B,e,q⟩:=t3 j x c a b;exact ⟨vb,B,e,hS q⟩⟩,⟨D,hS r1⟩,fun i hi ht=>(hF i hi).elim (fun a=>h.dd i a ht) fun z=>z (t1.sl.old i ht),fun i hi=>hC.old (h6.old (o5 i hi)),h.oR⟩
 have e:jH (P.cs++ [c])=jH P.cs++ [[.str c.1,ii c.2]]:=by simp
 show aU mR _ v 2 (jH (P.cs++ [c]))
 rw[e]
 exact hv.chg hC (nr hv)
theorem BQ (h:PD mR M r vl s P vc vt vr) {v vb:NV} {B C:List (List NV)} {M6:NH} {n:List Nat} {b:List Stm} (hb:SS M (TP mR vc vt) vb b B) (t1:aU mR M vt 2 C) (t2:C.length=P.ts.length) (t3:∀(j:Nat) (x:List Nat×List Stm) (c:List NV),P.ts[j]? =some x->C[j]? =some c->∃vb B,c= [.str x.1,vb]/\SS M (TP mR vc vt) vb x.2 B)
 (hv':aU mR M6 v 2 (C++ [[.str n,vb]])) (h6:Chg (ids vt) M M6) (hF:bC M vt v):
 PD mR (hp [(.o r,.cells true [vl,ii s.a,ii s.e,ii s.b,.bool P.rd,vc,v,vr])] 0 M6) r vl s ⟨P.cs,P.ts++ [(n,b)],P.rc,P.rd⟩ vc v vr:=by
 have o5:=h.oo
 have hr6:am M6 r:=h6.old h.hd.o
 have hC:Chg [r] M6 (hp [(.o r,.cells true [vl,ii s.a,ii s.e,ii s.b,.bool P.rd,vc,v,vr])] 0 M6):=aC rfl
 obtain ⟨D,r1⟩:=h.rr
 have nr:∀{v e C M},aU mR M v e C->∀i∈ids v,i∉ [r]:=fun hv i hi hs=>by
  have hs:=one hs;subst hs;exact hv.new _ hi h.oR
 have hS:∀{w:NV} {l:List Stm} {C:List (List NV)},SS M (TP mR vc vt) w l C->SS (hp [(.o r,.cells true [vl,ii s.a,ii s.e,ii s.b,.bool P.rd,vc,v,vr])] 0 M6) (TP mR vc v) w l C:=fun q=>by
  have q1:SS M (fun i=>TP mR vc vt i/\am M i) _ _ _:=⟨q.sl,fun i hi=>⟨q.hT i hi,q.sl.old i hi⟩,q.len,fun i x c a b=>(q.R i x c a b).old⟩
  have q2:=q1.stays (m':=M6) (aX.of h6 fun i hi hs=>hi.1.2.2 hs)
  have q3:=q2.stays (aX.of hC fun i hi hs=>by
   have hs:=one hs;subst hs;exact hi.1.1 h.oR)
  exact q3.weak fun i hi=>⟨hi.1.1,hi.1.2.1,fun a=>(hF i a).elim hi.1.2.2 fun z=>z hi.2⟩
 refine ⟨⟨(aF hr6).trans ap,bJ hr6⟩,(h.cc.chg h6 h.dd).chg hC (nr h.cc),⟨C++ [[.str n,vb]],hv'.chg hC (nr hv'),by simp[t2],fun j x c a b'=> ?_⟩,⟨D,hS r1⟩,fun i hi ht=>(hF i ht).elim (fun a=>h.dd i hi a) fun z=>z (h.cc.sl.old i hi),fun i hi=>hC.old (h6.old (o5 i hi)),h.oR⟩
 rcases Nat.lt_or_ge j P.ts.length with q|q
 ·rw[List.getElem?_append_left q] at a
  rw[List.getElem?_append_left (by omega)] at b'
  obtain ⟨w,B2,e,q2⟩:=t3 j x c a b'
  exact ⟨w,B2,e,hS q2⟩
 ·rw[List.getElem?_append_right q] at a
  rw[List.getElem?_append_right (by omega),t2] at b'
  cases hj:j - P.ts.length with
  |zero=>rw[hj] at a b';cases a;cases b';exact ⟨vb,B,rfl,hS hb⟩
  |succ k=>rw[hj] at a;simp at a
theorem DH (h:PD mR M r vl s P vc vt vr) {v:NV} {C:List (List NV)} {b:List Stm} (hb:SS M (TP mR vc vt) v b C) {l:List (AK×NO)} (hl:∀i∈aB l,i=r):
 PD mR (hp ((.o r,.cells true [vl,ii s.a,ii s.e,ii s.b,.bool true,vc,vt,v])::l) 0 M) r vl s ⟨P.cs,P.ts,b,true⟩ vc vt v:=by
 have hC:Chg [r] M (hp ((.o r,.cells true [vl,ii s.a,ii s.e,ii s.b,.bool true,vc,vt,v])::l) 0 M):=(aC rfl).weak fun i hi _=>by
  simp only[aB,Rp] at hi ⊢
  rcases hi with rfl|hi
  ·exact Or.inl rfl
  ·exact Or.inl (hl i hi)
 have nr:∀{v e C M},aU mR M v e C->∀i∈ids v,i∉ [r]:=fun hv i hi hs=>by
  have hs:=one hs;subst hs;exact hv.new _ hi h.oR
 obtain ⟨D,t1,t2,t3⟩:=h.tt
 have hst:aX (TP mR vc vt) M (hp ((.o r,.cells true [vl,ii s.a,ii s.e,ii s.b,.bool true,vc,vt,v])::l) 0 M):=aX.of hC fun i hi hs=>by
  have hs:=one hs;subst hs;exact hi.1 h.oR
 exact ⟨⟨(aF h.hd.o).trans ap,bJ h.hd.o⟩,h.cc.chg hC (nr h.cc),⟨D,t1.chg hC (nr t1),t2,fun j x c a b=>by obtain ⟨w,B,e,q⟩:=t3 j x c a b;exact ⟨w,B,e,q.stays hst⟩⟩,⟨C,hb.stays hst⟩,h.dd,fun i hi=>hC.old (h.oo i hi),h.oR⟩
end
section
variable {m0 mR:NH} {L:List Tok} {vl vc vt vr:NV} {r:D4}
theorem Pp (hc:RC m0 L vl r) (h0R:∀i,am m0 i->am mR i) {m:NH} {s:Rs} {P:Ps} (h0:Chg [] m0 m) (hp0:PD mR m r vl s P vc vt vr) (ha:s.a<=L.length) (hcs:P.cs.length<=100000) (hts:P.ts.length<=100000):
 ∃m',aS Tryz.prog S0 42 [.ptr r 0] m (.tup []) m'/\Chg [] m0 m'/\∃vc' vt' vr',PD mR m' r vl (ft L P s).2 (ft L P s).1 vc' vt' vr':=by
 refine WF.ex1 fun K hK=> ?_
 refine WF.of_wpG (fun _=>rfl) yq (L:= [(.e,.ptr r 0)]) rfl ?_
 unfold KI
 have hll:=hc.len
 have hbase:∀{M M':NH},Chg [] m0 M->Chg [r] M M'->Chg [] m0 M':=fun h h'=>hc.chg h h'
 simp (disch:=first|assumption|omega) only[go_sem,seval,aa]
 refine WF.use1H (dp hc h0 hp0.hd [99,101,108,108] (by simp) (by omega)) ?_
 rintro M1 ⟨hd1,hC1⟩
 unfold ft at hK
 cases hb:aY L [99,101,108,108] s with
 |true=>
  rw[hb,Rj rfl] at hd1 hK
  have hlt:=(bG hb).2
  have hp1:=hp0.call hC1 hd1
  have h01:=hbase h0 hC1
  simp (disch:=first|assumption|omega) only[go_sem,seval,aa]
  refine WF.use1H (md hc h01 hp1.hd (by have:(aj s).a=s.a+1:=rfl;omega)) ?_
  rintro M2 ⟨hd2,hC2⟩
  have hp2:=hp1.call hC2 hd2
  have h02:=hbase h01 hC2
  have hlim2:=(cC L (aj s)).lim hlt
  unfold sP at hK
  generalize bc L (aj s)=q at hd2 hp2 hlim2 hK
  obtain ⟨n,s2⟩:=q
  dsimp only at hd2 hp2 hlim2 hK
  simp (disch:=first|assumption|omega|(simp only[aI]<;>omega)) only[go_sem,seval]
  generalize hM3:hp _ 1 M2=M3
  have hC3:Chg [] M2 M3:=ba hM3 rfl
  have hg3:M3.get (na M2 0)=some (.cells true [.str n,ii 1]):=bz hM3
  have ho3:am M3 (na M2 0):=bw hM3 (by omega)
  have hp3:=hp2.grow hC3
  have h03:=h02.trans hC3 (by simp)
  refine WF.use1H (dp hc h03 hp3.hd [91] (by simp) (by omega)) ?_
  rintro M4 ⟨hd4,hC4⟩
  have hr2:na M2 0≠r:=fun e=>hp2.hd.o.ne 0 e.symm
  have hp4:=hp3.call hC4 hd4
  have h04:=hbase h03 hC4
  have hg4:=(hC4.get ho3 (by simpa using hr2)).trans hg3
  have ho4:=hC4.old ho3
  cases hb4:aY L [91] s2 with
  |true=>
   rw[hb4,Rj rfl] at hK hd4
   have hlt4:=(bG hb4).2
   have he4:=(bG hb4).1
   have hC24:Chg [r] M2 M4:=(hC3.weak (by simp)).trans hC4 fun _ h _=>h
   have hp4:=hp2.call hC24 hd4
   simp (disch:=first|assumption|omega) only[go_sem,seval,aa]
   refine WF.use1H (iP hc h04 hp4.hd) ?_
   intro M5 hC5
   have hC25:Chg [r] M2 M5:=hC24.trans hC5 (by simp)
   have hp5:=hp4.grow hC5
   have h05:=h04.trans hC5 (by simp)
   have hg5:=(hC5.get ho4 (by simp)).trans hg4
   have ho5:=hC5.old ho4
   have hl:(Tok.l (aJ L (aj s2).a)).length=4:=rfl
   have hdg:=hp5.hd.g
   have hdo:=hp5.hd.o
   have he5:(aj s2).e=0:=he4
   have hlim5:(aj s2).a<=L.length:=hlt4
   have hst:1<=(aJ L (aj s2).a).k/\(aJ L (aj s2).a).k<=4->St L (aj s2) (aj (aj s2)):=fun h=>il (mj (by omega)) he5 h
   generalize hT:aJ L (aj s2).a=T at hK hl hst
   generalize hs3:aj s2=s3 at hK hp5 hdg he5 hlim5 hst
   have rest:∀{M6:NH} {s6:Rs} {z:Int},Chg [r] M2 M6->RD M6 r vl s6 [.bool P.rd,vc,vt,vr]->s6.a<=L.length->M6.get (na M2 0)=some (.cells true [.str n,ii z])->am M6 (na M2 0)->
    ∃m',aS Tryz.prog S0 70 [.ptr r 0,.str [93]] M6 (.tup []) m'/\PD mR m' r vl (aZ L [93] s6) P vc vt vr/\Chg [] m0 m'/\(aZ L [93] s6).a<=L.length/\m'.get (na M2 0)=some (.cells true [.str n,ii z])/\am m' (na M2 0):=by
    intro M6 s6 z q1 q2 q3 q4 q5
    obtain ⟨m',w1,w2,w3⟩:=gi hc (hbase h02 q1) q2 [93] (by simp) (by omega)
    have w4:Chg [r] M2 m':=q1.trans w3 fun _ h _=>h
    exact ⟨m',w1,hp2.call w4 w2,hbase h02 w4,(bS L [93] s6).lim q3,(w3.get q5 (by simpa using hr2)).trans q4,w3.old q5⟩
   have hr2':r≠na M2 0:=fun e=>hr2 e.symm
   have hbn:∀{l:List (AK×NO)} {k:Nat},(∀i∈aB l,i=r∨i=na M2 0)->Chg [r] M2 (hp l k M5):=fun hl=>hC25.trans (aC rfl) fun i hi ho=>(hl i hi).elim (fun h=>by simp[h]) fun h=>Rh (h▸ho) az
   by_cases hk:T.k=2
   ·rw[Rj hk] at hK
    have hst6:=(hst (by omega)).lim hlim5
    by_cases hn:T.n<1048576
    ·have hz:bK T=(T.n:Int):=by unfold bK;rw[Rj hn]
     rw[hz] at hK
     simp (disch:=first|assumption|omega|(simp only[aI]<;>omega)) only[go_sem,seval,hl,pS,PE,hdg,hg5]
     generalize hM6:hp _ 1 M5=M6
     have hC26:Chg [r] M2 M6:=by rw[←hM6];exact hbn (by simp[aB])
     have hd6:RD M6 r vl (aj s3) [.bool P.rd,vc,vt,vr]:=⟨by rw[←hM6];exact (aF hdo).trans ap,by rw[←hM6];exact bJ hdo⟩
     have hg6:M6.get (na M2 0)=some (.cells true [.str n,ii T.n]):=by rw[←hM6];exact (aF ho5).trans ((bh hr2).trans ap)
     have ho6:am M6 (na M2 0):=by rw[←hM6];exact bJ ho5
     refine WF.use1 (rest hC26 hd6 hst6 hg6 ho6) ?_
     rintro M7 ⟨hp7,h07,hlim7,hg7,ho7⟩
     simp (disch:=first|assumption|omega) only[go_sem,seval]
     refine WF.use1H (gi hc h07 hp7.hd [59] (by simp) (by omega)) ?_
     rintro M5 ⟨hd5,hC5⟩
     have hp5:=hp7.call hC5 hd5
     have h05:=hbase h07 hC5
     have hg5:=(hC5.get ho7 (by simpa using hr2)).trans hg7
     have ho5:=hC5.old ho7
     have hdg:=hp5.hd.g
     have hdo:=hp5.hd.o
     have hcl:=hp5.cc.sl.one
     have hcs':=hp5.cc.sl.same (n:=3)
     simp (disch:=first|assumption|omega|(simp only[aI]<;>omega)) only[go_sem,seval,hg5,hdg,hcl,hcs']
     have hC6:Chg [] M5 (hp [(.n 0,.cells true [.str n,ii T.n])] 1 M5):=aC rfl
     refine cZ (cs:= [.str n,ii T.n]) (B:=mR) (hp5.cc.chg hC6 fun _ _=>by simp) bo (bv (by omega)) rfl (fun i hi=>hC6.old (hp5.oo i hi)) (by simp;omega) (by simp;omega) ?_
     intro v6 M6 hv6 hC7 hF6
     have hg6:=(hC7.get (hC6.old hdo) (fun h=>hp5.cc.new _ h hp5.oR)).trans ((hC6.get hdo (by simp)).trans hdg)
     have ho6:=hC7.old (hC6.old hdo)
     have hPD:=ng (c:=(n,(T.n:Int))) hp5 hC6 hv6 hC7 hF6
     simp (disch:=first|assumption|omega|(simp only[aI]<;>omega)) only[go_sem,seval,hg6,hv6.sl.one]
     refine hK _ ⟨?_,v6,vt,vr,hPD⟩
     refine ((h05.trans hC6 (by simp)).trans hC7 fun i hi ho=>Rh (h0R i ho) (hp5.cc.new i hi)).trans (aC rfl) fun i hi ho=> ?_
     simp only[aB,Rp,Rm,or_false] at hi
     subst hi;exact Rh ho hc.no
    ·have hz:bK T=1048576:=by unfold bK;rw[Ri hn]
     rw[hz] at hK
     simp (disch:=first|assumption|omega|(simp only[aI]<;>omega)) only[go_sem,seval,hl,pS,PE,hdg,hg5]
     generalize hM6:hp _ 1 M5=M6
     have hC26:Chg [r] M2 M6:=by rw[←hM6];exact hbn (by simp[aB])
     have hd6:RD M6 r vl (aj s3) [.bool P.rd,vc,vt,vr]:=⟨by rw[←hM6];exact (aF hdo).trans ap,by rw[←hM6];exact bJ hdo⟩
     have hg6:M6.get (na M2 0)=some (.cells true [.str n,ii 1048576]):=by rw[←hM6];exact (aF ho5).trans ((bh hr2).trans ap)
     have ho6:am M6 (na M2 0):=by rw[←hM6];exact bJ ho5
     refine WF.use1 (rest hC26 hd6 hst6 hg6 ho6) ?_
     rintro M7 ⟨hp7,h07,hlim7,hg7,ho7⟩
     simp (disch:=first|assumption|omega) only[go_sem,seval]
     refine WF.use1H (gi hc h07 hp7.hd [59] (by simp) (by omega)) ?_
     rintro M5 ⟨hd5,hC5⟩
     have hp5:=hp7.call hC5 hd5
     have h05:=hbase h07 hC5
     have hg5:=(hC5.get ho7 (by simpa using hr2)).trans hg7
     have ho5:=hC5.old ho7
     have hdg:=hp5.hd.g
     have hdo:=hp5.hd.o
     have hcl:=hp5.cc.sl.one
     have hcs':=hp5.cc.sl.same (n:=3)
     simp (disch:=first|assumption|omega|(simp only[aI]<;>omega)) only[go_sem,seval,hg5,hdg,hcl,hcs']
     have hC6:Chg [] M5 (hp [(.n 0,.cells true [.str n,ii 1048576])] 1 M5):=aC rfl
     refine cZ (cs:= [.str n,ii 1048576]) (B:=mR) (hp5.cc.chg hC6 fun _ _=>by simp) bo (bv (by omega)) rfl (fun i hi=>hC6.old (hp5.oo i hi)) (by simp;omega) (by simp;omega) ?_
     intro v6 M6 hv6 hC7 hF6
     have hg6:=(hC7.get (hC6.old hdo) (fun h=>hp5.cc.new _ h hp5.oR)).trans ((hC6.get hdo (by simp)).trans hdg)
     have ho6:=hC7.old (hC6.old hdo)
     have hPD:=ng (c:=(n,1048576)) hp5 hC6 hv6 hC7 hF6
     simp (disch:=first|assumption|omega|(simp only[aI]<;>omega)) only[go_sem,seval,hg6,hv6.sl.one]
     refine hK _ ⟨?_,v6,vt,vr,hPD⟩
     refine ((h05.trans hC6 (by simp)).trans hC7 fun i hi ho=>Rh (h0R i ho) (hp5.cc.new i hi)).trans (aC rfl) fun i hi ho=> ?_
     simp only[aB,Rp,Rm,or_false] at hi
     subst hi;exact Rh ho hc.no
   ·rw[Ri hk] at hK
    simp (disch:=first|assumption|omega|(simp only[aI]<;>omega)) only[go_sem,seval,hl,pS,PE,hdg,hg5]
    generalize hM6:hp _ 1 M5=M6
    have hC6:Chg [] M5 M6:=ba hM6 rfl
    refine WF.use1 (gT (hp5.grow hC6).hd 2) ?_
    rintro M6' ⟨hd6,hC6'⟩
    have hC26:Chg [r] M2 M6':=(hC25.trans hC6 (by simp)).trans hC6' fun _ h _=>h
    have hg6:=(hC6'.get (hC6.old ho5) (by simpa using hr2)).trans ((hC6.get ho5 (by simp)).trans hg5)
    have ho6:=hC6'.old (hC6.old ho5)
    simp (disch:=first|assumption|omega) only[go_sem,seval]
    refine WF.use1 (rest hC26 hd6 ((b8 L 2 s3).lim hlim5) hg6 ho6) ?_
    rintro M7 ⟨hp7,h07,hlim7,hg7,ho7⟩
    simp (disch:=first|assumption|omega) only[go_sem,seval]
    refine WF.use1H (gi hc h07 hp7.hd [59] (by simp) (by omega)) ?_
    rintro M5 ⟨hd5,hC5⟩
    have hp5:=hp7.call hC5 hd5
    have h05:=hbase h07 hC5
    have hg5:=(hC5.get ho7 (by simpa using hr2)).trans hg7
    have ho5:=hC5.old ho7
    have hdg:=hp5.hd.g
    have hdo:=hp5.hd.o
    have hcl:=hp5.cc.sl.one
    have hcs':=hp5.cc.sl.same (n:=3)
    simp (disch:=first|assumption|omega|(simp only[aI]<;>omega)) only[go_sem,seval,hg5,hdg,hcl,hcs']
    have hC6:Chg [] M5 (hp [(.n 0,.cells true [.str n,ii 1])] 1 M5):=aC rfl
    refine cZ (cs:= [.str n,ii 1]) (B:=mR) (hp5.cc.chg hC6 fun _ _=>by simp) bo (bv (by omega)) rfl (fun i hi=>hC6.old (hp5.oo i hi)) (by simp;omega) (by simp;omega) ?_
    intro v6 M6 hv6 hC7 hF6
    have hg6:=(hC7.get (hC6.old hdo) (fun h=>hp5.cc.new _ h hp5.oR)).trans ((hC6.get hdo (by simp)).trans hdg)
    have ho6:=hC7.old (hC6.old hdo)
    have hPD:=ng (c:=(n,1)) hp5 hC6 hv6 hC7 hF6
    simp (disch:=first|assumption|omega|(simp only[aI]<;>omega)) only[go_sem,seval,hg6,hv6.sl.one]
    refine hK _ ⟨?_,v6,vt,vr,hPD⟩
    refine ((h05.trans hC6 (by simp)).trans hC7 fun i hi ho=>Rh (h0R i ho) (hp5.cc.new i hi)).trans (aC rfl) fun i hi ho=> ?_
    simp only[aB,Rp,Rm,or_false] at hi
    subst hi;exact Rh ho hc.no
  |false=>
   rw[hb4,Ri Bool.false_ne_true] at hK hd4
   have hp4:=hp3.call hC4 hd4
   simp (disch:=first|assumption|omega) only[go_sem,seval,aa]
   refine WF.use1H (gi hc h04 hp4.hd [59] (by simp) (by omega)) ?_
   rintro M5 ⟨hd5,hC5⟩
   have hp5:=hp4.call hC5 hd5
   have h05:=hbase h04 hC5
   have hg5:=(hC5.get ho4 (by simpa using hr2)).trans hg4
   have ho5:=hC5.old ho4
   have hdg:=hp5.hd.g
   have hdo:=hp5.hd.o
   have hcl:=hp5.cc.sl.one
   have hcs':=hp5.cc.sl.same (n:=3)
   simp (disch:=first|assumption|omega|(simp only[aI]<;>omega)) only[go_sem,seval,hg5,hdg,hcl,hcs']
   have hC6:Chg [] M5 (hp [(.n 0,.cells true [.str n,ii 1])] 1 M5):=aC rfl
   refine cZ (cs:= [.str n,ii 1]) (B:=mR) (hp5.cc.chg hC6 fun _ _=>by simp) bo (bv (by omega)) rfl (fun i hi=>hC6.old (hp5.oo i hi)) (by simp;omega) (by simp;omega) ?_
   intro v6 M6 hv6 hC7 hF6
   have hg6:=(hC7.get (hC6.old hdo) (fun h=>hp5.cc.new _ h hp5.oR)).trans ((hC6.get hdo (by simp)).trans hdg)
   have ho6:=hC7.old (hC6.old hdo)
   have hPD:=ng (c:=(n,1)) hp5 hC6 hv6 hC7 hF6
   simp (disch:=first|assumption|omega|(simp only[aI]<;>omega)) only[go_sem,seval,hg6,hv6.sl.one]
   refine hK _ ⟨?_,v6,vt,vr,hPD⟩
   refine ((h05.trans hC6 (by simp)).trans hC7 fun i hi ho=>Rh (h0R i ho) (hp5.cc.new i hi)).trans (aC rfl) fun i hi ho=> ?_
   simp only[aB,Rp,Rm,or_false] at hi
   subst hi;exact Rh ho hc.no
 |false=>
  have ne1:¬(aY L [99,101,108,108] s=true):=by rw[hb];exact Bool.false_ne_true
  rw[hb,Ri Bool.false_ne_true] at hd1
  rw[Ri ne1] at hK
  have hp1:=hp0.call hC1 hd1
  have h01:=hbase h0 hC1
  simp (disch:=first|assumption|omega) only[go_sem,seval,aa]
  refine WF.use1H (dp hc h01 hp1.hd [116,104,114,101,97,100] (by simp) (by omega)) ?_
  rintro M2 ⟨hd2,hC2⟩
  have h02:=hbase h01 hC2
  have tpw:∀{M:NH},PD mR M r vl s P vc vt vr->True:=fun _=>trivial
  cases hb2:aY L [116,104,114,101,97,100] s with
  |true=>
   rw[hb2,Rj rfl] at hd2 hK
   have hlt:=(bG hb2).2
   have hp2:=hp1.call hC2 hd2
   simp (disch:=first|assumption|omega) only[go_sem,seval,aa]
   refine WF.use1H (md hc h02 hp2.hd (by have:(aj s).a=s.a+1:=rfl;omega)) ?_
   rintro M3 ⟨hd3,hC3⟩
   have hp3:=hp2.call hC3 hd3
   have h03:=hbase h02 hC3
   have hlim3:=(cC L (aj s)).lim hlt
   unfold kI at hK
   generalize bc L (aj s)=q at hd3 hp3 hlim3 hK
   obtain ⟨n,s3⟩:=q
   dsimp only at hd3 hp3 hlim3 hK
   simp (disch:=first|assumption|omega|(simp only[aI]<;>omega)) only[go_sem,seval]
   generalize hM4:hp _ 1 M3=M4
   have hC4:Chg [] M3 M4:=ba hM4 rfl
   have hg4:M4.get (na M3 0)=some (.cells true [.str n,.nils]):=bz hM4
   have ho4:am M4 (na M3 0):=bw hM4 (by omega)
   have hr3:na M3 0≠r:=fun e=>hp3.hd.o.ne 0 e.symm
   have hp4:=hp3.grow hC4
   have h04:=h03.trans hC4 (by simp)
   refine WF.useH (Fv hc 30 (Nat.le_refl _) h04 hp4.hd hlim3) ?_
   rintro v5 M5 ⟨⟨C5,hb5⟩,hd5,hC5⟩
   generalize du L 30 s3=q at hb5 hd5 hK
   obtain ⟨b,s5⟩:=q
   dsimp only at hb5 hd5 hK
   have hg5:=(hC5.get ho4 (by simpa using hr3)).trans hg4
   have ho5:=hC5.old ho4
   have hC35:Chg [r] M3 M5:=(hC4.weak (by simp)).trans hC5 fun _ h _=>h
   have hp5:=hp3.call hC35 hd5
   have hdg:=hp5.hd.g
   have hdo:=hp5.hd.o
   obtain ⟨CT,t1,t2,-⟩:=hp5.tt
   have hcl:=t1.sl.one
   have hcs':=t1.sl.same (n:=3)
   have hr3':r≠na M3 0:=fun e=>hr3 e.symm
   obtain ⟨CT4,t41,-,-⟩:=hp4.tt
   have hbT:SS M5 (fun i=>TP mR vc vt i/\i≠na M3 0) v5 b C5:=hb5.weak fun i hi=>⟨⟨fun h=>hi (hp4.oo i h),fun h=>hi (hp4.cc.sl.old i h),fun h=>hi (t41.sl.old i h)⟩,fun h=>hi (h▸ho4)⟩
   simp (disch:=first|assumption|omega|(simp only[aI]<;>omega)) only[go_sem,seval,hg5,hdg,hb5.sl.one,hcl,hcs']
   have hCb:Chg [na M3 0] M5 (hp [(.n 0,.cells true [.str n,v5]),(.o (na M3 0),.cells true [.str n,v5])] 1 M5):=aC rfl
   have hxb:(hp [(.n 0,.cells true [.str n,v5]),(.o (na M3 0),.cells true [.str n,v5])] 1 M5).get (na M5 0)=some (.cells true [.str n,v5]):=bo
   have hob:am (hp [(.n 0,.cells true [.str n,v5]),(.o (na M3 0),.cells true [.str n,v5])] 1 M5) (na M5 0):=bv (by omega)
   generalize hp [(.n 0,.cells true [.str n,v5]),(.o (na M3 0),.cells true [.str n,v5])] 1 M5=Mb at hCb hxb hob ⊢
   have hCb3:Chg [r] M3 Mb:=hC35.trans hCb fun i hi ho=>by
    have hi:=one hi;subst hi;exact Rh ho az
   have hpb:=hp3.call hCb3 (hd5.chg hCb (by simpa using hr3'))
   have h0b:=hbase h03 hCb3
   have hbb:SS Mb (TP mR vc vt) v5 b C5:=(hbT.stays (aX.of hCb fun i hi hs=>by
    simp only[Rp,Rm,or_false] at hs;exact hi.2 hs)).weak fun i hi=>hi.1
   obtain ⟨CTb,tb1,tb2,tb3⟩:=hpb.tt
   have hdgb:=hpb.hd.g
   have hdob:=hpb.hd.o
   refine cZ (cs:= [.str n,v5]) (B:=mR) tb1 hxb hob rfl (fun i hi=>hpb.oo i hi) (by omega) (by omega) ?_
   intro v6 M6 hv6 hC7 hF6
   have hg6:=(hC7.get hdob (fun h=>tb1.new _ h hpb.oR)).trans hdgb
   have ho6:=hC7.old hdob
   have hPD:=BQ (n:=n) hpb hbb tb1 tb2 tb3 hv6 hC7 hF6
   simp (disch:=first|assumption|omega|(simp only[aI]<;>omega)) only[go_sem,seval,hg6,hv6.sl.one]
   refine hK _ ⟨?_,vc,v6,vr,hPD⟩
   refine (h0b.trans hC7 fun i hi ho=>Rh (h0R i ho) (tb1.new i hi)).trans (aC rfl) fun i hi ho=> ?_
   simp only[aB,Rp,Rm,or_false] at hi
   subst hi;exact Rh ho hc.no
  |false=>
   have ne2:¬(aY L [116,104,114,101,97,100] s=true):=by rw[hb2];exact Bool.false_ne_true
   rw[hb2,Ri Bool.false_ne_true] at hd2
   rw[Ri ne2] at hK
   have hp2:=hp1.call hC2 hd2
   have hdg:=hp2.hd.g
   have hl0:(aJ L s.a).l[0]? =some (ii (aJ L s.a).k):=rfl
   have hl1:(aJ L s.a).l[1]? =some (.str (aJ L s.a).t):=rfl
   unfold EN at hK
   have fin:∀{M:NH},PD mR M r vl (bi L P.rd s) P vc vt vr->Chg [] m0 M->∃m',aS Tryz.prog S0 70 [.ptr r 0,.str eu] M (.tup []) m'/\PD mR m' r vl (aZ L eu (bi L P.rd s)) P vc vt vr/\Chg [] m0 m':=by
    intro M q1 q2
    have ha2:(bi L P.rd s).a<=100000:=by
     have h1:St L s (bi L P.rd s):=by unfold bi;split;exact b8 _ _ _;exact St.refl _ _
     have:=h1.lim ha
     omega
    obtain ⟨m',w1,w2,w3⟩:=gi hc q2 q1.hd eu (by simp) ha2
    exact ⟨m',w1,q1.call w3 w2,hbase q2 w3⟩
   have hst3:(aZ L eu (bi L P.rd s)).a<=L.length:=by
    have h1:St L s (bi L P.rd s):=by unfold bi;split;exact b8 _ _ _;exact St.refl _ _
    exact (h1.trans (bS _ _ _)).lim ha
   have fin2:∀{M:NH},PD mR M r vl (aZ L eu (bi L P.rd s)) P vc vt vr->Chg [] m0 M->PD mR (hp [(.o r,.cells true [vl,ii (aZ L eu (bi L P.rd s)).a,ii (aZ L eu (bi L P.rd s)).e,ii (aZ L eu (bi L P.rd s)).b,.bool true,vc,vt,vr])] 0 M) r vl (aZ L eu (bi L P.rd s)) ⟨P.cs,P.ts,P.rc,true⟩ vc vt vr/\Chg [] m0 (hp [(.o r,.cells true [vl,ii (aZ L eu (bi L P.rd s)).a,ii (aZ L eu (bi L P.rd s)).e,ii (aZ L eu (bi L P.rd s)).b,.bool true,vc,vt,vr])] 0 M):=by
    intro M q1 q2
    obtain ⟨C,q3⟩:=q1.rr
    exact ⟨DH q1 q3 (by simp[aB]),hbase q2 (aC rfl)⟩
   have fin3:∀{M:NH},PD mR M r vl (aZ L eu (bi L P.rd s)) ⟨P.cs,P.ts,P.rc,true⟩ vc vt vr->Chg [] m0 M->∃v m',aS Tryz.prog S0 71 [.ptr r 0,ii 0] M v m'/\cellsOf v=some [v]/\m'.get r=some (.cells true [vl,ii (du L 30 (aZ L eu (bi L P.rd s))).2.a,ii (du L 30 (aZ L eu (bi L P.rd s))).2.e,ii (du L 30 (aZ L eu (bi L P.rd s))).2.b,.bool true,vc,vt,vr])/\am m' r/\
    K (.tup []) (hp [(.o r,.cells true [vl,ii (du L 30 (aZ L eu (bi L P.rd s))).2.a,ii (du L 30 (aZ L eu (bi L P.rd s))).2.e,ii (du L 30 (aZ L eu (bi L P.rd s))).2.b,.bool true,vc,vt,v])] 0 m'):=by
    intro M q1 q2
    obtain ⟨v,m',w1,⟨C,w2⟩,w3,w4⟩:=Fv hc 30 (Nat.le_refl _) q2 q1.hd hst3
    have q3:=q1.call w4 w3
    obtain ⟨CT,t1,-,-⟩:=q1.tt
    have w5:SS m' (TP mR vc vt) v (du L 30 (aZ L eu (bi L P.rd s))).1 C:=w2.weak fun i hi=>⟨fun h=>hi (q1.oo i h),fun h=>hi (q1.cc.sl.old i h),fun h=>hi (t1.sl.old i h)⟩
    refine ⟨v,m',w1,w2.sl.one,w3.g,w3.o,hK _ ⟨(hbase q2 w4).trans (aC rfl) fun i hi ho=> ?_,vc,vt,v,DH q3 w5 (by simp[aB])⟩⟩
    simp only[aB,Rp,Rm,or_false] at hi
    subst hi;exact Rh ho hc.no
   have no:∀{M},PD mR M r vl s P vc vt vr->¬(P.rd=true/\(aJ L s.a).k=4/\(aJ L s.a).t=eu)->PD mR M r vl (bi L P.rd s) P vc vt vr:=fun h q=>by rw[bi,Ri q];exact h
   cases hrd:P.rd with
   |false=>
    rw[hrd] at hdg
    simp (disch:=first|assumption|omega) only[go_sem,seval,hdg,aa]
    refine WF.use1H (fin (no hp2 (by rw[hrd];simp)) h02) ?_
    rintro M7 ⟨hp7,h07⟩
    have hdg7:=hp7.hd.g
    have hdo7:=hp7.hd.o
    obtain ⟨hp8,h08⟩:=fin2 hp7 h07
    obtain ⟨v9,M9,hr9,hv9,hg9,ho9,hK9⟩:=fin3 hp8 h08
    simp (disch:=first|assumption|omega|(simp only[aI]<;>omega)) only[go_sem,seval,hdg7,hr9.wf,hv9,hg9]
    exact hK9
   |true=>
    rw[hrd] at hdg
    obtain ⟨M3,hr3,hC3⟩:=iP hc h02 hp2.hd
    have hp3:=hp2.grow hC3
    have h03:=h02.trans hC3 (by simp)
    obtain ⟨M4,hr4,hC4⟩:=iP hc h03 hp3.hd
    have hp4:=hp3.grow hC4
    have h04:=h03.trans hC4 (by simp)
    by_cases hk:(aJ L s.a).k=4
    ·by_cases ht:(aJ L s.a).t=eu
     ·simp (disch:=first|assumption|omega) only[go_sem,seval,hdg,hr3.wf',hr4.wf',hl0,hl1,aa]
      refine WF.use1 (gT hp4.hd 5) ?_
      rintro M5 ⟨hd5,hC5⟩
      have hp5:=hp4.call hC5 hd5
      have e5:bi L P.rd s=bp 5 s:=by rw[bi,Rj ⟨hrd,hk,ht⟩]
      simp (disch:=first|assumption|omega) only[go_sem,seval]
      refine WF.use1H (fin (by rw[e5];exact hp5) (hbase h04 hC5)) ?_
      rintro M7 ⟨hp7,h07⟩
      have hdg7:=hp7.hd.g
      have hdo7:=hp7.hd.o
      obtain ⟨hp8,h08⟩:=fin2 hp7 h07
      obtain ⟨v9,M9,hr9,hv9,hg9,ho9,hK9⟩:=fin3 hp8 h08
      simp (disch:=first|assumption|omega|(simp only[aI]<;>omega)) only[go_sem,seval,hdg7,hr9.wf,hv9,hg9]
      exact hK9
     ·simp (disch:=first|assumption|omega) only[go_sem,seval,hdg,hr3.wf',hr4.wf',hl0,hl1,aa]
      refine WF.use1H (fin (no hp4 fun h=>ht h.2.2) h04) ?_
      rintro M7 ⟨hp7,h07⟩
      have hdg7:=hp7.hd.g
      have hdo7:=hp7.hd.o
      obtain ⟨hp8,h08⟩:=fin2 hp7 h07
      obtain ⟨v9,M9,hr9,hv9,hg9,ho9,hK9⟩:=fin3 hp8 h08
      simp (disch:=first|assumption|omega|(simp only[aI]<;>omega)) only[go_sem,seval,hdg7,hr9.wf,hv9,hg9]
      exact hK9
    ·simp (disch:=first|assumption|omega) only[go_sem,seval,hdg,hr3.wf',hr4.wf',hl0,hl1,aa]
     refine WF.use1H (fin (no hp3 fun h=>hk h.2.1) h03) ?_
     rintro M7 ⟨hp7,h07⟩
     have hdg7:=hp7.hd.g
     have hdo7:=hp7.hd.o
     obtain ⟨hp8,h08⟩:=fin2 hp7 h07
     obtain ⟨v9,M9,hr9,hv9,hg9,ho9,hK9⟩:=fin3 hp8 h08
     simp (disch:=first|assumption|omega|(simp only[aI]<;>omega)) only[go_sem,seval,hdg7,hr9.wf,hv9,hg9]
     exact hK9
end
def cM (L:List Tok):Nat->Ps->Rs->Ps×Rs
 |0,P,s=>(P,s)
 |f+1,P,s=>if s.e≠0 then (P,s) else if (aJ L s.a).k=5 then (P,s) else cM L f (ft L P s).1 (ft L P s).2
def iU (b:List Nat):Option Prg×Nat×Nat:=if 16384<b.length then (none,0,3) else match (dr b).2 with
 |some a=>(none,a,2)
 |none=>if (cM (dr b).1 ((dr b).1.length+1) ⟨[], [], [],false⟩ ⟨0,0,0⟩).2.e≠0 then (none,(aJ (dr b).1 (cM (dr b).1 ((dr b).1.length+1) ⟨[], [], [],false⟩ ⟨0,0,0⟩).2.b).p,(cM (dr b).1 ((dr b).1.length+1) ⟨[], [], [],false⟩ ⟨0,0,0⟩).2.e)
  else (some ⟨(cM (dr b).1 ((dr b).1.length+1) ⟨[], [], [],false⟩ ⟨0,0,0⟩).1.cs,(cM (dr b).1 ((dr b).1.length+1) ⟨[], [], [],false⟩ ⟨0,0,0⟩).1.ts,(cM (dr b).1 ((dr b).1.length+1) ⟨[], [], [],false⟩ ⟨0,0,0⟩).1.rc⟩,b.length,0)
section
variable {L:List Tok}
theorem rm (s:Rs):St L s (sP L s).2:=by
 unfold sP
 split
 ·rename_i h
  have h1:=(cC L s).trans (ei h)
  split
  ·rename_i h2
   exact ((h1.trans (il (mj (by omega)) (bG h).1 (by omega))).trans (bS _ _ _)).trans (bS _ _ _)
  ·exact ((h1.trans (b8 _ _ _)).trans (bS _ _ _)).trans (bS _ _ _)
 ·exact (cC L s).trans (bS _ _ _)
theorem qA (s:Rs):St L s (kI L s).2:=(cC L s).trans (fa 30 _)
theorem o8 (q:Bool) (s:Rs):St L s (bi L q s):=by unfold bi;split;exact b8 _ _ _;exact St.refl _ _
theorem I6 (q:Bool) (s:Rs):St L s (EN L q s).2:=((o8 q s).trans (bS _ _ _)).trans (fa 30 _)
theorem Do (P:Ps) (s:Rs):St L s (ft L P s).2:=by
 unfold ft
 split
 ·exact (ei ‹_›).trans (rm _)
 ·split
  ·exact (ei ‹_›).trans (qA _)
  ·exact I6 _ _
theorem JK (P:Ps) (s:Rs) (he:s.e=0):s.a<(ft L P s).2.a∨(ft L P s).2.e≠0:=by
 unfold ft
 split
 ·left;have:=(rm (L:=L) (aj s)).le;exact this
 ·split
  ·left;have:=(qA (L:=L) (aj s)).le;exact this
  ·have hb:=fa (L:=L) 30 (aZ L eu (bi L P.rd s))
   by_cases h:(aZ L eu (bi L P.rd s)).e=0
   ·left
    obtain ⟨h1,h2⟩:=dP h
    have h3:=(o8 (L:=L) P.rd s).le
    have h4:=hb.le
    show s.a<(du L 30 _).2.a
    omega
   ·right;show (du L 30 _).2.e≠0
    rw[hb.err h];exact h
theorem y6 (P:Ps) (s:Rs):(ft L P s).1.cs.length+(ft L P s).1.ts.length<=P.cs.length+P.ts.length+1:=by
 unfold ft
 split
 ·simp;omega
 ·split
  ·simp;omega
  ·dsimp only;omega
theorem zG:∀(f:Nat) (P:Ps) (s:Rs),St L s (cM L f P s).2:=by
 intro f
 induction f with
 |zero=>exact fun P s=>St.refl _ _
 |succ f ih=>
  intro P s
  rw[cM]
  split
  ·exact St.refl _ _
  ·split
   ·exact St.refl _ _
   ·exact (Do P s).trans (ih _ _)
def Ps.sz (P:Ps):Nat:=(P.ts.map fun t=>cI t.2).sum+cI P.rc
theorem J2 (P:Ps) (s:Rs) (h:(ft L P s).2.e=0) (hrd:P.rd=false->P.rc= []):(ft L P s).1.sz+4*s.a<=P.sz+4*(ft L P s).2.a/\((ft L P s).1.rd=false->(ft L P s).1.rc= []):=by
 unfold ft at h ⊢
 split
 ·have:=(rm (L:=L) (aj s)).le
  have n:(aj s).a=s.a+1:=rfl
  refine ⟨?_,hrd⟩
  simp only[Ps.sz];omega
 ·rename_i q;rw[Ri q] at h
  split
  ·rename_i q2;rw[Rj q2] at h
   have h1:=AS (L:=L) 30 (bc L (aj s)).2 h
   have h2:=(cC L (aj s)).le
   have n:(aj s).a=s.a+1:=rfl
   refine ⟨?_,hrd⟩
   simp only[Ps.sz,List.map_append,List.map_cons,List.map_nil,List.sum_append,List.sum_cons,List.sum_nil,kI];omega
  ·rename_i q2;rw[Ri q2] at h
   have h1:=AS (L:=L) 30 _ h
   have h0:=(fa (L:=L) 30 _).zero h
   obtain ⟨h2,h3⟩:=dP h0
   have h4:=(o8 (L:=L) P.rd s).zero h2
   have h5:(bi L P.rd s).a=s.a:=by unfold bi;split;unfold bp;split<;>rfl;rfl
   refine ⟨?_,fun h=>by simp at h⟩
   simp only[Ps.sz,EN];omega
theorem IC:∀(f:Nat) (P:Ps) (s:Rs) (a0:Nat),(P.rd=false->P.rc= [])->(s.e=0->P.sz+4*a0<=4*s.a)->(cM L f P s).2.e=0->(cM L f P s).1.sz+4*a0<=4*(cM L f P s).2.a:=by
 intro f
 induction f with
 |zero=>intro P s a0 _ h h2;exact h h2
 |succ f ih=>
  intro P s a0 hrd h
  rw[cM]
  split
  ·intro h2;exact Rh h2 ‹_›
  ·split
   ·intro h2;exact h h2
   ·intro h2
    have h3:=(zG (L:=L) f _ _).zero h2
    have h4:=J2 P s h3 hrd
    refine ih _ _ a0 h4.2 (fun _=> ?_) h2
    have:=h (by omega)
    omega
end
section
variable {m0 mR:NH} {L:List Tok} {vl:NV} {r:D4}
theorem Cd (hc:RC m0 L vl r) (h0R:∀i,am m0 i->am mR i) {vb:NV} {X:Ps} {Z:Rs} {M:NH} {P:Ps} {s:Rs} {vc vt vr:NV} (h0:Chg [] m0 M) (hp:PD mR M r vl s P vc vt vr) (ha:s.a<=L.length) (hl:P.cs.length+P.ts.length=0) (hE:cM L (L.length+1) P s=(X,Z))
 {o:D4} {t:Tm} (g1:NT.get D4.e t=some vb) (g2:NT.get D4.e.a.f t=some (.ptr r 0)) (g3:NT.get D4.e.b t=some (.ptr o 0)) (g4:NT.get D4.e.a.a t=some vl) {Q:Out->Dyn->Prop}
 (hQ:∀t' M' vc vt vr,NT.get D4.e t'=some vb->NT.get D4.e.a.f t'=some (.ptr r 0)->NT.get D4.e.b t'=some (.ptr o 0)->NT.get D4.e.a.a t'=some vl->PD mR M' r vl Z X vc vt vr->Chg [] m0 M'->Q (.exit 0) ⟨ai [] t', [],none,M'⟩):
 W Tryz.prog S0 none wm.loop ⟨t, [],none,M⟩ Q:=by
 refine W.loop (fun k D=>∃t M P s vc vt vr,D=⟨t, [],none,M⟩/\NT.get D4.e t=some vb/\NT.get D4.e.a.f t=some (.ptr r 0)/\NT.get D4.e.b t=some (.ptr o 0)/\NT.get D4.e.a.a t=some vl/\PD mR M r vl s P vc vt vr/\Chg [] m0 M/\s.a<=L.length/\cM L k P s=(X,Z)/\(L.length<k+s.a∨s.e≠0)/\P.cs.length+P.ts.length+k<=L.length+1) ?_ (L.length+1) _ ⟨t,M,P,s,vc,vt,vr,rfl,g1,g2,g3,g4,hp,h0,ha,hE,Or.inl (by omega),by omega⟩
 clear h0 hp ha hl hE g1 g2 g3 g4
 rintro k D ⟨t,M,P,s,vc,vt,vr,rfl,g1,g2,g3,g4,hp,h0,ha,hE,hf,hlk⟩
 apply ao
 unfold wm
 change wp _ _ _ _ ⟨ai [] t, [],none,M⟩ _
 have hll:=hc.len
 have hdg:=hp.hd.g
 by_cases he:s.e=0
 ·obtain ⟨f,rfl⟩:∃f',k=f'+1:=⟨k - 1,by rcases hf with h|h<;>omega⟩
  rw[cM,Ri (by omega)] at hE
  obtain ⟨M2,hr2,hC2⟩:=iP hc h0 hp.hd
  have hp2:=hp.grow hC2
  have h02:=h0.trans hC2 (by simp)
  have hl0:(aJ L s.a).l[0]? =some (ii (aJ L s.a).k):=rfl
  by_cases hk:(aJ L s.a).k=5
  ·rw[Rj hk] at hE
   injection hE with e1 e2
   subst e1 e2
   simp (disch:=first|assumption|omega) only[go_sem,seval,g1,g2,g3,g4,hdg,hr2.wf',hl0]
   exact hQ _ M2 vc vt vr (by simp only[go_sem,seval,g1]) (by simp only[go_sem,seval,g2]) (by simp only[go_sem,seval,g3]) (by simp only[go_sem,seval,g4]) hp2 h02
  ·rw[Ri hk] at hE
   simp (disch:=first|assumption|omega) only[go_sem,seval,g1,g2,g3,g4,hdg,hr2.wf',hl0]
   refine WF.use1 (Pp hc h0R h02 hp2 ha (by omega) (by omega)) ?_
   rintro M3 ⟨h03,vc',vt',vr',hp3⟩
   have hpr:=JK (L:=L) P s he
   have hlim:=(Do (L:=L) P s).lim ha
   have hlen:=y6 (L:=L) P s
   simp (disch:=first|assumption|omega) only[go_sem,seval]
   refine ⟨f,by omega,_,M3,_,_,vc',vt',vr',by rfl,by simp only[go_sem,seval,g1],by simp only[go_sem,seval,g2],by simp only[go_sem,seval,g3],by simp only[go_sem,seval,g4],hp3,h03,hlim,hE, ?_,by omega⟩
   rcases hpr with h|h
   ·left;rcases hf with q|q<;>omega
   ·exact Or.inr h
 ·have hde':decide ((s.e:Int)=0)=false:=Rk (by omega)
  have hE':(P,s)=(X,Z):=by
   cases k with
   |zero=>exact hE
   |succ k=>rw[cM,Rj he] at hE;exact hE
  injection hE' with e1 e2
  subst e1 e2
  simp (disch:=first|assumption|omega) only[go_sem,seval,g1,g2,g3,g4,hdg,hde']
  exact hQ _ M vc vt vr (by simp only[go_sem,seval,g1]) (by simp only[go_sem,seval,g2]) (by simp only[go_sem,seval,g3]) (by simp only[go_sem,seval,g4]) hp h0
theorem CV:∀(l:List Tok) (b:List Nat) (w:Int),PC b w l->∀a,1<=(aJ l a).k->(aJ l a).k<=4->a<l.length - 1:=by
 intro l
 induction l with
 |nil=>intro b w _ a h1;simp[aJ] at h1
 |cons x l ih=>
  intro b w h a h1 h2
  obtain ⟨-,-,-,-,h5,h6⟩:=h
  cases a with
  |zero=>
   have e:aJ (x::l) 0=x:=rfl
   rw[e] at h1 h2
   have:l≠ []:=fun q=>by have:=h5.mpr q;omega
   have:=List.length_pos_iff.mpr this
   simp;omega
  |succ a=>
   have e:aJ (x::l) (a+1)=aJ l a:=by simp[aJ]
   rw[e] at h1 h2
   have:=ih b x.p h6 a h1 h2
   simp;omega
theorem BH {m:NH} {v:NV} {b:List Nat} (hv:Sl m v 1 (mS b)) (hb:∀c∈b,c<256):
 ∃w m',aS Tryz.prog S0 7 [v] m w m'/\(∃vc vt vr,w= .tup [.agg [vc,vt,vr],ii (iU b).2.1,ii (iU b).2.2]/\(match (iU b).1 with|none=>vc= .nils/\vt= .nils/\vr= .nils/\(iU b).2.2≠0|some p=>RP m' (oT m) p vc vt vr/\(iU b).2.2=0/\p.cs.length+p.ts.length<=b.length+2/\(p.ts.map fun t=>cI t.2).sum+cI p.r<=4*(b.length+1)))/\Chg [] m m':=by
 refine WF.ex fun K hK=> ?_
 refine WF.of_wpG (fun _=>rfl) Ep (L:= [(.e,v)]) rfl ?_
 unfold PZ
 have hlen:=hv.len
 rw[show (mS b).length=b.length by simp] at hlen
 simp (disch:=first|assumption|omega) only[go_sem,seval]
 generalize hM1:hp _ 1 m=M1
 have hC1:Chg [] m M1:=ba hM1 rfl
 have hg1:M1.get (na m 0)=some (.cells true [.nils,.nils,.nils]):=bz hM1
 have ho1:am M1 (na m 0):=bw hM1 (by omega)
 obtain ⟨w2,M2,hr2,hw2,hC2⟩:=E0 M1 (hv.chg hC1 fun _ _=>by simp) hb
 have hg2:=(hC2.get ho1 (by simp)).trans hg1
 have ho2:=hC2.old ho1
 have hC02:=hC1.trans hC2 (by simp)
 unfold iU at hK
 by_cases h16:16384<b.length
 ·rw[Rj h16] at hw2 hK
  subst hw2
  simp (disch:=first|assumption|omega|(simp only[aI]<;>omega)) only[go_sem,seval,hr2.wf,hg2]
  exact hK _ _ ⟨⟨.nils,.nils,.nils,rfl,rfl,rfl,rfl,by show (3:Nat)≠0;omega⟩,hC02.trans (aC rfl) (by simp[aB,az])⟩
 ·rw[Ri h16] at hw2 hK
  cases ht:(dr b).2 with
  |some a=>
   rw[ht] at hw2 hK
   dsimp only at hw2 hK
   subst hw2
   simp (disch:=first|assumption|omega|(simp only[aI]<;>omega)) only[go_sem,seval,hr2.wf,hg2]
   exact hK _ _ ⟨⟨.nils,.nils,.nils,rfl,rfl,rfl,rfl,by show (2:Nat)≠0;omega⟩,hC02.trans (aC rfl) (by simp[aB,az])⟩
  |none=>
   rw[ht] at hw2 hK
   dsimp only at hw2 hK
   obtain ⟨u,rfl,hu⟩:=hw2
   obtain ⟨hok,hne⟩:=Ic ht
   have hll:(dr b).1.length<=b.length+1:=lI b (b.length+1) (bx b 0)
   have hlast:=CV _ _ _ hok
   generalize (dr b).1=L at hu hok hne hll hlast hK
   have hlp:=List.length_pos_iff.mpr hne
   simp (disch:=first|assumption|omega|(simp only[aI]<;>omega)) only[go_sem,seval,hr2.wf,hg2,hu.sl.one]
   generalize hM3:hp _ 1 M2=M3
   have hC3:Chg [] M2 M3:=ba hM3 rfl
   have hg3:M3.get (na M2 0)=some (.cells true [u,ii 0,ii 0,ii 0,.bool false,.nils,.nils,.nils]):=bz hM3
   have ho3:am M3 (na M2 0):=bw hM3 (by omega)
   have hc:RC M2 L u (na M2 0):=⟨hu.sl,by omega,az⟩
   have hp0:PD M3 M3 (na M2 0) u ⟨0,0,0⟩ ⟨[], [], [],false⟩ .nils .nils .nils:=⟨⟨hg3,ho3⟩,aU.nil,⟨[],aU.nil,rfl,by simp⟩,⟨[],uT _ _⟩,by simp[ids],fun i hi=>hi,ho3⟩
   have hst:=zG (L:=L) (L.length+1) ⟨[], [], [],false⟩ ⟨0,0,0⟩
   have hlim:=hst.lim2 hlast (Nat.zero_le _) (Nat.zero_le _)
   have hszp:=IC (L:=L) (L.length+1) ⟨[], [], [],false⟩ ⟨0,0,0⟩ 0 (fun _=>rfl) (fun _=>by simp[Ps.sz,cI])
   have hlenp:(cM L (L.length+1) ⟨[], [], [],false⟩ ⟨0,0,0⟩).1.cs.length+(cM L (L.length+1) ⟨[], [], [],false⟩ ⟨0,0,0⟩).1.ts.length<=L.length+1:=by
    have key:∀(f:Nat) (P:Ps) (s:Rs),(cM L f P s).1.cs.length+(cM L f P s).1.ts.length<=P.cs.length+P.ts.length+f:=by
     intro f
     induction f with
     |zero=>intro P s;exact Nat.le_refl _
     |succ f ih=>
      intro P s
      rw[cM]
      split
      ·dsimp only;omega
      ·split
       ·dsimp only;omega
       ·have h1:=ih (ft L P s).1 (ft L P s).2
        have h2:=y6 (L:=L) P s
        omega
    have:=key (L.length+1) ⟨[], [], [],false⟩ ⟨0,0,0⟩
    simpa using this
   generalize hE:cM L (L.length+1) ⟨[], [], [],false⟩ ⟨0,0,0⟩=q at hK hst hlim hszp hlenp
   obtain ⟨X,Z⟩:=q
   dsimp only at hK hst hlim hszp hlenp
   refine Cd hc (fun i hi=>hC3.old hi) (vb:=v) (o:=na m 0) hC3 hp0 (Nat.zero_le _) rfl hE (by simp only[go_sem,seval]) (by simp only[go_sem,seval]) (by simp only[go_sem,seval]) (by simp only[go_sem,seval]) ?_
   intro t' M4 vc vt vr g1 g2 g3 g4 hp4 h04
   have hdg:=hp4.hd.g
   have hdo:=hp4.hd.o
   have hg4:=(h04.get ho2 (by simp)).trans hg2
   have ho4:=h04.old ho2
   have hC04:Chg [] m M4:=hC02.trans h04 (by simp)
   have hlen4:=(hv.chg hC04 fun _ _=>by simp).len
   rw[show (mS b).length=b.length by simp] at hlen4
   rw[←aa M4]
   by_cases hz:Z.e=0
   ·rw[Ri (by omega)] at hK
    obtain ⟨CT,t1,t2,t3⟩:=hp4.tt
    obtain ⟨CR,r1⟩:=hp4.rr
    simp (disch:=first|assumption|omega|(simp only[aI]<;>omega)) only[go_sem,seval,g1,g2,g3,g4,hdg,hg4,hlen4,hp4.cc.sl.one,t1.sl.one,r1.sl.one]
    generalize hM5:hp _ 0 M4=M5
    have hC5:Chg [na m 0] M4 M5:=ba hM5 rfl
    have hCm3:Chg [] m M3:=hC02.trans hC3 (by simp)
    have hT:∀i,TP M3 vc vt i->i∉ [na m 0]:=fun i hi h=>by
     have h:=one h;subst h;exact hi.1 (hC3.old ho2)
    have hT2:∀i,TP M3 vc vt i->oT m i:=fun i hi h=>hi.1 (hCm3.old h)
    have nw:∀{w e C},aU M3 M4 w e C->∀i∈ids w,i∉ [na m 0]:=fun hw i hi h=>by
     have h:=one h;subst h;exact hw.new _ hi (hC3.old ho2)
    have hs0:=hszp hz
    refine hK _ _ ⟨⟨vc,vt,vr,rfl, ?_,rfl, ?_, ?_⟩,hC04.trans hC5 fun i hi ho=>by
     have hi:=one hi;subst hi;exact Rh ho az⟩
    ·refine ⟨hp4.cc.sl.chg hC5 (nw hp4.cc),fun i hi h=>hp4.cc.new i hi (hCm3.old h),⟨CT,t1.sl.chg hC5 (nw t1),fun i hi h=>t1.new i hi (hCm3.old h),t2,fun j x c a b'=> ?_⟩,⟨CR,(r1.stays (aX.of hC5 hT)).weak hT2⟩⟩
     obtain ⟨w,B,e,q⟩:=t3 j x c a b'
     exact ⟨w,B,e,(q.stays (aX.of hC5 hT)).weak hT2⟩
    ·dsimp only;omega
    ·have:X.sz<=4*(b.length+1):=by omega
     exact this
   ·rw[Rj hz] at hK
    have hb':Z.b<L.length:=by omega
    have hu4:=hu.sl.chg h04 fun _ _=>by simp
    have huo:=hu.chg h04 fun _ _=>by simp
    obtain ⟨id,off,c,a1,-,aN,a2,a3,a4,a5,-⟩:=huo.at Z.b (by simpa using hb')
    have hid:id≠na m 0:=fun e=>aN (e▸ho1)
    have hid':na m 0≠id:=fun e=>hid e.symm
    rw[List.getElem_map] at a5
    have c3:c[off+3]? =some (ii (L[Z.b]).p):=aA a5 3 (by omega)
    have en:aJ L Z.b=L[Z.b]:=by rw[aJ,List.getElem?_eq_getElem hb'];rfl
    rw[en] at hK
    have hde:decide ((Z.e:Int)≠0)=true:=Rl (by omega)
    have hus:=hu4.same (n:=3)
    have hr0:na M2 0≠na m 0:=fun e=>ho2.ne 0 e.symm
    have hr0':na m 0≠na M2 0:=fun e=>hr0 e.symm
    simp (disch:=first|assumption|omega|(simp only[aI]<;>omega)) only[go_sem,seval,g1,g2,g3,g4,hdg,hg4,hlen4,hde,a1,a2,c3,hus]
    refine hK _ _ ⟨⟨.nils,.nils,.nils,rfl,rfl,rfl,rfl,hz⟩, ?_⟩
    exact nh hC04 (by simp[aB,az])
end
mutual
def Stm.ae (P:Ex->Prop):Stm->Prop
 | .mk _ _ _ _ i x y b e=>P i/\P x/\P y/\pP P b/\pP P e
def pP (P:Ex->Prop):List Stm->Prop
 | []=>True
 |s::l=>s.ae P/\pP P l
end
theorem kB {P:Ex->Prop}:∀{l:List Stm},pP P l↔∀s∈l,s.ae P:=by
 intro l
 induction l with
 |nil=>simp[pP]
 |cons s l ih=>rw[pP,ih];simp
theorem Ao {P:Ex->Prop} {l:List Stm} (h:∀s∈l,∀u∈s.all,P u.i/\P u.x/\P u.y):∀u∈bg l,P u.i/\P u.x/\P u.y:=by
 induction l with
 |nil=>simp[bg]
 |cons s l ih=>
  intro u hu
  rw[bg] at hu
  rcases List.mem_append.1 hu with hu|hu
  ·exact h s (List.mem_cons_self ..) u hu
  ·exact ih (fun t ht=>h t (List.mem_cons_of_mem _ ht)) u hu
theorem L0 {P:Ex->Prop}:∀s:Stm,s.ae P->∀u∈s.all,P u.i/\P u.x/\P u.y:=by
 apply Stm.ind (P:=fun s=>s.ae P->∀u∈s.all,P u.i/\P u.x/\P u.y)
 intro k a nm ce i x y b e hb he h u hu
 rw[Stm.ae] at h
 rw[Stm.all] at hu
 rcases List.mem_cons.1 hu with rfl|hu
 ·exact ⟨h.1,h.2.1,h.2.2.1⟩
 ·rcases List.mem_append.1 hu with hu|hu
  ·split at hu
   ·exact Ao (fun s hs=>hb s hs (kB.1 h.2.2.2.1 s hs)) u hu
   ·simp at hu
  ·split at hu
   ·exact Ao (fun s hs=>he s hs (kB.1 h.2.2.2.2 s hs)) u hu
   ·simp at hu
structure ReadE (L:List Tok) (P:Ex->Prop):Prop where
 i:∀a,P (Fe (aJ L a).n)
 z:P zE
 n:∀s,P (vB s)
 o:∀o x y,P x->P y->P (x7 o x y)
section
variable {L:List Tok} {P:Ex->Prop}
theorem mZ (h:ReadE L P) {E:Rs->Ex×Rs} {d:Nat} (hE:∀s,P (E s).1):∀s,P (cN L E d s).1:=by
 intro s
 unfold cN
 split
 ·exact h.z
 split
 ·exact h.z
 split
 ·exact h.i _
 split
 ·exact h.n _
 split
 ·exact hE _
 ·exact h.z
theorem AV (h:ReadE L P) {Q:Rs->Ex×Rs} (hP:∀s,P (Q s).1):∀(f:Nat) (x:Ex) (s:Rs),P x->P (eT L Q f x s).1:=by
 intro f
 induction f with
 |zero=>intro x s h;exact h
 |succ f ih=>
  intro x s hx
  rw[eT]
  split
  ·exact hx
  split
  ·exact hx
  split
  ·exact hx
  ·exact ih _ _ (h.o _ _ _ hx (hP _))
theorem Hj (h:ReadE L P):∀(n:Nat) (s:Rs),P (iZ L n s).1:=by
 intro n
 induction n with
 |zero=>exact fun s=>AV h (mZ h fun s=>h.z) _ _ _ (mZ h (fun s=>h.z) s)
 |succ n ih=>exact fun s=>AV h (mZ h ih) _ _ _ (mZ h ih s)
theorem kG (h:ReadE L P) (s:Rs):P (ek L s).1:=Hj h 30 s
theorem pq (h:ReadE L P) (s:Rs):P (bm L s).2.1:=by
 unfold bm
 split
 ·exact kG h _
 ·exact h.z
theorem HD (h:ReadE L P) {B:Rs->List Stm×Rs} (hB:∀s,pP P (B s).1) (s:Rs):(cJ L B s).1.ae P:=by
 have z:=h.z
 have n:pP P []:=by rw[pP];trivial
 unfold cJ
 split
 ·show (Stm.mk ..).ae P;rw[Stm.ae];exact ⟨z,kG h _,z,n,n⟩
 split
 ·show (Stm.mk ..).ae P;rw[Stm.ae];exact ⟨pq h _,z,z,n,n⟩
 split
 ·show (Stm.mk ..).ae P;rw[Stm.ae];exact ⟨pq h _,kG h _,z,n,n⟩
 split
 ·show (Stm.mk ..).ae P;rw[Stm.ae];exact ⟨pq h _,kG h _,kG h _,n,n⟩
 split
 ·show (Stm.mk ..).ae P;rw[Stm.ae];exact ⟨z,z,z,n,n⟩
 split
 ·show (Stm.mk ..).ae P;rw[Stm.ae];exact ⟨z,kG h _,z,n,n⟩
 split
 ·unfold Jc
  split
  ·show (Stm.mk ..).ae P;rw[Stm.ae];exact ⟨z,kG h _,z,hB _,hB _⟩
  ·show (Stm.mk ..).ae P;rw[Stm.ae];exact ⟨z,kG h _,z,hB _,n⟩
 split
 ·show (Stm.mk ..).ae P;rw[Stm.ae];exact ⟨z,kG h _,z,hB _,n⟩
 ·show (Stm.mk ..).ae P;rw[Stm.ae];exact ⟨z,z,z,n,n⟩
theorem sH {S:Rs->Stm×Rs} (hS:∀s,(S s).1.ae P):∀(f:Nat) (l:List Stm) (s:Rs),pP P l->pP P (fI L S f l s).1:=by
 intro f
 induction f with
 |zero=>intro l s h;exact h
 |succ f ih=>
  intro l s h
  rw[fI]
  split
  ·exact h
  split
  ·exact h
  ·refine ih _ _ (kB.2 fun t ht=> ?_)
   rcases List.mem_append.1 ht with ht|ht
   ·exact kB.1 h t ht
   ·rw[List.mem_singleton] at ht;subst ht;exact hS _
theorem yW (h:ReadE L P):∀(n:Nat) (s:Rs),pP P (du L n s).1:=by
 intro n
 have n0:pP P []:=by rw[pP];trivial
 induction n with
 |zero=>exact fun s=>sH (fun s=>by rw[Stm.ae];exact ⟨h.z,h.z,h.z,n0,n0⟩) _ _ _ n0
 |succ n ih=>exact fun s=>sH (fun s=>HD h ih s) _ _ _ n0
def PF (P:Ex->Prop) (Q:Ps):Prop:=(∀t∈Q.ts,pP P t.2)/\pP P Q.rc
theorem Jz (h:ReadE L P) {Q:Ps} {s:Rs} (hq:PF P Q):PF P (ft L Q s).1:=by
 unfold ft
 split
 ·exact hq
 split
 ·refine ⟨fun t ht=> ?_,hq.2⟩
  rcases List.mem_append.1 ht with ht|ht
  ·exact hq.1 t ht
  ·rw[List.mem_singleton] at ht;subst ht;exact yW h 30 _
 ·exact ⟨hq.1,yW h 30 _⟩
theorem Hw (h:ReadE L P):∀(f:Nat) (Q:Ps) (s:Rs),PF P Q->PF P (cM L f Q s).1:=by
 intro f
 induction f with
 |zero=>intro Q s hq;exact hq
 |succ f ih=>
  intro Q s hq
  rw[cM]
  split
  ·exact hq
  split
  ·exact hq
  ·exact ih _ _ (Jz h hq)
end
theorem Ew {b:List Nat} {p:Prg} {P:Ex->Prop} (hP:ReadE (dr b).1 P) (h:(iU b).1=some p):(∀t∈p.ts,pP P t.2)/\pP P p.r:=by
 unfold iU at h
 split at h
 ·cases h
 ·split at h
  ·cases h
  ·split at h
   ·cases h
   ·injection h with h
    subst h
    exact Hw hP _ ⟨[], [], [],false⟩ ⟨0,0,0⟩ ⟨by simp,by show pP P [];rw[pP];trivial⟩
theorem Li:∀(l:List Nat) (n v:Nat),n<18446744073709551616->mg l n=some v->v<18446744073709551616:=by
 intro l
 induction l with
 |nil=>intro n v hn h;rw[mg] at h;cases h;exact hn
 |cons c l ih=>
  intro n v hn h
  rw[mg] at h
  split at h
  ·exact ih _ _ ‹_› h
  ·cases h
theorem Lq {s:List Nat} {a kd n e:Nat} {t:List Nat} (h:eY s a=some (kd,t,n,e)):n<18446744073709551616:=by
 unfold eY at h
 cases hb:s[a]? with
 |none=>rw[hb] at h;cases h
 |some c=>
  rw[hb] at h
  dsimp only at h
  split at h
  ·split at h
   ·cases h;omega
   ·split at h
    ·cases h;omega
    ·cases h
  ·split at h
   ·cases hv:Ck (cut s a (aV fe s a)) with
    |none=>rw[hv] at h;simp at h
    |some v=>
     rw[hv] at h
     have hvb:v<18446744073709551616:=by
      unfold Ck at hv
      split at hv
      ·cases hv
      ·exact Li _ _ _ (by omega) hv
     dsimp only at h
     split at h<;>cases h
     exact hvb
   ·split at h
    ·cases h;omega
    ·cases h
theorem GH {s:List Nat}:∀(k a:Nat),∀T∈(cW s k a).1,T.n<18446744073709551616:=by
 intro k
 induction k with
 |zero=>intro a T h;simp[cW] at h
 |succ k ih=>
  intro a T h
  rw[cW] at h
  split at h
  ·cases ht:eY s a with
   |none=>rw[ht] at h;simp at h
   |some q=>
    obtain ⟨kd,t,n,e⟩:=q
    rw[ht] at h
    dsimp only at h
    rcases List.mem_cons.1 h with rfl|h
    ·exact Lq ht
    ·exact ih _ T h
  ·rw[List.mem_singleton] at h;subst h;show (0:Nat)<_;omega
theorem OS (b:List Nat) (a:Nat):(aJ (dr b).1 a).n<18446744073709551616:=by
 unfold aJ
 cases h:(dr b).1[a]? with
 |none=>show (0:Nat)<_;omega
 |some T=>exact GH _ _ T (List.mem_of_getElem? h)
theorem Ge (b:List Nat):ReadE (dr b).1 Wid:=
 ⟨fun a=> .mk (OS b a) (by simp) (by simp),.mk (by omega) (by simp) (by simp),fun s=> .mk (by omega) (by simp) (by simp),fun o x y hx hy=> .mk (by omega) (by simp) fun z hz=>by
  simp only[Rp,Rm,or_false] at hz
  rcases hz with rfl|rfl
  ·exact hx
  ·exact hy⟩
theorem GT {Z:List (List Nat)}:∀(l:List Stm) (st:MI),jO (aW (j6 Z) l st).1.2=0->∀x∈l,x.k=1∨x.k=2∨x.k=3->x.ce∈Z:=by
 intro l
 induction l with
 |nil=>intro st _ x hx;simp at hx
 |cons a l ih=>
  intro st h x hx hk
  rw[aW] at h
  split at h
  ·rename_i h2
   rcases List.mem_cons.1 hx with rfl|hx
   ·unfold j6 at h2
    split at h2
    ·cases h2
    ·rename_i q
     refine Classical.byContradiction fun hz=>q ⟨hk,hz⟩
   ·exact ih _ h x hx hk
  ·rename_i h2
   unfold j6 at h h2
   split at h
   ·simp[jO] at h
   ·split at h
    ·simp[jO] at h
    ·split at h
     ·simp[jO] at h
     ·rename_i q1 q2 q3
      rw[Ri q1,Ri q2,Ri q3] at h2
      exact Rh rfl h2
theorem H4 {Z:List (List Nat)} {r:List Stm}:∀(L:List (List Stm)),(iC Z r L).2=0->(∀b∈L,jO (eE Z b)=0)/\jO (eE Z r)=0:=by
 intro L
 induction L with
 |nil=>intro h;exact ⟨by simp,h⟩
 |cons b L ih=>
  intro h
  rw[iC] at h
  split at h
  ·exact Rh h ‹_›
  ·rename_i q
   have:=ih h
   refine ⟨fun c hc=> ?_,this.2⟩
   rcases List.mem_cons.1 hc with rfl|hc
   ·simpa using q
   ·exact this.1 c hc
theorem BL:∀(l:List (List Nat×Int)) (seen:List (List Nat)) (w:Int),cK seen w l=0->∀c∈l,1<=c.2/\c.2<=64:=by
 intro l
 induction l with
 |nil=>intro _ _ _ c hc;simp at hc
 |cons a l ih=>
  intro seen w h c hc
  rw[cK] at h
  split at h
  ·cases h
  split at h
  ·cases h
  split at h
  ·cases h
  ·rename_i q1 q2 q3
   rcases List.mem_cons.1 hc with rfl|hc
   ·unfold mU at q2
    simp only[Bool.not_eq_false,decide_eq_true_eq] at q2
    exact ⟨q2.1,q2.2.1⟩
   ·exact ih _ _ h c hc
theorem Ox {b:List Nat} {p:Prg} (hp:(iU b).1=some p) (hz:∀t∈p.ts,cI t.2<=400000) (hr:cI p.r<=400000) (he:(gl p).2=0):PrgOk p:=by
 unfold gl at he
 split at he
 ·exact Rh he ‹_›
 ·rename_i hh
  have hh:mB p=0:=by simpa using hh
  obtain ⟨hb1,hb2⟩:=H4 _ he
  unfold mB at hh
  split at hh
  ·cases hh
  ·rename_i h1
   split at hh
   ·exact Rh hh ‹_›
   ·rename_i h2
    have hce:cK [] 0 p.cs=0:=by simpa using h2
    obtain ⟨w1,w2⟩:=Ew (Ge b) hp
    have key:∀l:List Stm,pP Wid l->jO (eE (xG p) l)=0->∀s∈l,Gs p.cs s:=fun l hl hE s hs u hu=>by
     have h3:=GT _ _ hE u (po hs hu)
     refine ⟨fun hk=> ?_,L0 s (kB.1 hl s hs) u hu⟩
     have:=h3 hk
     unfold xG at this
     rcases (fj _ _).1 this with q|q
     ·simp at q
     ·exact q
    exact ⟨⟨by omega,BL _ _ _ hce⟩,hz,hr,fun t ht s hs=>key t.2 (w1 t ht) (hb1 t.2 (List.mem_map_of_mem (f:=fun t:List Nat×List Stm=>t.2) ht)) s hs,fun s hs=>key p.r w2 hb2 s hs,by omega⟩
noncomputable def Fh (p:Prg) (s:Rn×Bool) (c:Int):Rn×Bool:=if c=-1 then (jJ p s.1.z,s.2) else ((iH p c s.1).2,(iH p c s.1).1&&s.2)
noncomputable def sm (p:Prg) (l:List Int):Rn×Bool:=l.foldl (Fh p) (jJ p (vM p),true)
theorem xd (p:Prg) (l:List Int) {i:Nat} (hi:i<l.length):sm p (l.take (i+1))=Fh p (sm p (l.take i)) l[i]:=by
 unfold sm
 rw[List.take_add_one,List.getElem?_eq_getElem hi,List.foldl_append]
 rfl
set_option maxRecDepth 100000 in
theorem HL {m:NH} {l:List NV} (h:Ty Tryz.prog m 23 l):∃v b,l= [v]/\Sl m v 1 (tf b):=by
 obtain ⟨v,C,rfl,hS,hm,hall⟩:=h.inv_slc Tryz.underlying23
 have key:∀C:List (List NV),(∀c∈C,Ty Tryz.prog m 3 c)->∃b:List Int,C=tf b:=by
  intro C
  induction C with
  |nil=>intro _;exact ⟨[],rfl⟩
  |cons c C ih=>
   intro h
   obtain ⟨n,rfl,hw⟩:=(h c (List.mem_cons_self ..)).inv_int Tryz.underlying3
   obtain ⟨l,rfl⟩:=ih fun x hx=>h x (List.mem_cons_of_mem _ hx)
   exact ⟨n::l,rfl⟩
 obtain ⟨b,rfl⟩:=key C hall
 exact ⟨v,b,rfl,hS⟩
theorem Qb {n:Int} (h:(Lit.int .u8 n).wf=true):0<=n/\n<256:=by
 have h1:IntKind.u8.min=0:=rfl
 have h2:IntKind.u8.max=255:=rfl
 simp only[Lit.wf,Bool.and_eq_true,decide_eq_true_eq,h1,h2] at h
 omega
set_option maxRecDepth 100000 in
theorem DV {m:NH} {l:List NV} (h:Ty Tryz.prog m 22 l):∃v b,l= [v]/\Sl m v 1 (mS b)/\∀x∈b,x<256:=by
 obtain ⟨v,C,rfl,hS,hm,hall⟩:=h.inv_slc Tryz.underlying22
 have key:∀C:List (List NV),(∀c∈C,Ty Tryz.prog m 5 c)->∃b:List Nat,C=mS b/\∀x∈b,x<256:=by
  intro C
  induction C with
  |nil=>intro _;exact ⟨[],rfl,by simp⟩
  |cons c C ih=>
   intro h
   obtain ⟨n,rfl,hw⟩:=(h c (List.mem_cons_self ..)).inv_int Tryz.underlying5
   obtain ⟨l,rfl,g⟩:=ih fun x hx=>h x (List.mem_cons_of_mem _ hx)
   have hn:=Qb hw
   obtain ⟨k,rfl⟩:=Rr hn.1
   exact ⟨k::l,rfl,by intro x hx;rcases List.mem_cons.mp hx with rfl|hx;omega;exact g x hx⟩
 obtain ⟨b,rfl,hf⟩:=key C hall
 exact ⟨v,b,rfl,hS,hf⟩
theorem HJ {l:List Nat} {x:Nat} (h:x∈l):x<=l.sum:=by
 induction l with
 |nil=>simp at h
 |cons a l ih=>
  rw[List.sum_cons]
  rcases List.mem_cons.mp h with rfl|h
  ·omega
  ·have:=ih h;omega
theorem gn.more {p:Prg} {B m:NH} {vc vt vr:NV} {r:D4} {x:Rn} {o o':Nat} {F:List D4} (h:gn p B vc vt vr m r x o F) (ho:o<=o'):gn p B vc vt vr m r x o' F:=by
 rcases h with ⟨a,b,c,d,e,f,g,i⟩|⟨a,b,c,d,e,f,g,h,i⟩
 ·exact Or.inl ⟨a,b,c,d,e,f,g.more ho,i⟩
 ·exact Or.inr ⟨a,b,c,d,e,f,g,h.more ho,i⟩
theorem IS (a:Bool):c7 .bool .eql (.bool a) (.bool a)=some (.bool true):=by cases a<;>rfl
theorem zh {m:NH} {T:D4->Prop} {p:Prg} {vc vt vr:NV} (h:RP m T p vc vt vr):RP m (fun _=>True) p vc vt vr:=by
 obtain ⟨C,hT⟩:=h.t
 obtain ⟨D,hR⟩:=h.r
 exact ⟨h.c,fun _ _=>trivial,⟨C,hT.sl,fun _ _=>trivial,hT.len,fun i x c a b=>by obtain ⟨vb,E,e,q⟩:=hT.R i x c a b;exact ⟨vb,E,e,SS.weakT (fun _ _=>trivial) q⟩⟩,⟨D,SS.weakT (fun _ _=>trivial) hR⟩⟩
theorem zQ (a:Bool):c7 .bool .neq (.bool a) (.bool a)=some (.bool false):=by cases a<;>rfl
theorem IH (z:Int) (m:NH):aS Tryz.prog S0 29 [ii z] m (ii z) m:=by
 have h:∃r m',aS Tryz.prog S0 29 [ii z] m r m'/\r=ii z/\m'=m:=by
  refine WF.ex fun K hK=> ?_
  refine WF.of_wpG (fun _=>rfl) yI (L:= [(.e,ii z)]) rfl ?_
  unfold Lh
  simp (disch:=first|assumption|omega) only[go_sem,seval,aa]
  exact hK _ _ ⟨rfl,rfl⟩
 obtain ⟨r,m',h1,rfl,rfl⟩:=h
 exact h1
theorem Om {m:NH} {v:NV} {b:List Nat} (hv:Sl m v 1 (mS b)):aS Tryz.prog S0 27 [v] m (.bool (decide (b.length<=1500))) m:=by
 have hlen:=hv.len
 rw[show (mS b).length=b.length by simp] at hlen
 have h:∃r m',aS Tryz.prog S0 27 [v] m r m'/\r= .bool (decide (b.length<=1500))/\m'=m:=by
  refine WF.ex fun K hK=> ?_
  refine WF.of_wpG (fun _=>rfl) Ag (L:= [(.e,v)]) rfl ?_
  unfold J6
  by_cases h:b.length<=1500
  ·rw[Rl h] at hK
   simp (disch:=first|assumption|omega) only[go_sem,seval,aa,hlen]
   exact hK _ _ ⟨rfl,rfl⟩
  ·rw[Rk h] at hK
   simp (disch:=first|assumption|omega) only[go_sem,seval,aa,hlen]
   exact hK _ _ ⟨rfl,rfl⟩
 obtain ⟨r,m',h1,rfl,rfl⟩:=h
 exact h1
structure Two (p:Prg) (B M2:NH) (vc1 vt1 vr1 vc vt vr:NV) (M:NH) (r s:D4) (x:Rn) (o:Nat) (vcl:NV):Prop where
 h:∃vo vth q bs F,fE p B vc1 vt1 vr1 M r x o vcl vo vth q bs/\gn p M2 vc vt vr M s x o F/\(∀i∈RunG.foot r vcl vo vth q bs,i∉F)/\(∀i∈F,¬am B i)
section
variable {p:Prg} {B M2 M M':NH} {vc1 vt1 vr1 vc vt vr vcl:NV} {r s:D4} {x:Rn} {o:Nat}
theorem Two.grow (h:Two p B M2 vc1 vt1 vr1 vc vt vr M r s x o vcl) (hC:Chg [] M M'):Two p B M2 vc1 vt1 vr1 vc vt vr M' r s x o vcl:=by
 obtain ⟨vo,vth,q,bs,F,h1,h2,h3,h4⟩:=h.h
 exact ⟨vo,vth,q,bs,F,h1.grow hC,h2.off hC (by simp) (by simp),h3,h4⟩
theorem Two.step (hB:Chg [] M2 B) (hc1:RunC p B vc1 vt1 vr1) (hc2:RunC p M2 vc vt vr) (ho:o+1<=1000000) (h:Two p B M2 vc1 vt1 vr1 vc vt vr M r s x o vcl) (c:Int):
 ∃Ma Mb,aS Tryz.prog S0 31 [.ptr r 0,ii c] M (.bool (iH p c x).1) Ma/\aS Tryz.prog S0 15 [.ptr s 0,ii c] Ma (.bool (iH p c x).1) Mb/\Chg [] M2 Ma/\Chg [] M2 Mb/\Two p B M2 vc1 vt1 vr1 vc vt vr Mb r s (iH p c x).2 (o+2) vcl:=by
 obtain ⟨vo,vth,q,bs,F,h1,h2,h3,h4⟩:=h.h
 obtain ⟨Ma,r1,vo1,q1,bs1,h5,e1⟩:=Kh hc1 ho h1 c
 have hF1:∀i∈RunG.foot r vcl vo vth q bs,¬am M2 i:=fun i hi w=>(h1.all i hi).2 (hB.old w)
 have h6:=h2.off e1.c (fun i hi w=>h3 i w hi) hF1
 obtain ⟨Mb,r2,F2,h7,e2⟩:=Kg hc2 ho h6 c
 have d1:∀i∈F,i∉RunG.foot r vcl vo1 vth q1 bs1:=fun i hi=>e1.nin (h2.all i hi).1 fun w=>h3 i w hi
 have h8:=h5.off e2.c (fun i hi w=>d1 i w hi) h4
 have hcB:Chg [] B Ma:=h5.mc.c
 have hcM:Chg [] M2 Ma:=hB.trans hcB (by simp)
 refine ⟨Ma,Mb,r1,r2,hcM,hcM.trans e2.c fun i hi w=>Rh w (h6.all i hi).2,vo1,vth,q1,bs1,F2,h8,h7,fun i hi=>e2.nin (h5.all i hi).1 fun w=>d1 i w hi,fun i hi w=>(e2.f i hi).elim (fun u=>h4 i u w) fun u=>u (hcB.old w)⟩
theorem Two.crash (hB:Chg [] M2 B) (hc1:RunC p B vc1 vt1 vr1) (hc2:RunC p M2 vc vt vr) (h:Two p B M2 vc1 vt1 vr1 vc vt vr M r s x o vcl):
 ∃Ma Mb,aS Tryz.prog S0 30 [.ptr r 0] M (.tup []) Ma/\aS Tryz.prog S0 13 [.ptr s 0] Ma (.tup []) Mb/\Chg [] M2 Ma/\Chg [] M2 Mb/\Two p B M2 vc1 vt1 vr1 vc vt vr Mb r s (jJ p x.z) o vcl:=by
 obtain ⟨vo,vth,q,bs,F,h1,h2,h3,h4⟩:=h.h
 obtain ⟨Ma,r1,vth1,q1,bs1,h5,e1⟩:=GR hc1 h1
 have hF1:∀i∈RunG.foot r vcl vo vth q bs,¬am M2 i:=fun i hi w=>(h1.all i hi).2 (hB.old w)
 have h6:=h2.off e1.c (fun i hi w=>h3 i w hi) hF1
 obtain ⟨Mb,r2,F2,h7,e2⟩:=ID hc2 h6
 have d1:∀i∈F,i∉RunG.foot r vcl vo vth1 q1 bs1:=fun i hi=>e1.nin (h2.all i hi).1 fun w=>h3 i w hi
 have h8:=h5.off e2.c (fun i hi w=>d1 i w hi) h4
 have hcB:Chg [] B Ma:=h5.mc.c
 have hcM:Chg [] M2 Ma:=hB.trans hcB (by simp)
 refine ⟨Ma,Mb,r1,r2,hcM,hcM.trans e2.c fun i hi w=>Rh w (h6.all i hi).2,vo,vth1,q1,bs1,F2,h8,h7,fun i hi=>e2.nin (h5.all i hi).1 fun w=>d1 i w hi,fun i hi w=>(e2.f i hi).elim (fun u=>h4 i u w) fun u=>u (hcB.old w)⟩
theorem Two.looks (hnt:p.ts.length<=1000) (hcs:CsOk p.cs) (ho:o<=1000000) (h:Two p B M2 vc1 vt1 vr1 vc vt vr M r s x o vcl):
 ∃A1 A2 A3 A4 A5 A6 A7 A8 o1 o2 c1 c2,aS Tryz.prog S0 32 [.ptr r 0] M (.bool (nA x)) A1/\aS Tryz.prog S0 19 [.ptr s 0] A1 (.bool (nA x)) A2/\aS Tryz.prog S0 33 [.ptr r 0] A2 (.bool x.z.ill) A3/\aS Tryz.prog S0 17 [.ptr s 0] A3 (.bool x.z.ill) A4/\
  aS Tryz.prog S0 34 [.ptr r 0] A4 o1 A5/\aS Tryz.prog S0 22 [.ptr s 0] A5 o2 A6/\aS Tryz.prog S0 21 [o1,o2] A6 (.bool true) A6/\aS Tryz.prog S0 35 [.ptr r 0] A6 c1 A7/\aS Tryz.prog S0 24 [.ptr s 0] A7 c2 A8/\aS Tryz.prog S0 21 [c1,c2] A8 (.bool true) A8/\Chg [] M A8:=by
 obtain ⟨vo,vth,q,bs,F,h1,h2,h3,h4⟩:=h.h
 have hol:=h1.ol
 have hcl:=h1.zk.n
 have hwb:=dc p.cs
 have hcl2:=hcs.len
 obtain ⟨A1,r1,C1⟩:=Ln h1 hnt
 have k1:=h1.grow C1
 have l1:=h2.off C1 (by simp) (by simp)
 obtain ⟨A2,r2,C2⟩:=L7 l1 hnt
 have k2:=k1.grow C2
 have l2:=l1.off C2 (by simp) (by simp)
 obtain ⟨A3,r3,C3⟩:=G3 (k2:fE ..)
 have k3:=k2.grow C3
 have l3:=l2.off C3 (by simp) (by simp)
 obtain ⟨A4,r4,C4⟩:=It l3
 have k4:=k3.grow C4
 have l4:=l3.off C4 (by simp) (by simp)
 obtain ⟨o1,A5,r5,w5,C5⟩:=MN (k4:fE ..) ho
 have k5:=k4.grow C5
 have l5:=l4.off C5 (by simp) (by simp)
 obtain ⟨o2,A6,r6,w6,C6⟩:=MM l5 ho
 have k6:=k5.grow C6
 have l6:=l5.off C6 (by simp) (by simp)
 obtain ⟨c1,A7,r7,w7,C7⟩:=DY (k6:fE ..) (by omega)
 have l7:=l6.off C7 (by simp) (by simp)
 obtain ⟨c2,A8,r8,w8,C8⟩:=Eu l7 (by omega)
 exact ⟨A1,A2,A3,A4,A5,A6,A7,A8,o1,o2,c1,c2,r1,r2,r3,r4,r5,r6,mN (w5.sl.grew C6) w6.sl (by omega),r7,r8,mN (w7.sl.grew C8) w8.sl (by omega),((((((C1.trans C2 (by simp)).trans C3 (by simp)).trans C4 (by simp)).trans C5 (by simp)).trans C6 (by simp)).trans C7 (by simp)).trans C8 (by simp)⟩
end
set_option maxHeartbeats 1000000 in
theorem sourcePlays (m:NH) (l:List NV) (h:TyA Tryz.prog m [22,23] l):∃m',aS Tryz.prog S0 4 l m (.bool true) m':=by
 obtain ⟨x,r,rfl,h1,h⟩:=h.inv1 (by intro fs q;rw[Tryz.underlying22] at q;simp at q)
 obtain ⟨x2,r2,rfl,h2,h⟩:=h.inv1 (by intro fs q;rw[Tryz.underlying23] at q;simp at q)
 obtain rfl:=h.inv0
 obtain ⟨v,b,hx,hv,hb⟩:=DV h1
 have hxv:v=x:=by simpa using hx.symm
 subst hxv
 obtain ⟨v2,ord,hx2,hv2⟩:=HL h2
 have hxv2:v2=x2:=by simpa using hx2.symm
 subst hxv2
 have hal:∀m,aS Tryz.prog S0 26 [] m (.bool true) m:=fun m=>aS.kept rfl m
 have h:∃v' m',aS Tryz.prog S0 4 [v,v2] m v' m'/\v'= .bool true:=by
  refine WF.ex fun K hK=> ?_
  refine WF.of_wpG (fun _=>rfl) yh (L:= [(.a .e,v2),(.e,v)]) rfl ?_
  unfold Qe
  have hv':Sl (hp [] 0 m) v 1 (mS b):=by rw[aa];exact hv
  obtain ⟨w,M1,hr1,⟨vc,vt,vr,rfl,hpp⟩,hC1⟩:=BH hv' hb
  rw[aa] at hC1
  have hlen:=(hv.chg hC1 fun _ _=>by simp).len
  rw[show (mS b).length=b.length by simp] at hlen
  have hlen2:=(hv2.chg hC1 fun _ _=>by simp).len
  rw[List.length_map] at hlen2
  cases hprog:(iU b).1 with
  |none=>
   rw[hprog] at hpp
   obtain ⟨-,-,-,he⟩:=hpp
   have he':((iU b).2.2:Int)≠0:=by omega
   simp (disch:=first|assumption|omega|(simp only[aI]<;>omega)) only[go_sem,seval,(hal _).wf',hr1.wf,he']
   exact hK _ _ rfl
  |some p=>
   rw[hprog] at hpp
   obtain ⟨hpp,he,hs1,hs2⟩:=hpp
   obtain ⟨CT0,hT0⟩:=hpp.t
   obtain ⟨CR0,hR0⟩:=hpp.r
   generalize hM2:hp [(.n 0,.cells true [vc,vt,vr]),(.n 0,.cells true [.nils,.nils,.nils])] 1 M1=M2
   have hC2:Chg [] M1 M2:=ba hM2 rfl
   have g2:M2.get (na M1 0)=some (.cells true [vc,vt,vr]):=bz hM2
   have o2:am M2 (na M1 0):=bw hM2 (by omega)
   have hp2:=hpp.stays (lF hC2 _)
   have hCm2:=hC1.trans hC2 (by simp)
   have kc:=hpp.c.one
   have kt:=hT0.sl.one
   have kr:=hR0.sl.one
   have hf:=Om (hv.chg hCm2 fun _ _=>by simp)
   by_cases hlb:b.length<=1500
   ·rw[Rl hlb] at hf
    by_cases hlo:150<ord.length
    ·simp (disch:=first|assumption|omega|(simp only[aI]<;>omega)) only[go_sem,seval,(hal _).wf',hr1.wf,he,hlen,hlen2,kc,kt,kr,hM2,hf.wf']
     exact hK _ _ rfl
    ·have hcs:p.cs.length<=100000/\p.ts.length<=100000:=by omega
     have hz:∀t∈p.ts,cI t.2<=400000:=fun t ht=>by
      have:=HJ (List.mem_map_of_mem (f:=fun t:List Nat×List Stm=>cI t.2) ht)
      omega
     have hzr:cI p.r<=400000:=by omega
     have hok:=Ox hprog hz hzr
     obtain ⟨w3,M3,r3,h3⟩:=Nc hp2 hcs hz hzr hok
     unfold LK at h3
     by_cases hE:(gl p).2≠0
     ·rw[Rj hE] at h3
      obtain ⟨rfl,hC3⟩:=h3
      obtain ⟨w4,M4,r4,h4⟩:=IG (zh hp2) hC3 hcs hz hzr hok
      unfold HB at h4
      rw[Rj hE] at h4
      obtain ⟨rfl,hC4⟩:=h4
      have g3:=(hC3.get o2 (by simp)).trans g2
      have hC24:=hC3.trans hC4 (by simp)
      simp (disch:=first|assumption|omega|(simp only[aI]<;>omega)) only[go_sem,seval,(hal _).wf',hr1.wf,he,hlen,hlen2,kc,kt,kr,hM2,hf.wf',g2,r3.wf',g3,r4.wf',(IH _ _).wf',Fp,IS,zQ]
      refine W.loop (fun f d=>∃t,d=⟨t, [],none,M4⟩/\NT.get D4.e.c.a t=some (ii 0)/\NT.get D4.e.a t=some v2/\NT.get D4.e.b.f t=some (ii (gl p).2)) ?_ 0 _ ⟨_,rfl,by simp only[go_sem,seval],by simp only[go_sem,seval],by simp only[go_sem,seval]⟩
      rintro f d ⟨t,rfl,t1,t2,t3⟩
      apply ao
      unfold ww
      change wp _ _ _ _ ⟨ai [] t, [],none,M4⟩ _
      have hlen4:=(hv2.chg (hCm2.trans hC24 (by simp)) fun _ _=>by simp).len
      rw[List.length_map] at hlen4
      by_cases h0:0<ord.length
      ·simp (disch:=first|assumption|omega) only[go_sem,seval,t1,t2,t3,hlen4]
       exact hK _ _ rfl
      ·simp (disch:=first|assumption|omega) only[go_sem,seval,t1,t2,t3,hlen4]
       exact hK _ _ rfl
     ·rw[Ri hE] at h3
      have hE0:(gl p).2=0:=by simpa using hE
      obtain ⟨r,B,vc1,vt1,vr1,vcl,vo,vth,q,bs,rfl,hRC,hCB,hQ,hC3,hF⟩:=h3
      obtain ⟨w4,M4,r4,h4⟩:=IG (zh hp2) hC3 hcs hz hzr hok
      unfold HB at h4
      rw[Ri hE] at h4
      obtain ⟨s,F,rfl,hRC2,hQ2,hC4,hF2⟩:=h4
      have g3:=(hC3.get o2 (by simp)).trans g2
      have htwo:Two p B M2 vc1 vt1 vr1 vc vt vr M4 r s (jJ p (vM p)) 0 vcl:=⟨vo,vth,q,bs,F,hQ.grow hC4,hQ2,fun i hi w=>hF2 i w (hQ.all i hi).1,fun i hi w=>hF2 i hi (hQ.mc.c.old w)⟩
      have hC24:=hC3.trans hC4 (by simp)
      simp (disch:=first|assumption|omega|(simp only[aI]<;>omega)) only[go_sem,seval,(hal _).wf',hr1.wf,he,hlen,hlen2,kc,kt,kr,hM2,hf.wf',g2,r3.wf',g3,r4.wf',(IH _ _).wf',uS,IS,zQ]
      refine W.loop (fun f d=>∃t M i,d=⟨t, [],none,M⟩/\NT.get D4.e.b.a t=some (.ptr r 0)/\NT.get D4.e.b.c t=some (.ptr s 0)/\NT.get D4.e.a t=some v2/\NT.get D4.e.b.f t=some (ii 0)/\NT.get D4.e.c.a t=some (ii (i:Nat))/\i+f=ord.length/\Chg [] M2 M/\Two p B M2 vc1 vt1 vr1 vc vt vr M r s (sm p (ord.take i)).1 (2*i) vcl) ?_ ord.length _ ⟨_,M4,0,rfl,by simp only[go_sem,seval],by simp only[go_sem,seval],by simp only[go_sem,seval],by simp only[go_sem,seval],by simp only[go_sem,seval]<;>rfl,by omega,hC24,htwo⟩
      clear htwo hQ hQ2 hF hF2
      rintro f d ⟨t,M,i,rfl,t1,t2,t3,t4,t5,hif,hC,hT⟩
      apply ao
      unfold ww
      change wp _ _ _ _ ⟨ai [] t, [],none,M⟩ _
      have hC2M:=hCm2.trans hC (by simp)
      have hlen4:=(hv2.chg hC2M fun _ _=>by simp).len
      rw[List.length_map] at hlen4
      by_cases hi:i<ord.length
      ·obtain ⟨id,off,wr,c,a1,a2,a3,a4,a5⟩:=hv2.at i (by simpa using hi)
       rw[List.getElem_map] at a5
       have c0:c[off]? =some (ii ord[i]):=aA a5 0 (by omega)
       have a2M:=(hC2M.get a3 (by simp)).trans a2
       have hps:=xd p ord hi
       unfold Fh at hps
       by_cases hc:ord[i]=-1
       ·rw[Rj hc] at hps
        obtain ⟨Ma,Mb,ra,rb,hCa,hCb,hTb⟩:=hT.crash hCB hRC hRC2
        obtain ⟨A1,A2,A3,A4,A5,A6,A7,A8,o1,o2',c1,c2,k1,k2,k3,k4,k5,k6,k7,k8,k9,k10,hCA⟩:=hTb.looks hRC.nt hRC.cs (by omega)
        simp (disch:=first|assumption|omega) only[go_sem,seval,t1,t2,t3,t4,t5,hlen4,a1,a2M,c0,hc,ra.wf',rb.wf',k1.wf',k2.wf',k3.wf',k4.wf',k5.wf',k6.wf',k7.wf',k8.wf',k9.wf',k10.wf',zQ]
        refine ⟨f - 1,by omega,_,A8,i+1,by rfl,by simp only[go_sem,seval,t1],by simp only[go_sem,seval,t2],by simp only[go_sem,seval,t3],by simp only[go_sem,seval,t4],by simp only[go_sem,seval]<;>rfl,by omega,hCb.trans hCA (by simp), ?_⟩
        rw[hps]
        obtain ⟨vo,vth,q,bs,F,h1,h2,h3,h4⟩:=(hTb.grow hCA).h
        exact ⟨vo,vth,q,bs,F,h1.more (by omega),h2.more (by omega),h3,h4⟩
       ·rw[Ri hc] at hps
        obtain ⟨Ma,Mb,ra,rb,hCa,hCb,hTb⟩:=hT.step hCB hRC hRC2 (by omega) ord[i]
        obtain ⟨A1,A2,A3,A4,A5,A6,A7,A8,o1,o2',c1,c2,k1,k2,k3,k4,k5,k6,k7,k8,k9,k10,hCA⟩:=hTb.looks hRC.nt hRC.cs (by omega)
        have a2a:=((hCm2.trans hCa (by simp)).get a3 (by simp)).trans a2
        have hvs:=hv2.same (n:=3)
        simp (disch:=first|assumption|omega) only[go_sem,seval,t1,t2,t3,t4,t5,hlen4,a1,a2M,c0,ra.wf',a2a,hvs,rb.wf',k1.wf',k2.wf',k3.wf',k4.wf',k5.wf',k6.wf',k7.wf',k8.wf',k9.wf',k10.wf',zQ]
        refine ⟨f - 1,by omega,_,A8,i+1,by rfl,by simp only[go_sem,seval,t1],by simp only[go_sem,seval,t2],by simp only[go_sem,seval,t3],by simp only[go_sem,seval,t4],by simp only[go_sem,seval]<;>rfl,by omega,hCb.trans hCA (by simp), ?_⟩
        rw[hps]
        obtain ⟨vo,vth,q,bs,F,h1,h2,h3,h4⟩:=(hTb.grow hCA).h
        exact ⟨vo,vth,q,bs,F,h1.more (by omega),h2.more (by omega),h3,h4⟩
      ·simp (disch:=first|assumption|omega) only[go_sem,seval,t1,t2,t3,t4,t5,hlen4]
       exact hK _ _ rfl
   ·rw[Rk hlb] at hf
    simp (disch:=first|assumption|omega|(simp only[aI]<;>omega)) only[go_sem,seval,(hal _).wf',hr1.wf,he,hlen,hlen2,kc,kt,kr,hM2,hf.wf']
    exact hK _ _ rfl
 obtain ⟨v',m',h,rfl⟩:=h
 exact ⟨m',h⟩
end FR
