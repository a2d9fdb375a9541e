/- Contracts of functions that the law LowerFresh reaches, part 1. -/
import Derived.Test.YtcpilcplobihkaaLfU0
open Go Nm Go.Proofs
namespace FR
set_option linter.unusedSimpArgs false
set_option linter.unusedVariables false
def uM (c:Nat):Bool:=decide (97<=c/\c<=122)
def eV (c:Nat):Bool:=decide (48<=c/\c<=57)
def ed (c:Nat):Bool:=uM c||eV c||decide (c=95)
def yH (c:Nat):Bool:=decide (c=32∨c=9∨c=10∨c=13)
theorem mZ (m:NH) (c:Nat):bI Try.prog S0 133 [u8 c] m (.bool (uM c)) m:=by
 have h:∃v m',bI Try.prog S0 133 [u8 c] m v m'/\v= .bool (uM c)/\m'=m:=by
  refine WF.ex fun K hK=> ?_
  refine WF.of_wpG (fun _=>rfl) tL (L:= [(.e,u8 c)]) rfl ?_
  unfold BW
  by_cases h1:97<=c
  ·by_cases h2:c<=122
   ·simp (disch:=first|assumption|omega) only[go_sem,seval]
    exact hK _ _ ⟨by simp[uM,h1,h2],ai m⟩
   ·simp (disch:=first|assumption|omega) only[go_sem,seval]
    exact hK _ _ ⟨by simp[uM,h2],ai m⟩
  ·simp (disch:=first|assumption|omega) only[go_sem,seval]
   exact hK _ _ ⟨by simp[uM,h1],ai m⟩
 obtain ⟨v,m',h,rfl,rfl⟩:=h
 exact h
theorem rf (m:NH) (c:Nat):bI Try.prog S0 132 [u8 c] m (.bool (eV c)) m:=by
 have h:∃v m',bI Try.prog S0 132 [u8 c] m v m'/\v= .bool (eV c)/\m'=m:=by
  refine WF.ex fun K hK=> ?_
  refine WF.of_wpG (fun _=>rfl) tp (L:= [(.e,u8 c)]) rfl ?_
  unfold Bz
  by_cases h1:48<=c
  ·by_cases h2:c<=57
   ·simp (disch:=first|assumption|omega) only[go_sem,seval]
    exact hK _ _ ⟨by simp[eV,h1,h2],ai m⟩
   ·simp (disch:=first|assumption|omega) only[go_sem,seval]
    exact hK _ _ ⟨by simp[eV,h2],ai m⟩
  ·simp (disch:=first|assumption|omega) only[go_sem,seval]
   exact hK _ _ ⟨by simp[eV,h1],ai m⟩
 obtain ⟨v,m',h,rfl,rfl⟩:=h
 exact h
theorem Bn (m:NH) (c:Nat):bI Try.prog S0 131 [u8 c] m (.bool (ed c)) m:=by
 have h:∃v m',bI Try.prog S0 131 [u8 c] m v m'/\v= .bool (ed c)/\m'=m:=by
  refine WF.ex fun K hK=> ?_
  refine WF.of_wpG (fun _=>rfl) sN (L:= [(.e,u8 c)]) rfl ?_
  unfold DP
  have a1:=mZ m c
  have a2:=rf m c
  cases h1:uM c with
  |true=>
   rw[h1] at a1
   simp (disch:=first|assumption|omega) only[go_sem,seval,ai,a1.wf']
   exact hK _ _ ⟨by simp[ed,h1],rfl⟩
  |false=>
   rw[h1] at a1
   cases h2:eV c with
   |true=>
    rw[h2] at a2
    simp (disch:=first|assumption|omega) only[go_sem,seval,ai,a1.wf',a2.wf']
    exact hK _ _ ⟨by simp[ed,h2],rfl⟩
   |false=>
    rw[h2] at a2
    by_cases h3:c=95
    ·simp (disch:=first|assumption|omega) only[go_sem,seval,ai,a1.wf',a2.wf']
     exact hK _ _ ⟨by simp[ed,h3],rfl⟩
    ·simp (disch:=first|assumption|omega) only[go_sem,seval,ai,a1.wf',a2.wf']
     exact hK _ _ ⟨by simp[ed,h1,h2,h3],rfl⟩
 obtain ⟨v,m',h,rfl,rfl⟩:=h
 exact h
def aZ (p:Nat->Bool) (s:List Nat) (a:Nat):Nat:=a+((s.drop a).takeWhile p).length
theorem gi {p:Nat->Bool} {s:List Nat} {a:Nat} (h:a<s.length) (hp:p s[a]=true):aZ p s a=aZ p s (a+1):=by
 unfold aZ
 rw[List.drop_eq_getElem_cons h,List.takeWhile_cons,if_pos hp,List.length_cons]
 omega
theorem ra {p:Nat->Bool} {s:List Nat} {a:Nat} (h:a<s.length) (hp:p s[a]=false):aZ p s a=a:=by
 unfold aZ
 rw[List.drop_eq_getElem_cons h,List.takeWhile_cons,if_neg (by simp[hp])];rfl
theorem nh {p:Nat->Bool} {s:List Nat} {a:Nat} (h:s.length<=a):aZ p s a=a:=by
 unfold aZ
 rw[List.drop_eq_nil_of_le h];rfl
theorem jj {p:Nat->Bool} {s:List Nat} {a:Nat}:a<=aZ p s a:=by unfold aZ;omega
theorem fO {p:Nat->Bool} {s:List Nat} {a:Nat} (h:a<=s.length):aZ p s a<=s.length:=by
 unfold aZ
 have:=(List.takeWhile_sublist (l:=s.drop a) p).length_le
 rw[List.length_drop] at this;omega
def vV:Bool->List Nat->Nat
 |_, []=>0
 |false,c::l=>if yH c then 1+vV false l else if c=35 then 1+vV true l else 0
 |true,c::l=>if c=10 then 1+vV false l else 1+vV true l
def br (s:List Nat) (a:Nat):Nat:=a+vV false (s.drop a)
theorem HH:∀(l:List Nat) (q:Bool),vV q l<=l.length:=by
 intro l
 induction l with
 |nil=>intro q;cases q<;>exact Nat.le_refl 0
 |cons c l ih=>
  intro q
  have h1:=ih false
  have h2:=ih true
  cases q with
  |false=>
   show (if yH c then 1+vV false l else if c=35 then 1+vV true l else 0)<=l.length+1
   split
   ·omega
   ·split<;>omega
  |true=>
   show (if c=10 then 1+vV false l else 1+vV true l)<=l.length+1
   split<;>omega
def mf (s:List Nat) (a:Nat):Nat:=a+vV true (s.drop a)
theorem gD {s:List Nat} {a:Nat} (h:a<s.length):br s a=if yH s[a] then br s (a+1) else if s[a]=35 then mf s (a+1) else a:=by
 unfold br mf
 rw[List.drop_eq_getElem_cons h]
 show a+(if yH s[a] then 1+vV false (s.drop (a+1)) else if s[a]=35 then 1+vV true (s.drop (a+1)) else 0)=_
 split
 ·omega
 ·split<;>omega
theorem nN {s:List Nat} {a:Nat} (h:a<s.length):mf s a=if s[a]=10 then br s (a+1) else mf s (a+1):=by
 unfold br mf
 rw[List.drop_eq_getElem_cons h]
 show a+(if s[a]=10 then 1+vV false (s.drop (a+1)) else 1+vV true (s.drop (a+1)))=_
 split<;>omega
theorem pO {s:List Nat} {a:Nat} (h:s.length<=a):br s a=a:=by
 unfold br;rw[List.drop_eq_nil_of_le h];rfl
theorem zQ {s:List Nat} {a:Nat} (h:s.length<=a):mf s a=a:=by
 unfold mf;rw[List.drop_eq_nil_of_le h];rfl
theorem ky {s:List Nat} {a:Nat} (h:a<=s.length):br s a<=s.length:=by
 have:=HH (s.drop a) false
 rw[List.length_drop] at this
 unfold br;omega
theorem tz {s:List Nat} {a:Nat}:a<=br s a:=by unfold br;omega
theorem FM (s:List Nat):∀(k a:Nat),k=s.length - a->mf s a=br s (aZ (fun c=>decide (c≠10)) s a):=by
 intro k
 induction k with
 |zero=>intro a hk;rw[nh (by omega),zQ (by omega),pO (by omega)]
 |succ k ih=>
  intro a hk
  have ha:a<s.length:=by omega
  by_cases h:s[a]=10
  ·rw[ra ha (by simp[h]),nN ha,if_pos h,gD ha,if_pos (by simp[yH,h])]
  ·rw[gi ha (by simp[h]),nN ha,if_neg h];exact ih (a+1) (by omega)
theorem vU {s:List Nat} {a:Nat} (h:a<s.length) (hs:s[a]=35):br s a=br s (aZ (fun c=>decide (c≠10)) s a):=by
 rw[gi h (by simp[hs]),gD h,if_neg (by simp[yH,hs]),if_pos hs,FM s _ _ rfl]
theorem Af {s:List Nat} {a:Nat} (h:a<s.length) (hb:yH s[a]=false) (hs:s[a]≠35):br s a=a:=by
 rw[gD h,if_neg (by simp[hb]),if_neg hs]
theorem F8 {m:NH} {vb:NV} {s:List Nat} (hs:s.length<=1000000) (hb:Sl m vb 1 (o9 s)) {a:Nat} (ha:a<=s.length) {t:Tm} (g1:NT.get D4.e t=some vb) (g2:NT.get D4.e.a t=some (ii a))
 {Q:Out->Dyn->Prop} (hQ:∀t',NT.get D4.e t'=some vb->NT.get D4.e.a t'=some (ii (aZ (fun c=>decide (c≠10)) s a))->Q (.exit 3) ⟨ak [] t', [],none,m⟩):W Try.prog S0 none rD.loop ⟨t, [],none,m⟩ Q:=by
 have hlen:=hb.len
 rw[List.length_map] at hlen
 refine W.loop (fun k d=>∃t i,d=⟨t, [],none,m⟩/\NT.get D4.e t=some vb/\NT.get D4.e.a t=some (ii (i:Nat))/\aZ (fun c=>decide (c≠10)) s i=aZ (fun c=>decide (c≠10)) s a/\i+k=s.length) ?_ (s.length - a) _ ⟨_,a,rfl,g1,g2,rfl,by omega⟩
 rintro k d ⟨t,i,rfl,g1,g2,hr,hik⟩
 have hQ':=fun L t'=>hQ (ak L t')
 simp only[CX] at hQ'
 apply aK
 unfold rD
 change wp _ _ _ _ ⟨ak [] t, [],none,m⟩ _
 by_cases hi:i<s.length
 ·obtain ⟨id,off,w,c,a1,a2,a3,a4,a5⟩:=hb.at i (by simpa using hi)
  rw[List.getElem_map] at a5
  have c0:=bz a5 0 (by omega)
  rw[Nat.add_zero] at c0
  by_cases h10:s[i]=10
  ·simp (disch:=first|assumption|omega) only[go_sem,seval,g1,g2,hlen,a1,a2,c0]
   refine hQ' _ _ ?_ ?_
   ·simp (disch:=first|assumption|omega) only[go_sem,seval,g1]
   ·simp (disch:=first|assumption|omega) only[go_sem,seval,g2];rw[←hr,ra hi (by simp[h10])]
  ·simp (disch:=first|assumption|omega) only[go_sem,seval,g1,g2,hlen,a1,a2,c0]
   refine ⟨k - 1,by omega,_,i+1,rfl, ?_, ?_,by rw[←hr,gi hi (by simp[h10])],by omega⟩
   ·simp (disch:=first|assumption|omega) only[go_sem,seval,g1]
   ·simp (disch:=first|assumption|omega) only[go_sem,seval]<;>rfl
 ·simp (disch:=first|assumption|omega) only[go_sem,seval,g1,g2,hlen]
  refine hQ' _ _ ?_ ?_
  ·simp (disch:=first|assumption|omega) only[go_sem,seval,g1]
  ·simp (disch:=first|assumption|omega) only[go_sem,seval,g2];rw[←hr,nh (by omega)]
theorem BO (m:NH) {vb:NV} {s:List Nat} (hs:s.length<=1000000) (hb:Sl m vb 1 (o9 s)) {a:Nat} (ha:a<=s.length):bI Try.prog S0 82 [vb,ii a] m (ii (br s a)) m:=by
 have h:∃v m',bI Try.prog S0 82 [vb,ii a] m v m'/\v=ii (br s a)/\m'=m:=by
  refine WF.ex fun K hK=> ?_
  refine WF.of_wpG (fun _=>rfl) xC (L:= [(.a .e,ii a),(.e,vb)]) rfl ?_
  unfold G9
  have hlen:=hb.len
  rw[List.length_map] at hlen
  simp (disch:=first|assumption|omega) only[go_sem,seval,ai]
  refine W.loop (fun k d=>∃t i,d=⟨t, [],none,m⟩/\NT.get D4.e t=some vb/\NT.get D4.e.a t=some (ii (i:Nat))/\br s i=br s a/\i+k=s.length) ?_ (s.length - a) _ ⟨_,a,rfl,by simp only[go_sem,seval],by simp only[go_sem,seval],rfl,by omega⟩
  rintro k d ⟨t,i,rfl,g1,g2,hr,hik⟩
  apply aK
  unfold y6
  change wp _ _ _ _ ⟨ak [] t, [],none,m⟩ _
  by_cases hi:i<s.length
  ·obtain ⟨id,off,w,c,a1,a2,a3,a4,a5⟩:=hb.at i (by simpa using hi)
   rw[List.getElem_map] at a5
   have c0:=bz a5 0 (by omega)
   rw[Nat.add_zero] at c0
   have blk:∀h:yH s[i]=true,br s (i+1)=br s a:=fun h=>by rw[←hr,gD hi,if_pos h]
   by_cases h1:s[i]=32
   ·simp (disch:=first|assumption|omega) only[go_sem,seval,g1,g2,hlen,a1,a2,c0]
    refine ⟨k - 1,by omega,_,i+1,rfl, ?_, ?_,blk (by simp[yH,h1]),by omega⟩
    ·simp (disch:=first|assumption|omega) only[go_sem,seval,g1]
    ·simp (disch:=first|assumption|omega) only[go_sem,seval]<;>rfl
   ·by_cases h2:s[i]=9
    ·simp (disch:=first|assumption|omega) only[go_sem,seval,g1,g2,hlen,a1,a2,c0]
     refine ⟨k - 1,by omega,_,i+1,rfl, ?_, ?_,blk (by simp[yH,h2]),by omega⟩
     ·simp (disch:=first|assumption|omega) only[go_sem,seval,g1]
     ·simp (disch:=first|assumption|omega) only[go_sem,seval]<;>rfl
    ·by_cases h3:s[i]=10
     ·simp (disch:=first|assumption|omega) only[go_sem,seval,g1,g2,hlen,a1,a2,c0]
      refine ⟨k - 1,by omega,_,i+1,rfl, ?_, ?_,blk (by simp[yH,h3]),by omega⟩
      ·simp (disch:=first|assumption|omega) only[go_sem,seval,g1]
      ·simp (disch:=first|assumption|omega) only[go_sem,seval]<;>rfl
     ·by_cases h4:s[i]=13
      ·simp (disch:=first|assumption|omega) only[go_sem,seval,g1,g2,hlen,a1,a2,c0]
       refine ⟨k - 1,by omega,_,i+1,rfl, ?_, ?_,blk (by simp[yH,h4]),by omega⟩
       ·simp (disch:=first|assumption|omega) only[go_sem,seval,g1]
       ·simp (disch:=first|assumption|omega) only[go_sem,seval]<;>rfl
      ·have hnb:yH s[i]=false:=by simp[yH,h1,h2,h3,h4]
       by_cases h5:s[i]=35
       ·simp (disch:=first|assumption|omega) only[go_sem,seval,g1,g2,hlen,a1,a2,c0]
        refine F8 hs hb (a:=i) (by omega) ?_ ?_ ?_
        ·simp (disch:=first|assumption|omega) only[go_sem,seval,g1]
        ·simp (disch:=first|assumption|omega) only[go_sem,seval,g2]
        intro t' g1 g2
        simp (disch:=first|assumption|omega) only[go_sem,seval]
        have hle:=fO (p:=fun c=>decide (c≠10)) (s:=s) (a:=i) (by omega)
        have hlt:i+1<=aZ (fun c=>decide (c≠10)) s i:=by rw[gi hi (by simp[h5])];exact jj
        exact ⟨s.length - aZ (fun c=>decide (c≠10)) s i,by omega,t',_,rfl,g1,g2,by rw[←vU hi h5];exact hr,by omega⟩
       ·simp (disch:=first|assumption|omega) only[go_sem,seval,g1,g2,hlen,a1,a2,c0]
        exact hK _ _ ⟨by rw[←hr,Af hi hnb h5],rfl⟩
  ·simp (disch:=first|assumption|omega) only[go_sem,seval,g1,g2,hlen]
   exact hK _ _ ⟨by rw[←hr,pO (by omega)],rfl⟩
 obtain ⟨v,m',h,rfl,rfl⟩:=h
 exact h
def fV:List (List Nat):= [[99,101,108,108], [116,104,114,101,97,100], [114,101,99,111,118,101,114], [115,101,116], [108,111,97,100], [115,116,111,114,101], [99,97,115], [102,101,110,99,101], [111,117,116], [105,102], [101,108,115,101], [119,104,105,108,101]]
theorem GD (m:NH) (t:List Nat):∃v m',bI Try.prog S0 134 [.str t] m v m'/\v= .bool (decide (t∈fV))/\Chg [] m m':=by
 refine WF.ex fun K hK=> ?_
 refine WF.of_wpG (fun _=>rfl) up (L:= [(.e,.str t)]) rfl ?_
 unfold DE
 simp (config:={maxSteps:=1000000}) (disch:=first|assumption|omega|exact ab (by omega)|exact aa (by assumption)|(simp only[ao]<;>omega)) only[go_sem,seval]
 generalize hM:hp _ 1 m=M
 have hC:Chg [] m M:=by rw[←hM];exact an rfl
 have hv:Sl M (.slc (na m 0) 0 12 1 12) 1 (cD fV):=by
  rw[←hM]
  exact (bL.of (B:=m) (C:=cD fV) (by simp) aI ax (ab (by omega)) rfl rfl rfl).sl
 have hwl:fV.length=12:=rfl
 refine W.loop (fun k d=>∃t' i,d=⟨t', [],none,M⟩/\NT.get D4.e t'=some (.str t)/\NT.get D4.e.c t'=some (.slc (na m 0) 0 12 1 12)/\NT.get D4.e.f t'=some (ii (i:Nat))/\t∉fV.take i/\i+k=12) ?_ 12 _ ⟨_,0,rfl,by simp only[go_sem,seval],by simp only[go_sem,seval],by simp only[go_sem,seval]<;>rfl,by simp,by omega⟩
 rintro k d ⟨t',i,rfl,g1,g2,g3,hno,hik⟩
 apply aK
 unfold sL
 change wp _ _ _ _ ⟨ak [] t', [],none,M⟩ _
 by_cases hi:i<12
 ·obtain ⟨id,off,w,c,a1,a2,a3,a4,a5⟩:=hv.at i (by simpa [hwl] using hi)
  rw[List.getElem_map] at a5
  have c0:=bz a5 0 (by omega)
  rw[Nat.add_zero] at c0
  by_cases he:fV[i]=t
  ·simp (config:={maxSteps:=1000000}) (disch:=first|assumption|omega|exact ab (by omega)|exact aa (by assumption)|(simp only[ao]<;>omega)) only[go_sem,seval,g1,g2,g3,a1,a2,c0,he]
   exact hK _ _ ⟨by rw[decide_eq_true (show t∈fV by rw[←he];exact List.getElem_mem _)],hC⟩
  ·simp (config:={maxSteps:=1000000}) (disch:=first|assumption|omega|exact ab (by omega)|exact aa (by assumption)|(simp only[ao]<;>omega)) only[go_sem,seval,g1,g2,g3,a1,a2,c0,he]
   refine ⟨k - 1,by omega,_,i+1,rfl, ?_, ?_, ?_, ?_,by omega⟩
   ·simp (config:={maxSteps:=1000000}) (disch:=first|assumption|omega|exact ab (by omega)|exact aa (by assumption)|(simp only[ao]<;>omega)) only[go_sem,seval,g1]
   ·simp (config:={maxSteps:=1000000}) (disch:=first|assumption|omega|exact ab (by omega)|exact aa (by assumption)|(simp only[ao]<;>omega)) only[go_sem,seval,g2]
   ·simp (config:={maxSteps:=1000000}) (disch:=first|assumption|omega|exact ab (by omega)|exact aa (by assumption)|(simp only[ao]<;>omega)) only[go_sem,seval]<;>rfl
   ·rw[List.take_add_one,List.getElem?_eq_getElem (by omega)]
    simp only[Option.toList_some,List.mem_append,List.mem_singleton,not_or]
    exact ⟨hno,fun q=>he q.symm⟩
 ·simp (config:={maxSteps:=1000000}) (disch:=first|assumption|omega|exact ab (by omega)|exact aa (by assumption)|(simp only[ao]<;>omega)) only[go_sem,seval,g1,g2,g3]
  have e:i=12:=by omega
  subst e
  rw[List.take_of_length_le (by rw[hwl];omega)] at hno
  exact hK _ _ ⟨by simp[hno],hC⟩
def pH:List Nat->Nat->Option Nat
 | [],n=>some n
 |c::l,n=>if 10*n+(c - 48)<18446744073709551616 then pH l (10*n+(c - 48)) else none
def FG (s:List Nat):Option Nat:=if 1<s.length/\s[0]? =some 48 then none else pH s 0
def dU:List Nat:= [123,125,40,41,91,93,59,43,45,42,38,61,60]
def cut (s:List Nat) (a e:Nat):List Nat:=(s.take e).drop a
def fT (s:List Nat) (a:Nat):Option (Nat×List Nat×Nat×Nat):=
 match s[a]? with
 |none=>none
 |some c=>
  if uM c then (if cut s a (aZ ed s a)∈fV then some (4,cut s a (aZ ed s a),0,aZ ed s a) else if (cut s a (aZ ed s a)).length<=16 then some (1,cut s a (aZ ed s a),0,aZ ed s a) else none)
  else if eV c then (match FG (cut s a (aZ eV s a)) with|some n=>if aZ ed s a=aZ eV s a then some (2, [],n,aZ eV s a) else none|none=>none)
  else if c∈dU then some (3, [c],0,a+1) else none
theorem BX {a n d:Int} {t:List Nat}:bP 4 (.agg [.int .i64 (.lit a),.str t,.int .u64 (.lit n),.int .i64 (.lit d)]) (.agg [.int .i64 (.lit a),.str t,.int .u64 (.lit n),.int .i64 (.lit d)])=true:=by
 refine nL ?_
 intro v hv
 simp only[List.mem_cons,List.not_mem_nil,or_false] at hv
 rcases hv with rfl|rfl|rfl|rfl<;>trivial
theorem rS (p:Nat->Bool) (s:List Nat) (a:Nat):cut s a (aZ p s a)=(s.drop a).takeWhile p:=by
 unfold cut aZ
 rw[List.drop_take,Nat.add_sub_cancel_left]
 exact (List.prefix_iff_eq_take.mp (List.takeWhile_prefix p)).symm
theorem Hv {p:Nat->Bool} {s:List Nat} {a c:Nat} (hb:s[a]? =some c) (hp:p c=true):∃l,cut s a (aZ p s a)=c::l:=by
 rw[rS]
 obtain ⟨ha,hc⟩:=List.getElem?_eq_some_iff.mp hb
 rw[List.drop_eq_getElem_cons ha,hc,List.takeWhile_cons,hp]
 exact ⟨_,rfl⟩
theorem vd (p:Nat->Bool) (l:List Nat):∀c∈l.takeWhile p,p c=true:=by
 induction l with
 |nil=>intro c h;simp at h
 |cons x l ih=>
  intro c h
  rw[List.takeWhile_cons] at h
  split at h
  ·rcases List.mem_cons.mp h with rfl|h
   ·assumption
   ·exact ih c h
  ·simp at h
theorem zw (p:Nat->Bool) (s:List Nat) (a:Nat):∀c∈cut s a (aZ p s a),p c=true:=by rw[rS];exact vd p _
theorem F6 (c:Nat) (h:eV c=true):ed c=true:=by unfold ed;rw[h];simp
structure Tok where
 k:Nat
 t:List Nat
 n:Nat
 p:Nat
def Tok.l (x:Tok):List NV:= [ii x.k,.str x.t,u64 x.n,ii x.p]
def dw (s:List Nat):Nat->Nat->List Tok×Option Nat
 |0,_=>([],none)
 |k+1,a=>if a<s.length then (match fT s a with
  |none=>([],some a)
  |some (kd,t,n,e)=>(⟨kd,t,n,a⟩::(dw s k (br s e)).1,(dw s k (br s e)).2)) else ([⟨5, [],0,s.length⟩],none)
def dC (s:List Nat):List Tok×Option Nat:=dw s (s.length+1) (br s 0)
theorem C7 {p:Nat->Bool} {s:List Nat} {a c:Nat} (hb:s[a]? =some c) (hp:p c=true):a<aZ p s a:=by
 obtain ⟨ha,hc⟩:=List.getElem?_eq_some_iff.mp hb
 rw[gi ha (by rw[hc];exact hp)]
 exact jj
theorem CL {s:List Nat} {a kd n e:Nat} {t:List Nat} (h:fT s a=some (kd,t,n,e)):a<e/\e<=s.length:=by
 unfold fT at h
 cases hb:s[a]? with
 |none=>rw[hb] at h;cases h
 |some c=>
  rw[hb] at h
  obtain ⟨ha,hc⟩:=List.getElem?_eq_some_iff.mp hb
  dsimp only at h
  have g1:uM c=true->a<aZ ed s a:=fun q=>C7 hb (by unfold ed;rw[q];rfl)
  have g2:eV c=true->a<aZ eV s a:=fun q=>C7 hb q
  have l1:=fO (p:=ed) (s:=s) (a:=a) (by omega)
  have l2:=fO (p:=eV) (s:=s) (a:=a) (by omega)
  split at h
  ·rename_i hL
   split at h
   ·cases h;exact ⟨g1 hL,l1⟩
   ·split at h
    ·cases h;exact ⟨g1 hL,l1⟩
    ·cases h
  ·split at h
   ·rename_i hD
    split at h
    ·split at h
     ·cases h;exact ⟨g2 hD,l2⟩
     ·cases h
    ·cases h
   ·split at h
    ·cases h;exact ⟨by omega,by omega⟩
    ·cases h
theorem lg (s:List Nat):∀(k a:Nat),(dw s k a).1.length<=k:=by
 intro k
 induction k with
 |zero=>intro a;simp[dw]
 |succ k ih=>
  intro a
  unfold dw
  split
  ·split
   ·simp
   ·rename_i kd t n e _
    have:=ih (br s e)
    simp only[List.length_cons];omega
  ·simp
def Lp (s:List Nat):Int->List Tok->Prop
 |_, []=>True
 |w,x::l=>w<x.p/\x.p<=s.length/\x.t.length<=s.length - x.p/\cut s x.p (x.p+x.t.length)=x.t/\(x.k=5↔l= [])/\Lp s x.p l
theorem kB {s:List Nat} {a e:Nat} (h:e<=s.length):(cut s a e).length=e - a:=by unfold cut;rw[List.length_drop,List.length_take];omega
theorem qA (s:List Nat) (a:Nat):cut s a a= []:=by unfold cut;exact List.drop_take_self
theorem Fq {s:List Nat} {a e:Nat} (h:e<=s.length) (h':a<=e):cut s a (a+(cut s a e).length)=cut s a e:=by rw[kB h,Nat.add_sub_cancel' h']
theorem ED {s:List Nat} {a c:Nat} (hb:s[a]? =some c):cut s a (a+1)= [c]:=by
 obtain ⟨ha,hc⟩:=List.getElem?_eq_some_iff.mp hb
 unfold cut
 rw[List.take_add_one,hb]
 simp only[Option.toList_some]
 rw[List.drop_append_of_le_length (by rw[List.length_take];omega),List.drop_take_self];rfl
theorem In {s:List Nat} {a kd n e:Nat} {t:List Nat} (h:fT s a=some (kd,t,n,e)):kd≠5/\t.length<=s.length - a/\cut s a (a+t.length)=t:=by
 unfold fT at h
 cases hb:s[a]? with
 |none=>rw[hb] at h;cases h
 |some c=>
  rw[hb] at h
  obtain ⟨ha,hc⟩:=List.getElem?_eq_some_iff.mp hb
  dsimp only at h
  have l1:=fO (p:=ed) (s:=s) (a:=a) (by omega)
  have l2:=jj (p:=ed) (s:=s) (a:=a)
  have c1:=Fq l1 l2
  have c2:=kB (a:=a) l1
  split at h
  ·split at h
   ·cases h;exact ⟨by omega,by omega,c1⟩
   ·split at h
    ·cases h;exact ⟨by omega,by omega,c1⟩
    ·cases h
  ·split at h
   ·split at h
    ·split at h
     ·cases h;exact ⟨by omega,by simp,qA s a⟩
     ·cases h
    ·cases h
   ·split at h
    ·cases h;exact ⟨by omega,by simp;omega,ED hb⟩
    ·cases h
theorem DG (s:List Nat):∀(k a:Nat) (w:Int),s.length<=a+k->a<=s.length->w<a->(dw s (k+1) a).2=none->Lp s w (dw s (k+1) a).1/\(dw s (k+1) a).1≠ []:=by
 intro k
 induction k with
 |zero=>
  intro a w h1 h2 h3 h4
  rw[dw,if_neg (by omega)]
  exact ⟨⟨by simp;omega,Nat.le_refl _,by simp,qA s _,by simp,trivial⟩,by simp⟩
 |succ k ih=>
  intro a w h1 h2 h3 h4
  by_cases ha:a<s.length
  ·rw[dw,if_pos ha] at h4 ⊢
   cases hk:fT s a with
   |none=>rw[hk] at h4;cases h4
   |some x=>
    obtain ⟨kd,t,n,e⟩:=x
    rw[hk] at h4
    obtain ⟨e1,e2⟩:=CL hk
    obtain ⟨t1,t2,t3⟩:=In hk
    have g1:e<=br s e:=tz
    obtain ⟨i1,i2⟩:=ih (br s e) a (by omega) (ky e2) (by omega) h4
    exact ⟨⟨h3,by simp;omega,t2,t3,⟨fun q=>absurd q t1,fun q=>absurd q i2⟩,i1⟩,by simp⟩
  ·rw[dw,if_neg ha]
   exact ⟨⟨by simp;omega,Nat.le_refl _,by simp,qA s _,by simp,trivial⟩,by simp⟩
theorem EH {s:List Nat} (h:(dC s).2=none):Lp s (-1) (dC s).1/\(dC s).1≠ []:=by
 have:=ky (s:=s) (a:=0) (Nat.zero_le _)
 exact DG s s.length (br s 0) (-1) (by omega) this (by omega) h
theorem Jk {m:NH} {vb f:NV} {s:List Nat} (hs:s.length<=1000000) (hb:Sl m vb 1 (o9 s)) {a:Nat} (ha:a<=s.length) {t:Tm} (g1:NT.get D4.e t=some vb) (g2:NT.get D4.e.a.c t=some (ii a)) (g3:NT.get D4.e.a t=some (ii a)) (g4:NT.get D4.e.f t=some f)
 {Q:Out->Dyn->Prop} (hQ:∀L t',NT.get D4.e (ak L t')=some vb->NT.get D4.e.a (ak L t')=some (ii a)->NT.get D4.e.f (ak L t')=some f->NT.get D4.e.a.c (ak L t')=some (ii ((aZ ed s a:Nat):Int))->Q (.exit 0) ⟨ak L t', [],none,m⟩):W Try.prog S0 none qZ.loop ⟨t, [],none,m⟩ Q:=by
 have hlen:=hb.len
 rw[List.length_map] at hlen
 refine W.loop (fun k d=>∃t i,d=⟨t, [],none,m⟩/\NT.get D4.e t=some vb/\NT.get D4.e.a t=some (ii a)/\NT.get D4.e.f t=some f/\NT.get D4.e.a.c t=some (ii (i:Nat))/\aZ ed s i=aZ ed s a/\i+k=s.length) ?_ (s.length - a) _ ⟨_,a,rfl,g1,g3,g4,g2,rfl,by omega⟩
 rintro k d ⟨t,i,rfl,g1,g3,g4,g2,hr,hik⟩
 apply aK
 unfold qZ
 change wp _ _ _ _ ⟨ak [] t, [],none,m⟩ _
 by_cases hi:i<s.length
 ·obtain ⟨id,off,w,c,a1,a2,a3,a4,a5⟩:=hb.at i (by simpa using hi)
  rw[List.getElem_map] at a5
  have c0:=bz a5 0 (by omega)
  rw[Nat.add_zero] at c0
  have hI:=Bn m s[i]
  cases h1:ed s[i] with
  |false=>
   rw[h1] at hI
   simp (disch:=first|assumption|omega) only[go_sem,seval,g1,g2,hlen,a1,a2,c0,hI.wf']
   refine hQ _ _ ?_ ?_ ?_ ?_
   ·simp (disch:=first|assumption|omega) only[go_sem,seval,g1]
   ·simp (disch:=first|assumption|omega) only[go_sem,seval,g3]
   ·simp (disch:=first|assumption|omega) only[go_sem,seval,g4]
   ·simp (disch:=first|assumption|omega) only[go_sem,seval,g2];rw[←hr,ra hi h1]
  |true=>
   rw[h1] at hI
   simp (disch:=first|assumption|omega) only[go_sem,seval,g1,g2,hlen,a1,a2,c0,hI.wf']
   refine ⟨k - 1,by omega,_,i+1,rfl, ?_, ?_, ?_, ?_,by rw[←hr,gi hi h1],by omega⟩
   ·simp (disch:=first|assumption|omega) only[go_sem,seval,g1]
   ·simp (disch:=first|assumption|omega) only[go_sem,seval,g3]
   ·simp (disch:=first|assumption|omega) only[go_sem,seval,g4]
   ·simp (disch:=first|assumption|omega) only[go_sem,seval]<;>rfl
 ·simp (disch:=first|assumption|omega) only[go_sem,seval,g1,g2,hlen]
  refine hQ _ _ ?_ ?_ ?_ ?_
  ·simp (disch:=first|assumption|omega) only[go_sem,seval,g1]
  ·simp (disch:=first|assumption|omega) only[go_sem,seval,g3]
  ·simp (disch:=first|assumption|omega) only[go_sem,seval,g4]
  ·simp (disch:=first|assumption|omega) only[go_sem,seval,g2];rw[←hr,nh (by omega)]
theorem CA {s:List Nat} {a:Nat} (h:∀c∈cut s a (aZ ed s a),eV c=true):aZ eV s a=aZ ed s a:=by
 rw[rS] at h
 unfold aZ
 congr 1
 generalize s.drop a=l at h ⊢
 induction l with
 |nil=>rfl
 |cons x l ih=>
  rw[List.takeWhile_cons] at h
  rw[List.takeWhile_cons,List.takeWhile_cons]
  cases hx:ed x with
  |false=>
   have:eV x=false:=by cases hd:eV x with
    |false=>rfl
    |true=>rw[F6 x hd] at hx;cases hx
   simp[hx,this]
  |true=>
   rw[hx] at h
   have h0:=h x (by simp)
   rw[h0]
   simp only[if_true,List.length_cons]
   rw[ih fun c hc=>h c (by simp[hc])]
def wd (s:List Nat) (a:Nat):Prop:=aZ ed s a≠aZ eV s a∨pH (cut s a (aZ eV s a)) 0=none
theorem Gc {s:List Nat} {a e i:Nat} (h1:a<=i) (h2:i<e) (h3:e<=s.length):(cut s a e).drop (i - a)=s[i]::(cut s a e).drop (i+1 - a):=by
 have hlt:i - a<(cut s a e).length:=by rw[kB h3];omega
 have hg:(cut s a e)[i - a]? =s[i]? :=by
  unfold cut
  rw[List.getElem?_drop,show a+(i - a)=i by omega,List.getElem?_take_of_lt h2]
 rw[List.getElem?_eq_getElem hlt,List.getElem?_eq_getElem (by omega),Option.some.injEq] at hg
 rw[List.drop_eq_getElem_cons hlt,show i - a+1=i+1 - a by omega,hg]
theorem Jn {m:NH} {vb:NV} {s:List Nat} (hs:s.length<=1000000) (hb:Sl m vb 1 (o9 s)) {a:Nat} (ha:a<=s.length) {t:Tm} {r tk:D4} {b0 b1 b2 b3 a0 a1 a2 a3 cc:NV}
 (hr:m.get r=some (.cells true [b0,b1,b2,b3])) (htk:m.get tk=some (.cells true [a0,a1,a2,a3])) (orr:aC m r) (otk:aC m tk)
 (g1:NT.get D4.e t=some vb) (g2:NT.get D4.e.a.c t=some (ii ((aZ ed s a:Nat):Int))) (g3:NT.get D4.e.a t=some (ii a)) (g4:NT.get D4.e.f t=some (.ptr r 0)) (g5:NT.get D4.e.b.a t=some (.ptr tk 0)) (g6:NT.get D4.e.b.b t=some (u64 0)) (g7:NT.get D4.e.b.c t=some (ii a)) (g8:NT.get D4.e.a.f t=some cc)
 {Q:Out->Dyn->Prop}
 (hbad:wd s a->∀L t',NT.get D4.e.f (ak L t')=some (.ptr r 0)->NT.get D4.e.a.a (ak L t')=some (ii a)->NT.get D4.e.a.b (ak L t')=some (ii 2)->Q .ret ⟨ak L t', [],none,m.put r (.cells true [a0,a1,a2,a3])⟩)
 (hok:∀n,aZ ed s a=aZ eV s a->pH (cut s a (aZ eV s a)) 0=some n->∀L t',NT.get D4.e.b.a (ak L t')=some (.ptr tk 0)->NT.get D4.e.a.c (ak L t')=some (ii ((aZ ed s a:Nat):Int))->NT.get D4.e.a (ak L t')=some (ii a)->NT.get D4.e.f (ak L t')=some (.ptr r 0)->NT.get D4.e.b.b (ak L t')=some (u64 n)->NT.get D4.e.a.f (ak L t')=some cc->Q (.exit 3) ⟨ak L t', [],none,m⟩):
 W Try.prog S0 none rt.loop ⟨t, [],none,m⟩ Q:=by
 have hlen:=hb.len
 rw[List.length_map] at hlen
 have hle:aZ ed s a<=s.length:=fO ha
 have hge:a<=aZ ed s a:=jj
 generalize hto:aZ ed s a=to at hle hge g2 hok
 refine W.loop (fun k d=>∃t i n,d=⟨t, [],none,m⟩/\NT.get D4.e t=some vb/\NT.get D4.e.a.c t=some (ii (to:Nat))/\NT.get D4.e.a t=some (ii a)/\NT.get D4.e.f t=some (.ptr r 0)/\NT.get D4.e.b.a t=some (.ptr tk 0)/\NT.get D4.e.b.b t=some (u64 n)/\NT.get D4.e.b.c t=some (ii (i:Nat))/\NT.get D4.e.a.f t=some cc/\n<18446744073709551616/\a<=i/\(∀c∈(cut s a to).take (i - a),eV c=true)/\pH ((cut s a to).drop (i - a)) n=pH (cut s a to) 0/\i+k=to) ?_ (to - a) _
  ⟨_,a,0,rfl,g1,g2,g3,g4,g5,g6,g7,g8,by omega,Nat.le_refl _,by simp,by simp,by omega⟩
 rintro k d ⟨t,i,n,rfl,g1,g2,g3,g4,g5,g6,g7,g8,hn,hai,hall,hv,hik⟩
 apply aK
 unfold rt
 change wp _ _ _ _ ⟨ak [] t, [],none,m⟩ _
 by_cases hi:i<to
 ·obtain ⟨id,off,w,c',x1,x2,x3,x4,x5⟩:=hb.at i (by simp;omega)
  rw[List.getElem_map] at x5
  have c0:=bz x5 0 (by omega)
  rw[Nat.add_zero] at c0
  have hcg:=Gc (s:=s) hai hi hle
  have hD:=rf m s[i]
  generalize hc:s[i]=c at c0 hcg hD
  rw[hcg] at hv
  have hmem:c∈cut s a to:=by
   have:c∈(cut s a to).drop (i - a):=by rw[hcg];simp
   exact List.mem_of_mem_drop this
  cases h1:eV c with
  |false=>
   rw[h1] at hD
   simp (config:={maxSteps:=1000000}) (disch:=first|assumption|omega|exact ab (by omega)|exact aa (by assumption)|(simp only[ao]<;>omega)) only[go_sem,seval,ai,g1,g2,g3,g4,g5,g6,g7,hlen,x1,x2,c0,hD.wf',hr,htk]
   refine hbad (Or.inl fun h=> ?_) _ _ ?_ ?_ ?_
   ·rw[hto] at h
    have:=zw eV s a c (by rw[←h];exact hmem)
    rw[h1] at this;cases this
   ·simp (config:={maxSteps:=1000000}) (disch:=first|assumption|omega|exact ab (by omega)|exact aa (by assumption)|(simp only[ao]<;>omega)) only[go_sem,seval,g4]
   ·simp (config:={maxSteps:=1000000}) (disch:=first|assumption|omega|exact ab (by omega)|exact aa (by assumption)|(simp only[ao]<;>omega)) only[go_sem,seval]
   ·simp (config:={maxSteps:=1000000}) (disch:=first|assumption|omega|exact ab (by omega)|exact aa (by assumption)|(simp only[ao]<;>omega)) only[go_sem,seval]
  |true=>
   rw[h1] at hD
   have hdd:=h1
   unfold eV at hdd
   rw[decide_eq_true_eq] at hdd
   have e1:((c:Int) - 48) % 256=((c - 48:Nat):Int):=by omega
   have e2:((c - 48:Nat):Int) % 18446744073709551616=((c - 48:Nat):Int):=by omega
   have e3:(18446744073709551615 - ((c - 48:Nat):Int)) % 18446744073709551616=((18446744073709551615 - (c - 48):Nat):Int):=by omega
   have q10:∀x:Nat,x<18446744073709551616->dH .num .quo (.int .u64 (.lit (x:Int))) (.int .u64 (.lit 10))=some (.int .u64 (.lit ((x / 10:Nat):Int))):=by
    intro x hx
    have:=Dj (a:=x) (b:=10) (by omega)
    rw[show x / 10 % 18446744073709551616=x / 10 by omega] at this
    exact this
   have q10:=q10 (18446744073709551615 - (c - 48)) (by omega)
   have hvn:pH (c::(cut s a to).drop (i+1 - a)) n=if 10*n+(c - 48)<18446744073709551616 then pH ((cut s a to).drop (i+1 - a)) (10*n+(c - 48)) else none:=rfl
   by_cases hlt:10*n+(c - 48)<18446744073709551616
   ·rw[hvn,if_pos hlt] at hv
    have hle10:n<=(18446744073709551615 - (c - 48)) / 10:=by omega
    have e4:(10*(n:Int) % 18446744073709551616+((c - 48:Nat):Int)) % 18446744073709551616=((10*n+(c - 48):Nat):Int):=by omega
    generalize hqq:(18446744073709551615 - (c - 48)) / 10=qq at q10 hle10
    simp (config:={maxSteps:=1000000}) (disch:=first|assumption|omega|exact ab (by omega)|exact aa (by assumption)|(simp only[ao]<;>omega)) only[go_sem,seval,ai,g1,g2,g3,g4,g5,g6,g7,hlen,x1,x2,c0,hD.wf',e1,e2,e3,q10,e4]
    refine ⟨k - 1,by omega,_,i+1,10*n+(c - 48),rfl, ?_, ?_, ?_, ?_, ?_, ?_, ?_, ?_,hlt,by omega, ?_,hv,by omega⟩
    ·simp (config:={maxSteps:=1000000}) (disch:=first|assumption|omega|exact ab (by omega)|exact aa (by assumption)|(simp only[ao]<;>omega)) only[go_sem,seval,g1]
    ·simp (config:={maxSteps:=1000000}) (disch:=first|assumption|omega|exact ab (by omega)|exact aa (by assumption)|(simp only[ao]<;>omega)) only[go_sem,seval,g2]
    ·simp (config:={maxSteps:=1000000}) (disch:=first|assumption|omega|exact ab (by omega)|exact aa (by assumption)|(simp only[ao]<;>omega)) only[go_sem,seval,g3]
    ·simp (config:={maxSteps:=1000000}) (disch:=first|assumption|omega|exact ab (by omega)|exact aa (by assumption)|(simp only[ao]<;>omega)) only[go_sem,seval,g4]
    ·simp (config:={maxSteps:=1000000}) (disch:=first|assumption|omega|exact ab (by omega)|exact aa (by assumption)|(simp only[ao]<;>omega)) only[go_sem,seval,g5]
    ·simp (config:={maxSteps:=1000000}) (disch:=first|assumption|omega|exact ab (by omega)|exact aa (by assumption)|(simp only[ao]<;>omega)) only[go_sem,seval]
    ·simp (config:={maxSteps:=1000000}) (disch:=first|assumption|omega|exact ab (by omega)|exact aa (by assumption)|(simp only[ao]<;>omega)) only[go_sem,seval]<;>rfl
    ·simp (config:={maxSteps:=1000000}) (disch:=first|assumption|omega|exact ab (by omega)|exact aa (by assumption)|(simp only[ao]<;>omega)) only[go_sem,seval,g8]
    ·intro x hx
     rw[show i+1 - a=i - a+1 by omega,List.take_add_one] at hx
     have hg:(cut s a to)[i - a]? =some c:=by
      have:=congrArg (fun l=>l[0]?) hcg
      simpa using this
     rw[hg] at hx
     simp only[Option.toList_some,List.mem_append,List.mem_singleton] at hx
     rcases hx with hx|rfl
     ·exact hall x hx
     ·exact h1
   ·rw[hvn,if_neg hlt] at hv
    have hle10:(18446744073709551615 - (c - 48)) / 10<n:=by omega
    generalize hqq:(18446744073709551615 - (c - 48)) / 10=qq at q10 hle10
    simp (config:={maxSteps:=1000000}) (disch:=first|assumption|omega|exact ab (by omega)|exact aa (by assumption)|(simp only[ao]<;>omega)) only[go_sem,seval,ai,g1,g2,g3,g4,g5,g6,g7,hlen,x1,x2,c0,hD.wf',e1,e2,e3,q10,hr,htk]
    refine hbad ?_ _ _ ?_ ?_ ?_
    ·unfold wd
     by_cases h:aZ ed s a=aZ eV s a
     ·right;rw[←h,hto];exact hv.symm
     ·exact Or.inl h
    ·simp (config:={maxSteps:=1000000}) (disch:=first|assumption|omega|exact ab (by omega)|exact aa (by assumption)|(simp only[ao]<;>omega)) only[go_sem,seval,g4]
    ·simp (config:={maxSteps:=1000000}) (disch:=first|assumption|omega|exact ab (by omega)|exact aa (by assumption)|(simp only[ao]<;>omega)) only[go_sem,seval]
    ·simp (config:={maxSteps:=1000000}) (disch:=first|assumption|omega|exact ab (by omega)|exact aa (by assumption)|(simp only[ao]<;>omega)) only[go_sem,seval]
 ·simp (config:={maxSteps:=1000000}) (disch:=first|assumption|omega|exact ab (by omega)|exact aa (by assumption)|(simp only[ao]<;>omega)) only[go_sem,seval,g1,g2,g7,hlen]
  have hia:i - a=(cut s a to).length:=by rw[kB hle];omega
  rw[hia,List.take_length] at hall
  have he:aZ eV s a=aZ ed s a:=CA (by rw[hto];exact hall)
  rw[hia,List.drop_length] at hv
  rw[hto] at he
  refine hok n he.symm ?_ _ _ ?_ ?_ ?_ ?_ ?_ ?_
  ·rw[he,←hv];rfl
  ·simp (config:={maxSteps:=1000000}) (disch:=first|assumption|omega|exact ab (by omega)|exact aa (by assumption)|(simp only[ao]<;>omega)) only[go_sem,seval,g5]
  ·simp (config:={maxSteps:=1000000}) (disch:=first|assumption|omega|exact ab (by omega)|exact aa (by assumption)|(simp only[ao]<;>omega)) only[go_sem,seval,g2]
  ·simp (config:={maxSteps:=1000000}) (disch:=first|assumption|omega|exact ab (by omega)|exact aa (by assumption)|(simp only[ao]<;>omega)) only[go_sem,seval,g3]
  ·simp (config:={maxSteps:=1000000}) (disch:=first|assumption|omega|exact ab (by omega)|exact aa (by assumption)|(simp only[ao]<;>omega)) only[go_sem,seval,g4]
  ·simp (config:={maxSteps:=1000000}) (disch:=first|assumption|omega|exact ab (by omega)|exact aa (by assumption)|(simp only[ao]<;>omega)) only[go_sem,seval,g6]
  ·simp (config:={maxSteps:=1000000}) (disch:=first|assumption|omega|exact ab (by omega)|exact aa (by assumption)|(simp only[ao]<;>omega)) only[go_sem,seval,g8]
theorem J2 {m:NH} {t:Tm} {r tk:D4} {b0 b1 b2 b3 a0 a1 a2 a3:NV} {c a:Nat} (ha':a<=1000000)
 (hr:m.get r=some (.cells true [b0,b1,b2,b3])) (htk:m.get tk=some (.cells true [a0,a1,a2,a3])) (orr:aC m r) (otk:aC m tk) (hrt:r≠tk)
 (g1:NT.get D4.e.c.a t=some (.str dU)) (g2:NT.get D4.e.c.b t=some (ii 0)) (g3:NT.get D4.e.a t=some (ii a)) (g4:NT.get D4.e.f t=some (.ptr r 0)) (g5:NT.get D4.e.b.a t=some (.ptr tk 0)) (g6:NT.get D4.e.a.f t=some (u8 c))
 {Q:Out->Dyn->Prop}
 (hok:c∈dU->∀L t' m',m'.get r=some (.cells true [ii 3,.str [c],a2,a3])->Chg [r,tk] m m'->NT.get D4.e.f (ak L t')=some (.ptr r 0)->NT.get D4.e.a.a (ak L t')=some (ii ((a:Int)+1))->NT.get D4.e.a.b (ak L t')=some (ii 0)->Q .ret ⟨ak L t', [],none,m'⟩)
 (hbad:c∉dU->∀L t',NT.get D4.e.b.a (ak L t')=some (.ptr tk 0)->NT.get D4.e.a (ak L t')=some (ii a)->NT.get D4.e.f (ak L t')=some (.ptr r 0)->Q (.exit 5) ⟨ak L t', [],none,m⟩):
 W Try.prog S0 none qw.loop ⟨t, [],none,m⟩ Q:=by
 have hsl:dU.length=13:=rfl
 refine W.loop (fun k d=>∃t i,d=⟨t, [],none,m⟩/\NT.get D4.e.c.a t=some (.str dU)/\NT.get D4.e.c.b t=some (ii (i:Nat))/\NT.get D4.e.a t=some (ii a)/\NT.get D4.e.f t=some (.ptr r 0)/\NT.get D4.e.b.a t=some (.ptr tk 0)/\NT.get D4.e.a.f t=some (u8 c)/\c∉dU.take i/\i+k=13) ?_ 13 _ ⟨_,0,rfl,g1,g2,g3,g4,g5,g6,by simp,by omega⟩
 rintro k d ⟨t,i,rfl,g1,g2,g3,g4,g5,g6,hno,hik⟩
 apply aK
 unfold qw
 change wp _ _ _ _ ⟨ak [] t, [],none,m⟩ _
 rw[←ai m]
 by_cases hi:i<13
 ·have hb:dU[i]? =some dU[i]:=List.getElem?_eq_getElem (by omega)
  by_cases he:dU[i]=c
  ·rw[he] at hb
   have e1:List.drop i (List.take ((i:Int)+1).toNat dU)= [c]:=by
    rw[show ((i:Int)+1).toNat=i+1 by omega,List.take_add_one,hb]
    simp only[Option.toList_some]
    rw[List.drop_append_of_le_length (by rw[List.length_take];omega),List.drop_take_self];rfl
   simp (config:={maxSteps:=1000000}) (disch:=first|assumption|omega|exact ab (by omega)|exact aa (by assumption)|(simp only[ao]<;>omega)) only[go_sem,seval,g1,g2,g3,g4,g5,g6,hb,hsl,e1,hr,htk,BX]
   refine hok (by rw[←he];exact List.getElem_mem _) _ _ _ ?_ ?_ ?_ ?_ ?_
   ·exact (aQ orr).trans ay
   ·exact (an rfl).weak (by simp[aU])
   ·simp (config:={maxSteps:=1000000}) (disch:=first|assumption|omega|exact ab (by omega)|exact aa (by assumption)|(simp only[ao]<;>omega)) only[go_sem,seval,g4]
   ·simp (config:={maxSteps:=1000000}) (disch:=first|assumption|omega|exact ab (by omega)|exact aa (by assumption)|(simp only[ao]<;>omega)) only[go_sem,seval]
   ·simp (config:={maxSteps:=1000000}) (disch:=first|assumption|omega|exact ab (by omega)|exact aa (by assumption)|(simp only[ao]<;>omega)) only[go_sem,seval]
  ·have hne:((dU[i]:Int)=(c:Int))=False:=by simp;omega
   simp (config:={maxSteps:=1000000}) (disch:=first|assumption|omega|exact ab (by omega)|exact aa (by assumption)|(simp only[ao]<;>omega)) only[go_sem,seval,g1,g2,g3,g4,g5,g6,hb,hsl]
   refine ⟨k - 1,by omega,_,i+1,by rw[ai], ?_, ?_, ?_, ?_, ?_, ?_, ?_,by omega⟩
   ·simp (config:={maxSteps:=1000000}) (disch:=first|assumption|omega|exact ab (by omega)|exact aa (by assumption)|(simp only[ao]<;>omega)) only[go_sem,seval,g1]
   ·simp (config:={maxSteps:=1000000}) (disch:=first|assumption|omega|exact ab (by omega)|exact aa (by assumption)|(simp only[ao]<;>omega)) only[go_sem,seval]<;>rfl
   ·simp (config:={maxSteps:=1000000}) (disch:=first|assumption|omega|exact ab (by omega)|exact aa (by assumption)|(simp only[ao]<;>omega)) only[go_sem,seval,g3]
   ·simp (config:={maxSteps:=1000000}) (disch:=first|assumption|omega|exact ab (by omega)|exact aa (by assumption)|(simp only[ao]<;>omega)) only[go_sem,seval,g4]
   ·simp (config:={maxSteps:=1000000}) (disch:=first|assumption|omega|exact ab (by omega)|exact aa (by assumption)|(simp only[ao]<;>omega)) only[go_sem,seval,g5]
   ·simp (config:={maxSteps:=1000000}) (disch:=first|assumption|omega|exact ab (by omega)|exact aa (by assumption)|(simp only[ao]<;>omega)) only[go_sem,seval,g6]
   ·rw[List.take_add_one,hb]
    simp only[Option.toList_some,List.mem_append,List.mem_singleton,not_or]
    exact ⟨hno,fun q=>he q.symm⟩
 ·simp (config:={maxSteps:=1000000}) (disch:=first|assumption|omega|exact ab (by omega)|exact aa (by assumption)|(simp only[ao]<;>omega)) only[go_sem,seval,g1,g2,hsl]
  rw[ai]
  refine hbad ?_ _ _ ?_ ?_ ?_
  ·have:i=13:=by omega
   subst this
   exact hno
  ·simp (config:={maxSteps:=1000000}) (disch:=first|assumption|omega|exact ab (by omega)|exact aa (by assumption)|(simp only[ao]<;>omega)) only[go_sem,seval,g5]
  ·simp (config:={maxSteps:=1000000}) (disch:=first|assumption|omega|exact ab (by omega)|exact aa (by assumption)|(simp only[ao]<;>omega)) only[go_sem,seval,g3]
  ·simp (config:={maxSteps:=1000000}) (disch:=first|assumption|omega|exact ab (by omega)|exact aa (by assumption)|(simp only[ao]<;>omega)) only[go_sem,seval,g4]
theorem Dc (s:List Nat) (a e:Nat):((o9 s).drop a).take (e - a)=o9 (cut s a e):=by
 unfold cut
 rw[List.drop_take]
 simp[List.map_take,List.map_drop]
theorem j9 {s:List Nat} {a c:Nat} (hbs:s[a]? =some c) (hD:eV c=true):FG (cut s a (aZ eV s a))=if 1<aZ eV s a - a/\c=48 then none else pH (cut s a (aZ eV s a)) 0:=by
 have ha:=(List.getElem?_eq_some_iff.mp hbs).1
 obtain ⟨l,hl⟩:=Hv hbs hD
 have hn:=kB (s:=s) (a:=a) (fO (p:=eV) (s:=s) (a:=a) (by omega))
 unfold FG
 rw[hn]
 have e:((cut s a (aZ eV s a))[0]? =some 48)↔(c=48):=by rw[hl];simp
 by_cases h:1<aZ eV s a - a/\c=48
 ·rw[if_pos h,if_pos ⟨h.1,e.mpr h.2⟩]
 ·rw[if_neg h,if_neg fun q=>h ⟨q.1,e.mp q.2⟩]
theorem ko {s:List Nat} {a c:Nat} (hbs:s[a]? =some c) (hD:eV c=true):fT s a=(match FG (cut s a (aZ eV s a)) with|some n=>if aZ ed s a=aZ eV s a then some (2, [],n,aZ eV s a) else none|none=>none):=by
 have hL:uM c=false:=by
  unfold eV at hD;rw[decide_eq_true_eq] at hD
  unfold uM;rw[decide_eq_false_iff_not];omega
 unfold fT;rw[hbs];simp only[hL,hD];rfl
theorem sH {s:List Nat} {a c:Nat} (hbs:s[a]? =some c) (hD:eV c=true) (h:wd s a):fT s a=none:=by
 rw[ko hbs hD,j9 hbs hD]
 by_cases h1:1<aZ eV s a - a/\c=48
 ·rw[if_pos h1]
 ·rw[if_neg h1]
  rcases h with h|h
  ·cases pH (cut s a (aZ eV s a)) 0 with
   |none=>rfl
   |some n=>simp[h]
  ·rw[h]
theorem FK (m:NH) {vb:NV} {s:List Nat} (hs:s.length<=1000000) (h256:∀c∈s,c<256) (hb:Sl m vb 1 (o9 s)) {a:Nat} (ha:a<s.length):
 ∃v m',bI Try.prog S0 83 [vb,ii a] m v m'/\(∃(k0:Int) (t0:List Nat) (n0 p:Int),v= .tup [.agg [ii k0,.str t0,.int .u64 (.lit n0),ii a],ii p,ii (if (fT s a).isSome then 0 else 2)]/\∀k t n e,fT s a=some (k,t,n,e)->k0=k/\t0=t/\n0=n/\p=e)/\Chg [] m m':=by
 refine WF.ex fun K hK=> ?_
 refine WF.of_wpG (fun _=>rfl) yK (L:= [(.a .e,ii a),(.e,vb)]) rfl ?_
 unfold Ie
 simp (config:={maxSteps:=1000000}) (disch:=first|assumption|omega|exact ab (by omega)|exact aa (by assumption)|(simp only[ao]<;>omega)) only[go_sem,seval]
 generalize hM0:hp _ 1 m=M0
 have hC0:Chg [] m M0:=by rw[←hM0];exact an rfl
 have r0:M0.get (na m 0)=some (.cells true [ii 0,.str [],u64 0,ii 0]):=by rw[←hM0];exact ax
 have or0:aC M0 (na m 0):=by rw[←hM0];exact ab (by omega)
 have hb0:=hb.chg hC0 fun _ _=>by simp
 refine Jk hs hb0 (Nat.le_of_lt ha) (by simp only[go_sem,seval]) (by simp only[go_sem,seval]) (by simp only[go_sem,seval]) (f:= .ptr (na m 0) 0) (by simp only[go_sem,seval]) ?_
 intro L t g1 g2 g3 g4
 rw[←ai M0]
 obtain ⟨id,off,w,c',x1,x2,x3,x4,x5⟩:=hb0.at a (by simpa using ha)
 rw[List.getElem_map] at x5
 have c0:=bz x5 0 (by omega)
 rw[Nat.add_zero] at c0
 have hbs:s[a]? =some s[a]:=List.getElem?_eq_getElem ha
 have hc256:=h256 s[a] (List.getElem_mem ha)
 generalize hc:s[a]=c at c0 hbs hc256
 have hd:∀m,bI Try.prog S0 132 [u8 c] m (.bool (eV c)) m:=fun m=>rf m c
 have hl:∀m,bI Try.prog S0 133 [u8 c] m (.bool (uM c)) m:=fun m=>mZ m c
 generalize hT:ak L t=T at g1 g2 g3 g4
 change wp _ _ _ _ ⟨ak [] T, [],none,_⟩ _
 have na_ne:na m 0≠na M0 0:=or0.ne 0
 have na_ne':na M0 0≠na m 0:=fun e=>or0.ne 0 e.symm
 have chF:∀(M1:NH) {MF:NH} {T1 T2:List D4},Chg T1 M0 M1->Chg T2 M1 MF->(∀i∈T1++T2,i=na m 0∨i=na M0 0)->Chg [] m MF:=by
  intro M1 MF T1 T2 h1 h2 hi
  refine (hC0.weak (T:=T1++T2) (by simp)).trans ((h1.weak (T:=T1++T2) (by intro i hi _;simp[hi])).trans h2 (by intro i hi _;simp[hi])) (fun _ h _=>h) |>.weak ?_
  intro i hi' ho
  rcases hi i hi' with rfl|rfl
  ·exact absurd ho aI
  ·exact absurd (hC0.old ho) aI
 cases hD:eV c with
 |true=>
  rw[hD] at hd
  simp (config:={maxSteps:=1000000}) (disch:=first|assumption|omega|exact ab (by omega)|exact aa (by assumption)|(simp only[ao]<;>omega)) only[go_sem,seval,g1,g2,g3,g4,x1,x2,c0,(hd _).wf']
  generalize hM1:hp _ 1 M0=M1
  have hC1:Chg [] M0 M1:=by rw[←hM1];exact an rfl
  have p0:=(hC1.get or0 (by simp)).trans r0
  have op0:=hC1.old or0
  have p1:M1.get (na M0 0)=some (.cells true [ii 0,.str [],u64 0,ii a]):=by rw[←hM1];exact ax
  have op1:aC M1 (na M0 0):=by rw[←hM1];exact ab (by omega)
  have hb1:=hb0.chg hC1 fun _ _=>by simp
  refine Jn hs hb1 (Nat.le_of_lt ha) p0 p1 op0 op1 (cc:=u8 c) ?_ ?_ ?_ ?_ ?_ ?_ ?_ ?_ ?_ ?_
  ·simp (config:={maxSteps:=1000000}) (disch:=first|assumption|omega|exact ab (by omega)|exact aa (by assumption)|(simp only[ao]<;>omega)) only[go_sem,seval,g1]
  ·simp (config:={maxSteps:=1000000}) (disch:=first|assumption|omega|exact ab (by omega)|exact aa (by assumption)|(simp only[ao]<;>omega)) only[go_sem,seval,g4]
  ·simp (config:={maxSteps:=1000000}) (disch:=first|assumption|omega|exact ab (by omega)|exact aa (by assumption)|(simp only[ao]<;>omega)) only[go_sem,seval,g2]
  ·simp (config:={maxSteps:=1000000}) (disch:=first|assumption|omega|exact ab (by omega)|exact aa (by assumption)|(simp only[ao]<;>omega)) only[go_sem,seval,g3]
  ·simp (config:={maxSteps:=1000000}) (disch:=first|assumption|omega|exact ab (by omega)|exact aa (by assumption)|(simp only[ao]<;>omega)) only[go_sem,seval]
  ·simp (config:={maxSteps:=1000000}) (disch:=first|assumption|omega|exact ab (by omega)|exact aa (by assumption)|(simp only[ao]<;>omega)) only[go_sem,seval]<;>rfl
  ·simp (config:={maxSteps:=1000000}) (disch:=first|assumption|omega|exact ab (by omega)|exact aa (by assumption)|(simp only[ao]<;>omega)) only[go_sem,seval,g2]
  ·simp (config:={maxSteps:=1000000}) (disch:=first|assumption|omega|exact ab (by omega)|exact aa (by assumption)|(simp only[ao]<;>omega)) only[go_sem,seval]
  ·intro hbn L' t' k1 k2 k3
   generalize ak L' t'=T' at k1 k2 k3
   rw[show M1.put (na m 0) (.cells true [ii 0,.str [],u64 0,ii a])=hp [(.o (na m 0),.cells true [ii 0,.str [],u64 0,ii a])] 0 M1 from by rw[←qD op0,ai]]
   change wU _ K .ret ⟨ak [] T', [],none,_⟩
   have T:fT s a=none:=sH hbs hD hbn
   simp (config:={maxSteps:=1000000}) (disch:=first|assumption|omega|exact ab (by omega)|exact aa (by assumption)|(simp only[ao]<;>omega)) only[go_sem,seval,k1,k2,k3]
   refine hK _ _ ⟨⟨_,_,_,_,by rw[T];rfl, ?_⟩,chF M1 hC1 (an rfl) (by simp[aU])⟩
   intro k t n e he;rw[T] at he;cases he
  ·intro n hrr hv L' t' k1 k2 k3 k4 k5 k6
   generalize ak L' t'=T' at k1 k2 k3 k4 k5 k6
   rw[←ai M1]
   change wp _ _ _ _ ⟨ak [] T', [],none,_⟩ _
   have hge:a<=aZ ed s a:=jj
   have hle:aZ ed s a<=s.length:=fO (Nat.le_of_lt ha)
   by_cases h48:c=48
   ·by_cases hgt:a+1<aZ ed s a
    ·have T:fT s a=none:=by rw[ko hbs hD,j9 hbs hD,if_pos ⟨by omega,h48⟩]
     simp (config:={maxSteps:=1000000}) (disch:=first|assumption|omega|exact ab (by omega)|exact aa (by assumption)|(simp only[ao]<;>omega)) only[go_sem,seval,k1,k2,k3,k4,k5,k6,p0,p1]
     refine hK _ _ ⟨⟨_,_,_,_,by rw[T];rfl, ?_⟩,chF M1 hC1 (an rfl) (by simp[aU])⟩
     intro k t n e he;rw[T] at he;cases he
    ·have T:fT s a=some (2, [],n,aZ eV s a):=by rw[ko hbs hD,j9 hbs hD,if_neg (by omega),hv];simp[hrr]
     simp (config:={maxSteps:=1000000}) (disch:=first|assumption|omega|exact ab (by omega)|exact aa (by assumption)|(simp only[ao]<;>omega)) only[go_sem,seval,k1,k2,k3,k4,k5,k6,p0,p1,na_ne]
     refine hK _ _ ⟨⟨_,_,_,_,by rw[T];rfl, ?_⟩,chF M1 hC1 (an rfl) (by simp[aU])⟩
     intro k t n e he;rw[T] at he;cases he
     exact ⟨rfl,rfl,rfl,by rw[hrr]⟩
   ·have T:fT s a=some (2, [],n,aZ eV s a):=by rw[ko hbs hD,j9 hbs hD,if_neg (by omega),hv];simp[hrr]
    simp (config:={maxSteps:=1000000}) (disch:=first|assumption|omega|exact ab (by omega)|exact aa (by assumption)|(simp only[ao]<;>omega)) only[go_sem,seval,k1,k2,k3,k4,k5,k6,p0,p1,na_ne]
    refine hK _ _ ⟨⟨_,_,_,_,by rw[T];rfl, ?_⟩,chF M1 hC1 (an rfl) (by simp[aU])⟩
    intro k t n e he;rw[T] at he;cases he
    exact ⟨rfl,rfl,rfl,by rw[hrr]⟩
 |false=>
  rw[hD] at hd
  cases hL:uM c with
  |true=>
   rw[hL] at hl
   simp (config:={maxSteps:=1000000}) (disch:=first|assumption|omega|exact ab (by omega)|exact aa (by assumption)|(simp only[ao]<;>omega)) only[go_sem,seval,g1,g2,g3,g4,x1,x2,c0,(hd _).wf',(hl _).wf']
   generalize hM1:hp _ 1 M0=M1
   have hC1:Chg [] M0 M1:=by rw[←hM1];exact an rfl
   have op0:=hC1.old or0
   have p1:M1.get (na M0 0)=some (.cells true [ii 0,.str [],u64 0,ii a]):=by rw[←hM1];exact ax
   have op1:aC M1 (na M0 0):=by rw[←hM1];exact ab (by omega)
   have hb1:=hb0.chg hC1 fun _ _=>by simp
   have p0:=(hC1.get or0 (by simp)).trans r0
   have hge:a<=aZ ed s a:=jj
   have hle:aZ ed s a<=s.length:=fO (Nat.le_of_lt ha)
   refine xW (a:=a) (b:=aZ ed s a) hb1 hge (by simpa using hle) ?_ ?_ ?_
   ·intro K;simp (config:={maxSteps:=1000000}) (disch:=first|assumption|omega|exact ab (by omega)|exact aa (by assumption)|(simp only[ao]<;>omega)) only[go_sem,seval]
   ·intro d K hd;simp (config:={maxSteps:=1000000}) (disch:=first|assumption|omega|exact ab (by omega)|exact aa (by assumption)|(simp only[ao]<;>omega)) only[go_sem,seval]
   intro v' hv' _
   rw[Dc] at hv'
   have hbt:=hv'.bts (fun c hc=>h256 c (List.mem_of_mem_take (List.mem_of_mem_drop hc)))
   rw[←ai M1]
   have hbt:Fp (hp [] 0 M1) v'= .val (.str (cut s a (aZ ed s a))):=by rw[ai];exact hbt
   simp (config:={maxSteps:=1000000}) (disch:=first|assumption|omega|exact ab (by omega)|exact aa (by assumption)|(simp only[ao]<;>omega)) only[go_sem,seval,g1,g2,g3,g4,hbt,p1]
   generalize hM2:hp _ 0 M1=M2
   have hC2:Chg [na M0 0] M1 M2:=by rw[←hM2];exact (an rfl).weak (by simp[aU])
   have s0:=(hC2.get op0 (by simpa using na_ne)).trans p0
   have s1:M2.get (na M0 0)=some (.cells true [ii 1,.str (cut s a (aZ ed s a)),u64 0,ii a]):=by rw[←hM2];simp (config:={maxSteps:=1000000}) (disch:=first|assumption|omega|exact ab (by omega)|exact aa (by assumption)|(simp only[ao]<;>omega)) only[go_sem,seval]
   have os0:=hC2.old op0
   have os1:=hC2.old op1
   obtain ⟨wv,M3,hw,rfl,hC3⟩:=GD M2 (cut s a (aZ ed s a))
   have y0:=(hC3.get os0 (by simp)).trans s0
   have y1:=(hC3.get os1 (by simp)).trans s1
   have oy0:=hC3.old os0
   have oy1:=hC3.old os1
   have hC13:Chg [na M0 0] M0 M3:=(hC1.weak (T:= [na M0 0]) (by simp)).trans ((hC2.weak (T:= [na M0 0]) (by simp)).trans (hC3.weak (T:= [na M0 0]) (by simp)) (fun _ h _=>h)) (fun _ h _=>h)
   have TT:fT s a=(if cut s a (aZ ed s a)∈fV then some (4,cut s a (aZ ed s a),0,aZ ed s a) else if (cut s a (aZ ed s a)).length<=16 then some (1,cut s a (aZ ed s a),0,aZ ed s a) else none):=by
    unfold fT;rw[hbs];simp only[hL];rfl
   by_cases hwd:cut s a (aZ ed s a)∈fV
   ·rw[decide_eq_true hwd] at hw
    rw[if_pos hwd] at TT
    simp (config:={maxSteps:=1000000}) (disch:=first|assumption|omega|exact ab (by omega)|exact aa (by assumption)|(simp only[ao]<;>omega)) only[go_sem,seval,hw.wf,g1,g2,g3,g4,y0,y1]
    refine hK _ _ ⟨⟨_,_,_,_,by rw[TT];rfl, ?_⟩,chF M3 hC13 (an rfl) (by simp[aU])⟩
    intro k t n e he;rw[TT] at he;cases he
    exact ⟨rfl,rfl,rfl,rfl⟩
   ·rw[decide_eq_false hwd] at hw
    rw[if_neg hwd] at TT
    by_cases h16:(cut s a (aZ ed s a)).length<=16
    ·rw[if_pos h16] at TT
     simp (config:={maxSteps:=1000000}) (disch:=first|assumption|omega|exact ab (by omega)|exact aa (by assumption)|(simp only[ao]<;>omega)) only[go_sem,seval,hw.wf,g1,g2,g3,g4,y0,y1]
     refine hK _ _ ⟨⟨_,_,_,_,by rw[TT];rfl, ?_⟩,chF M3 hC13 (an rfl) (by simp[aU])⟩
     intro k t n e he;rw[TT] at he;cases he
     exact ⟨rfl,rfl,rfl,rfl⟩
    ·rw[if_neg h16] at TT
     simp (config:={maxSteps:=1000000}) (disch:=first|assumption|omega|exact ab (by omega)|exact aa (by assumption)|(simp only[ao]<;>omega)) only[go_sem,seval,hw.wf,g1,g2,g3,g4,y0,y1]
     refine hK _ _ ⟨⟨_,_,_,_,by rw[TT];rfl, ?_⟩,chF M3 hC13 (an rfl) (by simp[aU])⟩
     intro k t n e he;rw[TT] at he;cases he
  |false=>
   rw[hL] at hl
   simp (config:={maxSteps:=1000000}) (disch:=first|assumption|omega|exact ab (by omega)|exact aa (by assumption)|(simp only[ao]<;>omega)) only[go_sem,seval,g1,g2,g3,g4,x1,x2,c0,(hd _).wf',(hl _).wf']
   generalize hM1:hp _ 1 M0=M1
   have hC1:Chg [] M0 M1:=by rw[←hM1];exact an rfl
   have p0:=(hC1.get or0 (by simp)).trans r0
   have op0:=hC1.old or0
   have p1:M1.get (na M0 0)=some (.cells true [ii 0,.str [],u64 0,ii a]):=by rw[←hM1];exact ax
   have op1:aC M1 (na M0 0):=by rw[←hM1];exact ab (by omega)
   have T:fT s a=if c∈dU then some (3, [c],0,a+1) else none:=by unfold fT;rw[hbs];simp[hL,hD]
   refine J2 (c:=c) (a:=a) (by omega) p0 p1 op0 op1 na_ne ?_ ?_ ?_ ?_ ?_ ?_ ?_ ?_
   ·simp (config:={maxSteps:=1000000}) (disch:=first|assumption|omega|exact ab (by omega)|exact aa (by assumption)|(simp only[ao]<;>omega)) only[go_sem,seval]<;>rfl
   ·simp (config:={maxSteps:=1000000}) (disch:=first|assumption|omega|exact ab (by omega)|exact aa (by assumption)|(simp only[ao]<;>omega)) only[go_sem,seval]
   ·simp (config:={maxSteps:=1000000}) (disch:=first|assumption|omega|exact ab (by omega)|exact aa (by assumption)|(simp only[ao]<;>omega)) only[go_sem,seval,g2]
   ·simp (config:={maxSteps:=1000000}) (disch:=first|assumption|omega|exact ab (by omega)|exact aa (by assumption)|(simp only[ao]<;>omega)) only[go_sem,seval,g3]
   ·simp (config:={maxSteps:=1000000}) (disch:=first|assumption|omega|exact ab (by omega)|exact aa (by assumption)|(simp only[ao]<;>omega)) only[go_sem,seval]
   ·simp (config:={maxSteps:=1000000}) (disch:=first|assumption|omega|exact ab (by omega)|exact aa (by assumption)|(simp only[ao]<;>omega)) only[go_sem,seval]
   ·intro hm L' t' m' q0 hCm k1 k2 k3
    rw[if_pos hm] at T
    generalize ak L' t'=T' at k1 k2 k3
    change wU _ K .ret ⟨ak [] T', [],none,m'⟩
    simp (config:={maxSteps:=1000000}) (disch:=first|assumption|omega|exact ab (by omega)|exact aa (by assumption)|(simp only[ao]<;>omega)) only[go_sem,seval,k1,k2,k3,q0]
    refine hK _ _ ⟨⟨_,_,_,_,by rw[T];rfl, ?_⟩,chF M1 hC1 hCm (by simp)⟩
    intro k t n e he;rw[T] at he;cases he
    exact ⟨rfl,rfl,rfl,by omega⟩
   ·intro hm L' t' k1 k2 k3
    rw[if_neg hm] at T
    generalize ak L' t'=T' at k1 k2 k3
    rw[←ai M1]
    change wp _ _ _ _ ⟨ak [] T', [],none,_⟩ _
    simp (config:={maxSteps:=1000000}) (disch:=first|assumption|omega|exact ab (by omega)|exact aa (by assumption)|(simp only[ao]<;>omega)) only[go_sem,seval,k1,k2,k3,p0,p1]
    refine hK _ _ ⟨⟨_,_,_,_,by rw[T];rfl, ?_⟩,chF M1 hC1 (an rfl) (by simp[aU])⟩
    intro k t n e he;rw[T] at he;cases he
theorem Ff {m M0:NH} {vb:NV} {s:List Nat} (hs:s.length<=16384) (h256:∀c∈s,c<256) (hb:Sl m vb 1 (o9 s)) (hCm:Chg [] m M0) {t:Tm}
 (g1:NT.get D4.e t=some vb) (g2:NT.get D4.e.a.a t=some .nils) (g3:NT.get D4.e.a.b t=some (ii ((br s 0:Nat):Int))) {Q:Out->Dyn->Prop}
 (hbad:∀a,(dC s).2=some a->∀L t' M,Chg [] m M->NT.get D4.e.b (ak L t')=some .nils->NT.get D4.e.c (ak L t')=some (ii a)->NT.get D4.e.f (ak L t')=some (ii 2)->Q .ret ⟨ak L t', [],none,M⟩)
 (hok:∀T,dC s=(T++ [⟨5, [],0,s.length⟩],none)->∀L t' M u,Chg [] m M->bL m M u 4 (T.map Tok.l)->NT.get D4.e (ak L t')=some vb->NT.get D4.e.a.a (ak L t')=some u->Q (.exit 0) ⟨ak L t', [],none,M⟩):
 W Try.prog S0 none qu.loop ⟨t, [],none,M0⟩ Q:=by
 have hsk0:br s 0<=s.length:=ky (Nat.zero_le _)
 refine W.loop (fun k d=>∃t M i L u,d=⟨t, [],none,M⟩/\NT.get D4.e t=some vb/\NT.get D4.e.a.a t=some u/\NT.get D4.e.a.b t=some (ii (i:Nat))/\i<=s.length/\s.length<=i+k/\Chg [] m M/\bL m M u 4 (L.map Tok.l)/\dC s=(L++(dw s (k+1) i).1,(dw s (k+1) i).2)) ?_ s.length _
  ⟨_,M0,br s 0, [],.nils,rfl,g1,g2,g3,hsk0,by omega,hCm,bL.nil,rfl⟩
 rintro k d ⟨t,M,i,L,u,rfl,g1,g2,g3,hi,hik,hC,hu,hT⟩
 apply aK
 unfold qu
 change wp _ _ _ _ ⟨ak [] t, [],none,M⟩ _
 rw[←ai M]
 have hLl:L.length<=s.length+1:=by
  have h:=lg s (s.length+1) (br s 0)
  have h2:(dC s).1.length=_:=congrArg (fun x=>x.1.length) hT
  rw[List.length_append] at h2
  have h3:(dC s).1.length<=s.length+1:=h
  omega
 have hbM:=hb.chg hC fun _ _=>by simp
 have hlen:=hbM.len
 rw[show (o9 s).length=s.length by simp] at hlen
 by_cases hlt:i<s.length
 ·obtain ⟨k,rfl⟩:∃k',k=k'+1:=⟨k - 1,by omega⟩
  have hTs:dw s (k+1+1) i=(match fT s i with
   |none=>([],some i)
   |some (kd,t,n,e)=>(⟨kd,t,n,i⟩::(dw s (k+1) (br s e)).1,(dw s (k+1) (br s e)).2)):=by
   rw[dw,if_pos hlt]
  obtain ⟨v,M2,hr,⟨k0,t0,n0,p,rfl,htk⟩,hC2⟩:=FK (hp [] 0 M) (by omega) h256 (by rw[ai];exact hbM) hlt
  have hC2:Chg [] M M2:=by rw[ai] at hC2;exact hC2
  cases hk:fT s i with
  |none=>
   rw[hk] at hr
   have hr:bI Try.prog S0 83 [vb,ii i] (hp [] 0 M) (.tup [.agg [ii k0,.str t0,.int .u64 (.lit n0),ii i],ii p,ii 2]) M2:=hr
   rw[hTs,hk] at hT
   simp (config:={maxSteps:=1000000}) (disch:=first|assumption|omega|exact ab (by omega)|exact aa (by assumption)|(simp only[ao]<;>omega)) only[go_sem,seval,g1,g2,g3,hlen,hr.wf]
   refine hbad i (by rw[hT]) _ _ _ ((hC.trans hC2 (by simp)).trans (an rfl) (by simp[aU])) ?_ ?_ ?_
   ·simp (config:={maxSteps:=1000000}) (disch:=first|assumption|omega|exact ab (by omega)|exact aa (by assumption)|(simp only[ao]<;>omega)) only[go_sem,seval]
   ·simp (config:={maxSteps:=1000000}) (disch:=first|assumption|omega|exact ab (by omega)|exact aa (by assumption)|(simp only[ao]<;>omega)) only[go_sem,seval]
   ·simp (config:={maxSteps:=1000000}) (disch:=first|assumption|omega|exact ab (by omega)|exact aa (by assumption)|(simp only[ao]<;>omega)) only[go_sem,seval]
  |some x=>
   obtain ⟨kd,tx,n,e⟩:=x
   rw[hk] at hr
   obtain ⟨e0,e1,e2,e3⟩:=htk kd tx n e hk
   rw[e0,e1,e2,e3] at hr
   have hr:bI Try.prog S0 83 [vb,ii i] (hp [] 0 M) (.tup [.agg [ii kd,.str tx,.int .u64 (.lit (n:Int)),ii i],ii e,ii 0]) M2:=hr
   obtain ⟨l1,l2⟩:=CL hk
   simp (config:={maxSteps:=1000000}) (disch:=first|assumption|omega|exact ab (by omega)|exact aa (by assumption)|(simp only[ao]<;>omega)) only[go_sem,seval,g1,g2,g3,hlen,hr.wf]
   generalize hM3:hp _ 2 M2=M3
   have hC3:Chg [] M2 M3:=by rw[←hM3];exact an rfl
   have n1:M3.get (na M2 1)=some (.cells true (Tok.l ⟨kd,tx,n,i⟩)):=by rw[←hM3];exact ax
   have on1:aC M3 (na M2 1):=by rw[←hM3];exact ab (by omega)
   have hCC:Chg [] m M3:=hC.trans (hC2.trans hC3 (by simp)) (by simp)
   refine sJ (hu.chg (hC2.trans hC3 fun _ h _=>h) fun _ _=>by simp) n1 on1 rfl (fun i hi=>hCC.old hi) (by simp;omega) (by simp;omega) ?_
   intro u' M5 hu' hC5
   have hC6:Chg [] m M5:=(hCC.weak (T:=ids u) (by simp)).trans hC5 (fun _ h _=>h) |>.weak (by intro j hj ho;exact absurd ho (hu.new j hj))
   have hsk:bI Try.prog S0 82 [vb,ii e] (hp [] 0 M5) (ii ((br s e:Nat):Int)) (hp [] 0 M5):=BO _ (by omega) (by rw[ai];exact hb.chg hC6 fun _ _=>by simp) l2
   simp (config:={maxSteps:=1000000}) (disch:=first|assumption|omega|exact ab (by omega)|exact aa (by assumption)|(simp only[ao]<;>omega)) only[go_sem,seval,g1,g2,g3,hsk.wf']
   have hge:e<=br s e:=tz
   refine ⟨k,by omega,_,M5,br s e,L++ [⟨kd,tx,n,i⟩],u',by rw[ai], ?_, ?_, ?_,ky l2,by omega,hC6, ?_, ?_⟩
   ·simp (config:={maxSteps:=1000000}) (disch:=first|assumption|omega|exact ab (by omega)|exact aa (by assumption)|(simp only[ao]<;>omega)) only[go_sem,seval,g1]
   ·simp (config:={maxSteps:=1000000}) (disch:=first|assumption|omega|exact ab (by omega)|exact aa (by assumption)|(simp only[ao]<;>omega)) only[go_sem,seval]
   ·simp (config:={maxSteps:=1000000}) (disch:=first|assumption|omega|exact ab (by omega)|exact aa (by assumption)|(simp only[ao]<;>omega)) only[go_sem,seval]
   ·rw[List.map_append];exact hu'
   ·rw[hT,hTs,hk];simp
 ·have hTs:dw s (k+1) i=([⟨5, [],0,s.length⟩],none):=by rw[dw,if_neg hlt]
  rw[hTs] at hT
  simp (config:={maxSteps:=1000000}) (disch:=first|assumption|omega|exact ab (by omega)|exact aa (by assumption)|(simp only[ao]<;>omega)) only[go_sem,seval,g1,g2,g3,hlen]
  rw[ai]
  refine hok L hT _ _ _ u hC hu ?_ ?_
  ·simp (config:={maxSteps:=1000000}) (disch:=first|assumption|omega|exact ab (by omega)|exact aa (by assumption)|(simp only[ao]<;>omega)) only[go_sem,seval,g1]
  ·simp (config:={maxSteps:=1000000}) (disch:=first|assumption|omega|exact ab (by omega)|exact aa (by assumption)|(simp only[ao]<;>omega)) only[go_sem,seval,g2]
theorem CS (m:NH) {v:NV} {b:List Nat} (hv:Sl m v 1 (o9 b)) (hb:∀c∈b,c<256):
 ∃r m',bI Try.prog S0 45 [v] m r m'/\(if 16384<b.length then r= .tup [.nils,ii 0,ii 3] else (match (dC b).2 with|some a=>r= .tup [.nils,ii a,ii 2]|none=>∃u,r= .tup [u,ii b.length,ii 0]/\bL m m' u 4 ((dC b).1.map Tok.l)))/\Chg [] m m':=by
 refine WF.ex fun K hK=> ?_
 refine WF.of_wpG (fun _=>rfl) yI (L:= [(.e,v)]) rfl ?_
 unfold IF
 have hlen:=hv.len
 rw[show (o9 b).length=b.length by simp] at hlen
 by_cases h1:16384<b.length
 ·simp (config:={maxSteps:=1000000}) (disch:=first|assumption|omega|exact ab (by omega)|exact aa (by assumption)|(simp only[ao]<;>omega)) only[go_sem,seval,hlen,ai]
  refine hK _ _ ⟨by rw[if_pos h1],Chg.refl m⟩
 ·have hs0:bI Try.prog S0 82 [v,ii 0] m (ii ((br b 0:Nat):Int)) m:=BO m (by omega) hv (a:=0) (Nat.zero_le _)
  simp (config:={maxSteps:=1000000}) (disch:=first|assumption|omega|exact ab (by omega)|exact aa (by assumption)|(simp only[ao]<;>omega)) only[go_sem,seval,hlen,ai,hs0.wf']
  refine Ff (m:=m) (s:=b) (vb:=v) (by omega) hb hv (Chg.refl m) ?_ ?_ ?_ ?_ ?_
  ·simp (config:={maxSteps:=1000000}) (disch:=first|assumption|omega|exact ab (by omega)|exact aa (by assumption)|(simp only[ao]<;>omega)) only[go_sem,seval]
  ·simp (config:={maxSteps:=1000000}) (disch:=first|assumption|omega|exact ab (by omega)|exact aa (by assumption)|(simp only[ao]<;>omega)) only[go_sem,seval]
  ·simp (config:={maxSteps:=1000000}) (disch:=first|assumption|omega|exact ab (by omega)|exact aa (by assumption)|(simp only[ao]<;>omega)) only[go_sem,seval]
  ·intro a he L t M hC g1 g2 g3
   generalize ak L t=T at g1 g2 g3
   change wU _ K .ret ⟨ak [] T, [],none,M⟩
   simp (config:={maxSteps:=1000000}) (disch:=first|assumption|omega|exact ab (by omega)|exact aa (by assumption)|(simp only[ao]<;>omega)) only[go_sem,seval,g1,g2,g3]
   refine hK _ _ ⟨by rw[if_neg h1,he],hC⟩
  ·intro Tl hT L t M u hC hu g1 g2
   generalize ak L t=T at g1 g2
   change wp _ _ _ _ ⟨ak [] T, [],none,M⟩ _
   rw[←ai M]
   have hlen:=(hv.chg hC fun _ _=>by simp).len
   rw[show (o9 b).length=b.length by simp] at hlen
   have hTl:Tl.length<=b.length+1:=by
    have h:=lg b (b.length+1) (br b 0)
    have h2:(dC b).1.length=_:=congrArg (fun x=>x.1.length) hT
    rw[List.length_append] at h2
    have h3:(dC b).1.length<=b.length+1:=h
    omega
   simp (config:={maxSteps:=1000000}) (disch:=first|assumption|omega|exact ab (by omega)|exact aa (by assumption)|(simp only[ao]<;>omega)) only[go_sem,seval,g1,g2,hlen]
   generalize hM3:hp _ 1 M=M3
   have hC3:Chg [] M M3:=by rw[←hM3];exact an rfl
   have n1:M3.get (na M 0)=some (.cells true (Tok.l ⟨5, [],0,b.length⟩)):=by rw[←hM3];exact ax
   have on1:aC M3 (na M 0):=by rw[←hM3];exact ab (by omega)
   have hCC:Chg [] m M3:=hC.trans hC3 (by simp)
   refine sJ (hu.chg hC3 fun _ _=>by simp) n1 on1 rfl (fun i hi=>hCC.old hi) (by simp;omega) (by simp;omega) ?_
   intro u' M5 hu' hC5
   have hC6:Chg [] m M5:=(hCC.weak (T:=ids u) (by simp)).trans hC5 (fun _ h _=>h) |>.weak (by intro j hj ho;exact absurd ho (hu.new j hj))
   have hlen5:=(hv.chg hC6 fun _ _=>by simp).len
   rw[show (o9 b).length=b.length by simp] at hlen5
   simp (config:={maxSteps:=1000000}) (disch:=first|assumption|omega|exact ab (by omega)|exact aa (by assumption)|(simp only[ao]<;>omega)) only[go_sem,seval,g1,g2,hlen5]
   rw[ai]
   refine hK _ _ ⟨?_,hC6⟩
   rw[if_neg h1,hT]
   exact ⟨u',rfl,by rw[List.map_append];exact hu'⟩
end FR
open Go Nm Go.Proofs
namespace FR
set_option linter.unusedSimpArgs false
set_option linter.unusedVariables false
structure Rs where
 (a e b:Nat)
def aO (L:List Tok) (a:Nat):Tok:=(L[a]?).getD ⟨0, [],0,0⟩
def bm (e:Nat) (s:Rs):Rs:=if s.e=0 then ⟨s.a,e,s.a⟩ else s
def am (s:Rs):Rs:=⟨s.a+1,s.e,s.b⟩
def qa:List Nat->Nat
 |c::_=>if uM c then 4 else 3
 | []=>3
def a6 (L:List Tok) (w:List Nat) (s:Rs):Bool:=decide (s.e=0/\(aO L s.a).k=qa w/\(aO L s.a).t=w)
def a7 (L:List Tok) (w:List Nat) (s:Rs):Rs:=if a6 L w s then am s else bm 2 s
def a9 (L:List Tok) (s:Rs):List Nat×Rs:=if s.e≠0∨(aO L s.a).k≠1 then ([],bm 2 s) else ((aO L s.a).t,am s)
structure RD (m:NH) (r:D4) (vl:NV) (s:Rs) (rest:List NV):Prop where
 g:m.get r=some (.cells true (vl::ii s.a::ii s.e::ii s.b::rest))
 o:aC m r
structure RC (m0:NH) (L:List Tok) (vl:NV) (r:D4):Prop where
 sl:Sl m0 vl 4 (L.map Tok.l)
 len:L.length<=20000
 no:¬aC m0 r
theorem RD.chg {m m':NH} {r:D4} {vl:NV} {s:Rs} {rest:List NV} {S:List D4} (h:RD m r vl s rest) (hC:Chg S m m') (hr:r∉S):RD m' r vl s rest:=⟨(hC.get h.o hr).trans h.g,hC.old h.o⟩
theorem RC.chg {m0 m m':NH} {L:List Tok} {vl:NV} {r:D4} (h:RC m0 L vl r) (h0:Chg [] m0 m) (hC:Chg [r] m m'):Chg [] m0 m':=h0.trans hC fun i hi ho=>by
 simp only[List.mem_cons,List.not_mem_nil,or_false] at hi;subst hi;exact absurd ho h.no
theorem bA {L:List Tok} {w:List Nat} {s:Rs} (h:a6 L w s=true):s.e=0/\s.a<L.length:=by
 obtain ⟨h1,h2,h3⟩:=of_decide_eq_true h
 refine ⟨h1, ?_⟩
 rcases Nat.lt_or_ge s.a L.length with q|q
 ·exact q
 ·rw[aO,List.getElem?_eq_none q] at h2
  have:qa w≠0:=by unfold qa;split;split<;>omega;omega
  exact absurd h2.symm this
theorem pI {T:Tok}:T.l[0]? =some (ii T.k):=_root_.id rfl
theorem uK {T:Tok}:T.l[1]? =some (.str T.t):=_root_.id rfl
theorem Lt {T:Tok}:T.l[2]? =some (u64 T.n):=_root_.id rfl
section
variable {m0 m:NH} {L:List Tok} {vl:NV} {r:D4} {s:Rs} {rest:List NV}
theorem gL (hd:RD m r vl s rest) (e:Nat):∃m',bI Try.prog S0 86 [.ptr r 0,ii e] m (.tup []) m'/\RD m' r vl (bm e s) rest/\Chg [r] m m':=by
 refine WF.ex1 fun K hK=> ?_
 refine WF.of_wpG (fun _=>rfl) yP (L:= [(.a .e,ii e),(.e,.ptr r 0)]) rfl ?_
 unfold IQ
 obtain ⟨g,o⟩:=hd
 by_cases h:s.e=0
 ·rw[h] at g
  simp (config:={maxSteps:=1000000}) (disch:=first|assumption|omega|exact ab (by omega)|exact aa (by assumption)|(simp only[ao]<;>omega)) only[go_sem,seval,g]
  refine hK _ ⟨⟨?_,aa o⟩,(an rfl).weak (by intro i hi _;simpa [aU] using hi)⟩
  rw[bm,if_pos h]
  exact (aQ o).trans ay
 ·have hd:decide ((s.e:Int)=0)=false:=decide_eq_false (by omega)
  simp (config:={maxSteps:=1000000}) (disch:=first|assumption|omega|exact ab (by omega)|exact aa (by assumption)|(simp only[ao]<;>omega)) only[go_sem,seval,g,hd,ai]
  refine hK _ ⟨⟨?_,o⟩,(Chg.refl m).weak (by simp)⟩
  rw[bm,if_neg h];exact g
theorem iO (hc:RC m0 L vl r) (h0:Chg [] m0 m) (hd:RD m r vl s rest):∃m',bI Try.prog S0 46 [.ptr r 0] m (.agg (aO L s.a).l) m'/\Chg [] m m':=by
 refine WF.ex1 fun K hK=> ?_
 refine WF.of_wpG (fun _=>rfl) ye (L:= [(.e,.ptr r 0)]) rfl ?_
 unfold Ii
 obtain ⟨g,o⟩:=hd
 have hs:=hc.sl.chg h0 fun _ _=>by simp
 have hlen:=hs.len
 have hll:=hc.len
 rw[List.length_map] at hlen
 have hvs:bP 4 vl vl=true:=hs.same
 by_cases h:s.a<L.length
 ·obtain ⟨id,off,w,c,a1,a2,a3,a4,a5⟩:=hs.at s.a (by simpa using h)
  rw[List.getElem_map] at a5
  have hl:(Tok.l L[s.a]).length=4:=rfl
  have hl':(Tok.l L[s.a]).take 4=Tok.l L[s.a]:=rfl
  simp (config:={maxSteps:=1000000}) (disch:=first|assumption|omega|exact ab (by omega)|exact aa (by assumption)|(simp only[ao]<;>omega)) only[go_sem,seval,g,hlen,a1,a2,a5,hl,hl',hvs]
  have e:aO L s.a=L[s.a]:=by rw[aO,List.getElem?_eq_getElem h];rfl
  rw[e] at hK
  exact hK _ (an rfl)
 ·have e:aO L s.a=⟨0, [],0,0⟩:=by rw[aO,List.getElem?_eq_none (by omega)];rfl
  rw[e] at hK
  simp (config:={maxSteps:=1000000}) (disch:=first|assumption|omega|exact ab (by omega)|exact aa (by assumption)|(simp only[ao]<;>omega)) only[go_sem,seval,g,hlen,hvs]
  exact hK _ (an rfl)
theorem da (hc:RC m0 L vl r) (h0:Chg [] m0 m) (hd:RD m r vl s rest) (w:List Nat) (hw:w≠ []) (ha:s.a<=100000):∃m',bI Try.prog S0 84 [.ptr r 0,.str w] m (.bool (a6 L w s)) m'/\RD m' r vl (if a6 L w s then am s else s) rest/\Chg [r] m m':=by
 refine WF.ex1 fun K hK=> ?_
 refine WF.of_wpG (fun _=>rfl) xQ (L:= [(.a .e,.str w),(.e,.ptr r 0)]) rfl ?_
 unfold GP
 simp (config:={maxSteps:=1000000}) (disch:=first|assumption|omega|exact ab (by omega)|exact aa (by assumption)|(simp only[ao]<;>omega)) only[go_sem,seval,ai]
 refine WF.use1H (iO hc h0 hd) ?_
 intro m1 hC1
 have hd1:=hd.chg hC1 (by simp)
 generalize hT:aO L s.a=T
 obtain ⟨c,w',rfl⟩:=List.exists_cons_of_ne_nil hw
 have hw0:(c::w')[0]? =some c:=rfl
 obtain ⟨g,o⟩:=hd1
 have hkw:qa (c::w')=if uM c then 4 else 3:=rfl
 have hl:(Tok.l T).length=4:=rfl
 have hlr:=mZ
 have yes:∀M,a6 L (c::w') s=true->Chg [r] m M->M.get r=some (.cells true (vl::ii (s.a+1:Nat)::ii s.e::ii s.b::rest))->aC M r->K (.bool true) M:=fun M h1 h2 h3 h4=>by
  rw[h1,if_pos rfl] at hK
  exact hK M ⟨⟨h3,h4⟩,h2⟩
 have no:∀M,a6 L (c::w') s=false->Chg [] m M->K (.bool false) M:=fun M h1 h2=>by
  rw[h1,if_neg (by simp)] at hK
  exact hK M ⟨hd.chg h2 (by simp),h2.weak (by simp)⟩
 have tb:∀k,qa (c::w')=k->a6 L (c::w') s=decide (s.e=0/\T.k=k/\T.t=c::w'):=fun k hk=>by rw[a6,hT,hk]
 have hC2:∀l,aU l= []->Chg [] m (hp l 1 m1):=fun l e=>hC1.trans (an e) (by simp)
 cases hlt:uM c with
 |true=>
  have tb:=tb 4 (by rw[hkw,hlt];rfl)
  by_cases he:s.e=0
  ·by_cases hk:T.k=4
   ·by_cases ht:T.t=c::w'
    ·simp (config:={maxSteps:=1000000}) (disch:=first|assumption|omega|exact ab (by omega)|exact aa (by assumption)|(simp only[ao]<;>omega)) only[go_sem,seval,hw0,hl,pI,uK,(hlr _ _).wf',hlt,g]
     refine yes _ (by rw[tb];simp[he,hk,ht]) ?_ ((aQ o).trans ay) (aa o)
     exact (hC1.weak (by simp)).trans (an rfl) (by simp[aU])
    ·simp (config:={maxSteps:=1000000}) (disch:=first|assumption|omega|exact ab (by omega)|exact aa (by assumption)|(simp only[ao]<;>omega)) only[go_sem,seval,hw0,hl,pI,uK,(hlr _ _).wf',hlt,g]
     refine no _ (by rw[tb];simp[ht]) ?_;exact hC2 _ rfl
   ·simp (config:={maxSteps:=1000000}) (disch:=first|assumption|omega|exact ab (by omega)|exact aa (by assumption)|(simp only[ao]<;>omega)) only[go_sem,seval,hw0,hl,pI,uK,(hlr _ _).wf',hlt,g]
    refine no _ (by rw[tb];simp[hk]) ?_;exact hC2 _ rfl
  ·simp (config:={maxSteps:=1000000}) (disch:=first|assumption|omega|exact ab (by omega)|exact aa (by assumption)|(simp only[ao]<;>omega)) only[go_sem,seval,hw0,hl,pI,uK,(hlr _ _).wf',hlt,g]
   refine no _ (by rw[tb];simp[he]) ?_;exact hC2 _ rfl
 |false=>
  have tb:=tb 3 (by rw[hkw,hlt];rfl)
  by_cases he:s.e=0
  ·by_cases hk:T.k=3
   ·by_cases ht:T.t=c::w'
    ·simp (config:={maxSteps:=1000000}) (disch:=first|assumption|omega|exact ab (by omega)|exact aa (by assumption)|(simp only[ao]<;>omega)) only[go_sem,seval,hw0,hl,pI,uK,(hlr _ _).wf',hlt,g]
     refine yes _ (by rw[tb];simp[he,hk,ht]) ?_ ((aQ o).trans ay) (aa o)
     exact (hC1.weak (by simp)).trans (an rfl) (by simp[aU])
    ·simp (config:={maxSteps:=1000000}) (disch:=first|assumption|omega|exact ab (by omega)|exact aa (by assumption)|(simp only[ao]<;>omega)) only[go_sem,seval,hw0,hl,pI,uK,(hlr _ _).wf',hlt,g]
     refine no _ (by rw[tb];simp[ht]) ?_;exact hC2 _ rfl
   ·simp (config:={maxSteps:=1000000}) (disch:=first|assumption|omega|exact ab (by omega)|exact aa (by assumption)|(simp only[ao]<;>omega)) only[go_sem,seval,hw0,hl,pI,uK,(hlr _ _).wf',hlt,g]
    refine no _ (by rw[tb];simp[hk]) ?_;exact hC2 _ rfl
  ·simp (config:={maxSteps:=1000000}) (disch:=first|assumption|omega|exact ab (by omega)|exact aa (by assumption)|(simp only[ao]<;>omega)) only[go_sem,seval,hw0,hl,pI,uK,(hlr _ _).wf',hlt,g]
   refine no _ (by rw[tb];simp[he]) ?_;exact hC2 _ rfl
theorem fU (hc:RC m0 L vl r) (h0:Chg [] m0 m) (hd:RD m r vl s rest) (w:List Nat) (hw:w≠ []) (ha:s.a<=100000):∃m',bI Try.prog S0 87 [.ptr r 0,.str w] m (.tup []) m'/\RD m' r vl (a7 L w s) rest/\Chg [r] m m':=by
 refine WF.ex1 fun K hK=> ?_
 refine WF.of_wpG (fun _=>rfl) zd (L:= [(.a .e,.str w),(.e,.ptr r 0)]) rfl ?_
 unfold Ip
 simp (disch:=first|assumption|omega) only[go_sem,seval,ai]
 refine WF.use1 (da hc h0 hd w hw ha) ?_
 rintro m1 ⟨hd1,hC1⟩
 unfold a7 at hK
 cases hb:a6 L w s with
 |true=>
  rw[hb] at hd1 hK
  simp (disch:=first|assumption|omega) only[go_sem,seval]
  exact hK _ ⟨hd1,hC1⟩
 |false=>
  rw[hb] at hd1 hK
  simp (disch:=first|assumption|omega) only[go_sem,seval]
  refine WF.use1 (gL (s:=s) hd1 2) ?_
  rintro m2 ⟨hd2,hC2⟩
  simp (disch:=first|assumption|omega) only[go_sem,seval]
  exact hK _ ⟨hd2,hC1.trans hC2 fun _ h _=>h⟩
theorem ld (hc:RC m0 L vl r) (h0:Chg [] m0 m) (hd:RD m r vl s rest) (ha:s.a<=100000):∃m',bI Try.prog S0 85 [.ptr r 0] m (.str (a9 L s).1) m'/\RD m' r vl (a9 L s).2 rest/\Chg [r] m m':=by
 refine WF.ex1 fun K hK=> ?_
 refine WF.of_wpG (fun _=>rfl) yN (L:= [(.e,.ptr r 0)]) rfl ?_
 unfold HI
 simp (config:={maxSteps:=1000000}) (disch:=first|assumption|omega|exact ab (by omega)|exact aa (by assumption)|(simp only[ao]<;>omega)) only[go_sem,seval,ai]
 refine WF.use1H (iO hc h0 hd) ?_
 intro m1 hC1
 have hd1:=hd.chg hC1 (by simp)
 have hl:(Tok.l (aO L s.a)).length=4:=rfl
 unfold a9 at hK
 generalize aO L s.a=T at hK hl
 obtain ⟨g,o⟩:=hd1
 have bad:(s.e≠0∨T.k≠1)->∀M,Chg [] m M->∃m',bI Try.prog S0 86 [.ptr r 0,ii 2] M (.tup []) m'/\K (.str []) m':=fun h M hC=>by
  rw[if_pos h] at hK
  obtain ⟨m2,h1,hd2,hC2⟩:=gL (hd.chg hC (by simp)) 2
  exact ⟨m2,h1,hK _ ⟨hd2,(hC.weak (by simp)).trans hC2 fun _ h _=>h⟩⟩
 by_cases he:s.e=0
 ·by_cases hk:T.k=1
  ·rw[if_neg (by omega)] at hK
   simp (config:={maxSteps:=1000000}) (disch:=first|assumption|omega|exact ab (by omega)|exact aa (by assumption)|(simp only[ao]<;>omega)) only[go_sem,seval,hl,pI,uK,g]
   refine hK _ ⟨⟨(aQ o).trans ay,aa o⟩,(hC1.weak (by simp)).trans (an rfl) (by simp[aU])⟩
  ·simp (config:={maxSteps:=1000000}) (disch:=first|assumption|omega|exact ab (by omega)|exact aa (by assumption)|(simp only[ao]<;>omega)) only[go_sem,seval,hl,pI,uK,g]
   refine WF.use1 (bad (Or.inr hk) _ (fa hC1 rfl)) ?_
   intro M h
   simp (config:={maxSteps:=1000000}) (disch:=first|assumption|omega|exact ab (by omega)|exact aa (by assumption)|(simp only[ao]<;>omega)) only[go_sem,seval]
   exact h
 ·simp (config:={maxSteps:=1000000}) (disch:=first|assumption|omega|exact ab (by omega)|exact aa (by assumption)|(simp only[ao]<;>omega)) only[go_sem,seval,hl,pI,uK,g]
  refine WF.use1 (bad (Or.inl he) _ (fa hC1 rfl)) ?_
  intro M h
  simp (config:={maxSteps:=1000000}) (disch:=first|assumption|omega|exact ab (by omega)|exact aa (by assumption)|(simp only[ao]<;>omega)) only[go_sem,seval]
  exact h
end
end FR
open Go Nm Go.Proofs
namespace FR
set_option linter.unusedSimpArgs false
set_option linter.unusedVariables false
abbrev DK (n:Nat):Ex:= .mk 0 n 0 [] []
abbrev uc (s:List Nat):Ex:= .mk 1 0 0 s []
abbrev xH (o:Nat) (x y:Ex):Ex:= .mk 2 0 o [] [x,y]
mutual
def Ex.depth:Ex->Nat
 | .mk _ _ _ _ ks=>cW ks+1
def cW:List Ex->Nat
 | []=>0
 |x::xs=>max x.depth (cW xs)
end
theorem pG (a b:List Ex):cW (a++b)=max (cW a) (cW b):=by
 induction a with
 |nil=>simp[cW]
 |cons x a ih=>rw[List.cons_append,cW,cW,ih];omega
section
variable (L:List Tok)
def cF (E:Rs->Ex×Rs) (d:Nat) (s:Rs):Ex×Rs:=
 if s.e≠0 then (zE,s) else if 29<d then (zE,bm 11 s) else if (aO L s.a).k=2 then (DK (aO L s.a).n,am s) else if (aO L s.a).k=1 then (uc (aO L s.a).t,am s)
 else if a6 L [40] s=true then ((E (am s)).1,a7 L [41] (E (am s)).2) else (zE,bm 2 s)
def gU (T:Tok):Nat:=if T.k=3/\T.t.length=1 then T.t.headD 0 else 0
def xf (o:Nat):Bool:=decide (o=43∨o=45∨o=42∨o=38∨o=61∨o=60)
def eK (P:Rs->Ex×Rs):Nat->Ex->Rs->Ex×Rs
 |0,x,s=>(x,s)
 |f+1,x,s=>if s.e≠0 then (x,s) else if xf (gU (aO L s.a))=false then (x,s) else
  if (P (am s)).2.e≠0 then (x,(P (am s)).2) else
   eK P f (xH (gU (aO L s.a)) x (P (am s)).1) (if 30<(xH (gU (aO L s.a)) x (P (am s)).1).depth then bm 11 (P (am s)).2 else (P (am s)).2)
def g9 (E:Rs->Ex×Rs) (d:Nat) (s:Rs):Ex×Rs:=eK L (cF L E d) (L.length+1) (cF L E d s).1 (cF L E d s).2
def iJ:Nat->Rs->Ex×Rs
 |0,s=>g9 L (fun s=>(zE,s)) 30 s
 |n+1,s=>g9 L (iJ n) (29 - n) s
end
structure St (L:List Tok) (s s':Rs):Prop where
 le:s.a<=s'.a
 lim:s.a<=L.length->s'.a<=L.length
 err:s.e≠0->s'=s
 lim2:∀{N:Nat},(∀a,1<=(aO L a).k->(aO L a).k<=4->a<N)->s.a<=N->s.b<=N->s'.a<=N/\s'.b<=N
theorem St.refl (L:List Tok) (s:Rs):St L s s:=⟨Nat.le_refl _,fun h=>h,fun _=>rfl,fun _ h1 h2=>⟨h1,h2⟩⟩
theorem St.trans {L:List Tok} {a b c:Rs} (h:St L a b) (h':St L b c):St L a c:=⟨Nat.le_trans h.le h'.le,fun q=>h'.lim (h.lim q),fun q=>by have:=h.err q;subst this;exact h'.err q,fun hN h1 h2=>let ⟨q1,q2⟩:=h.lim2 hN h1 h2;h'.lim2 hN q1 q2⟩
theorem St.zero {L:List Tok} {s s':Rs} (h:St L s s') (e:s'.e=0):s.e=0:=by
 rcases Nat.eq_zero_or_pos s.e with q|q
 ·exact q
 ·have:=h.err (by omega);subst this;exact e
theorem bU (L:List Tok) (e:Nat) (s:Rs):St L s (bm e s):=by
 unfold bm
 split
 ·exact ⟨Nat.le_refl _,fun h=>h,fun h=>absurd ‹_› h,fun _ h1 _=>⟨h1,h1⟩⟩
 ·exact St.refl L s
theorem gQ {L:List Tok} {s:Rs} (h:s.a<L.length) (he:s.e=0) (hk:1<=(aO L s.a).k/\(aO L s.a).k<=4):St L s (am s):=⟨Nat.le_succ _,fun _=>h,fun q=>absurd he q,fun hN _ h2=>⟨hN _ hk.1 hk.2,h2⟩⟩
theorem ef {L:List Tok} {w:List Nat} {s:Rs} (h:a6 L w s=true):St L s (am s):=by
 obtain ⟨h1,h2,h3⟩:=of_decide_eq_true h
 refine gQ (bA h).2 h1 ?_
 rw[h2]
 unfold qa
 split
 ·split<;>omega
 ·omega
theorem lu {L:List Tok} {a:Nat} (h:(aO L a).k≠0):a<L.length:=by
 rcases Nat.lt_or_ge a L.length with q|q
 ·exact q
 ·rw[aO,List.getElem?_eq_none q] at h;exact absurd rfl h
theorem bO (L:List Tok) (w:List Nat) (s:Rs):St L s (a7 L w s):=by
 unfold a7
 split
 ·rename_i h;exact ef h
 ·exact bU _ _ _
theorem cq (L:List Tok) (s:Rs):St L s (a9 L s).2:=by
 unfold a9
 split
 ·exact bU _ _ _
 ·rename_i h
  exact gQ (lu (by omega)) (by omega) (by omega)
theorem gC {L:List Tok} {E:Rs->Ex×Rs} {d:Nat} (hE:∀s,St L s (E s).2) (s:Rs):St L s (cF L E d s).2:=by
 unfold cF
 split
 ·exact St.refl _ _
 ·split
  ·exact bU _ _ _
  ·split
   ·exact gQ (lu (by omega)) (by omega) (by omega)
   ·split
    ·exact gQ (lu (by omega)) (by omega) (by omega)
    ·split
     ·rename_i h;exact ((ef h).trans (hE _)).trans (bO _ _ _)
     ·exact bU _ _ _
theorem rY {L:List Tok} {a:Nat} (h:xf (gU (aO L a))=true):a<L.length:=by
 refine lu fun q=> ?_
 unfold gU at h
 rw[if_neg (by omega)] at h
 exact absurd h (by decide)
theorem Hr {L:List Tok} {a:Nat} (h:xf (gU (aO L a))=true):1<=(aO L a).k/\(aO L a).k<=4:=by
 unfold gU at h
 by_cases q:(aO L a).k=3/\(aO L a).t.length=1
 ·omega
 ·rw[if_neg q] at h;exact absurd h (by decide)
theorem kw {L:List Tok} {P:Rs->Ex×Rs} (hP:∀s,St L s (P s).2):∀(f:Nat) (x:Ex) (s:Rs),St L s (eK L P f x s).2:=by
 intro f
 induction f with
 |zero=>intro x s;exact St.refl _ _
 |succ f ih=>
  intro x s
  rw[eK]
  split
  ·exact St.refl _ _
  ·split
   ·exact St.refl _ _
   ·rename_i h1 h2
    have h3:=(gQ (rY (by simpa using h2)) (by omega:s.e=0) (Hr (by simpa using h2))).trans (hP (am s))
    split
    ·exact h3
    ·refine (h3.trans ?_).trans (ih _ _)
     split
     ·exact bU _ _ _
     ·exact St.refl _ _
theorem uF {L:List Tok} {E:Rs->Ex×Rs} {d:Nat} (hE:∀s,St L s (E s).2) (s:Rs):St L s (g9 L E d s).2:=(gC hE s).trans (kw (gC hE) _ _ _)
theorem bY (L:List Tok):∀(n:Nat) (s:Rs),St L s (iJ L n s).2:=by
 intro n
 induction n with
 |zero=>exact fun s=>uF (fun s=>St.refl _ s) s
 |succ n ih=>exact fun s=>uF ih s
def BB (E:Rs->Ex×Rs):Prop:=∀s,(E s).2.e=0->(E s).1.sz+s.a<=(E s).2.a
theorem rG {L:List Tok} {E:Rs->Ex×Rs} {d:Nat} (hS:∀s,St L s (E s).2) (hE:BB E):BB (cF L E d):=by
 intro s
 unfold cF
 have hf:∀e,e≠0->(bm e s).e≠0:=fun e he=>by unfold bm;split;exact he;assumption
 split
 ·intro h;exact absurd h ‹_›
 ·split
  ·intro h;exact absurd h (hf 11 (by omega))
  ·split
   ·intro _;simp[Ex.sz,jr,am];omega
   ·split
    ·intro _;simp[Ex.sz,jr,am];omega
    ·split
     ·intro h
      have h1:=bO L [41] (E (am s)).2
      have h2:=hE (am s) (h1.zero h)
      have h3:=h1.le
      have h4:(am s).a=s.a+1:=rfl
      dsimp only at h ⊢
      omega
     ·intro h;exact absurd h (hf 2 (by omega))
theorem Fm {L:List Tok} {P:Rs->Ex×Rs} (hS:∀s,St L s (P s).2) (hP:BB P):∀(f:Nat) (x:Ex) (s:Rs) (a0:Nat),(s.e=0->x.sz+a0<=s.a)->(eK L P f x s).2.e=0->(eK L P f x s).1.sz+a0<=(eK L P f x s).2.a:=by
 intro f
 induction f with
 |zero=>intro x s a0 h h2;exact h h2
 |succ f ih=>
  intro x s a0 h
  rw[eK]
  split
  ·intro h2;exact absurd h2 ‹_›
  ·split
   ·intro h2;exact h h2
   ·split
    ·intro h2;exact absurd h2 ‹_›
    ·rename_i h1 h2 h3
     refine ih _ _ a0 fun h4=> ?_
     have h5:=hP (am s) (by omega)
     have h6:=h (by omega)
     have h7:(am s).a=s.a+1:=rfl
     have h8:(xH (gU (aO L s.a)) x (P (am s)).1).sz=1+(x.sz+((P (am s)).1.sz+0)):=by simp[Ex.sz,jr]
     rw[h8]
     split
     ·unfold bm;split
      ·show _+a0<=(P (am s)).2.a;omega
      ·omega
     ·omega
theorem uv {L:List Tok} {E:Rs->Ex×Rs} {d:Nat} (hS:∀s,St L s (E s).2) (hP:BB (cF L E d)):BB (g9 L E d):=by
 intro s h
 exact Fm (gC hS) hP _ _ _ s.a (fun h=>hP s h) h
theorem oP (L:List Tok) (E:Rs->Ex×Rs):BB (cF L E 30):=by
 intro s
 unfold cF
 split
 ·intro h;exact absurd h ‹_›
 ·rw[if_pos (by omega)]
  intro h;unfold bm at h;split at h
  ·exact absurd h (by show (11:Nat)≠0;omega)
  ·exact absurd h ‹_›
theorem qR (L:List Tok):∀n:Nat,BB (iJ L n):=by
 intro n
 induction n with
 |zero=>exact uv (fun s=>St.refl _ s) (oP L _)
 |succ n ih=>exact uv (bY L n) (rG (bY L n) ih)
abbrev nU (m:NH):D4->Prop:=fun i=>¬aC m i
theorem RE.chg {mc m m':NH} {x:Ex} {c:List NV} {S:List D4} (h:RE m (nU mc) x c) (hC:Chg S m m') (hS:∀i∈S,aC mc i):RE m' (nU mc) x c:=h.stays (bi.of hC fun i hi hs=>hi (hS i hs))
theorem RS.chg {mc m m':NH} {x:Stm} {c:List NV} {S:List D4} (h:RS m (nU mc) x c) (hC:Chg S m m') (hS:∀i∈S,aC mc i):RS m' (nU mc) x c:=h.stays (bi.of hC fun i hi hs=>hi (hS i hs))
theorem RE.new {mc mb m:NH} {x:Ex} {c:List NV} (h:RE m (nU mc) x c) (hC:∀i,aC mb i->aC mc i):RE m (nU mb) x c:=h.weak fun i hi ho=>hi (hC i ho)
theorem RS.new {mc mb m:NH} {x:Stm} {c:List NV} (h:RS m (nU mc) x c) (hC:∀i,aC mb i->aC mc i):RS m (nU mb) x c:=h.weak fun i hi ho=>hi (hC i ho)
theorem IJ (m:NH) (T:D4->Prop) (n:Nat):RE m T (DK n) ((DK n).l .nils):=Av m T 0 n 0 []
theorem E7 (m:NH) (T:D4->Prop) (s:List Nat):RE m T (uc s) ((uc s).l .nils):=Av m T 1 0 0 s
def MG (x:Ex):Prop:=∀{m0 m:NH} {T:D4->Prop} {c:List NV},RE m0 T x c->bi T m0 m->x.sz<=100000000->∃m',bI Try.prog S0 32 [.agg c] m (ii x.depth) m'/\Chg [] m m'
theorem Hp:∀x:Ex,x.depth<=x.sz:=by
 apply Ex.ind
 intro k n o s ks ih
 rw[Ex.depth,Ex.sz]
 have:∀ks:List Ex,(∀x∈ks,x.depth<=x.sz)->cW ks<=jr ks:=by
  intro ks
  induction ks with
  |nil=>intro _;simp[cW]
  |cons x xs ih=>
   intro h
   have h1:=h x (List.mem_cons_self ..)
   have h2:=ih fun y hy=>h y (List.mem_cons_of_mem _ hy)
   rw[cW,jr];omega
 have:=this ks ih
 omega
theorem EB {l:List Ex} {x:Ex} (hx:x∈l):x.sz<=jr l:=by
 induction l with
 |nil=>simp at hx
 |cons a l ih=>
  rw[jr]
  rcases List.mem_cons.mp hx with rfl|hx
  ·omega
  ·have:=ih hx;omega
theorem FF:∀x:Ex,MG x:=by
 apply Ex.ind
 intro k n o s ks ih m0 m T c hR hst hsz
 obtain ⟨vk,C,rfl,hS⟩:=hR.inv
 rw[Ex.sz] at hsz
 refine WF.ex1 fun K hK=> ?_
 refine WF.of_wpG (fun _=>rfl) yq (L:= [(.e,.agg [ii k,u64 n,u8 o,.str s,vk])]) rfl ?_
 unfold Ig
 simp (disch:=first|assumption|omega) only[go_sem,seval]
 generalize hM1:hp _ 1 m=M1
 have hC1:Chg [] m M1:=by rw[←hM1];exact an rfl
 have hg1:M1.get (na m 0)=some (.cells true [ii k,u64 n,u8 o,.str s,vk]):=by rw[←hM1];exact ax
 have ho1:aC M1 (na m 0):=by rw[←hM1];exact ab (by omega)
 have hls:=xG ks
 refine W.loop (fun j d=>∃t M i,d=⟨t, [],none,M⟩/\NT.get D4.e.a t=some (.ptr (na m 0) 0)/\NT.get D4.e.c t=some (ii (cW (ks.take i)))/\NT.get D4.e.f t=some (ii (i:Nat))/\i+j=ks.length/\Chg [] M1 M) ?_ ks.length _ ⟨_,M1,0,rfl,by simp only[go_sem,seval],by simp only[go_sem,seval]<;>rfl,by simp only[go_sem,seval]<;>rfl,by omega,Chg.refl M1⟩
 rintro j d ⟨t,M,i,rfl,g1,g2,g3,hij,hC⟩
 apply aK
 unfold yC
 change wp _ _ _ _ ⟨ak [] t, [],none,M⟩ _
 have hstM:bi T m0 M:=fun i hi ho=>by
  obtain ⟨q1,q2⟩:=hst i hi ho
  have hCM:Chg [] m M:=hC1.trans hC (by simp)
  exact ⟨(hCM.get q2 (by simp)).trans q1,hCM.old q2⟩
 have hSM:=hS.stays hstM
 have hgM:=(hC.get ho1 (by simp)).trans hg1
 have hlen:=hSM.sl.len
 rw[hS.len] at hlen
 by_cases hi:i<ks.length
 ·obtain ⟨cx,hcx,hRx⟩:=hS.at i hi
  have hc:i<C.length:=by rw[hS.len];exact hi
  obtain ⟨id,off,wr,c,a1,a2,a3,a4,a5⟩:=hSM.sl.at i hc
  have ecx:C[i]=cx:=by rw[List.getElem?_eq_getElem hc] at hcx;injection hcx
  rw[ecx] at a5
  have hsx:=EB (List.getElem_mem hi)
  obtain ⟨m',hr,hC'⟩:=ih ks[i] (List.getElem_mem hi) hRx hstM (by omega)
  have htk:cW (ks.take (i+1))=max (cW (ks.take i)) ks[i].depth:=by
   rw[List.take_add_one,List.getElem?_eq_getElem hi,Option.toList_some,pG,cW,cW];omega
  simp (disch:=first|assumption|omega) only[go_sem,seval,g1,g2,g3,hgM,hlen,a1,a2,a5,hr.wf']
  by_cases hgt:cW (ks.take i)<ks[i].depth
  ·simp (disch:=first|assumption|omega) only[go_sem,seval,g1,g2,g3]
   refine ⟨j - 1,by omega,_,m',i+1,by rfl,by simp only[go_sem,seval,g1], ?_,by simp only[go_sem,seval]<;>rfl,by omega,hC.trans hC' (by simp)⟩
   simp (disch:=first|assumption|omega) only[go_sem,seval,htk]
   rw[Nat.max_eq_right (by omega)]
  ·simp (disch:=first|assumption|omega) only[go_sem,seval,g1,g2,g3]
   refine ⟨j - 1,by omega,_,m',i+1,by rfl,by simp only[go_sem,seval,g1], ?_,by simp only[go_sem,seval]<;>rfl,by omega,hC.trans hC' (by simp)⟩
   simp (disch:=first|assumption|omega) only[go_sem,seval,htk,g2]
   rw[Nat.max_eq_left (by omega)]
 ·have e:(ks.take i)=ks:=List.take_of_length_le (by omega)
  rw[e] at g2
  have hd:=Hp (.mk k n o s ks)
  rw[Ex.depth,Ex.sz] at hd
  rw[Ex.depth] at hK
  simp (disch:=first|assumption|omega) only[go_sem,seval,g1,g2,g3,hgM,hlen]
  exact hK _ (hC1.trans hC (by simp))
end FR
open Go Nm Go.Proofs
namespace FR
set_option linter.unusedSimpArgs false
set_option linter.unusedVariables false
def HB (f:Nat) (m0:NH) (L:List Tok) (vl:NV) (r:D4) (rest:List NV) (E:Rs->Ex×Rs) (d:Nat):Prop:=∀{m:NH} {s:Rs},Chg [] m0 m->RD m r vl s rest->s.a<=L.length->
 ∃v m',bI Try.prog S0 f [.ptr r 0,ii d] m v m'/\(∃u,v= .agg ((E s).1.l u)/\RE m' (nU m) (E s).1 ((E s).1.l u))/\RD m' r vl (E s).2 rest/\Chg [r] m m'
theorem mA {S:List D4} {m M:NH} {l:List (AK×NO)} {k:Nat} (h:Chg S m M) (ho:∀i∈aU l,aC m i->i∈S):Chg S m (hp l k M):=h.trans (an rfl) ho
section
variable {m0:NH} {L:List Tok} {vl:NV} {r:D4} {rest:List NV} {E:Rs->Ex×Rs}
theorem DQ (hc:RC m0 L vl r) {d:Nat} (hst:∀s,St L s (E s).2) (hE:d<=29->HB 162 m0 L vl r rest E (d+1)) (hd30:d<=30):HB 173 m0 L vl r rest (cF L E d) d:=by
 intro m s h0 hd ha
 refine WF.ex fun K hK=> ?_
 refine WF.of_wpG (fun _=>rfl) sG (L:= [(.a .e,ii d),(.e,.ptr r 0)]) rfl ?_
 unfold Dg
 have hll:=hc.len
 simp (config:={maxSteps:=1000000}) (disch:=first|assumption|omega|exact ab (by omega)|exact aa (by assumption)|(simp only[ao]<;>omega)) only[go_sem,seval]
 generalize hM1:hp _ 1 m=M1
 have hC1:Chg [] m M1:=by rw[←hM1];exact an rfl
 have hg1:M1.get (na m 0)=some (.cells true [ii 0,u64 0,u8 0,.str [],.nils]):=by rw[←hM1];exact ax
 have ho1:aC M1 (na m 0):=by rw[←hM1];exact ab (by omega)
 have hr0:r≠na m 0:=hd.o.ne 0
 have hr0':na m 0≠r:=fun e=>hr0 e.symm
 have hd1:=hd.chg hC1 (by simp)
 have hn1:∀i,aC m i->aC M1 i:=fun i hi=>hC1.old hi
 refine WF.use1H (iO hc (h0.trans hC1 (by simp)) hd1) ?_
 intro M2 hC2
 have hd2:=hd1.chg hC2 (by simp)
 have hg2:=(hC2.get ho1 (by simp)).trans hg1
 have ho2:=hC2.old ho1
 have hC02:=hC1.trans hC2 (by simp)
 have hl:(Tok.l (aO L s.a)).length=4:=rfl
 have hpf:cF L E d s=if s.e≠0 then (zE,s) else if 29<d then (zE,bm 11 s) else if (aO L s.a).k=2 then (DK (aO L s.a).n,am s) else if (aO L s.a).k=1 then (uc (aO L s.a).t,am s)
  else if a6 L [40] s=true then ((E (am s)).1,a7 L [41] (E (am s)).2) else (zE,bm 2 s):=rfl
 rw[hpf] at hK
 clear hpf
 generalize hT:aO L s.a=T at hK hl
 have hdg:=hd2.g
 have hdo:=hd2.o
 have hCr2:Chg [r] m M2:=hC02.weak (by simp)
 have fin:∀{M:NH} {s':Rs} {u:NV} {x:Ex} {l:List (AK×NO)} {k:Nat},RD M r vl s' rest->Chg [r] m M->RE M (nU m) x (x.l u)->(∀i∈aU l,i=na m 0)->(RE (hp l k M) (nU m) x (x.l u)->RD (hp l k M) r vl s' rest/\Chg [r] m (hp l k M)):=fun h1 h2 h3 h4 _=>
  ⟨h1.chg (an rfl) fun hi=>hr0 (h4 _ hi),mA h2 fun i hi ho=>absurd (h4 i hi▸ho) aI⟩
 by_cases he:s.e=0
 ·rw[if_neg (by omega)] at hK
  by_cases h29:29<d
  ·rw[if_pos h29] at hK
   simp (config:={maxSteps:=1000000}) (disch:=first|assumption|omega|exact ab (by omega)|exact aa (by assumption)|(simp only[ao]<;>omega)) only[go_sem,seval,hl,hdg]
   generalize hM3:hp _ 1 M2=M3
   have hC3:Chg [] M2 M3:=by rw[←hM3];exact an rfl
   refine WF.use1H (gL (hd2.chg hC3 (by simp)) 11) ?_
   rintro M4 ⟨hd4,hC4⟩
   have hg4:=(hC4.get (hC3.old ho2) (by simpa using hr0.symm)).trans ((hC3.get ho2 (by simp)).trans hg2)
   have ho4:=hC4.old (hC3.old ho2)
   simp (config:={maxSteps:=1000000}) (disch:=first|assumption|omega|exact ab (by omega)|exact aa (by assumption)|(simp only[ao]<;>omega)) only[go_sem,seval,hg4]
   exact hK _ _ ⟨⟨.nils,rfl,Av _ _ _ _ _ _⟩,fin hd4 ((hCr2.trans hC3 (by simp)).trans hC4 fun _ h _=>h) (Av _ _ 0 0 0 []) (by simp[aU]) (Av _ _ _ _ _ _)⟩
  ·rw[if_neg h29] at hK
   by_cases h2:T.k=2
   ·rw[if_pos h2] at hK
    simp (config:={maxSteps:=1000000}) (disch:=first|assumption|omega|exact ab (by omega)|exact aa (by assumption)|(simp only[ao]<;>omega)) only[go_sem,seval,hl,pI,Lt,hdg,hg2,hr0]
    refine hK _ _ ⟨⟨.nils,rfl,IJ _ _ _⟩,⟨?_,aa (by assumption)⟩, ?_⟩
    ·refine (aQ hdo).trans ?_
     simp only[bc hr0,ay];rfl
    ·exact mA hCr2 (by simp[aU,aI])
   ·rw[if_neg h2] at hK
    by_cases h1:T.k=1
    ·rw[if_pos h1] at hK
     simp (config:={maxSteps:=1000000}) (disch:=first|assumption|omega|exact ab (by omega)|exact aa (by assumption)|(simp only[ao]<;>omega)) only[go_sem,seval,hl,pI,uK,hdg,hg2,hr0]
     refine hK _ _ ⟨⟨.nils,rfl,E7 _ _ _⟩,⟨?_,aa (by assumption)⟩, ?_⟩
     ·refine (aQ hdo).trans ?_
      simp only[bc hr0,ay];rfl
     ·exact mA hCr2 (by simp[aU,aI])
    ·rw[if_neg h1] at hK
     simp (config:={maxSteps:=1000000}) (disch:=first|assumption|omega|exact ab (by omega)|exact aa (by assumption)|(simp only[ao]<;>omega)) only[go_sem,seval,hl,pI,hdg]
     generalize hM3:hp _ 1 M2=M3
     have hC3:Chg [] M2 M3:=by rw[←hM3];exact an rfl
     have hd3:=hd2.chg hC3 (by simp)
     refine WF.use1H (da hc (h0.trans (hC02.trans hC3 (by simp)) (by simp)) hd3 [40] (by simp) (by omega)) ?_
     rintro M4 ⟨hd4,hC4⟩
     have hg4:=(hC4.get (hC3.old ho2) (by simpa using hr0.symm)).trans ((hC3.get ho2 (by simp)).trans hg2)
     have ho4:=hC4.old (hC3.old ho2)
     have hC04:Chg [r] m M4:=(hCr2.trans hC3 (by simp)).trans hC4 fun _ h _=>h
     cases hb:a6 L [40] s with
     |true=>
      rw[hb,if_pos rfl] at hK hd4
      dsimp only at hK
      generalize hEs:E (am s)=Es at hK
      obtain ⟨-,hlt⟩:=bA hb
      simp (config:={maxSteps:=1000000}) (disch:=first|assumption|omega|exact ab (by omega)|exact aa (by assumption)|(simp only[ao]<;>omega)) only[go_sem,seval,ai]
      refine WF.useH (hE (by omega) (hc.chg h0 hC04) hd4 hlt) ?_
      rintro v5 M5 ⟨⟨u,rfl,hx5⟩,hd5,hC5⟩
      have hst5:=hst (am s)
      rw[hEs] at hx5 hd5 hst5 ⊢
      have hg5:=(hC5.get ho4 (by simpa using hr0.symm)).trans hg4
      have ho5:=hC5.old ho4
      have hC05:Chg [r] m M5:=hC04.trans hC5 fun _ h _=>h
      have hx5l:(Es.1.l u).length=5:=rfl
      simp (config:={maxSteps:=1000000}) (disch:=first|assumption|omega|exact ab (by omega)|exact aa (by assumption)|(simp only[ao]<;>omega)) only[go_sem,seval,hx5l]
      generalize hM6:hp _ 1 M5=M6
      have hC6:Chg [] M5 M6:=by rw[←hM6];exact an rfl
      have hg6:M6.get (na M5 0)=some (.cells true (Es.1.l u)):=by rw[←hM6];exact ax
      have ho6:aC M6 (na M5 0):=by rw[←hM6];exact ab (by omega)
      have hlim:=hst5.lim hlt
      refine WF.use1H (fU hc (hc.chg h0 (hC05.trans hC6 (by simp))) (hd5.chg hC6 (by simp)) [41] (by simp) (by omega)) ?_
      rintro M7 ⟨hd7,hC7⟩
      have hg7:=(hC7.get (hC6.old ho5) (by simpa using hr0.symm)).trans ((hC6.get ho5 (by simp)).trans hg5)
      have ho7:=hC7.old (hC6.old ho5)
      have hr5:na M5 0≠r:=fun e=>(hd5.o.ne 0 e.symm)
      have hb7:=(hC7.get ho6 (by simpa using hr5)).trans hg6
      have hC07:Chg [r] m M7:=(hC05.trans hC6 (by simp)).trans hC7 fun _ h _=>h
      have hl5':(Es.1.l u).take 5=Es.1.l u:=rfl
      simp (config:={maxSteps:=1000000}) (disch:=first|assumption|omega|exact ab (by omega)|exact aa (by assumption)|(simp only[ao]<;>omega)) only[go_sem,seval,hg7,hb7,hx5l,hl5']
      have hx7:RE M7 (nU M4) Es.1 (Es.1.l u):=(hx5.chg hC6 (by simp)).chg hC7 fun i hi=>by
       simp only[List.mem_cons,List.not_mem_nil,or_false] at hi;subst hi;exact hd4.o
      generalize hM8:hp _ 0 M7=M8
      have hC8:Chg [na m 0] M7 M8:=by rw[←hM8];exact an rfl
      have hx8:RE M8 (nU M4) Es.1 (Es.1.l u):=hx7.chg hC8 fun i hi=>by
       simp only[List.mem_cons,List.not_mem_nil,or_false] at hi;subst hi;exact ho4
      have hx9:RE M8 (nU m) Es.1 (Es.1.l u):=hx8.new fun i hi=>hC04.old hi
      have hd8:=hd7.chg hC8 (by simpa using hr0)
      have hC08:Chg [r] m M8:=hC07.trans hC8 fun i hi ho=>by
       simp only[List.mem_cons,List.not_mem_nil,or_false] at hi;subst hi;exact absurd ho aI
      exact hK _ _ ⟨⟨u,rfl,hx9⟩,hd8,hC08⟩
     |false=>
      rw[hb,if_neg Bool.false_ne_true] at hK hd4
      simp (config:={maxSteps:=1000000}) (disch:=first|assumption|omega|exact ab (by omega)|exact aa (by assumption)|(simp only[ao]<;>omega)) only[go_sem,seval,ai]
      refine WF.use1H (gL hd4 2) ?_
      rintro M5 ⟨hd5,hC5⟩
      have hg5:=(hC5.get ho4 (by simpa using hr0.symm)).trans hg4
      have ho5:=hC5.old ho4
      simp (config:={maxSteps:=1000000}) (disch:=first|assumption|omega|exact ab (by omega)|exact aa (by assumption)|(simp only[ao]<;>omega)) only[go_sem,seval,hg5]
      exact hK _ _ ⟨⟨.nils,rfl,Av _ _ _ _ _ _⟩,fin hd5 (hC04.trans hC5 fun _ h _=>h) (Av _ _ 0 0 0 []) (by simp[aU]) (Av _ _ _ _ _ _)⟩
 ·rw[if_pos he] at hK
  simp (config:={maxSteps:=1000000}) (disch:=first|assumption|omega|exact ab (by omega)|exact aa (by assumption)|(simp only[ao]<;>omega)) only[go_sem,seval,hl,hdg,hg2]
  exact hK _ _ ⟨⟨.nils,rfl,Av _ _ _ _ _ _⟩,fin hd2 hCr2 (Av _ _ 0 0 0 []) (by simp[aU]) (Av _ _ _ _ _ _)⟩
end
end FR
open Go Nm Go.Proofs
namespace FR
set_option linter.unusedSimpArgs false
set_option linter.unusedVariables false
theorem RE.old {m:NH} {T:D4->Prop} {x:Ex} {c:List NV} (h:RE m T x c):RE m (fun i=>T i/\aC m i) x c:=by
 induction h with
 |mk hv hT hl h ih=>exact .mk hv (fun i hi=>⟨hT i hi,hv.old i hi⟩) hl ih
theorem RS.old {m:NH} {T:D4->Prop} {x:Stm} {c:List NV} (h:RS m T x c):RS m (fun i=>T i/\aC m i) x c:=by
 induction h with
 |mk hi hx hy hb hbT hbl hbR he heT hel heR ih1 ih2=>exact .mk hi.old hx.old hy.old hb (fun i q=>⟨hbT i q,hb.old i q⟩) hbl ih1 he (fun i q=>⟨heT i q,he.old i q⟩) hel ih2
theorem Jr {m:NH} {T:D4->Prop} {o:Nat} {x y:Ex} {cx cy:List NV} (hx:RE m T x cx) (hy:RE m T y cy) {id:D4} (hT:T id) (hg:m.get id=some (.cells true (cx++cy))) (ho:aC m id):RE m T (xH o x y) ((xH o x y).l (.slc id 0 2 5 2)):=by
 refine .mk (C:= [cx,cy]) ⟨?_,Or.inr ⟨id,0,2,true,_,rfl,hg,ho, ?_, ?_⟩⟩ (by intro i hi;simp[ids] at hi;subst hi;exact hT) rfl ?_
 ·intro c hc;simp at hc;rcases hc with rfl|rfl
  ·exact hx.len
  ·exact hy.len
 ·simp[hx.len,hy.len]
 ·simp[hx.len,hy.len]
  rw[List.take_of_length_le (by simp[hx.len,hy.len])]
 ·intro i z c h1 h2
  match i with
  |0=>cases h1;cases h2;exact hx
  |1=>cases h1;cases h2;exact hy
  |i+2=>simp at h1
section
variable {m0:NH} {L:List Tok} {vl:NV} {r:D4} {rest:List NV}
theorem At (hc:RC m0 L vl r) {P:Rs->Ex×Rs} {d:Nat} (hst:∀s,St L s (P s).2) (hsz:BB P) (hP:HB 173 m0 L vl r rest P d) {m:NH} (h0:Chg [] m0 m) {b1 b2:D4} (hb1:¬aC m b1) (hb2:¬aC m b2) (hb12:b1≠b2) (horm:aC m r)
 {X:Ex} {S:Rs} {M:NH} {x:Ex} {s:Rs} {u:NV} (hd:RD M r vl s rest) (hx:RE M (fun i=>¬aC m i/\i≠b1/\i≠b2) x (x.l u)) (hg:M.get b2=some (.cells true (x.l u))) (hob:aC M b2) (hob1:aC M b1) {z1:List NV} (hg1:M.get b1=some (.cells true z1)) (ha:s.a<=L.length) (hxs:s.e=0->x.sz<=s.a) (hxz:x.sz<=100000) (hC:Chg [r] m M) (hE:eK L P (L.length+1) x s=(X,S))
 {t:Tm} (g1:NT.get D4.e t=some (.ptr r 0)) (g2:NT.get D4.e.a t=some (ii d)) (g3:NT.get D4.e.f t=some (.ptr b1 0)) (g4:NT.get D4.e.a.a t=some (.ptr b2 0)) {Q:Out->Dyn->Prop}
 (hQ:∀t' M' u',NT.get D4.e.f t'=some (.ptr b1 0)->NT.get D4.e.a.a t'=some (.ptr b2 0)->RD M' r vl S rest->RE M' (fun i=>¬aC m i/\i≠b1/\i≠b2) X (X.l u')->M'.get b2=some (.cells true (X.l u'))->aC M' b2->aC M' b1->M'.get b1=some (.cells true z1)->Chg [r] m M'->Q (.exit 0) ⟨ak [] t', [],none,M'⟩):
 W Try.prog S0 none oG.loop ⟨t, [],none,M⟩ Q:=by
 refine W.loop (fun k D=>∃t M x s u f,D=⟨t, [],none,M⟩/\NT.get D4.e t=some (.ptr r 0)/\NT.get D4.e.a t=some (ii d)/\NT.get D4.e.f t=some (.ptr b1 0)/\NT.get D4.e.a.a t=some (.ptr b2 0)/\RD M r vl s rest/\RE M (fun i=>¬aC m i/\i≠b1/\i≠b2) x (x.l u)/\M.get b2=some (.cells true (x.l u))/\aC M b2/\aC M b1/\M.get b1=some (.cells true z1)/\s.a<=L.length/\(s.e=0->x.sz<=s.a)/\x.sz<=100000/\Chg [r] m M/\eK L P f x s=(X,S)/\L.length<f+s.a/\k=f) ?_ (L.length+1) _ ⟨t,M,x,s,u,L.length+1,rfl,g1,g2,g3,g4,hd,hx,hg,hob,hob1,hg1,ha,hxs,hxz,hC,hE,by omega,rfl⟩
 clear hd hx hg hob hob1 hg1 ha hxs hxz hC hE g1 g2 g3 g4
 rintro k D ⟨t,M,x,s,u,f,rfl,g1,g2,g3,g4,hd,hx,hg,hob,hob1,hg1,ha,hxs,hxz,hC,hE,hf,rfl⟩
 apply aK
 unfold oG
 change wp _ _ _ _ ⟨ak [] t, [],none,M⟩ _
 have hll:=hc.len
 obtain ⟨f,rfl⟩:∃f',k=f'+1:=⟨k - 1,by omega⟩
 rw[eK] at hE
 have hdg:=hd.g
 refine s7 (fun D=>s.e=0/\∃t',D=⟨t', [],none,M⟩/\NT.get D4.e t'=some (.ptr r 0)/\NT.get D4.e.a t'=some (ii d)/\NT.get D4.e.f t'=some (.ptr b1 0)/\NT.get D4.e.a.a t'=some (.ptr b2 0)) (fun R hR=> ?_) ?_
 ·by_cases he:s.e=0
  ·simp (config:={maxSteps:=1000000}) (disch:=first|assumption|omega|exact ab (by omega)|exact aa (by assumption)|(simp only[ao]<;>omega)) only[go_sem,seval,g1,g2,g3,g4,hdg]
   exact hR _ ⟨he,_,rfl,by simp only[go_sem,seval,g1],by simp only[go_sem,seval,g2],by simp only[go_sem,seval,g3],by simp only[go_sem,seval,g4]⟩
  ·rw[if_pos he] at hE
   injection hE with e1 e2
   subst e1 e2
   have hde:decide ((s.e:Int)=0)=false:=decide_eq_false (by omega)
   simp (config:={maxSteps:=1000000}) (disch:=first|assumption|omega|exact ab (by omega)|exact aa (by assumption)|(simp only[ao]<;>omega)) only[go_sem,seval,g1,g2,g3,g4,hdg,hde]
   exact hQ _ M u (by simp only[go_sem,seval,g3]) (by simp only[go_sem,seval,g4]) hd hx hg hob hob1 hg1 hC
 clear g1 g2 g3 g4
 rintro D ⟨he,t,rfl,g1,g2,g3,g4⟩
 rw[if_neg (by omega)] at hE
 change wp _ _ _ _ ⟨ak [] t, [],none,M⟩ _
 rw[qJ]
 have hl:(Tok.l (aO L s.a)).length=4:=rfl
 refine MC (fun D=>∃t' M2,D=⟨t', [],none,M2⟩/\Chg [] M M2/\xf (gU (aO L s.a))=true/\NT.get D4.e t'=some (.ptr r 0)/\NT.get D4.e.a t'=some (ii d)/\NT.get D4.e.f t'=some (.ptr b1 0)/\NT.get D4.e.a.a t'=some (.ptr b2 0)/\NT.get D4.e.a.c t'=some (u8 (gU (aO L s.a)))) (fun R hR=> ?_) ?_
 ·simp (config:={maxSteps:=1000000}) (disch:=first|assumption|omega|exact ab (by omega)|exact aa (by assumption)|(simp only[ao]<;>omega)) only[go_sem,seval,g1,g2,g3,g4,hdg]
  refine WF.use1H (iO hc (hc.chg h0 hC) hd) ?_
  intro M2 hC2
  generalize hT:aO L s.a=T at hE hl hR
  have out:∀(l:List (AK×NO)) (k:Nat) (t':Tm),xf (gU T)=false->NT.get D4.e.f t'=some (.ptr b1 0)->NT.get D4.e.a.a t'=some (.ptr b2 0)->aU l= []->Q (.exit 0) ⟨ak [] t', [],none,hp l k M2⟩:=by
   intro l k t' hop q1 q2 ho
   rw[if_pos hop] at hE
   injection hE with e1 e2
   subst e1 e2
   have hC3:=fa (k:=k) hC2 ho
   exact hQ _ _ u q1 q2 (hd.chg hC3 (by simp)) (hx.stays (qW hC3 _)) ((hC3.get hob (by simp)).trans hg) (hC3.old hob) (hC3.old hob1) ((hC3.get hob1 (by simp)).trans hg1) (hC.trans hC3 (by simp))
  by_cases h3:T.k=3
  ·by_cases h1:T.t.length=1
   ·obtain ⟨c,hc1⟩:=List.length_eq_one_iff.mp h1
    have hopc:gU T=c:=by unfold gU;rw[if_pos ⟨h3,h1⟩,hc1];rfl
    have h00:T.t[0]? =some c:=by rw[hc1];rfl
    rw[hopc] at hR out
    by_cases hop:xf c=true
    ·have hcs:=of_decide_eq_true hop
     rcases hcs with rfl|rfl|rfl|rfl|rfl|rfl<;>simp (config:={maxSteps:=1000000}) (disch:=first|assumption|omega|exact ab (by omega)|exact aa (by assumption)|(simp only[ao]<;>omega)) only[go_sem,seval,g1,g2,g3,g4,hl,pI,uK,h3,h1,h00]<;>exact hR _ ⟨_,_,rfl,fa hC2 rfl,hop,by simp only[go_sem,seval,g1],by simp only[go_sem,seval,g2],by simp only[go_sem,seval,g3],by simp only[go_sem,seval,g4],by simp only[go_sem,seval]<;>rfl⟩
    ·have hop':xf c=false:=by simpa using hop
     have hcs:=of_decide_eq_false hop'
     simp (config:={maxSteps:=1000000}) (disch:=first|assumption|omega|exact ab (by omega)|exact aa (by assumption)|(simp only[ao]<;>omega)) only[go_sem,seval,g1,g2,g3,g4,hl,pI,uK,h3,h1,h00]
     exact out _ _ _ hop' (by simp only[go_sem,seval,g3]) (by simp only[go_sem,seval,g4]) rfl
   ·have hopc:gU T=0:=by unfold gU;rw[if_neg (fun h=>h1 h.2)]
    rw[hopc] at hR out
    simp (config:={maxSteps:=1000000}) (disch:=first|assumption|omega|exact ab (by omega)|exact aa (by assumption)|(simp only[ao]<;>omega)) only[go_sem,seval,g1,g2,g3,g4,hl,pI,uK,h3]
    exact out _ _ _ rfl (by simp only[go_sem,seval,g3]) (by simp only[go_sem,seval,g4]) rfl
  ·have hopc:gU T=0:=by unfold gU;rw[if_neg (fun h=>h3 h.1)]
   rw[hopc] at hR out
   simp (config:={maxSteps:=1000000}) (disch:=first|assumption|omega|exact ab (by omega)|exact aa (by assumption)|(simp only[ao]<;>omega)) only[go_sem,seval,g1,g2,g3,g4,hl,pI,uK]
   exact out _ _ _ rfl (by simp only[go_sem,seval,g3]) (by simp only[go_sem,seval,g4]) rfl
 clear g1 g2 g3 g4
 rintro D ⟨t,M2,rfl,hC2,hop,g1,g2,g3,g4,g5⟩
 have hlt:=rY hop
 rw[if_neg (by simp[hop])] at hE
 generalize gU (aO L s.a)=o at hE g5
 change wp _ _ _ _ ⟨ak [] t, [],none,M2⟩ _
 rw[←ai M2]
 have hd2:=hd.chg hC2 (by simp)
 have hdg2:=hd2.g
 have hdo2:=hd2.o
 simp (config:={maxSteps:=1000000}) (disch:=first|assumption|omega|exact ab (by omega)|exact aa (by assumption)|(simp only[ao]<;>omega)) only[go_sem,seval,g1,g2,g3,g4,g5,hdg2]
 generalize hM3:hp _ 0 M2=M3
 have hC3:Chg [r] M2 M3:=by rw[←hM3];exact an rfl
 have hd3:RD M3 r vl (am s) rest:=⟨by rw[←hM3];exact (aQ hdo2).trans ay,hC3.old hdo2⟩
 have hC03:Chg [r] m M3:=(hC.trans hC2 (by simp)).trans hC3 fun _ h _=>h
 have nb1:b1∉ [r]:=by simp;rintro rfl;exact hb1 horm
 have nb2:b2∉ [r]:=by simp;rintro rfl;exact hb2 horm
 have hCb:∀{M M':NH} {z:List NV} {b:D4},Chg [r] M M'->b∉ [r]->aC M b->M.get b=some (.cells true z)->M'.get b=some (.cells true z)/\aC M' b:=fun h hn ho hg=>⟨(h.get ho hn).trans hg,h.old ho⟩
 have hC23:Chg [r] M M3:=(hC2.weak (by simp)).trans hC3 fun _ h _=>h
 refine WF.use (hP (hc.chg h0 hC03) hd3 hlt) ?_
 rintro v4 M4 ⟨⟨w,rfl,hy4⟩,hd4,hC4⟩
 have hst4:=hst (am s)
 have hsz4:=hsz (am s)
 have hna:(am s).a=s.a+1:=rfl
 have hlim:=hst4.lim hlt
 generalize hP4:P (am s)=p4 at hy4 hd4 hE hst4 hsz4 hlim
 obtain ⟨y,s4⟩:=p4
 dsimp only at hy4 hd4 hE hst4 hsz4 hlim
 have hC24:Chg [r] M M4:=hC23.trans hC4 fun _ h _=>h
 obtain ⟨hg4,ho4⟩:=hCb hC24 nb2 hob hg
 obtain ⟨hg14,ho14⟩:=hCb hC24 nb1 hob1 hg1
 have hx4:RE M4 (fun i=>¬aC m i/\i≠b1/\i≠b2) x (x.l u):=hx.stays (bi.of hC24 fun i hi hs=>by
  simp only[List.mem_cons,List.not_mem_nil,or_false] at hs;subst hs;exact hi.1 horm)
 have hC04:Chg [r] m M4:=hC03.trans hC4 fun _ h _=>h
 have hy4':RE M4 (fun i=>¬aC m i/\i≠b1/\i≠b2) y (y.l w):=hy4.weak fun i hi=>⟨fun h=>hi (hC03.old h),fun h=>hi (h▸hC23.old hob1),fun h=>hi (h▸hC23.old hob)⟩
 have hyl:(y.l w).length=5:=rfl
 have hxl:(x.l u).length=5:=rfl
 rw[←ai M4]
 by_cases he4:s4.e=0
 ·rw[if_neg (by omega)] at hE
  have hys:=hsz4 he4
  have hdg4:=hd4.g
  have hdo4:=hd4.o
  have hyl':(y.l w).take 5=y.l w:=rfl
  have hxl':(x.l u).take 5=x.l u:=rfl
  have hxd:(y.l w).drop 5= []:=rfl
  simp (config:={maxSteps:=1000000}) (disch:=first|assumption|omega|exact ab (by omega)|exact aa (by assumption)|(simp only[ao]<;>omega)) only[go_sem,seval,g1,g2,g3,g4,g5,hyl,hdg4,hg4,hxl,hyl',hxl']
  generalize hM5:hp _ 2 M4=M5
  have hC5:Chg [b2] M4 M5:=by rw[←hM5];exact an rfl
  have hg5:M5.get b2=some (.cells true ((xH o x y).l (.slc (na M4 1) 0 2 5 2))):=by rw[←hM5];exact (aQ ho4).trans ay
  have hk5:M5.get (na M4 1)=some (.cells true (x.l u++y.l w)):=by rw[←hM5];exact ax
  have hko5:aC M5 (na M4 1):=by rw[←hM5];exact ab (by omega)
  have hTk:¬aC m (na M4 1)/\na M4 1≠b1/\na M4 1≠b2:=⟨fun h=>aI (hC04.old h),fun h=>ho14.ne 1 h.symm,fun h=>ho4.ne 1 h.symm⟩
  have hs5:bi (fun i=>¬aC m i/\i≠b1/\i≠b2) M4 M5:=bi.of hC5 fun i hi hs=>by
   simp only[List.mem_cons,List.not_mem_nil,or_false] at hs;exact hi.2.2 hs
  have hxy5:RE M5 (fun i=>¬aC m i/\i≠b1/\i≠b2) (xH o x y) ((xH o x y).l (.slc (na M4 1) 0 2 5 2)):=Jr (hx4.stays hs5) (hy4'.stays hs5) hTk hk5 hko5
  have hosz:(xH o x y).sz=1+(x.sz+(y.sz+0)):=by simp[Ex.sz,jr]
  refine WF.use1H (FF (xH o x y) hxy5 (fun i _ ho=>⟨rfl,ho⟩) (by omega)) ?_
  intro M6 hC6
  have hd5:RD M5 r vl s4 rest:=hd4.chg hC5 (by simp;rintro rfl;exact hb2 horm)
  have hd6:=hd5.chg hC6 (by simp)
  have hC56:Chg [b2] M4 M6:=hC5.trans hC6 (by simp)
  have hxy6:=hxy5.stays (qW hC6 _)
  have hg6:=(hC6.get (hC5.old ho4) (by simp)).trans hg5
  have ho6:=hC56.old ho4
  have ho16:=hC56.old ho14
  have hg16:=(hC56.get ho14 (by simpa using hb12)).trans hg14
  have hC06:Chg [r] m M6:=hC04.trans hC56 fun i hi ho=>by
   simp only[List.mem_cons,List.not_mem_nil,or_false] at hi;subst hi;exact absurd ho hb2
  have he0:=hxs he
  by_cases hdp:30<(xH o x y).depth
  ·rw[if_pos hdp] at hE
   simp (config:={maxSteps:=1000000}) (disch:=first|assumption|omega|exact ab (by omega)|exact aa (by assumption)|(simp only[ao]<;>omega)) only[go_sem,seval,g1]
   rw[ai]
   refine WF.use1 (gL hd6 11) ?_
   rintro M7 ⟨hd7,hC7⟩
   obtain ⟨hg7,ho7⟩:=hCb hC7 nb2 ho6 hg6
   obtain ⟨hg17,ho17⟩:=hCb hC7 nb1 ho16 hg16
   have hxy7:=hxy6.stays (m':=M7) (bi.of hC7 fun i hi hs=>by
    simp only[List.mem_cons,List.not_mem_nil,or_false] at hs;subst hs;exact hi.1 horm)
   have hfe:(bm 11 s4).e≠0/\(bm 11 s4).a=s4.a:=by unfold bm;rw[if_pos he4];exact ⟨by show (11:Nat)≠0;omega,rfl⟩
   simp (config:={maxSteps:=1000000}) (disch:=first|assumption|omega|exact ab (by omega)|exact aa (by assumption)|(simp only[ao]<;>omega)) only[go_sem,seval]
   refine ⟨f,by omega,_,M7,xH o x y,_,_,f,by rfl,by simp only[go_sem,seval,g1],by simp only[go_sem,seval,g2],by simp only[go_sem,seval,g3],by simp only[go_sem,seval,g4],hd7,hxy7,hg7,ho7,ho17,hg17,by rw[hfe.2];exact hlim,fun h=>absurd h hfe.1,by omega,hC06.trans hC7 fun _ h _=>h,hE, ?_,rfl⟩
   have:=hst4.le
   rw[hfe.2];omega
  ·rw[if_neg hdp] at hE
   simp (config:={maxSteps:=1000000}) (disch:=first|assumption|omega|exact ab (by omega)|exact aa (by assumption)|(simp only[ao]<;>omega)) only[go_sem,seval,g1]
   refine ⟨f,by omega,_,M6,xH o x y,_,_,f,by rw[ai],by simp only[go_sem,seval,g1],by simp only[go_sem,seval,g2],by simp only[go_sem,seval,g3],by simp only[go_sem,seval,g4],hd6,hxy6,hg6,ho6,ho16,hg16,hlim,fun h=>by omega,by omega,hC06,hE, ?_,rfl⟩
   have:=hst4.le
   omega
 ·rw[if_pos he4] at hE
  injection hE with e1 e2
  subst e1 e2
  have hdg4:=hd4.g
  have hdo4:=hd4.o
  simp (config:={maxSteps:=1000000}) (disch:=first|assumption|omega|exact ab (by omega)|exact aa (by assumption)|(simp only[ao]<;>omega)) only[go_sem,seval,g1,g2,g3,g4,g5,hyl,hdg4]
  generalize hM5:hp _ 1 M4=M5
  have hC5:Chg [] M4 M5:=by rw[←hM5];exact an rfl
  exact hQ _ M5 u (by simp only[go_sem,seval,g3]) (by simp only[go_sem,seval,g4]) (hd4.chg hC5 (by simp)) (hx4.stays (qW hC5 _)) ((hC5.get ho4 (by simp)).trans hg4) (hC5.old ho4) (hC5.old ho14) ((hC5.get ho14 (by simp)).trans hg14) (hC04.trans hC5 (by simp))
end
end FR
open Go Nm Go.Proofs
namespace FR
set_option linter.unusedSimpArgs false
set_option linter.unusedVariables false
section
variable {m0:NH} {L:List Tok} {vl:NV} {r:D4} {rest:List NV}
theorem xt (hc:RC m0 L vl r) {E:Rs->Ex×Rs} {d:Nat} (hst:∀s,St L s (E s).2) (hP:HB 173 m0 L vl r rest (cF L E d) d) (hsz:BB (cF L E d)) (hsz1:∀s,s.a<=L.length->(cF L E d s).1.sz<=100000):HB 162 m0 L vl r rest (g9 L E d) d:=by
 intro m s h0 hd ha
 refine WF.ex fun K hK=> ?_
 refine WF.of_wpG (fun _=>rfl) sZ (L:= [(.a .e,ii d),(.e,.ptr r 0)]) rfl ?_
 unfold Ds
 have hll:=hc.len
 simp (config:={maxSteps:=1000000}) (disch:=first|assumption|omega|exact ab (by omega)|exact aa (by assumption)|(simp only[ao]<;>omega)) only[go_sem,seval]
 generalize hM1:hp _ 1 m=M1
 have hC1:Chg [] m M1:=by rw[←hM1];exact an rfl
 have hg1:M1.get (na m 0)=some (.cells true [ii 0,u64 0,u8 0,.str [],.nils]):=by rw[←hM1];exact ax
 have ho1:aC M1 (na m 0):=by rw[←hM1];exact ab (by omega)
 have hr0:na m 0≠r:=fun e=>hd.o.ne 0 e.symm
 have hd1:=hd.chg hC1 (by simp)
 refine WF.useH (hP (h0.trans hC1 (by simp)) hd1 ha) ?_
 rintro v2 M2 ⟨⟨u,rfl,hx2⟩,hd2,hC2⟩
 have hst2:=gC (L:=L) (d:=d) hst s
 have hlim:=hst2.lim ha
 have hsz2:=hsz s
 have hszz:=hsz1 s ha
 have hXS:eK L (cF L E d) (L.length+1) (cF L E d s).1 (cF L E d s).2=((g9 L E d s).1,(g9 L E d s).2):=rfl
 generalize (g9 L E d s).1=X at hXS hK
 generalize (g9 L E d s).2=S at hXS hK
 generalize cF L E d s=p at hx2 hd2 hlim hsz2 hszz hXS
 obtain ⟨x,s2⟩:=p
 dsimp only at hx2 hd2 hlim hsz2 hszz hXS
 have hg2:=(hC2.get ho1 (by simpa using hr0)).trans hg1
 have ho2:=hC2.old ho1
 have hxl:(x.l u).length=5:=rfl
 have hC02:Chg [r] m M2:=(hC1.weak (by simp)).trans hC2 fun _ h _=>h
 simp (config:={maxSteps:=1000000}) (disch:=first|assumption|omega|exact ab (by omega)|exact aa (by assumption)|(simp only[ao]<;>omega)) only[go_sem,seval,hxl]
 generalize hM3:hp _ 1 M2=M3
 have hC3:Chg [] M2 M3:=by rw[←hM3];exact an rfl
 have hg3:M3.get (na M2 0)=some (.cells true (x.l u)):=by rw[←hM3];exact ax
 have ho3:aC M3 (na M2 0):=by rw[←hM3];exact ab (by omega)
 have hx3:RE M3 (fun i=>¬aC m i/\i≠na m 0/\i≠na M2 0) x (x.l u):=(hx2.old.stays (qW hC3 _)).weak fun i hi=>⟨fun h=>hi.1 (hC1.old h),fun h=>hi.1 (h▸ho1),fun h=>aI (h▸hi.2)⟩
 refine At hc (gC hst) hsz hP h0 (b1:=na m 0) (b2:=na M2 0) aI (fun h=>aI (hC02.old h)) (fun e=>ho2.ne 0 e) hd.o (hd2.chg hC3 (by simp)) hx3 hg3 ho3 (hC3.old ho2) ((hC3.get ho2 (by simp)).trans hg2) hlim (fun h=>by have:=hsz2 h;omega) hszz (hC02.trans hC3 (by simp)) hXS (by simp only[go_sem,seval]) (by simp only[go_sem,seval]) (by simp only[go_sem,seval]) (by simp only[go_sem,seval]) ?_
 intro t' M' u' q1 q2 q3 q4 q5 q6 q7 q8 q9
 have hXl:(X.l u').length=5:=rfl
 have hXl':(X.l u').take 5=X.l u':=rfl
 rw[←ai M']
 simp (config:={maxSteps:=1000000}) (disch:=first|assumption|omega|exact ab (by omega)|exact aa (by assumption)|(simp only[ao]<;>omega)) only[go_sem,seval,q1,q2,q5,q8,hXl,hXl']
 generalize hM5:hp _ 0 M'=M5
 have hC5:Chg [na m 0] M' M5:=by rw[←hM5];exact an rfl
 have hx5:RE M5 (nU m) X (X.l u'):=(q4.stays (m':=M5) (bi.of hC5 fun i hi hs=>by
  simp only[List.mem_cons,List.not_mem_nil,or_false] at hs;exact hi.2.1 hs)).weak fun i hi=>hi.1
 exact hK _ _ ⟨⟨u',rfl,hx5⟩,q3.chg hC5 (by simpa using hr0.symm),q9.trans hC5 fun i hi ho=>by
  simp only[List.mem_cons,List.not_mem_nil,or_false] at hi;subst hi;exact absurd ho aI⟩
theorem Ed {P:Rs->Ex×Rs} (hst:∀s,St L s (P s).2) (hsz:BB P):∀(f:Nat) (x:Ex) (s:Rs),s.a<=L.length->(s.e=0->x.sz<=s.a)->x.sz<=L.length+1->(eK L P f x s).1.sz<=L.length+1:=by
 intro f
 induction f with
 |zero=>intro x s _ _ h;exact h
 |succ f ih=>
  intro x s ha h1 h2
  rw[eK]
  split
  ·exact h2
  ·split
   ·exact h2
   ·rename_i q1 q2
    have hlt:=rY (L:=L) (a:=s.a) (by simpa using q2)
    have h3:=(hst (am s)).lim hlt
    split
    ·exact h2
    ·rename_i q3
     have h5:=hsz (am s) (by omega)
     have h6:=h1 (by omega)
     have h7:(am s).a=s.a+1:=rfl
     have h8:(xH (gU (aO L s.a)) x (P (am s)).1).sz=1+(x.sz+((P (am s)).1.sz+0)):=by simp[Ex.sz,jr]
     have hfa:∀e,(bm e (P (am s)).2).a=(P (am s)).2.a:=fun e=>by unfold bm;split<;>rfl
     refine ih _ _ ?_ ?_ (by omega)
     ·split
      ·rw[hfa];exact h3
      ·exact h3
     ·split
      ·rw[hfa];omega
      ·omega
theorem sm {E:Rs->Ex×Rs} {d:Nat} (hst:∀s,St L s (E s).2) (hsz:BB (cF L E d)) (hp1:∀s,s.a<=L.length->(cF L E d s).1.sz<=L.length+1) (s:Rs) (ha:s.a<=L.length):(g9 L E d s).1.sz<=L.length+1:=
 Ed (gC hst) hsz _ _ _ ((gC (L:=L) (d:=d) hst s).lim ha) (fun h=>by have:=hsz s h;omega) (hp1 s ha)
theorem mF {E:Rs->Ex×Rs} {d:Nat} (hE:∀s,s.a<=L.length->(E s).1.sz<=L.length+1) (s:Rs) (ha:s.a<=L.length):(cF L E d s).1.sz<=L.length+1:=by
 unfold cF
 split
 ·simp[zE,Ex.sz,jr]
 ·split
  ·simp[zE,Ex.sz,jr]
  ·split
   ·simp[Ex.sz,jr]
   ·split
    ·simp[Ex.sz,jr]
    ·split
     ·rename_i h;exact hE _ (bA h).2
     ·simp[zE,Ex.sz,jr]
theorem DL:∀(n:Nat) (s:Rs),s.a<=L.length->(iJ L n s).1.sz<=L.length+1:=by
 intro n
 induction n with
 |zero=>exact fun s ha=>sm (fun s=>St.refl _ s) (oP L _) (mF fun s _=>by simp[zE,Ex.sz,jr]) s ha
 |succ n ih=>exact fun s ha=>sm (bY L n) (rG (bY L n) (qR L n)) (mF ih) s ha
theorem GS (hc:RC m0 L vl r):∀n,n<=30->HB 162 m0 L vl r rest (iJ L n) (30 - n):=by
 have hll:=hc.len
 intro n
 induction n with
 |zero=>
  intro _
  have e2:iJ L 0=g9 L (fun s=>(zE,s)) 30:=by funext s;rfl
  rw[e2]
  intro m s
  exact xt (E:=fun s=>(zE,s)) hc (fun s=>St.refl _ s) (DQ hc (fun s=>St.refl _ s) (fun h=>by omega) (by omega)) (oP L _) fun s ha=>by have:=mF (L:=L) (E:=fun s=>(zE,s)) (d:=30) (fun s _=>by simp[zE,Ex.sz,jr]) s ha;omega
 |succ n ih=>
  intro hn
  have e:30 - (n+1)=29 - n:=by omega
  have h1:29 - n+1=30 - n:=by omega
  have e2:iJ L (n+1)=g9 L (iJ L n) (29 - n):=by funext s;rfl
  rw[e,e2]
  intro m s
  exact xt hc (bY L n) (DQ hc (bY L n) (fun _=>by rw[h1];exact ih (by omega)) (by omega)) (rG (bY L n) (qR L n)) fun s ha=>by have:=mF (d:=29 - n) (DL n) s ha;omega
end
end FR
open Go Nm Go.Proofs
namespace FR
set_option linter.unusedSimpArgs false
set_option linter.unusedVariables false
section
variable (L:List Tok)
abbrev eg (s:Rs):Ex×Rs:=iJ L 30 s
def bh (s:Rs):List Nat×Ex×Rs:=if a6 L [91] (a9 L s).2=true then ((a9 L s).1,(eg L (am (a9 L s).2)).1,a7 L [93] (eg L (am (a9 L s).2)).2) else ((a9 L s).1,zE,(a9 L s).2)
def tM (x:Stm) (s:Rs):Stm×Rs:=(x,a7 L [59] s)
def JZ (p:Int) (s:Rs):Stm×Rs:=tM L (.mk 0 p (a9 L s).1 [] zE (eg L (a9 L s).2).1 zE [] []) (eg L (a9 L s).2).2
def GB (p:Int) (s:Rs):Stm×Rs:=tM L (.mk 1 p (a9 L s).1 (bh L (a9 L s).2).1 (bh L (a9 L s).2).2.1 zE zE [] []) (bh L (a9 L s).2).2.2
def CK (p:Int) (s:Rs):Stm×Rs:=tM L (.mk 2 p [] (bh L s).1 (bh L s).2.1 (eg L (bh L s).2.2).1 zE [] []) (eg L (bh L s).2.2).2
def Kz (p:Int) (s:Rs):Stm×Rs:=tM L (.mk 3 p (a9 L s).1 (bh L (a9 L s).2).1 (bh L (a9 L s).2).2.1 (eg L (bh L (a9 L s).2).2.2).1 (eg L (eg L (bh L (a9 L s).2).2.2).2).1 [] []) (eg L (eg L (bh L (a9 L s).2).2.2).2).2
def Jf (p:Int) (s:Rs):Stm×Rs:=tM L (.mk 5 p [] [] zE (eg L s).1 zE [] []) (eg L s).2
def I7 (B:Rs->List Stm×Rs) (p:Int) (s:Rs):Stm×Rs:=
 if a6 L [101,108,115,101] (B (eg L s).2).2=true then (.mk 6 p [] [] zE (eg L s).1 zE (B (eg L s).2).1 (B (am (B (eg L s).2).2)).1,(B (am (B (eg L s).2).2)).2)
 else (.mk 6 p [] [] zE (eg L s).1 zE (B (eg L s).2).1 [],(B (eg L s).2).2)
def CW (B:Rs->List Stm×Rs) (p:Int) (s:Rs):Stm×Rs:=(.mk 7 p [] [] zE (eg L s).1 zE (B (eg L s).2).1 [],(B (eg L s).2).2)
def cC (B:Rs->List Stm×Rs) (s:Rs):Stm×Rs:=
 if a6 L [115,101,116] s=true then JZ L (aO L s.a).p (am s)
 else if a6 L [108,111,97,100] s=true then GB L (aO L s.a).p (am s)
 else if a6 L [115,116,111,114,101] s=true then CK L (aO L s.a).p (am s)
 else if a6 L [99,97,115] s=true then Kz L (aO L s.a).p (am s)
 else if a6 L [102,101,110,99,101] s=true then tM L (.mk 4 (aO L s.a).p [] [] zE zE zE [] []) (am s)
 else if a6 L [111,117,116] s=true then Jf L (aO L s.a).p (am s)
 else if a6 L [105,102] s=true then I7 L B (aO L s.a).p (am s)
 else if a6 L [119,104,105,108,101] s=true then CW L B (aO L s.a).p (am s)
 else tM L (.mk 0 (aO L s.a).p [] [] zE zE zE [] []) (bm 2 s)
def fk (S:Rs->Stm×Rs):Nat->List Stm->Rs->List Stm×Rs
 |0,l,s=>(l,s)
 |f+1,l,s=>if s.e≠0 then (l,s) else if a6 L [125] s=true then (l,am s) else fk S f (l++ [(S s).1]) (S s).2
def dy (d:Nat) (s:Rs):Rs:=if s.e=0/\29<d/\(aO L s.a).k=3/\(aO L s.a).t= [123] then bm 11 s else s
def iP (S:Rs->Stm×Rs) (d:Nat) (s:Rs):List Stm×Rs:=fk L S (L.length+1) [] (a7 L [123] (dy L d s))
def di:Nat->Rs->List Stm×Rs
 |0,s=>iP L (fun s=>(.mk 0 0 [] [] zE zE zE [] [],bm 2 s)) 30 s
 |n+1,s=>iP L (cC L (di n)) (29 - n) s
end
section
variable {m0:NH} {L:List Tok} {vl:NV} {r:D4} {rest:List NV}
theorem ek (s:Rs):St L s (bh L s).2.2:=by
 unfold bh
 split
 ·rename_i h;exact (((cq L s).trans (ef h)).trans (bY L 30 _)).trans (bO _ _ _)
 ·exact cq L s
theorem Gk (hc:RC m0 L vl r):HB 162 m0 L vl r rest (eg L) 0:=by
 intro m s
 exact GS hc 30 (Nat.le_refl _)
theorem rv (hc:RC m0 L vl r) {m:NH} {s:Rs} (h0:Chg [] m0 m) (hd:RD m r vl s rest) (ha:s.a<=L.length) {pb:D4} (hpr:pb≠r) (hop:aC m pb) (hnp:¬aC m0 pb) {c0 c1 c2 c3:NV} {c:List NV} (hl:c.length=12)
 (hg:m.get pb=some (.cells true (c0::c1::c2::c3::ii 0::u64 0::u8 0:: .str []:: .nils::c))):
 ∃m',bI Try.prog S0 163 [.ptr r 0,.ptr pb 0] m (.tup []) m'/\∃u,m'.get pb=some (.cells true (c0::c1::c2:: .str (bh L s).1::((bh L s).2.1.l u++c)))/\RE m' (nU m) (bh L s).2.1 ((bh L s).2.1.l u)/\RD m' r vl (bh L s).2.2 rest/\Chg [r,pb] m m':=by
 refine WF.ex1 fun K hK=> ?_
 refine WF.of_wpG (fun _=>rfl) sF (L:= [(.a .e,.ptr pb 0),(.e,.ptr r 0)]) rfl ?_
 unfold Ck
 have hll:=hc.len
 have hrp:r≠pb:=fun e=>hpr e.symm
 simp (config:={maxSteps:=1000000}) (disch:=first|assumption|omega|exact ab (by omega)|exact aa (by assumption)|(simp only[ao]<;>omega)) only[go_sem,seval,ai]
 refine WF.use1H (ld hc h0 hd (by omega)) ?_
 rintro M1 ⟨hd1,hC1⟩
 have hst1:=cq L s
 unfold bh at hK
 generalize a9 L s=q at hK hd1 hst1
 obtain ⟨n,s1⟩:=q
 dsimp only at hK hd1 hst1
 have hg1:=(hC1.get hop (by simpa using hpr)).trans hg
 have ho1:=hC1.old hop
 simp (config:={maxSteps:=1000000}) (disch:=first|assumption|omega|exact ab (by omega)|exact aa (by assumption)|(simp only[ao]<;>omega)) only[go_sem,seval,hg1]
 generalize hM2:hp _ 0 M1=M2
 have hC2:Chg [pb] M1 M2:=by rw[←hM2];exact an rfl
 have hg2:M2.get pb=some (.cells true (c0::c1::c2:: .str n::ii 0::u64 0::u8 0:: .str []:: .nils::c)):=by rw[←hM2];exact (aQ ho1).trans ay
 have ho2:=hC2.old ho1
 have hd2:=hd1.chg hC2 (by simpa using hrp)
 have hC02:Chg [r,pb] m M2:=(hC1.weak (by simp)).trans hC2 (by simp)
 have hlim:=hst1.lim ha
 have hbase:∀{M},Chg [r,pb] m M->Chg [] m0 M:=fun h=>h0.trans h fun i hi ho=>by
  simp only[List.mem_cons,List.not_mem_nil,or_false] at hi
  rcases hi with rfl|rfl
  ·exact absurd ho hc.no
  ·exact absurd ho hnp
 refine WF.use1H (da hc (hbase hC02) hd2 [91] (by simp) (by omega)) ?_
 rintro M3 ⟨hd3,hC3⟩
 have hg3:=(hC3.get ho2 (by simpa using hpr)).trans hg2
 have ho3:=hC3.old ho2
 have hC03:Chg [r,pb] m M3:=hC02.trans hC3 (by intro i hi _;simp at hi ⊢;exact Or.inl hi)
 cases hb:a6 L [91] s1 with
 |true=>
  rw[hb,if_pos rfl] at hK hd3
  have hlt:=(bA hb).2
  simp (config:={maxSteps:=1000000}) (disch:=first|assumption|omega|exact ab (by omega)|exact aa (by assumption)|(simp only[ao]<;>omega)) only[go_sem,seval,ai]
  refine WF.useH (Gk hc (hbase hC03) hd3 hlt) ?_
  rintro v4 M4 ⟨⟨u,rfl,hx4⟩,hd4,hC4⟩
  have hst4:=bY L 30 (am s1)
  have hlim4:=hst4.lim hlt
  dsimp only at hK
  generalize hq:eg L (am s1)=q at hK hx4 hd4
  have hq':iJ L 30 (am s1)=q:=hq
  rw[hq'] at hlim4
  obtain ⟨x,s4⟩:=q
  dsimp only at hK hx4 hd4 hlim4
  have hg4:=(hC4.get ho3 (by simpa using hpr)).trans hg3
  have ho4:=hC4.old ho3
  have hxl:(x.l u).length=5:=rfl
  simp (config:={maxSteps:=1000000}) (disch:=first|assumption|omega|exact ab (by omega)|exact aa (by assumption)|(simp only[ao]<;>omega)) only[go_sem,seval,hg4,hxl,hl]
  generalize hM5:hp _ 0 M4=M5
  have hC5:Chg [pb] M4 M5:=by rw[←hM5];exact an rfl
  have hg5:M5.get pb=some (.cells true (c0::c1::c2:: .str n::(x.l u++c))):=by rw[←hM5];exact (aQ ho4).trans ay
  have ho5:=hC5.old ho4
  have hC04:Chg [r,pb] m M4:=hC03.trans hC4 (by intro i hi _;simp at hi ⊢;exact Or.inl hi)
  have hC05:Chg [r,pb] m M5:=hC04.trans hC5 (by simp)
  refine WF.use1H (fU hc (hbase hC05) (hd4.chg hC5 (by simpa using hrp)) [93] (by simp) (by omega)) ?_
  rintro M6 ⟨hd6,hC6⟩
  simp (config:={maxSteps:=1000000}) (disch:=first|assumption|omega|exact ab (by omega)|exact aa (by assumption)|(simp only[ao]<;>omega)) only[go_sem,seval,ai]
  refine hK _ ⟨u,(hC6.get ho5 (by simpa using hpr)).trans hg5, ?_,hd6,hC05.trans hC6 (by intro i hi _;simp at hi ⊢;exact Or.inl hi)⟩
  refine ((hx4.chg hC5 ?_).chg hC6 ?_).new fun i hi=>hC03.old hi
  ·intro i hi;simp only[List.mem_cons,List.not_mem_nil,or_false] at hi;subst hi;exact ho3
  ·intro i hi;simp only[List.mem_cons,List.not_mem_nil,or_false] at hi;subst hi;exact hd3.o
 |false=>
  rw[hb,if_neg Bool.false_ne_true] at hK hd3
  simp (config:={maxSteps:=1000000}) (disch:=first|assumption|omega|exact ab (by omega)|exact aa (by assumption)|(simp only[ao]<;>omega)) only[go_sem,seval,ai]
  exact hK _ ⟨.nils,hg3,Av _ _ 0 0 0 [],hd3,hC03⟩
end
end FR
open Go Nm Go.Proofs
namespace FR
set_option linter.unusedSimpArgs false
set_option linter.unusedVariables false
def Mu (m0:NH) (L:List Tok) (vl:NV) (r:D4) (rest:List NV) (S:Rs->Stm×Rs) (d:Nat):Prop:=∀{m:NH} {s:Rs},Chg [] m0 m->RD m r vl s rest->s.a<=L.length->
 ∃v m',bI Try.prog S0 135 [.ptr r 0,ii d] m v m'/\(∃w,v= .agg ((S s).1.l w)/\RS m' (nU m) (S s).1 ((S s).1.l w))/\RD m' r vl (S s).2 rest/\Chg [r] m m'
def MH (m0:NH) (L:List Tok) (vl:NV) (r:D4) (rest:List NV) (B:Rs->List Stm×Rs) (d:Nat):Prop:=∀{m:NH} {s:Rs},Chg [] m0 m->RD m r vl s rest->s.a<=L.length->
 ∃v m',bI Try.prog S0 88 [.ptr r 0,ii d] m v m'/\(∃C,SS m' (nU m) v (B s).1 C)/\RD m' r vl (B s).2 rest/\Chg [r] m m'
section
variable {m0:NH} {L:List Tok} {vl:NV} {r:D4} {rest:List NV}
theorem kO (d:Nat) (s:Rs):St L s (dy L d s):=by
 unfold dy
 split
 ·exact bU _ _ _
 ·exact St.refl _ _
theorem z9 (hc:RC m0 L vl r) {S:Rs->Stm×Rs} {d:Nat} (hst:∀s,St L s (S s).2) (hpr:∀s,s.e=0->s.a<(S s).2.a∨(S s).2.e≠0) (hS:d<=29->Mu m0 L vl r rest S d) (hd29:∀s:Rs,d=30->True) {m:NH} (h0:Chg [] m0 m) (horm:aC m r)
 {X:List Stm} {Z:Rs} {M:NH} {s:Rs} (hde:s.e≠0∨d<=29) (hd:RD M r vl s rest) (ha:s.a<=L.length) (hC:Chg [r] m M) (hE:fk L S (L.length+1) [] s=(X,Z))
 {t:Tm} (g1:NT.get D4.e t=some (.ptr r 0)) (g2:NT.get D4.e.a t=some (ii d)) (g3:NT.get D4.e.a.a t=some .nils) {Q:Out->Dyn->Prop}
 (hQ:∀t' M' v C,NT.get D4.e.a.a t'=some v->RD M' r vl Z rest->SS M' (nU m) v X C->Chg [r] m M'->Q (.exit 0) ⟨ak [] t', [],none,M'⟩):
 W Try.prog S0 none sa.loop ⟨t, [],none,M⟩ Q:=by
 refine W.loop (fun k D=>∃t M l s v C,D=⟨t, [],none,M⟩/\NT.get D4.e t=some (.ptr r 0)/\NT.get D4.e.a t=some (ii d)/\NT.get D4.e.a.a t=some v/\(s.e≠0∨d<=29)/\RD M r vl s rest/\bL m M v 21 C/\C.length=l.length/\(∀(j:Nat) (x:Stm) (c:List NV),l[j]? =some x->C[j]? =some c->RS M (fun i=>¬aC m i/\i∉ids v) x c)/\s.a<=L.length/\Chg [r] m M/\fk L S k l s=(X,Z)/\(L.length<k+s.a∨s.e≠0)/\l.length+k<=L.length+1) ?_ (L.length+1) _ ⟨t,M, [],s,.nils, [],rfl,g1,g2,g3,hde,hd,bL.nil,rfl,by simp,ha,hC,hE,Or.inl (by omega),by simp⟩
 clear hde hd ha hC hE g1 g2 g3
 rintro k D ⟨t,M,l,s,v,C,rfl,g1,g2,g3,hde,hd,hv,hcl,hR,ha,hC,hE,hf,hlk⟩
 apply aK
 unfold sa
 change wp _ _ _ _ ⟨ak [] t, [],none,M⟩ _
 have hll:=hc.len
 have hdg:=hd.g
 by_cases he:s.e=0
 ·obtain ⟨f,rfl⟩:∃f',k=f'+1:=⟨k - 1,by rcases hf with h|h<;>omega⟩
  rw[fk,if_neg (by omega)] at hE
  simp (config:={maxSteps:=1000000}) (disch:=first|assumption|omega|exact ab (by omega)|exact aa (by assumption)|(simp only[ao]<;>omega)) only[go_sem,seval,g1,g2,g3,hdg]
  refine WF.use1H (da hc (hc.chg h0 hC) hd [125] (by simp) (by omega)) ?_
  rintro M2 ⟨hd2,hC2⟩
  have hrv:∀i∈ids v,i∉ [r]:=fun i hi h=>by
   simp only[List.mem_cons,List.not_mem_nil,or_false] at h;subst h;exact hv.new _ hi horm
  have hv2:=hv.chg hC2 hrv
  have hC02:Chg [r] m M2:=hC.trans hC2 fun _ h _=>h
  have hst2:bi (fun i=>¬aC m i/\i∉ids v) M M2:=bi.of hC2 fun i hi hs=>by
   simp only[List.mem_cons,List.not_mem_nil,or_false] at hs;subst hs;exact hi.1 horm
  cases hb:a6 L [125] s with
  |true=>
   rw[hb,if_pos rfl] at hE hd2
   injection hE with e1 e2
   subst e1 e2
   simp (config:={maxSteps:=1000000}) (disch:=first|assumption|omega|exact ab (by omega)|exact aa (by assumption)|(simp only[ao]<;>omega)) only[go_sem,seval,g1,g2,g3,ai]
   exact hQ _ M2 v C (by simp only[go_sem,seval,g3]) hd2 ⟨hv2.sl,fun i hi=>hv2.new i hi,hcl,fun j x c h1 h2=>((hR j x c h1 h2).stays hst2).weak fun i hi=>hi.1⟩ hC02
  |false=>
   rw[hb,if_neg Bool.false_ne_true] at hE hd2
   simp (config:={maxSteps:=1000000}) (disch:=first|assumption|omega|exact ab (by omega)|exact aa (by assumption)|(simp only[ao]<;>omega)) only[go_sem,seval,g1,g2,g3,ai]
   refine WF.useH (hS (by omega) (hc.chg h0 hC02) hd2 ha) ?_
   rintro v3 M3 ⟨⟨w,rfl,hx3⟩,hd3,hC3⟩
   have hlim:=(hst s).lim ha
   have hpr':=hpr s he
   generalize S s=q at hE hx3 hd3 hlim hpr'
   obtain ⟨x,s3⟩:=q
   dsimp only at hE hx3 hd3 hlim hpr'
   have hxl:(x.l w).length=21:=rfl
   have hxl':(x.l w).take 21=x.l w:=rfl
   simp (config:={maxSteps:=1000000}) (disch:=first|assumption|omega|exact ab (by omega)|exact aa (by assumption)|(simp only[ao]<;>omega)) only[go_sem,seval,g1,g2,g3,hxl]
   have hC4:Chg [] M3 (hp [(.n 0,.cells true (x.l w))] 1 M3):=an rfl
   have hv3:=hv2.chg hC3 hrv
   have hC03:Chg [r] m M3:=hC02.trans hC3 fun _ h _=>h
   refine gy (cs:=x.l w) (hv3.chg hC4 fun _ _=>by simp) ax (ab (by omega)) hxl (fun i hi=>hC4.old (hC03.old hi)) (by omega) (by omega) ?_
   intro v5 M5 hv5 hC5 hF5
   generalize hM4:hp [(.n 0,.cells true (x.l w))] 1 M3=M4 at hC4 hC5 hF5
   have hC34:Chg [r] M2 M4:=hC3.trans hC4 (by simp)
   have hd5:RD M5 r vl s3 rest:=(hd3.chg hC4 (by simp)).chg hC5 fun h=>hv.new _ h horm
   have hC05:Chg [r] m M5:=(hC02.trans hC34 fun _ h _=>h).trans hC5 fun i hi ho=>absurd ho (hv.new i hi)
   have hlen5:(l++ [x]).length=l.length+1:=by simp
   simp (config:={maxSteps:=1000000}) (disch:=first|assumption|omega|exact ab (by omega)|exact aa (by assumption)|(simp only[ao]<;>omega)) only[go_sem,seval,g1,g2,g3]
   refine ⟨f,by omega,_,M5,l++ [x],s3,v5,C++ [x.l w],by rfl,by simp only[go_sem,seval,g1],by simp only[go_sem,seval,g2],by simp only[go_sem,seval], ?_,hd5,hv5,by simp[hcl], ?_,hlim,hC05,hE, ?_,by omega⟩
   ·rcases hde with h|h
    ·exact absurd he h
    ·exact Or.inr h
   ·have hold:∀(j:Nat) (y:Stm) (c:List NV),l[j]? =some y->C[j]? =some c->RS M5 (fun i=>¬aC m i/\i∉ids v5) y c:=fun j y c h1 h2=>by
     have a1:=((hR j y c h1 h2).stays hst2).stays (m':=M4) (bi.of hC34 fun i hi hs=>by
      simp only[List.mem_cons,List.not_mem_nil,or_false] at hs;subst hs;exact hi.1 horm)
     have a2:=a1.old.stays (m':=M5) (bi.of hC5 fun i hi hs=>hi.1.2 hs)
     exact a2.weak fun i hi=>⟨hi.1.1,fun h=>(hF5 i h).elim hi.1.2 fun q=>q hi.2⟩
    have hnew:RS M5 (fun i=>¬aC m i/\i∉ids v5) x (x.l w):=by
     have a1:RS M4 (nU M2) x (x.l w):=hx3.chg hC4 (by simp)
     have a2:=a1.old.stays (m':=M5) (bi.of hC5 fun i hi hs=>hi.1 (hv2.sl.old i hs))
     exact a2.weak fun i hi=>⟨fun h=>hi.1 (hC02.old h),fun h=>(hF5 i h).elim (fun q=>hi.1 (hv2.sl.old i q)) fun q=>q hi.2⟩
    intro j y c h1 h2
    rcases Nat.lt_or_ge j l.length with h|h
    ·rw[List.getElem?_append_left h] at h1
     rw[List.getElem?_append_left (by omega)] at h2
     exact hold j y c h1 h2
    ·rw[List.getElem?_append_right h] at h1
     rw[List.getElem?_append_right (by omega),hcl] at h2
     cases hj:j - l.length with
     |zero=>rw[hj] at h1 h2;cases h1;cases h2;exact hnew
     |succ n=>rw[hj] at h1;simp at h1
   ·rcases hpr' with h|h
    ·left;rcases hf with q|q<;>omega
    ·exact Or.inr h
 ·have hde':decide ((s.e:Int)=0)=false:=decide_eq_false (by omega)
  have hE':(l,s)=(X,Z):=by
   cases k with
   |zero=>exact hE
   |succ k=>rw[fk,if_pos he] at hE;exact hE
  injection hE' with e1 e2
  subst e1 e2
  simp (config:={maxSteps:=1000000}) (disch:=first|assumption|omega|exact ab (by omega)|exact aa (by assumption)|(simp only[ao]<;>omega)) only[go_sem,seval,g1,g2,g3,hdg,hde']
  exact hQ _ M v C (by simp only[go_sem,seval,g3]) hd ⟨hv.sl,fun i hi=>hv.new i hi,hcl,fun j x c h1 h2=>(hR j x c h1 h2).weak fun i hi=>hi.1⟩ hC
theorem yW (hc:RC m0 L vl r) {S:Rs->Stm×Rs} {d:Nat} (hst:∀s,St L s (S s).2) (hpr:∀s,s.e=0->s.a<(S s).2.a∨(S s).2.e≠0) (hS:d<=29->Mu m0 L vl r rest S d):MH m0 L vl r rest (iP L S d) d:=by
 intro m s h0 hd ha
 refine WF.ex fun K hK=> ?_
 refine WF.of_wpG (fun _=>rfl) yB (L:= [(.a .e,ii d),(.e,.ptr r 0)]) rfl ?_
 unfold HT
 have hll:=hc.len
 have hdg:=hd.g
 refine Mr (fun D=>D=⟨ak [(D4.e.a.a,.nils),(D4.e.f,.nils),(D4.e.a,ii d),(D4.e,.ptr r 0)] .leaf, [],none,m⟩) (fun R hR=> ?_) ?_
 ·simp (disch:=first|assumption|omega) only[go_sem,seval,ai]
  exact hR _ rfl
 rintro D rfl
 refine s7 (fun D=>∃t M,D=⟨t, [],none,M⟩/\NT.get D4.e t=some (.ptr r 0)/\NT.get D4.e.a t=some (ii d)/\NT.get D4.e.a.a t=some .nils/\RD M r vl (dy L d s) rest/\Chg [r] m M) (fun R hR=> ?_) ?_
 ·have no:∀(t:Tm) (M:NH),NT.get D4.e t=some (.ptr r 0)->NT.get D4.e.a t=some (ii d)->NT.get D4.e.a.a t=some .nils->dy L d s=s->Chg [] m M->R ⟨t, [],none,M⟩:=fun t M q1 q2 q3 q4 q5=>hR _ ⟨t,M,rfl,q1,q2,q3,by rw[q4];exact hd.chg q5 (by simp),q5.weak (by simp)⟩
  by_cases he:s.e=0
  ·by_cases h29:29<d
   ·obtain ⟨M1,hr1,hC1⟩:=iO hc h0 hd
    have hd1:=hd.chg hC1 (by simp)
    obtain ⟨M2,hr2,hC2⟩:=iO hc (h0.trans hC1 (by simp)) hd1
    have hd2:=hd1.chg hC2 (by simp)
    have hl0:(aO L s.a).l[0]? =some (ii (aO L s.a).k):=rfl
    have hl1:(aO L s.a).l[1]? =some (.str (aO L s.a).t):=rfl
    by_cases hk:(aO L s.a).k=3
    ·by_cases ht:(aO L s.a).t= [123]
     ·simp (disch:=first|assumption|omega) only[go_sem,seval,hdg,hr1.wf',hr2.wf',hl0,hl1]
      refine WF.use1 (gL hd2 11) ?_
      rintro M3 ⟨hd3,hC3⟩
      simp (disch:=first|assumption|omega) only[go_sem,seval]
      refine hR _ ⟨_,M3,rfl,by simp only[go_sem,seval],by simp only[go_sem,seval],by simp only[go_sem,seval], ?_,((hC1.trans hC2 (by simp)).weak (by simp)).trans hC3 fun _ h _=>h⟩
      rw[dy,if_pos ⟨he,h29,hk,ht⟩];exact hd3
     ·simp (disch:=first|assumption|omega) only[go_sem,seval,hdg,hr1.wf',hr2.wf',hl0,hl1]
      exact no _ _ (by simp only[go_sem,seval]) (by simp only[go_sem,seval]) (by simp only[go_sem,seval]) (by rw[dy,if_neg (fun h=>ht h.2.2.2)]) (hC1.trans hC2 (by simp))
    ·simp (disch:=first|assumption|omega) only[go_sem,seval,hdg,hr1.wf',hr2.wf',hl0,hl1]
     exact no _ _ (by simp only[go_sem,seval]) (by simp only[go_sem,seval]) (by simp only[go_sem,seval]) (by rw[dy,if_neg (fun h=>hk h.2.2.1)]) hC1
   ·simp (disch:=first|assumption|omega) only[go_sem,seval,hdg]
    exact no _ _ (by simp only[go_sem,seval]) (by simp only[go_sem,seval]) (by simp only[go_sem,seval]) (by rw[dy,if_neg (fun h=>h29 h.2.1)]) (Chg.refl m)
  ·have hde':decide ((s.e:Int)=0)=false:=decide_eq_false (by omega)
   simp (disch:=first|assumption|omega) only[go_sem,seval,hdg,hde']
   exact no _ _ (by simp only[go_sem,seval]) (by simp only[go_sem,seval]) (by simp only[go_sem,seval]) (by rw[dy,if_neg (fun h=>he h.1)]) (Chg.refl m)
 rintro D ⟨t,M,rfl,g1,g2,g3,hdM,hCM⟩
 change wp _ _ _ _ ⟨ak [] t, [],none,M⟩ _
 have hst1:=(kO (L:=L) d s).lim ha
 have hst2:=(bO L [123] (dy L d s)).lim hst1
 have hX:fk L S (L.length+1) [] (a7 L [123] (dy L d s))=((iP L S d s).1,(iP L S d s).2):=rfl
 have hdeep:(a7 L [123] (dy L d s)).e≠0∨d<=29:=by
  rcases Nat.lt_or_ge 29 d with h|h
  ·left
   have hff:∀e (s:Rs),e≠0->(bm e s).e≠0:=fun e s h=>by unfold bm;split;exact h;assumption
   by_cases he:s.e=0
   ·by_cases hk:(aO L s.a).k=3/\(aO L s.a).t= [123]
    ·have e1:dy L d s=bm 11 s:=by rw[dy,if_pos ⟨he,h,hk.1,hk.2⟩]
     rw[e1]
     intro q
     exact hff 11 s (by omega) ((bO L [123] _).zero q)
    ·have e1:dy L d s=s:=by rw[dy,if_neg (fun h=>hk ⟨h.2.2.1,h.2.2.2⟩)]
     rw[e1]
     have e2:a6 L [123] s=false:=decide_eq_false fun q=>hk ⟨q.2.1,q.2.2⟩
     rw[a7,e2,if_neg Bool.false_ne_true]
     exact hff 2 s (by omega)
   ·intro q
    exact he ((kO (L:=L) d s).zero ((bO L [123] _).zero q))
  ·exact Or.inr h
 generalize (iP L S d s).1=X at hX hK
 generalize (iP L S d s).2=Z at hX hK
 simp (disch:=first|assumption|omega) only[go_sem,seval,g1,g2,g3]
 refine WF.use1 (fU hc (hc.chg h0 hCM) hdM [123] (by simp) (by omega)) ?_
 rintro M2 ⟨hd2,hC2⟩
 have hC02:Chg [r] m M2:=hCM.trans hC2 fun _ h _=>h
 simp (disch:=first|assumption|omega) only[go_sem,seval,g1,g2,g3]
 refine z9 hc hst hpr hS (fun _ _=>trivial) h0 hd.o hdeep hd2 hst2 hC02 hX (by simp only[go_sem,seval,g1]) (by simp only[go_sem,seval,g2]) (by simp only[go_sem,seval,g3]) ?_
 intro t' M' v C q1 q2 q3 q4
 simp (disch:=first|assumption|omega) only[go_sem,seval,q1]
 exact hK _ _ ⟨⟨C,q3⟩,q2,q4⟩
end
end FR
open Go Nm Go.Proofs
namespace FR
set_option linter.unusedSimpArgs false
set_option linter.unusedVariables false
abbrev TB (m:NH) (b1 b2:D4):D4->Prop:=fun i=>¬aC m i/\i≠b1/\i≠b2
structure SC (m:NH) (r b1 b2:D4) (vl:NV) (rest z:List NV) (M:NH) (s:Rs) (c:List NV):Prop where
 hd:RD M r vl s rest
 g2:M.get b2=some (.cells true c)
 o2:aC M b2
 g1:M.get b1=some (.cells true z)
 o1:aC M b1
 hC:Chg [r] m M
section
variable {m0:NH} {L:List Tok} {vl:NV} {r b1 b2:D4} {rest z:List NV} {m M M':NH} {s s':Rs} {c c':List NV} {l:List (AK×NO)} {k:Nat}
theorem SC.call (h:SC m r b1 b2 vl rest z M s c) (h1:b1≠r) (h2:b2≠r) (hC:Chg [r] M M') (hd:RD M' r vl s' rest):SC m r b1 b2 vl rest z M' s' c:=
 ⟨hd,(hC.get h.o2 (by simpa using h2)).trans h.g2,hC.old h.o2,(hC.get h.o1 (by simpa using h1)).trans h.g1,hC.old h.o1,h.hC.trans hC fun _ h _=>h⟩
theorem SC.grow (h:SC m r b1 b2 vl rest z M s c) (hC:Chg [] M M'):SC m r b1 b2 vl rest z M' s c:=
 ⟨h.hd.chg hC (by simp),(hC.get h.o2 (by simp)).trans h.g2,hC.old h.o2,(hC.get h.o1 (by simp)).trans h.g1,hC.old h.o1,h.hC.trans hC (by simp)⟩
theorem SC.put (h:SC m r b1 b2 vl rest z M s c) (h2:b2≠r) (h12:b1≠b2) (hn:¬aC m b2) (hl:∀i∈aU l,i=b2):SC m r b1 b2 vl rest z (hp ((.o b2,.cells true c')::l) k M) s c':=by
 have hC:Chg [b2] M (hp ((.o b2,.cells true c')::l) k M):=(an rfl).weak fun i hi _=>by
  simp only[aU,List.mem_cons] at hi ⊢
  rcases hi with rfl|hi
  ·exact Or.inl rfl
  ·exact Or.inl (hl i hi)
 exact ⟨h.hd.chg hC (by simpa using h2.symm),(aQ h.o2).trans ay,hC.old h.o2,(hC.get h.o1 (by simpa using h12)).trans h.g1,hC.old h.o1,h.hC.trans hC fun i hi ho=>by
  simp only[List.mem_cons,List.not_mem_nil,or_false] at hi;subst hi;exact absurd ho hn⟩
theorem SC.place (h:SC m r b1 b2 vl rest z M s c) (h1:b1≠r) (h12:b1≠b2) (hn:¬aC m b2) (hC:Chg [r,b2] M M') (hd:RD M' r vl s' rest) (hg:M'.get b2=some (.cells true c')):SC m r b1 b2 vl rest z M' s' c':=
 ⟨hd,hg,hC.old h.o2,(hC.get h.o1 (by simp;exact ⟨h1,h12⟩)).trans h.g1,hC.old h.o1,h.hC.trans hC fun i hi ho=>by
  simp only[List.mem_cons,List.not_mem_nil,or_false] at hi
  rcases hi with rfl|rfl
  ·simp
  ·exact absurd ho hn⟩
theorem dO (hr:aC m r) (hC:Chg [r] M M'):bi (TB m b1 b2) M M':=bi.of hC fun i hi hs=>by
 simp only[List.mem_cons,List.not_mem_nil,or_false] at hs;subst hs;exact hi.1 hr
theorem cN (hl:∀i∈aU l,i=b2):bi (TB m b1 b2) M (hp l k M):=bi.of (an rfl) fun i hi hs=>hi.2.2 (hl i hs)
theorem SC.tb (h:SC m r b1 b2 vl rest z M s c):∀i,nU M i->TB m b1 b2 i:=fun i hi=>⟨fun q=>hi (h.hC.old q),fun q=>hi (q▸h.o1),fun q=>hi (q▸h.o2)⟩
theorem SS.weak {m:NH} {T T':D4->Prop} (hT':∀i,T i->T' i) {v:NV} {l:List Stm} {C:List (List NV)} (h:SS m T v l C):SS m T' v l C:=⟨h.sl,fun i hi=>hT' i (h.hT i hi),h.len,fun i x c a b=>(h.R i x c a b).weak hT'⟩
theorem sv (m:NH) (T:D4->Prop):SS m T .nils [] []:=⟨Sl.nil,by simp[ids],rfl,by simp⟩
theorem RS.of {m:NH} {T:D4->Prop} {k a:Int} {nm ce:List Nat} {i x y:Ex} {b e:List Stm} {ui ux uy vb ve:NV} (hi:RE m T i (i.l ui)) (hx:RE m T x (x.l ux)) (hy:RE m T y (y.l uy)) {B E:List (List NV)} (hb:SS m T vb b B) (he:SS m T ve e E):
 RS m T (.mk k a nm ce i x y b e) ((Stm.mk k a nm ce i x y b e).l ⟨ui,ux,uy,vb,ve⟩):= .mk hi hx hy hb.sl hb.hT hb.len hb.R he.sl he.hT he.len he.R
theorem gG (m:NH) (T:D4->Prop):RE m T zE (zE.l .nils):=Av m T 0 0 0 []
abbrev dM (k p:Int):List NV:= [ii k,ii p,.str [],.str [],ii 0,u64 0,u8 0,.str [],.nils,ii 0,u64 0,u8 0,.str [],.nils,ii 0,u64 0,u8 0,.str [],.nils,.nils,.nils]
end
section
variable {m0:NH} {L:List Tok} {vl:NV} {r:D4} {rest:List NV}
set_option maxHeartbeats 4000000 in
theorem Hl (hc:RC m0 L vl r) {B:Rs->List Stm×Rs} {d:Nat} (hst:∀s,St L s (B s).2) (hB:MH m0 L vl r rest B (d+1)) (hd29:d<=29):Mu m0 L vl r rest (cC L B) d:=by
 intro m s h0 hd ha
 refine WF.ex fun K hK=> ?_
 refine WF.of_wpG (fun _=>rfl) tV (L:= [(.a .e,ii d),(.e,.ptr r 0)]) rfl ?_
 unfold BG
 have hll:=hc.len
 refine Mp (fun D=>∃t M b1 b2,D=⟨t, [],none,M⟩/\SC m r b1 b2 vl rest (dM 0 0) M s (dM 0 (aO L s.a).p)/\¬aC m b1/\¬aC m b2/\b1≠b2/\NT.get D4.e t=some (.ptr r 0)/\NT.get D4.e.a t=some (ii d)/\NT.get D4.e.f t=some (.ptr b1 0)/\NT.get D4.e.a.a t=some (.ptr b2 0)/\NT.get D4.e.a.b t=some (.bool true)) (fun R hR=> ?_) ?_
 ·simp (config:={maxSteps:=1000000}) (disch:=first|assumption|omega|exact ab (by omega)|exact aa (by assumption)|(simp only[ao]<;>omega)) only[go_sem,seval]
  generalize hM1:hp _ 1 m=M1
  have hC1:Chg [] m M1:=by rw[←hM1];exact an rfl
  have g1:M1.get (na m 0)=some (.cells true (dM 0 0)):=by rw[←hM1];exact ax
  have o1:aC M1 (na m 0):=by rw[←hM1];exact ab (by omega)
  refine WF.use1H (iO hc (h0.trans hC1 (by simp)) (hd.chg hC1 (by simp))) ?_
  intro M2 hC2
  have hl3:(aO L s.a).l[3]? =some (ii (aO L s.a).p):=rfl
  simp (config:={maxSteps:=1000000}) (disch:=first|assumption|omega|exact ab (by omega)|exact aa (by assumption)|(simp only[ao]<;>omega)) only[go_sem,seval,hl3]
  generalize hM3:hp _ 1 M2=M3
  have hC3:Chg [] M2 M3:=by rw[←hM3];exact an rfl
  have hC02:=hC1.trans hC2 (by simp)
  have hC03:=hC02.trans hC3 (by simp)
  have o12:=hC2.old o1
  refine hR _ ⟨_,M3,na m 0,na M2 0,rfl,⟨hd.chg hC03 (by simp), ?_, ?_,(hC3.get o12 (by simp)).trans ((hC2.get o1 (by simp)).trans g1),hC3.old o12,hC03.weak (by simp)⟩,aI,fun h=>aI (hC02.old h),fun e=>o12.ne 0 e,by simp only[go_sem,seval],by simp only[go_sem,seval],by simp only[go_sem,seval],by simp only[go_sem,seval],by simp only[go_sem,seval]⟩
  ·rw[←hM3];exact ax
  ·rw[←hM3];exact ab (by omega)
 rintro D ⟨t,M,b1,b2,rfl,hs,hn1,hn2,h12,g1,g2,g3,g4,g5⟩
 change wp _ _ _ _ ⟨ak [] t, [],none,M⟩ _
 have hr1:b1≠r:=fun e=>hn1 (e▸hd.o)
 have hr2:b2≠r:=fun e=>hn2 (e▸hd.o)
 have hr2':r≠b2:=fun e=>hr2 e.symm
 have hnb2:¬aC m0 b2:=fun h=>hn2 (h0.old h)
 have hro:=hd.o
 refine s7 (fun D=>∃t M x w s' q,D=⟨t, [],none,M⟩/\SC m r b1 b2 vl rest (dM 0 0) M s' (x.l w)/\RS M (TB m b1 b2) x (x.l w)/\(x,if q then a7 L [59] s' else s')=cC L B s/\s'.a<=L.length/\NT.get D4.e t=some (.ptr r 0)/\NT.get D4.e.f t=some (.ptr b1 0)/\NT.get D4.e.a.a t=some (.ptr b2 0)/\NT.get D4.e.a.b t=some (.bool q)) (fun R hR=> ?_) ?_
 ·have hbase:∀{M:NH} {s:Rs} {c:List NV},SC m r b1 b2 vl rest (dM 0 0) M s c->Chg [] m0 M:=fun h=>hc.chg h0 h.hC
  have hput:∀{M:NH} {s:Rs} {c c':List NV} {l:List (AK×NO)} {k:Nat},SC m r b1 b2 vl rest (dM 0 0) M s c->(∀i∈aU l,i=b2)->SC m r b1 b2 vl rest (dM 0 0) (hp ((.o b2,.cells true c')::l) k M) s c':=fun h hl=>h.put hr2 h12 hn2 hl
  generalize hpp:((aO L s.a).p:Int)=p at hs
  have fin:∀{t:Tm} {M:NH} {x:Stm} {w:SV} {s':Rs} {q:Bool},SC m r b1 b2 vl rest (dM 0 0) M s' (x.l w)->RS M (TB m b1 b2) x (x.l w)->(x,if q then a7 L [59] s' else s')=cC L B s->s'.a<=L.length->NT.get D4.e t=some (.ptr r 0)->NT.get D4.e.f t=some (.ptr b1 0)->NT.get D4.e.a.a t=some (.ptr b2 0)->NT.get D4.e.a.b t=some (.bool q)->R ⟨t, [],none,M⟩:=fun h1 h2 h3 h4 h5 h6 h7 h8=>hR _ ⟨_,_,_,_,_,_,rfl,h1,h2,h3,h4,h5,h6,h7,h8⟩
  rw[qJ]
  simp (config:={maxSteps:=1000000}) (disch:=first|assumption|omega|exact ab (by omega)|exact aa (by assumption)|(simp only[ao]<;>omega)) only[go_sem,seval,g1,g2,g3,g4,g5,ai]
  refine WF.use1H (da hc (hbase hs) hs.hd [115,101,116] (by simp) (by omega)) ?_
  rintro M0 ⟨hd0,hC0⟩
  cases hb0:a6 L [115,101,116] s with
  |true=>
   obtain ⟨he,hlt⟩:=bA hb0
   have hlim:(am s).a<=L.length:=hlt
   rw[hb0,if_pos rfl] at hd0
   replace hs:=hs.call hr1 hr2 hC0 hd0
   have hg2:=hs.g2
   have ho2:=hs.o2
   simp (config:={maxSteps:=1000000}) (disch:=first|assumption|omega|exact ab (by omega)|exact aa (by assumption)|(simp only[ao]<;>omega)) only[go_sem,seval,g1,g2,g3,g4,g5,hg2,ai]
   refine WF.use1H (ld hc (hbase hs) hs.hd (by omega)) ?_
   rintro N0_1 ⟨hd,hC⟩
   replace hs:=hs.call hr1 hr2 hC hd
   replace hlim:=(cq L _).lim hlim
   generalize hqs0_2:(a9 L (am s)).2=s0_2 at hs hlim
   generalize hqn0_3:(a9 L (am s)).1=n0_3
   have hg2:=hs.g2
   have ho2:=hs.o2
   simp (config:={maxSteps:=1000000}) (disch:=first|assumption|omega|exact ab (by omega)|exact aa (by assumption)|(simp only[ao]<;>omega)) only[go_sem,seval,g1,g2,g3,g4,g5,hg2]
   generalize hMg:hp _ 0 _=M0_4
   have hs':SC m r b1 b2 vl rest (dM 0 0) M0_4 s0_2 [ii 0,ii p,.str n0_3,.str [],ii 0,u64 0,u8 0,.str [],.nils,ii 0,u64 0,u8 0,.str [],.nils,ii 0,u64 0,u8 0,.str [],.nils,.nils,.nils]:=by rw[←hMg];exact hput hs (by simp[aU])
   clear hMg
   replace hs:=hs'
   refine WF.useH (Gk hc (hbase hs) hs.hd hlim) ?_
   rintro v N0_5 ⟨⟨u0_6,rfl,hx⟩,hd,hC⟩
   have tX:=hx.weak hs.tb
   replace hs:=hs.call hr1 hr2 hC hd
   replace hlim:(eg L s0_2).2.a<=L.length:=(bY L 30 _).lim hlim
   generalize hqs0_8:(eg L s0_2).2=s0_8 at hs hlim
   generalize hqx0_7:(eg L s0_2).1=x0_7 at tX
   clear hx hd
   have hxl:(x0_7.l u0_6).length=5:=rfl
   have hg2:=hs.g2
   have ho2:=hs.o2
   simp (config:={maxSteps:=1000000}) (disch:=first|assumption|omega|exact ab (by omega)|exact aa (by assumption)|(simp only[ao]<;>omega)) only[go_sem,seval,g1,g2,g3,g4,g5,hg2]
   generalize hMg:hp _ 0 _=M0_9
   have hs':SC m r b1 b2 vl rest (dM 0 0) M0_9 s0_8 [ii 0,ii p,.str n0_3,.str [],ii 0,u64 0,u8 0,.str [],.nils,ii x0_7.k,u64 x0_7.n,u8 x0_7.o,.str x0_7.s,u0_6,ii 0,u64 0,u8 0,.str [],.nils,.nils,.nils]:=by rw[←hMg];exact hput hs (by simp[aU])
   replace tX:=tX.stays (m':=M0_9) (by rw[←hMg];exact cN (by simp[aU]))
   clear hMg
   replace hs:=hs'
   refine fin (x:= .mk 0 p n0_3 [] zE x0_7 zE [] []) (w:=⟨.nils,u0_6,.nils,.nils,.nils⟩) (s':=s0_8) (q:=true) hs (RS.of (gG _ _) tX (gG _ _) (sv _ _) (sv _ _)) ?_ hlim (by simp only[go_sem,seval,g1]) (by simp only[go_sem,seval,g3]) (by simp only[go_sem,seval,g4]) (by simp only[go_sem,seval,g5])
   rw[cC,if_pos hb0,hpp]
   subst hqx0_7 hqs0_8 hqn0_3 hqs0_2
   rfl
  |false=>
  have ne0:¬(a6 L [115,101,116] s=true):=by rw[hb0];exact Bool.false_ne_true
  rw[hb0,if_neg Bool.false_ne_true] at hd0
  replace hs:=hs.call hr1 hr2 hC0 hd0
  simp (config:={maxSteps:=1000000}) (disch:=first|assumption|omega|exact ab (by omega)|exact aa (by assumption)|(simp only[ao]<;>omega)) only[go_sem,seval,g1,g2,g3,g4,g5,ai]
  refine WF.use1H (da hc (hbase hs) hs.hd [108,111,97,100] (by simp) (by omega)) ?_
  rintro M1 ⟨hd1,hC1⟩
  cases hb1:a6 L [108,111,97,100] s with
  |true=>
   obtain ⟨he,hlt⟩:=bA hb1
   have hlim:(am s).a<=L.length:=hlt
   rw[hb1,if_pos rfl] at hd1
   replace hs:=hs.call hr1 hr2 hC1 hd1
   have hg2:=hs.g2
   have ho2:=hs.o2
   simp (config:={maxSteps:=1000000}) (disch:=first|assumption|omega|exact ab (by omega)|exact aa (by assumption)|(simp only[ao]<;>omega)) only[go_sem,seval,g1,g2,g3,g4,g5,hg2]
   generalize hMg:hp _ 0 _=M1_1
   have hs':SC m r b1 b2 vl rest (dM 0 0) M1_1 (am s) [ii 1,ii p,.str [],.str [],ii 0,u64 0,u8 0,.str [],.nils,ii 0,u64 0,u8 0,.str [],.nils,ii 0,u64 0,u8 0,.str [],.nils,.nils,.nils]:=by rw[←hMg];exact hput hs (by simp[aU])
   clear hMg
   replace hs:=hs'
   refine WF.use1H (ld hc (hbase hs) hs.hd (by omega)) ?_
   rintro N1_2 ⟨hd,hC⟩
   replace hs:=hs.call hr1 hr2 hC hd
   replace hlim:=(cq L _).lim hlim
   generalize hqs1_3:(a9 L (am s)).2=s1_3 at hs hlim
   generalize hqn1_4:(a9 L (am s)).1=n1_4
   have hg2:=hs.g2
   have ho2:=hs.o2
   simp (config:={maxSteps:=1000000}) (disch:=first|assumption|omega|exact ab (by omega)|exact aa (by assumption)|(simp only[ao]<;>omega)) only[go_sem,seval,g1,g2,g3,g4,g5,hg2]
   generalize hMg:hp _ 0 _=M1_5
   have hs':SC m r b1 b2 vl rest (dM 0 0) M1_5 s1_3 [ii 1,ii p,.str n1_4,.str [],ii 0,u64 0,u8 0,.str [],.nils,ii 0,u64 0,u8 0,.str [],.nils,ii 0,u64 0,u8 0,.str [],.nils,.nils,.nils]:=by rw[←hMg];exact hput hs (by simp[aU])
   clear hMg
   replace hs:=hs'
   refine WF.use1 (rv hc (hbase hs) hs.hd hlim hr2 hs.o2 hnb2 (by rfl) hs.g2) ?_
   rintro N1_6 ⟨u1_7,hg,hx,hd,hC⟩
   have tI:=hx.weak hs.tb
   replace hs:=hs.place hr1 h12 hn2 hC hd hg
   replace hlim:=(ek (L:=L) s1_3).lim hlim
   generalize hqs1_9:(bh L s1_3).2.2=s1_9 at hs hlim
   generalize hqx1_8:(bh L s1_3).2.1=x1_8 at hs tI
   generalize hqn1_10:(bh L s1_3).1=n1_10 at hs
   clear hx hd hg
   have hg2:=hs.g2
   have ho2:=hs.o2
   simp (config:={maxSteps:=1000000}) (disch:=first|assumption|omega|exact ab (by omega)|exact aa (by assumption)|(simp only[ao]<;>omega)) only[go_sem,seval,g1,g2,g3,g4,g5,hg2,ai]
   refine fin (x:= .mk 1 p n1_4 n1_10 x1_8 zE zE [] []) (w:=⟨u1_7,.nils,.nils,.nils,.nils⟩) (s':=s1_9) (q:=true) hs (RS.of tI (gG _ _) (gG _ _) (sv _ _) (sv _ _)) ?_ hlim (by simp only[go_sem,seval,g1]) (by simp only[go_sem,seval,g3]) (by simp only[go_sem,seval,g4]) (by simp only[go_sem,seval,g5])
   rw[cC,if_neg ne0,if_pos hb1,hpp]
   subst hqn1_10 hqx1_8 hqs1_9 hqn1_4 hqs1_3
   rfl
  |false=>
  have ne1:¬(a6 L [108,111,97,100] s=true):=by rw[hb1];exact Bool.false_ne_true
  rw[hb1,if_neg Bool.false_ne_true] at hd1
  replace hs:=hs.call hr1 hr2 hC1 hd1
  simp (config:={maxSteps:=1000000}) (disch:=first|assumption|omega|exact ab (by omega)|exact aa (by assumption)|(simp only[ao]<;>omega)) only[go_sem,seval,g1,g2,g3,g4,g5,ai]
  refine WF.use1H (da hc (hbase hs) hs.hd [115,116,111,114,101] (by simp) (by omega)) ?_
  rintro M2 ⟨hd2,hC2⟩
  cases hb2:a6 L [115,116,111,114,101] s with
  |true=>
   obtain ⟨he,hlt⟩:=bA hb2
   have hlim:(am s).a<=L.length:=hlt
   rw[hb2,if_pos rfl] at hd2
   replace hs:=hs.call hr1 hr2 hC2 hd2
   have hg2:=hs.g2
   have ho2:=hs.o2
   simp (config:={maxSteps:=1000000}) (disch:=first|assumption|omega|exact ab (by omega)|exact aa (by assumption)|(simp only[ao]<;>omega)) only[go_sem,seval,g1,g2,g3,g4,g5,hg2]
   generalize hMg:hp _ 0 _=M2_1
   have hs':SC m r b1 b2 vl rest (dM 0 0) M2_1 (am s) [ii 2,ii p,.str [],.str [],ii 0,u64 0,u8 0,.str [],.nils,ii 0,u64 0,u8 0,.str [],.nils,ii 0,u64 0,u8 0,.str [],.nils,.nils,.nils]:=by rw[←hMg];exact hput hs (by simp[aU])
   clear hMg
   replace hs:=hs'
   refine WF.use1 (rv hc (hbase hs) hs.hd hlim hr2 hs.o2 hnb2 (by rfl) hs.g2) ?_
   rintro N2_2 ⟨u2_3,hg,hx,hd,hC⟩
   have tI:=hx.weak hs.tb
   replace hs:=hs.place hr1 h12 hn2 hC hd hg
   replace hlim:=(ek (L:=L) (am s)).lim hlim
   generalize hqs2_5:(bh L (am s)).2.2=s2_5 at hs hlim
   generalize hqx2_4:(bh L (am s)).2.1=x2_4 at hs tI
   generalize hqn2_6:(bh L (am s)).1=n2_6 at hs
   clear hx hd hg
   have hg2:=hs.g2
   have ho2:=hs.o2
   simp (config:={maxSteps:=1000000}) (disch:=first|assumption|omega|exact ab (by omega)|exact aa (by assumption)|(simp only[ao]<;>omega)) only[go_sem,seval,g1,g2,g3,g4,g5,hg2,ai]
   refine WF.useH (Gk hc (hbase hs) hs.hd hlim) ?_
   rintro v N2_7 ⟨⟨u2_8,rfl,hx⟩,hd,hC⟩
   have tX:=hx.weak hs.tb
   replace hs:=hs.call hr1 hr2 hC hd
   replace tI:=tI.stays (dO hro hC)
   replace hlim:(eg L s2_5).2.a<=L.length:=(bY L 30 _).lim hlim
   generalize hqs2_10:(eg L s2_5).2=s2_10 at hs hlim
   generalize hqx2_9:(eg L s2_5).1=x2_9 at tX
   clear hx hd
   have hxl:(x2_9.l u2_8).length=5:=rfl
   have hg2:=hs.g2
   have ho2:=hs.o2
   simp (config:={maxSteps:=1000000}) (disch:=first|assumption|omega|exact ab (by omega)|exact aa (by assumption)|(simp only[ao]<;>omega)) only[go_sem,seval,g1,g2,g3,g4,g5,hg2]
   generalize hMg:hp _ 0 _=M2_11
   have hs':SC m r b1 b2 vl rest (dM 0 0) M2_11 s2_10 [ii 2,ii p,.str [],.str n2_6,ii x2_4.k,u64 x2_4.n,u8 x2_4.o,.str x2_4.s,u2_3,ii x2_9.k,u64 x2_9.n,u8 x2_9.o,.str x2_9.s,u2_8,ii 0,u64 0,u8 0,.str [],.nils,.nils,.nils]:=by rw[←hMg];exact hput hs (by simp[aU])
   replace tI:=tI.stays (m':=M2_11) (by rw[←hMg];exact cN (by simp[aU]))
   replace tX:=tX.stays (m':=M2_11) (by rw[←hMg];exact cN (by simp[aU]))
   clear hMg
   replace hs:=hs'
   refine fin (x:= .mk 2 p [] n2_6 x2_4 x2_9 zE [] []) (w:=⟨u2_3,u2_8,.nils,.nils,.nils⟩) (s':=s2_10) (q:=true) hs (RS.of tI tX (gG _ _) (sv _ _) (sv _ _)) ?_ hlim (by simp only[go_sem,seval,g1]) (by simp only[go_sem,seval,g3]) (by simp only[go_sem,seval,g4]) (by simp only[go_sem,seval,g5])
   rw[cC,if_neg ne0,if_neg ne1,if_pos hb2,hpp]
   subst hqx2_9 hqs2_10 hqn2_6 hqx2_4 hqs2_5
   rfl
  |false=>
  have ne2:¬(a6 L [115,116,111,114,101] s=true):=by rw[hb2];exact Bool.false_ne_true
  rw[hb2,if_neg Bool.false_ne_true] at hd2
  replace hs:=hs.call hr1 hr2 hC2 hd2
  simp (config:={maxSteps:=1000000}) (disch:=first|assumption|omega|exact ab (by omega)|exact aa (by assumption)|(simp only[ao]<;>omega)) only[go_sem,seval,g1,g2,g3,g4,g5,ai]
  refine WF.use1H (da hc (hbase hs) hs.hd [99,97,115] (by simp) (by omega)) ?_
  rintro M3 ⟨hd3,hC3⟩
  cases hb3:a6 L [99,97,115] s with
  |true=>
   obtain ⟨he,hlt⟩:=bA hb3
   have hlim:(am s).a<=L.length:=hlt
   rw[hb3,if_pos rfl] at hd3
   replace hs:=hs.call hr1 hr2 hC3 hd3
   have hg2:=hs.g2
   have ho2:=hs.o2
   simp (config:={maxSteps:=1000000}) (disch:=first|assumption|omega|exact ab (by omega)|exact aa (by assumption)|(simp only[ao]<;>omega)) only[go_sem,seval,g1,g2,g3,g4,g5,hg2]
   generalize hMg:hp _ 0 _=M3_1
   have hs':SC m r b1 b2 vl rest (dM 0 0) M3_1 (am s) [ii 3,ii p,.str [],.str [],ii 0,u64 0,u8 0,.str [],.nils,ii 0,u64 0,u8 0,.str [],.nils,ii 0,u64 0,u8 0,.str [],.nils,.nils,.nils]:=by rw[←hMg];exact hput hs (by simp[aU])
   clear hMg
   replace hs:=hs'
   refine WF.use1H (ld hc (hbase hs) hs.hd (by omega)) ?_
   rintro N3_2 ⟨hd,hC⟩
   replace hs:=hs.call hr1 hr2 hC hd
   replace hlim:=(cq L _).lim hlim
   generalize hqs3_3:(a9 L (am s)).2=s3_3 at hs hlim
   generalize hqn3_4:(a9 L (am s)).1=n3_4
   have hg2:=hs.g2
   have ho2:=hs.o2
   simp (config:={maxSteps:=1000000}) (disch:=first|assumption|omega|exact ab (by omega)|exact aa (by assumption)|(simp only[ao]<;>omega)) only[go_sem,seval,g1,g2,g3,g4,g5,hg2]
   generalize hMg:hp _ 0 _=M3_5
   have hs':SC m r b1 b2 vl rest (dM 0 0) M3_5 s3_3 [ii 3,ii p,.str n3_4,.str [],ii 0,u64 0,u8 0,.str [],.nils,ii 0,u64 0,u8 0,.str [],.nils,ii 0,u64 0,u8 0,.str [],.nils,.nils,.nils]:=by rw[←hMg];exact hput hs (by simp[aU])
   clear hMg
   replace hs:=hs'
   refine WF.use1 (rv hc (hbase hs) hs.hd hlim hr2 hs.o2 hnb2 (by rfl) hs.g2) ?_
   rintro N3_6 ⟨u3_7,hg,hx,hd,hC⟩
   have tI:=hx.weak hs.tb
   replace hs:=hs.place hr1 h12 hn2 hC hd hg
   replace hlim:=(ek (L:=L) s3_3).lim hlim
   generalize hqs3_9:(bh L s3_3).2.2=s3_9 at hs hlim
   generalize hqx3_8:(bh L s3_3).2.1=x3_8 at hs tI
   generalize hqn3_10:(bh L s3_3).1=n3_10 at hs
   clear hx hd hg
   have hg2:=hs.g2
   have ho2:=hs.o2
   simp (config:={maxSteps:=1000000}) (disch:=first|assumption|omega|exact ab (by omega)|exact aa (by assumption)|(simp only[ao]<;>omega)) only[go_sem,seval,g1,g2,g3,g4,g5,hg2,ai]
   refine WF.useH (Gk hc (hbase hs) hs.hd hlim) ?_
   rintro v N3_11 ⟨⟨u3_12,rfl,hx⟩,hd,hC⟩
   have tX:=hx.weak hs.tb
   replace hs:=hs.call hr1 hr2 hC hd
   replace tI:=tI.stays (dO hro hC)
   replace hlim:(eg L s3_9).2.a<=L.length:=(bY L 30 _).lim hlim
   generalize hqs3_14:(eg L s3_9).2=s3_14 at hs hlim
   generalize hqx3_13:(eg L s3_9).1=x3_13 at tX
   clear hx hd
   have hxl:(x3_13.l u3_12).length=5:=rfl
   have hg2:=hs.g2
   have ho2:=hs.o2
   simp (config:={maxSteps:=1000000}) (disch:=first|assumption|omega|exact ab (by omega)|exact aa (by assumption)|(simp only[ao]<;>omega)) only[go_sem,seval,g1,g2,g3,g4,g5,hg2]
   generalize hMg:hp _ 0 _=M3_15
   have hs':SC m r b1 b2 vl rest (dM 0 0) M3_15 s3_14 [ii 3,ii p,.str n3_4,.str n3_10,ii x3_8.k,u64 x3_8.n,u8 x3_8.o,.str x3_8.s,u3_7,ii x3_13.k,u64 x3_13.n,u8 x3_13.o,.str x3_13.s,u3_12,ii 0,u64 0,u8 0,.str [],.nils,.nils,.nils]:=by rw[←hMg];exact hput hs (by simp[aU])
   replace tI:=tI.stays (m':=M3_15) (by rw[←hMg];exact cN (by simp[aU]))
   replace tX:=tX.stays (m':=M3_15) (by rw[←hMg];exact cN (by simp[aU]))
   clear hMg
   replace hs:=hs'
   refine WF.useH (Gk hc (hbase hs) hs.hd hlim) ?_
   rintro v N3_16 ⟨⟨u3_17,rfl,hx⟩,hd,hC⟩
   have tY:=hx.weak hs.tb
   replace hs:=hs.call hr1 hr2 hC hd
   replace tI:=tI.stays (dO hro hC)
   replace tX:=tX.stays (dO hro hC)
   replace hlim:(eg L s3_14).2.a<=L.length:=(bY L 30 _).lim hlim
   generalize hqs3_19:(eg L s3_14).2=s3_19 at hs hlim
   generalize hqx3_18:(eg L s3_14).1=x3_18 at tY
   clear hx hd
   have hxl:(x3_18.l u3_17).length=5:=rfl
   have hg2:=hs.g2
   have ho2:=hs.o2
   simp (config:={maxSteps:=1000000}) (disch:=first|assumption|omega|exact ab (by omega)|exact aa (by assumption)|(simp only[ao]<;>omega)) only[go_sem,seval,g1,g2,g3,g4,g5,hg2]
   generalize hMg:hp _ 0 _=M3_20
   have hs':SC m r b1 b2 vl rest (dM 0 0) M3_20 s3_19 [ii 3,ii p,.str n3_4,.str n3_10,ii x3_8.k,u64 x3_8.n,u8 x3_8.o,.str x3_8.s,u3_7,ii x3_13.k,u64 x3_13.n,u8 x3_13.o,.str x3_13.s,u3_12,ii x3_18.k,u64 x3_18.n,u8 x3_18.o,.str x3_18.s,u3_17,.nils,.nils]:=by rw[←hMg];exact hput hs (by simp[aU])
   replace tI:=tI.stays (m':=M3_20) (by rw[←hMg];exact cN (by simp[aU]))
   replace tX:=tX.stays (m':=M3_20) (by rw[←hMg];exact cN (by simp[aU]))
   replace tY:=tY.stays (m':=M3_20) (by rw[←hMg];exact cN (by simp[aU]))
   clear hMg
   replace hs:=hs'
   refine fin (x:= .mk 3 p n3_4 n3_10 x3_8 x3_13 x3_18 [] []) (w:=⟨u3_7,u3_12,u3_17,.nils,.nils⟩) (s':=s3_19) (q:=true) hs (RS.of tI tX tY (sv _ _) (sv _ _)) ?_ hlim (by simp only[go_sem,seval,g1]) (by simp only[go_sem,seval,g3]) (by simp only[go_sem,seval,g4]) (by simp only[go_sem,seval,g5])
   rw[cC,if_neg ne0,if_neg ne1,if_neg ne2,if_pos hb3,hpp]
   subst hqx3_18 hqs3_19 hqx3_13 hqs3_14 hqn3_10 hqx3_8 hqs3_9 hqn3_4 hqs3_3
   rfl
  |false=>
  have ne3:¬(a6 L [99,97,115] s=true):=by rw[hb3];exact Bool.false_ne_true
  rw[hb3,if_neg Bool.false_ne_true] at hd3
  replace hs:=hs.call hr1 hr2 hC3 hd3
  simp (config:={maxSteps:=1000000}) (disch:=first|assumption|omega|exact ab (by omega)|exact aa (by assumption)|(simp only[ao]<;>omega)) only[go_sem,seval,g1,g2,g3,g4,g5,ai]
  refine WF.use1H (da hc (hbase hs) hs.hd [102,101,110,99,101] (by simp) (by omega)) ?_
  rintro M4 ⟨hd4,hC4⟩
  cases hb4:a6 L [102,101,110,99,101] s with
  |true=>
   obtain ⟨he,hlt⟩:=bA hb4
   have hlim:(am s).a<=L.length:=hlt
   rw[hb4,if_pos rfl] at hd4
   replace hs:=hs.call hr1 hr2 hC4 hd4
   have hg2:=hs.g2
   have ho2:=hs.o2
   simp (config:={maxSteps:=1000000}) (disch:=first|assumption|omega|exact ab (by omega)|exact aa (by assumption)|(simp only[ao]<;>omega)) only[go_sem,seval,g1,g2,g3,g4,g5,hg2]
   generalize hMg:hp _ 0 _=M4_1
   have hs':SC m r b1 b2 vl rest (dM 0 0) M4_1 (am s) [ii 4,ii p,.str [],.str [],ii 0,u64 0,u8 0,.str [],.nils,ii 0,u64 0,u8 0,.str [],.nils,ii 0,u64 0,u8 0,.str [],.nils,.nils,.nils]:=by rw[←hMg];exact hput hs (by simp[aU])
   clear hMg
   replace hs:=hs'
   refine fin (x:= .mk 4 p [] [] zE zE zE [] []) (w:=⟨.nils,.nils,.nils,.nils,.nils⟩) (s':=(am s)) (q:=true) hs (RS.of (gG _ _) (gG _ _) (gG _ _) (sv _ _) (sv _ _)) ?_ hlim (by simp only[go_sem,seval,g1]) (by simp only[go_sem,seval,g3]) (by simp only[go_sem,seval,g4]) (by simp only[go_sem,seval,g5])
   rw[cC,if_neg ne0,if_neg ne1,if_neg ne2,if_neg ne3,if_pos hb4,hpp]
   rfl
  |false=>
  have ne4:¬(a6 L [102,101,110,99,101] s=true):=by rw[hb4];exact Bool.false_ne_true
  rw[hb4,if_neg Bool.false_ne_true] at hd4
  replace hs:=hs.call hr1 hr2 hC4 hd4
  simp (config:={maxSteps:=1000000}) (disch:=first|assumption|omega|exact ab (by omega)|exact aa (by assumption)|(simp only[ao]<;>omega)) only[go_sem,seval,g1,g2,g3,g4,g5,ai]
  refine WF.use1H (da hc (hbase hs) hs.hd [111,117,116] (by simp) (by omega)) ?_
  rintro M5 ⟨hd5,hC5⟩
  cases hb5:a6 L [111,117,116] s with
  |true=>
   obtain ⟨he,hlt⟩:=bA hb5
   have hlim:(am s).a<=L.length:=hlt
   rw[hb5,if_pos rfl] at hd5
   replace hs:=hs.call hr1 hr2 hC5 hd5
   have hg2:=hs.g2
   have ho2:=hs.o2
   simp (config:={maxSteps:=1000000}) (disch:=first|assumption|omega|exact ab (by omega)|exact aa (by assumption)|(simp only[ao]<;>omega)) only[go_sem,seval,g1,g2,g3,g4,g5,hg2]
   generalize hMg:hp _ 0 _=M5_1
   have hs':SC m r b1 b2 vl rest (dM 0 0) M5_1 (am s) [ii 5,ii p,.str [],.str [],ii 0,u64 0,u8 0,.str [],.nils,ii 0,u64 0,u8 0,.str [],.nils,ii 0,u64 0,u8 0,.str [],.nils,.nils,.nils]:=by rw[←hMg];exact hput hs (by simp[aU])
   clear hMg
   replace hs:=hs'
   refine WF.useH (Gk hc (hbase hs) hs.hd hlim) ?_
   rintro v N5_2 ⟨⟨u5_3,rfl,hx⟩,hd,hC⟩
   have tX:=hx.weak hs.tb
   replace hs:=hs.call hr1 hr2 hC hd
   replace hlim:(eg L (am s)).2.a<=L.length:=(bY L 30 _).lim hlim
   generalize hqs5_5:(eg L (am s)).2=s5_5 at hs hlim
   generalize hqx5_4:(eg L (am s)).1=x5_4 at tX
   clear hx hd
   have hxl:(x5_4.l u5_3).length=5:=rfl
   have hg2:=hs.g2
   have ho2:=hs.o2
   simp (config:={maxSteps:=1000000}) (disch:=first|assumption|omega|exact ab (by omega)|exact aa (by assumption)|(simp only[ao]<;>omega)) only[go_sem,seval,g1,g2,g3,g4,g5,hg2]
   generalize hMg:hp _ 0 _=M5_6
   have hs':SC m r b1 b2 vl rest (dM 0 0) M5_6 s5_5 [ii 5,ii p,.str [],.str [],ii 0,u64 0,u8 0,.str [],.nils,ii x5_4.k,u64 x5_4.n,u8 x5_4.o,.str x5_4.s,u5_3,ii 0,u64 0,u8 0,.str [],.nils,.nils,.nils]:=by rw[←hMg];exact hput hs (by simp[aU])
   replace tX:=tX.stays (m':=M5_6) (by rw[←hMg];exact cN (by simp[aU]))
   clear hMg
   replace hs:=hs'
   refine fin (x:= .mk 5 p [] [] zE x5_4 zE [] []) (w:=⟨.nils,u5_3,.nils,.nils,.nils⟩) (s':=s5_5) (q:=true) hs (RS.of (gG _ _) tX (gG _ _) (sv _ _) (sv _ _)) ?_ hlim (by simp only[go_sem,seval,g1]) (by simp only[go_sem,seval,g3]) (by simp only[go_sem,seval,g4]) (by simp only[go_sem,seval,g5])
   rw[cC,if_neg ne0,if_neg ne1,if_neg ne2,if_neg ne3,if_neg ne4,if_pos hb5,hpp]
   subst hqx5_4 hqs5_5
   rfl
  |false=>
  have ne5:¬(a6 L [111,117,116] s=true):=by rw[hb5];exact Bool.false_ne_true
  rw[hb5,if_neg Bool.false_ne_true] at hd5
  replace hs:=hs.call hr1 hr2 hC5 hd5
  simp (config:={maxSteps:=1000000}) (disch:=first|assumption|omega|exact ab (by omega)|exact aa (by assumption)|(simp only[ao]<;>omega)) only[go_sem,seval,g1,g2,g3,g4,g5,ai]
  refine WF.use1H (da hc (hbase hs) hs.hd [105,102] (by simp) (by omega)) ?_
  rintro M6 ⟨hd6,hC6⟩
  cases hb6:a6 L [105,102] s with
  |true=>
   obtain ⟨he,hlt⟩:=bA hb6
   have hlim:(am s).a<=L.length:=hlt
   rw[hb6,if_pos rfl] at hd6
   replace hs:=hs.call hr1 hr2 hC6 hd6
   have hg2:=hs.g2
   have ho2:=hs.o2
   simp (config:={maxSteps:=1000000}) (disch:=first|assumption|omega|exact ab (by omega)|exact aa (by assumption)|(simp only[ao]<;>omega)) only[go_sem,seval,g1,g2,g3,g4,g5,hg2]
   generalize hMg:hp _ 0 _=M6_1
   have hs':SC m r b1 b2 vl rest (dM 0 0) M6_1 (am s) [ii 6,ii p,.str [],.str [],ii 0,u64 0,u8 0,.str [],.nils,ii 0,u64 0,u8 0,.str [],.nils,ii 0,u64 0,u8 0,.str [],.nils,.nils,.nils]:=by rw[←hMg];exact hput hs (by simp[aU])
   clear hMg
   replace hs:=hs'
   refine WF.useH (Gk hc (hbase hs) hs.hd hlim) ?_
   rintro v N6_2 ⟨⟨u6_3,rfl,hx⟩,hd,hC⟩
   have tX:=hx.weak hs.tb
   replace hs:=hs.call hr1 hr2 hC hd
   replace hlim:(eg L (am s)).2.a<=L.length:=(bY L 30 _).lim hlim
   generalize hqs6_5:(eg L (am s)).2=s6_5 at hs hlim
   generalize hqx6_4:(eg L (am s)).1=x6_4 at tX
   clear hx hd
   have hxl:(x6_4.l u6_3).length=5:=rfl
   have hg2:=hs.g2
   have ho2:=hs.o2
   simp (config:={maxSteps:=1000000}) (disch:=first|assumption|omega|exact ab (by omega)|exact aa (by assumption)|(simp only[ao]<;>omega)) only[go_sem,seval,g1,g2,g3,g4,g5,hg2]
   generalize hMg:hp _ 0 _=M6_6
   have hs':SC m r b1 b2 vl rest (dM 0 0) M6_6 s6_5 [ii 6,ii p,.str [],.str [],ii 0,u64 0,u8 0,.str [],.nils,ii x6_4.k,u64 x6_4.n,u8 x6_4.o,.str x6_4.s,u6_3,ii 0,u64 0,u8 0,.str [],.nils,.nils,.nils]:=by rw[←hMg];exact hput hs (by simp[aU])
   replace tX:=tX.stays (m':=M6_6) (by rw[←hMg];exact cN (by simp[aU]))
   clear hMg
   replace hs:=hs'
   refine WF.useH (hB (hbase hs) hs.hd hlim) ?_
   rintro v6_8 N6_7 ⟨⟨C6_9,hx⟩,hd,hC⟩
   have tB:=hx.weak hs.tb
   replace hs:=hs.call hr1 hr2 hC hd
   replace tX:=tX.stays (dO hro hC)
   replace hlim:=(hst s6_5).lim hlim
   generalize hqs6_11:(B s6_5).2=s6_11 at hs hlim
   generalize hql6_10:(B s6_5).1=l6_10 at tB
   clear hx hd
   have hg2:=hs.g2
   have ho2:=hs.o2
   simp (config:={maxSteps:=1000000}) (disch:=first|assumption|omega|exact ab (by omega)|exact aa (by assumption)|(simp only[ao]<;>omega)) only[go_sem,seval,g1,g2,g3,g4,g5,hg2,tB.sl.one]
   generalize hMg:hp _ 0 _=M6_12
   have hs':SC m r b1 b2 vl rest (dM 0 0) M6_12 s6_11 [ii 6,ii p,.str [],.str [],ii 0,u64 0,u8 0,.str [],.nils,ii x6_4.k,u64 x6_4.n,u8 x6_4.o,.str x6_4.s,u6_3,ii 0,u64 0,u8 0,.str [],.nils,v6_8,.nils]:=by rw[←hMg];exact hput hs (by simp[aU])
   replace tX:=tX.stays (m':=M6_12) (by rw[←hMg];exact cN (by simp[aU]))
   replace tB:=tB.stays (m':=M6_12) (by rw[←hMg];exact cN (by simp[aU]))
   clear hMg
   replace hs:=hs'
   refine WF.use1H (da hc (hbase hs) hs.hd [101,108,115,101] (by simp) (by omega)) ?_
   rintro Me ⟨hde,hCe⟩
   replace hs':=hs.call hr1 hr2 hCe hde
   replace tX:=tX.stays (dO hro hCe)
   replace tB:=tB.stays (dO hro hCe)
   cases hbe:a6 L [101,108,115,101] s6_11 with
   |true=>
    rw[hbe,if_pos rfl] at hs'
    replace hs:=hs'
    have hlim:(am s6_11).a<=L.length:=(bA hbe).2
    have hg2:=hs.g2
    have ho2:=hs.o2
    simp (config:={maxSteps:=1000000}) (disch:=first|assumption|omega|exact ab (by omega)|exact aa (by assumption)|(simp only[ao]<;>omega)) only[go_sem,seval,g1,g2,g3,g4,g5,hg2,tB.sl.one,ai]
    refine WF.useH (hB (hbase hs) hs.hd hlim) ?_
    rintro v6t_14 N6t_13 ⟨⟨C6t_15,hx⟩,hd,hC⟩
    have tE:=hx.weak hs.tb
    replace hs:=hs.call hr1 hr2 hC hd
    replace tX:=tX.stays (dO hro hC)
    replace tB:=tB.stays (dO hro hC)
    replace hlim:=(hst (am s6_11)).lim hlim
    generalize hqs6t_17:(B (am s6_11)).2=s6t_17 at hs hlim
    generalize hql6t_16:(B (am s6_11)).1=l6t_16 at tE
    clear hx hd
    have hg2:=hs.g2
    have ho2:=hs.o2
    simp (config:={maxSteps:=1000000}) (disch:=first|assumption|omega|exact ab (by omega)|exact aa (by assumption)|(simp only[ao]<;>omega)) only[go_sem,seval,g1,g2,g3,g4,g5,hg2,tB.sl.one,tE.sl.one]
    generalize hMg:hp _ 0 _=M6t_18
    have hs':SC m r b1 b2 vl rest (dM 0 0) M6t_18 s6t_17 [ii 6,ii p,.str [],.str [],ii 0,u64 0,u8 0,.str [],.nils,ii x6_4.k,u64 x6_4.n,u8 x6_4.o,.str x6_4.s,u6_3,ii 0,u64 0,u8 0,.str [],.nils,v6_8,v6t_14]:=by rw[←hMg];exact hput hs (by simp[aU])
    replace tX:=tX.stays (m':=M6t_18) (by rw[←hMg];exact cN (by simp[aU]))
    replace tB:=tB.stays (m':=M6t_18) (by rw[←hMg];exact cN (by simp[aU]))
    replace tE:=tE.stays (m':=M6t_18) (by rw[←hMg];exact cN (by simp[aU]))
    clear hMg
    replace hs:=hs'
    refine fin (x:= .mk 6 p [] [] zE x6_4 zE l6_10 l6t_16) (w:=⟨.nils,u6_3,.nils,v6_8,v6t_14⟩) (s':=s6t_17) (q:=false) hs (RS.of (gG _ _) tX (gG _ _) tB tE) ?_ hlim (by simp only[go_sem,seval,g1]) (by simp only[go_sem,seval,g3]) (by simp only[go_sem,seval,g4]) (by simp only[go_sem,seval,g5])
    rw[cC,if_neg ne0,if_neg ne1,if_neg ne2,if_neg ne3,if_neg ne4,if_neg ne5,if_pos hb6,hpp]
    subst hql6t_16 hqs6t_17 hql6_10 hqs6_11 hqx6_4 hqs6_5
    rw[I7,if_pos hbe];rfl
   |false=>
    rw[hbe,if_neg Bool.false_ne_true] at hs'
    replace hs:=hs'
    have nee:¬(a6 L [101,108,115,101] s6_11=true):=by rw[hbe];exact Bool.false_ne_true
    have hg2:=hs.g2
    have ho2:=hs.o2
    simp (config:={maxSteps:=1000000}) (disch:=first|assumption|omega|exact ab (by omega)|exact aa (by assumption)|(simp only[ao]<;>omega)) only[go_sem,seval,g1,g2,g3,g4,g5,hg2,tB.sl.one,ai]
    refine fin (x:= .mk 6 p [] [] zE x6_4 zE l6_10 []) (w:=⟨.nils,u6_3,.nils,v6_8,.nils⟩) (s':=s6_11) (q:=false) hs (RS.of (gG _ _) tX (gG _ _) tB (sv _ _)) ?_ hlim (by simp only[go_sem,seval,g1]) (by simp only[go_sem,seval,g3]) (by simp only[go_sem,seval,g4]) (by simp only[go_sem,seval,g5])
    rw[cC,if_neg ne0,if_neg ne1,if_neg ne2,if_neg ne3,if_neg ne4,if_neg ne5,if_pos hb6,hpp]
    subst hql6_10 hqs6_11 hqx6_4 hqs6_5
    rw[I7,if_neg nee];rfl
  |false=>
  have ne6:¬(a6 L [105,102] s=true):=by rw[hb6];exact Bool.false_ne_true
  rw[hb6,if_neg Bool.false_ne_true] at hd6
  replace hs:=hs.call hr1 hr2 hC6 hd6
  simp (config:={maxSteps:=1000000}) (disch:=first|assumption|omega|exact ab (by omega)|exact aa (by assumption)|(simp only[ao]<;>omega)) only[go_sem,seval,g1,g2,g3,g4,g5,ai]
  refine WF.use1H (da hc (hbase hs) hs.hd [119,104,105,108,101] (by simp) (by omega)) ?_
  rintro M7 ⟨hd7,hC7⟩
  cases hb7:a6 L [119,104,105,108,101] s with
  |true=>
   obtain ⟨he,hlt⟩:=bA hb7
   have hlim:(am s).a<=L.length:=hlt
   rw[hb7,if_pos rfl] at hd7
   replace hs:=hs.call hr1 hr2 hC7 hd7
   have hg2:=hs.g2
   have ho2:=hs.o2
   simp (config:={maxSteps:=1000000}) (disch:=first|assumption|omega|exact ab (by omega)|exact aa (by assumption)|(simp only[ao]<;>omega)) only[go_sem,seval,g1,g2,g3,g4,g5,hg2]
   generalize hMg:hp _ 0 _=M7_1
   have hs':SC m r b1 b2 vl rest (dM 0 0) M7_1 (am s) [ii 7,ii p,.str [],.str [],ii 0,u64 0,u8 0,.str [],.nils,ii 0,u64 0,u8 0,.str [],.nils,ii 0,u64 0,u8 0,.str [],.nils,.nils,.nils]:=by rw[←hMg];exact hput hs (by simp[aU])
   clear hMg
   replace hs:=hs'
   refine WF.useH (Gk hc (hbase hs) hs.hd hlim) ?_
   rintro v N7_2 ⟨⟨u7_3,rfl,hx⟩,hd,hC⟩
   have tX:=hx.weak hs.tb
   replace hs:=hs.call hr1 hr2 hC hd
   replace hlim:(eg L (am s)).2.a<=L.length:=(bY L 30 _).lim hlim
   generalize hqs7_5:(eg L (am s)).2=s7_5 at hs hlim
   generalize hqx7_4:(eg L (am s)).1=x7_4 at tX
   clear hx hd
   have hxl:(x7_4.l u7_3).length=5:=rfl
   have hg2:=hs.g2
   have ho2:=hs.o2
   simp (config:={maxSteps:=1000000}) (disch:=first|assumption|omega|exact ab (by omega)|exact aa (by assumption)|(simp only[ao]<;>omega)) only[go_sem,seval,g1,g2,g3,g4,g5,hg2]
   generalize hMg:hp _ 0 _=M7_6
   have hs':SC m r b1 b2 vl rest (dM 0 0) M7_6 s7_5 [ii 7,ii p,.str [],.str [],ii 0,u64 0,u8 0,.str [],.nils,ii x7_4.k,u64 x7_4.n,u8 x7_4.o,.str x7_4.s,u7_3,ii 0,u64 0,u8 0,.str [],.nils,.nils,.nils]:=by rw[←hMg];exact hput hs (by simp[aU])
   replace tX:=tX.stays (m':=M7_6) (by rw[←hMg];exact cN (by simp[aU]))
   clear hMg
   replace hs:=hs'
   refine WF.useH (hB (hbase hs) hs.hd hlim) ?_
   rintro v7_8 N7_7 ⟨⟨C7_9,hx⟩,hd,hC⟩
   have tB:=hx.weak hs.tb
   replace hs:=hs.call hr1 hr2 hC hd
   replace tX:=tX.stays (dO hro hC)
   replace hlim:=(hst s7_5).lim hlim
   generalize hqs7_11:(B s7_5).2=s7_11 at hs hlim
   generalize hql7_10:(B s7_5).1=l7_10 at tB
   clear hx hd
   have hg2:=hs.g2
   have ho2:=hs.o2
   simp (config:={maxSteps:=1000000}) (disch:=first|assumption|omega|exact ab (by omega)|exact aa (by assumption)|(simp only[ao]<;>omega)) only[go_sem,seval,g1,g2,g3,g4,g5,hg2,tB.sl.one]
   generalize hMg:hp _ 0 _=M7_12
   have hs':SC m r b1 b2 vl rest (dM 0 0) M7_12 s7_11 [ii 7,ii p,.str [],.str [],ii 0,u64 0,u8 0,.str [],.nils,ii x7_4.k,u64 x7_4.n,u8 x7_4.o,.str x7_4.s,u7_3,ii 0,u64 0,u8 0,.str [],.nils,v7_8,.nils]:=by rw[←hMg];exact hput hs (by simp[aU])
   replace tX:=tX.stays (m':=M7_12) (by rw[←hMg];exact cN (by simp[aU]))
   replace tB:=tB.stays (m':=M7_12) (by rw[←hMg];exact cN (by simp[aU]))
   clear hMg
   replace hs:=hs'
   refine fin (x:= .mk 7 p [] [] zE x7_4 zE l7_10 []) (w:=⟨.nils,u7_3,.nils,v7_8,.nils⟩) (s':=s7_11) (q:=false) hs (RS.of (gG _ _) tX (gG _ _) tB (sv _ _)) ?_ hlim (by simp only[go_sem,seval,g1]) (by simp only[go_sem,seval,g3]) (by simp only[go_sem,seval,g4]) (by simp only[go_sem,seval,g5])
   rw[cC,if_neg ne0,if_neg ne1,if_neg ne2,if_neg ne3,if_neg ne4,if_neg ne5,if_neg ne6,if_pos hb7,hpp]
   subst hql7_10 hqs7_11 hqx7_4 hqs7_5
   rfl
  |false=>
  have ne7:¬(a6 L [119,104,105,108,101] s=true):=by rw[hb7];exact Bool.false_ne_true
  rw[hb7,if_neg Bool.false_ne_true] at hd7
  replace hs:=hs.call hr1 hr2 hC7 hd7
  simp (config:={maxSteps:=1000000}) (disch:=first|assumption|omega|exact ab (by omega)|exact aa (by assumption)|(simp only[ao]<;>omega)) only[go_sem,seval,g1,g2,g3,g4,g5,ai]
  refine WF.use1 (gL hs.hd 2) ?_
  rintro M9 ⟨hd9,hC9⟩
  replace hs:=hs.call hr1 hr2 hC9 hd9
  have hlim:=(bU L 2 s).lim ha
  simp (config:={maxSteps:=1000000}) (disch:=first|assumption|omega|exact ab (by omega)|exact aa (by assumption)|(simp only[ao]<;>omega)) only[go_sem,seval,g1,g2,g3,g4,g5]
  refine fin (x:= .mk 0 p [] [] zE zE zE [] []) (w:=⟨.nils,.nils,.nils,.nils,.nils⟩) (s':=bm 2 s) (q:=true) hs (RS.of (gG _ _) (gG _ _) (gG _ _) (sv _ _) (sv _ _)) ?_ hlim (by simp only[go_sem,seval,g1]) (by simp only[go_sem,seval,g3]) (by simp only[go_sem,seval,g4]) (by simp only[go_sem,seval,g5])
  rw[cC,if_neg ne0,if_neg ne1,if_neg ne2,if_neg ne3,if_neg ne4,if_neg ne5,if_neg ne6,if_neg ne7,hpp]
  rfl
 clear g1 g2 g3 g4 g5 hs
 rintro D ⟨t,M,x,w,s',q,rfl,hs,hx,hE,ha',g1,g3,g4,g5⟩
 change wp _ _ _ _ ⟨ak [] t, [],none,M⟩ _
 rw[←hE] at hK
 have hxl:(x.l w).length=21:=rfl
 have hxl':(x.l w).take 21=x.l w:=rfl
 have fin:∀{M s''},SC m r b1 b2 vl rest (dM 0 0) M s'' (x.l w)->RS M (TB m b1 b2) x (x.l w)->(if q then a7 L [59] s' else s')=s''->K (.agg (x.l w)) (hp [(.o b1,.cells true (x.l w))] 0 M):=fun {M s''} h1 h2 h3=>by
  have hC:Chg [b1] M (hp [(.o b1,.cells true (x.l w))] 0 M):=an rfl
  refine hK _ _ ⟨⟨w,rfl,(h2.stays (bi.of hC fun i hi hs=> ?_)).weak fun i hi=>hi.1⟩, ?_,h1.hC.trans hC fun i hi ho=> ?_⟩
  ·simp only[List.mem_cons,List.not_mem_nil,or_false] at hs;exact hi.2.1 hs
  ·show RD _ r vl (if q then a7 L [59] s' else s') rest
   rw[h3];exact h1.hd.chg hC (by simpa using fun e=>hr1 e.symm)
  ·simp only[List.mem_cons,List.not_mem_nil,or_false] at hi;subst hi;exact absurd ho hn1
 cases q with
 |true=>
  simp (config:={maxSteps:=1000000}) (disch:=first|assumption|omega|exact ab (by omega)|exact aa (by assumption)|(simp only[ao]<;>omega)) only[go_sem,seval,g1,g3,g4,g5,ai]
  refine WF.use1H (fU hc (hc.chg h0 hs.hC) hs.hd [59] (by simp) (by omega)) ?_
  rintro M2 ⟨hd2,hC2⟩
  have hs2:=hs.call hr1 hr2 hC2 hd2
  have hg2:=hs2.g2
  have hg1:=hs2.g1
  have ho1:=hs2.o1
  have ho2:=hs2.o2
  simp (config:={maxSteps:=1000000}) (disch:=first|assumption|omega|exact ab (by omega)|exact aa (by assumption)|(simp only[ao]<;>omega)) only[go_sem,seval,g1,g3,g4,g5,hg2,hg1,hxl,hxl']
  exact fin hs2 (hx.stays (dO hro hC2)) rfl
 |false=>
  have hg2:=hs.g2
  have hg1:=hs.g1
  have ho1:=hs.o1
  have ho2:=hs.o2
  rw[←ai M]
  simp (config:={maxSteps:=1000000}) (disch:=first|assumption|omega|exact ab (by omega)|exact aa (by assumption)|(simp only[ao]<;>omega)) only[go_sem,seval,g1,g3,g4,g5,hg2,hg1,hxl,hxl']
  exact fin hs hx rfl
end
end FR
open Go Nm Go.Proofs
namespace FR
set_option linter.unusedSimpArgs false
set_option linter.unusedVariables false
section
variable {L:List Tok}
theorem iF (s:Rs):St L s (eg L s).2:=bY L 30 s
theorem jM {x:Stm} {s s':Rs} (h:St L s s'):St L s (tM L x s').2:=h.trans (bO _ _ _)
theorem IZ (p:Int) (s:Rs):St L s (JZ L p s).2:=jM ((cq L s).trans (iF _))
theorem EA (p:Int) (s:Rs):St L s (GB L p s).2:=jM ((cq L s).trans (ek _))
theorem Cp (p:Int) (s:Rs):St L s (CK L p s).2:=jM ((ek s).trans (iF _))
theorem HM (p:Int) (s:Rs):St L s (Kz L p s).2:=jM ((((cq L s).trans (ek _)).trans (iF _)).trans (iF _))
theorem GT (p:Int) (s:Rs):St L s (Jf L p s).2:=jM (iF _)
theorem KT {B:Rs->List Stm×Rs} (hB:∀s,St L s (B s).2) (p:Int) (s:Rs):St L s (I7 L B p s).2:=by
 unfold I7
 have h:=(iF (L:=L) s).trans (hB _)
 split
 ·rename_i q;exact (h.trans (ef q)).trans (hB _)
 ·exact h
theorem BA {B:Rs->List Stm×Rs} (hB:∀s,St L s (B s).2) (p:Int) (s:Rs):St L s (CW L B p s).2:=(iF s).trans (hB _)
theorem sE {B:Rs->List Stm×Rs} (hB:∀s,St L s (B s).2) (s:Rs):(∃t,St L s t/\St L t (cC L B s).2/\(s.e=0->s.a<t.a∨t.e≠0)):=by
 have y:∀{w:List Nat},a6 L w s=true->St L s (am s):=fun h=>ef h
 have n:s.a<(am s).a:=Nat.lt_succ_self _
 unfold cC
 split
 ·exact ⟨am s,y ‹_›,IZ _ _,fun _=>Or.inl n⟩
 ·split
  ·exact ⟨am s,y ‹_›,EA _ _,fun _=>Or.inl n⟩
  ·split
   ·exact ⟨am s,y ‹_›,Cp _ _,fun _=>Or.inl n⟩
   ·split
    ·exact ⟨am s,y ‹_›,HM _ _,fun _=>Or.inl n⟩
    ·split
     ·exact ⟨am s,y ‹_›,jM (St.refl _ _),fun _=>Or.inl n⟩
     ·split
      ·exact ⟨am s,y ‹_›,GT _ _,fun _=>Or.inl n⟩
      ·split
       ·exact ⟨am s,y ‹_›,KT hB _ _,fun _=>Or.inl n⟩
       ·split
        ·exact ⟨am s,y ‹_›,BA hB _ _,fun _=>Or.inl n⟩
        ·refine ⟨bm 2 s,bU _ _ _,jM (St.refl _ _),fun h=>Or.inr ?_⟩
         rw[bm,if_pos h];show (2:Nat)≠0;omega
theorem rT {B:Rs->List Stm×Rs} (hB:∀s,St L s (B s).2) (s:Rs):St L s (cC L B s).2:=by
 obtain ⟨t,h1,h2,-⟩:=sE hB s
 exact h1.trans h2
theorem FZ {B:Rs->List Stm×Rs} (hB:∀s,St L s (B s).2) (s:Rs) (he:s.e=0):s.a<(cC L B s).2.a∨(cC L B s).2.e≠0:=by
 obtain ⟨t,h1,h2,h3⟩:=sE hB s
 rcases h3 he with q|q
 ·left;have:=h2.le;omega
 ·right;rw[h2.err q];exact q
theorem uf {S:Rs->Stm×Rs} (hS:∀s,St L s (S s).2):∀(f:Nat) (l:List Stm) (s:Rs),St L s (fk L S f l s).2:=by
 intro f
 induction f with
 |zero=>exact fun l s=>St.refl _ _
 |succ f ih=>
  intro l s
  rw[fk]
  split
  ·exact St.refl _ _
  ·split
   ·exact ef ‹_›
   ·exact (hS s).trans (ih _ _)
theorem tN {S:Rs->Stm×Rs} (hS:∀s,St L s (S s).2) (d:Nat) (s:Rs):St L s (iP L S d s).2:=((kO d s).trans (bO _ _ _)).trans (uf hS _ _ _)
theorem eP:∀(n:Nat) (s:Rs),St L s (di L n s).2:=by
 intro n
 induction n with
 |zero=>exact fun s=>tN (fun s=>bU _ _ _) _ s
 |succ n ih=>exact fun s=>tN (rT ih) _ s
def L6 (B:Rs->List Stm×Rs):Prop:=∀s,(B s).2.e=0->cn (B s).1+4*s.a<=4*(B s).2.a
theorem kv (s:Rs) (h:(eg L s).2.e=0):(eg L s).1.sz+s.a<=(eg L s).2.a:=qR L 30 s h
theorem mE {s:Rs} (h:(a9 L s).2.e=0):s.a+1<=(a9 L s).2.a:=by
 unfold a9 at h ⊢
 split
 ·rename_i q
  rw[if_pos q] at h
  have h0:=(bU L 2 s).zero h
  rw[bm,if_pos h0] at h
  exact absurd h (by show (2:Nat)≠0;omega)
 ·exact Nat.le_refl _
theorem dP {w:List Nat} {s:Rs} (h:(a7 L w s).e=0):s.e=0/\(a7 L w s).a=s.a+1:=by
 have h0:=(bO L w s).zero h
 refine ⟨h0, ?_⟩
 unfold a7 at h ⊢
 split
 ·rfl
 ·rename_i q
  rw[if_neg q,bm,if_pos h0] at h
  exact absurd h (by show (2:Nat)≠0;omega)
theorem n8 {s:Rs} (h:(bh L s).2.2.e=0):(bh L s).2.1.sz+s.a<=(bh L s).2.2.a:=by
 unfold bh at h ⊢
 split
 ·rename_i q
  rw[if_pos q] at h
  obtain ⟨h1,h2⟩:=dP h
  have h3:=kv _ h1
  have h4:=(ef q).le
  have h5:=(cq L s).le
  have h6:(am (a9 L s).2).a=(a9 L s).2.a+1:=rfl
  dsimp only at h1 h2 h3 h4 h5 ⊢
  omega
 ·rename_i q
  rw[if_neg q] at h
  have:=mE h
  simp[zE,Ex.sz,jr];omega
theorem lT:zE.sz=1:=by simp[zE,Ex.sz,jr]
theorem gR (k p:Int) (nm ce:List Nat) (i x y:Ex) (b e:List Stm):(Stm.mk k p nm ce i x y b e).sz=1+i.sz+x.sz+y.sz+cn b+cn e:=by rw[Stm.sz]
theorem pe:cn []=0:=rfl
set_option maxHeartbeats 4000000 in
theorem EY {B:Rs->List Stm×Rs} (hSt:∀s,St L s (B s).2) (hB:L6 B) (s:Rs) (h:(cC L B s).2.e=0):(cC L B s).1.sz+4*s.a<=4*(cC L B s).2.a:=by
 have n:(am s).a=s.a+1:=rfl
 unfold cC at h ⊢
 split
 ·rename_i q
  rw[if_pos q] at h
  obtain ⟨h1,h2⟩:=dP h
  have h3:=kv _ h1
  have h4:=mE ((iF (L:=L) _).zero h1)
  show (Stm.mk ..).sz+_<=4*(a7 L [59] _).a
  rw[h2,gR,lT,pe];omega
 ·rename_i q0;rw[if_neg q0] at h
  split
  ·rename_i q
   rw[if_pos q] at h
   obtain ⟨h1,h2⟩:=dP h
   have h3:=n8 h1
   have h4:=mE ((ek (L:=L) _).zero h1)
   show (Stm.mk ..).sz+_<=4*(a7 L [59] _).a
   rw[h2,gR,lT,pe];omega
  ·rename_i q0;rw[if_neg q0] at h
   split
   ·rename_i q
    rw[if_pos q] at h
    obtain ⟨h1,h2⟩:=dP h
    have h3:=kv _ h1
    have h4:=n8 ((iF (L:=L) _).zero h1)
    show (Stm.mk ..).sz+_<=4*(a7 L [59] _).a
    rw[h2,gR,lT,pe];omega
   ·rename_i q0;rw[if_neg q0] at h
    split
    ·rename_i q
     rw[if_pos q] at h
     obtain ⟨h1,h2⟩:=dP h
     have h3:=kv _ h1
     have h1':=(iF (L:=L) _).zero h1
     have h4:=kv _ h1'
     have h1'':=(iF (L:=L) _).zero h1'
     have h5:=n8 h1''
     have h6:=mE ((ek (L:=L) _).zero h1'')
     show (Stm.mk ..).sz+_<=4*(a7 L [59] _).a
     rw[h2,gR,pe];omega
    ·rename_i q0;rw[if_neg q0] at h
     split
     ·rename_i q
      rw[if_pos q] at h
      obtain ⟨h1,h2⟩:=dP h
      show (Stm.mk ..).sz+_<=4*(a7 L [59] _).a
      rw[h2,gR,lT,pe];omega
     ·rename_i q0;rw[if_neg q0] at h
      split
      ·rename_i q
       rw[if_pos q] at h
       obtain ⟨h1,h2⟩:=dP h
       have h3:=kv _ h1
       show (Stm.mk ..).sz+_<=4*(a7 L [59] _).a
       rw[h2,gR,lT,pe];omega
      ·rename_i q0;rw[if_neg q0] at h
       split
       ·rename_i q
        rw[if_pos q] at h
        unfold I7 at h ⊢
        split
        ·rename_i q2
         rw[if_pos q2] at h
         have h1:=hB _ h
         have h2:=(hSt _).zero h
         have h3:=hB _ h2
         have h4:=kv _ ((hSt _).zero h2)
         have h5:(am (B (eg L (am s)).2).2).a=(B (eg L (am s)).2).2.a+1:=rfl
         rw[gR,lT];dsimp only at *;omega
        ·rename_i q2
         rw[if_neg q2] at h
         have h3:=hB _ h
         have h4:=kv _ ((hSt _).zero h)
         rw[gR,lT,pe];dsimp only at *;omega
       ·rename_i q0;rw[if_neg q0] at h
        split
        ·rename_i q
         rw[if_pos q] at h
         have h3:=hB _ h
         have h4:=kv _ ((hSt _).zero h)
         show (Stm.mk ..).sz+_<=4*(B _).2.a
         rw[gR,lT,pe];omega
        ·rename_i q0;rw[if_neg q0] at h
         obtain ⟨h1,h2⟩:=dP h
         have h3:=(bU L 2 s).zero h1
         rw[bm,if_pos h3] at h1
         exact absurd h1 (by show (2:Nat)≠0;omega)
theorem wl (a b:List Stm):cn (a++b)=cn a+cn b:=by
 induction a with
 |nil=>simp[cn]
 |cons x a ih=>rw[List.cons_append,cn,cn,ih];omega
theorem CP {S:Rs->Stm×Rs} (hSt:∀s,St L s (S s).2) (hS:∀s,(S s).2.e=0->(S s).1.sz+4*s.a<=4*(S s).2.a):∀(f:Nat) (l:List Stm) (s:Rs) (a0:Nat),(s.e=0->cn l+4*a0<=4*s.a)->(fk L S f l s).2.e=0->cn (fk L S f l s).1+4*a0<=4*(fk L S f l s).2.a:=by
 intro f
 induction f with
 |zero=>intro l s a0 h h2;exact h h2
 |succ f ih=>
  intro l s a0 h
  rw[fk]
  split
  ·intro h2;exact absurd h2 ‹_›
  ·split
   ·rename_i q1 q2
    intro h2
    have h1:=h (by omega)
    have:(am s).a=s.a+1:=rfl
    dsimp only;omega
   ·rename_i q1 q2
    refine ih _ _ a0 fun h2=> ?_
    have h1:=h (by omega)
    have h3:=hS s h2
    rw[wl,cn,pe];omega
theorem Bt {S:Rs->Stm×Rs} (hSt:∀s,St L s (S s).2) (hS:∀s,(S s).2.e=0->(S s).1.sz+4*s.a<=4*(S s).2.a) (d:Nat):L6 (iP L S d):=by
 intro s h
 refine CP hSt hS _ _ _ s.a (fun h2=> ?_) h
 have:=((kO (L:=L) d s).trans (bO L [123] _)).le
 rw[pe];omega
theorem xJ:∀n:Nat,L6 (di L n):=by
 intro n
 induction n with
 |zero=>
  intro s h
  have h1:=(uf (L:=L) (S:=fun s=>(Stm.mk 0 0 [] [] zE zE zE [] [],bm 2 s)) (fun s=>bU _ _ _) _ _ _).zero h
  have h2:=(bO L [123] _).zero h1
  have h3:=(kO (L:=L) 30 s).zero h2
  exfalso
  obtain ⟨h4,h5⟩:=dP h1
  have hff:∀e (s:Rs),e≠0->(bm e s).e≠0:=fun e s h=>by unfold bm;split;exact h;assumption
  by_cases hk:(aO L s.a).k=3/\(aO L s.a).t= [123]
  ·rw[dy,if_pos ⟨h3,by omega,hk.1,hk.2⟩] at h4
   exact hff 11 s (by omega) h4
  ·have e1:dy L 30 s=s:=by rw[dy,if_neg (fun h=>hk ⟨h.2.2.1,h.2.2.2⟩)]
   rw[e1] at h1
   have e2:a6 L [123] s=false:=decide_eq_false fun q=>hk ⟨q.2.1,q.2.2⟩
   rw[a7,e2,if_neg Bool.false_ne_true] at h1
   exact hff 2 s (by omega) h1
 |succ n ih=>exact Bt (rT (eP n)) (EY (eP n) ih) _
end
section
variable {m0:NH} {L:List Tok} {vl:NV} {r:D4} {rest:List NV}
theorem Du (hc:RC m0 L vl r):∀n,n<=30->MH m0 L vl r rest (di L n) (30 - n):=by
 intro n
 induction n with
 |zero=>
  intro _
  have e2:di L 0=iP L (fun s=>(.mk 0 0 [] [] zE zE zE [] [],bm 2 s)) 30:=by funext s;rfl
  rw[e2]
  intro m s
  exact yW (S:=fun s=>(.mk 0 0 [] [] zE zE zE [] [],bm 2 s)) hc (fun s=>bU _ _ _) (fun s he=>Or.inr (by rw[bm,if_pos he];show (2:Nat)≠0;omega)) (fun h=>by omega)
 |succ n ih=>
  intro hn
  have e:30 - (n+1)=29 - n:=by omega
  have h1:29 - n+1=30 - n:=by omega
  have e2:di L (n+1)=iP L (cC L (di L n)) (29 - n):=by funext s;rfl
  rw[e,e2]
  intro m s
  exact yW hc (rT (eP n)) (FZ (eP n)) (fun _=>by rw[←h1] at ih;intro m s;exact Hl hc (eP n) (ih (by omega)) (by omega))
end
end FR
open Go Nm Go.Proofs
namespace FR
set_option linter.unusedSimpArgs false
set_option linter.unusedVariables false
structure Ps where
 cs:List (List Nat×Int)
 ts:List (List Nat×List Stm)
 rc:List Stm
 rd:Bool
section
variable (L:List Tok)
def bC (T:Tok):Int:=if T.n<1048576 then T.n else 1048576
def pS (s:Rs):(List Nat×Int)×Rs:=
 if a6 L [91] (a9 L s).2=true then
  if (aO L (am (a9 L s).2).a).k=2 then (((a9 L s).1,bC (aO L (am (a9 L s).2).a)),a7 L [59] (a7 L [93] (am (am (a9 L s).2))))
  else (((a9 L s).1,1),a7 L [59] (a7 L [93] (bm 2 (am (a9 L s).2))))
 else (((a9 L s).1,1),a7 L [59] (a9 L s).2)
def kF (s:Rs):(List Nat×List Stm)×Rs:=(((a9 L s).1,(di L 30 (a9 L s).2).1),(di L 30 (a9 L s).2).2)
abbrev ei:List Nat:= [114,101,99,111,118,101,114]
def bg (rec:Bool) (s:Rs):Rs:=if rec=true/\(aO L s.a).k=4/\(aO L s.a).t=ei then bm 5 s else s
def Ch (rec:Bool) (s:Rs):List Stm×Rs:=di L 30 (a7 L ei (bg L rec s))
def eF (P:Ps) (s:Rs):Ps×Rs:=
 if a6 L [99,101,108,108] s=true then (⟨P.cs++ [(pS L (am s)).1],P.ts,P.rc,P.rd⟩,(pS L (am s)).2)
 else if a6 L [116,104,114,101,97,100] s=true then (⟨P.cs,P.ts++ [(kF L (am s)).1],P.rc,P.rd⟩,(kF L (am s)).2)
 else (⟨P.cs,P.ts,(Ch L P.rd s).1,true⟩,(Ch L P.rd s).2)
end
abbrev TP (mR:NH) (vc vt:NV):D4->Prop:=fun i=>¬aC mR i/\i∉ids vc/\i∉ids vt
structure PD (mR M:NH) (r:D4) (vl:NV) (s:Rs) (P:Ps) (vc vt vr:NV):Prop where
 hd:RD M r vl s [.bool P.rd,vc,vt,vr]
 cc:bL mR M vc 2 (qg P.cs)
 tt:∃C,bL mR M vt 2 C/\C.length=P.ts.length/\∀(j:Nat) (x:List Nat×List Stm) (c:List NV),P.ts[j]? =some x->C[j]? =some c->∃vb B,c= [.str x.1,vb]/\SS M (TP mR vc vt) vb x.2 B
 rr:∃C,SS M (TP mR vc vt) vr P.rc C
 dd:∀i∈ids vc,i∉ids vt
 oo:∀i,aC mR i->aC M i
 oR:aC mR r
section
variable {m0 mR:NH} {L:List Tok} {vl vc vt vr:NV} {r:D4} {M M':NH} {s s':Rs} {P:Ps}
theorem PD.call (h:PD mR M r vl s P vc vt vr) (hC:Chg [r] M M') (hd:RD M' r vl s' [.bool P.rd,vc,vt,vr]):PD mR M' r vl s' P vc vt vr:=by
 have hn:∀{v e C},bL mR M v e C->∀i∈ids v,i∉ [r]:=fun hv i hi hs=>by
  simp only[List.mem_cons,List.not_mem_nil,or_false] at hs;subst hs;exact hv.new _ hi h.oR
 have hst:bi (TP mR vc vt) M M':=bi.of hC fun i hi hs=>by
  simp only[List.mem_cons,List.not_mem_nil,or_false] at hs;subst hs;exact hi.1 h.oR
 obtain ⟨C,t1,t2,t3⟩:=h.tt
 obtain ⟨D,r1⟩:=h.rr
 exact ⟨hd,h.cc.chg hC (hn h.cc),⟨C,t1.chg hC (hn t1),t2,fun j x c a b=>by obtain ⟨vb,B,e,q⟩:=t3 j x c a b;exact ⟨vb,B,e,q.stays hst⟩⟩,⟨D,r1.stays hst⟩,h.dd,fun i hi=>hC.old (h.oo i hi),h.oR⟩
theorem PD.grow (h:PD mR M r vl s P vc vt vr) (hC:Chg [] M M'):PD mR M' r vl s P vc vt vr:=h.call (hC.weak (by simp)) (h.hd.chg hC (by simp))
end
section
variable {mR:NH} {vl vc vt vr:NV} {r:D4} {M:NH} {s:Rs} {P:Ps}
theorem mI (h:PD mR M r vl s P vc vt vr) {v:NV} {M5 M6:NH} {c:List Nat×Int} (h5:Chg [] M M5) (hv:bL mR M6 v 2 (qg P.cs++ [[.str c.1,ii c.2]])) (h6:Chg (ids vc) M5 M6) (hF:gn M5 vc v):
 PD mR (hp [(.o r,.cells true [vl,ii s.a,ii s.e,ii s.b,.bool P.rd,v,vt,vr])] 0 M6) r vl s ⟨P.cs++ [c],P.ts,P.rc,P.rd⟩ v vt vr:=by
 have h:=h.grow h5
 have o5:=h.oo
 have hr6:aC M6 r:=h6.old h.hd.o
 have hC:Chg [r] M6 (hp [(.o r,.cells true [vl,ii s.a,ii s.e,ii s.b,.bool P.rd,v,vt,vr])] 0 M6):=an rfl
 obtain ⟨C,t1,t2,t3⟩:=h.tt
 obtain ⟨D,r1⟩:=h.rr
 have hvt:∀i∈ids vt,i∉ids vc:=fun i hi hc=>h.dd i hc hi
 have nr:∀{v e C M},bL mR M v e C->∀i∈ids v,i∉ [r]:=fun hv i hi hs=>by
  simp only[List.mem_cons,List.not_mem_nil,or_false] at hs;subst hs;exact hv.new _ hi h.oR
 have hS:∀{w:NV} {l:List Stm} {C:List (List NV)},SS M5 (TP mR vc vt) w l C->SS (hp [(.o r,.cells true [vl,ii s.a,ii s.e,ii s.b,.bool P.rd,v,vt,vr])] 0 M6) (TP mR v vt) w l C:=fun q=>by
  have q1:SS M5 (fun i=>TP mR vc vt i/\aC M5 i) _ _ _:=⟨q.sl,fun i hi=>⟨q.hT i hi,q.sl.old i hi⟩,q.len,fun i x c a b=>(q.R i x c a b).old⟩
  have q2:=q1.stays (m':=M6) (bi.of h6 fun i hi hs=>hi.1.2.1 hs)
  have q3:=q2.stays (bi.of hC fun i hi hs=>by
   simp only[List.mem_cons,List.not_mem_nil,or_false] at hs;subst hs;exact hi.1.1 h.oR)
  exact q3.weak fun i hi=>⟨hi.1.1,fun a=>(hF i a).elim hi.1.2.1 fun z=>z hi.2,hi.1.2.2⟩
 refine ⟨⟨(aQ hr6).trans ay,aa hr6⟩, ?_,⟨C,(t1.chg h6 hvt).chg hC (nr t1),t2,fun j x c a b=>by obtain ⟨vb,B,e,q⟩:=t3 j x c a b;exact ⟨vb,B,e,hS q⟩⟩,⟨D,hS r1⟩,fun i hi ht=>(hF i hi).elim (fun a=>h.dd i a ht) fun z=>z (t1.sl.old i ht),fun i hi=>hC.old (h6.old (o5 i hi)),h.oR⟩
 have e:qg (P.cs++ [c])=qg P.cs++ [[.str c.1,ii c.2]]:=by simp
 show bL mR _ v 2 (qg (P.cs++ [c]))
 rw[e]
 exact hv.chg hC (nr hv)
theorem zz (h:PD mR M r vl s P vc vt vr) {v vb:NV} {B C:List (List NV)} {M6:NH} {n:List Nat} {b:List Stm} (hb:SS M (TP mR vc vt) vb b B) (t1:bL mR M vt 2 C) (t2:C.length=P.ts.length) (t3:∀(j:Nat) (x:List Nat×List Stm) (c:List NV),P.ts[j]? =some x->C[j]? =some c->∃vb B,c= [.str x.1,vb]/\SS M (TP mR vc vt) vb x.2 B)
 (hv':bL mR M6 v 2 (C++ [[.str n,vb]])) (h6:Chg (ids vt) M M6) (hF:gn M vt v):
 PD mR (hp [(.o r,.cells true [vl,ii s.a,ii s.e,ii s.b,.bool P.rd,vc,v,vr])] 0 M6) r vl s ⟨P.cs,P.ts++ [(n,b)],P.rc,P.rd⟩ vc v vr:=by
 have o5:=h.oo
 have hr6:aC M6 r:=h6.old h.hd.o
 have hC:Chg [r] M6 (hp [(.o r,.cells true [vl,ii s.a,ii s.e,ii s.b,.bool P.rd,vc,v,vr])] 0 M6):=an rfl
 obtain ⟨D,r1⟩:=h.rr
 have nr:∀{v e C M},bL mR M v e C->∀i∈ids v,i∉ [r]:=fun hv i hi hs=>by
  simp only[List.mem_cons,List.not_mem_nil,or_false] at hs;subst hs;exact hv.new _ hi h.oR
 have hS:∀{w:NV} {l:List Stm} {C:List (List NV)},SS M (TP mR vc vt) w l C->SS (hp [(.o r,.cells true [vl,ii s.a,ii s.e,ii s.b,.bool P.rd,vc,v,vr])] 0 M6) (TP mR vc v) w l C:=fun q=>by
  have q1:SS M (fun i=>TP mR vc vt i/\aC M i) _ _ _:=⟨q.sl,fun i hi=>⟨q.hT i hi,q.sl.old i hi⟩,q.len,fun i x c a b=>(q.R i x c a b).old⟩
  have q2:=q1.stays (m':=M6) (bi.of h6 fun i hi hs=>hi.1.2.2 hs)
  have q3:=q2.stays (bi.of hC fun i hi hs=>by
   simp only[List.mem_cons,List.not_mem_nil,or_false] at hs;subst hs;exact hi.1.1 h.oR)
  exact q3.weak fun i hi=>⟨hi.1.1,hi.1.2.1,fun a=>(hF i a).elim hi.1.2.2 fun z=>z hi.2⟩
 refine ⟨⟨(aQ hr6).trans ay,aa hr6⟩,(h.cc.chg h6 h.dd).chg hC (nr h.cc),⟨C++ [[.str n,vb]],hv'.chg hC (nr hv'),by simp[t2],fun j x c a b'=> ?_⟩,⟨D,hS r1⟩,fun i hi ht=>(hF i ht).elim (fun a=>h.dd i hi a) fun z=>z (h.cc.sl.old i hi),fun i hi=>hC.old (h6.old (o5 i hi)),h.oR⟩
 rcases Nat.lt_or_ge j P.ts.length with q|q
 ·rw[List.getElem?_append_left q] at a
  rw[List.getElem?_append_left (by omega)] at b'
  obtain ⟨w,B2,e,q2⟩:=t3 j x c a b'
  exact ⟨w,B2,e,hS q2⟩
 ·rw[List.getElem?_append_right q] at a
  rw[List.getElem?_append_right (by omega),t2] at b'
  cases hj:j - P.ts.length with
  |zero=>rw[hj] at a b';cases a;cases b';exact ⟨vb,B,rfl,hS hb⟩
  |succ k=>rw[hj] at a;simp at a
theorem CO (h:PD mR M r vl s P vc vt vr) {v:NV} {C:List (List NV)} {b:List Stm} (hb:SS M (TP mR vc vt) v b C) {l:List (AK×NO)} (hl:∀i∈aU l,i=r):
 PD mR (hp ((.o r,.cells true [vl,ii s.a,ii s.e,ii s.b,.bool true,vc,vt,v])::l) 0 M) r vl s ⟨P.cs,P.ts,b,true⟩ vc vt v:=by
 have hC:Chg [r] M (hp ((.o r,.cells true [vl,ii s.a,ii s.e,ii s.b,.bool true,vc,vt,v])::l) 0 M):=(an rfl).weak fun i hi _=>by
  simp only[aU,List.mem_cons] at hi ⊢
  rcases hi with rfl|hi
  ·exact Or.inl rfl
  ·exact Or.inl (hl i hi)
 have nr:∀{v e C M},bL mR M v e C->∀i∈ids v,i∉ [r]:=fun hv i hi hs=>by
  simp only[List.mem_cons,List.not_mem_nil,or_false] at hs;subst hs;exact hv.new _ hi h.oR
 obtain ⟨D,t1,t2,t3⟩:=h.tt
 have hst:bi (TP mR vc vt) M (hp ((.o r,.cells true [vl,ii s.a,ii s.e,ii s.b,.bool true,vc,vt,v])::l) 0 M):=bi.of hC fun i hi hs=>by
  simp only[List.mem_cons,List.not_mem_nil,or_false] at hs;subst hs;exact hi.1 h.oR
 exact ⟨⟨(aQ h.hd.o).trans ay,aa h.hd.o⟩,h.cc.chg hC (nr h.cc),⟨D,t1.chg hC (nr t1),t2,fun j x c a b=>by obtain ⟨w,B,e,q⟩:=t3 j x c a b;exact ⟨w,B,e,q.stays hst⟩⟩,⟨C,hb.stays hst⟩,h.dd,fun i hi=>hC.old (h.oo i hi),h.oR⟩
end
section
variable {m0 mR:NH} {L:List Tok} {vl vc vt vr:NV} {r:D4}
theorem KJ (hc:RC m0 L vl r) (h0R:∀i,aC m0 i->aC mR i) {m:NH} {s:Rs} {P:Ps} (h0:Chg [] m0 m) (hp0:PD mR m r vl s P vc vt vr) (ha:s.a<=L.length) (hcs:P.cs.length<=100000) (hts:P.ts.length<=100000):
 ∃m',bI Try.prog S0 47 [.ptr r 0] m (.tup []) m'/\Chg [] m0 m'/\∃vc' vt' vr',PD mR m' r vl (eF L P s).2 (eF L P s).1 vc' vt' vr':=by
 refine WF.ex1 fun K hK=> ?_
 refine WF.of_wpG (fun _=>rfl) yF (L:= [(.e,.ptr r 0)]) rfl ?_
 unfold H6
 have hll:=hc.len
 have hbase:∀{M M':NH},Chg [] m0 M->Chg [r] M M'->Chg [] m0 M':=fun h h'=>hc.chg h h'
 simp (config:={maxSteps:=1000000}) (disch:=first|assumption|omega|exact ab (by omega)|exact aa (by assumption)|(simp only[ao]<;>omega)) only[go_sem,seval,ai]
 refine WF.use1H (da hc h0 hp0.hd [99,101,108,108] (by simp) (by omega)) ?_
 rintro M1 ⟨hd1,hC1⟩
 unfold eF at hK
 cases hb:a6 L [99,101,108,108] s with
 |true=>
  rw[hb,if_pos rfl] at hd1 hK
  have hlt:=(bA hb).2
  have hp1:=hp0.call hC1 hd1
  have h01:=hbase h0 hC1
  simp (config:={maxSteps:=1000000}) (disch:=first|assumption|omega|exact ab (by omega)|exact aa (by assumption)|(simp only[ao]<;>omega)) only[go_sem,seval,ai]
  refine WF.use1H (ld hc h01 hp1.hd (by have:(am s).a=s.a+1:=rfl;omega)) ?_
  rintro M2 ⟨hd2,hC2⟩
  have hp2:=hp1.call hC2 hd2
  have h02:=hbase h01 hC2
  have hlim2:=(cq L (am s)).lim hlt
  unfold pS at hK
  generalize a9 L (am s)=q at hd2 hp2 hlim2 hK
  obtain ⟨n,s2⟩:=q
  dsimp only at hd2 hp2 hlim2 hK
  simp (config:={maxSteps:=1000000}) (disch:=first|assumption|omega|exact ab (by omega)|exact aa (by assumption)|(simp only[ao]<;>omega)) only[go_sem,seval]
  generalize hM3:hp _ 1 M2=M3
  have hC3:Chg [] M2 M3:=by rw[←hM3];exact an rfl
  have hg3:M3.get (na M2 0)=some (.cells true [.str n,ii 1]):=by rw[←hM3];exact ax
  have ho3:aC M3 (na M2 0):=by rw[←hM3];exact ab (by omega)
  have hp3:=hp2.grow hC3
  have h03:=h02.trans hC3 (by simp)
  refine WF.use1H (da hc h03 hp3.hd [91] (by simp) (by omega)) ?_
  rintro M4 ⟨hd4,hC4⟩
  have hr2:na M2 0≠r:=fun e=>hp2.hd.o.ne 0 e.symm
  have hp4:=hp3.call hC4 hd4
  have h04:=hbase h03 hC4
  have hg4:=(hC4.get ho3 (by simpa using hr2)).trans hg3
  have ho4:=hC4.old ho3
  cases hb4:a6 L [91] s2 with
  |true=>
   rw[hb4,if_pos rfl] at hK hd4
   have hlt4:=(bA hb4).2
   have he4:=(bA hb4).1
   have hC24:Chg [r] M2 M4:=(hC3.weak (by simp)).trans hC4 fun _ h _=>h
   have hp4:=hp2.call hC24 hd4
   simp (config:={maxSteps:=1000000}) (disch:=first|assumption|omega|exact ab (by omega)|exact aa (by assumption)|(simp only[ao]<;>omega)) only[go_sem,seval,ai]
   refine WF.use1H (iO hc h04 hp4.hd) ?_
   intro M5 hC5
   have hC25:Chg [r] M2 M5:=hC24.trans hC5 (by simp)
   have hp5:=hp4.grow hC5
   have h05:=h04.trans hC5 (by simp)
   have hg5:=(hC5.get ho4 (by simp)).trans hg4
   have ho5:=hC5.old ho4
   have hl:(Tok.l (aO L (am s2).a)).length=4:=rfl
   have hdg:=hp5.hd.g
   have hdo:=hp5.hd.o
   have he5:(am s2).e=0:=he4
   have hlim5:(am s2).a<=L.length:=hlt4
   have hst:1<=(aO L (am s2).a).k/\(aO L (am s2).a).k<=4->St L (am s2) (am (am s2)):=fun h=>gQ (lu (by omega)) he5 h
   generalize hT:aO L (am s2).a=T at hK hl hst
   generalize hs3:am s2=s3 at hK hp5 hdg he5 hlim5 hst
   have rest:∀{M6:NH} {s6:Rs} {z:Int},Chg [r] M2 M6->RD M6 r vl s6 [.bool P.rd,vc,vt,vr]->s6.a<=L.length->M6.get (na M2 0)=some (.cells true [.str n,ii z])->aC M6 (na M2 0)->
    ∃m',bI Try.prog S0 87 [.ptr r 0,.str [93]] M6 (.tup []) m'/\PD mR m' r vl (a7 L [93] s6) P vc vt vr/\Chg [] m0 m'/\(a7 L [93] s6).a<=L.length/\m'.get (na M2 0)=some (.cells true [.str n,ii z])/\aC m' (na M2 0):=by
    intro M6 s6 z q1 q2 q3 q4 q5
    obtain ⟨m',w1,w2,w3⟩:=fU hc (hbase h02 q1) q2 [93] (by simp) (by omega)
    have w4:Chg [r] M2 m':=q1.trans w3 fun _ h _=>h
    exact ⟨m',w1,hp2.call w4 w2,hbase h02 w4,(bO L [93] s6).lim q3,(w3.get q5 (by simpa using hr2)).trans q4,w3.old q5⟩
   have hr2':r≠na M2 0:=fun e=>hr2 e.symm
   have hbn:∀{l:List (AK×NO)} {k:Nat},(∀i∈aU l,i=r∨i=na M2 0)->Chg [r] M2 (hp l k M5):=fun hl=>hC25.trans (an rfl) fun i hi ho=>(hl i hi).elim (fun h=>by simp[h]) fun h=>absurd (h▸ho) aI
   by_cases hk:T.k=2
   ·rw[if_pos hk] at hK
    have hst6:=(hst (by omega)).lim hlim5
    by_cases hn:T.n<1048576
    ·have hz:bC T=(T.n:Int):=by unfold bC;rw[if_pos hn]
     rw[hz] at hK
     simp (config:={maxSteps:=1000000}) (disch:=first|assumption|omega|exact ab (by omega)|exact aa (by assumption)|(simp only[ao]<;>omega)) only[go_sem,seval,hl,pI,Lt,hdg,hg5]
     generalize hM6:hp _ 1 M5=M6
     have hC26:Chg [r] M2 M6:=by rw[←hM6];exact hbn (by simp[aU])
     have hd6:RD M6 r vl (am s3) [.bool P.rd,vc,vt,vr]:=⟨by rw[←hM6];exact (aQ hdo).trans ay,by rw[←hM6];exact aa hdo⟩
     have hg6:M6.get (na M2 0)=some (.cells true [.str n,ii T.n]):=by rw[←hM6];exact (aQ ho5).trans ((bc hr2).trans ay)
     have ho6:aC M6 (na M2 0):=by rw[←hM6];exact aa ho5
     refine WF.use1 (rest hC26 hd6 hst6 hg6 ho6) ?_
     rintro M7 ⟨hp7,h07,hlim7,hg7,ho7⟩
     simp (config:={maxSteps:=1000000}) (disch:=first|assumption|omega|exact ab (by omega)|exact aa (by assumption)|(simp only[ao]<;>omega)) only[go_sem,seval]
     refine WF.use1H (fU hc h07 hp7.hd [59] (by simp) (by omega)) ?_
     rintro M5 ⟨hd5,hC5⟩
     have hp5:=hp7.call hC5 hd5
     have h05:=hbase h07 hC5
     have hg5:=(hC5.get ho7 (by simpa using hr2)).trans hg7
     have ho5:=hC5.old ho7
     have hdg:=hp5.hd.g
     have hdo:=hp5.hd.o
     have hcl:=hp5.cc.sl.one
     have hcs':=hp5.cc.sl.same (n:=3)
     simp (config:={maxSteps:=1000000}) (disch:=first|assumption|omega|exact ab (by omega)|exact aa (by assumption)|(simp only[ao]<;>omega)) only[go_sem,seval,hg5,hdg,hcl,hcs']
     have hC6:Chg [] M5 (hp [(.n 0,.cells true [.str n,ii T.n])] 1 M5):=an rfl
     refine gv (cs:= [.str n,ii T.n]) (B:=mR) (hp5.cc.chg hC6 fun _ _=>by simp) ax (ab (by omega)) rfl (fun i hi=>hC6.old (hp5.oo i hi)) (by simp;omega) (by simp;omega) ?_
     intro v6 M6 hv6 hC7 hF6
     have hg6:=(hC7.get (hC6.old hdo) (fun h=>hp5.cc.new _ h hp5.oR)).trans ((hC6.get hdo (by simp)).trans hdg)
     have ho6:=hC7.old (hC6.old hdo)
     have hPD:=mI (c:=(n,(T.n:Int))) hp5 hC6 hv6 hC7 hF6
     simp (config:={maxSteps:=1000000}) (disch:=first|assumption|omega|exact ab (by omega)|exact aa (by assumption)|(simp only[ao]<;>omega)) only[go_sem,seval,hg6,hv6.sl.one]
     refine hK _ ⟨?_,v6,vt,vr,hPD⟩
     refine ((h05.trans hC6 (by simp)).trans hC7 fun i hi ho=>absurd (h0R i ho) (hp5.cc.new i hi)).trans (an rfl) fun i hi ho=> ?_
     simp only[aU,List.mem_cons,List.not_mem_nil,or_false] at hi
     subst hi;exact absurd ho hc.no
    ·have hz:bC T=1048576:=by unfold bC;rw[if_neg hn]
     rw[hz] at hK
     simp (config:={maxSteps:=1000000}) (disch:=first|assumption|omega|exact ab (by omega)|exact aa (by assumption)|(simp only[ao]<;>omega)) only[go_sem,seval,hl,pI,Lt,hdg,hg5]
     generalize hM6:hp _ 1 M5=M6
     have hC26:Chg [r] M2 M6:=by rw[←hM6];exact hbn (by simp[aU])
     have hd6:RD M6 r vl (am s3) [.bool P.rd,vc,vt,vr]:=⟨by rw[←hM6];exact (aQ hdo).trans ay,by rw[←hM6];exact aa hdo⟩
     have hg6:M6.get (na M2 0)=some (.cells true [.str n,ii 1048576]):=by rw[←hM6];exact (aQ ho5).trans ((bc hr2).trans ay)
     have ho6:aC M6 (na M2 0):=by rw[←hM6];exact aa ho5
     refine WF.use1 (rest hC26 hd6 hst6 hg6 ho6) ?_
     rintro M7 ⟨hp7,h07,hlim7,hg7,ho7⟩
     simp (config:={maxSteps:=1000000}) (disch:=first|assumption|omega|exact ab (by omega)|exact aa (by assumption)|(simp only[ao]<;>omega)) only[go_sem,seval]
     refine WF.use1H (fU hc h07 hp7.hd [59] (by simp) (by omega)) ?_
     rintro M5 ⟨hd5,hC5⟩
     have hp5:=hp7.call hC5 hd5
     have h05:=hbase h07 hC5
     have hg5:=(hC5.get ho7 (by simpa using hr2)).trans hg7
     have ho5:=hC5.old ho7
     have hdg:=hp5.hd.g
     have hdo:=hp5.hd.o
     have hcl:=hp5.cc.sl.one
     have hcs':=hp5.cc.sl.same (n:=3)
     simp (config:={maxSteps:=1000000}) (disch:=first|assumption|omega|exact ab (by omega)|exact aa (by assumption)|(simp only[ao]<;>omega)) only[go_sem,seval,hg5,hdg,hcl,hcs']
     have hC6:Chg [] M5 (hp [(.n 0,.cells true [.str n,ii 1048576])] 1 M5):=an rfl
     refine gv (cs:= [.str n,ii 1048576]) (B:=mR) (hp5.cc.chg hC6 fun _ _=>by simp) ax (ab (by omega)) rfl (fun i hi=>hC6.old (hp5.oo i hi)) (by simp;omega) (by simp;omega) ?_
     intro v6 M6 hv6 hC7 hF6
     have hg6:=(hC7.get (hC6.old hdo) (fun h=>hp5.cc.new _ h hp5.oR)).trans ((hC6.get hdo (by simp)).trans hdg)
     have ho6:=hC7.old (hC6.old hdo)
     have hPD:=mI (c:=(n,1048576)) hp5 hC6 hv6 hC7 hF6
     simp (config:={maxSteps:=1000000}) (disch:=first|assumption|omega|exact ab (by omega)|exact aa (by assumption)|(simp only[ao]<;>omega)) only[go_sem,seval,hg6,hv6.sl.one]
     refine hK _ ⟨?_,v6,vt,vr,hPD⟩
     refine ((h05.trans hC6 (by simp)).trans hC7 fun i hi ho=>absurd (h0R i ho) (hp5.cc.new i hi)).trans (an rfl) fun i hi ho=> ?_
     simp only[aU,List.mem_cons,List.not_mem_nil,or_false] at hi
     subst hi;exact absurd ho hc.no
   ·rw[if_neg hk] at hK
    simp (config:={maxSteps:=1000000}) (disch:=first|assumption|omega|exact ab (by omega)|exact aa (by assumption)|(simp only[ao]<;>omega)) only[go_sem,seval,hl,pI,Lt,hdg,hg5]
    generalize hM6:hp _ 1 M5=M6
    have hC6:Chg [] M5 M6:=by rw[←hM6];exact an rfl
    refine WF.use1 (gL (hp5.grow hC6).hd 2) ?_
    rintro M6' ⟨hd6,hC6'⟩
    have hC26:Chg [r] M2 M6':=(hC25.trans hC6 (by simp)).trans hC6' fun _ h _=>h
    have hg6:=(hC6'.get (hC6.old ho5) (by simpa using hr2)).trans ((hC6.get ho5 (by simp)).trans hg5)
    have ho6:=hC6'.old (hC6.old ho5)
    simp (config:={maxSteps:=1000000}) (disch:=first|assumption|omega|exact ab (by omega)|exact aa (by assumption)|(simp only[ao]<;>omega)) only[go_sem,seval]
    refine WF.use1 (rest hC26 hd6 ((bU L 2 s3).lim hlim5) hg6 ho6) ?_
    rintro M7 ⟨hp7,h07,hlim7,hg7,ho7⟩
    simp (config:={maxSteps:=1000000}) (disch:=first|assumption|omega|exact ab (by omega)|exact aa (by assumption)|(simp only[ao]<;>omega)) only[go_sem,seval]
    refine WF.use1H (fU hc h07 hp7.hd [59] (by simp) (by omega)) ?_
    rintro M5 ⟨hd5,hC5⟩
    have hp5:=hp7.call hC5 hd5
    have h05:=hbase h07 hC5
    have hg5:=(hC5.get ho7 (by simpa using hr2)).trans hg7
    have ho5:=hC5.old ho7
    have hdg:=hp5.hd.g
    have hdo:=hp5.hd.o
    have hcl:=hp5.cc.sl.one
    have hcs':=hp5.cc.sl.same (n:=3)
    simp (config:={maxSteps:=1000000}) (disch:=first|assumption|omega|exact ab (by omega)|exact aa (by assumption)|(simp only[ao]<;>omega)) only[go_sem,seval,hg5,hdg,hcl,hcs']
    have hC6:Chg [] M5 (hp [(.n 0,.cells true [.str n,ii 1])] 1 M5):=an rfl
    refine gv (cs:= [.str n,ii 1]) (B:=mR) (hp5.cc.chg hC6 fun _ _=>by simp) ax (ab (by omega)) rfl (fun i hi=>hC6.old (hp5.oo i hi)) (by simp;omega) (by simp;omega) ?_
    intro v6 M6 hv6 hC7 hF6
    have hg6:=(hC7.get (hC6.old hdo) (fun h=>hp5.cc.new _ h hp5.oR)).trans ((hC6.get hdo (by simp)).trans hdg)
    have ho6:=hC7.old (hC6.old hdo)
    have hPD:=mI (c:=(n,1)) hp5 hC6 hv6 hC7 hF6
    simp (config:={maxSteps:=1000000}) (disch:=first|assumption|omega|exact ab (by omega)|exact aa (by assumption)|(simp only[ao]<;>omega)) only[go_sem,seval,hg6,hv6.sl.one]
    refine hK _ ⟨?_,v6,vt,vr,hPD⟩
    refine ((h05.trans hC6 (by simp)).trans hC7 fun i hi ho=>absurd (h0R i ho) (hp5.cc.new i hi)).trans (an rfl) fun i hi ho=> ?_
    simp only[aU,List.mem_cons,List.not_mem_nil,or_false] at hi
    subst hi;exact absurd ho hc.no
  |false=>
   rw[hb4,if_neg Bool.false_ne_true] at hK hd4
   have hp4:=hp3.call hC4 hd4
   simp (config:={maxSteps:=1000000}) (disch:=first|assumption|omega|exact ab (by omega)|exact aa (by assumption)|(simp only[ao]<;>omega)) only[go_sem,seval,ai]
   refine WF.use1H (fU hc h04 hp4.hd [59] (by simp) (by omega)) ?_
   rintro M5 ⟨hd5,hC5⟩
   have hp5:=hp4.call hC5 hd5
   have h05:=hbase h04 hC5
   have hg5:=(hC5.get ho4 (by simpa using hr2)).trans hg4
   have ho5:=hC5.old ho4
   have hdg:=hp5.hd.g
   have hdo:=hp5.hd.o
   have hcl:=hp5.cc.sl.one
   have hcs':=hp5.cc.sl.same (n:=3)
   simp (config:={maxSteps:=1000000}) (disch:=first|assumption|omega|exact ab (by omega)|exact aa (by assumption)|(simp only[ao]<;>omega)) only[go_sem,seval,hg5,hdg,hcl,hcs']
   have hC6:Chg [] M5 (hp [(.n 0,.cells true [.str n,ii 1])] 1 M5):=an rfl
   refine gv (cs:= [.str n,ii 1]) (B:=mR) (hp5.cc.chg hC6 fun _ _=>by simp) ax (ab (by omega)) rfl (fun i hi=>hC6.old (hp5.oo i hi)) (by simp;omega) (by simp;omega) ?_
   intro v6 M6 hv6 hC7 hF6
   have hg6:=(hC7.get (hC6.old hdo) (fun h=>hp5.cc.new _ h hp5.oR)).trans ((hC6.get hdo (by simp)).trans hdg)
   have ho6:=hC7.old (hC6.old hdo)
   have hPD:=mI (c:=(n,1)) hp5 hC6 hv6 hC7 hF6
   simp (config:={maxSteps:=1000000}) (disch:=first|assumption|omega|exact ab (by omega)|exact aa (by assumption)|(simp only[ao]<;>omega)) only[go_sem,seval,hg6,hv6.sl.one]
   refine hK _ ⟨?_,v6,vt,vr,hPD⟩
   refine ((h05.trans hC6 (by simp)).trans hC7 fun i hi ho=>absurd (h0R i ho) (hp5.cc.new i hi)).trans (an rfl) fun i hi ho=> ?_
   simp only[aU,List.mem_cons,List.not_mem_nil,or_false] at hi
   subst hi;exact absurd ho hc.no
 |false=>
  have ne1:¬(a6 L [99,101,108,108] s=true):=by rw[hb];exact Bool.false_ne_true
  rw[hb,if_neg Bool.false_ne_true] at hd1
  rw[if_neg ne1] at hK
  have hp1:=hp0.call hC1 hd1
  have h01:=hbase h0 hC1
  simp (config:={maxSteps:=1000000}) (disch:=first|assumption|omega|exact ab (by omega)|exact aa (by assumption)|(simp only[ao]<;>omega)) only[go_sem,seval,ai]
  refine WF.use1H (da hc h01 hp1.hd [116,104,114,101,97,100] (by simp) (by omega)) ?_
  rintro M2 ⟨hd2,hC2⟩
  have h02:=hbase h01 hC2
  have tpw:∀{M:NH},PD mR M r vl s P vc vt vr->True:=fun _=>trivial
  cases hb2:a6 L [116,104,114,101,97,100] s with
  |true=>
   rw[hb2,if_pos rfl] at hd2 hK
   have hlt:=(bA hb2).2
   have hp2:=hp1.call hC2 hd2
   simp (config:={maxSteps:=1000000}) (disch:=first|assumption|omega|exact ab (by omega)|exact aa (by assumption)|(simp only[ao]<;>omega)) only[go_sem,seval,ai]
   refine WF.use1H (ld hc h02 hp2.hd (by have:(am s).a=s.a+1:=rfl;omega)) ?_
   rintro M3 ⟨hd3,hC3⟩
   have hp3:=hp2.call hC3 hd3
   have h03:=hbase h02 hC3
   have hlim3:=(cq L (am s)).lim hlt
   unfold kF at hK
   generalize a9 L (am s)=q at hd3 hp3 hlim3 hK
   obtain ⟨n,s3⟩:=q
   dsimp only at hd3 hp3 hlim3 hK
   simp (config:={maxSteps:=1000000}) (disch:=first|assumption|omega|exact ab (by omega)|exact aa (by assumption)|(simp only[ao]<;>omega)) only[go_sem,seval]
   generalize hM4:hp _ 1 M3=M4
   have hC4:Chg [] M3 M4:=by rw[←hM4];exact an rfl
   have hg4:M4.get (na M3 0)=some (.cells true [.str n,.nils]):=by rw[←hM4];exact ax
   have ho4:aC M4 (na M3 0):=by rw[←hM4];exact ab (by omega)
   have hr3:na M3 0≠r:=fun e=>hp3.hd.o.ne 0 e.symm
   have hp4:=hp3.grow hC4
   have h04:=h03.trans hC4 (by simp)
   refine WF.useH (Du hc 30 (Nat.le_refl _) h04 hp4.hd hlim3) ?_
   rintro v5 M5 ⟨⟨C5,hb5⟩,hd5,hC5⟩
   generalize di L 30 s3=q at hb5 hd5 hK
   obtain ⟨b,s5⟩:=q
   dsimp only at hb5 hd5 hK
   have hg5:=(hC5.get ho4 (by simpa using hr3)).trans hg4
   have ho5:=hC5.old ho4
   have hC35:Chg [r] M3 M5:=(hC4.weak (by simp)).trans hC5 fun _ h _=>h
   have hp5:=hp3.call hC35 hd5
   have hdg:=hp5.hd.g
   have hdo:=hp5.hd.o
   obtain ⟨CT,t1,t2,-⟩:=hp5.tt
   have hcl:=t1.sl.one
   have hcs':=t1.sl.same (n:=3)
   have hr3':r≠na M3 0:=fun e=>hr3 e.symm
   obtain ⟨CT4,t41,-,-⟩:=hp4.tt
   have hbT:SS M5 (fun i=>TP mR vc vt i/\i≠na M3 0) v5 b C5:=hb5.weak fun i hi=>⟨⟨fun h=>hi (hp4.oo i h),fun h=>hi (hp4.cc.sl.old i h),fun h=>hi (t41.sl.old i h)⟩,fun h=>hi (h▸ho4)⟩
   simp (config:={maxSteps:=1000000}) (disch:=first|assumption|omega|exact ab (by omega)|exact aa (by assumption)|(simp only[ao]<;>omega)) only[go_sem,seval,hg5,hdg,hb5.sl.one,hcl,hcs']
   have hCb:Chg [na M3 0] M5 (hp [(.n 0,.cells true [.str n,v5]),(.o (na M3 0),.cells true [.str n,v5])] 1 M5):=an rfl
   have hxb:(hp [(.n 0,.cells true [.str n,v5]),(.o (na M3 0),.cells true [.str n,v5])] 1 M5).get (na M5 0)=some (.cells true [.str n,v5]):=ax
   have hob:aC (hp [(.n 0,.cells true [.str n,v5]),(.o (na M3 0),.cells true [.str n,v5])] 1 M5) (na M5 0):=ab (by omega)
   generalize hp [(.n 0,.cells true [.str n,v5]),(.o (na M3 0),.cells true [.str n,v5])] 1 M5=Mb at hCb hxb hob ⊢
   have hCb3:Chg [r] M3 Mb:=hC35.trans hCb fun i hi ho=>by
    simp only[List.mem_cons,List.not_mem_nil,or_false] at hi;subst hi;exact absurd ho aI
   have hpb:=hp3.call hCb3 (hd5.chg hCb (by simpa using hr3'))
   have h0b:=hbase h03 hCb3
   have hbb:SS Mb (TP mR vc vt) v5 b C5:=(hbT.stays (bi.of hCb fun i hi hs=>by
    simp only[List.mem_cons,List.not_mem_nil,or_false] at hs;exact hi.2 hs)).weak fun i hi=>hi.1
   obtain ⟨CTb,tb1,tb2,tb3⟩:=hpb.tt
   have hdgb:=hpb.hd.g
   have hdob:=hpb.hd.o
   refine gv (cs:= [.str n,v5]) (B:=mR) tb1 hxb hob rfl (fun i hi=>hpb.oo i hi) (by omega) (by omega) ?_
   intro v6 M6 hv6 hC7 hF6
   have hg6:=(hC7.get hdob (fun h=>tb1.new _ h hpb.oR)).trans hdgb
   have ho6:=hC7.old hdob
   have hPD:=zz (n:=n) hpb hbb tb1 tb2 tb3 hv6 hC7 hF6
   simp (config:={maxSteps:=1000000}) (disch:=first|assumption|omega|exact ab (by omega)|exact aa (by assumption)|(simp only[ao]<;>omega)) only[go_sem,seval,hg6,hv6.sl.one]
   refine hK _ ⟨?_,vc,v6,vr,hPD⟩
   refine (h0b.trans hC7 fun i hi ho=>absurd (h0R i ho) (tb1.new i hi)).trans (an rfl) fun i hi ho=> ?_
   simp only[aU,List.mem_cons,List.not_mem_nil,or_false] at hi
   subst hi;exact absurd ho hc.no
  |false=>
   have ne2:¬(a6 L [116,104,114,101,97,100] s=true):=by rw[hb2];exact Bool.false_ne_true
   rw[hb2,if_neg Bool.false_ne_true] at hd2
   rw[if_neg ne2] at hK
   have hp2:=hp1.call hC2 hd2
   have hdg:=hp2.hd.g
   have hl0:(aO L s.a).l[0]? =some (ii (aO L s.a).k):=rfl
   have hl1:(aO L s.a).l[1]? =some (.str (aO L s.a).t):=rfl
   unfold Ch at hK
   have fin:∀{M:NH},PD mR M r vl (bg L P.rd s) P vc vt vr->Chg [] m0 M->∃m',bI Try.prog S0 87 [.ptr r 0,.str ei] M (.tup []) m'/\PD mR m' r vl (a7 L ei (bg L P.rd s)) P vc vt vr/\Chg [] m0 m':=by
    intro M q1 q2
    have ha2:(bg L P.rd s).a<=100000:=by
     have h1:St L s (bg L P.rd s):=by unfold bg;split;exact bU _ _ _;exact St.refl _ _
     have:=h1.lim ha
     omega
    obtain ⟨m',w1,w2,w3⟩:=fU hc q2 q1.hd ei (by simp) ha2
    exact ⟨m',w1,q1.call w3 w2,hbase q2 w3⟩
   have hst3:(a7 L ei (bg L P.rd s)).a<=L.length:=by
    have h1:St L s (bg L P.rd s):=by unfold bg;split;exact bU _ _ _;exact St.refl _ _
    exact (h1.trans (bO _ _ _)).lim ha
   have fin2:∀{M:NH},PD mR M r vl (a7 L ei (bg L P.rd s)) P vc vt vr->Chg [] m0 M->PD mR (hp [(.o r,.cells true [vl,ii (a7 L ei (bg L P.rd s)).a,ii (a7 L ei (bg L P.rd s)).e,ii (a7 L ei (bg L P.rd s)).b,.bool true,vc,vt,vr])] 0 M) r vl (a7 L ei (bg L P.rd s)) ⟨P.cs,P.ts,P.rc,true⟩ vc vt vr/\Chg [] m0 (hp [(.o r,.cells true [vl,ii (a7 L ei (bg L P.rd s)).a,ii (a7 L ei (bg L P.rd s)).e,ii (a7 L ei (bg L P.rd s)).b,.bool true,vc,vt,vr])] 0 M):=by
    intro M q1 q2
    obtain ⟨C,q3⟩:=q1.rr
    exact ⟨CO q1 q3 (by simp[aU]),hbase q2 (an rfl)⟩
   have fin3:∀{M:NH},PD mR M r vl (a7 L ei (bg L P.rd s)) ⟨P.cs,P.ts,P.rc,true⟩ vc vt vr->Chg [] m0 M->∃v m',bI Try.prog S0 88 [.ptr r 0,ii 0] M v m'/\cellsOf v=some [v]/\m'.get r=some (.cells true [vl,ii (di L 30 (a7 L ei (bg L P.rd s))).2.a,ii (di L 30 (a7 L ei (bg L P.rd s))).2.e,ii (di L 30 (a7 L ei (bg L P.rd s))).2.b,.bool true,vc,vt,vr])/\aC m' r/\
    K (.tup []) (hp [(.o r,.cells true [vl,ii (di L 30 (a7 L ei (bg L P.rd s))).2.a,ii (di L 30 (a7 L ei (bg L P.rd s))).2.e,ii (di L 30 (a7 L ei (bg L P.rd s))).2.b,.bool true,vc,vt,v])] 0 m'):=by
    intro M q1 q2
    obtain ⟨v,m',w1,⟨C,w2⟩,w3,w4⟩:=Du hc 30 (Nat.le_refl _) q2 q1.hd hst3
    have q3:=q1.call w4 w3
    obtain ⟨CT,t1,-,-⟩:=q1.tt
    have w5:SS m' (TP mR vc vt) v (di L 30 (a7 L ei (bg L P.rd s))).1 C:=w2.weak fun i hi=>⟨fun h=>hi (q1.oo i h),fun h=>hi (q1.cc.sl.old i h),fun h=>hi (t1.sl.old i h)⟩
    refine ⟨v,m',w1,w2.sl.one,w3.g,w3.o,hK _ ⟨(hbase q2 w4).trans (an rfl) fun i hi ho=> ?_,vc,vt,v,CO q3 w5 (by simp[aU])⟩⟩
    simp only[aU,List.mem_cons,List.not_mem_nil,or_false] at hi
    subst hi;exact absurd ho hc.no
   have no:∀{M},PD mR M r vl s P vc vt vr->¬(P.rd=true/\(aO L s.a).k=4/\(aO L s.a).t=ei)->PD mR M r vl (bg L P.rd s) P vc vt vr:=fun h q=>by rw[bg,if_neg q];exact h
   cases hrd:P.rd with
   |false=>
    rw[hrd] at hdg
    simp (config:={maxSteps:=1000000}) (disch:=first|assumption|omega|exact ab (by omega)|exact aa (by assumption)|(simp only[ao]<;>omega)) only[go_sem,seval,hdg,ai]
    refine WF.use1H (fin (no hp2 (by rw[hrd];simp)) h02) ?_
    rintro M7 ⟨hp7,h07⟩
    have hdg7:=hp7.hd.g
    have hdo7:=hp7.hd.o
    obtain ⟨hp8,h08⟩:=fin2 hp7 h07
    obtain ⟨v9,M9,hr9,hv9,hg9,ho9,hK9⟩:=fin3 hp8 h08
    simp (config:={maxSteps:=1000000}) (disch:=first|assumption|omega|exact ab (by omega)|exact aa (by assumption)|(simp only[ao]<;>omega)) only[go_sem,seval,hdg7,hr9.wf,hv9,hg9]
    exact hK9
   |true=>
    rw[hrd] at hdg
    obtain ⟨M3,hr3,hC3⟩:=iO hc h02 hp2.hd
    have hp3:=hp2.grow hC3
    have h03:=h02.trans hC3 (by simp)
    obtain ⟨M4,hr4,hC4⟩:=iO hc h03 hp3.hd
    have hp4:=hp3.grow hC4
    have h04:=h03.trans hC4 (by simp)
    by_cases hk:(aO L s.a).k=4
    ·by_cases ht:(aO L s.a).t=ei
     ·simp (config:={maxSteps:=1000000}) (disch:=first|assumption|omega|exact ab (by omega)|exact aa (by assumption)|(simp only[ao]<;>omega)) only[go_sem,seval,hdg,hr3.wf',hr4.wf',hl0,hl1,ai]
      refine WF.use1 (gL hp4.hd 5) ?_
      rintro M5 ⟨hd5,hC5⟩
      have hp5:=hp4.call hC5 hd5
      have e5:bg L P.rd s=bm 5 s:=by rw[bg,if_pos ⟨hrd,hk,ht⟩]
      simp (config:={maxSteps:=1000000}) (disch:=first|assumption|omega|exact ab (by omega)|exact aa (by assumption)|(simp only[ao]<;>omega)) only[go_sem,seval]
      refine WF.use1H (fin (by rw[e5];exact hp5) (hbase h04 hC5)) ?_
      rintro M7 ⟨hp7,h07⟩
      have hdg7:=hp7.hd.g
      have hdo7:=hp7.hd.o
      obtain ⟨hp8,h08⟩:=fin2 hp7 h07
      obtain ⟨v9,M9,hr9,hv9,hg9,ho9,hK9⟩:=fin3 hp8 h08
      simp (config:={maxSteps:=1000000}) (disch:=first|assumption|omega|exact ab (by omega)|exact aa (by assumption)|(simp only[ao]<;>omega)) only[go_sem,seval,hdg7,hr9.wf,hv9,hg9]
      exact hK9
     ·simp (config:={maxSteps:=1000000}) (disch:=first|assumption|omega|exact ab (by omega)|exact aa (by assumption)|(simp only[ao]<;>omega)) only[go_sem,seval,hdg,hr3.wf',hr4.wf',hl0,hl1,ai]
      refine WF.use1H (fin (no hp4 fun h=>ht h.2.2) h04) ?_
      rintro M7 ⟨hp7,h07⟩
      have hdg7:=hp7.hd.g
      have hdo7:=hp7.hd.o
      obtain ⟨hp8,h08⟩:=fin2 hp7 h07
      obtain ⟨v9,M9,hr9,hv9,hg9,ho9,hK9⟩:=fin3 hp8 h08
      simp (config:={maxSteps:=1000000}) (disch:=first|assumption|omega|exact ab (by omega)|exact aa (by assumption)|(simp only[ao]<;>omega)) only[go_sem,seval,hdg7,hr9.wf,hv9,hg9]
      exact hK9
    ·simp (config:={maxSteps:=1000000}) (disch:=first|assumption|omega|exact ab (by omega)|exact aa (by assumption)|(simp only[ao]<;>omega)) only[go_sem,seval,hdg,hr3.wf',hr4.wf',hl0,hl1,ai]
     refine WF.use1H (fin (no hp3 fun h=>hk h.2.1) h03) ?_
     rintro M7 ⟨hp7,h07⟩
     have hdg7:=hp7.hd.g
     have hdo7:=hp7.hd.o
     obtain ⟨hp8,h08⟩:=fin2 hp7 h07
     obtain ⟨v9,M9,hr9,hv9,hg9,ho9,hK9⟩:=fin3 hp8 h08
     simp (config:={maxSteps:=1000000}) (disch:=first|assumption|omega|exact ab (by omega)|exact aa (by assumption)|(simp only[ao]<;>omega)) only[go_sem,seval,hdg7,hr9.wf,hv9,hg9]
     exact hK9
end
end FR
open Go Nm Go.Proofs
namespace FR
set_option linter.unusedSimpArgs false
set_option linter.unusedVariables false
def cz (L:List Tok):Nat->Ps->Rs->Ps×Rs
 |0,P,s=>(P,s)
 |f+1,P,s=>if s.e≠0 then (P,s) else if (aO L s.a).k=5 then (P,s) else cz L f (eF L P s).1 (eF L P s).2
def hH (b:List Nat):Option Prg×Nat×Nat:=if 16384<b.length then (none,0,3) else match (dC b).2 with
 |some a=>(none,a,2)
 |none=>if (cz (dC b).1 ((dC b).1.length+1) ⟨[], [], [],false⟩ ⟨0,0,0⟩).2.e≠0 then (none,(aO (dC b).1 (cz (dC b).1 ((dC b).1.length+1) ⟨[], [], [],false⟩ ⟨0,0,0⟩).2.b).p,(cz (dC b).1 ((dC b).1.length+1) ⟨[], [], [],false⟩ ⟨0,0,0⟩).2.e)
  else (some ⟨(cz (dC b).1 ((dC b).1.length+1) ⟨[], [], [],false⟩ ⟨0,0,0⟩).1.cs,(cz (dC b).1 ((dC b).1.length+1) ⟨[], [], [],false⟩ ⟨0,0,0⟩).1.ts,(cz (dC b).1 ((dC b).1.length+1) ⟨[], [], [],false⟩ ⟨0,0,0⟩).1.rc⟩,b.length,0)
section
variable {L:List Tok}
theorem rU (s:Rs):St L s (pS L s).2:=by
 unfold pS
 split
 ·rename_i h
  have h1:=(cq L s).trans (ef h)
  split
  ·rename_i h2
   exact ((h1.trans (gQ (lu (by omega)) (bA h).1 (by omega))).trans (bO _ _ _)).trans (bO _ _ _)
  ·exact ((h1.trans (bU _ _ _)).trans (bO _ _ _)).trans (bO _ _ _)
 ·exact (cq L s).trans (bO _ _ _)
theorem qm (s:Rs):St L s (kF L s).2:=(cq L s).trans (eP 30 _)
theorem n6 (q:Bool) (s:Rs):St L s (bg L q s):=by unfold bg;split;exact bU _ _ _;exact St.refl _ _
theorem GY (q:Bool) (s:Rs):St L s (Ch L q s).2:=((n6 q s).trans (bO _ _ _)).trans (eP 30 _)
theorem BP (P:Ps) (s:Rs):St L s (eF L P s).2:=by
 unfold eF
 split
 ·exact (ef ‹_›).trans (rU _)
 ·split
  ·exact (ef ‹_›).trans (qm _)
  ·exact GY _ _
theorem Hn (P:Ps) (s:Rs) (he:s.e=0):s.a<(eF L P s).2.a∨(eF L P s).2.e≠0:=by
 unfold eF
 split
 ·left;have:=(rU (L:=L) (am s)).le;exact this
 ·split
  ·left;have:=(qm (L:=L) (am s)).le;exact this
  ·have hb:=eP (L:=L) 30 (a7 L ei (bg L P.rd s))
   by_cases h:(a7 L ei (bg L P.rd s)).e=0
   ·left
    obtain ⟨h1,h2⟩:=dP h
    have h3:=(n6 (L:=L) P.rd s).le
    have h4:=hb.le
    show s.a<(di L 30 _).2.a
    omega
   ·right;show (di L 30 _).2.e≠0
    rw[hb.err h];exact h
theorem yM (P:Ps) (s:Rs):(eF L P s).1.cs.length+(eF L P s).1.ts.length<=P.cs.length+P.ts.length+1:=by
 unfold eF
 split
 ·simp;omega
 ·split
  ·simp;omega
  ·dsimp only;omega
theorem xD:∀(f:Nat) (P:Ps) (s:Rs),St L s (cz L f P s).2:=by
 intro f
 induction f with
 |zero=>exact fun P s=>St.refl _ _
 |succ f ih=>
  intro P s
  rw[cz]
  split
  ·exact St.refl _ _
  ·split
   ·exact St.refl _ _
   ·exact (BP P s).trans (ih _ _)
def Ps.sz (P:Ps):Nat:=(P.ts.map fun t=>cn t.2).sum+cn P.rc
theorem Ia (P:Ps) (s:Rs) (h:(eF L P s).2.e=0) (hrd:P.rd=false->P.rc= []):(eF L P s).1.sz+4*s.a<=P.sz+4*(eF L P s).2.a/\((eF L P s).1.rd=false->(eF L P s).1.rc= []):=by
 unfold eF at h ⊢
 split
 ·have:=(rU (L:=L) (am s)).le
  have n:(am s).a=s.a+1:=rfl
  refine ⟨?_,hrd⟩
  simp only[Ps.sz];omega
 ·rename_i q;rw[if_neg q] at h
  split
  ·rename_i q2;rw[if_pos q2] at h
   have h1:=xJ (L:=L) 30 (a9 L (am s)).2 h
   have h2:=(cq L (am s)).le
   have n:(am s).a=s.a+1:=rfl
   refine ⟨?_,hrd⟩
   simp only[Ps.sz,List.map_append,List.map_cons,List.map_nil,List.sum_append,List.sum_cons,List.sum_nil,kF];omega
  ·rename_i q2;rw[if_neg q2] at h
   have h1:=xJ (L:=L) 30 _ h
   have h0:=(eP (L:=L) 30 _).zero h
   obtain ⟨h2,h3⟩:=dP h0
   have h4:=(n6 (L:=L) P.rd s).zero h2
   have h5:(bg L P.rd s).a=s.a:=by unfold bg;split;unfold bm;split<;>rfl;rfl
   refine ⟨?_,fun h=>by simp at h⟩
   simp only[Ps.sz,Ch];omega
theorem Fw:∀(f:Nat) (P:Ps) (s:Rs) (a0:Nat),(P.rd=false->P.rc= [])->(s.e=0->P.sz+4*a0<=4*s.a)->(cz L f P s).2.e=0->(cz L f P s).1.sz+4*a0<=4*(cz L f P s).2.a:=by
 intro f
 induction f with
 |zero=>intro P s a0 _ h h2;exact h h2
 |succ f ih=>
  intro P s a0 hrd h
  rw[cz]
  split
  ·intro h2;exact absurd h2 ‹_›
  ·split
   ·intro h2;exact h h2
   ·intro h2
    have h3:=(xD (L:=L) f _ _).zero h2
    have h4:=Ia P s h3 hrd
    refine ih _ _ a0 h4.2 (fun _=> ?_) h2
    have:=h (by omega)
    omega
end
section
variable {m0 mR:NH} {L:List Tok} {vl:NV} {r:D4}
theorem Ao (hc:RC m0 L vl r) (h0R:∀i,aC m0 i->aC mR i) {vb:NV} {X:Ps} {Z:Rs} {M:NH} {P:Ps} {s:Rs} {vc vt vr:NV} (h0:Chg [] m0 M) (hp:PD mR M r vl s P vc vt vr) (ha:s.a<=L.length) (hl:P.cs.length+P.ts.length=0) (hE:cz L (L.length+1) P s=(X,Z))
 {o:D4} {t:Tm} (g1:NT.get D4.e t=some vb) (g2:NT.get D4.e.a.f t=some (.ptr r 0)) (g3:NT.get D4.e.b t=some (.ptr o 0)) (g4:NT.get D4.e.a.a t=some vl) {Q:Out->Dyn->Prop}
 (hQ:∀t' M' vc vt vr,NT.get D4.e t'=some vb->NT.get D4.e.a.f t'=some (.ptr r 0)->NT.get D4.e.b t'=some (.ptr o 0)->NT.get D4.e.a.a t'=some vl->PD mR M' r vl Z X vc vt vr->Chg [] m0 M'->Q (.exit 0) ⟨ak [] t', [],none,M'⟩):
 W Try.prog S0 none qN.loop ⟨t, [],none,M⟩ Q:=by
 refine W.loop (fun k D=>∃t M P s vc vt vr,D=⟨t, [],none,M⟩/\NT.get D4.e t=some vb/\NT.get D4.e.a.f t=some (.ptr r 0)/\NT.get D4.e.b t=some (.ptr o 0)/\NT.get D4.e.a.a t=some vl/\PD mR M r vl s P vc vt vr/\Chg [] m0 M/\s.a<=L.length/\cz L k P s=(X,Z)/\(L.length<k+s.a∨s.e≠0)/\P.cs.length+P.ts.length+k<=L.length+1) ?_ (L.length+1) _ ⟨t,M,P,s,vc,vt,vr,rfl,g1,g2,g3,g4,hp,h0,ha,hE,Or.inl (by omega),by omega⟩
 clear h0 hp ha hl hE g1 g2 g3 g4
 rintro k D ⟨t,M,P,s,vc,vt,vr,rfl,g1,g2,g3,g4,hp,h0,ha,hE,hf,hlk⟩
 apply aK
 unfold qN
 change wp _ _ _ _ ⟨ak [] t, [],none,M⟩ _
 have hll:=hc.len
 have hdg:=hp.hd.g
 by_cases he:s.e=0
 ·obtain ⟨f,rfl⟩:∃f',k=f'+1:=⟨k - 1,by rcases hf with h|h<;>omega⟩
  rw[cz,if_neg (by omega)] at hE
  obtain ⟨M2,hr2,hC2⟩:=iO hc h0 hp.hd
  have hp2:=hp.grow hC2
  have h02:=h0.trans hC2 (by simp)
  have hl0:(aO L s.a).l[0]? =some (ii (aO L s.a).k):=rfl
  by_cases hk:(aO L s.a).k=5
  ·rw[if_pos hk] at hE
   injection hE with e1 e2
   subst e1 e2
   simp (disch:=first|assumption|omega) only[go_sem,seval,g1,g2,g3,g4,hdg,hr2.wf',hl0]
   exact hQ _ M2 vc vt vr (by simp only[go_sem,seval,g1]) (by simp only[go_sem,seval,g2]) (by simp only[go_sem,seval,g3]) (by simp only[go_sem,seval,g4]) hp2 h02
  ·rw[if_neg hk] at hE
   simp (disch:=first|assumption|omega) only[go_sem,seval,g1,g2,g3,g4,hdg,hr2.wf',hl0]
   refine WF.use1 (KJ hc h0R h02 hp2 ha (by omega) (by omega)) ?_
   rintro M3 ⟨h03,vc',vt',vr',hp3⟩
   have hpr:=Hn (L:=L) P s he
   have hlim:=(BP (L:=L) P s).lim ha
   have hlen:=yM (L:=L) P s
   simp (disch:=first|assumption|omega) only[go_sem,seval]
   refine ⟨f,by omega,_,M3,_,_,vc',vt',vr',by rfl,by simp only[go_sem,seval,g1],by simp only[go_sem,seval,g2],by simp only[go_sem,seval,g3],by simp only[go_sem,seval,g4],hp3,h03,hlim,hE, ?_,by omega⟩
   rcases hpr with h|h
   ·left;rcases hf with q|q<;>omega
   ·exact Or.inr h
 ·have hde':decide ((s.e:Int)=0)=false:=decide_eq_false (by omega)
  have hE':(P,s)=(X,Z):=by
   cases k with
   |zero=>exact hE
   |succ k=>rw[cz,if_pos he] at hE;exact hE
  injection hE' with e1 e2
  subst e1 e2
  simp (disch:=first|assumption|omega) only[go_sem,seval,g1,g2,g3,g4,hdg,hde']
  exact hQ _ M vc vt vr (by simp only[go_sem,seval,g1]) (by simp only[go_sem,seval,g2]) (by simp only[go_sem,seval,g3]) (by simp only[go_sem,seval,g4]) hp h0
theorem B4:∀(l:List Tok) (b:List Nat) (w:Int),Lp b w l->∀a,1<=(aO l a).k->(aO l a).k<=4->a<l.length - 1:=by
 intro l
 induction l with
 |nil=>intro b w _ a h1;simp[aO] at h1
 |cons x l ih=>
  intro b w h a h1 h2
  obtain ⟨-,-,-,-,h5,h6⟩:=h
  cases a with
  |zero=>
   have e:aO (x::l) 0=x:=rfl
   rw[e] at h1 h2
   have:l≠ []:=fun q=>by have:=h5.mpr q;omega
   have:=List.length_pos_iff.mpr this
   simp;omega
  |succ a=>
   have e:aO (x::l) (a+1)=aO l a:=by simp[aO]
   rw[e] at h1 h2
   have:=ih b x.p h6 a h1 h2
   simp;omega
theorem z8 {m:NH} {v:NV} {b:List Nat} (hv:Sl m v 1 (o9 b)) (hb:∀c∈b,c<256):
 ∃w m',bI Try.prog S0 12 [v] m w m'/\(∃vc vt vr,w= .tup [.agg [vc,vt,vr],ii (hH b).2.1,ii (hH b).2.2]/\(match (hH b).1 with|none=>vc= .nils/\vt= .nils/\vr= .nils/\(hH b).2.2≠0|some p=>RP m' (nU m) p vc vt vr/\(hH b).2.2=0/\p.cs.length+p.ts.length<=b.length+2/\(p.ts.map fun t=>cn t.2).sum+cn p.r<=4*(b.length+1)))/\Chg [] m m':=by
 refine WF.ex fun K hK=> ?_
 refine WF.of_wpG (fun _=>rfl) y7 (L:= [(.e,v)]) rfl ?_
 unfold HG
 have hlen:=hv.len
 rw[show (o9 b).length=b.length by simp] at hlen
 simp (config:={maxSteps:=1000000}) (disch:=first|assumption|omega|exact ab (by omega)|exact aa (by assumption)|(simp only[ao]<;>omega)) only[go_sem,seval]
 generalize hM1:hp _ 1 m=M1
 have hC1:Chg [] m M1:=by rw[←hM1];exact an rfl
 have hg1:M1.get (na m 0)=some (.cells true [.nils,.nils,.nils]):=by rw[←hM1];exact ax
 have ho1:aC M1 (na m 0):=by rw[←hM1];exact ab (by omega)
 obtain ⟨w2,M2,hr2,hw2,hC2⟩:=CS M1 (hv.chg hC1 fun _ _=>by simp) hb
 have hg2:=(hC2.get ho1 (by simp)).trans hg1
 have ho2:=hC2.old ho1
 have hC02:=hC1.trans hC2 (by simp)
 unfold hH at hK
 by_cases h16:16384<b.length
 ·rw[if_pos h16] at hw2 hK
  subst hw2
  simp (config:={maxSteps:=1000000}) (disch:=first|assumption|omega|exact ab (by omega)|exact aa (by assumption)|(simp only[ao]<;>omega)) only[go_sem,seval,hr2.wf,hg2]
  exact hK _ _ ⟨⟨.nils,.nils,.nils,rfl,rfl,rfl,rfl,by show (3:Nat)≠0;omega⟩,hC02.trans (an rfl) (by simp[aU,aI])⟩
 ·rw[if_neg h16] at hw2 hK
  cases ht:(dC b).2 with
  |some a=>
   rw[ht] at hw2 hK
   dsimp only at hw2 hK
   subst hw2
   simp (config:={maxSteps:=1000000}) (disch:=first|assumption|omega|exact ab (by omega)|exact aa (by assumption)|(simp only[ao]<;>omega)) only[go_sem,seval,hr2.wf,hg2]
   exact hK _ _ ⟨⟨.nils,.nils,.nils,rfl,rfl,rfl,rfl,by show (2:Nat)≠0;omega⟩,hC02.trans (an rfl) (by simp[aU,aI])⟩
  |none=>
   rw[ht] at hw2 hK
   dsimp only at hw2 hK
   obtain ⟨u,rfl,hu⟩:=hw2
   obtain ⟨hok,hne⟩:=EH ht
   have hll:(dC b).1.length<=b.length+1:=lg b (b.length+1) (br b 0)
   have hlast:=B4 _ _ _ hok
   generalize (dC b).1=L at hu hok hne hll hlast hK
   have hlp:=List.length_pos_iff.mpr hne
   simp (config:={maxSteps:=1000000}) (disch:=first|assumption|omega|exact ab (by omega)|exact aa (by assumption)|(simp only[ao]<;>omega)) only[go_sem,seval,hr2.wf,hg2,hu.sl.one]
   generalize hM3:hp _ 1 M2=M3
   have hC3:Chg [] M2 M3:=by rw[←hM3];exact an rfl
   have hg3:M3.get (na M2 0)=some (.cells true [u,ii 0,ii 0,ii 0,.bool false,.nils,.nils,.nils]):=by rw[←hM3];exact ax
   have ho3:aC M3 (na M2 0):=by rw[←hM3];exact ab (by omega)
   have hc:RC M2 L u (na M2 0):=⟨hu.sl,by omega,aI⟩
   have hp0:PD M3 M3 (na M2 0) u ⟨0,0,0⟩ ⟨[], [], [],false⟩ .nils .nils .nils:=⟨⟨hg3,ho3⟩,bL.nil,⟨[],bL.nil,rfl,by simp⟩,⟨[],sv _ _⟩,by simp[ids],fun i hi=>hi,ho3⟩
   have hst:=xD (L:=L) (L.length+1) ⟨[], [], [],false⟩ ⟨0,0,0⟩
   have hlim:=hst.lim2 hlast (Nat.zero_le _) (Nat.zero_le _)
   have hszp:=Fw (L:=L) (L.length+1) ⟨[], [], [],false⟩ ⟨0,0,0⟩ 0 (fun _=>rfl) (fun _=>by simp[Ps.sz,cn])
   have hlenp:(cz L (L.length+1) ⟨[], [], [],false⟩ ⟨0,0,0⟩).1.cs.length+(cz L (L.length+1) ⟨[], [], [],false⟩ ⟨0,0,0⟩).1.ts.length<=L.length+1:=by
    have key:∀(f:Nat) (P:Ps) (s:Rs),(cz L f P s).1.cs.length+(cz L f P s).1.ts.length<=P.cs.length+P.ts.length+f:=by
     intro f
     induction f with
     |zero=>intro P s;exact Nat.le_refl _
     |succ f ih=>
      intro P s
      rw[cz]
      split
      ·dsimp only;omega
      ·split
       ·dsimp only;omega
       ·have h1:=ih (eF L P s).1 (eF L P s).2
        have h2:=yM (L:=L) P s
        omega
    have:=key (L.length+1) ⟨[], [], [],false⟩ ⟨0,0,0⟩
    simpa using this
   generalize hE:cz L (L.length+1) ⟨[], [], [],false⟩ ⟨0,0,0⟩=q at hK hst hlim hszp hlenp
   obtain ⟨X,Z⟩:=q
   dsimp only at hK hst hlim hszp hlenp
   refine Ao hc (fun i hi=>hC3.old hi) (vb:=v) (o:=na m 0) hC3 hp0 (Nat.zero_le _) rfl hE (by simp only[go_sem,seval]) (by simp only[go_sem,seval]) (by simp only[go_sem,seval]) (by simp only[go_sem,seval]) ?_
   intro t' M4 vc vt vr g1 g2 g3 g4 hp4 h04
   have hdg:=hp4.hd.g
   have hdo:=hp4.hd.o
   have hg4:=(h04.get ho2 (by simp)).trans hg2
   have ho4:=h04.old ho2
   have hC04:Chg [] m M4:=hC02.trans h04 (by simp)
   have hlen4:=(hv.chg hC04 fun _ _=>by simp).len
   rw[show (o9 b).length=b.length by simp] at hlen4
   rw[←ai M4]
   by_cases hz:Z.e=0
   ·rw[if_neg (by omega)] at hK
    obtain ⟨CT,t1,t2,t3⟩:=hp4.tt
    obtain ⟨CR,r1⟩:=hp4.rr
    simp (config:={maxSteps:=1000000}) (disch:=first|assumption|omega|exact ab (by omega)|exact aa (by assumption)|(simp only[ao]<;>omega)) only[go_sem,seval,g1,g2,g3,g4,hdg,hg4,hlen4,hp4.cc.sl.one,t1.sl.one,r1.sl.one]
    generalize hM5:hp _ 0 M4=M5
    have hC5:Chg [na m 0] M4 M5:=by rw[←hM5];exact an rfl
    have hCm3:Chg [] m M3:=hC02.trans hC3 (by simp)
    have hT:∀i,TP M3 vc vt i->i∉ [na m 0]:=fun i hi h=>by
     simp only[List.mem_cons,List.not_mem_nil,or_false] at h;subst h;exact hi.1 (hC3.old ho2)
    have hT2:∀i,TP M3 vc vt i->nU m i:=fun i hi h=>hi.1 (hCm3.old h)
    have nw:∀{w e C},bL M3 M4 w e C->∀i∈ids w,i∉ [na m 0]:=fun hw i hi h=>by
     simp only[List.mem_cons,List.not_mem_nil,or_false] at h;subst h;exact hw.new _ hi (hC3.old ho2)
    have hs0:=hszp hz
    refine hK _ _ ⟨⟨vc,vt,vr,rfl, ?_,rfl, ?_, ?_⟩,hC04.trans hC5 fun i hi ho=>by
     simp only[List.mem_cons,List.not_mem_nil,or_false] at hi;subst hi;exact absurd ho aI⟩
    ·refine ⟨hp4.cc.sl.chg hC5 (nw hp4.cc),fun i hi h=>hp4.cc.new i hi (hCm3.old h),⟨CT,t1.sl.chg hC5 (nw t1),fun i hi h=>t1.new i hi (hCm3.old h),t2,fun j x c a b'=> ?_⟩,⟨CR,(r1.stays (bi.of hC5 hT)).weak hT2⟩⟩
     obtain ⟨w,B,e,q⟩:=t3 j x c a b'
     exact ⟨w,B,e,(q.stays (bi.of hC5 hT)).weak hT2⟩
    ·dsimp only;omega
    ·have:X.sz<=4*(b.length+1):=by omega
     exact this
   ·rw[if_pos hz] at hK
    have hb':Z.b<L.length:=by omega
    have hu4:=hu.sl.chg h04 fun _ _=>by simp
    have huo:=hu.chg h04 fun _ _=>by simp
    obtain ⟨id,off,c,a1,-,aN,a2,a3,a4,a5,-⟩:=huo.at Z.b (by simpa using hb')
    have hid:id≠na m 0:=fun e=>aN (e▸ho1)
    have hid':na m 0≠id:=fun e=>hid e.symm
    rw[List.getElem_map] at a5
    have c3:c[off+3]? =some (ii (L[Z.b]).p):=bz a5 3 (by omega)
    have en:aO L Z.b=L[Z.b]:=by rw[aO,List.getElem?_eq_getElem hb'];rfl
    rw[en] at hK
    have hde:decide ((Z.e:Int)≠0)=true:=decide_eq_true (by omega)
    have hus:=hu4.same (n:=3)
    have hr0:na M2 0≠na m 0:=fun e=>ho2.ne 0 e.symm
    have hr0':na m 0≠na M2 0:=fun e=>hr0 e.symm
    simp (config:={maxSteps:=1000000}) (disch:=first|assumption|omega|exact ab (by omega)|exact aa (by assumption)|(simp only[ao]<;>omega)) only[go_sem,seval,g1,g2,g3,g4,hdg,hg4,hlen4,hde,a1,a2,c3,hus]
    refine hK _ _ ⟨⟨.nils,.nils,.nils,rfl,rfl,rfl,rfl,hz⟩, ?_⟩
    exact mA hC04 (by simp[aU,aI])
end
end FR
open Go Nm Go.Proofs
namespace FR
set_option linter.unusedSimpArgs false
set_option linter.unusedVariables false
end FR
open Go Nm Go.Proofs
namespace FR
set_option linter.unusedSimpArgs false
set_option linter.unusedVariables false
theorem Mw {n:Int} (h:(Lit.int .u8 n).wf=true):0<=n/\n<256:=by
 have h1:IntKind.u8.min=0:=rfl
 have h2:IntKind.u8.max=255:=rfl
 simp only[Lit.wf,Bool.and_eq_true,decide_eq_true_eq,h1,h2] at h
 omega
end FR
open Go Nm Go.Proofs
namespace FR
set_option linter.unusedSimpArgs false
set_option linter.unusedVariables false
end FR
open Go Nm Go.Proofs
namespace FR
set_option linter.unusedSimpArgs false
set_option linter.unusedVariables false
set_option maxRecDepth 100000 in
theorem Cf {m:NH} {l:List NV} (h:Ty Try.prog m 22 l):∃v b,l= [v]/\Sl m v 1 (o9 b)/\∀x∈b,x<256:=by
 obtain ⟨v,C,rfl,hS,hm,hall⟩:=h.inv_slc Try.underlying22
 have key:∀C:List (List NV),(∀c∈C,Ty Try.prog m 5 c)->∃b:List Nat,C=o9 b/\∀x∈b,x<256:=by
  intro C
  induction C with
  |nil=>intro _;exact ⟨[],rfl,by simp⟩
  |cons c C ih=>
   intro h
   obtain ⟨n,rfl,hw⟩:=(h c (List.mem_cons_self ..)).inv_int Try.underlying5
   obtain ⟨l,rfl,g⟩:=ih fun x hx=>h x (List.mem_cons_of_mem _ hx)
   have hn:=Mw hw
   obtain ⟨k,rfl⟩:=Int.eq_ofNat_of_zero_le hn.1
   exact ⟨k::l,rfl,by intro x hx;rcases List.mem_cons.mp hx with rfl|hx;omega;exact g x hx⟩
 obtain ⟨b,rfl,hf⟩:=key C hall
 exact ⟨v,b,rfl,hS,hf⟩
theorem FW {l:List Nat} {x:Nat} (h:x∈l):x<=l.sum:=by
 induction l with
 |nil=>simp at h
 |cons a l ih=>
  rw[List.sum_cons]
  rcases List.mem_cons.mp h with rfl|h
  ·omega
  ·have:=ih h;omega
end FR
