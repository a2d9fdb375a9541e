/- Contracts of functions that the law ParsePlaces reaches, part 0. -/
import Derived.Test.YtbialplfjdpkiaaPlc
set_option linter.unusedSimpArgs false
set_option linter.unusedVariables false
open Go Nm Go.Proofs
namespace LX
variable {s:List Nat} {a k c f n:Nat} {m:NH} {p:Nat->Bool} {v:NV} {t:Tm} {d d1:Dyn} {R Q:Out->Dyn->Prop} {dfs:List Dfr} {o:Out} {cap:List NV} {ctx:Option NV}
noncomputable def S0:Nat->List NV->Option NV:=BT 4 [] (.bool true) EY
abbrev rT:=mF Try.prog S0
abbrev u8 (c:Nat):NV:= .int .u8 (.lit (c:Int))
def ri (c:Nat):Bool:=decide (97<=c/\c<=122)
def dW (c:Nat):Bool:=decide (48<=c/\c<=57)
def cE (c:Nat):Bool:=ri c||dW c||decide (c=95)
def kA (c:Nat):Bool:=decide (c=32∨c=9∨c=10∨c=13)
theorem ko (m:NH) (c:Nat):rT 27 [u8 c] m (.bool (ri c)) m:=by
 have h:∃v m',rT 27 [u8 c] m v m'/\v= .bool (ri c)/\m'=m:=by
  refine WF.ex fun K hK=> ?_
  refine WF.of_wpG (fun _=>rfl) rh (L:= [(.e,u8 c)]) rfl ?_
  unfold zT
  by_cases h1:97<=c
  ·by_cases h2:c<=122
   ·simp (config:={maxSteps:=1000000}) (disch:=first|assumption|omega|(apply ab;omega)|(apply aa;assumption)|(simp only[aq]<;>omega)) only[go_sem,seval]
    exact hK _ _ ⟨by simp[ri,h1,h2],ag m⟩
   ·simp (config:={maxSteps:=1000000}) (disch:=first|assumption|omega|(apply ab;omega)|(apply aa;assumption)|(simp only[aq]<;>omega)) only[go_sem,seval]
    exact hK _ _ ⟨by simp[ri,h2],ag m⟩
  ·simp (config:={maxSteps:=1000000}) (disch:=first|assumption|omega|(apply ab;omega)|(apply aa;assumption)|(simp only[aq]<;>omega)) only[go_sem,seval]
   exact hK _ _ ⟨by simp[ri,h1],ag m⟩
 obtain ⟨v,m',h,rfl,rfl⟩:=h
 exact h
theorem lE (m:NH) (c:Nat):rT 32 [u8 c] m (.bool (dW c)) m:=by
 have h:∃v m',rT 32 [u8 c] m v m'/\v= .bool (dW c)/\m'=m:=by
  refine WF.ex fun K hK=> ?_
  refine WF.of_wpG (fun _=>rfl) rv (L:= [(.e,u8 c)]) rfl ?_
  unfold yP
  by_cases h1:48<=c
  ·by_cases h2:c<=57
   ·simp (config:={maxSteps:=1000000}) (disch:=first|assumption|omega|(apply ab;omega)|(apply aa;assumption)|(simp only[aq]<;>omega)) only[go_sem,seval]
    exact hK _ _ ⟨by simp[dW,h1,h2],ag m⟩
   ·simp (config:={maxSteps:=1000000}) (disch:=first|assumption|omega|(apply ab;omega)|(apply aa;assumption)|(simp only[aq]<;>omega)) only[go_sem,seval]
    exact hK _ _ ⟨by simp[dW,h2],ag m⟩
  ·simp (config:={maxSteps:=1000000}) (disch:=first|assumption|omega|(apply ab;omega)|(apply aa;assumption)|(simp only[aq]<;>omega)) only[go_sem,seval]
   exact hK _ _ ⟨by simp[dW,h1],ag m⟩
 obtain ⟨v,m',h,rfl,rfl⟩:=h
 exact h
theorem gZ (m:NH) (c:Nat):rT 28 [u8 c] m (.bool (cE c)) m:=by
 have h:∃v m',rT 28 [u8 c] m v m'/\v= .bool (cE c)/\m'=m:=by
  refine WF.ex fun K hK=> ?_
  refine WF.of_wpG (fun _=>rfl) qL (L:= [(.e,u8 c)]) rfl ?_
  unfold AB
  have a1:=ko m c
  have a2:=lE m c
  cases h1:ri c with
  |true=>
   rw[h1] at a1
   simp (config:={maxSteps:=1000000}) (disch:=first|assumption|omega|(apply ab;omega)|(apply aa;assumption)|(simp only[aq]<;>omega)) only[go_sem,seval,ag,a1.wf']
   exact hK _ _ ⟨by simp[cE,h1],rfl⟩
  |false=>
   rw[h1] at a1
   cases h2:dW c with
   |true=>
    rw[h2] at a2
    simp (config:={maxSteps:=1000000}) (disch:=first|assumption|omega|(apply ab;omega)|(apply aa;assumption)|(simp only[aq]<;>omega)) only[go_sem,seval,ag,a1.wf',a2.wf']
    exact hK _ _ ⟨by simp[cE,h2],rfl⟩
   |false=>
    rw[h2] at a2
    by_cases h3:c=95
    ·simp (config:={maxSteps:=1000000}) (disch:=first|assumption|omega|(apply ab;omega)|(apply aa;assumption)|(simp only[aq]<;>omega)) only[go_sem,seval,ag,a1.wf',a2.wf']
     exact hK _ _ ⟨by simp[cE,h3],rfl⟩
    ·simp (config:={maxSteps:=1000000}) (disch:=first|assumption|omega|(apply ab;omega)|(apply aa;assumption)|(simp only[aq]<;>omega)) only[go_sem,seval,ag,a1.wf',a2.wf']
     exact hK _ _ ⟨by simp[cE,h1,h2,h3],rfl⟩
 obtain ⟨v,m',h,rfl,rfl⟩:=h
 exact h
theorem wF (m:NH) (c:Nat):rT 25 [u8 c] m (.bool (kA c)) m:=by
 have h:∃v m',rT 25 [u8 c] m v m'/\v= .bool (kA c)/\m'=m:=by
  refine WF.ex fun K hK=> ?_
  refine WF.of_wpG (fun _=>rfl) qk (L:= [(.e,u8 c)]) rfl ?_
  unfold yf
  by_cases h1:c=32
  ·simp (config:={maxSteps:=1000000}) (disch:=first|assumption|omega|(apply ab;omega)|(apply aa;assumption)|(simp only[aq]<;>omega)) only[go_sem,seval];exact hK _ _ ⟨by simp[kA,h1],ag m⟩
  ·by_cases h2:c=9
   ·simp (config:={maxSteps:=1000000}) (disch:=first|assumption|omega|(apply ab;omega)|(apply aa;assumption)|(simp only[aq]<;>omega)) only[go_sem,seval];exact hK _ _ ⟨by simp[kA,h2],ag m⟩
   ·by_cases h3:c=10
    ·simp (config:={maxSteps:=1000000}) (disch:=first|assumption|omega|(apply ab;omega)|(apply aa;assumption)|(simp only[aq]<;>omega)) only[go_sem,seval];exact hK _ _ ⟨by simp[kA,h3],ag m⟩
    ·by_cases h4:c=13
     ·simp (config:={maxSteps:=1000000}) (disch:=first|assumption|omega|(apply ab;omega)|(apply aa;assumption)|(simp only[aq]<;>omega)) only[go_sem,seval];exact hK _ _ ⟨by simp[kA,h4],ag m⟩
     ·simp (config:={maxSteps:=1000000}) (disch:=first|assumption|omega|(apply ab;omega)|(apply aa;assumption)|(simp only[aq]<;>omega)) only[go_sem,seval];exact hK _ _ ⟨by simp[kA,h1,h2,h3,h4],ag m⟩
 obtain ⟨v,m',h,rfl,rfl⟩:=h
 exact h
theorem vq (m:NH) (c:Nat):rT 26 [u8 c] m (.bool (decide (c≠10))) m:=by
 have h:∃v m',rT 26 [u8 c] m v m'/\v= .bool (decide (c≠10))/\m'=m:=by
  refine WF.ex fun K hK=> ?_
  refine WF.of_wpG (fun _=>rfl) qr (L:= [(.e,u8 c)]) rfl ?_
  unfold AM
  by_cases h1:c=10
  ·simp (config:={maxSteps:=1000000}) (disch:=first|assumption|omega|(apply ab;omega)|(apply aa;assumption)|(simp only[aq]<;>omega)) only[go_sem,seval];exact hK _ _ ⟨by simp[h1],ag m⟩
  ·simp (config:={maxSteps:=1000000}) (disch:=first|assumption|omega|(apply ab;omega)|(apply aa;assumption)|(simp only[aq]<;>omega)) only[go_sem,seval];exact hK _ _ ⟨by simp[h1],ag m⟩
 obtain ⟨v,m',h,rfl,rfl⟩:=h
 exact h
def aD (p:Nat->Bool) (s:List Nat) (a:Nat):Nat:=a+((s.drop a).takeWhile p).length
theorem ci  (h:a<s.length) (hp:p s[a]=true):aD p s a=aD p s (a+1):=by
 unfold aD
 rw[List.drop_eq_getElem_cons h,List.takeWhile_cons,FA hp,List.length_cons]
 omega
theorem fD  (h:a<s.length) (hp:p s[a]=false):aD p s a=a:=by
 unfold aD
 rw[List.drop_eq_getElem_cons h,List.takeWhile_cons,Fz (by simp[hp])];rfl
theorem eO  (h:s.length<=a):aD p s a=a:=by
 unfold aD
 rw[List.drop_eq_nil_of_le h];rfl
theorem fu {p:Nat->Bool} {s:List Nat} {a:Nat}:a<=aD p s a:=by unfold aD;omega
theorem ei  (h:a<=s.length):aD p s a<=s.length:=by
 unfold aD
 have:=(List.takeWhile_sublist (l:=s.drop a) p).length_le
 rw[List.length_drop] at this;omega
theorem si :∀(k a:Nat),k=s.length - a->∀h:aD p s a<s.length,p (s[aD p s a])=false:=by
 intro k
 induction k with
 |zero=>intro a hk h;have:=@fu p s a;omega
 |succ k ih=>
  intro a hk h
  have ha:a<s.length:=by omega
  cases hp:p s[a] with
  |false=>have e:=fD ha hp;simp only[e];exact hp
  |true=>have e:=ci ha hp;simp only[e] at h ⊢;exact ih (a+1) (by omega) h
theorem nJ {g:Nat} (hg:∀m c,rT g [u8 c] m (.bool (p c)) m) (m:NH) (hs:s.length<=1000000) (ha:a<=s.length):
 rT 24 [.str s,ii a,.fn g []] m (ii (aD p s a)) m:=by
 have h:∃v m',rT 24 [.str s,ii a,.fn g []] m v m'/\v=ii (aD p s a)/\m'=m:=by
  refine WF.ex fun K hK=> ?_
  refine WF.of_wpG (fun _=>rfl) rf (L:= [(.b .e,.fn g []),(.a .e,ii a),(.e,.str s)]) rfl ?_
  unfold zh
  simp (config:={maxSteps:=1000000}) (disch:=first|assumption|omega|(apply ab;omega)|(apply aa;assumption)|(simp only[aq]<;>omega)) only[go_sem,seval,ag]
  refine W.loop (fun k d=>∃t i,d=⟨t, [],none,m⟩/\NT.get D4.e t=some (.str s)/\NT.get D4.e.a t=some (ii (i:Nat))/\NT.get D4.e.b t=some (.fn g [])/\aD p s i=aD p s a/\i+k=s.length) ?_ (s.length - a) _ ⟨_,a,rfl,by simp only[go_sem,seval],by simp only[go_sem,seval],by simp only[go_sem,seval],rfl,by omega⟩
  rintro k d ⟨t,i,rfl,g1,g2,g3,hr,hik⟩
  apply bu
  unfold qS
  change wp _ _ _ _ ⟨ap [] t, [],none,m⟩ _
  by_cases hi:i<s.length
  ·have hb:s[i]? =some s[i]:=List.getElem?_eq_getElem hi
   have hc:=hg m s[i]
   cases hp:p s[i] with
   |true=>
    rw[hp] at hc
    simp (config:={maxSteps:=1000000}) (disch:=first|assumption|omega|(apply ab;omega)|(apply aa;assumption)|(simp only[aq]<;>omega)) only[go_sem,seval,g1,g2,g3,hb,hc.wf']
    refine ⟨k - 1,by omega,_,i+1,rfl, ?_, ?_, ?_,by rw[←hr,ci hi hp],by omega⟩
    ·simp (config:={maxSteps:=1000000}) (disch:=first|assumption|omega|(apply ab;omega)|(apply aa;assumption)|(simp only[aq]<;>omega)) only[go_sem,seval,g1]
    ·simp (config:={maxSteps:=1000000}) (disch:=first|assumption|omega|(apply ab;omega)|(apply aa;assumption)|(simp only[aq]<;>omega)) only[go_sem,seval]<;>rfl
    ·simp (config:={maxSteps:=1000000}) (disch:=first|assumption|omega|(apply ab;omega)|(apply aa;assumption)|(simp only[aq]<;>omega)) only[go_sem,seval,g3]
   |false=>
    rw[hp] at hc
    simp (config:={maxSteps:=1000000}) (disch:=first|assumption|omega|(apply ab;omega)|(apply aa;assumption)|(simp only[aq]<;>omega)) only[go_sem,seval,g1,g2,g3,hb,hc.wf']
    exact hK _ _ ⟨by rw[←hr,fD hi hp],rfl⟩
  ·simp (config:={maxSteps:=1000000}) (disch:=first|assumption|omega|(apply ab;omega)|(apply aa;assumption)|(simp only[aq]<;>omega)) only[go_sem,seval,g1,g2,g3]
   exact hK _ _ ⟨by rw[←hr,eO (by omega)],rfl⟩
 obtain ⟨v,m',h,rfl,rfl⟩:=h
 exact h
def p7:Bool->List Nat->Nat
 |_, []=>0
 |false,c::l=>if kA c then 1+p7 false l else if c=35 then 1+p7 true l else 0
 |true,c::l=>if c=10 then 1+p7 false l else 1+p7 true l
def aV (s:List Nat) (a:Nat):Nat:=a+p7 false (s.drop a)
theorem zc:∀(l:List Nat) (q:Bool),p7 q l<=l.length:=by
 intro l
 induction l with
 |nil=>intro q;cases q<;>exact Nat.le_refl 0
 |cons c l ih=>
  intro q
  have h1:=ih false
  have h2:=ih true
  cases q with
  |false=>
   show (if kA c then 1+p7 false l else if c=35 then 1+p7 true l else 0)<=l.length+1
   split
   ·omega
   ·split<;>omega
  |true=>
   show (if c=10 then 1+p7 false l else 1+p7 true l)<=l.length+1
   split<;>omega
def iB (s:List Nat) (a:Nat):Nat:=a+p7 true (s.drop a)
theorem ew  (h:a<s.length):aV s a=if kA s[a] then aV s (a+1) else if s[a]=35 then iB s (a+1) else a:=by
 unfold aV iB
 rw[List.drop_eq_getElem_cons h]
 show a+(if kA s[a] then 1+p7 false (s.drop (a+1)) else if s[a]=35 then 1+p7 true (s.drop (a+1)) else 0)=_
 split
 ·omega
 ·split<;>omega
theorem jr  (h:a<s.length):iB s a=if s[a]=10 then aV s (a+1) else iB s (a+1):=by
 unfold aV iB
 rw[List.drop_eq_getElem_cons h]
 show a+(if s[a]=10 then 1+p7 false (s.drop (a+1)) else 1+p7 true (s.drop (a+1)))=_
 split<;>omega
theorem ll  (h:s.length<=a):aV s a=a:=by
 unfold aV;rw[List.drop_eq_nil_of_le h];rfl
theorem sV  (h:s.length<=a):iB s a=a:=by
 unfold iB;rw[List.drop_eq_nil_of_le h];rfl
theorem gk  (h:a<=s.length):aV s a<=s.length:=by
 have:=zc (s.drop a) false
 rw[List.length_drop] at this
 unfold aV;omega
theorem mL :a<=aV s a:=by unfold aV;omega
theorem uv (s:List Nat):∀(k a:Nat),k=s.length - a->aV s a=aV s (aD kA s a):=by
 intro k
 induction k with
 |zero=>intro a hk;rw[eO (by omega)]
 |succ k ih=>
  intro a hk
  have ha:a<s.length:=by omega
  cases hp:kA s[a] with
  |true=>rw[ew ha,FA hp,ci ha hp];exact ih (a+1) (by omega)
  |false=>rw[fD ha hp]
theorem wd (s:List Nat):∀(k a:Nat),k=s.length - a->iB s a=aV s (aD (fun c=>decide (c≠10)) s a):=by
 intro k
 induction k with
 |zero=>intro a hk;rw[eO (by omega),sV (by omega),ll (by omega)]
 |succ k ih=>
  intro a hk
  have ha:a<s.length:=by omega
  by_cases h:s[a]=10
  ·rw[fD ha (by simp[h]),jr ha,FA h,ew ha,FA (by simp[kA,h])]
  ·rw[ci ha (by simp[h]),jr ha,Fz h];exact ih (a+1) (by omega)
theorem pr  (h:a<s.length) (hs:s[a]=35):aV s a=aV s (aD (fun c=>decide (c≠10)) s a):=by
 rw[ci h (by simp[hs]),ew h,Fz (by simp[kA,hs]),FA hs,wd s _ _ rfl]
theorem rJ  (h:a<s.length) (hb:kA s[a]=false) (hs:s[a]≠35):aV s a=a:=by
 rw[ew h,Fz (by simp[hb]),Fz hs]
theorem zH (m:NH) (hs:s.length<=1000000) (ha:a<=s.length):rT 20 [.str s,ii a] m (ii (aV s a)) m:=by
 have h:∃v m',rT 20 [.str s,ii a] m v m'/\v=ii (aV s a)/\m'=m:=by
  refine WF.ex fun K hK=> ?_
  refine WF.of_wpG (fun _=>rfl) qU (L:= [(.a .e,ii a),(.e,.str s)]) rfl ?_
  unfold yg
  simp (config:={maxSteps:=1000000}) (disch:=first|assumption|omega|(apply ab;omega)|(apply aa;assumption)|(simp only[aq]<;>omega)) only[go_sem,seval,ag]
  refine W.loop (fun k d=>∃t i,d=⟨t, [],none,m⟩/\NT.get D4.e t=some (.str s)/\NT.get D4.e.a t=some (ii (i:Nat))/\aV s i=aV s a/\i+k=s.length) ?_ (s.length - a) _ ⟨_,a,rfl,by simp only[go_sem,seval],by simp only[go_sem,seval],rfl,by omega⟩
  rintro k d ⟨t,i,rfl,g1,g2,hr,hik⟩
  apply bu
  unfold rx
  change wp _ _ _ _ ⟨ap [] t, [],none,m⟩ _
  have r1:=nJ wF m hs (a:=i) (by omega)
  have hle:=ei (p:=kA) (s:=s) (a:=i) (by omega)
  have hge:=@fu kA s i
  rw[uv s _ _ rfl] at hr
  generalize hj:aD kA s i=j at *
  by_cases hjl:j<s.length
  ·have hb:s[j]? =some s[j]:=List.getElem?_eq_getElem hjl
   have hnb:kA s[j]=false:=by
    have:=si (p:=kA) (s:=s) _ i rfl (by omega)
    simp only[hj] at this;exact this
   by_cases h35:s[j]=35
   ·have r2:=nJ vq m hs (a:=j) (by omega)
    have hle2:=ei (p:=fun c=>decide (c≠10)) (s:=s) (a:=j) (by omega)
    have hlt:j+1<=aD (fun c=>decide (c≠10)) s j:=by rw[ci hjl (by simp[h35])];exact fu
    rw[pr hjl h35] at hr
    generalize aD (fun c=>decide (c≠10)) s j=j2 at *
    simp (config:={maxSteps:=1000000}) (disch:=first|assumption|omega|(apply ab;omega)|(apply aa;assumption)|(simp only[aq]<;>omega)) only[go_sem,seval,g1,g2,r1.wf',hb,r2.wf']
    refine ⟨s.length - j2,by omega,_,j2,rfl, ?_, ?_,hr,by omega⟩
    ·simp (config:={maxSteps:=1000000}) (disch:=first|assumption|omega|(apply ab;omega)|(apply aa;assumption)|(simp only[aq]<;>omega)) only[go_sem,seval,g1]
    ·simp (config:={maxSteps:=1000000}) (disch:=first|assumption|omega|(apply ab;omega)|(apply aa;assumption)|(simp only[aq]<;>omega)) only[go_sem,seval]
   ·simp (config:={maxSteps:=1000000}) (disch:=first|assumption|omega|(apply ab;omega)|(apply aa;assumption)|(simp only[aq]<;>omega)) only[go_sem,seval,g1,g2,r1.wf',hb]
    exact hK _ _ ⟨by rw[←hr,rJ hjl hnb h35],rfl⟩
  ·simp (config:={maxSteps:=1000000}) (disch:=first|assumption|omega|(apply ab;omega)|(apply aa;assumption)|(simp only[aq]<;>omega)) only[go_sem,seval,g1,g2,r1.wf']
   exact hK _ _ ⟨by rw[←hr,ll (by omega)],rfl⟩
 obtain ⟨v,m',h,rfl,rfl⟩:=h
 exact h
abbrev xO (l:List (List Nat)):List (List NV):=l.map fun s=> [NV.str s]
theorem xg  {l:List (List Nat)} (hv:Sl m v 1 (xO l)) (hl:l.length<=1000000) (t:List Nat):∃z,rT 37 [v,.str t] m (ii z) m/\(0<=z↔t∈l):=by
 have h:∃u m',rT 37 [v,.str t] m u m'/\m'=m/\∃z,u=ii z/\(0<=z↔t∈l):=by
  refine WF.ex fun K hK=> ?_
  refine WF.of_wpG (fun _=>rfl) rj (L:= [(.a .e,.str t),(.e,v)]) rfl ?_
  unfold zj
  have hlen:=hv.len
  rw[List.length_map] at hlen
  simp (config:={maxSteps:=1000000}) (disch:=first|assumption|omega|(apply ab;omega)|(apply aa;assumption)|(simp only[aq]<;>omega)) only[go_sem,seval,ag,hlen]
  refine W.loop (fun k d=>∃t' i,d=⟨t', [],none,m⟩/\NT.get D4.e t'=some v/\NT.get D4.e.a t'=some (.str t)/\NT.get D4.e.a.c t'=some (ii l.length)/\NT.get D4.e.a.f t'=some (ii (i:Nat))/\t∉l.take i/\i+k=l.length) ?_ l.length _ ⟨_,0,rfl,by simp only[go_sem,seval],by simp only[go_sem,seval],by simp only[go_sem,seval],by simp only[go_sem,seval]<;>rfl,by simp,by omega⟩
  rintro k d ⟨t',i,rfl,g1,g2,g3,g4,hno,hik⟩
  apply bu
  unfold rF
  change wp _ _ _ _ ⟨ap [] t', [],none,m⟩ _
  by_cases hi:i<l.length
  ·obtain ⟨id,off,w,c,a1,a2,a3,a4,a5⟩:=hv.at i (by simpa using hi)
   rw[List.getElem_map] at a5
   have c0:=qn a5 0 (by omega)
   rw[Nat.add_zero] at c0
   by_cases he:t=l[i]
   ·simp (config:={maxSteps:=1000000}) (disch:=first|assumption|omega|(apply ab;omega)|(apply aa;assumption)|(simp only[aq]<;>omega)) only[go_sem,seval,g1,g2,g3,g4,a1,a2,c0,he]
    exact hK _ _ ⟨rfl,_,rfl,fun _=>by rw[he];exact List.getElem_mem hi,fun _=>by omega⟩
   ·simp (config:={maxSteps:=1000000}) (disch:=first|assumption|omega|(apply ab;omega)|(apply aa;assumption)|(simp only[aq]<;>omega)) only[go_sem,seval,g1,g2,g3,g4,a1,a2,c0,he]
    refine ⟨k - 1,by omega,_,i+1,rfl, ?_, ?_, ?_, ?_, ?_,by omega⟩
    ·simp (config:={maxSteps:=1000000}) (disch:=first|assumption|omega|(apply ab;omega)|(apply aa;assumption)|(simp only[aq]<;>omega)) only[go_sem,seval,g1]
    ·simp (config:={maxSteps:=1000000}) (disch:=first|assumption|omega|(apply ab;omega)|(apply aa;assumption)|(simp only[aq]<;>omega)) only[go_sem,seval,g2]
    ·simp (config:={maxSteps:=1000000}) (disch:=first|assumption|omega|(apply ab;omega)|(apply aa;assumption)|(simp only[aq]<;>omega)) only[go_sem,seval,g3]
    ·simp (config:={maxSteps:=1000000}) (disch:=first|assumption|omega|(apply ab;omega)|(apply aa;assumption)|(simp only[aq]<;>omega)) only[go_sem,seval]<;>rfl
    ·rw[List.take_add_one,List.getElem?_eq_getElem hi]
     simp only[Option.toList_some,List.mem_append,List.mem_singleton,not_or]
     exact ⟨hno,he⟩
  ·simp (config:={maxSteps:=1000000}) (disch:=first|assumption|omega|(apply ab;omega)|(apply aa;assumption)|(simp only[aq]<;>omega)) only[go_sem,seval,g1,g2,g3,g4]
   have e:i=l.length:=by omega
   subst e
   rw[List.take_length] at hno
   exact hK _ _ ⟨rfl,_,rfl,fun h=>by omega,fun h=>Fy h hno⟩
 obtain ⟨v,m',h,rfl,z,rfl,hz⟩:=h
 exact ⟨z,h,hz⟩
theorem jK  {l:List (List Nat)} (hv:Sl m v 1 (xO l)) (hl:l.length<=1000000) (t:List Nat):rT 29 [v,.str t] m (.bool (decide (t∈l))) m:=by
 have h:∃u m',rT 29 [v,.str t] m u m'/\u= .bool (decide (t∈l))/\m'=m:=by
  refine WF.ex fun K hK=> ?_
  refine WF.of_wpG (fun _=>rfl) rz (L:= [(.a .e,.str t),(.e,v)]) rfl ?_
  unfold zf
  obtain ⟨z,hz,hzi⟩:=xg hv hl t
  by_cases h:t∈l
  ·have:=hzi.mpr h
   simp (config:={maxSteps:=1000000}) (disch:=first|assumption|omega|(apply ab;omega)|(apply aa;assumption)|(simp only[aq]<;>omega)) only[go_sem,seval,ag,hz.wf']
   exact hK _ _ ⟨by simp[h],rfl⟩
  ·have:¬0<=z:=fun q=>h (hzi.mp q)
   simp (config:={maxSteps:=1000000}) (disch:=first|assumption|omega|(apply ab;omega)|(apply aa;assumption)|(simp only[aq]<;>omega)) only[go_sem,seval,ag,hz.wf']
   exact hK _ _ ⟨by simp[h],rfl⟩
 obtain ⟨v,m',h,rfl,rfl⟩:=h
 exact h
def fY:List (List Nat):= [[99,101,108,108], [116,104,114,101,97,100], [114,101,99,111,118,101,114], [115,101,116], [108,111,97,100], [115,116,111,114,101], [99,97,115], [102,101,110,99,101], [111,117,116], [105,102], [101,108,115,101], [119,104,105,108,101]]
theorem qC (m:NH):∃v m',rT 30 [] m v m'/\c9 m m' v 1 (xO fY)/\Chg [] m m':=by
 refine WF.ex fun K hK=> ?_
 refine WF.of_wpG (fun _=>rfl) qP (L:= []) rfl ?_
 unfold zw
 simp (config:={maxSteps:=1000000}) (disch:=first|assumption|omega|(apply ab;omega)|(apply aa;assumption)|(simp only[aq]<;>omega)) only[go_sem,seval]
 exact hK _ _ ⟨c9.of (by simp) aQ cX (ab (by omega)) rfl rfl rfl,aX rfl⟩
theorem yI:av Try.prog 50=some (.ext .idxByte):=by kernel_rfl
theorem AI:av Try.prog 39=some (.ext .add64):=by kernel_rfl
theorem xH (m:NH) (s:List Nat) (hs:s.length<=1000000) (hc:c<256):rT 34 [.str s,.str [c]] m (.bool (decide (c∈s))) m:=by
 obtain ⟨z,hz,hzi⟩:=wu s hc
 have h1:∀m,rT 50 [.str s,u8 c] m (ii z) m:=fun m=>mF.ext rfl yI hz
 have h2:∀m,rT 46 [.str s,u8 c] m (ii z) m:=fun m=>by
  have h:∃u m',rT 46 [.str s,u8 c] m u m'/\u=ii z/\m'=m:=by
   refine WF.ex fun K hK=> ?_
   refine WF.of_wpG (fun _=>rfl) rr (L:= [(.a .e,u8 c),(.e,.str s)]) rfl ?_
   unfold yk
   simp (config:={maxSteps:=1000000}) (disch:=first|assumption|omega|(apply ab;omega)|(apply aa;assumption)|(simp only[aq]<;>omega)) only[go_sem,seval,ag,(h1 _).wf']
   exact hK _ _ ⟨rfl,rfl⟩
  obtain ⟨v,m',h,rfl,rfl⟩:=h
  exact h
 have h3:∀m,rT 43 [.str s,.str [c]] m (ii z) m:=fun m=>by
  have h:∃u m',rT 43 [.str s,.str [c]] m u m'/\u=ii z/\m'=m:=by
   refine WF.ex fun K hK=> ?_
   refine WF.of_wpG (fun _=>rfl) qy (L:= [(.a .e,.str [c]),(.e,.str s)]) rfl ?_
   unfold y9
   have hb: [c][0]? =some c:=rfl
   have hl1: [c].length=1:=rfl
   by_cases hcs: [c]=s
   ·have:z=0:=by
     subst hcs
     have e:dX .idxByte [.str [c],.int .u8 (.lit (c:Int))]=cond (Nat.ble c 255) (match cond (Nat.beq c c) (some 0) none with|some i=>some (.int .i64 (.lit (.ofNat i)))|none=>some (.int .i64 (.lit (.negSucc 0)))) none:=rfl
     rw[e,Nat.ble_eq_true_of_le (by omega),Nat.beq_refl] at hz
     simp only[cond_true,Option.some.injEq,NV.int.injEq,SI.lit.injEq,true_and] at hz
     exact hz.symm
    subst this
    simp (config:={maxSteps:=1000000}) (disch:=first|assumption|omega|(apply ab;omega)|(apply aa;assumption)|(simp only[aq]<;>omega)) only[go_sem,seval,ag,(h2 _).wf',hb,hl1,FC hcs]
    exact hK _ _ ⟨rfl,rfl⟩
   have hd:=FB hcs
   simp (config:={maxSteps:=1000000}) (disch:=first|assumption|omega|(apply ab;omega)|(apply aa;assumption)|(simp only[aq]<;>omega)) only[go_sem,seval,ag,(h2 _).wf',hb,hl1,hd]
   exact hK _ _ ⟨rfl,rfl⟩
  obtain ⟨v,m',h,rfl,rfl⟩:=h
  exact h
 have h4:∀m,rT 40 [.str s,.str [c]] m (ii z) m:=fun m=>by
  have h:∃u m',rT 40 [.str s,.str [c]] m u m'/\u=ii z/\m'=m:=by
   refine WF.ex fun K hK=> ?_
   refine WF.of_wpG (fun _=>rfl) qj (L:= [(.a .e,.str [c]),(.e,.str s)]) rfl ?_
   unfold yz
   simp (config:={maxSteps:=1000000}) (disch:=first|assumption|omega|(apply ab;omega)|(apply aa;assumption)|(simp only[aq]<;>omega)) only[go_sem,seval,ag,(h3 _).wf']
   exact hK _ _ ⟨rfl,rfl⟩
  obtain ⟨v,m',h,rfl,rfl⟩:=h
  exact h
 have h:∃u m',rT 34 [.str s,.str [c]] m u m'/\u= .bool (decide (c∈s))/\m'=m:=by
  refine WF.ex fun K hK=> ?_
  refine WF.of_wpG (fun _=>rfl) qD (L:= [(.a .e,.str [c]),(.e,.str s)]) rfl ?_
  unfold zy
  by_cases h:c∈s
  ·have:=hzi.mpr h
   simp (config:={maxSteps:=1000000}) (disch:=first|assumption|omega|(apply ab;omega)|(apply aa;assumption)|(simp only[aq]<;>omega)) only[go_sem,seval,ag,(h4 _).wf']
   exact hK _ _ ⟨by simp[h],rfl⟩
  ·have:¬0<=z:=fun q=>h (hzi.mp q)
   simp (config:={maxSteps:=1000000}) (disch:=first|assumption|omega|(apply ab;omega)|(apply aa;assumption)|(simp only[aq]<;>omega)) only[go_sem,seval,ag,(h4 _).wf']
   exact hK _ _ ⟨by simp[h],rfl⟩
 obtain ⟨v,m',h,rfl,rfl⟩:=h
 exact h
def iL (s:List Nat):Bool:=decide (1<=s.length)&&decide (s.length<=16)&&(match s with|c::_=>ri c| []=>false)&& !(decide (s∈fY))&&s.all cE
theorem tU (p:Nat->Bool) (s:List Nat):((s.takeWhile p).length=s.length)↔s.all p=true:=by
 induction s with
 |nil=>simp
 |cons c s ih=>
  cases hc:p c with
  |true=>
   have e1:(c::s).takeWhile p=c::s.takeWhile p:=by simp[List.takeWhile_cons,hc]
   have e2:(c::s).all p=s.all p:=by simp[List.all_cons,hc]
   rw[e1,e2,←ih];simp
  |false=>
   have e1:(c::s).takeWhile p= []:=by simp[List.takeWhile_cons,hc]
   have e2:(c::s).all p=false:=by simp[List.all_cons,hc]
   rw[e1,e2];simp
theorem vW (p:Nat->Bool) (s:List Nat):(aD p s 0=s.length)↔s.all p=true:=by
 have e:aD p s 0=(s.takeWhile p).length:=by unfold aD;simp
 rw[e];exact tU p s
theorem AF (m:NH) (hs:s.length<=1000000):∃v m',rT 31 [.str s] m v m'/\v= .bool (iL s)/\Chg [] m m':=by
 refine WF.ex fun K hK=> ?_
 refine WF.of_wpG (fun _=>rfl) rp (L:= [(.e,.str s)]) rfl ?_
 unfold yi
 cases s with
 |nil=>simp (config:={maxSteps:=1000000}) (disch:=first|assumption|omega|(apply ab;omega)|(apply aa;assumption)|(simp only[aq]<;>omega)) only[go_sem,seval];exact hK _ _ ⟨rfl,aX rfl⟩
 |cons c s=>
  have hne:¬(c::s= []):=by simp
  have hlen:(c::s).length=s.length+1:=rfl
  by_cases h1:(c::s).length<=16
  ·have h0:(c::s)[0]? =some c:=rfl
   have hl:=ko m c
   cases h2:ri c with
   |false=>
    rw[h2] at hl
    simp (config:={maxSteps:=1000000}) (disch:=first|assumption|omega|(apply ab;omega)|(apply aa;assumption)|(simp only[aq]<;>omega)) only[go_sem,seval,hne,h0,ag,hl.wf',hlen]
    exact hK _ _ ⟨by simp[iL,h2],Chg.refl m⟩
   |true=>
    rw[h2] at hl
    obtain ⟨w,m1,hw,how,hC1⟩:=qC m
    have hc:=jK how.sl (by decide) (c::s)
    by_cases h3:(c::s)∈fY
    ·rw[FC h3] at hc
     simp (config:={maxSteps:=1000000}) (disch:=first|assumption|omega|(apply ab;omega)|(apply aa;assumption)|(simp only[aq]<;>omega)) only[go_sem,seval,hne,h0,ag,hl.wf',hw.wf',hc.wf',hlen]
     exact hK _ _ ⟨by unfold iL;rw[FC h3];simp,hC1⟩
    ·rw[FB h3] at hc
     have hr:rT 24 [.str (c::s),ii 0,.fn 28 []] m1 (ii ((aD cE (c::s) 0:Nat):Int)) m1:=nJ gZ m1 hs (a:=0) (Nat.zero_le _)
     simp (config:={maxSteps:=1000000}) (disch:=first|assumption|omega|(apply ab;omega)|(apply aa;assumption)|(simp only[aq]<;>omega)) only[go_sem,seval,hne,h0,ag,hl.wf',hw.wf',hc.wf',hlen,hr.wf']
     have hr2:=vW cE (c::s)
     refine hK _ _ ⟨?_,hC1⟩
     unfold iL
     rw[FB h3]
     congr 1
     rw[Bool.eq_iff_iff,decide_eq_true_eq]
     simp only[h2,Bool.not_false,Bool.and_true,Bool.and_eq_true,decide_eq_true_eq]
     constructor
     ·intro q;exact ⟨⟨by simp,h1⟩,hr2.mp (by omega)⟩
     ·intro q;have:=hr2.mpr q.2;omega
  ·simp (config:={maxSteps:=1000000}) (disch:=first|assumption|omega|(apply ab;omega)|(apply aa;assumption)|(simp only[aq]<;>omega)) only[go_sem,seval,hne,ag,hlen]
   exact hK _ _ ⟨by unfold iL;rw[FB h1];simp,Chg.refl m⟩
theorem vT {a:Int} (h:0<=a) (h':a<18446744073709551616):da .num .and (.int .u64 (.lit a)) (.int .u64 (.lit 4294967295))=some (.int .u64 (.lit (a % 4294967296))):=by
 obtain ⟨n,rfl⟩:=FG h
 have:=tB (a:=n) (b:=4294967295) (by omega) (by omega)
 rw[Nat.and_two_pow_sub_one_eq_mod n 32] at this
 exact this
theorem vO {a:Int} (h:0<=a):da .num .shr (.int .u64 (.lit a)) (.int .u64 (.lit 32))=some (.int .u64 (.lit (a / 4294967296))):=by
 obtain ⟨n,rfl⟩:=FG h
 exact tE (a:=n) (n:=32) (by omega)
theorem y7 {A B n:Int} (hA:0<=A) (hA':A<4294967296) (hB:0<=B) (hB':B<4294967296) (hn:n=4294967296*A+B):
 ((A*10 % 18446744073709551616+B*10 % 18446744073709551616 / 4294967296) % 18446744073709551616 / 4294967296 % 18446744073709551616+(A*10 % 18446744073709551616+B*10 % 18446744073709551616 / 4294967296) % 18446744073709551616 % 4294967296 % 18446744073709551616 / 4294967296) % 18446744073709551616=10*n / 18446744073709551616:=by
 rw[Int.emod_eq_of_lt (a:=A*10) (by omega) (by omega),Int.emod_eq_of_lt (a:=B*10) (by omega) (by omega)]
 generalize hu:B*10 / 4294967296=u
 rw[Int.emod_eq_of_lt (a:=A*10+u) (by omega) (by omega)]
 generalize hq:(A*10+u) / 4294967296=q
 generalize hs:(A*10+u) % 4294967296=s
 rw[Int.emod_eq_of_lt (a:=q) (by omega) (by omega),Int.emod_eq_of_lt (a:=s) (by omega) (by omega)]
 rw[Int.emod_eq_of_lt (by omega) (by omega)]
 omega
theorem CZ (m:NH) (hn:n<18446744073709551616):rT 38 [.int .u64 (.lit (n:Int)),.int .u64 (.lit 10)] m (.tup [.int .u64 (.lit ((10*n / 18446744073709551616:Nat):Int)),.int .u64 (.lit ((10*n % 18446744073709551616:Nat):Int))]) m:=by
 have h:∃v m',rT 38 [.int .u64 (.lit (n:Int)),.int .u64 (.lit 10)] m v m'/\v=(.tup [.int .u64 (.lit ((10*n / 18446744073709551616:Nat):Int)),.int .u64 (.lit ((10*n % 18446744073709551616:Nat):Int))])/\m'=m:=by
  refine WF.ex fun K hK=> ?_
  refine WF.of_wpG (fun _=>rfl) qI (L:= [(.a .e,.int .u64 (.lit 10)),(.e,.int .u64 (.lit (n:Int)))]) rfl ?_
  unfold yq
  have e1:(10:Int) % 4294967296=10:=rfl
  have e2:(10:Int) / 4294967296=0:=rfl
  have e3:(0:Int) % 18446744073709551616=0:=rfl
  simp (config:={maxSteps:=1000000}) (disch:=first|assumption|omega|(apply ab;omega)|(apply aa;assumption)|(simp only[aq]<;>omega)) only[go_sem,seval,ag,vT,vO,e1,e2,e3,Int.mul_zero,Int.zero_mul,Int.add_zero,Int.zero_add]
  refine hK _ _ ⟨?_,rfl⟩
  congr 4
  ·have:=y7 (A:=(n:Int) / 4294967296) (B:=(n:Int) % 4294967296) (n:=n) (by omega) (by omega) (by omega) (by omega) (by omega)
   rw[this];omega
  ·congr 2;omega
 obtain ⟨v,m',h,rfl,rfl⟩:=h
 exact h
def nH:List Nat->Nat->Option Nat
 | [],n=>some n
 |c::l,n=>if 10*n+(c - 48)<18446744073709551616 then nH l (10*n+(c - 48)) else none
def lR (s:List Nat):Option Nat:=if 1<s.length/\s[0]? =some 48 then none else nH s 0
abbrev u64 (n:Nat):NV:= .int .u64 (.lit (n:Int))
theorem gO {k:D4} {L:List (D4×NV)}:NT.put k v (ap L t)=ap ((k,v)::L) t:=_root_.id rfl
theorem mP (m:NH) (hs:s.length<=1000000) (hd:∀c∈s,dW c=true)
 (g1:NT.get D4.e t=some (.str s)) (g2:NT.get D4.e.f t=some (u64 0)) (g3:NT.get D4.e.f.c t=some (ii s.length)) (g4:NT.get D4.e.f.f t=some (ii 0))
 (hbad:nH s 0=none->∀t',NT.get D4.e.b t'=some (u64 0)->NT.get D4.e.c t'=some (.bool false)->Q .ret ⟨ap [] t', [],none,m⟩)
 (hok:∀n t',nH s 0=some n->NT.get D4.e.f t'=some (u64 n)->Q (.exit 0) ⟨ap [] t', [],none,m⟩):
 W Try.prog S0 none lN.loop ⟨t, [],none,m⟩ Q:=by
 refine W.loop (fun k d=>∃t i n,d=⟨t, [],none,m⟩/\NT.get D4.e t=some (.str s)/\NT.get D4.e.f t=some (u64 n)/\NT.get D4.e.f.c t=some (ii s.length)/\NT.get D4.e.f.f t=some (ii (i:Nat))/\n<18446744073709551616/\nH (s.drop i) n=nH s 0/\i+k=s.length) ?_ s.length _ ⟨_,0,0,rfl,g1,g2,g3,g4,by omega,rfl,by omega⟩
 rintro k d ⟨t,i,n,rfl,g1,g2,g3,g4,hn,hv,hik⟩
 apply bu
 unfold lN
 change wp _ _ _ _ ⟨ap [] t, [],none,m⟩ _
 by_cases hi:i<s.length
 ·have hb:s[i]? =some s[i]:=List.getElem?_eq_getElem hi
  have hdi:=hd s[i] (List.getElem_mem hi)
  unfold dW at hdi
  rw[decide_eq_true_eq] at hdi
  rw[List.drop_eq_getElem_cons hi] at hv
  generalize hc:s[i]=c at hb hdi hv
  have e1:((c:Int) - 48) % 256=((c - 48:Nat):Int):=by omega
  have e2:((c - 48:Nat):Int) % 18446744073709551616=((c - 48:Nat):Int):=by omega
  have hm:=CZ m hn
  have ha:rT 39 [.int .u64 (.lit ((10*n % 18446744073709551616:Nat):Int)),.int .u64 (.lit ((c - 48:Nat):Int)),.int .u64 (.lit 0)] m (.tup [.int .u64 (.lit (((10*n % 18446744073709551616+(c - 48)+0) % 18446744073709551616:Nat):Int)),.int .u64 (.lit (((10*n % 18446744073709551616+(c - 48)+0) / 18446744073709551616:Nat):Int))]) m:=mF.ext rfl AI (wk (c:=0) (by omega))
  by_cases hlt:10*n+(c - 48)<18446744073709551616
  ·have q4:10*n % 18446744073709551616=10*n:=by omega
   have q1:10*n / 18446744073709551616=0:=by omega
   have q2:(10*n+(c - 48)+0) / 18446744073709551616=0:=by omega
   have q3:(10*n+(c - 48)+0) % 18446744073709551616=10*n+(c - 48):=by omega
   rw[q4] at hm ha
   rw[q2,q3] at ha
   rw[q1] at hm
   simp (config:={maxSteps:=1000000}) (disch:=first|assumption|omega|(apply ab;omega)|(apply aa;assumption)|(simp only[aq]<;>omega)) only[go_sem,seval,g1,g2,g3,g4,hb,e1,e2,hm.wf',ha.wf']
   refine ⟨k - 1,by omega,_,i+1,10*n+(c - 48),rfl, ?_, ?_, ?_, ?_,hlt, ?_,by omega⟩
   ·simp (config:={maxSteps:=1000000}) (disch:=first|assumption|omega|(apply ab;omega)|(apply aa;assumption)|(simp only[aq]<;>omega)) only[go_sem,seval,g1]
   ·simp (config:={maxSteps:=1000000}) (disch:=first|assumption|omega|(apply ab;omega)|(apply aa;assumption)|(simp only[aq]<;>omega)) only[go_sem,seval]
   ·simp (config:={maxSteps:=1000000}) (disch:=first|assumption|omega|(apply ab;omega)|(apply aa;assumption)|(simp only[aq]<;>omega)) only[go_sem,seval,g3]
   ·simp (config:={maxSteps:=1000000}) (disch:=first|assumption|omega|(apply ab;omega)|(apply aa;assumption)|(simp only[aq]<;>omega)) only[go_sem,seval]<;>rfl
   ·rw[←hv];show _=ite _ _ _;rw[FA hlt]
  ·have q1:1<=10*n / 18446744073709551616+(10*n % 18446744073709551616+(c - 48)+0) / 18446744073709551616:=by omega
   have q2:10*n / 18446744073709551616<20:=by omega
   have q3:(10*n % 18446744073709551616+(c - 48)+0) / 18446744073709551616<20:=by omega
   generalize (10*n % 18446744073709551616+(c - 48)+0) / 18446744073709551616=ca at ha q1 q3
   generalize 10*n / 18446744073709551616=hi' at hm q1 q2
   simp (config:={maxSteps:=1000000}) (disch:=first|assumption|omega|(apply ab;omega)|(apply aa;assumption)|(simp only[aq]<;>omega)) only[go_sem,seval,g1,g2,g3,g4,hb,e1,e2,hm.wf',ha.wf']
   refine hbad ?_ _ ?_ ?_
   ·rw[←hv];show ite _ _ _=_;rw[Fz hlt]
   ·simp (config:={maxSteps:=1000000}) (disch:=first|assumption|omega|(apply ab;omega)|(apply aa;assumption)|(simp only[aq]<;>omega)) only[go_sem,seval,gO]<;>rfl
   ·simp (config:={maxSteps:=1000000}) (disch:=first|assumption|omega|(apply ab;omega)|(apply aa;assumption)|(simp only[aq]<;>omega)) only[go_sem,seval,gO]
 ·simp (config:={maxSteps:=1000000}) (disch:=first|assumption|omega|(apply ab;omega)|(apply aa;assumption)|(simp only[aq]<;>omega)) only[go_sem,seval,g1,g2,g3,g4]
  refine hok n _ ?_ ?_
  ·rw[←hv,List.drop_eq_nil_of_le (by omega)];rfl
  ·simp (config:={maxSteps:=1000000}) (disch:=first|assumption|omega|(apply ab;omega)|(apply aa;assumption)|(simp only[aq]<;>omega)) only[go_sem,seval,gO,g2]
theorem uO (m:NH) (hs:s.length<=1000000) (hd:∀c∈s,dW c=true):
 ∃v m',rT 33 [.str s] m v m'/\v=(match lR s with|some n=> .tup [u64 n,.bool true]|none=> .tup [u64 0,.bool false])/\m'=m:=by
 refine WF.ex fun K hK=> ?_
 refine WF.of_wpG (fun _=>rfl) ru (L:= [(.e,.str s)]) rfl ?_
 unfold yV
 by_cases h1:1<s.length
 ·have h0:s[0]? =some s[0]:=List.getElem?_eq_getElem (by omega)
  by_cases h2:s[0]=48
  ·simp (config:={maxSteps:=1000000}) (disch:=first|assumption|omega|(apply ab;omega)|(apply aa;assumption)|(simp only[aq]<;>omega)) only[go_sem,seval,ag,h0,h2]
   exact hK _ _ ⟨by unfold lR;rw[FA ⟨h1,by rw[h0,h2]⟩];rfl,rfl⟩
  ·have hN:lR s=nH s 0:=by unfold lR;rw[Fz (by rw[h0];simp[h2])]
   simp (config:={maxSteps:=1000000}) (disch:=first|assumption|omega|(apply ab;omega)|(apply aa;assumption)|(simp only[aq]<;>omega)) only[go_sem,seval,ag,h0,h2]
   refine mP m hs hd ?_ ?_ ?_ ?_ ?_ ?_
   ·simp (config:={maxSteps:=1000000}) (disch:=first|assumption|omega|(apply ab;omega)|(apply aa;assumption)|(simp only[aq]<;>omega)) only[go_sem,seval]
   ·simp (config:={maxSteps:=1000000}) (disch:=first|assumption|omega|(apply ab;omega)|(apply aa;assumption)|(simp only[aq]<;>omega)) only[go_sem,seval]<;>rfl
   ·simp (config:={maxSteps:=1000000}) (disch:=first|assumption|omega|(apply ab;omega)|(apply aa;assumption)|(simp only[aq]<;>omega)) only[go_sem,seval]
   ·simp (config:={maxSteps:=1000000}) (disch:=first|assumption|omega|(apply ab;omega)|(apply aa;assumption)|(simp only[aq]<;>omega)) only[go_sem,seval]
   ·intro hv t' g1 g2
    simp (config:={maxSteps:=1000000}) (disch:=first|assumption|omega|(apply ab;omega)|(apply aa;assumption)|(simp only[aq]<;>omega)) only[go_sem,seval,g1,g2]
    exact hK _ _ ⟨by rw[hN,hv],rfl⟩
   ·intro n t' hv g1
    simp (config:={maxSteps:=1000000}) (disch:=first|assumption|omega|(apply ab;omega)|(apply aa;assumption)|(simp only[aq]<;>omega)) only[go_sem,seval,g1]
    exact hK _ _ ⟨by rw[hN,hv],rfl⟩
 ·have hN:lR s=nH s 0:=by unfold lR;rw[Fz (fun q=>h1 q.1)]
  simp (config:={maxSteps:=1000000}) (disch:=first|assumption|omega|(apply ab;omega)|(apply aa;assumption)|(simp only[aq]<;>omega)) only[go_sem,seval,ag]
  refine mP m hs hd ?_ ?_ ?_ ?_ ?_ ?_
  ·simp (config:={maxSteps:=1000000}) (disch:=first|assumption|omega|(apply ab;omega)|(apply aa;assumption)|(simp only[aq]<;>omega)) only[go_sem,seval]
  ·simp (config:={maxSteps:=1000000}) (disch:=first|assumption|omega|(apply ab;omega)|(apply aa;assumption)|(simp only[aq]<;>omega)) only[go_sem,seval]<;>rfl
  ·simp (config:={maxSteps:=1000000}) (disch:=first|assumption|omega|(apply ab;omega)|(apply aa;assumption)|(simp only[aq]<;>omega)) only[go_sem,seval]
  ·simp (config:={maxSteps:=1000000}) (disch:=first|assumption|omega|(apply ab;omega)|(apply aa;assumption)|(simp only[aq]<;>omega)) only[go_sem,seval]
  ·intro hv t' g1 g2
   simp (config:={maxSteps:=1000000}) (disch:=first|assumption|omega|(apply ab;omega)|(apply aa;assumption)|(simp only[aq]<;>omega)) only[go_sem,seval,g1,g2]
   exact hK _ _ ⟨by rw[hN,hv],rfl⟩
  ·intro n t' hv g1
   simp (config:={maxSteps:=1000000}) (disch:=first|assumption|omega|(apply ab;omega)|(apply aa;assumption)|(simp only[aq]<;>omega)) only[go_sem,seval,g1]
   exact hK _ _ ⟨by rw[hN,hv],rfl⟩
def fa:List Nat:= [123,125,40,41,91,93,59,43,45,42,38,61,60]
def cut (s:List Nat) (a e:Nat):List Nat:=(s.take e).drop a
def cN (s:List Nat) (a:Nat):Option (Nat×List Nat×Nat×Nat):=
 match s[a]? with
 |none=>none
 |some c=>
  if ri c then (if cut s a (aD cE s a)∈fY then some (4,cut s a (aD cE s a),0,aD cE s a) else if (cut s a (aD cE s a)).length<=16 then some (1,cut s a (aD cE s a),0,aD cE s a) else none)
  else if dW c then (match lR (cut s a (aD dW s a)) with|some n=>if aD cE s a=aD dW s a then some (2, [],n,aD dW s a) else none|none=>none)
  else if c∈fa then some (3, [c],0,a+1) else none
theorem dw {a n d:Int} {t:List Nat}:bH 4 (.agg [.int .i64 (.lit a),.str t,.int .u64 (.lit n),.int .i64 (.lit d)]) (.agg [.int .i64 (.lit a),.str t,.int .u64 (.lit n),.int .i64 (.lit d)])=true:=by
 refine tI ?_
 intro v hv
 simp only[FE,FD,or_false] at hv
 rcases hv with rfl|rfl|rfl|rfl<;>trivial
theorem qi (p:Nat->Bool) (s:List Nat) (a:Nat):cut s a (aD p s a)=(s.drop a).takeWhile p:=by
 unfold cut aD
 rw[List.drop_take,Nat.add_sub_cancel_left]
 exact (List.prefix_iff_eq_take.mp (List.takeWhile_prefix p)).symm
theorem za  (hb:s[a]? =some c) (hp:p c=true):∃l,cut s a (aD p s a)=c::l:=by
 rw[qi]
 obtain ⟨ha,hc⟩:=List.getElem?_eq_some_iff.mp hb
 rw[List.drop_eq_getElem_cons ha,hc,List.takeWhile_cons,hp]
 exact ⟨_,rfl⟩
theorem pe (p:Nat->Bool) (l:List Nat):∀c∈l.takeWhile p,p c=true:=by
 induction l with
 |nil=>intro c h;simp at h
 |cons x l ih=>
  intro c h
  rw[List.takeWhile_cons] at h
  split at h
  ·rcases List.mem_cons.mp h with rfl|h
   ·assumption
   ·exact ih c h
  ·simp at h
theorem lf (p:Nat->Bool) (s:List Nat) (a:Nat):∀c∈cut s a (aD p s a),p c=true:=by rw[qi];exact pe p _
theorem sJ  (hb:s[a]? =some c) (hL:ri c=true) (hw:cut s a (aD cE s a)∉fY):iL (cut s a (aD cE s a))=decide ((cut s a (aD cE s a)).length<=16):=by
 have hI:cE c=true:=by unfold cE;rw[hL];rfl
 have hall:(cut s a (aD cE s a)).all cE=true:=by rw[List.all_eq_true];exact lf cE s a
 obtain ⟨l,hl⟩:=za (p:=cE) hb hI
 unfold iL
 rw[FB hw,hall,hl]
 simp[hL]
theorem xj  {q:Nat->Bool} (hpq:∀c,q c=true->p c=true) (s:List Nat):∀(k a:Nat),k=s.length - a->aD p s a=aD p s (aD q s a):=by
 intro k
 induction k with
 |zero=>intro a hk;rw[eO (p:=q) (by omega)]
 |succ k ih=>
  intro a hk
  have ha:a<s.length:=by omega
  cases hp:q s[a] with
  |true=>rw[ci (p:=q) ha hp,ci (p:=p) ha (hpq _ hp)];exact ih (a+1) (by omega)
  |false=>rw[fD (p:=q) ha hp]
theorem v7 (c:Nat) (h:dW c=true):cE c=true:=by unfold cE;rw[h];simp
theorem vP (m:NH) (hs:s.length<=1000000) (h256:∀c∈s,c<256) (ha:a<s.length):
 ∃v m',rT 21 [.str s,ii a] m v m'/\(∃(k0:Int) (t0:List Nat) (n0 z:Int),v= .tup [.agg [ii k0,.str t0,.int .u64 (.lit n0),ii a],ii z,.bool (cN s a).isSome]/\∀k t n e,cN s a=some (k,t,n,e)->k0=k/\t0=t/\n0=n/\z=(e:Int) - a)/\Chg [] m m':=by
 refine WF.ex fun K hK=> ?_
 refine WF.of_wpG (fun _=>rfl) ry (L:= [(.a .e,ii a),(.e,.str s)]) rfl ?_
 unfold zW
 have hb:s[a]? =some s[a]:=List.getElem?_eq_getElem ha
 generalize hc:s[a]=c at hb
 have hd:∀m,rT 32 [u8 c] m (.bool (dW c)) m:=fun m=>lE m c
 have hl:∀m,rT 27 [u8 c] m (.bool (ri c)) m:=fun m=>ko m c
 cases hL:ri c with
 |true=>
  rw[hL] at hl
  have hr:∀m,rT 24 [.str s,ii a,.fn 28 []] m (ii ((aD cE s a:Nat):Int)) m:=fun m=>nJ gZ m hs (Nat.le_of_lt ha)
  have ha':a<=aD cE s a:=by unfold aD;omega
  have hz':aD cE s a<=s.length:=ei (Nat.le_of_lt ha)
  simp (config:={maxSteps:=1000000}) (disch:=first|assumption|omega|(apply ab;omega)|(apply aa;assumption)|(simp only[aq]<;>omega)) only[go_sem,seval,hb,(hl _).wf',(hr _).wf']
  generalize hM:hp _ 2 m=M
  have hCM:Chg [] m M:=by rw[←hM];exact aX rfl
  have o0:aI M (na m 0):=by rw[←hM];exact ab (by omega)
  have o1:aI M (na m 1):=by rw[←hM];exact ab (by omega)
  have q0:M.get (na m 0)=some (.cells true [.int .i64 (.lit 0),.str [],.int .u64 (.lit 0),.int .i64 (.lit 0)]):=by rw[←hM];simp (config:={maxSteps:=1000000}) (disch:=first|assumption|omega|(apply ab;omega)|(apply aa;assumption)|(simp only[aq]<;>omega)) only[go_sem,seval]
  have q1:M.get (na m 1)=some (.cells true [.int .i64 (.lit 1),.str (cut s a (aD cE s a)),.int .u64 (.lit 0),ii a]):=by rw[←hM];simp (config:={maxSteps:=1000000}) (disch:=first|assumption|omega|(apply ab;omega)|(apply aa;assumption)|(simp only[aq]<;>omega)) only[go_sem,seval]<;>rfl
  obtain ⟨w,m1,hw,how,hC1⟩:=qC M
  have p0:=(hC1.get o0 (by simp)).trans q0
  have p1:=(hC1.get o1 (by simp)).trans q1
  have ne01:na m 0≠na m 1:=fun h=>Fy (jC h) (by omega)
  have ne10:na m 1≠na m 0:=fun h=>Fy (jC h) (by omega)
  have O0:=hC1.old o0
  have O1:=hC1.old o1
  have hlc:(cut s a (aD cE s a)).length<=1000000:=by unfold cut;rw[List.length_drop,List.length_take];omega
  have hct:∀t,rT 29 [w,.str t] m1 (.bool (decide (t∈fY))) m1:=fun t=>jK how.sl (by decide) t
  have hct:=hct (cut s a (aD cE s a))
  have e1:List.drop a (List.take (aD cE s a) s)=cut s a (aD cE s a):=rfl
  by_cases hwd:cut s a (aD cE s a)∈fY
  ·rw[FC hwd] at hct
   have T:cN s a=some (4,cut s a (aD cE s a),0,aD cE s a):=by unfold cN;rw[hb];simp[hL,hwd]
   simp (config:={maxSteps:=1000000}) (disch:=first|assumption|omega|(apply ab;omega)|(apply aa;assumption)|(simp only[aq]<;>omega)) only[go_sem,seval,e1,hw.wf',hct.wf,p0,p1,q0,q1,dw]
   refine hK _ _ ⟨⟨_,_,_,_,by rw[T];rfl, ?_⟩, ?_⟩
   ·intro k t n e he
    rw[T] at he;cases he
    exact ⟨rfl,rfl,rfl,rfl⟩
   ·refine hCM.trans ((hC1.weak (T:= [na m 1,na m 0]) (by simp)).trans (aX rfl) (by simp[cA])) ?_
    simp[aQ]
  ·rw[FB hwd] at hct
   obtain ⟨nv,m2,hn,rfl,hC2⟩:=AF (hp [] 0 m1) hlc
   have hC2':Chg [] m1 m2:=by rw[ag] at hC2;exact hC2
   have r0:=(hC2'.get O0 (by simp)).trans p0
   have r1:=(hC2'.get O1 (by simp)).trans p1
   have P0:=hC2'.old O0
   have P1:=hC2'.old O1
   simp (config:={maxSteps:=1000000}) (disch:=first|assumption|omega|(apply ab;omega)|(apply aa;assumption)|(simp only[aq]<;>omega)) only[go_sem,seval,e1,hw.wf',hct.wf,hn.wf,p0,p1,q0,q1,r0,r1,dw]
   have hnb:=sJ hb hL hwd
   have T:cN s a=if (cut s a (aD cE s a)).length<=16 then some (1,cut s a (aD cE s a),0,aD cE s a) else none:=by unfold cN;rw[hb];simp[hL,hwd]
   have E:(cN s a).isSome=iL (cut s a (aD cE s a)):=by rw[T,hnb];by_cases h16:(cut s a (aD cE s a)).length<=16<;>simp[h16]
   refine hK _ _ ⟨⟨_,_,_,_,by rw[E], ?_⟩, ?_⟩
   ·intro k t n e he
    rw[T] at he
    split at he
    ·cases he;exact ⟨rfl,rfl,rfl,rfl⟩
    ·cases he
   ·refine hCM.trans ((hC1.weak (T:= [na m 0]) (by simp)).trans ((hC2'.weak (T:= [na m 0]) (by simp)).trans (aX rfl) (by simp[cA])) (by simp)) ?_
    simp[aQ]
 |false=>
  rw[hL] at hl
  cases hD:dW c with
  |true=>
   rw[hD] at hd
   have hr:∀m,rT 24 [.str s,ii a,.fn 32 []] m (ii ((aD dW s a:Nat):Int)) m:=fun m=>nJ lE m hs (Nat.le_of_lt ha)
   have hi:=@gZ
   have ha':a<=aD dW s a:=by unfold aD;omega
   have hz':aD dW s a<=s.length:=ei (Nat.le_of_lt ha)
   have e1:List.drop a (List.take (aD dW s a) s)=cut s a (aD dW s a):=rfl
   have hlc:(cut s a (aD dW s a)).length<=1000000:=by unfold cut;rw[List.length_drop,List.length_take];omega
   have hnum:∀m,∃v,rT 33 [.str (cut s a (aD dW s a))] m v m/\v=(match lR (cut s a (aD dW s a)) with|some n=> .tup [u64 n,.bool true]|none=> .tup [u64 0,.bool false]):=fun m=>by
    obtain ⟨v,m',h,hv,rfl⟩:=uO m hlc (lf dW s a)
    exact ⟨v,h,hv⟩
   have hrr:=xj v7 s _ a rfl
   cases hn:lR (cut s a (aD dW s a)) with
   |none=>
    rw[hn] at hnum
    have hnum:∀m,rT 33 [.str (cut s a (aD dW s a))] m (.tup [u64 0,.bool false]) m:=fun m=>by
     obtain ⟨v,h,rfl⟩:=hnum m;exact h
    have T:cN s a=none:=by unfold cN;rw[hb];simp[hL,hD,hn]
    simp (config:={maxSteps:=1000000}) (disch:=first|assumption|omega|(apply ab;omega)|(apply aa;assumption)|(simp only[aq]<;>omega)) only[go_sem,seval,hb,e1,(hl _).wf',(hd _).wf',(hr _).wf',(hnum _).wf',dw]
    refine hK _ _ ⟨⟨_,_,_,_,by rw[T];rfl, ?_⟩, ?_⟩
    ·intro k t n e he;rw[T] at he;cases he
    ·exact aX rfl
   |some n=>
    rw[hn] at hnum
    have hnum:∀m,rT 33 [.str (cut s a (aD dW s a))] m (.tup [u64 n,.bool true]) m:=fun m=>by
     obtain ⟨v,h,rfl⟩:=hnum m;exact h
    by_cases he:aD dW s a=s.length
    ·have T:cN s a=some (2, [],n,aD dW s a):=by unfold cN;rw[hb];simp only[hL,hD,hn];rw[hrr,eO (p:=cE) (by omega)];simp
     simp (config:={maxSteps:=1000000}) (disch:=first|assumption|omega|(apply ab;omega)|(apply aa;assumption)|(simp only[aq]<;>omega)) only[go_sem,seval,hb,e1,(hl _).wf',(hd _).wf',(hr _).wf',(hnum _).wf',dw]
     refine hK _ _ ⟨⟨_,_,_,_,by rw[T];rfl, ?_⟩, ?_⟩
     ·intro k t n e he';rw[T] at he';cases he'
      exact ⟨rfl,rfl,rfl,rfl⟩
     ·exact aX rfl
    ·have hlt:aD dW s a<s.length:=by omega
     have hbe:s[aD dW s a]? =some s[aD dW s a]:=List.getElem?_eq_getElem hlt
     have hin:∀m,rT 28 [u8 s[aD dW s a]] m (.bool (cE s[aD dW s a])) m:=fun m=>gZ m _
     cases hI:cE s[aD dW s a] with
     |true=>
      rw[hI] at hin
      have hne:aD cE s a≠aD dW s a:=by
       rw[hrr,ci (p:=cE) hlt hI]
       have:=@fu cE s (aD dW s a+1)
       omega
      have T:cN s a=none:=by
       unfold cN;rw[hb];simp[hL,hD,hn,hne]
      simp (config:={maxSteps:=1000000}) (disch:=first|assumption|omega|(apply ab;omega)|(apply aa;assumption)|(simp only[aq]<;>omega)) only[go_sem,seval,hb,hbe,e1,(hl _).wf',(hd _).wf',(hr _).wf',(hnum _).wf',(hin _).wf',dw,he]
      refine hK _ _ ⟨⟨_,_,_,_,by rw[T];rfl, ?_⟩, ?_⟩
      ·intro k t n e he';rw[T] at he';cases he'
      ·exact aX rfl
     |false=>
      rw[hI] at hin
      have T:cN s a=some (2, [],n,aD dW s a):=by unfold cN;rw[hb];simp only[hL,hD,hn];rw[hrr,fD (p:=cE) hlt hI];simp
      simp (config:={maxSteps:=1000000}) (disch:=first|assumption|omega|(apply ab;omega)|(apply aa;assumption)|(simp only[aq]<;>omega)) only[go_sem,seval,hb,hbe,e1,(hl _).wf',(hd _).wf',(hr _).wf',(hnum _).wf',(hin _).wf',dw,he]
      refine hK _ _ ⟨⟨_,_,_,_,by rw[T];rfl, ?_⟩, ?_⟩
      ·intro k t n e he';rw[T] at he';cases he'
       exact ⟨rfl,rfl,rfl,rfl⟩
      ·exact aX rfl
  |false=>
   rw[hD] at hd
   have e1:List.drop a (List.take ((a:Int)+1).toNat s)= [c]:=by
    rw[show ((a:Int)+1).toNat=a+1 by omega,List.take_add_one,hb]
    simp only[Option.toList_some]
    rw[List.drop_append_of_le_length (by rw[List.length_take];omega),List.drop_take_self];rfl
   have h5:c<256:=h256 c (by rw[←hc];exact List.getElem_mem _)
   have hh:∀m,rT 34 [.str fa,.str [c]] m (.bool (decide (c∈fa))) m:=fun m=>xH m fa (by decide) h5
   have hsl: [123,125,40,41,91,93,59,43,45,42,38,61,60]=fa:=rfl
   have T:cN s a=if c∈fa then some (3, [c],0,a+1) else none:=by unfold cN;rw[hb];simp[hL,hD]
   have E:(cN s a).isSome=decide (c∈fa):=by rw[T];by_cases h:c∈fa<;>simp[h]
   simp (config:={maxSteps:=1000000}) (disch:=first|assumption|omega|(apply ab;omega)|(apply aa;assumption)|(simp only[aq]<;>omega)) only[go_sem,seval,hb,e1,(hl _).wf',(hd _).wf',hsl,(hh _).wf',dw]
   refine hK _ _ ⟨⟨_,_,_,_,by rw[E], ?_⟩, ?_⟩
   ·intro k t n e he
    rw[T] at he
    split at he
    ·cases he;exact ⟨rfl,rfl,rfl,by omega⟩
    ·cases he
   ·exact aX rfl
structure Tok where
 k:Nat
 t:List Nat
 n:Nat
 p:Nat
variable {L:List Tok}
def Tok.l (x:Tok):List NV:= [ii x.k,.str x.t,u64 x.n,ii x.p]
def bW (s:List Nat):Nat->Nat->List Tok×Option Nat
 |0,_=>([],none)
 |k+1,a=>if a<s.length then (match cN s a with
  |none=>([],some a)
  |some (kd,t,n,e)=>(⟨kd,t,n,a⟩::(bW s k (aV s e)).1,(bW s k (aV s e)).2)) else ([⟨5, [],0,s.length⟩],none)
def eq (s:List Nat):List Tok×Option Nat:=bW s (s.length+1) (aV s 0)
def rk (s:List Nat) (o:Option Nat):Nat:=match o with|some a=>a|none=>s.length
theorem tR  (hb:s[a]? =some c) (hp:p c=true):a<aD p s a:=by
 obtain ⟨ha,hc⟩:=List.getElem?_eq_some_iff.mp hb
 rw[ci ha (by rw[hc];exact hp)]
 exact fu
theorem uu  {kd e:Nat} {t:List Nat} (h:cN s a=some (kd,t,n,e)):a<e/\e<=s.length:=by
 unfold cN at h
 cases hb:s[a]? with
 |none=>rw[hb] at h;cases h
 |some c=>
  rw[hb] at h
  obtain ⟨ha,hc⟩:=List.getElem?_eq_some_iff.mp hb
  dsimp only at h
  have g1:ri c=true->a<aD cE s a:=fun q=>tR hb (by unfold cE;rw[q];rfl)
  have g2:dW c=true->a<aD dW s a:=fun q=>tR hb q
  have l1:=ei (p:=cE) (s:=s) (a:=a) (by omega)
  have l2:=ei (p:=dW) (s:=s) (a:=a) (by omega)
  split at h
  ·rename_i hL
   split at h
   ·cases h;exact ⟨g1 hL,l1⟩
   ·split at h
    ·cases h;exact ⟨g1 hL,l1⟩
    ·cases h
  ·split at h
   ·rename_i hD
    split at h
    ·split at h
     ·cases h;exact ⟨g2 hD,l2⟩
     ·cases h
    ·cases h
   ·split at h
    ·cases h;exact ⟨by omega,by omega⟩
    ·cases h
theorem rP (s:List Nat):∀(k a:Nat),(bW s k a).1.length<=k:=by
 intro k
 induction k with
 |zero=>intro a;simp[bW]
 |succ k ih=>
  intro a
  unfold bW
  split
  ·split
   ·simp
   ·rename_i kd t n e _
    have:=ih (aV s e)
    simp only[List.length_cons];omega
  ·simp
theorem xp  (hs:s.length<=1000000) (h256:∀c∈s,c<256) {q bs bw bx wh wr:D4} {w1 w2 w3:Bool} {z0:NV} {T:List D4}
 (hbs:m.get bs=some (.cells w1 [.str s])) (hbw:m.get bw=some (.cells w2 [.ptr wh 0])) (hbx:m.get bx=some (.cells w3 [.ptr wr 0]))
 (hwh:m.get wh=some (.cells true [z0])) (hwr:m.get wr=some (.cells true [.bool false]))
 (obs:aI m bs) (obw:aI m bw) (obx:aI m bx) (owh:aI m wh) (owr:aI m wr)
 (nbs:bs∉wh::wr::T) (nbw:bw∉wh::wr::T) (nbx:bx∉wh::wr::T) (nwr:wr∉wh::T) (nwh:wh∉wr::T)
 (I:List Tok->NH->Prop) (hI0:I [] m) (hI:∀L M M',I L M->Chg (wh::wr::T) m M->Chg [wh,wr] M M'->I L M')
 (hY:∀L (x:Tok) M,L.length<=s.length+1->Chg (wh::wr::T) m M->I L M->∃M',lU Try.prog S0 q [.agg x.l] M (.bool true) M'/\Chg (wh::wr::T) m M'/\M'.get wh=M.get wh/\M'.get wr=M.get wr/\I (L++ [x]) M'):
 ∃v m',rT 19 [.yld q,.ptr bs 0,.ptr bw 0,.ptr bx 0] m v m'/\Chg (wh::wr::T) m m'/\I (eq s).1 m'/\m'.get wh=some (.cells true [ii (rk s (eq s).2)])/\m'.get wr=some (.cells true [.bool (eq s).2.isSome]):=by
 refine WF.ex fun K hK=> ?_
 refine WF.of_wpG (fun _=>rfl) qO (L:= [(.c .e,.ptr bx 0),(.b .e,.ptr bw 0),(.a .e,.ptr bs 0),(.e,.yld q)]) rfl ?_
 unfold z7
 have hsk:∀m,∀a,a<=s.length->rT 20 [.str s,ii a] m (ii ((aV s a:Nat):Int)) m:=fun m a ha=>zH m hs ha
 have hs0:∀m,rT 20 [.str s,ii 0] m (ii ((aV s 0:Nat):Int)) m:=fun m=>hsk m 0 (by omega)
 rw[ag]
 simp (config:={maxSteps:=1000000}) (disch:=first|assumption|omega|(apply ab;omega)|(apply aa;assumption)|(simp only[aq]<;>omega)) only[go_sem,seval,hbs,(hs0 _).wf']
 have hsk0:aV s 0<=s.length:=gk (Nat.zero_le _)
 refine W.loop (fun k d=>∃t M i L,d=⟨t, [],none,M⟩/\NT.get D4.e t=some (.yld q)/\NT.get D4.e.a t=some (.ptr bs 0)/\NT.get D4.e.b t=some (.ptr bw 0)/\NT.get D4.e.c t=some (.ptr bx 0)/\NT.get D4.e.a.a t=some (ii (i:Nat))/\i<=s.length/\s.length<=i+k/\Chg (wh::wr::T) m M/\I L M/\M.get wr=some (.cells true [.bool false])/\(∃z,M.get wh=some (.cells true [z]))/\eq s=(L++(bW s (k+1) i).1,(bW s (k+1) i).2)) ?_ s.length _
  ⟨_,m,aV s 0, [],rfl,by simp only[go_sem,seval],by simp only[go_sem,seval],by simp only[go_sem,seval],by simp only[go_sem,seval],by simp only[go_sem,seval],hsk0,by omega,(Chg.refl m).weak (by simp),hI0,hwr,⟨_,hwh⟩,rfl⟩
 rintro k d ⟨t,M,i,L,rfl,g1,g2,g3,g4,g5,hi,hik,hC,hL,mr,⟨z,mh⟩,hT⟩
 apply bu
 unfold qx
 change wp _ _ _ _ ⟨ap [] t, [],none,M⟩ _
 rw[←ag M]
 have Obs:=hC.old obs
 have Obw:=hC.old obw
 have Obx:=hC.old obx
 have Owh:=hC.old owh
 have Owr:=hC.old owr
 have Gbs:=(hC.get obs nbs).trans hbs
 have Gbw:=(hC.get obw nbw).trans hbw
 have Gbx:=(hC.get obx nbx).trans hbx
 simp only[FE,not_or] at nbs nbw nbx nwr nwh
 obtain ⟨n1,n2,n3⟩:=nbs
 obtain ⟨n4,n5,n6⟩:=nbw
 obtain ⟨n7,n8,n9⟩:=nbx
 obtain ⟨n10,n11⟩:=nwr
 obtain ⟨n12,n13⟩:=nwh
 have hLl:L.length<=s.length+1:=by
  have h:=rP s (s.length+1) (aV s 0)
  have h2:(eq s).1.length=_:=congrArg (fun x=>x.1.length) hT
  rw[List.length_append] at h2
  have h3:(eq s).1.length<=s.length+1:=h
  omega
 by_cases hlt:i<s.length
 ·obtain ⟨k,rfl⟩:∃k',k=k'+1:=⟨k - 1,by omega⟩
  have hTs:bW s (k+1+1) i=(match cN s i with
   |none=>([],some i)
   |some (kd,t,n,e)=>(⟨kd,t,n,i⟩::(bW s (k+1) (aV s e)).1,(bW s (k+1) (aV s e)).2)):=by
   rw[bW,FA hlt]
  obtain ⟨v,M2,hr,⟨k0,t0,n0,zz,rfl,htk⟩,hC2⟩:=vP (hp [(.o wh,.cells true [ii i])] 0 M) hs h256 hlt
  have hM1:Chg [wh] M (hp [(.o wh,.cells true [ii i])] 0 M):=aX rfl
  have gwh:(hp [(AK.o wh,NO.cells true [ii i])] 0 M).get wh=some (.cells true [ii i]):=(cp Owh).trans bB
  have bs2:=(hC2.get (hM1.old Obs) (by simp)).trans ((hM1.get Obs (by simpa using n1)).trans Gbs)
  have bw2:=(hC2.get (hM1.old Obw) (by simp)).trans ((hM1.get Obw (by simpa using n4)).trans Gbw)
  have bx2:=(hC2.get (hM1.old Obx) (by simp)).trans ((hM1.get Obx (by simpa using n7)).trans Gbx)
  have wr2:=(hC2.get (hM1.old Owr) (by simp)).trans ((hM1.get Owr (by simpa using n10)).trans mr)
  have wh2:=(hC2.get (hM1.old Owh) (by simp)).trans gwh
  have obs2:=hC2.old (hM1.old Obs)
  have obw2:=hC2.old (hM1.old Obw)
  have obx2:=hC2.old (hM1.old Obx)
  have owr2:=hC2.old (hM1.old Owr)
  have owh2:=hC2.old (hM1.old Owh)
  have hC3:Chg [wh,wr] M M2:=(hM1.weak (T:= [wh,wr]) (by simp)).trans (hC2.weak (T:= [wh,wr]) (by simp)) fun _ h _=>h
  cases hk:cN s i with
  |none=>
   rw[hk] at hr
   have hr:rT 21 [.str s,ii i] (hp [(.o wh,.cells true [ii i])] 0 M) (.tup [.agg [ii k0,.str t0,.int .u64 (.lit n0),ii i],ii zz,.bool false]) M2:=hr
   simp (config:={maxSteps:=1000000}) (disch:=first|assumption|omega|(apply ab;omega)|(apply aa;assumption)|(simp only[aq]<;>omega)) only[go_sem,seval,g1,g2,g3,g4,g5,Gbs,Gbw,Gbx,mh,hr.wf,bs2,bw2,bx2,wr2,wh2]
   rw[hTs,hk] at hT
   generalize hMF:hp _ 1 M2=MF
   have hF:Chg [wh,wr] M MF:=hC3.trans (T:= [wr]) (by rw[←hMF];exact aX rfl) (by simp)
   refine hK _ _ ⟨hC.trans hF (by simp), ?_, ?_, ?_⟩
   ·rw[hT];show I (L++ []) _;rw[List.append_nil];exact hI _ _ _ hL hC hF
   ·rw[hT,←hMF];simp (config:={maxSteps:=1000000}) (disch:=first|assumption|omega|(apply ab;omega)|(apply aa;assumption)|(simp only[aq]<;>omega)) only[go_sem,seval,wh2]<;>rfl
   ·rw[hT,←hMF];simp (config:={maxSteps:=1000000}) (disch:=first|assumption|omega|(apply ab;omega)|(apply aa;assumption)|(simp only[aq]<;>omega)) only[go_sem,seval,wr2]<;>rfl
  |some x=>
   obtain ⟨kd,tx,n,e⟩:=x
   rw[hk] at hr
   obtain ⟨e0,e1,e2,e3⟩:=htk kd tx n e hk
   rw[e0,e1,e2,e3] at hr
   have hr:rT 21 [.str s,ii i] (hp [(.o wh,.cells true [ii i])] 0 M) (.tup [.agg [ii kd,.str tx,.int .u64 (.lit (n:Int)),ii i],ii ((e:Int) - i),.bool true]) M2:=hr
   simp (config:={maxSteps:=1000000}) (disch:=first|assumption|omega|(apply ab;omega)|(apply aa;assumption)|(simp only[aq]<;>omega)) only[go_sem,seval,g1,g2,g3,g4,g5,Gbs,Gbw,Gbx,mh,hr.wf,bs2,bw2,bx2,wr2,wh2]
   generalize hM3:hp _ 1 M2=M3
   have hC4:Chg [] M2 M3:=by rw[←hM3];exact aX rfl
   have hC5:Chg [wh,wr] M M3:=hC3.trans hC4 (by simp)
   obtain ⟨M4,hy,hC6,yh,yr,hI6⟩:=hY L ⟨kd,tx,n,i⟩ M3 hLl (hC.trans hC5 (by simp)) (hI _ _ _ hL hC hC5)
   have hy:lU Try.prog S0 q [.agg [ii kd,.str tx,.int .u64 (.lit (n:Int)),ii i]] M3 (.bool true) M4:=hy
   have bs4:=(hC6.get obs (by simp only[FE,not_or];exact ⟨n1,n2,n3⟩)).trans hbs
   have obs4:=hC6.old obs
   obtain ⟨l1,l2⟩:=uu hk
   have e4:(i:Int)+((e:Int) - i)=e:=by omega
   simp (config:={maxSteps:=1000000}) (disch:=first|assumption|omega|(apply ab;omega)|(apply aa;assumption)|(simp only[aq]<;>omega)) only[go_sem,seval,hy.wy,g1,g2,g3,g4,g5,bs4,e4,(hsk _ e l2).wf']
   have wh4:=yh.trans ((hC4.get owh2 (by simp)).trans wh2)
   have wr4:=yr.trans ((hC4.get owr2 (by simp)).trans wr2)
   have hge:e<=aV s e:=mL
   refine ⟨k,by omega,_,M4,aV s e,L++ [⟨kd,tx,n,i⟩],by rw[ag], ?_, ?_, ?_, ?_, ?_,gk l2,by omega, ?_,hI6,wr4,⟨_,wh4⟩, ?_⟩
   ·simp (config:={maxSteps:=1000000}) (disch:=first|assumption|omega|(apply ab;omega)|(apply aa;assumption)|(simp only[aq]<;>omega)) only[go_sem,seval,g1]
   ·simp (config:={maxSteps:=1000000}) (disch:=first|assumption|omega|(apply ab;omega)|(apply aa;assumption)|(simp only[aq]<;>omega)) only[go_sem,seval,g2]
   ·simp (config:={maxSteps:=1000000}) (disch:=first|assumption|omega|(apply ab;omega)|(apply aa;assumption)|(simp only[aq]<;>omega)) only[go_sem,seval,g3]
   ·simp (config:={maxSteps:=1000000}) (disch:=first|assumption|omega|(apply ab;omega)|(apply aa;assumption)|(simp only[aq]<;>omega)) only[go_sem,seval,g4]
   ·simp (config:={maxSteps:=1000000}) (disch:=first|assumption|omega|(apply ab;omega)|(apply aa;assumption)|(simp only[aq]<;>omega)) only[go_sem,seval]
   ·exact hC6
   ·rw[hT,hTs,hk];simp
 ·have hTs:bW s (k+1) i=([⟨5, [],0,s.length⟩],none):=by rw[bW,Fz hlt]
  rw[hTs] at hT
  simp (config:={maxSteps:=1000000}) (disch:=first|assumption|omega|(apply ab;omega)|(apply aa;assumption)|(simp only[aq]<;>omega)) only[go_sem,seval,g1,g2,g3,g4,g5,Gbs,Gbw,Gbx,mh]
  generalize hM3:hp _ 0 M=M3
  have hF:Chg [wh,wr] M M3:=by rw[←hM3];exact (aX rfl).weak (by simp[cA])
  have wh3:M3.get wh=some (.cells true [ii s.length]):=by rw[←hM3];simp (config:={maxSteps:=1000000}) (disch:=first|assumption|omega|(apply ab;omega)|(apply aa;assumption)|(simp only[aq]<;>omega)) only[go_sem,seval]
  have wr3:M3.get wr=some (.cells true [.bool false]):=by rw[←hM3];simp (config:={maxSteps:=1000000}) (disch:=first|assumption|omega|(apply ab;omega)|(apply aa;assumption)|(simp only[aq]<;>omega)) only[go_sem,seval,mr]
  obtain ⟨M4,hy,hC6,yh,yr,hI6⟩:=hY L ⟨5, [],0,s.length⟩ M3 hLl (hC.trans hF (by simp)) (hI _ _ _ hL hC hF)
  have hy:lU Try.prog S0 q [.agg [.int .i64 (.lit 5),.str [],.int .u64 (.lit 0),ii s.length]] M3 (.bool true) M4:=hy
  simp (config:={maxSteps:=1000000}) (disch:=first|assumption|omega|(apply ab;omega)|(apply aa;assumption)|(simp only[aq]<;>omega)) only[go_sem,seval,hy.wy]
  rw[ag]
  refine hK _ _ ⟨hC6, ?_, ?_, ?_⟩
  ·rw[hT];exact hI6
  ·rw[hT];exact yh.trans wh3
  ·rw[hT];exact yr.trans wr3
theorem pO  {M:NH} {q o:D4} {u:NV} (x:Tok) (h1:NT.get D4.e.a.c t=some (.ptr o 0)) (hq:M.get q=some (.loop 0 .none t [D4.e.c.c] cz cy)) (ho:M.get o=some (.cells true [u]))
 (hu:c9 m M u 4 (L.map Tok.l)) (hoq:o≠q) (hqo:aI M q) (hoo:aI M o) (hqm:aI m q) (hom:aI m o) (hmM:∀i,aI m i->aI M i) (hl:L.length<=1000000):
 ∃w M',lU Try.prog S0 q [.agg x.l] M w M'/\w= .bool true/\Chg (q::o::ids u) M M'/\M'.get q=some (.loop 0 .none t [D4.e.c.c] cz cy)/\∃u',M'.get o=some (.cells true [u'])/\c9 m M' u' 4 ((L++ [x]).map Tok.l):=by
 refine WY.ex fun K hK=> ?_
 refine WY.of_wp hq rfl cz.eq_1 cy.eq_1 ?_
 change wp _ _ _ _ ⟨ap [(D4.e.c.c,.agg [ii x.k,.str x.t,u64 x.n,ii x.p])] t, [],none,hp [] 0 M⟩ _
 simp (config:={maxSteps:=1000000}) (disch:=first|assumption|omega|(apply ab;omega)|(apply aa;assumption)|(simp only[aq]<;>omega)) only[go_sem,seval,h1,hq,ho]
 have hnq:q∉ids u:=fun hi=>hu.new _ hi hqm
 have hno:o∉ids u:=fun hi=>hu.new _ hi hom
 generalize hM1:hp _ 2 M=M1
 have hC1:Chg [q] M M1:=by rw[←hM1];exact aX rfl
 have hn1:M1.get (na M 1)=some (.cells true x.l):=by rw[←hM1];exact cX
 have on1:aI M1 (na M 1):=by rw[←hM1];exact ab (by omega)
 have hq1:M1.get q=some (.loop 1 .none t [D4.e.c.c] cz cy):=by rw[←hM1];exact (cp hqo).trans bB
 have ho1:=(hC1.get hoo (by simpa using hoq)).trans ho
 refine tQ (hu.chg hC1 (fun i hi=>by simp;rintro rfl;exact hnq hi)) hn1 on1 rfl (fun i hi=>hC1.old (hmM i hi)) (by simp;omega) (by simp;omega) ?_
 intro u' M2 hu' hC2
 have hq2:=(hC2.get (hC1.old hqo) hnq).trans hq1
 have ho2:=(hC2.get (hC1.old hoo) hno).trans ho1
 have oq:=hC2.old (hC1.old hqo)
 have oo:=hC2.old (hC1.old hoo)
 have hqo':q≠o:=fun e=>hoq e.symm
 simp (config:={maxSteps:=1000000}) (disch:=first|assumption|omega|(apply ab;omega)|(apply aa;assumption)|(simp only[aq]<;>omega)) only[go_sem,seval,h1,hq2,ho2,hu'.sl.one]
 have hC3:Chg [q,o] M2 (hp [(.o q,.loop 0 .none t [D4.e.c.c] cz cy),(.o o,.cells true [u'])] 0 M2):=aX rfl
 have nq':q∉ids u':=fun hi=>hu'.new _ hi hqm
 have no':o∉ids u':=fun hi=>hu'.new _ hi hom
 refine hK _ _ ⟨rfl,((hC1.weak (by simp)).trans hC2 ?_).trans hC3 ?_,(cp oq).trans bB,u',(cp oo).trans ((jA hoq).trans bB), ?_⟩
 ·intro i hi _;exact List.mem_cons_of_mem _ (List.mem_cons_of_mem _ hi)
 ·intro i hi _;simp at hi ⊢;rcases hi with rfl|rfl<;>simp
 ·rw[show (L++ [x]).map Tok.l=L.map Tok.l++ [x.l] by simp]
  refine hu'.chg hC3 fun i hi=> ?_
  simp
  exact ⟨fun e=>nq' (e▸hi),fun e=>no' (e▸hi)⟩
theorem pE  {M:NH} (hs:s.length<=16384) (h256:∀c∈s,c<256) {o bs bw bx wh wr:D4} {w1 w2 w3:Bool} {z0:NV}
 (h1:NT.get D4.e.a.c t=some (.ptr o 0)) (h2:NT.get D4.e.c.b t=some (.fn 19 [.ptr bs 0,.ptr bw 0,.ptr bx 0])) (ho:M.get o=some (.cells true [.nils])) (hoo:aI M o)
 (hbs:M.get bs=some (.cells w1 [.str s])) (hbw:M.get bw=some (.cells w2 [.ptr wh 0])) (hbx:M.get bx=some (.cells w3 [.ptr wr 0]))
 (hwh:M.get wh=some (.cells true [z0])) (hwr:M.get wr=some (.cells true [.bool false]))
 (obs:aI M bs) (obw:aI M bw) (obx:aI M bx) (owh:aI M wh) (owr:aI M wr)
 (nbs:bs∉ [wh,wr,o]) (nbw:bw∉ [wh,wr,o]) (nbx:bx∉ [wh,wr,o]) (nwr:wr∉ [wh,o]) (nwh:wh∉ [wr,o])
 (hmM:∀i,aI m i->aI M i) (hQ:∀M' u,c9 m M' u 4 ((eq s).1.map Tok.l)->M'.get o=some (.cells true [u])->M'.get wh=some (.cells true [ii (rk s (eq s).2)])->M'.get wr=some (.cells true [.bool (eq s).2.isSome])->
  M'.get (na M 0)=some (.defd true)->aI M' (na M 0)->Chg [o,wh,wr] M M'->(∀i∈ids u,i≠na M 0)->Q .norm ⟨t,.mark (na M 0)::dfs,none,hp [] 0 M'⟩):
 W Try.prog S0 none (.rangeFunc (.tmp D4.e.c.b) [D4.e.c.c] cz cy) ⟨t,dfs,none,M⟩ Q:=by
 have key:∀M1,M1=hp [(.n 1,.loop 0 .none t [D4.e.c.c] cz cy),(.n 0,.defd true)] 2 M->W Try.prog S0 none (.rangeFunc (.tmp D4.e.c.b) [D4.e.c.c] cz cy) ⟨t,dfs,none,M⟩ Q:=by
  intro M1 hM1
  have hG:Chg [] M M1:=by rw[hM1];exact aX rfl
  have oq:aI M1 (na M 1):=by rw[hM1];exact ab (by omega)
  have om:aI M1 (na M 0):=by rw[hM1];exact ab (by omega)
  have gq:M1.get (na M 1)=some (.loop 0 .none t [D4.e.c.c] cz cy):=by rw[hM1];exact cX
  have gm:M1.get (na M 0)=some (.defd true):=by rw[hM1];exact cX
  have g:∀{id x},aI M id->M.get id=some x->M1.get id=some x:=fun h q=>(hG.get h (by simp)).trans q
  simp only[FE,FD,or_false,not_or] at nbs nbw nbx nwr nwh
  have hqw:∀{id},aI M id->id≠na M 1:=fun h=>h.ne 1
  have hqw':∀{id},aI M id->na M 1≠id:=fun h e=>h.ne 1 e.symm
  obtain ⟨v,m',hr,hC,⟨hq,u,hou,hown⟩,hwh',hwr'⟩:=xp (m:=M1) (q:=na M 1) (T:= [o,na M 1]) (by omega) h256 (g obs hbs) (g obw hbw) (g obx hbx) (g owh hwh) (g owr hwr) (hG.old obs) (hG.old obw) (hG.old obx) (hG.old owh) (hG.old owr)
   (by simp only[FE,FD,or_false,not_or];exact ⟨nbs.1,nbs.2.1,nbs.2.2,hqw obs⟩)
   (by simp only[FE,FD,or_false,not_or];exact ⟨nbw.1,nbw.2.1,nbw.2.2,hqw obw⟩)
   (by simp only[FE,FD,or_false,not_or];exact ⟨nbx.1,nbx.2.1,nbx.2.2,hqw obx⟩)
   (by simp only[FE,FD,or_false,not_or];exact ⟨nwr.1,nwr.2,hqw owr⟩)
   (by simp only[FE,FD,or_false,not_or];exact ⟨nwh.1,nwh.2,hqw owh⟩)
   (fun L N=>N.get (na M 1)=some (.loop 0 .none t [D4.e.c.c] cz cy)/\∃u,N.get o=some (.cells true [u])/\c9 M1 N u 4 (L.map Tok.l))
   ⟨gq,.nils,g hoo ho,c9.nil⟩
   (by
    rintro L N N' ⟨hq,u,hou,hown⟩ hC hC'
    refine ⟨(hC'.get (hC.old oq) ?_).trans hq,u,(hC'.get (hC.old (hG.old hoo)) ?_).trans hou,hown.chg hC' ?_⟩
    ·simp only[FE,FD,or_false,not_or];exact ⟨hqw' owh,hqw' owr⟩
    ·simp only[FE,FD,or_false,not_or];exact ⟨fun e=>nwh.2 e.symm,fun e=>nwr.2 e.symm⟩
    ·intro j hj
     simp only[FE,FD,or_false,not_or]
     exact ⟨fun e=>hown.new j hj (e▸hG.old owh),fun e=>hown.new j hj (e▸hG.old owr)⟩)
   (by
    rintro L x N hL hC ⟨hq,u,hou,hown⟩
    obtain ⟨w,M',h3,rfl,h4,h5,u',h6,h7⟩:=pO x h1 hq hou hown (hqw hoo) (hC.old oq) (hC.old (hG.old hoo)) oq (hG.old hoo) (fun i hi=>hC.old hi) (by omega)
    refine ⟨M',h3,hC.trans h4 ?_, ?_, ?_,h5,u',h6,h7⟩
    ·intro i hi hio
     simp only[FE,FD,or_false] at hi ⊢
     rcases hi with rfl|rfl|hi
     ·simp
     ·simp
     ·exact Fy hio (hown.new i hi)
    ·refine h4.get (hC.old (hG.old owh)) ?_
     simp only[FE,not_or];exact ⟨hqw owh,nwh.2,fun hi=>hown.new _ hi (hG.old owh)⟩
    ·refine h4.get (hC.old (hG.old owr)) ?_
     simp only[FE,not_or];exact ⟨hqw owr,nwr.2,fun hi=>hown.new _ hi (hG.old owr)⟩)
  have hnm:na M 0∉wh::wr:: [o,na M 1]:=by
   simp only[FE,FD,or_false,not_or]
   exact ⟨fun e=>owh.ne 0 e.symm,fun e=>owr.ne 0 e.symm,fun e=>hoo.ne 0 e.symm,fun e=>by have:=jC e;omega⟩
  refine W.rangeN h2 (hM1▸hr) hq ?_ (hC.old oq)
  have hC2:Chg [na M 1] m' (hp [(AK.o (na M 1),NO.loop 3 Jump.none t [D4.e.c.c] cz cy)] 0 m'):=aX rfl
  rw[←ag (hp [(AK.o (na M 1),NO.loop 3 Jump.none t [D4.e.c.c] cz cy)] 0 m')]
  have g2:∀{id x},aI M id->m'.get id=some x->(hp [(AK.o (na M 1),NO.loop 3 Jump.none t [D4.e.c.c] cz cy)] 0 m').get id=some x:=fun h q=>(hC2.get (hC.old (hG.old h)) (by simpa using hqw h)).trans q
  refine hQ _ u ?_ (g2 hoo hou) (g2 owh hwh') (g2 owr hwr') ((hC2.get (hC.old om) (by simp[eI])).trans ((hC.get om hnm).trans gm)) (hC2.old (hC.old om)) ?_ ?_
  ·exact (hown.chg hC2 fun i hi=>by simp;rintro rfl;exact hown.new _ hi oq).back fun i hi=>hG.old (hmM i hi)
  ·refine ((hG.weak (T:= [o,wh,wr]) (by simp)).trans hC ?_).trans hC2 ?_
   ·intro i hi hio;simp only[FE,FD,or_false] at hi ⊢;rcases hi with rfl|rfl|rfl|rfl
    ·simp
    ·simp
    ·simp
    ·exact Fy hio aQ
   ·intro i hi hio;simp at hi;subst hi;exact Fy hio aQ
  ·rintro i hi rfl;exact hown.new _ hi om
 exact key _ rfl
theorem DB (m:NH) (s:List Nat) (p1 p2:NV) (h1:∃i,p1= .ptr i 0) (h2:∃i,p2= .ptr i 0):rT 11 [.str s,p1,p2] m (.fn 19 [.ptr (na m 0) 0,.ptr (na m 1) 0,.ptr (na m 2) 0]) (hp [(.n 2,.cells true [p2]),(.n 1,.cells true [p1]),(.n 0,.cells true [.str s])] 3 m):=by
 obtain ⟨i,rfl⟩:=h1
 obtain ⟨j,rfl⟩:=h2
 have h:WF Try.prog S0 11 [.str s,.ptr i 0,.ptr j 0] m fun v m'=>v=(.fn 19 [.ptr (na m 0) 0,.ptr (na m 1) 0,.ptr (na m 2) 0])/\m'=(hp [(.n 2,.cells true [.ptr j 0]),(.n 1,.cells true [.ptr i 0]),(.n 0,.cells true [.str s])] 3 m):=by
  refine WF.of_wpG (fun _=>rfl) rA (L:= [(.b .e,.ptr j 0),(.a .e,.ptr i 0),(.e,.str s)]) rfl ?_
  unfold yQ
  simp (config:={maxSteps:=1000000}) (disch:=first|assumption|omega|(apply ab;omega)|(apply aa;assumption)|(simp only[aq]<;>omega)) only[go_sem,seval]
 obtain ⟨v,m',h1,rfl,rfl⟩:=h.ret
 exact h1
theorem mH (m:NH) {b:List Nat} (hv:Sl m v 1 (tc b)) (hl:b.length<=1000000) (hb:∀c∈b,c<256):
 ∃r m',rT 7 [v] m r m'/\(if 16384<b.length then r= .tup [.nils,ii 0,ii 3] else (match (eq b).2 with|some a=>r= .tup [.nils,ii a,ii 2]|none=>∃u,r= .tup [u,ii b.length,ii 0]/\c9 m m' u 4 ((eq b).1.map Tok.l)))/\Chg [] m m':=by
 refine WF.ex fun K hK=> ?_
 refine WF.of_wpM (fun _=>rfl) uJ (L:= [(.e,v)]) rfl ?_
 unfold Fa
 have hlen:=hv.len
 rw[show (tc b).length=b.length by simp] at hlen
 by_cases h1:16384<b.length
 ·simp (config:={maxSteps:=1000000}) (disch:=first|assumption|omega|(apply ab;omega)|(apply aa;assumption)|(simp only[aq]<;>omega)) only[go_sem,seval,hlen,ag]
  apply ml
  simp (config:={maxSteps:=1000000}) (disch:=first|assumption|omega|(apply ab;omega)|(apply aa;assumption)|(simp only[aq]<;>omega)) only[go_sem,seval]
  refine hK _ _ ⟨by rw[FA h1],Chg.refl m⟩
 ·simp (config:={maxSteps:=1000000}) (disch:=first|assumption|omega|(apply ab;omega)|(apply aa;assumption)|(simp only[aq]<;>omega)) only[go_sem,seval,hlen]
  generalize hM:hp _ 3 m=M
  have hC:Chg [] m M:=by rw[←hM];exact aX rfl
  have g0:M.get (na m 0)=some (.cells true [ii 0]):=by rw[←hM];exact cX
  have g1:M.get (na m 1)=some (.cells true [.bool false]):=by rw[←hM];exact cX
  have g2:M.get (na m 2)=some (.cells true [.nils]):=by rw[←hM];exact cX
  have o0:aI M (na m 0):=by rw[←hM];exact ab (by omega)
  have o1:aI M (na m 1):=by rw[←hM];exact ab (by omega)
  have o2:aI M (na m 2):=by rw[←hM];exact ab (by omega)
  have hbt:w9 M v= .val (.str b):=(hv.chg hC fun _ _=>by simp).bts hb
  simp (config:={maxSteps:=1000000}) (disch:=first|assumption|omega|(apply ab;omega)|(apply aa;assumption)|(simp only[aq]<;>omega)) only[go_sem,seval,hbt,(DB M b _ _ ⟨_,rfl⟩ ⟨_,rfl⟩).wf']
  generalize hM2:hp _ 3 M=M2
  have hC2:Chg [] M M2:=by rw[←hM2];exact aX rfl
  have k0:M2.get (na M 0)=some (.cells true [.str b]):=by rw[←hM2];exact cX
  have k1:M2.get (na M 1)=some (.cells true [.ptr (na m 0) 0]):=by rw[←hM2];exact cX
  have k2:M2.get (na M 2)=some (.cells true [.ptr (na m 1) 0]):=by rw[←hM2];exact cX
  have q0:aI M2 (na M 0):=by rw[←hM2];exact ab (by omega)
  have q1:aI M2 (na M 1):=by rw[←hM2];exact ab (by omega)
  have q2:aI M2 (na M 2):=by rw[←hM2];exact ab (by omega)
  have nn:∀{i j},aI M (na m i)->na M j≠na m i:=fun h e=>h.ne _ e.symm
  refine pE (m:=m) (s:=b) (o:=na m 2) (bs:=na M 0) (bw:=na M 1) (bx:=na M 2) (wh:=na m 0) (wr:=na m 1) (by omega) hb ?_ ?_ ((hC2.get o2 (by simp)).trans g2) (hC2.old o2) k0 k1 k2 ((hC2.get o0 (by simp)).trans g0) ((hC2.get o1 (by simp)).trans g1) q0 q1 q2 (hC2.old o0) (hC2.old o1) ?_ ?_ ?_ ?_ ?_ (fun i hi=>hC2.old (hC.old hi)) ?_
  ·simp (config:={maxSteps:=1000000}) (disch:=first|assumption|omega|(apply ab;omega)|(apply aa;assumption)|(simp only[aq]<;>omega)) only[go_sem,seval]
  ·simp (config:={maxSteps:=1000000}) (disch:=first|assumption|omega|(apply ab;omega)|(apply aa;assumption)|(simp only[aq]<;>omega)) only[go_sem,seval]
  ·simp only[FE,FD,or_false,not_or];exact ⟨nn o0,nn o1,nn o2⟩
  ·simp only[FE,FD,or_false,not_or];exact ⟨nn o0,nn o1,nn o2⟩
  ·simp only[FE,FD,or_false,not_or];exact ⟨nn o0,nn o1,nn o2⟩
  ·simp[eI]
  ·simp[eI]
  intro M' u hown ho hwh hwr hmk omk hC3 hu
  have p0:=hC3.old (hC2.old o0)
  have p1:=hC3.old (hC2.old o1)
  have p2:=hC3.old (hC2.old o2)
  have hCm:Chg [] m M':=((hC.trans hC2 fun _ h _=>h).weak (T:= [na m 2,na m 0,na m 1]) (by simp)).trans hC3 (fun _ h _=>h) |>.weak (by
   intro i hi ho;simp only[FE,FD,or_false] at hi;rcases hi with rfl|rfl|rfl<;>exact Fy ho aQ)
  have hCf:∀x,Chg [] m (hp [(.o (na M2 0),x)] 0 M'):=fun x=>hCm.trans (T:= [na M2 0]) (aX rfl) (by
   intro i hi ho;simp only[FE,FD,or_false] at hi;subst hi;exact Fy (hC2.old (hC.old ho)) aQ)
  cases he:(eq b).2 with
  |some a=>
   rw[he] at hwh hwr
   have hwh:M'.get (na m 0)=some (.cells true [ii a]):=hwh
   have hwr:M'.get (na m 1)=some (.cells true [.bool true]):=hwr
   simp (config:={maxSteps:=1000000}) (disch:=first|assumption|omega|(apply ab;omega)|(apply aa;assumption)|(simp only[aq]<;>omega)) only[go_sem,seval,ho,hwh,hwr,hmk]
   apply ml
   simp (config:={maxSteps:=1000000}) (disch:=first|assumption|omega|(apply ab;omega)|(apply aa;assumption)|(simp only[aq]<;>omega)) only[go_sem,seval]
   refine hK _ _ ⟨by rw[Fz h1,he],hCf _⟩
  |none=>
   rw[he] at hwh hwr
   have hwh:M'.get (na m 0)=some (.cells true [ii b.length]):=hwh
   have hwr:M'.get (na m 1)=some (.cells true [.bool false]):=hwr
   simp (config:={maxSteps:=1000000}) (disch:=first|assumption|omega|(apply ab;omega)|(apply aa;assumption)|(simp only[aq]<;>omega)) only[go_sem,seval,ho,hwh,hwr,hmk,hown.sl.one]
   apply ml
   simp (config:={maxSteps:=1000000}) (disch:=first|assumption|omega|(apply ab;omega)|(apply aa;assumption)|(simp only[aq]<;>omega)) only[go_sem,seval]
   refine hK _ _ ⟨?_,hCf _⟩
   rw[Fz h1,he]
   exact ⟨u,rfl,hown.chg (aX rfl) fun i hi=>by simpa [cA] using hu i hi⟩
theorem tf  {l:List NV} (h:Ty Try.prog m 22 l):∃v b,l= [v]/\Sl m v 1 (tc b)/\b.length<=maxLen/\∀x∈b,x<256:=by
 obtain ⟨v,C,rfl,hS,hm,hall⟩:=h.inv_slc Try.underlying22
 have key:∀C:List (List NV),(∀c∈C,Ty Try.prog m 5 c)->∃b:List Nat,C=tc b/\∀x∈b,x<256:=by
  intro C
  induction C with
  |nil=>intro _;exact ⟨[],rfl,by simp⟩
  |cons c C ih=>
   intro h
   obtain ⟨n,rfl,hw⟩:=(h c (List.mem_cons_self ..)).inv_int Try.underlying5
   obtain ⟨l,rfl,g⟩:=ih fun x hx=>h x (List.mem_cons_of_mem _ hx)
   have hn:0<=n/\n<256:=by
    simp[Lit.wf] at hw
    have e1:IntKind.u8.min=0:=by decide
    have e2:IntKind.u8.max=255:=by decide
    rw[e1,e2] at hw;omega
   obtain ⟨k,rfl⟩:=FG hn.1
   exact ⟨k::l,rfl,by intro x hx;rcases List.mem_cons.mp hx with rfl|hx;omega;exact g x hx⟩
 obtain ⟨b,rfl,hf⟩:=key C hall
 exact ⟨v,b,rfl,hS,by simpa using hm,hf⟩
def CE (s:List Nat):Int->List Tok->Prop
 |_, []=>True
 |w,x::l=>w<x.p/\x.p<=s.length/\x.t.length<=s.length - x.p/\cut s x.p (x.p+x.t.length)=x.t/\(x.k=5↔l= [])/\CE s x.p l
theorem qh  {e:Nat} (h:e<=s.length):(cut s a e).length=e - a:=by unfold cut;rw[List.length_drop,List.length_take];omega
theorem lV (s:List Nat) (a:Nat):cut s a a= []:=by unfold cut;exact List.drop_take_self
theorem we  {e:Nat} (h:e<=s.length) (h':a<=e):cut s a (a+(cut s a e).length)=cut s a e:=by rw[qh h,Nat.add_sub_cancel' h']
theorem vN  (hb:s[a]? =some c):cut s a (a+1)= [c]:=by
 obtain ⟨ha,hc⟩:=List.getElem?_eq_some_iff.mp hb
 unfold cut
 rw[List.take_add_one,hb]
 simp only[Option.toList_some]
 rw[List.drop_append_of_le_length (by rw[List.length_take];omega),List.drop_take_self];rfl
theorem xS  {kd e:Nat} {t:List Nat} (h:cN s a=some (kd,t,n,e)):kd≠5/\t.length<=s.length - a/\cut s a (a+t.length)=t:=by
 unfold cN at h
 cases hb:s[a]? with
 |none=>rw[hb] at h;cases h
 |some c=>
  rw[hb] at h
  obtain ⟨ha,hc⟩:=List.getElem?_eq_some_iff.mp hb
  dsimp only at h
  have l1:=ei (p:=cE) (s:=s) (a:=a) (by omega)
  have l2:=fu (p:=cE) (s:=s) (a:=a)
  have c1:=we l1 l2
  have c2:=qh (a:=a) l1
  split at h
  ·split at h
   ·cases h;exact ⟨by omega,by omega,c1⟩
   ·split at h
    ·cases h;exact ⟨by omega,by omega,c1⟩
    ·cases h
  ·split at h
   ·split at h
    ·split at h
     ·cases h;exact ⟨by omega,by simp,lV s a⟩
     ·cases h
    ·cases h
   ·split at h
    ·cases h;exact ⟨by omega,by simp;omega,vN hb⟩
    ·cases h
theorem tH (s:List Nat):∀(k a:Nat) (w:Int),s.length<=a+k->a<=s.length->w<a->(bW s (k+1) a).2=none->CE s w (bW s (k+1) a).1/\(bW s (k+1) a).1≠ []:=by
 intro k
 induction k with
 |zero=>
  intro a w h1 h2 h3 h4
  rw[bW,Fz (by omega)]
  exact ⟨⟨by simp;omega,Nat.le_refl _,by simp,lV s _,by simp,trivial⟩,by simp⟩
 |succ k ih=>
  intro a w h1 h2 h3 h4
  by_cases ha:a<s.length
  ·rw[bW,FA ha] at h4 ⊢
   cases hk:cN s a with
   |none=>rw[hk] at h4;cases h4
   |some x=>
    obtain ⟨kd,t,n,e⟩:=x
    rw[hk] at h4
    obtain ⟨e1,e2⟩:=uu hk
    obtain ⟨t1,t2,t3⟩:=xS hk
    have g1:e<=aV s e:=mL
    obtain ⟨i1,i2⟩:=ih (aV s e) a (by omega) (gk e2) (by omega) h4
    exact ⟨⟨h3,by simp;omega,t2,t3,⟨fun q=>Fy q t1,fun q=>Fy q i2⟩,i1⟩,by simp⟩
  ·rw[bW,Fz ha]
   exact ⟨⟨by simp;omega,Nat.le_refl _,by simp,lV s _,by simp,trivial⟩,by simp⟩
theorem v9  (h:(eq s).2=none):CE s (-1) (eq s).1/\(eq s).1≠ []:=by
 have:=gk (s:=s) (a:=0) (Nat.zero_le _)
 exact tH s s.length (aV s 0) (-1) (by omega) this (by omega) h
theorem sO (s:List Nat):∀(k a x:Nat),(bW s k a).2=some x->x<s.length:=by
 intro k
 induction k with
 |zero=>intro a x h;simp[bW] at h
 |succ k ih=>
  intro a x h
  unfold bW at h
  split at h
  ·split at h
   ·cases h;assumption
   ·exact ih _ x h
  ·cases h
theorem gq {k:D4} {L:List (D4×NV)} {v:Option NV} (h:d8 k L (NT.get k t)=v):NT.get k (ap L t)=v:=(fo k L t).trans h
theorem one {a b:D4} (h:a∈ [b]):a=b:=by simpa using h
section
variable {l:List (AK×NO)} {k j:Nat} {m M:NH} {S:List D4}
theorem bS (h:hp l k m=M) (hs:cA l=S):Chg S m M:=by rw[←h];exact aX hs
theorem dg (h:hp l k m=M) (hj:j<k):aI M (na m j):=by rw[←h];exact ab hj
theorem cZ (h:hp l k m=M):M.get (na m j)=fE j l (m.get (na m j)):=by rw[←h];exact cX
end
theorem WF.pan {P:Program} {S:Nat->List NV->Option NV} {args:List NV} {E:NV->NH->Prop} (h:WF ⟨P,E⟩ S f args m fun _ _=>False):∃v m',Eg P S f args m v m'/\E v m':=by
 rcases h with ⟨_,_,_,_,h⟩|⟨v,c,m',h1,h2⟩
 ·exact h.elim
 ·exact ⟨v,m',⟨c,h1⟩,h2⟩
structure Rd (m:NH) (r:D4) (u:NV) (L:List Tok) (a:Nat):Prop where
 g:m.get r=some (.cells true [u,ii a])
 o:aI m r
 s:Sl m u 4 (L.map Tok.l)
 n:r∉ids u
 l:L.length<=1000000
 k:∀i x,L[i]? =some x->(x.k=5↔i+1=L.length)
 a:a<L.length
 b:∀(i:Nat) (x:Tok),L[i]? =some x->∀c∈x.t,c<256
def bR (T:List D4) (L:List Tok) (m:NH) (v:NV) (m':NH):Prop:=∃(e:Int) (a:Nat),v= .ifc 40 (.agg [ii e,ii a])/\e≠0/\a<L.length/\Chg T m m'
section
variable {m m' m0:NH} {r:D4} {u:NV} {L:List Tok} {a:Nat} {x:Tok} {T T':List D4}
theorem Rd.chg (h:Rd m r u L a) (hC:Chg T m m') (h1:r∉T) (h2:∀i∈ids u,i∉T):Rd m' r u L a:=
 ⟨(hC.get h.o h1).trans h.g,hC.old h.o,h.s.chg hC h2,h.n,h.l,h.k,h.a,h.b⟩
theorem Rd.grow (h:Rd m r u L a) (hC:Chg [] m m'):Rd m' r u L a:=h.chg hC (by simp) (by simp)
theorem Rd.tok (h:Rd m r u L a):∃x,L[a]? =some x:=⟨_,List.getElem?_eq_getElem h.a⟩
theorem bR.pre  (hC:Chg T m0 m) (h:bR T' L m v m') (hT:∀i∈T',aI m0 i->i∈T):bR T L m0 v m':=by
 obtain ⟨e,a,h1,h2,h3,h4⟩:=h
 exact ⟨e,a,h1,h2,h3,hC.trans h4 hT⟩
theorem Rd.put (h:Rd m r u L a) (hx:L[a]? =some x) (h5:x.k≠5) {M:NH} (hM:hp [(.o r,.cells true [u,ii ((a:Int)+1)])] k m=M):Rd M r u L (a+1)/\Chg [r] m M:=by
 have hC:Chg [r] m M:=bS hM rfl
 refine ⟨⟨?_,hC.old h.o,h.s.chg hC fun i hi q=>h.n (one q▸hi),h.n,h.l,h.k, ?_,h.b⟩,hC⟩
 ·rw[←hM];exact (cp h.o).trans bB
 ·have:=(h.k a x hx).mpr
  have ha:=h.a
  by_cases e:a+1=L.length
  ·exact Fy (this e) h5
  ·omega
theorem lm (h:Rd m r u L a) (hx:L[a]? =some x):∃m',rT 12 [.ptr r 0] m (.agg x.l) m'/\Chg [] m m':=by
 refine WF.ex1 fun K hK=> ?_
 refine WF.of_wpG (fun _=>rfl) rC (L:= [(.e,.ptr r 0)]) rfl ?_
 unfold yb
 have g:=h.g
 have hlen:=h.s.len
 rw[List.length_map] at hlen
 have ha:=h.a
 obtain ⟨id,off,wr,cs,a1,a2,a3,a4,a5⟩:=h.s.at a (by simpa using ha)
 rw[List.getElem_map] at a5
 have hxe:L[a]=x:=by rw[List.getElem?_eq_getElem ha] at hx;exact Option.some.inj hx
 rw[hxe] at a5
 have ho:=h.o
 unfold Tok.l at a5
 simp (config:={maxSteps:=1000000}) (disch:=first|assumption|omega|(apply ab;omega)|(apply aa;assumption)|(simp only[aq]<;>omega)) only[go_sem,seval,g,hlen,a1,a2,a5]
 exact hK _ (aX rfl)
end
def CT (f:Nat) (args:List NV) (m:NH) (T:List D4) (L:List Tok) (Φ:NV->NH->Prop):Prop:=∀(E K:NV->NH->Prop),(∀v m',bR T L m v m'->E v m')->(∀v m',Φ v m'->K v m')->WF ⟨Try.prog,E⟩ S0 f args m K
section
variable {m m' m0:NH} {r:D4} {u:NV} {L:List Tok} {a:Nat} {x:Tok} {T T':List D4}
theorem yo (h:Rd m r u L a) (hx:L[a]? =some x) (k:Nat) (t:List Nat):∃m',rT 17 [.ptr r 0,ii k,.str t] m (.bool (decide (x.k=k/\x.t=t))) m'/\Chg [] m m':=by
 refine WF.ex1 fun K hK=> ?_
 refine WF.of_wpG (fun _=>rfl) rH (L:= [(.b .e,.str t),(.a .e,ii k),(.e,.ptr r 0)]) rfl ?_
 unfold AL
 obtain ⟨m1,r1,hC1⟩:=lm h hx
 unfold Tok.l at r1
 rw[ag]
 by_cases h1:x.k=k
 ·by_cases h2:x.t=t
  ·rw[FC (show x.k=k/\x.t=t from ⟨h1,h2⟩)] at hK
   subst h1 h2
   simp (config:={maxSteps:=1000000}) (disch:=first|assumption|omega|(apply ab;omega)|(apply aa;assumption)|(simp only[aq]<;>omega)) only[go_sem,seval,r1.wf]
   exact hK _ (hC1.trans (T:= []) (aX rfl) (by simp))
  ·rw[FB (show ¬(x.k=k/\x.t=t) from fun q=>h2 q.2)] at hK
   subst h1
   have h2':decide (x.t=t)=false:=FB h2
   simp (config:={maxSteps:=1000000}) (disch:=first|assumption|omega|(apply ab;omega)|(apply aa;assumption)|(simp only[aq]<;>omega)) only[go_sem,seval,r1.wf,h2']
   exact hK _ (hC1.trans (T:= []) (aX rfl) (by simp))
 ·rw[FB (show ¬(x.k=k/\x.t=t) from fun q=>h1 q.1)] at hK
  simp (config:={maxSteps:=1000000}) (disch:=first|assumption|omega|(apply ab;omega)|(apply aa;assumption)|(simp only[aq]<;>omega)) only[go_sem,seval,r1.wf]
  exact hK _ (hC1.trans (T:= []) (aX rfl) (by simp))
theorem eW (h:Rd m r u L a) (hx:L[a]? =some x) (h5:k≠5) (t:List Nat):∃b m',rT 13 [.ptr r 0,ii k,.str t] m (.bool b) m'/\(b=decide (x.k=k/\x.t=t))/\Rd m' r u L (if b=true then a+1 else a)/\Chg [r] m m':=by
 suffices hh:∃v m',rT 13 [.ptr r 0,ii k,.str t] m v m'/\(v= .bool (decide (x.k=k/\x.t=t))/\Rd m' r u L (if decide (x.k=k/\x.t=t)=true then a+1 else a)/\Chg [r] m m') by
  obtain ⟨v,m',h1,rfl,h2,h3⟩:=hh
  exact ⟨_,m',h1,rfl,h2,h3⟩
 refine WF.ex fun K hK=> ?_
 refine WF.of_wpG (fun _=>rfl) qq (L:= [(.b .e,.str t),(.a .e,ii k),(.e,.ptr r 0)]) rfl ?_
 unfold yw
 obtain ⟨m1,r1,hC1⟩:=yo h hx k t
 have h1:=h.grow hC1
 have g:=h1.g
 have o:=h1.o
 have hl:=h1.l
 have ha:=h1.a
 rw[ag]
 cases hd:decide (x.k=k/\x.t=t) with
 |false=>
  rw[hd] at r1 hK
  simp (config:={maxSteps:=1000000}) (disch:=first|assumption|omega|(apply ab;omega)|(apply aa;assumption)|(simp only[aq]<;>omega)) only[go_sem,seval,r1.wf']
  exact hK _ _ ⟨rfl,h1,hC1.weak (by simp)⟩
 |true=>
  rw[hd] at r1 hK
  simp (config:={maxSteps:=1000000}) (disch:=first|assumption|omega|(apply ab;omega)|(apply aa;assumption)|(simp only[aq]<;>omega)) only[go_sem,seval,r1.wf,g]
  generalize hM:hp _ 0 m1=M
  have hk:=(of_decide_eq_true hd).1
  obtain ⟨h2,hC2⟩:=h1.put hx (by omega) hM
  exact hK _ _ ⟨rfl,h2,(hC1.weak (T:= [r]) (by simp)).trans hC2 fun i hi _=>hi⟩
theorem dV (h:Rd m r u L a) (e:Int):Eg Try.prog S0 18 [.ptr r 0,ii e] m (.ifc 40 (.agg [ii e,ii a])) m:=by
 suffices hh:WF ⟨Try.prog,fun v m'=>v= .ifc 40 (.agg [ii e,ii a])/\m'=m⟩ S0 18 [.ptr r 0,ii e] m fun _ _=>False by
  obtain ⟨v,m',h1,rfl,rfl⟩:=WF.pan hh
  exact h1
 refine WF.of_wpG (fun _=>rfl) ql (L:= [(.a .e,ii e),(.e,.ptr r 0)]) rfl ?_
 unfold xZ
 have g:=h.g
 rw[ag]
 simp (config:={maxSteps:=1000000}) (disch:=first|assumption|omega|(apply ab;omega)|(apply aa;assumption)|(simp only[aq]<;>omega)) only[go_sem,seval,g]
end
section
variable {m m' m0:NH} {r:D4} {u:NV} {L:List Tok} {a:Nat} {x:Tok} {T T':List D4}
theorem bR.here (h:Rd m r u L a) {e:Int} (he:e≠0) (hC:Chg T m0 m):bR T L m0 (.ifc 40 (.agg [ii e,ii a])) m:=⟨e,a,rfl,he,h.a,hC⟩
theorem Rd.adv (h:Rd m r u L a) (hx:L[a]? =some x) (h5:x.k≠5) (hC:Chg T m m') (hT:∀i∈ids u,i∉T) (g:m'.get r=some (.cells true [u,ii ((a:Int)+1)])):Rd m' r u L (a+1):=by
 refine ⟨g,hC.old h.o,h.s.chg hC hT,h.n,h.l,h.k, ?_,h.b⟩
 have:=(h.k a x hx).mpr
 have ha:=h.a
 by_cases e:a+1=L.length
 ·exact Fy (this e) h5
 ·omega
theorem jZ (h:Rd m r u L a) (t:List Nat):CT 22 [.ptr r 0,.str t] m [r] L fun v m'=>v= .tup []/\Rd m' r u L (a+1)/\Chg [r] m m':=by
 intro E K hE hK
 refine WF.of_wpG (fun _=>rfl) lY (L:= [(.a .e,.str t),(.e,.ptr r 0)]) rfl ?_
 unfold wH
 obtain ⟨x,hx⟩:=h.tok
 obtain ⟨b,m1,r1,hb,h1,hC1⟩:=eW h hx (k:=3) (by omega) t
 have r1:rT 13 [.ptr r 0,ii 3,.str t] m (.bool b) m1:=r1
 rw[ag]
 cases b with
 |true=>
  simp (config:={maxSteps:=1000000}) (disch:=first|assumption|omega|(apply ab;omega)|(apply aa;assumption)|(simp only[aq]<;>omega)) only[go_sem,seval,r1.wf']
  exact hK _ _ ⟨rfl,h1,hC1⟩
 |false=>
  simp (config:={maxSteps:=1000000}) (disch:=first|assumption|omega|(apply ab;omega)|(apply aa;assumption)|(simp only[aq]<;>omega)) only[go_sem,seval,r1.wf',(dV h1 2).wf]
  exact hE _ _ (bR.here h1 (by omega) hC1)
theorem dT (h:Rd m r u L a) (h5:k≠5):CT 15 [.ptr r 0,ii k] m [r] L fun v m'=>(∃x:Tok,v= .agg x.l)/\Rd m' r u L (a+1)/\Chg [r] m m':=by
 intro E K hE hK
 refine WF.of_wpG (fun _=>rfl) qg (L:= [(.a .e,ii k),(.e,.ptr r 0)]) rfl ?_
 unfold AR
 obtain ⟨x,hx⟩:=h.tok
 generalize hm1:hp [(.n 0,.cells true [.int .i64 (.lit 0),.str [],.int .u64 (.lit 0),.int .i64 (.lit 0)])] 1 m=m1
 have hC1:Chg [] m m1:=bS hm1 rfl
 have h1:=h.grow hC1
 obtain ⟨m2,r2,hC2⟩:=lm h1 hx
 unfold Tok.l at r2
 have h2:=h1.grow hC2
 have on:aI m2 (na m 0):=hC2.old (dg hm1 (by omega))
 have gn:m2.get (na m 0)=some (.cells true [.int .i64 (.lit 0),.str [],.int .u64 (.lit 0),.int .i64 (.lit 0)]):=(hC2.get (dg hm1 (by omega)) (by simp)).trans (cZ hm1)
 have hC12:Chg [] m m2:=hC1.trans hC2 (by simp)
 have g:=h2.g
 have o:=h2.o
 have nn:na m 0≠r:=(h.o.ne 0).symm
 have nn':r≠na m 0:=h.o.ne 0
 have hl:=h.l
 have ha:=h.a
 by_cases hk:x.k=k
 ·simp (config:={maxSteps:=1000000}) (disch:=first|assumption|omega|(apply ab;omega)|(apply aa;assumption)|(simp only[aq]<;>omega)) only[go_sem,seval,hm1,r2.wf,hk,g,gn]
  generalize hM:hp _ 1 m2=M
  have hC3:Chg [na m 0,r] m2 M:=bS hM rfl
  have gM:M.get r=some (.cells true [u,ii ((a:Int)+1)]):=by rw[←hM];simp (config:={maxSteps:=1000000}) (disch:=first|assumption|omega|(apply ab;omega)|(apply aa;assumption)|(simp only[aq]<;>omega)) only[go_sem,seval]
  refine hK _ _ ⟨⟨x,by unfold Tok.l;rw[hk]⟩,h2.adv hx (by omega) hC3 (fun i hi q=> ?_) gM,hC12.weak (T:= [r]) (by simp) |>.trans hC3 fun i hi ho=> ?_⟩
  ·rcases List.mem_cons.1 q with rfl|q
   ·exact aQ (h.s.old _ hi)
   ·exact h.n (one q▸hi)
  ·rcases List.mem_cons.1 hi with rfl|hi
   ·exact Fy ho aQ
   ·exact hi
 ·generalize hm3:hp [(.n 0,.cells true [ii x.k,.str x.t,u64 x.n,ii x.p]),(.n 0,.cells true [.int .i64 (.lit 0),.str [],.int .u64 (.lit 0),.int .i64 (.lit 0)])] 1 m2=m3
  have hC3:Chg [] m2 m3:=bS hm3 rfl
  have g3:m3.get (na m2 0)=some (.cells true [ii x.k,.str x.t,u64 x.n,ii x.p]):=cZ hm3
  have h3:=h2.grow hC3
  simp (config:={maxSteps:=1000000}) (disch:=first|assumption|omega|(apply ab;omega)|(apply aa;assumption)|(simp only[aq]<;>omega)) only[go_sem,seval,hm1,r2.wf,hk,hm3,g3,(dV h3 2).wf]
  exact hE _ _ (bR.here h3 (by omega) (((hC12.trans hC3 (by simp)).weak (T:= [r]) (by simp))))
end
section
variable {m m' m0:NH} {r:D4} {u:NV} {L:List Tok} {a:Nat} {x:Tok} {T T':List D4}
theorem jv (h:Rd m r u L a) (hx:L[a]? =some x):∃(c:Nat) (m':NH),rT 45 [.ptr r 0] m (.int .u8 (.lit (c:Int))) m'/\(c≠0->x.k=3)/\Chg [] m m':=by
 suffices hh:∃v m',rT 45 [.ptr r 0] m v m'/\∃c:Nat,v= .int .u8 (.lit (c:Int))/\(c≠0->x.k=3)/\Chg [] m m' by
  obtain ⟨v,m',h1,c,rfl,h2,h3⟩:=hh
  exact ⟨c,m',h1,h2,h3⟩
 refine WF.ex fun K hK=> ?_
 refine WF.of_wpG (fun _=>rfl) qR (L:= [(.e,.ptr r 0)]) rfl ?_
 unfold zd
 obtain ⟨m1,r1,hC1⟩:=lm h hx
 unfold Tok.l at r1
 have hb:=h.b a x hx
 rw[ag]
 by_cases h3:x.k=3
 ·rw[h3] at r1
  match hxt:x.t,hb with
  | [],_=>
   rw[hxt] at r1
   simp (config:={maxSteps:=1000000}) (disch:=first|assumption|omega|(apply ab;omega)|(apply aa;assumption)|(simp only[aq]<;>omega)) only[go_sem,seval,r1.wf]
   exact hK _ _ ⟨0,rfl,fun q=>Fy rfl q,hC1.trans (T:= []) (aX rfl) (by simp)⟩
  | [c],hb=>
   rw[hxt] at r1
   have r2:=fun m=>xH m [43,45,42,38,61,60] (by simp) (hb c (by simp))
   cases hd:decide (c∈ [43,45,42,38,61,60]) with
   |true=>
    rw[hd] at r2
    simp (config:={maxSteps:=1000000}) (disch:=first|assumption|omega|(apply ab;omega)|(apply aa;assumption)|(simp only[aq]<;>omega)) only[go_sem,seval,r1.wf,(r2 _).wf']
    exact hK _ _ ⟨c,rfl,fun _=>h3,hC1.trans (T:= []) (aX rfl) (by simp)⟩
   |false=>
    rw[hd] at r2
    simp (config:={maxSteps:=1000000}) (disch:=first|assumption|omega|(apply ab;omega)|(apply aa;assumption)|(simp only[aq]<;>omega)) only[go_sem,seval,r1.wf,(r2 _).wf']
    exact hK _ _ ⟨0,rfl,fun q=>Fy rfl q,hC1.trans (T:= []) (aX rfl) (by simp)⟩
  |c::d::l,_=>
   rw[hxt] at r1
   simp (config:={maxSteps:=1000000}) (disch:=first|assumption|omega|(apply ab;omega)|(apply aa;assumption)|(simp only[aq]<;>omega)) only[go_sem,seval,r1.wf]
   exact hK _ _ ⟨0,rfl,fun q=>Fy rfl q,hC1.trans (T:= []) (aX rfl) (by simp)⟩
 ·simp (config:={maxSteps:=1000000}) (disch:=first|assumption|omega|(apply ab;omega)|(apply aa;assumption)|(simp only[aq]<;>omega)) only[go_sem,seval,r1.wf,h3]
  exact hK _ _ ⟨0,rfl,fun q=>Fy rfl q,hC1.trans (T:= []) (aX rfl) (by simp)⟩
end
def DS (v:NV):Prop:=∃(v1 v2 v3 v4 v5:NV) (d:Int),1<=d/\d<=30/\v= .agg [v1,v2,v3,v4,v5,ii d]
abbrev z6:List NV:= [.int .i64 (.lit 0),.int .u64 (.lit 0),.int .u8 (.lit 0),.str [],.nils,.int .i64 (.lit 0)]
def DM (r:D4) (u:NV) (L:List Tok) (a:Nat) (m:NH) (v:NV) (m':NH):Prop:=DS v/\(∃a',a<a'/\Rd m' r u L a')/\Chg [r] m m'
def km (f:Nat) (r:D4) (u:NV) (L:List Tok) (d:Nat):Prop:=∀(m:NH) (a:Nat) (br:Int),Rd m r u L a->0<=br->br+d=30->CT f [.ptr r 0,ii br] m [r] L (DM r u L a m)
section
variable {m m' m0:NH} {r:D4} {u:NV} {L:List Tok} {a:Nat} {x:Tok} {T T':List D4}
theorem vi {d:Nat} (ih:∀d',d'+1=d->km 41 r u L d'):km 44 r u L d:=by
 intro m a br h hb0 hbd E K hE hK
 refine WF.of_wpG (fun _=>rfl) qV (L:= [(.a .e,ii br),(.e,.ptr r 0)]) rfl ?_
 unfold xX
 generalize hm1:hp [(.n 0,.cells true z6)] 1 m=m1
 have hm1':=hm1
 unfold z6 at hm1'
 have hC1:Chg [] m m1:=bS hm1 rfl
 have h1:=h.grow hC1
 have o1:aI m1 (na m 0):=dg hm1 (by omega)
 have g1:m1.get (na m 0)=some (.cells true z6):=cZ hm1
 have nr:na m 0∉ [r]:=fun q=>h.o.ne 0 (one q).symm
 by_cases hbr:29<br
 ·simp (config:={maxSteps:=1000000}) (disch:=first|assumption|omega|(apply ab;omega)|(apply aa;assumption)|(simp only[aq]<;>omega)) only[go_sem,seval,hm1',(dV h1 11).wf]
  exact hE _ _ (bR.here (e:=11) h1 (by omega) (hC1.weak (by simp)))
 obtain ⟨d',rfl⟩:∃d',d=d'+1:=⟨d - 1,by omega⟩
 obtain ⟨x,hx⟩:=h1.tok
 obtain ⟨b,m2,r2,hb,h2,hC2⟩:=eW h1 hx (k:=3) (by omega) [40]
 have r2:rT 13 [.ptr r 0,ii 3,.str [40]] m1 (.bool b) m2:=r2
 have hC12:Chg [r] m m2:=(hC1.weak (T:= [r]) (by simp)).trans hC2 fun i hi _=>hi
 have o2:=hC2.old o1
 have g2:=(hC2.get o1 nr).trans g1
 cases b with
 |true=>
  have h2:Rd m2 r u L (a+1):=h2
  simp (config:={maxSteps:=1000000}) (disch:=first|assumption|omega|(apply ab;omega)|(apply aa;assumption)|(simp only[aq]<;>omega)) only[go_sem,seval,hm1',r2.wf']
  refine (ih d' rfl:km _ r u L d') m2 (a+1) (br+1) h2 (by omega) (by omega) E _ (fun v m' hp=>hE v m' (hp.pre hC12 fun i hi _=>hi)) ?_
  rintro v m3 ⟨⟨v1,v2,v3,v4,v5,dd,hd1,hd2,rfl⟩,⟨a',ha',h3⟩,hC3⟩
  have hC13:=hC12.trans hC3 fun i hi _=>hi
  have o3:=hC3.old o2
  have g3:=(hC3.get o2 nr).trans g2
  rw[←ag m3]
  simp (config:={maxSteps:=1000000}) (disch:=first|assumption|omega|(apply ab;omega)|(apply aa;assumption)|(simp only[aq]<;>omega)) only[go_sem,seval]
  generalize hm4:hp _ 1 m3=m4
  have hC4:Chg [] m3 m4:=bS hm4 rfl
  have h4:=h3.grow hC4
  have hC14:=hC13.trans hC4 (by simp)
  refine jZ h4 [41] E _ (fun v m' hp=>hE v m' (hp.pre hC14 fun i hi _=>hi)) ?_
  rintro _ m5 ⟨rfl,h5,hC5⟩
  have hC15:=hC14.trans hC5 fun i hi _=>hi
  have nr3:na m3 0∉ [r]:=fun q=>h3.o.ne 0 (one q).symm
  have g4:m4.get (na m3 0)=some (.cells true [v1,v2,v3,v4,v5,ii dd]):=cZ hm4
  have o4:aI m4 (na m3 0):=dg hm4 (by omega)
  have g5:=(hC5.get o4 nr3).trans g4
  have o5:=hC5.old (hC4.old o3)
  have f5:=(hC5.get (hC4.old o3) nr).trans ((hC4.get o3 (by simp)).trans g3)
  unfold z6 at f5
  rw[←ag m5]
  simp (config:={maxSteps:=1000000}) (disch:=first|assumption|omega|(apply ab;omega)|(apply aa;assumption)|(simp only[aq]<;>omega)) only[go_sem,seval,g5,f5]
  generalize hM:hp _ 0 m5=M
  have hC6:Chg [na m 0] m5 M:=bS hM rfl
  refine hK _ _ ⟨⟨v1,v2,v3,v4,v5,dd,hd1,hd2,rfl⟩,⟨a'+1,by omega,h5.chg hC6 (fun q=>h.o.ne 0 (one q)) fun i hi q=>aQ (h.s.old _ (one q▸hi))⟩,hC15.trans hC6 fun i hi ho=> ?_⟩
  rw[one hi] at ho;exact Fy ho aQ
 |false=>
  have h2:Rd m2 r u L a:=h2
  have hx2:L[a]? =some x:=hx
  obtain ⟨m3,r3,hC3⟩:=lm h2 hx2
  unfold Tok.l at r3
  have hC13:=hC12.trans hC3 (by simp)
  have h3:=h2.grow hC3
  have o3:=hC3.old o2
  have g3:=(hC3.get o2 (by simp)).trans g2
  unfold z6 at g3
  have gr:=h3.g
  have or:=h3.o
  have hl:=h.l
  have ha:=h.a
  have nn:na m 0≠r:=(h.o.ne 0).symm
  have nn':r≠na m 0:=h.o.ne 0
  by_cases hk:x.k=2
  ·rw[hk] at r3
   simp (config:={maxSteps:=1000000}) (disch:=first|assumption|omega|(apply ab;omega)|(apply aa;assumption)|(simp only[aq]<;>omega)) only[go_sem,seval,hm1',r2.wf',r3.wf,gr,g3]
   generalize hM:hp _ 1 m3=M
   have hC4:Chg [na m 0,r] m3 M:=bS hM rfl
   have gM:M.get r=some (.cells true [u,ii ((a:Int)+1)]):=by rw[←hM];simp (config:={maxSteps:=1000000}) (disch:=first|assumption|omega|(apply ab;omega)|(apply aa;assumption)|(simp only[aq]<;>omega)) only[go_sem,seval]
   refine hK _ _ ⟨⟨_,_,_,_,_,1,by omega,by omega,rfl⟩,⟨a+1,by omega,h3.adv hx2 (by omega) hC4 (fun i hi q=> ?_) gM⟩,hC13.trans hC4 fun i hi ho=> ?_⟩
   ·rcases List.mem_cons.1 q with rfl|q
    ·exact aQ (h.s.old _ hi)
    ·exact h.n (one q▸hi)
   ·rcases List.mem_cons.1 hi with rfl|hi
    ·exact Fy ho aQ
    ·exact hi
  ·generalize hm4:hp [(.n 0,.cells true [ii x.k,.str x.t,u64 x.n,ii x.p]),(.n 0,.cells true [.int .i64 (.lit 0),.str [],.int .u64 (.lit 0),.int .i64 (.lit 0)])] 1 m3=m4
   have hC4:Chg [] m3 m4:=bS hm4 rfl
   have h4:=h3.grow hC4
   have hC14:=hC13.trans hC4 (by simp)
   have g4:m4.get (na m3 0)=some (.cells true [ii x.k,.str x.t,u64 x.n,ii x.p]):=cZ hm4
   simp (config:={maxSteps:=1000000}) (disch:=first|assumption|omega|(apply ab;omega)|(apply aa;assumption)|(simp only[aq]<;>omega)) only[go_sem,seval,hm1',r2.wf',r3.wf,hm4,g4,hk]
   refine dT h4 (k:=1) (by omega) E _ (fun v m' hp=>hE v m' (hp.pre hC14 fun i hi _=>hi)) ?_
   rintro _ m5 ⟨⟨y,rfl⟩,h5,hC5⟩
   have hC15:=hC14.trans hC5 fun i hi _=>hi
   have o5:=hC5.old (hC4.old o3)
   have f5:=(hC5.get (hC4.old o3) nr).trans ((hC4.get o3 (by simp)).trans g3)
   rw[←ag m5]
   simp (config:={maxSteps:=1000000}) (disch:=first|assumption|omega|(apply ab;omega)|(apply aa;assumption)|(simp only[aq]<;>omega)) only[go_sem,seval,f5,Tok.l]
   generalize hM:hp _ 0 m5=M
   have hC6:Chg [na m 0] m5 M:=bS hM rfl
   refine hK _ _ ⟨⟨_,_,_,_,_,1,by omega,by omega,rfl⟩,⟨a+1,by omega,h5.chg hC6 (fun q=>h.o.ne 0 (one q)) fun i hi q=>aQ (h.s.old _ (one q▸hi))⟩,hC15.trans hC6 fun i hi ho=> ?_⟩
   rw[one hi] at ho;exact Fy ho aQ
end
section
variable {m m' m0:NH} {r:D4} {u:NV} {L:List Tok} {a:Nat} {x:Tok} {T T':List D4}
theorem tF {d:Nat} (hp:km 44 r u L d):km 41 r u L d:=by
 intro m a br h hb0 hbd E K hE hK
 refine WF.of_wpG (fun _=>rfl) qp (L:= [(.a .e,ii br),(.e,.ptr r 0)]) rfl ?_
 unfold zk
 generalize hm1:Nm.hp [(.n 0,.cells true z6)] 1 m=m1
 have hm1':=hm1
 unfold z6 at hm1'
 have hC1:Chg [] m m1:=bS hm1 rfl
 have h1:=h.grow hC1
 have o1:aI m1 (na m 0):=dg hm1 (by omega)
 have g1:m1.get (na m 0)=some (.cells true z6):=cZ hm1
 have nr:na m 0∉ [r]:=fun q=>h.o.ne 0 (one q).symm
 have hC1r:Chg [r] m m1:=hC1.weak (by simp)
 simp (config:={maxSteps:=1000000}) (disch:=first|assumption|omega|(apply ab;omega)|(apply aa;assumption)|(simp only[aq]<;>omega)) only[go_sem,seval,hm1']
 refine hp m1 a br h1 hb0 hbd E _ (fun v m' hq=>hE v m' (hq.pre hC1r fun i hi _=>hi)) ?_
 rintro v m2 ⟨⟨v1,v2,v3,v4,v5,dd,hd1,hd2,rfl⟩,⟨a1,ha1,h2⟩,hC2⟩
 have hC12:=hC1r.trans hC2 fun i hi _=>hi
 have o2:=hC2.old o1
 have g2:=(hC2.get o1 nr).trans g1
 generalize hm3:Nm.hp [(.n 0,.cells true [v1,v2,v3,v4,v5,ii dd]),(.n 0,.cells true z6)] 1 m2=m3
 have hm3':=hm3
 unfold z6 at hm3'
 have hC3:Chg [] m2 m3:=bS hm3 rfl
 have h3:=h2.grow hC3
 have hC13:=hC12.trans hC3 (by simp)
 obtain ⟨x,hx⟩:=h3.tok
 obtain ⟨c,m4,r4,hc,hC4⟩:=jv h3 hx
 have hC14:=hC13.trans hC4 (by simp)
 have h4:=h3.grow hC4
 have n3:m3.get (na m2 0)=some (.cells true [v1,v2,v3,v4,v5,ii dd]):=cZ hm3
 have p3:aI m3 (na m2 0):=dg hm3 (by omega)
 have n4:=(hC4.get p3 (by simp)).trans n3
 have p4:=hC4.old p3
 have nn:na m2 0≠na m 0:=(o2.ne 0).symm
 have nr2:na m2 0∉ [r]:=fun q=>h2.o.ne 0 (one q).symm
 have nu2:∀i∈ids u,i≠na m2 0:=fun i hi=>(h2.s.old i hi).ne 0
 have nm2:¬aI m (na m2 0):=fun q=>aQ (hC12.old q)
 have gz4:=(hC4.get (hC3.old o2) (by simp)).trans ((hC3.get o2 (by simp)).trans g2)
 have oz4:=hC4.old (hC3.old o2)
 rw[←ag m2]
 simp (config:={maxSteps:=1000000}) (disch:=first|assumption|omega|(apply ab;omega)|(apply aa;assumption)|(simp only[aq]<;>omega)) only[go_sem,seval,hm3',r4.wf']
 generalize na m2 0=n1 at *
 refine Nm.W.loop (fun k dy=>∃T M a' c w1 w2 w3 w4 w5 dd,dy=⟨T, [],none,M⟩/\NT.get D4.e T=some (.ptr r 0)/\NT.get D4.e.a T=some (ii br)/\NT.get D4.e.f T=some (.ptr (na m 0) 0)/\NT.get D4.e.a.a T=some (.ptr n1 0)/\NT.get D4.e.a.b T=some (.int .u8 (.lit ((c:Nat):Int)))/\
  a<a'/\a'+k=L.length/\Rd M r u L a'/\M.get n1=some (.cells true [w1,w2,w3,w4,w5,ii dd])/\1<=dd/\dd<=30/\aI M n1/\M.get (na m 0)=some (.cells true z6)/\aI M (na m 0)/\Chg [r] m M/\(c≠0->∀x,L[a']? =some x->x.k=3)) ?_ (L.length - a1) _
  ⟨_,m4,a1,c,v1,v2,v3,v4,v5,dd,rfl,by simp only[go_sem,seval],by simp only[go_sem,seval],by simp only[go_sem,seval],by simp only[go_sem,seval],by simp only[go_sem,seval]<;>rfl,ha1,by have:=h4.a;omega,h4,n4,hd1,hd2,p4,gz4,oz4,hC14,fun q y hy=>by rw[hx] at hy;cases hy;exact hc q⟩
 clear hc r4 hx h4 h3 h2 h1 n4 n3 gz4 oz4 g2 g1 hC14 hC13 hC12 hC4 hC3 hC2 hm3 hm3' hm1' hm1 o1 o2 p3 p4 hd1 hd2 hC1 hC1r
 rintro k dy ⟨T,M,a2,c,w1,w2,w3,w4,w5,dd,rfl,t1,t2,t3,t4,t5,ha2,hk,hI,gn,hd1,hd2,on,gz,oz,hC,hc⟩
 apply bu
 unfold rm
 change wp _ _ _ _ ⟨ap [] T, [],none,M⟩ _
 obtain ⟨x,hx⟩:=hI.tok
 have gr:=hI.g
 have or:=hI.o
 have hl:=hI.l
 have ha:=hI.a
 by_cases h0:c=0
 ·subst h0
  unfold z6 at gz
  rw[←ag M]
  simp (config:={maxSteps:=1000000}) (disch:=first|assumption|omega|(apply ab;omega)|(apply aa;assumption)|(simp only[aq]<;>omega)) only[go_sem,seval,t1,t2,t3,t4,t5,gn,gz]
  generalize hM:Nm.hp _ 0 M=M'
  have hC5:Chg [na m 0] M M':=bS hM rfl
  refine hK _ _ ⟨⟨w1,w2,w3,w4,w5,dd,hd1,hd2,rfl⟩,⟨a2,ha2,hI.chg hC5 (fun q=>h.o.ne 0 (one q)) fun i hi q=>aQ (h.s.old _ (one q▸hi))⟩,hC.trans hC5 fun i hi ho=> ?_⟩
  rw[one hi] at ho;exact Fy ho aQ
 ·have hx3:=hc h0 x hx
  rw[←ag M]
  simp (config:={maxSteps:=1000000}) (disch:=first|assumption|omega|(apply ab;omega)|(apply aa;assumption)|(simp only[aq]<;>omega)) only[go_sem,seval,t1,t2,t3,t4,t5,gr,h0]
  generalize hM1:Nm.hp _ 0 M=M1
  obtain ⟨h1,hC1⟩:=hI.put hx (by omega) hM1
  have hC01:=hC.trans hC1 fun i hi _=>hi
  refine hp M1 (a2+1) br h1 hb0 hbd E _ (fun v m' hq=>hE v m' (hq.pre hC01 fun i hi _=>hi)) ?_
  rintro v M2 ⟨⟨y1,y2,y3,y4,y5,de,he1,he2,rfl⟩,⟨a3,ha3,h2⟩,hC2⟩
  have hC02:=hC01.trans hC2 fun i hi _=>hi
  have on2:=hC2.old (hC1.old on)
  have gn2:=(hC2.get (hC1.old on) nr2).trans ((hC1.get on nr2).trans gn)
  have oz2:=hC2.old (hC1.old oz)
  have gz2:=(hC2.get (hC1.old oz) nr).trans ((hC1.get oz nr).trans gz)
  rw[←ag M2]
  by_cases h30:30<1+max dd de
  ·simp (config:={maxSteps:=1000000}) (disch:=first|assumption|omega|(apply ab;omega)|(apply aa;assumption)|(simp only[aq]<;>omega)) only[go_sem,seval,t1,t2,t3,t4,t5,gn2,h30]
   generalize hM3:Nm.hp _ 2 M2=M3
   have hC3:Chg [n1] M2 M3:=bS hM3 rfl
   have h3:=h2.chg hC3 (fun q=>nr2 (by rw[one q];exact List.mem_singleton_self _)) fun i hi q=>nu2 i hi (one q)
   have hC03:=hC02.trans hC3 fun i hi ho=>(nm2 (one hi▸ho)).elim
   simp (config:={maxSteps:=1000000}) (disch:=first|assumption|omega|(apply ab;omega)|(apply aa;assumption)|(simp only[aq]<;>omega)) only[go_sem,seval,(dV h3 11).wf]
   exact hE _ _ (bR.here (e:=11) h3 (by omega) hC03)
  ·simp (config:={maxSteps:=1000000}) (disch:=first|assumption|omega|(apply ab;omega)|(apply aa;assumption)|(simp only[aq]<;>omega)) only[go_sem,seval,t1,t2,t3,t4,t5,gn2,h30]
   generalize hM3:Nm.hp _ 2 M2=M3
   have hC3:Chg [n1] M2 M3:=bS hM3 rfl
   have h3:=h2.chg hC3 (fun q=>nr2 (by rw[one q];exact List.mem_singleton_self _)) fun i hi q=>nu2 i hi (one q)
   have hC03:=hC02.trans hC3 fun i hi ho=>(nm2 (one hi▸ho)).elim
   have gn3:M3.get n1=some (.cells true [ii 2,.int .u64 (.lit 0),.int .u8 (.lit ((c:Nat):Int)),.str [],.slc (na M2 1) 0 2 5 2,ii (1+max dd de)]):=by rw[←hM3];exact (cp on2).trans bB
   have nz:na m 0∉ [n1]:=fun q=>nn (one q).symm
   obtain ⟨y,hy⟩:=h3.tok
   obtain ⟨c',M4,r4,hc',hC4⟩:=jv h3 hy
   have h4:=h3.grow hC4
   simp (config:={maxSteps:=1000000}) (disch:=first|assumption|omega|(apply ab;omega)|(apply aa;assumption)|(simp only[aq]<;>omega)) only[go_sem,seval,t1,t2,t3,t4,t5,r4.wf']
   exact ⟨L.length - a3,by have:=h4.a;omega,_,M4,a3,c',_,_,_,_,_,1+max dd de,by rfl,by simp only[go_sem,seval,t1],by simp only[go_sem,seval,t2],by simp only[go_sem,seval,t3],by simp only[go_sem,seval,t4],by simp only[go_sem,seval]<;>rfl,by omega,by have:=h4.a;omega,h4,(hC4.get (hC3.old on2) (by simp)).trans gn3,by omega,by omega,hC4.old (hC3.old on2),(hC4.get (hC3.old oz2) (by simp)).trans ((hC3.get oz2 nz).trans gz2),hC4.old (hC3.old oz2),hC03.trans hC4 (by simp),fun q w hw=>by rw[hy] at hw;cases hw;exact hc' q⟩
end
theorem xE {r:D4} {u:NV}:∀d,km 44 r u L d/\km 41 r u L d
 |0=>
  have h:=vi (d:=0) (r:=r) (u:=u) (L:=L) fun d' e=>Fy e (by omega)
  ⟨h,tF h⟩
 |d+1=>
  have h:=vi (d:=d+1) (r:=r) (u:=u) (L:=L) fun d' e=>by
   have:d'=d:=by omega
   subst this;exact (xE d').2
  ⟨h,tF h⟩
abbrev z5:List NV:= [.int .i64 (.lit 0),.int .u64 (.lit 0),.int .u8 (.lit 0),.str [],.nils]
structure StO (m:NH) (s:D4):Prop where
 g:∃c,m.get s=some (.cells true c)/\c.length=21
 o:aI m s
section
variable {m m' m0:NH} {r s:D4} {u:NV} {L:List Tok} {a:Nat} {x:Tok} {T T':List D4}
theorem StO.chg (h:StO m s) (hC:Chg T m m') (hs:s∉T):StO m' s:=by
 obtain ⟨⟨c,h1,h2⟩,h3⟩:=h
 exact ⟨⟨c,(hC.get h3 hs).trans h1,h2⟩,hC.old h3⟩
theorem dS (h:Rd m r u L a):CT 35 [.ptr r 0] m [r] L fun v m'=>(∃v1 v2 v3 v4 v5,v= .agg [v1,v2,v3,v4,v5])/\(∃a',a<a'/\Rd m' r u L a')/\Chg [r] m m':=by
 intro E K hE hK
 refine WF.of_wpG (fun _=>rfl) rl (L:= [(.e,.ptr r 0)]) rfl ?_
 unfold xT
 generalize hm1:hp [(.n 0,.cells true z5)] 1 m=m1
 have hm1':=hm1
 unfold z5 at hm1'
 have hC1:Chg [] m m1:=bS hm1 rfl
 have h1:=h.grow hC1
 have o1:aI m1 (na m 0):=dg hm1 (by omega)
 have g1:m1.get (na m 0)=some (.cells true z5):=cZ hm1
 have nr:na m 0∉ [r]:=fun q=>h.o.ne 0 (one q).symm
 have hC1r:Chg [r] m m1:=hC1.weak (by simp)
 simp (config:={maxSteps:=1000000}) (disch:=first|assumption|omega|(apply ab;omega)|(apply aa;assumption)|(simp only[aq]<;>omega)) only[go_sem,seval,hm1']
 refine (xE 30).2 m1 a 0 h1 (by omega) (by omega) E _ (fun v m' hq=>hE v m' (hq.pre hC1r fun i hi _=>hi)) ?_
 rintro v m2 ⟨⟨v1,v2,v3,v4,v5,dd,hd1,hd2,rfl⟩,⟨a1,ha1,h2⟩,hC2⟩
 have g2:=(hC2.get o1 nr).trans g1
 unfold z5 at g2
 have o2:=hC2.old o1
 rw[←ag m2]
 have hf:CA 0 5 (.agg [v1,v2,v3,v4,v5,ii dd])= .val (.agg [v1,v2,v3,v4,v5]):=rfl
 simp (config:={maxSteps:=1000000}) (disch:=first|assumption|omega|(apply ab;omega)|(apply aa;assumption)|(simp only[aq]<;>omega)) only[go_sem,seval,g2,hf]
 generalize hM:hp _ 0 m2=M
 have hC3:Chg [na m 0] m2 M:=bS hM rfl
 refine hK _ _ ⟨⟨_,_,_,_,_,rfl⟩,⟨a1,ha1,h2.chg hC3 (fun q=>h.o.ne 0 (one q)) fun i hi q=>aQ (h.s.old _ (one q▸hi))⟩,(hC1r.trans hC2 fun i hi _=>hi).trans hC3 fun i hi ho=> ?_⟩
 rw[one hi] at ho;exact Fy ho aQ
def Ek (r s:D4) (u:NV) (L:List Tok) (a:Nat) (m:NH) (v:NV) (m':NH):Prop:=v= .tup []/\(∃a',a<a'/\Rd m' r u L a')/\StO m' s/\Chg [r,s] m m'
theorem lM {i:D4} (h:i∈ [r]):i∈ [r,s]:=by rw[one h];simp
theorem lA (h:Rd m r u L a) (hs:StO m s) (hrs:r≠s) (hsu:s∉ids u):CT 42 [.ptr r 0,.ptr s 0] m [r,s] L (Ek r s u L a m):=by
 intro E K hE hK
 refine WF.of_wpG (fun _=>rfl) qW (L:= [(.a .e,.ptr s 0),(.e,.ptr r 0)]) rfl ?_
 unfold zx
 have sr:s∉ [r]:=fun q=>hrs (one q).symm
 rw[ag]
 simp (config:={maxSteps:=1000000}) (disch:=first|assumption|omega|(apply ab;omega)|(apply aa;assumption)|(simp only[aq]<;>omega)) only[go_sem,seval]
 refine dT h (k:=1) (by omega) E _ (fun v m' hq=>hE v m' (hq.pre (Chg.refl m |>.weak (T:= [r,s]) (by simp)) fun i hi _=>lM hi)) ?_
 rintro _ m1 ⟨⟨y,rfl⟩,h1,hC1⟩
 have hC01:Chg [r,s] m m1:=hC1.weak fun i hi _=>lM hi
 obtain ⟨⟨c,g1,hl⟩,o1⟩:=hs.chg hC1 sr
 rw[←ag m1]
 simp (config:={maxSteps:=1000000}) (disch:=first|assumption|omega|(apply ab;omega)|(apply aa;assumption)|(simp only[aq]<;>omega)) only[go_sem,seval,Tok.l,g1]
 generalize hM2:hp _ 0 m1=m2
 have hC2:Chg [s] m1 m2:=bS hM2 rfl
 have us:∀i∈ids u,i∉ [s]:=fun i hi q=>hsu (one q▸hi)
 have rs:r∉ [s]:=fun q=>hrs (one q)
 have h2:=h1.chg hC2 rs us
 have hC02:=hC01.trans hC2 fun i hi _=>by rw[one hi];simp
 have s2:StO m2 s:=⟨⟨_,by rw[←hM2];exact (cp o1).trans bB,by simp[hl]⟩,hC2.old o1⟩
 obtain ⟨x,hx⟩:=h2.tok
 obtain ⟨b,m3,r3,hb,h3,hC3⟩:=eW h2 hx (k:=3) (by omega) [91]
 have r3:rT 13 [.ptr r 0,ii 3,.str [91]] m2 (.bool b) m3:=r3
 have hC03:=hC02.trans hC3 fun i hi _=>lM hi
 have s3:=s2.chg hC3 sr
 cases b with
 |false=>
  have h3:Rd m3 r u L (a+1):=h3
  simp (config:={maxSteps:=1000000}) (disch:=first|assumption|omega|(apply ab;omega)|(apply aa;assumption)|(simp only[aq]<;>omega)) only[go_sem,seval,r3.wf']
  exact hK _ _ ⟨rfl,⟨a+1,by omega,h3⟩,s3,hC03⟩
 |true=>
  have h3:Rd m3 r u L (a+1+1):=h3
  simp (config:={maxSteps:=1000000}) (disch:=first|assumption|omega|(apply ab;omega)|(apply aa;assumption)|(simp only[aq]<;>omega)) only[go_sem,seval,r3.wf']
  refine dS h3 E _ (fun v m' hq=>hE v m' (hq.pre hC03 fun i hi _=>lM hi)) ?_
  rintro _ m4 ⟨⟨v1,v2,v3,v4,v5,rfl⟩,⟨a4,ha4,h4⟩,hC4⟩
  have hC04:=hC03.trans hC4 fun i hi _=>lM hi
  obtain ⟨⟨c4,g4,l4⟩,o4⟩:=s3.chg hC4 sr
  rw[←ag m4]
  simp (config:={maxSteps:=1000000}) (disch:=first|assumption|omega|(apply ab;omega)|(apply aa;assumption)|(simp only[aq]<;>omega)) only[go_sem,seval,g4]
  generalize hM5:hp _ 0 m4=m5
  have hC5:Chg [s] m4 m5:=bS hM5 rfl
  have h5:=h4.chg hC5 rs us
  have hC05:=hC04.trans hC5 fun i hi _=>by rw[one hi];simp
  have s5:StO m5 s:=⟨⟨_,by rw[←hM5];exact (cp o4).trans bB,by simp[l4]⟩,hC5.old o4⟩
  refine jZ h5 [93] E _ (fun v m' hq=>hE v m' (hq.pre hC05 fun i hi _=>lM hi)) ?_
  rintro _ m6 ⟨rfl,h6,hC6⟩
  simp (config:={maxSteps:=1000000}) (disch:=first|assumption|omega|(apply ab;omega)|(apply aa;assumption)|(simp only[aq]<;>omega)) only[go_sem,seval]
  exact hK _ _ ⟨rfl,⟨a4+1,by omega,h6⟩,s5.chg hC6 sr,hC05.trans hC6 fun i hi _=>lM hi⟩
end
structure Si (r s:D4) (u:NV) (L:List Tok) (m0 m:NH) (a:Nat):Prop where
 h:Rd m r u L a
 st:StO m s
 c:Chg [r,s] m0 m
 rs:r≠s
 su:s∉ids u
section
variable {m m' m0:NH} {r s:D4} {u:NV} {L:List Tok} {a a':Nat} {x:Tok} {T T':List D4} {E:NV->NH->Prop}
theorem Si.sr (h:Si r s u L m0 m a):s∉ [r]:=fun q=>h.rs (one q).symm
theorem Si.to (h:Si r s u L m0 m a) (hR:Rd m' r u L a') (hC:Chg [r] m m'):Si r s u L m0 m' a':=⟨hR,h.st.chg hC h.sr,h.c.trans hC fun i hi _=>lM hi,h.rs,h.su⟩
theorem Si.sto (h:Si r s u L m0 m a) {l:List (AK×NO)} {c:List NV} (hM:hp ((.o s,.cells true c)::l) k m=m') (hl:c.length=21) (hk:∀i∈cA ((.o s,.cells true c)::l),i=s):Si r s u L m0 m' a:=by
 have hC:Chg [s] m m':=by rw[←hM];exact (pP _ _ _).weak fun i hi _=>by rw[hk i hi];simp
 refine ⟨h.h.chg hC (fun q=>h.rs (one q)) fun i hi q=>h.su (one q▸hi),⟨⟨c, ?_,hl⟩,hC.old h.st.o⟩,h.c.trans hC fun i hi _=>by rw[one hi];simp,h.rs,h.su⟩
 rw[←hM];exact (cp h.st.o).trans bB
theorem Si.e (h:Si r s u L m0 m a) (hE:∀v m',bR [r,s] L m0 v m'->E v m'):∀v m',bR [r] L m v m'->E v m':=fun v m' hq=>hE v m' (hq.pre h.c fun i hi _=>lM hi)
theorem Si.e2 (h:Si r s u L m0 m a) (hE:∀v m',bR [r,s] L m0 v m'->E v m'):∀v m',bR [r,s] L m v m'->E v m':=fun v m' hq=>hE v m' (hq.pre h.c fun i hi _=>hi)
theorem Si.take (h:Si r s u L m0 m a) (h5:k≠5) (t:List Nat):∃b m',rT 13 [.ptr r 0,ii k,.str t] m (.bool b) m'/\Si r s u L m0 m' (if b=true then a+1 else a):=by
 obtain ⟨x,hx⟩:=h.h.tok
 obtain ⟨b,m',r1,-,h1,hC1⟩:=eW h.h hx h5 t
 exact ⟨b,m',r1,h.to h1 hC1⟩
theorem Si.get (h:Si r s u L m0 m a):∃c,m.get s=some (.cells true c)/\c.length=21/\aI m s:=by
 obtain ⟨⟨c,h1,h2⟩,h3⟩:=h.st
 exact ⟨c,h1,h2,h3⟩
theorem Si.fin (h:Si r s u L m0 m a') (ha:a<a'):Ek r s u L a m0 (.tup []) m:=⟨rfl,⟨a',ha,h.h⟩,h.st,h.c⟩
theorem Si.pl (h:Si r s u L m0 m a) (hq:Ek r s u L a m v m'):v= .tup []/\∃a',a<a'/\Si r s u L m0 m' a':=by
 obtain ⟨rfl,⟨a',ha,h1⟩,h2,h3⟩:=hq
 exact ⟨rfl,a',ha,h1,h2,h.c.trans h3 fun i hi _=>hi,h.rs,h.su⟩
theorem ua (h:Rd m r u L a) (hs:StO m s) (hrs:r≠s) (hsu:s∉ids u):CT 36 [.ptr r 0,.ptr s 0] m [r,s] L (Ek r s u L a m):=by
 intro E K hE hK
 refine WF.of_wpG (fun _=>rfl) qJ (L:= [(.a .e,.ptr s 0),(.e,.ptr r 0)]) rfl ?_
 unfold zR
 have i0:Si r s u L m m a:=⟨h,hs,(Chg.refl m).weak (by simp),hrs,hsu⟩
 rw[ag]
 obtain ⟨b1,m1,r1,i1⟩:=i0.take (k:=4) (by omega) [115,101,116]
 have r1:rT 13 [.ptr r 0,ii 4,.str [115,101,116]] m (.bool b1) m1:=r1
 cases b1 with
 |true=>
  have i1:Si r s u L m m1 (a+1):=i1
  simp (config:={maxSteps:=1000000}) (disch:=first|assumption|omega|(apply ab;omega)|(apply aa;assumption)|(simp only[aq]<;>omega)) only[go_sem,seval,r1.wf']
  refine dT i1.h (k:=1) (by omega) E _ (i1.e hE) ?_
  rintro _ m21 ⟨⟨y21,rfl⟩,h21,hC21⟩
  have i21:=i1.to h21 hC21
  obtain ⟨c22,g22,l22,o22⟩:=i21.get
  rw[←ag m21]
  simp (config:={maxSteps:=1000000}) (disch:=first|assumption|omega|(apply ab;omega)|(apply aa;assumption)|(simp only[aq]<;>omega)) only[go_sem,seval,Tok.l,g22]
  generalize hM23:hp _ 0 m21=m23
  have i23:=i21.sto hM23 (by simp[l22]) (by simp[cA])
  refine dS i23.h E _ (i23.e hE) ?_
  rintro _ m24 ⟨⟨v241,v242,v243,v244,v245,rfl⟩,⟨a24,ha24,h24⟩,hC24⟩
  have i24:=i23.to h24 hC24
  obtain ⟨c25,g25,l25,o25⟩:=i24.get
  rw[←ag m24]
  simp (config:={maxSteps:=1000000}) (disch:=first|assumption|omega|(apply ab;omega)|(apply aa;assumption)|(simp only[aq]<;>omega)) only[go_sem,seval,g25]
  generalize hM26:hp _ 0 m24=m26
  have i26:=i24.sto hM26 (by simp[l25]) (by simp[cA])
  exact hK _ _ (i26.fin (by omega))
 |false=>
 have i1:Si r s u L m m1 a:=i1
 obtain ⟨b2,m2,r2,i2⟩:=i1.take (k:=4) (by omega) [108,111,97,100]
 have r2:rT 13 [.ptr r 0,ii 4,.str [108,111,97,100]] m1 (.bool b2) m2:=r2
 cases b2 with
 |true=>
  have i2:Si r s u L m m2 (a+1):=i2
  simp (config:={maxSteps:=1000000}) (disch:=first|assumption|omega|(apply ab;omega)|(apply aa;assumption)|(simp only[aq]<;>omega)) only[go_sem,seval,r1.wf',r2.wf']
  refine dT i2.h (k:=1) (by omega) E _ (i2.e hE) ?_
  rintro _ m21 ⟨⟨y21,rfl⟩,h21,hC21⟩
  have i21:=i2.to h21 hC21
  obtain ⟨c22,g22,l22,o22⟩:=i21.get
  rw[←ag m21]
  simp (config:={maxSteps:=1000000}) (disch:=first|assumption|omega|(apply ab;omega)|(apply aa;assumption)|(simp only[aq]<;>omega)) only[go_sem,seval,Tok.l,g22]
  generalize hM23:hp _ 0 m21=m23
  have i23:=i21.sto hM23 (by simp[l22]) (by simp[cA])
  refine lA i23.h i23.st i23.rs i23.su E _ (i23.e2 hE) ?_
  intro v24 m24 hq24
  obtain ⟨rfl,a24,ha24,i24⟩:=i23.pl hq24
  simp (config:={maxSteps:=1000000}) (disch:=first|assumption|omega|(apply ab;omega)|(apply aa;assumption)|(simp only[aq]<;>omega)) only[go_sem,seval]
  exact hK _ _ (i24.fin (by omega))
 |false=>
 have i2:Si r s u L m m2 a:=i2
 obtain ⟨b3,m3,r3,i3⟩:=i2.take (k:=4) (by omega) [115,116,111,114,101]
 have r3:rT 13 [.ptr r 0,ii 4,.str [115,116,111,114,101]] m2 (.bool b3) m3:=r3
 cases b3 with
 |true=>
  have i3:Si r s u L m m3 (a+1):=i3
  obtain ⟨c21,g21,l21,o21⟩:=i3.get
  simp (config:={maxSteps:=1000000}) (disch:=first|assumption|omega|(apply ab;omega)|(apply aa;assumption)|(simp only[aq]<;>omega)) only[go_sem,seval,r1.wf',r2.wf',r3.wf,g21]
  generalize hM22:hp _ 0 m3=m22
  have i22:=i3.sto hM22 (by simp[l21]) (by simp[cA])
  refine lA i22.h i22.st i22.rs i22.su E _ (i22.e2 hE) ?_
  intro v23 m23 hq23
  obtain ⟨rfl,a23,ha23,i23⟩:=i22.pl hq23
  simp (config:={maxSteps:=1000000}) (disch:=first|assumption|omega|(apply ab;omega)|(apply aa;assumption)|(simp only[aq]<;>omega)) only[go_sem,seval]
  refine dS i23.h E _ (i23.e hE) ?_
  rintro _ m24 ⟨⟨v241,v242,v243,v244,v245,rfl⟩,⟨a24,ha24,h24⟩,hC24⟩
  have i24:=i23.to h24 hC24
  obtain ⟨c25,g25,l25,o25⟩:=i24.get
  rw[←ag m24]
  simp (config:={maxSteps:=1000000}) (disch:=first|assumption|omega|(apply ab;omega)|(apply aa;assumption)|(simp only[aq]<;>omega)) only[go_sem,seval,g25]
  generalize hM26:hp _ 0 m24=m26
  have i26:=i24.sto hM26 (by simp[l25]) (by simp[cA])
  exact hK _ _ (i26.fin (by omega))
 |false=>
 have i3:Si r s u L m m3 a:=i3
 obtain ⟨b4,m4,r4,i4⟩:=i3.take (k:=4) (by omega) [99,97,115]
 have r4:rT 13 [.ptr r 0,ii 4,.str [99,97,115]] m3 (.bool b4) m4:=r4
 cases b4 with
 |true=>
  have i4:Si r s u L m m4 (a+1):=i4
  simp (config:={maxSteps:=1000000}) (disch:=first|assumption|omega|(apply ab;omega)|(apply aa;assumption)|(simp only[aq]<;>omega)) only[go_sem,seval,r1.wf',r2.wf',r3.wf',r4.wf']
  refine dT i4.h (k:=1) (by omega) E _ (i4.e hE) ?_
  rintro _ m21 ⟨⟨y21,rfl⟩,h21,hC21⟩
  have i21:=i4.to h21 hC21
  obtain ⟨c22,g22,l22,o22⟩:=i21.get
  rw[←ag m21]
  simp (config:={maxSteps:=1000000}) (disch:=first|assumption|omega|(apply ab;omega)|(apply aa;assumption)|(simp only[aq]<;>omega)) only[go_sem,seval,Tok.l,g22]
  generalize hM23:hp _ 0 m21=m23
  have i23:=i21.sto hM23 (by simp[l22]) (by simp[cA])
  refine lA i23.h i23.st i23.rs i23.su E _ (i23.e2 hE) ?_
  intro v24 m24 hq24
  obtain ⟨rfl,a24,ha24,i24⟩:=i23.pl hq24
  simp (config:={maxSteps:=1000000}) (disch:=first|assumption|omega|(apply ab;omega)|(apply aa;assumption)|(simp only[aq]<;>omega)) only[go_sem,seval]
  refine dS i24.h E _ (i24.e hE) ?_
  rintro _ m25 ⟨⟨v251,v252,v253,v254,v255,rfl⟩,⟨a25,ha25,h25⟩,hC25⟩
  have i25:=i24.to h25 hC25
  obtain ⟨c26,g26,l26,o26⟩:=i25.get
  rw[←ag m25]
  simp (config:={maxSteps:=1000000}) (disch:=first|assumption|omega|(apply ab;omega)|(apply aa;assumption)|(simp only[aq]<;>omega)) only[go_sem,seval,g26]
  generalize hM27:hp _ 0 m25=m27
  have i27:=i25.sto hM27 (by simp[l26]) (by simp[cA])
  refine dS i27.h E _ (i27.e hE) ?_
  rintro _ m28 ⟨⟨v281,v282,v283,v284,v285,rfl⟩,⟨a28,ha28,h28⟩,hC28⟩
  have i28:=i27.to h28 hC28
  obtain ⟨c29,g29,l29,o29⟩:=i28.get
  rw[←ag m28]
  simp (config:={maxSteps:=1000000}) (disch:=first|assumption|omega|(apply ab;omega)|(apply aa;assumption)|(simp only[aq]<;>omega)) only[go_sem,seval,g29]
  generalize hM30:hp _ 0 m28=m30
  have i30:=i28.sto hM30 (by simp[l29]) (by simp[cA])
  exact hK _ _ (i30.fin (by omega))
 |false=>
 have i4:Si r s u L m m4 a:=i4
 obtain ⟨b5,m5,r5,i5⟩:=i4.take (k:=4) (by omega) [102,101,110,99,101]
 have r5:rT 13 [.ptr r 0,ii 4,.str [102,101,110,99,101]] m4 (.bool b5) m5:=r5
 cases b5 with
 |true=>
  have i5:Si r s u L m m5 (a+1):=i5
  obtain ⟨c21,g21,l21,o21⟩:=i5.get
  simp (config:={maxSteps:=1000000}) (disch:=first|assumption|omega|(apply ab;omega)|(apply aa;assumption)|(simp only[aq]<;>omega)) only[go_sem,seval,r1.wf',r2.wf',r3.wf',r4.wf',r5.wf,g21]
  generalize hM22:hp _ 0 m5=m22
  have i22:=i5.sto hM22 (by simp[l21]) (by simp[cA])
  exact hK _ _ (i22.fin (by omega))
 |false=>
 have i5:Si r s u L m m5 a:=i5
 obtain ⟨b6,m6,r6,i6⟩:=i5.take (k:=4) (by omega) [111,117,116]
 have r6:rT 13 [.ptr r 0,ii 4,.str [111,117,116]] m5 (.bool b6) m6:=r6
 cases b6 with
 |true=>
  have i6:Si r s u L m m6 (a+1):=i6
  simp (config:={maxSteps:=1000000}) (disch:=first|assumption|omega|(apply ab;omega)|(apply aa;assumption)|(simp only[aq]<;>omega)) only[go_sem,seval,r1.wf',r2.wf',r3.wf',r4.wf',r5.wf',r6.wf']
  refine dS i6.h E _ (i6.e hE) ?_
  rintro _ m21 ⟨⟨v211,v212,v213,v214,v215,rfl⟩,⟨a21,ha21,h21⟩,hC21⟩
  have i21:=i6.to h21 hC21
  obtain ⟨c22,g22,l22,o22⟩:=i21.get
  rw[←ag m21]
  simp (config:={maxSteps:=1000000}) (disch:=first|assumption|omega|(apply ab;omega)|(apply aa;assumption)|(simp only[aq]<;>omega)) only[go_sem,seval,g22]
  generalize hM23:hp _ 0 m21=m23
  have i23:=i21.sto hM23 (by simp[l22]) (by simp[cA])
  exact hK _ _ (i23.fin (by omega))
 |false=>
 have i6:Si r s u L m m6 a:=i6
 simp (config:={maxSteps:=1000000}) (disch:=first|assumption|omega|(apply ab;omega)|(apply aa;assumption)|(simp only[aq]<;>omega)) only[go_sem,seval,r1.wf',r2.wf',r3.wf',r4.wf',r5.wf',r6.wf',(dV i6.h 2).wf]
 exact i6.e2 hE _ _ (bR.here (e:=2) i6.h (by omega) ((Chg.refl _).weak (by simp)))
end
section
variable {m m' m0:NH} {r s:D4} {u:NV} {L:List Tok} {a a':Nat} {x:Tok} {T T':List D4} {E:NV->NH->Prop}
theorem uY (h:Rd m r u L a) (hx:L[a]? =some x) (t:List Nat):CT 22 [.ptr r 0,.str t] m [r] L fun v m'=>v= .tup []/\(x.k=3/\x.t=t)/\Rd m' r u L (a+1)/\Chg [r] m m':=by
 intro E K hE hK
 refine WF.of_wpG (fun _=>rfl) lY (L:= [(.a .e,.str t),(.e,.ptr r 0)]) rfl ?_
 unfold wH
 obtain ⟨b,m1,r1,hb,h1,hC1⟩:=eW h hx (k:=3) (by omega) t
 have r1:rT 13 [.ptr r 0,ii 3,.str t] m (.bool b) m1:=r1
 rw[ag]
 cases b with
 |true=>
  simp (config:={maxSteps:=1000000}) (disch:=first|assumption|omega|(apply ab;omega)|(apply aa;assumption)|(simp only[aq]<;>omega)) only[go_sem,seval,r1.wf']
  exact hK _ _ ⟨rfl,of_decide_eq_true hb.symm,h1,hC1⟩
 |false=>
  simp (config:={maxSteps:=1000000}) (disch:=first|assumption|omega|(apply ab;omega)|(apply aa;assumption)|(simp only[aq]<;>omega)) only[go_sem,seval,r1.wf',(dV h1 2).wf]
  exact hE _ _ (bR.here h1 (by omega) hC1)
theorem xU (h:Rd m r u L a):CT 14 [.ptr r 0] m [r] L fun v m'=>(∃v1 v2,v= .agg [v1,v2])/\(∃a',a<a'/\Rd m' r u L a')/\Chg [r] m m':=by
 intro E K hE hK
 refine WF.of_wpG (fun _=>rfl) rI (L:= [(.e,.ptr r 0)]) rfl ?_
 unfold yK
 generalize hm1:hp [(.n 0,.cells true [.str [],.int .i64 (.lit 0)])] 1 m=m1
 have hC1:Chg [] m m1:=bS hm1 rfl
 have h1:=h.grow hC1
 have o1:aI m1 (na m 0):=dg hm1 (by omega)
 have g1:m1.get (na m 0)=some (.cells true [.str [],.int .i64 (.lit 0)]):=cZ hm1
 have nr:na m 0∉ [r]:=fun q=>h.o.ne 0 (one q).symm
 have c01:Chg [r] m m1:=hC1.weak (by simp)
 simp (config:={maxSteps:=1000000}) (disch:=first|assumption|omega|(apply ab;omega)|(apply aa;assumption)|(simp only[aq]<;>omega)) only[go_sem,seval,hm1]
 refine dT h1 (k:=1) (by omega) E _ (fun v m' hq=>hE v m' (hq.pre c01 fun i hi _=>hi)) ?_
 rintro _ m2 ⟨⟨y,rfl⟩,h2,hC2⟩
 have c02:=c01.trans hC2 fun i hi _=>hi
 have o2:=hC2.old o1
 have g2:=(hC2.get o1 nr).trans g1
 generalize hm3:hp [(.n 0,.cells true [.str y.t,ii 1]),(.n 0,.cells true [.str [],.int .i64 (.lit 0)])] 1 m2=m3
 have hC3:Chg [] m2 m3:=bS hm3 rfl
 have h3:=h2.grow hC3
 have c03:=c02.trans hC3 (by simp)
 have o3:=hC3.old o2
 have g3:=(hC3.get o2 (by simp)).trans g2
 have p3:aI m3 (na m2 0):=dg hm3 (by omega)
 have q3:m3.get (na m2 0)=some (.cells true [.str y.t,ii 1]):=cZ hm3
 have nr2:na m2 0∉ [r]:=fun q=>h2.o.ne 0 (one q).symm
 have nn:na m2 0≠na m 0:=(o2.ne 0).symm
 have nm2:¬aI m (na m2 0):=fun q=>aQ (c02.old q)
 have nu2:∀i∈ids u,i∉ [na m2 0]:=fun i hi q=>(h2.s.old i hi).ne 0 (one q)
 obtain ⟨x,hx⟩:=h3.tok
 obtain ⟨b,m4,r4,hb,h4,hC4⟩:=eW h3 hx (k:=3) (by omega) [91]
 have r4:rT 13 [.ptr r 0,ii 3,.str [91]] m3 (.bool b) m4:=r4
 have c04:=c03.trans hC4 fun i hi _=>hi
 have o4:=hC4.old o3
 have g4:=(hC4.get o3 nr).trans g3
 have p4:=hC4.old p3
 have q4:=(hC4.get p3 nr2).trans q3
 have fin:∀(M:NH) (a':Nat) (z:NV),a<a'->Rd M r u L a'->Chg [r] m M->aI M (na m 0)->M.get (na m 0)=some (.cells true [.str [],.int .i64 (.lit 0)])->aI M (na m2 0)->M.get (na m2 0)=some (.cells true [.str y.t,z])->
  ∀Q,(∀M',Rd M' r u L (a'+1)->Chg [r] m M'->aI M' (na m 0)->M'.get (na m 0)=some (.cells true [.str [],.int .i64 (.lit 0)])->M'.get (na m2 0)=some (.cells true [.str y.t,z])->Q (.tup []) M')->WF ⟨Try.prog,E⟩ S0 22 [.ptr r 0,.str [59]] M Q:=by
  intro M a' z ha hR hC1 o1 g1 o2 g2 Q hQ
  refine jZ hR [59] E Q (fun v m' hq=>hE v m' (hq.pre hC1 fun i hi _=>hi)) ?_
  rintro _ M' ⟨rfl,hR',hC'⟩
  exact hQ M' hR' (hC1.trans hC' fun i hi _=>hi) (hC'.old o1) ((hC'.get o1 nr).trans g1) ((hC'.get o2 nr2).trans g2)
 have last:∀(M M':NH) (a':Nat) (v1 v2:NV),a<a'->Rd M r u L a'->Chg [r] m M->hp [(.o (na m 0),.cells true [v1,v2])] 0 M=M'->K (.agg [v1,v2]) M':=by
  intro M M' a' v1 v2 ha hR hC hM
  have hC':Chg [na m 0] M M':=bS hM rfl
  refine hK _ _ ⟨⟨_,_,rfl⟩,⟨a',ha,hR.chg hC' (fun q=>h.o.ne 0 (one q)) fun i hi q=>aQ (h.s.old _ (one q▸hi))⟩,hC.trans hC' fun i hi ho=> ?_⟩
  rw[one hi] at ho;exact Fy ho aQ
 rw[←ag m2]
 cases b with
 |false=>
  have h4:Rd m4 r u L (a+1):=h4
  simp (config:={maxSteps:=1000000}) (disch:=first|assumption|omega|(apply ab;omega)|(apply aa;assumption)|(simp only[aq]<;>omega)) only[go_sem,seval,Tok.l,hm3,r4.wf']
  refine fin m4 (a+1) _ (by omega) h4 c04 o4 g4 p4 q4 _ ?_
  intro M hR hC oz gz gq
  rw[←ag M]
  simp (config:={maxSteps:=1000000}) (disch:=first|assumption|omega|(apply ab;omega)|(apply aa;assumption)|(simp only[aq]<;>omega)) only[go_sem,seval,gz,gq]
  exact last M _ _ _ _ (by omega) hR hC rfl
 |true=>
  have h4:Rd m4 r u L (a+1+1):=h4
  simp (config:={maxSteps:=1000000}) (disch:=first|assumption|omega|(apply ab;omega)|(apply aa;assumption)|(simp only[aq]<;>omega)) only[go_sem,seval,Tok.l,hm3,r4.wf']
  refine dT h4 (k:=2) (by omega) E _ (fun v m' hq=>hE v m' (hq.pre c04 fun i hi _=>hi)) ?_
  rintro _ m5 ⟨⟨w,rfl⟩,h5,hC5⟩
  have c05:=c04.trans hC5 fun i hi _=>hi
  have o5:=hC5.old o4
  have g5:=(hC5.get o4 nr).trans g4
  have p5:=hC5.old p4
  have q5:=(hC5.get p4 nr2).trans q4
  obtain ⟨z,hz⟩:∃z:Int,y8 .i64 (.int .u64 (.lit (min (w.n:Int) 1048576)))= .val (ii z):=⟨_,rfl⟩
  rw[←ag m5]
  simp (config:={maxSteps:=1000000}) (disch:=first|assumption|omega|(apply ab;omega)|(apply aa;assumption)|(simp only[aq]<;>omega)) only[go_sem,seval,Tok.l,q5,hz]
  generalize hm6:hp _ 0 m5=m6
  have hC6:Chg [na m2 0] m5 m6:=bS hm6 rfl
  have h6:=h5.chg hC6 (fun q=>h2.o.ne 0 (one q)) nu2
  have c06:=c05.trans hC6 fun i hi ho=>(nm2 (one hi▸ho)).elim
  have nz:na m 0∉ [na m2 0]:=fun q=>nn (one q).symm
  have o6:=hC6.old o5
  have g6:=(hC6.get o5 nz).trans g5
  have p6:=hC6.old p5
  have q6:m6.get (na m2 0)=some (.cells true [.str y.t,ii z]):=by rw[←hm6];exact (cp p5).trans bB
  refine jZ h6 [93] E _ (fun v m' hq=>hE v m' (hq.pre c06 fun i hi _=>hi)) ?_
  rintro _ m7 ⟨rfl,h7,hC7⟩
  simp (config:={maxSteps:=1000000}) (disch:=first|assumption|omega|(apply ab;omega)|(apply aa;assumption)|(simp only[aq]<;>omega)) only[go_sem,seval]
  refine fin m7 _ _ (by omega) h7 (c06.trans hC7 fun i hi _=>hi) (hC7.old o6) ((hC7.get o6 nr).trans g6) (hC7.old p6) ((hC7.get p6 nr2).trans q6) _ ?_
  intro M hR hC oz gz gq
  rw[←ag M]
  simp (config:={maxSteps:=1000000}) (disch:=first|assumption|omega|(apply ab;omega)|(apply aa;assumption)|(simp only[aq]<;>omega)) only[go_sem,seval,gz,gq]
  exact last M _ _ _ _ (by omega) hR hC rfl
end
def D3 (r:D4) (u:NV) (L:List Tok) (a:Nat) (m:NH) (v:NV) (m':NH):Prop:=cellsOf v=some [v]/\(∃a',a<a'/\Rd m' r u L a')/\Chg [r] m m'
def vg (r:D4) (u:NV) (L:List Tok) (d:Nat):Prop:=∀(m:NH) (a:Nat) (ot:Int),Rd m r u L a->0<=ot->ot+d=30->CT 16 [.ptr r 0,ii ot] m [r] L (D3 r u L a m)
def E4 (r:D4) (u:NV) (L:List Tok) (a:Nat) (m:NH) (v:NV) (m':NH):Prop:=(∃c,v= .agg c/\c.length=21)/\(∃a',a<a'/\Rd m' r u L a')/\Chg [r] m m'
def Dd (r:D4) (u:NV) (L:List Tok) (d:Nat):Prop:=∀(m:NH) (a:Nat) (ot:Int),Rd m r u L a->0<=ot->ot+d=29->CT 23 [.ptr r 0,ii ot] m [r] L (E4 r u L a m)
section
variable {m m' m0:NH} {r s:D4} {u:NV} {L:List Tok} {a a':Nat} {x:Tok} {T T':List D4} {E:NV->NH->Prop}
theorem tO {d:Nat} (ih:∀d',d'+1=d->Dd r u L d'):vg r u L d:=by
 intro m a ot h hb0 hbd E K hE hK
 refine WF.of_wpG (fun _=>rfl) qm (L:= [(.a .e,ii ot),(.e,.ptr r 0)]) rfl ?_
 unfold yO
 obtain ⟨x,hx⟩:=h.tok
 obtain ⟨m1,r1,hC1⟩:=yo h hx 3 [123]
 have r1:rT 17 [.ptr r 0,ii 3,.str [123]] m (.bool (decide (x.k=3/\x.t= [123]))) m1:=r1
 have h1:=h.grow hC1
 have c01:Chg [r] m m1:=hC1.weak (by simp)
 rw[ag]
 have go:∀(d':Nat),d=d'+1->∀(m2:NH),Rd m2 r u L (a+1)->Chg [r] m m2->∀(t:Tm),NT.get D4.e t=some (.ptr r 0)->NT.get D4.e.a t=some (ii ot)->NT.get D4.e.a.a t=some .nils->
  ∀Q:Out->Dyn->Prop,(∀t' M v,NT.get D4.e.a.a t'=some v->cellsOf v=some [v]->(∃a',a<a'/\Rd M r u L a')->Chg [r] m M->Q (.exit 0) ⟨ap [] t', [],none,M⟩)->W ⟨Try.prog,E⟩ S0 none lW.loop ⟨t, [],none,m2⟩ Q:=by
  rintro d' rfl m2 h2 c02 t t1 t2 t3 Q hQ
  refine Nm.W.loop (fun k dy=>∃T M a' v C,dy=⟨T, [],none,M⟩/\NT.get D4.e T=some (.ptr r 0)/\NT.get D4.e.a T=some (ii ot)/\NT.get D4.e.a.a T=some v/\a<a'/\a'+k=L.length/\Rd M r u L a'/\Chg [r] m M/\c9 m M v 21 C/\C.length<=a') ?_ (L.length - (a+1)) _
   ⟨t,m2,a+1,.nils, [],rfl,t1,t2,t3,by omega,by have:=h2.a;omega,h2,c02,c9.nil,by simp⟩
  rintro k dy ⟨T,M,a2,v,C,rfl,t1,t2,t3,ha2,hk,hI,hC,ho,hlC⟩
  apply bu
  unfold lW
  change wp _ _ _ _ ⟨ap [] T, [],none,M⟩ _
  obtain ⟨y,hy⟩:=hI.tok
  obtain ⟨b,m3,r3,hb,h3,hC3⟩:=eW hI hy (k:=3) (by omega) [125]
  have r3:rT 13 [.ptr r 0,ii 3,.str [125]] M (.bool b) m3:=r3
  have c03:=hC.trans hC3 fun i hi _=>hi
  have vr:∀i∈ids v,i∉ [r]:=fun i hi q=>ho.new i hi (one q▸h.o)
  cases b with
  |true=>
   have h3:Rd m3 r u L (a2+1):=h3
   simp (config:={maxSteps:=1000000}) (disch:=first|assumption|omega|(apply ab;omega)|(apply aa;assumption)|(simp only[aq]<;>omega)) only[go_sem,seval,t1,t2,t3,r3.wf']
   exact hQ _ _ v (by simp only[go_sem,seval,t3]) ho.sl.one ⟨_,by omega,h3⟩ c03
  |false=>
   have h3:Rd m3 r u L a2:=h3
   have o3:=ho.chg hC3 vr
   simp (config:={maxSteps:=1000000}) (disch:=first|assumption|omega|(apply ab;omega)|(apply aa;assumption)|(simp only[aq]<;>omega)) only[go_sem,seval,t1,t2,t3,r3.wf']
   refine ih d' rfl m3 a2 ot h3 hb0 (by omega) E _ (fun v m' hq=>hE v m' (hq.pre c03 fun i hi _=>hi)) ?_
   rintro _ m4 ⟨⟨c,rfl,hc⟩,⟨a4,ha4,h4⟩,hC4⟩
   have c04:=c03.trans hC4 fun i hi _=>hi
   have o4:=o3.chg hC4 vr
   have hl:=h4.l
   have ha:=h4.a
   rw[←ag m4]
   simp (config:={maxSteps:=1000000}) (disch:=first|assumption|omega|(apply ab;omega)|(apply aa;assumption)|(simp only[aq]<;>omega)) only[go_sem,seval,t1,t2,t3,hc]
   generalize hm5:hp [(.n 0,.cells true c)] 1 m4=m5
   have hC5:Chg [] m4 m5:=bS hm5 rfl
   have h5:=h4.grow hC5
   have c05:=c04.trans hC5 (by simp)
   obtain ⟨v',m6,q1,q2,hC6,-⟩:=(o4.chg hC5 (by simp)).app2 (bytes:=288) (kc:=1) (x:=na m4 0) (cs:=c) (cZ hm5) (dg hm5 (by omega)) hc (fun i hi=>c05.old hi) (by omega) (by omega)
   simp (config:={maxSteps:=1000000}) (disch:=first|assumption|omega|(apply ab;omega)|(apply aa;assumption)|(simp only[aq]<;>omega)) only[go_sem,seval,t1,t2,t3,q1]
   refine ⟨L.length - a4,by omega,_,m6,a4,v',C++ [c],by rfl,by simp only[go_sem,seval,t1],by simp only[go_sem,seval,t2],by simp only[go_sem,seval],by omega,by omega,h5.chg hC6 (fun q=>ho.new _ q h.o) (fun i hi q=>ho.new i q (h.s.old i hi)),c05.trans hC6 fun i hi ho'=>(ho.new i hi ho').elim,q2,by simp;omega⟩
 cases hd:decide (x.k=3/\x.t= [123]) with
 |false=>
  rw[hd] at r1
  simp (config:={maxSteps:=1000000}) (disch:=first|assumption|omega|(apply ab;omega)|(apply aa;assumption)|(simp only[aq]<;>omega)) only[go_sem,seval,r1.wf']
  refine uY h1 hx [123] E _ (fun v m' hq=>hE v m' (hq.pre c01 fun i hi _=>hi)) ?_
  rintro _ m2 ⟨rfl,hk,-,-⟩
  exact Fy hk (of_decide_eq_false hd)
 |true=>
  rw[hd] at r1
  by_cases h29:29<ot
  ·simp (config:={maxSteps:=1000000}) (disch:=first|assumption|omega|(apply ab;omega)|(apply aa;assumption)|(simp only[aq]<;>omega)) only[go_sem,seval,r1.wf',h29,(dV h1 11).wf]
   exact hE _ _ (bR.here (e:=11) h1 (by omega) c01)
  ·simp (config:={maxSteps:=1000000}) (disch:=first|assumption|omega|(apply ab;omega)|(apply aa;assumption)|(simp only[aq]<;>omega)) only[go_sem,seval,r1.wf',h29]
   refine uY h1 hx [123] E _ (fun v m' hq=>hE v m' (hq.pre c01 fun i hi _=>hi)) ?_
   rintro _ m2 ⟨rfl,-,h2,hC2⟩
   simp (config:={maxSteps:=1000000}) (disch:=first|assumption|omega|(apply ab;omega)|(apply aa;assumption)|(simp only[aq]<;>omega)) only[go_sem,seval]
   refine go (d - 1) (by omega) m2 h2 (c01.trans hC2 fun i hi _=>hi) _ (by simp only[go_sem,seval]) (by simp only[go_sem,seval]) (by simp only[go_sem,seval]) _ ?_
   intro t' M v tv hv hR hC
   simp (config:={maxSteps:=1000000}) (disch:=first|assumption|omega|(apply ab;omega)|(apply aa;assumption)|(simp only[aq]<;>omega)) only[go_sem,seval,tv]
   exact hK _ _ ⟨hv,hR,hC⟩
end
abbrev wl:List NV:= [.int .i64 (.lit 0),.int .i64 (.lit 0),.str [],.str [],.int .i64 (.lit 0),.int .u64 (.lit 0),.int .u8 (.lit 0),.str [],.nils,.int .i64 (.lit 0),.int .u64 (.lit 0),.int .u8 (.lit 0),.str [],.nils,.int .i64 (.lit 0),.int .u64 (.lit 0),.int .u8 (.lit 0),.str [],.nils,.nils,.nils]
section
variable {m m' m0:NH} {r s:D4} {u:NV} {L:List Tok} {a a':Nat} {x:Tok} {T T':List D4} {E:NV->NH->Prop}
theorem CH {d:Nat} (ih:vg r u L d):Dd r u L d:=by
 intro m a ot h hb0 hbd E K hE hK
 refine WF.of_wpG (fun _=>rfl) qF (L:= [(.a .e,ii ot),(.e,.ptr r 0)]) rfl ?_
 unfold yW
 generalize hm1:hp [(.n 0,.cells true wl)] 1 m=m1
 have hm1':=hm1
 unfold wl at hm1'
 have hC1:Chg [] m m1:=bS hm1 rfl
 have h1:=h.grow hC1
 have o1:aI m1 (na m 0):=dg hm1 (by omega)
 have g1:m1.get (na m 0)=some (.cells true wl):=cZ hm1
 have c01:Chg [r] m m1:=hC1.weak (by simp)
 obtain ⟨x,hx⟩:=h1.tok
 obtain ⟨m2,r2,hC2⟩:=lm h1 hx
 unfold Tok.l at r2
 have h2:=h1.grow hC2
 have c02:=c01.trans hC2 (by simp)
 simp (config:={maxSteps:=1000000}) (disch:=first|assumption|omega|(apply ab;omega)|(apply aa;assumption)|(simp only[aq]<;>omega)) only[go_sem,seval,hm1',r2.wf]
 generalize hm3:hp _ 1 m2=m3
 have hC3:Chg [] m2 m3:=bS hm3 rfl
 have h3:=h2.grow hC3
 have c03:=c02.trans hC3 (by simp)
 have o3:aI m3 (na m 0):=hC3.old (hC2.old o1)
 have g3:m3.get (na m 0)=some (.cells true wl):=(hC3.get (hC2.old o1) (by simp)).trans ((hC2.get o1 (by simp)).trans g1)
 have i3:Si r (na m2 0) u L m3 m3 a:=⟨h3,⟨⟨_,cZ hm3,rfl⟩,dg hm3 (by omega)⟩,(Chg.refl m3).weak (by simp),h2.o.ne 0,fun q=>aQ (h2.s.old _ q)⟩
 have nm2:¬aI m (na m2 0):=fun q=>aQ (c02.old q)
 have nz:na m 0∉ [r,na m2 0]:=by
  simp only[FE,FD,or_false,not_or]
  exact ⟨(h.o.ne 0).symm,(hC2.old o1).ne 0⟩
 have hsub:∀i∈ [r,na m2 0],aI m i->i∈ [r]:=fun i hi ho=>by
  rcases List.mem_cons.1 hi with rfl|hi
  ·simp
  ·exact (nm2 (one hi▸ho)).elim
 have hE3:∀v m',bR [r,na m2 0] L m3 v m'->E v m':=fun v m' hq=>hE v m' (hq.pre c03 hsub)
 have fin:∀(M:NH) (a':Nat) (c:List NV),Si r (na m2 0) u L m3 M a'->a<a'->c.length=21->∀M',Chg [na m 0] M M'->K (.agg c) M':=by
  intro M a' c hS ha hl M' hC'
  refine hK _ _ ⟨⟨c,rfl,hl⟩,⟨a',ha,hS.h.chg hC' (fun q=>h.o.ne 0 (one q)) fun i hi q=>aQ (h.s.old _ (one q▸hi))⟩,(c03.trans hS.c hsub).trans hC' fun i hi ho=> ?_⟩
  rw[one hi] at ho;exact Fy ho aQ
 have zof:∀{M:NH} {a':Nat},Si r (na m2 0) u L m3 M a'->M.get (na m 0)=some (.cells true wl)/\aI M (na m 0):=fun hS=>⟨(hS.c.get o3 nz).trans g3,hS.c.old o3⟩
 clear hm3
 generalize na m2 0=s at i3 hE3 fin zof nz hsub
 obtain ⟨b1,m4,r4,i4⟩:=i3.take (k:=4) (by omega) [105,102]
 have r4:rT 13 [.ptr r 0,ii 4,.str [105,102]] m3 (.bool b1) m4:=r4
 cases b1 with
 |true=>
  have i4:Si r s u L m3 m4 (a+1):=i4
  simp (config:={maxSteps:=1000000}) (disch:=first|assumption|omega|(apply ab;omega)|(apply aa;assumption)|(simp only[aq]<;>omega)) only[go_sem,seval,r4.wf']
  refine dS i4.h E _ (i4.e hE3) ?_
  rintro _ m14 ⟨⟨v1,v2,v3,v4,v5,rfl⟩,⟨a14,ha14,h14⟩,hC14⟩
  have i14:=i4.to h14 hC14
  obtain ⟨c15,g15,l15,o15⟩:=i14.get
  rw[←ag m14]
  simp (config:={maxSteps:=1000000}) (disch:=first|assumption|omega|(apply ab;omega)|(apply aa;assumption)|(simp only[aq]<;>omega)) only[go_sem,seval,g15]
  generalize hM15:hp _ 0 m14=m15
  have i15:=i14.sto hM15 (by simp[l15]) (by simp[cA])
  refine ih m15 _ (ot+1) i15.h (by omega) (by omega) E _ (i15.e hE3) ?_
  rintro w16 m16 ⟨hw16,⟨a16,ha16,h16⟩,hC16⟩
  have i16:=i15.to h16 hC16
  obtain ⟨c17,g17,l17,o17⟩:=i16.get
  rw[←ag m16]
  simp (config:={maxSteps:=1000000}) (disch:=first|assumption|omega|(apply ab;omega)|(apply aa;assumption)|(simp only[aq]<;>omega)) only[go_sem,seval,g17,hw16]
  generalize hM17:hp _ 0 m16=m17
  have i17:=i16.sto hM17 (by simp[l17]) (by simp[cA])
  obtain ⟨b2,m18,r18,i18⟩:=i17.take (k:=4) (by omega) [101,108,115,101]
  have r18:rT 13 [.ptr r 0,ii 4,.str [101,108,115,101]] m17 (.bool b2) m18:=r18
  cases b2 with
  |false=>
   have i18:Si r s u L m3 m18 a16:=i18
   simp (config:={maxSteps:=1000000}) (disch:=first|assumption|omega|(apply ab;omega)|(apply aa;assumption)|(simp only[aq]<;>omega)) only[go_sem,seval,r18.wf']
   obtain ⟨ce,ge,le,oe⟩:=i18.get
   obtain ⟨gz,oz⟩:=zof i18
   unfold wl at gz
   have hT:List.take 21 ce=ce:=List.take_of_length_le (by omega)
   rw[←ag m18]
   simp (config:={maxSteps:=1000000}) (disch:=first|assumption|omega|(apply ab;omega)|(apply aa;assumption)|(simp only[aq]<;>omega)) only[go_sem,seval,ge,gz,hT,le]
   refine fin m18 _ ce i18 (by omega) le _ ?_
   exact aX rfl
  |true=>
   have i18:Si r s u L m3 m18 (a16+1):=i18
   simp (config:={maxSteps:=1000000}) (disch:=first|assumption|omega|(apply ab;omega)|(apply aa;assumption)|(simp only[aq]<;>omega)) only[go_sem,seval,r18.wf']
   refine ih m18 _ (ot+1) i18.h (by omega) (by omega) E _ (i18.e hE3) ?_
   rintro w19 m19 ⟨hw19,⟨a19,ha19,h19⟩,hC19⟩
   have i19:=i18.to h19 hC19
   obtain ⟨c20,g20,l20,o20⟩:=i19.get
   obtain ⟨gz,oz⟩:=zof i19
   unfold wl at gz
   have le:(c20.set 20 w19).length=21:=by simp[l20]
   have hT:List.take 21 (c20.set 20 w19)=c20.set 20 w19:=List.take_of_length_le (by omega)
   have ns:na m 0≠s:=fun q=>nz (by rw[q];simp)
   rw[←ag m19]
   simp (config:={maxSteps:=1000000}) (disch:=first|assumption|omega|(apply ab;omega)|(apply aa;assumption)|(simp only[aq]<;>omega)) only[go_sem,seval,g20,hw19,gz,hT,le]
   obtain ⟨m20,hM20⟩:∃m20,hp [(.o s,.cells true (c20.set 20 w19))] 0 m19=m20:=⟨_,rfl⟩
   have i20:=i19.sto hM20 le (by simp[cA])
   refine fin m20 _ _ i20 (by omega) le _ ?_
   rw[←my oz,hM20]
   exact Chg.put _ _ _
 |false=>
  have i4:Si r s u L m3 m4 a:=i4
  obtain ⟨b2,m5,r5,i5⟩:=i4.take (k:=4) (by omega) [119,104,105,108,101]
  have r5:rT 13 [.ptr r 0,ii 4,.str [119,104,105,108,101]] m4 (.bool b2) m5:=r5
  cases b2 with
  |true=>
   have i5:Si r s u L m3 m5 (a+1):=i5
   simp (config:={maxSteps:=1000000}) (disch:=first|assumption|omega|(apply ab;omega)|(apply aa;assumption)|(simp only[aq]<;>omega)) only[go_sem,seval,r4.wf',r5.wf']
   refine dS i5.h E _ (i5.e hE3) ?_
   rintro _ m14 ⟨⟨v1,v2,v3,v4,v5,rfl⟩,⟨a14,ha14,h14⟩,hC14⟩
   have i14:=i5.to h14 hC14
   obtain ⟨c15,g15,l15,o15⟩:=i14.get
   rw[←ag m14]
   simp (config:={maxSteps:=1000000}) (disch:=first|assumption|omega|(apply ab;omega)|(apply aa;assumption)|(simp only[aq]<;>omega)) only[go_sem,seval,g15]
   generalize hM15:hp _ 0 m14=m15
   have i15:=i14.sto hM15 (by simp[l15]) (by simp[cA])
   refine ih m15 _ (ot+1) i15.h (by omega) (by omega) E _ (i15.e hE3) ?_
   rintro w16 m16 ⟨hw16,⟨a16,ha16,h16⟩,hC16⟩
   have i16:=i15.to h16 hC16
   obtain ⟨c20,g20,l20,o20⟩:=i16.get
   obtain ⟨gz,oz⟩:=zof i16
   unfold wl at gz
   have le:(c20.set 19 w16).length=21:=by simp[l20]
   have hT:List.take 21 (c20.set 19 w16)=c20.set 19 w16:=List.take_of_length_le (by omega)
   have ns:na m 0≠s:=fun q=>nz (by rw[q];simp)
   rw[←ag m16]
   simp (config:={maxSteps:=1000000}) (disch:=first|assumption|omega|(apply ab;omega)|(apply aa;assumption)|(simp only[aq]<;>omega)) only[go_sem,seval,g20,hw16,gz,hT,le]
   obtain ⟨m20,hM20⟩:∃m20,hp [(.o s,.cells true (c20.set 19 w16))] 0 m16=m20:=⟨_,rfl⟩
   have i20:=i16.sto hM20 le (by simp[cA])
   refine fin m20 _ _ i20 (by omega) le _ ?_
   rw[←my oz,hM20]
   exact Chg.put _ _ _
  |false=>
   have i5:Si r s u L m3 m5 a:=i5
   simp (config:={maxSteps:=1000000}) (disch:=first|assumption|omega|(apply ab;omega)|(apply aa;assumption)|(simp only[aq]<;>omega)) only[go_sem,seval,r4.wf',r5.wf']
   refine ua i5.h i5.st i5.rs i5.su E _ (i5.e2 hE3) ?_
   intro v14 m14 hq14
   obtain ⟨rfl,a14,ha14,i14⟩:=i5.pl hq14
   simp (config:={maxSteps:=1000000}) (disch:=first|assumption|omega|(apply ab;omega)|(apply aa;assumption)|(simp only[aq]<;>omega)) only[go_sem,seval]
   refine jZ i14.h [59] E _ (i14.e hE3) ?_
   rintro _ m15 ⟨rfl,h15,hC15⟩
   have i15:=i14.to h15 hC15
   obtain ⟨ce,ge,le,oe⟩:=i15.get
   obtain ⟨gz,oz⟩:=zof i15
   unfold wl at gz
   have hT:List.take 21 ce=ce:=List.take_of_length_le (by omega)
   rw[←ag m15]
   simp (config:={maxSteps:=1000000}) (disch:=first|assumption|omega|(apply ab;omega)|(apply aa;assumption)|(simp only[aq]<;>omega)) only[go_sem,seval,ge,gz,hT,le]
   refine fin m15 _ ce i15 (by omega) le _ ?_
   exact aX rfl
end
theorem qu {r:D4} {u:NV}:∀d,vg r u L d
 |0=>tO (d:=0) fun d' e=>Fy e (by omega)
 |d+1=>tO (d:=d+1) fun d' e=>by
  have:d'=d:=by omega
  subst this;exact CH (qu d')
structure Pi (r n0 n1:D4) (u:NV) (L:List Tok) (m M:NH) (a:Nat) (vc vt vr:NV) (C D:List (List NV)):Prop where
 h:Rd M r u L a
 g1:M.get n1=some (.cells true [vc,vt,vr])
 o1:aI M n1
 g0:M.get n0=some (.cells true [.nils,.nils,.nils])
 o0:aI M n0
 c:Chg [r] m M
 pc:c9 m M vc 2 C
 pt:c9 m M vt 2 D
 len:C.length+D.length<=a
 d:∀i∈ids vc,i∉ids vt/\i≠n0/\i≠n1
 dt:∀i∈ids vt,i≠n0/\i≠n1
 nu:∀i∈ids u,aI m i
 n:r≠n0/\r≠n1/\n0≠n1/\aI m r/\¬aI m n0/\¬aI m n1
section
variable {m m' m0 M:NH} {r s n0 n1:D4} {u vc vt vr:NV} {C D:List (List NV)} {L:List Tok} {a a':Nat} {x:Tok} {T T':List D4} {E:NV->NH->Prop}
theorem Pi.to (h:Pi r n0 n1 u L m M a vc vt vr C D) (hR:Rd m' r u L a') (hC:Chg [r] M m') (ha:a<=a'):Pi r n0 n1 u L m m' a' vc vt vr C D:=by
 have hr:∀{v:NV} {C:List (List NV)},c9 m M v 2 C->∀i∈ids v,i∉ [r]:=fun ho i hi q=>ho.new i hi (one q▸h.n.2.2.2.1)
 refine ⟨hR,(hC.get h.o1 fun q=>h.n.2.1 (one q).symm).trans h.g1,hC.old h.o1,(hC.get h.o0 fun q=>h.n.1 (one q).symm).trans h.g0,hC.old h.o0,h.c.trans hC fun i hi _=>hi,h.pc.chg hC (hr h.pc),h.pt.chg hC (hr h.pt),by have:=h.len;omega,h.d,h.dt,h.nu,h.n⟩
theorem Pi.e (h:Pi r n0 n1 u L m M a vc vt vr C D) (hE:∀v m',bR [r] L m v m'->E v m'):∀v m',bR [r] L M v m'->E v m':=fun v m' hq=>hE v m' (hq.pre h.c fun i hi _=>hi)
theorem Pi.take (h:Pi r n0 n1 u L m M a vc vt vr C D) (h5:k≠5) (t:List Nat):∃b m',rT 13 [.ptr r 0,ii k,.str t] M (.bool b) m'/\Pi r n0 n1 u L m m' (if b=true then a+1 else a) vc vt vr C D:=by
 obtain ⟨x,hx⟩:=h.h.tok
 obtain ⟨b,m',r1,-,h1,hC1⟩:=eW h.h hx h5 t
 exact ⟨b,m',r1,h.to h1 hC1 (by split<;>omega)⟩
theorem Pi.set (h:Pi r n0 n1 u L m M a vc vt vr C D) {l:List (AK×NO)} {w1 w2 w3:NV} {C' D':List (List NV)} (hM:hp ((.o n1,.cells true [w1,w2,w3])::l) k M=m') (hl:cA l= [])
 (hc:c9 m M w1 2 C') (ht:c9 m M w2 2 D') (hlen:C'.length+D'.length<=a) (hd:∀i∈ids w1,i∉ids w2/\i≠n0/\i≠n1) (hdt:∀i∈ids w2,i≠n0/\i≠n1):Pi r n0 n1 u L m m' a w1 w2 w3 C' D':=by
 have hC:Chg [n1] M m':=bS hM (by show n1::cA l= [n1];rw[hl])
 refine ⟨h.h.chg hC (fun q=>h.n.2.1 (one q)) fun i hi q=>h.n.2.2.2.2.2 (one q▸h.nu i hi), ?_,hC.old h.o1,(hC.get h.o0 fun q=>h.n.2.2.1 (one q)).trans h.g0,hC.old h.o0,h.c.trans hC fun i hi ho=>(h.n.2.2.2.2.2 (one hi▸ho)).elim,hc.chg hC fun i hi q=>(hd i hi).2.2 (one q),ht.chg hC fun i hi q=>(hdt i hi).2 (one q),hlen,hd,hdt,h.nu,h.n⟩
 rw[←hM];exact (cp h.o1).trans bB
theorem Pi.appC (h:Pi r n0 n1 u L m M a vc vt vr C D) {x:D4} {cs:List NV} (hx:M.get x=some (.cells true cs)) (ox:aI M x) (hcs:cs.length=2) (hlen:C.length+1+D.length<=a):∃v' m6,u7 2 24 M vc (.slc x 0 1 2 1)= .mem v' m6/\m6.get n1=some (.cells true [vc,vt,vr])/\aI m6 n1/\cellsOf v'=some [v']/\∀k m7,hp [(.o n1,.cells true [v',vt,vr])] k m6=m7->Pi r n0 n1 u L m m7 a v' vt vr (C++ [cs]) D:=by
 have hl:=h.h.l
 have ha:=h.h.a
 obtain ⟨v',m6,q1,q2,hC6,q3⟩:=h.pc.app2 (bytes:=24) (kc:=1) hx ox hcs (fun i hi=>h.c.old hi) (by omega) (by omega)
 have g1:=(hC6.get h.o1 fun q=>(h.d _ q).2.2 rfl).trans h.g1
 have o1:=hC6.old h.o1
 refine ⟨v',m6,q1,g1,o1,q2.sl.one,fun k m7 hm7=> ?_⟩
 have hC7:Chg [n1] m6 m7:=bS hm7 rfl
 have n1':n1∉ids vc:=fun q=>(h.d _ q).2.2 rfl
 have hd:∀i∈ids v',i∉ids vt/\i≠n0/\i≠n1:=fun i hi=>(q3 i hi).elim (h.d i) fun hn=>⟨fun q=>hn (h.pt.sl.old i q),fun q=>hn (q▸h.o0),fun q=>hn (q▸h.o1)⟩
 have nu:∀i∈ids u,i∉ [n1]:=fun i hi q=>h.n.2.2.2.2.2 (one q▸h.nu i hi)
 refine ⟨(h.h.chg hC6 (fun q=>h.pc.new _ q h.n.2.2.2.1) fun i hi q=>h.pc.new i q (h.nu i hi)).chg hC7 (fun q=>h.n.2.1 (one q)) nu, ?_,hC7.old o1,(hC7.get (hC6.old h.o0) fun q=>h.n.2.2.1 (one q)).trans ((hC6.get h.o0 fun q=>(h.d _ q).2.1 rfl).trans h.g0),hC7.old (hC6.old h.o0),
  (h.c.trans hC6 fun i hi ho=>(h.pc.new i hi ho).elim).trans hC7 fun i hi ho=>(h.n.2.2.2.2.2 (one hi▸ho)).elim,q2.chg hC7 fun i hi q=>(hd i hi).2.2 (one q),(h.pt.chg hC6 fun i hi q=>(h.d i q).1 hi).chg hC7 fun i hi q=>(h.dt i hi).2 (one q),by simp;omega,hd,h.dt,h.nu,h.n⟩
 rw[←hm7];exact (cp o1).trans bB
theorem Pi.appT (h:Pi r n0 n1 u L m M a vc vt vr C D) {x:D4} {cs:List NV} (hx:M.get x=some (.cells true cs)) (ox:aI M x) (hcs:cs.length=2) (hlen:C.length+1+D.length<=a):∃v' m6,u7 2 40 M vt (.slc x 0 1 2 1)= .mem v' m6/\m6.get n1=some (.cells true [vc,vt,vr])/\aI m6 n1/\cellsOf v'=some [v']/\∀k m7,hp [(.o n1,.cells true [vc,v',vr])] k m6=m7->Pi r n0 n1 u L m m7 a vc v' vr C (D++ [cs]):=by
 have hl:=h.h.l
 have ha:=h.h.a
 obtain ⟨v',m6,q1,q2,hC6,q3⟩:=h.pt.app2 (bytes:=40) (kc:=1) hx ox hcs (fun i hi=>h.c.old hi) (by omega) (by omega)
 have g1:=(hC6.get h.o1 fun q=>(h.dt _ q).2 rfl).trans h.g1
 have o1:=hC6.old h.o1
 refine ⟨v',m6,q1,g1,o1,q2.sl.one,fun k m7 hm7=> ?_⟩
 have hC7:Chg [n1] m6 m7:=bS hm7 rfl
 have hd:∀i∈ids v',i≠n0/\i≠n1:=fun i hi=>(q3 i hi).elim (h.dt i) fun hn=>⟨fun q=>hn (q▸h.o0),fun q=>hn (q▸h.o1)⟩
 have hd':∀i∈ids vc,i∉ids v'/\i≠n0/\i≠n1:=fun i hi=>⟨fun q=>(q3 i q).elim (h.d i hi).1 fun hn=>hn (h.pc.sl.old i hi),(h.d i hi).2⟩
 have nu:∀i∈ids u,i∉ [n1]:=fun i hi q=>h.n.2.2.2.2.2 (one q▸h.nu i hi)
 refine ⟨(h.h.chg hC6 (fun q=>h.pt.new _ q h.n.2.2.2.1) fun i hi q=>h.pt.new i q (h.nu i hi)).chg hC7 (fun q=>h.n.2.1 (one q)) nu, ?_,hC7.old o1,(hC7.get (hC6.old h.o0) fun q=>h.n.2.2.1 (one q)).trans ((hC6.get h.o0 fun q=>(h.dt _ q).1 rfl).trans h.g0),hC7.old (hC6.old h.o0),
  (h.c.trans hC6 fun i hi ho=>(h.pt.new i hi ho).elim).trans hC7 fun i hi ho=>(h.n.2.2.2.2.2 (one hi▸ho)).elim,(h.pc.chg hC6 fun i hi=>(h.d i hi).1).chg hC7 fun i hi q=>(h.d i hi).2.2 (one q),q2.chg hC7 fun i hi q=>(hd i hi).2 (one q),by simp;omega,hd',hd,h.nu,h.n⟩
 rw[←hm7];exact (cp o1).trans bB
theorem rV (h:Rd m r u L a):CT 10 [.ptr r 0] m [r] L fun v m'=>(∃v1 v2 v3,v= .agg [v1,v2,v3])/\Chg [r] m m':=by
 intro E K hE hK
 refine WF.of_wpG (fun _=>rfl) qB (L:= [(.e,.ptr r 0)]) rfl ?_
 unfold yB
 generalize hm1:hp [(.n 1,.cells true [.nils,.nils,.nils]),(.n 0,.cells true [.nils,.nils,.nils])] 2 m=m1
 have hC1:Chg [] m m1:=bS hm1 rfl
 have p1:Pi r (na m 0) (na m 1) u L m m1 a .nils .nils .nils [] []:=
  ⟨h.grow hC1,cZ hm1,dg hm1 (by omega),cZ hm1,dg hm1 (by omega),hC1.weak (by simp),c9.nil,c9.nil,by simp,by simp[ids],by simp[ids],h.s.old,h.o.ne 0,h.o.ne 1,by simp[eI],h.o,aQ,aQ⟩
 simp (config:={maxSteps:=1000000}) (disch:=first|assumption|omega|(apply ab;omega)|(apply aa;assumption)|(simp only[aq]<;>omega)) only[go_sem,seval,hm1]
 clear hm1
 have hz0:na m 0=na m 0:=rfl
 generalize na m 0=n0,na m 1=n1 at p1 ⊢
 clear hz0
 refine Nm.W.loop (fun k dy=>∃T M a' b vc vt vr C D,dy=⟨T, [],none,M⟩/\NT.get D4.e T=some (.ptr r 0)/\NT.get D4.e.b T=some (.ptr n0 0)/\NT.get D4.e.c T=some (.ptr n1 0)/\NT.get D4.e.f T=some (.bool b)/\a'+k=L.length/\Pi r n0 n1 u L m M a' vc vt vr C D) ?_ (L.length - a) _
  ⟨_,m1,a,false,.nils,.nils,.nils, [], [],rfl,by simp only[go_sem,seval],by simp only[go_sem,seval],by simp only[go_sem,seval],by simp only[go_sem,seval],by have:=h.a;omega,p1⟩
 rintro k dy ⟨T,M,a1,b,vc,vt,vr,C,D,rfl,t1,t2,t3,t4,hk,hI⟩
 apply bu
 unfold rb
 change wp _ _ _ _ ⟨ap [] T, [],none,M⟩ _
 obtain ⟨x,hx⟩:=hI.h.tok
 obtain ⟨m2,r2,hC2⟩:=lm hI.h hx
 unfold Tok.l at r2
 have i2:=hI.to (hI.h.grow hC2) (hC2.weak (by simp)) (Nat.le_refl _)
 by_cases h5:x.k=5
 ·rw[h5] at r2
  have g0:=i2.g0
  have g1:=i2.g1
  have o0:=i2.o0
  have o1:=i2.o1
  simp (config:={maxSteps:=1000000}) (disch:=first|assumption|omega|(apply ab;omega)|(apply aa;assumption)|(simp only[aq]<;>omega)) only[go_sem,seval,t1,t2,t3,t4,r2.wf,g1,g0]
  refine hK _ _ ⟨⟨_,_,_,rfl⟩,i2.c.trans (T:= [n0]) (aX rfl) fun i hi ho=>(i2.n.2.2.2.2.1 (one hi▸ho)).elim⟩
 obtain ⟨b1,m3,r3,i3⟩:=i2.take (k:=4) (by omega) [99,101,108,108]
 have r3:rT 13 [.ptr r 0,ii 4,.str [99,101,108,108]] m2 (.bool b1) m3:=r3
 cases b1 with
 |true=>
  have i3:Pi r n0 n1 u L m m3 (a1+1) vc vt vr C D:=i3
  have g1:=i3.g1
  have o1:=i3.o1
  simp (config:={maxSteps:=1000000}) (disch:=first|assumption|omega|(apply ab;omega)|(apply aa;assumption)|(simp only[aq]<;>omega)) only[go_sem,seval,t1,t2,t3,t4,r2.wf',h5,r3.wf',g1]
  refine xU i3.h E _ (i3.e hE) ?_
  rintro _ m4 ⟨⟨v1,v2,rfl⟩,⟨a4,ha4,h4⟩,hC4⟩
  have i4:=i3.to h4 hC4 (by omega)
  have g4:=i4.g1
  have o4:=i4.o1
  have hs:=i4.pc.sl.same (n:=3)
  rw[←ag m4]
  simp (config:={maxSteps:=1000000}) (disch:=first|assumption|omega|(apply ab;omega)|(apply aa;assumption)|(simp only[aq]<;>omega)) only[go_sem,seval,t1,t2,t3,t4,g4,hs]
  generalize hm5:hp _ 1 m4=m5
  have hC5:Chg [] m4 m5:=bS hm5 rfl
  have i5:Pi r n0 n1 u L m m5 a4 vc vt vr C D:=i4.to (i4.h.grow hC5) (hC5.weak (by simp)) (Nat.le_refl _)
  have hlen:C.length+1+D.length<=a4:=by have:=i2.len;omega
  have gx:m5.get (na m4 0)=some (.cells true [v1,v2]):=cZ hm5
  obtain ⟨v',m6,q1,g6,o6,hv',q2⟩:=i5.appC gx (dg hm5 (by omega)) rfl hlen
  rw[←ag m6] at q1
  simp (config:={maxSteps:=1000000}) (disch:=first|assumption|omega|(apply ab;omega)|(apply aa;assumption)|(simp only[aq]<;>omega)) only[go_sem,seval,t1,t2,t3,t4,q1,g6,hv']
  generalize hm7:hp _ 0 m6=m7
  have i7:=q2 _ _ hm7
  exact ⟨L.length - a4,by have:=i3.h.a;omega,_,m7,a4,b,v',vt,vr,C++ [[v1,v2]],D,by rfl,by simp only[go_sem,seval,t1],by simp only[go_sem,seval,t2],by simp only[go_sem,seval,t3],by simp only[go_sem,seval,t4],by have:=i7.h.a;omega,i7⟩
 |false=>
 have i3:Pi r n0 n1 u L m m3 a1 vc vt vr C D:=i3
 obtain ⟨b2,m4,r4,i4⟩:=i3.take (k:=4) (by omega) [116,104,114,101,97,100]
 have r4:rT 13 [.ptr r 0,ii 4,.str [116,104,114,101,97,100]] m3 (.bool b2) m4:=r4
 cases b2 with
 |true=>
  have i4:Pi r n0 n1 u L m m4 (a1+1) vc vt vr C D:=i4
  simp (config:={maxSteps:=1000000}) (disch:=first|assumption|omega|(apply ab;omega)|(apply aa;assumption)|(simp only[aq]<;>omega)) only[go_sem,seval,t1,t2,t3,t4,r2.wf',h5,r3.wf',r4.wf']
  refine dT i4.h (k:=1) (by omega) E _ (i4.e hE) ?_
  rintro _ m5 ⟨⟨y,rfl⟩,h5',hC5⟩
  have i5:Pi r n0 n1 u L m m5 (a1+1+1) vc vt vr C D:=i4.to h5' hC5 (by omega)
  have g5:=i5.g1
  have o5:=i5.o1
  simp (config:={maxSteps:=1000000}) (disch:=first|assumption|omega|(apply ab;omega)|(apply aa;assumption)|(simp only[aq]<;>omega)) only[go_sem,seval,t1,t2,t3,t4,Tok.l,g5]
  refine qu 30 m5 _ 0 i5.h (by omega) (by omega) E _ (i5.e hE) ?_
  rintro w m6 ⟨hw,⟨a6,ha6,h6⟩,hC6⟩
  have i6:Pi r n0 n1 u L m m6 a6 vc vt vr C D:=i5.to h6 hC6 (by omega)
  have g6:=i6.g1
  have o6:=i6.o1
  have hs:=i6.pt.sl.same (n:=3)
  rw[←ag m6]
  simp (config:={maxSteps:=1000000}) (disch:=first|assumption|omega|(apply ab;omega)|(apply aa;assumption)|(simp only[aq]<;>omega)) only[go_sem,seval,t1,t2,t3,t4,g6,hs,hw]
  generalize hm7:hp _ 1 m6=m7
  have hC7:Chg [] m6 m7:=bS hm7 rfl
  have i7:Pi r n0 n1 u L m m7 a6 vc vt vr C D:=i6.to (i6.h.grow hC7) (hC7.weak (by simp)) (Nat.le_refl _)
  have hlen:C.length+1+D.length<=a6:=by have:=i2.len;omega
  have gx:m7.get (na m6 0)=some (.cells true [.str y.t,w]):=cZ hm7
  obtain ⟨v',m8,q1,g8,o8,hv',q2⟩:=i7.appT gx (dg hm7 (by omega)) rfl hlen
  rw[←ag m8] at q1
  simp (config:={maxSteps:=1000000}) (disch:=first|assumption|omega|(apply ab;omega)|(apply aa;assumption)|(simp only[aq]<;>omega)) only[go_sem,seval,t1,t2,t3,t4,q1,g8,hv']
  generalize hm9:hp _ 0 m8=m9
  have i9:=q2 _ _ hm9
  exact ⟨L.length - a6,by have:=i4.h.a;omega,_,m9,a6,b,vc,v',vr,C,D++ [[.str y.t,w]],by rfl,by simp only[go_sem,seval,t1],by simp only[go_sem,seval,t2],by simp only[go_sem,seval,t3],by simp only[go_sem,seval,t4],by have:=i9.h.a;omega,i9⟩
 |false=>
 have i4:Pi r n0 n1 u L m m4 a1 vc vt vr C D:=i4
 obtain ⟨x4,hx4⟩:=i4.h.tok
 obtain ⟨m5,r5,hC5⟩:=yo i4.h hx4 4 [114,101,99,111,118,101,114]
 have r5:rT 17 [.ptr r 0,ii 4,.str [114,101,99,111,118,101,114]] m4 (.bool (decide (x4.k=4/\x4.t= [114,101,99,111,118,101,114]))) m5:=r5
 have i5:Pi r n0 n1 u L m m5 a1 vc vt vr C D:=i4.to (i4.h.grow hC5) (hC5.weak (by simp)) (Nat.le_refl _)
 cases b with
 |true=>
  cases hd:decide (x4.k=4/\x4.t= [114,101,99,111,118,101,114]) with
  |true=>
   rw[hd] at r5
   simp (config:={maxSteps:=1000000}) (disch:=first|assumption|omega|(apply ab;omega)|(apply aa;assumption)|(simp only[aq]<;>omega)) only[go_sem,seval,t1,t2,t3,t4,r2.wf',h5,r3.wf',r4.wf',r5.wf',(dV i5.h 5).wf]
   exact i5.e hE _ _ (bR.here (e:=5) i5.h (by omega) ((Chg.refl _).weak (by simp)))
  |false=>
   rw[hd] at r5
   obtain ⟨b6,m6,r6,i6⟩:=i5.take (k:=4) (by omega) [114,101,99,111,118,101,114]
   have r6:rT 13 [.ptr r 0,ii 4,.str [114,101,99,111,118,101,114]] m5 (.bool b6) m6:=r6
   cases b6 with
   |true=>
    have i6:Pi r n0 n1 u L m m6 (a1+1) vc vt vr C D:=i6
    simp (config:={maxSteps:=1000000}) (disch:=first|assumption|omega|(apply ab;omega)|(apply aa;assumption)|(simp only[aq]<;>omega)) only[go_sem,seval,t1,t2,t3,t4,r2.wf',h5,r3.wf',r4.wf',r5.wf',r6.wf']
    refine qu 30 m6 _ 0 i6.h (by omega) (by omega) E _ (i6.e hE) ?_
    rintro w m7 ⟨hw,⟨a7,ha7,h7⟩,hC7⟩
    have i7:Pi r n0 n1 u L m m7 a7 vc vt vr C D:=i6.to h7 hC7 (by omega)
    have g7:=i7.g1
    have o7:=i7.o1
    rw[←ag m7]
    simp (config:={maxSteps:=1000000}) (disch:=first|assumption|omega|(apply ab;omega)|(apply aa;assumption)|(simp only[aq]<;>omega)) only[go_sem,seval,t1,t2,t3,t4,g7,hw]
    generalize hm8:hp _ 0 m7=m8
    have i8:=i7.set hm8 rfl i7.pc i7.pt i7.len i7.d i7.dt
    exact ⟨L.length - a7,by have:=i6.h.a;omega,_,m8,a7,true,vc,vt,w,C,D,by rfl,by simp only[go_sem,seval,t1],by simp only[go_sem,seval,t2],by simp only[go_sem,seval,t3],by simp only[go_sem,seval],by have:=i8.h.a;omega,i8⟩
   |false=>
    have i6:Pi r n0 n1 u L m m6 a1 vc vt vr C D:=i6
    simp (config:={maxSteps:=1000000}) (disch:=first|assumption|omega|(apply ab;omega)|(apply aa;assumption)|(simp only[aq]<;>omega)) only[go_sem,seval,t1,t2,t3,t4,r2.wf',h5,r3.wf',r4.wf',r5.wf',r6.wf',(dV i6.h 2).wf]
    exact i6.e hE _ _ (bR.here (e:=2) i6.h (by omega) ((Chg.refl _).weak (by simp)))
 |false=>
  obtain ⟨b6,m6,r6,i6⟩:=i4.take (k:=4) (by omega) [114,101,99,111,118,101,114]
  have r6:rT 13 [.ptr r 0,ii 4,.str [114,101,99,111,118,101,114]] m4 (.bool b6) m6:=r6
  cases b6 with
  |true=>
   have i6:Pi r n0 n1 u L m m6 (a1+1) vc vt vr C D:=i6
   simp (config:={maxSteps:=1000000}) (disch:=first|assumption|omega|(apply ab;omega)|(apply aa;assumption)|(simp only[aq]<;>omega)) only[go_sem,seval,t1,t2,t3,t4,r2.wf',h5,r3.wf',r4.wf',r6.wf']
   refine qu 30 m6 _ 0 i6.h (by omega) (by omega) E _ (i6.e hE) ?_
   rintro w m7 ⟨hw,⟨a7,ha7,h7⟩,hC7⟩
   have i7:Pi r n0 n1 u L m m7 a7 vc vt vr C D:=i6.to h7 hC7 (by omega)
   have g7:=i7.g1
   have o7:=i7.o1
   rw[←ag m7]
   simp (config:={maxSteps:=1000000}) (disch:=first|assumption|omega|(apply ab;omega)|(apply aa;assumption)|(simp only[aq]<;>omega)) only[go_sem,seval,t1,t2,t3,t4,g7,hw]
   generalize hm8:hp _ 0 m7=m8
   have i8:=i7.set hm8 rfl i7.pc i7.pt i7.len i7.d i7.dt
   exact ⟨L.length - a7,by have:=i6.h.a;omega,_,m8,a7,true,vc,vt,w,C,D,by rfl,by simp only[go_sem,seval,t1],by simp only[go_sem,seval,t2],by simp only[go_sem,seval,t3],by simp only[go_sem,seval],by have:=i8.h.a;omega,i8⟩
  |false=>
   have i6:Pi r n0 n1 u L m m6 a1 vc vt vr C D:=i6
   simp (config:={maxSteps:=1000000}) (disch:=first|assumption|omega|(apply ab;omega)|(apply aa;assumption)|(simp only[aq]<;>omega)) only[go_sem,seval,t1,t2,t3,t4,r2.wf',h5,r3.wf',r4.wf',r6.wf',(dV i6.h 2).wf]
   exact i6.e hE _ _ (bR.here (e:=2) i6.h (by omega) ((Chg.refl _).weak (by simp)))
end
section
variable {P:Program} {S:Nat->List NV->Option NV}
theorem dl.dfr {x:NOper} {l:List NOper} (hg:aj t x.guard=some true) (hop:ae x.op t m= .dfr f cap)
 (h:dl P S none l ⟨ay x.dst aA t,.call f cap::dfs,ctx,m⟩ o d1):dl P S none (x::l) ⟨t,dfs,ctx,m⟩ o d1:=by
 obtain ⟨n,hn⟩:=h
 refine ⟨n, ?_⟩
 rw[a8,hg,hop]
 exact hn
theorem dl.recov {x:NOper} {l:List NOper} (hg:aj t x.guard=some true) (hop:ae x.op t m= .recov)
 (h:dl P S none l ⟨ay x.dst (ctx.getD .nili) t,dfs,none,m⟩ o d1):dl P S none (x::l) ⟨t,dfs,ctx,m⟩ o d1:=by
 obtain ⟨n,hn⟩:=h
 refine ⟨n, ?_⟩
 rw[a8,hg,hop]
 cases ctx<;>exact hn
theorem Call.of_dfr  {g:Nat} {nf ng:NFun} {args:List NV} {o2:Out} {d2:Dyn} {p:Option NV} (hs:∀l,S f l=none) (hf:av P f=some (.code nf)) (h:b7 P S none nf.body ⟨bJ args 0 .leaf, [],none,m⟩ o d) (hd:d.dfs= [.call g cap])
 (hp:(p=none/\(o= .norm∨o= .ret))∨∃v,o= .pan v/\p=some v) (hg:av P g=some (.code ng)) (h2:b7 P S none ng.body ⟨bJ cap 0 .leaf, [],p,d.h⟩ o2 d2) (ho2:o2= .norm∨o2= .ret) (hd2:d2.dfs= []) (hc2:d2.ctx=none) (hr2:ng.results= [])
 (hv:bE d2.h d.t nf.results .fail (fun l=> .val (ez l) d.ctx d2.h)= .val v d.ctx d2.h):Call P S f args m (.val v d.ctx d2.h):=by
 obtain ⟨n,hn⟩:=h
 obtain ⟨k,hk⟩:=h2
 have hn:=bc (Nat.le_max_left n k) _ _ _ _ _ hn
 have hk:=bc (Nat.le_max_right n k) _ _ _ _ _ hk
 generalize max n k=q at hn hk
 refine ⟨by simp,q, ?_⟩
 unfold bh
 rw[hs]
 dsimp only
 rw[hf]
 dsimp only
 have hcall:bI P (ev P S q) 2 g cap p d.h= .val (.tup []) none d2.h:=by
  rw[bV,hg]
  dsimp only
  rw[hk]
  rcases ho2 with rfl|rfl<;>(dsimp only;rw[hd2];show bE d2.h d2.t ng.results .fail (fun l=> .val (ez l) d2.ctx d2.h)=_;rw[hr2,hc2];rfl)
 rw[bV,hf]
 dsimp only
 rw[hn]
 have key:∀(p:Option NV),bI P (ev P S q) 2 g cap p d.h= .val (.tup []) none d2.h->unwind (bI P (ev P S q) 2) (finish nf.results d) d.dfs p d.h= .val v d.ctx d2.h:=by
  intro p hc
  rw[hd]
  show (match bI P (ev P S q) 2 g cap p d.h with| .val _ p h=>finish nf.results d p h|_=>CR.fail)=_
  rw[hc]
  exact hv
 rcases hp with ⟨rfl,rfl|rfl⟩|⟨v',rfl,rfl⟩
 ·exact key _ hcall
 ·exact key _ hcall
 ·exact key _ hcall
end
section
variable {m m' m0:NH} {r s:D4} {u:NV} {L:List Tok} {a a':Nat} {x:Tok} {T T':List D4} {E:NV->NH->Prop}
theorem tA (m:NH) (e a:Int):∃m',rT 9 [.ifc 40 (.agg [ii e,ii a])] m (.agg [ii e,ii a]) m'/\Chg [] m m':=by
 refine WF.ex1 fun K hK=> ?_
 refine WF.of_wpG (fun _=>rfl) tJ (L:= [(.e,.ifc 40 (.agg [ii e,ii a]))]) rfl ?_
 unfold Ex
 simp (config:={maxSteps:=1000000}) (disch:=first|assumption|omega|(apply ab;omega)|(apply aa;assumption)|(simp only[aq]<;>omega)) only[go_sem,seval]
 exact hK _ (aX rfl)
end
def RW (c:NC) (d:Dyn) (R:Out->Dyn->Prop):Prop:=∃o d',b7 Try.prog S0 none c d o d'/\R o d'
theorem RW.of_wp {a b:NC} (h:wp Try.prog S0 none a d (iu (fun d=>RW b d R) R)):RW (.seq a b) d R:=by
 obtain ⟨o,d1,h1,h2⟩:=bu _ _ _ h
 cases o with
 |norm=>obtain ⟨o,d2,h3,h4⟩:=h2;exact ⟨o,d2,b7.seq h1 h3,h4⟩
 |pan v=>exact h2.2.elim
 |ret=>exact ⟨_,_,b7.seq_out h1 (by simp),h2⟩
 |exit i=>exact ⟨_,_,b7.seq_out h1 (by simp),h2⟩
theorem RW.run {a b:NC} (h1:b7 Try.prog S0 none a d .norm d1) (h:RW b d1 R):RW (.seq a b) d R:=by
 obtain ⟨o,d2,h3,h4⟩:=h;exact ⟨o,d2,b7.seq h1 h3,h4⟩
theorem RW.pan {a b:NC} (h1:b7 Try.prog S0 none a d (.pan v) d1) (h:R (.pan v) d1):RW (.seq a b) d R:=⟨_,_,b7.seq_out h1 (by simp),h⟩
theorem RW.wp {a:NC} (h:Nm.wp Try.prog S0 none a d R):RW a d R:=by
 obtain ⟨o,d1,h1,h2⟩:=bu _ _ _ h
 cases o with
 |pan v=>exact h2.2.elim
 |_=>exact ⟨_,_,h1,h2⟩
section
variable {m m' m0 M:NH} {r s bl bp ba be:D4} {u:NV} {L:List Tok} {a a':Nat} {x:Tok} {T T':List D4} {E:NV->NH->Prop}
theorem tN:RW AW.body ⟨bJ [.ptr bl 0,.ptr bp 0,.ptr ba 0,.ptr be 0] 0 .leaf, [],none,M⟩ fun o d=>(o= .norm∨o= .ret)/\d.dfs= []/\d.ctx=none/\d.h=M:=by
 unfold AW
 refine RW.run (b7.reg (dl.recov rfl rfl (dl.val rfl rfl (dl.nil _)))) ?_
 apply RW.wp
 change Nm.wp _ _ _ _ ⟨ap [(D4.e.f,.nili),(D4.e.a.b,.nili),(.c .e,.ptr be 0),(.b .e,.ptr ba 0),(.a .e,.ptr bp 0),(.e,.ptr bl 0)] .leaf, [],none,M⟩ _
 have hb:da .ifc .neq .nili .nili=some (.bool false):=rfl
 simp (config:={maxSteps:=1000000}) (disch:=first|assumption|omega|(apply ab;omega)|(apply aa;assumption)|(simp only[aq]<;>omega)) only[go_sem,seval,hb]
 simp
theorem uT {e:Int} (ol:aI M bl) (gl:M.get bl=some (.cells true [u])) (op:aI M bp) {p1 p2 p3 w1 w2:NV} (gp:M.get bp=some (.cells true [p1,p2,p3])) (oa:aI M ba) (ga:M.get ba=some (.cells true [w1])) (oe:aI M be) (ge:M.get be=some (.cells true [w2]))
 (hu:Sl M u 4 (L.map Tok.l)) (ha:a<L.length) (hl:L.length<=1000000) {x:Tok} (hx:L[a]? =some x) (n1:bp≠ba) (n2:bp≠be) (n3:ba≠be) (n4:bl≠bp) (n5:bl≠ba) (n6:bl≠be) (hn:∀i∈ids u,i≠bp/\i≠ba/\i≠be):
 RW AW.body ⟨bJ [.ptr bl 0,.ptr bp 0,.ptr ba 0,.ptr be 0] 0 .leaf, [],some (.ifc 40 (.agg [ii e,ii a])),M⟩ fun o d=>(o= .norm∨o= .ret)/\d.dfs= []/\d.ctx=none/\
  d.h.get bp=some (.cells true [.nils,.nils,.nils])/\d.h.get ba=some (.cells true [ii x.p])/\d.h.get be=some (.cells true [ii e]):=by
 unfold AW
 refine RW.run (b7.reg (dl.recov rfl rfl (dl.val rfl rfl (dl.nil _)))) ?_
 apply RW.wp
 generalize hv:(NV.ifc 40 (.agg [ii e,ii a]))=v
 change Nm.wp _ _ _ _ ⟨ap [(D4.e.f,v),(D4.e.a.b,v),(.c .e,.ptr be 0),(.b .e,.ptr ba 0),(.a .e,.ptr bp 0),(.e,.ptr bl 0)] .leaf, [],none,M⟩ _
 have hb:da .ifc .neq v .nili=some (.bool true):=by rw[←hv];rfl
 obtain ⟨m1,r1,hC1⟩:=tA M e a
 rw[hv] at r1
 have ol1:=hC1.old ol
 have op1:=hC1.old op
 have oa1:=hC1.old oa
 have oe1:=hC1.old oe
 have gl1:=(hC1.get ol (by simp)).trans gl
 have gp1:=(hC1.get op (by simp)).trans gp
 have ga1:=(hC1.get oa (by simp)).trans ga
 have ge1:=(hC1.get oe (by simp)).trans ge
 have hu1:=hu.chg hC1 (by simp)
 have hlen:=hu1.len
 rw[List.length_map] at hlen
 obtain ⟨id,off,wr,cs,a1,a2,a3,a4,a5⟩:=hu1.at a (by simpa using ha)
 rw[List.getElem_map] at a5
 have hxe:L[a]=x:=by rw[List.getElem?_eq_getElem ha] at hx;exact Option.some.inj hx
 rw[hxe] at a5
 unfold Tok.l at a5
 have c3:cs[off+3]? =some (ii x.p):=by have:=qn a5 3 (by omega);rw[this];rfl
 have hs:=hu1.same (n:=3)
 have hid:id∈ids u:=by
  rcases hu1.2 with ⟨rfl,h0⟩|⟨i0,o0,kc,w,c,rfl,-⟩
  ·have:=List.map_eq_nil_iff.1 h0
   rw[this] at ha;exact Fy ha (by simp)
  ·have e1:=qo (n:=4) (id:=i0) (off:=o0) (e:=4) (kc:=kc) (len:=(L.map Tok.l).length) (ik:= .i64) (z:=(a:Int)) (by omega) (by rw[List.length_map];omega)
   have a1':=e1.symm.trans a1
   cases a1'
   simp[ids]
 obtain ⟨d1,d2,d3⟩:=hn id hid
 have n1':=n1.symm
 have n2':=n2.symm
 have n3':=n3.symm
 have n4':=n4.symm
 have n5':=n5.symm
 have n6':=n6.symm
 have hmin:min (a:Int) ((L.length:Int) - 1)=a:=by omega
 simp (config:={maxSteps:=1000000}) (disch:=first|assumption|omega|(apply ab;omega)|(apply aa;assumption)|(simp only[aq]<;>omega)) only[go_sem,seval,hb,r1.wf,gl1,gp1,ga1,ge1,hlen,hmin,a1,a2,c3,hs]
 exact Or.inl trivial
end
section
variable {m m' m0 M:NH} {r s bl bp ba be:D4} {u:NV} {L:List Tok} {a a':Nat} {x:Tok} {T T':List D4} {E:NV->NH->Prop}
theorem Ea {x:NOpd} (h:ρ t x=some (.fn f cap)):ae (.defer x) t m= .dfr f cap:=by
 show wV t x _=_
 rw[bn,h];rfl
structure ProgE (bl bp ba be:D4) (L:List Tok) (n:Nat) (o:Out) (d:Dyn):Prop where
 dfs:d.dfs= [.call 8 [.ptr bl 0,.ptr bp 0,.ptr ba 0,.ptr be 0]]
 ctx:d.ctx=none
 t1:NT.get D4.e.b d.t=some (.ptr bp 0)
 t2:NT.get D4.e.c d.t=some (.ptr ba 0)
 t3:NT.get D4.e.f d.t=some (.ptr be 0)
 h:((o= .norm∨o= .ret)/\∃p1 p2 p3,d.h.get bp=some (.cells true [p1,p2,p3])/\d.h.get ba=some (.cells true [ii n])/\d.h.get be=some (.cells true [ii 0]))∨
  ∃(e:Int) (a:Nat) (u:NV) (x:Tok),o= .pan (.ifc 40 (.agg [ii e,ii a]))/\e≠0/\a<L.length/\L[a]? =some x/\aI d.h bl/\d.h.get bl=some (.cells true [u])/\aI d.h bp/\(∃p1 p2 p3,d.h.get bp=some (.cells true [p1,p2,p3]))/\aI d.h ba/\(∃w,d.h.get ba=some (.cells true [w]))/\aI d.h be/\(∃w,d.h.get be=some (.cells true [w]))/\Sl d.h u 4 (L.map Tok.l)/\(∀i∈ids u,i≠bp/\i≠ba/\i≠be)
theorem uj {b:List Nat} {bv:NV} (hb:Sl m bv 1 (tc b)) (hl:L.length<=1000000) (h0:0<L.length) (hk:∀(i:Nat) (x:Tok),L[i]? =some x->(x.k=5↔i+1=L.length)) (hbb:∀(i:Nat) (x:Tok),L[i]? =some x->∀c∈x.t,c<256)
 (hT:∀m,Sl m bv 1 (tc b)->∃u m',rT 7 [bv] m (.tup [u,ii b.length,ii 0]) m'/\c9 m m' u 4 (L.map Tok.l)/\Chg [] m m'):
 ∃bl bp ba be,(bp≠ba/\bp≠be/\ba≠be/\bl≠bp/\bl≠ba/\bl≠be)/\RW Du.body ⟨bJ [bv] 0 .leaf, [],none,m⟩ (ProgE bl bp ba be L b.length):=by
 generalize hM1:hp [(.n 2,.cells true [.int .i64 (.lit 0)]),(.n 1,.cells true [.int .i64 (.lit 0)]),(.n 0,.cells true [.nils,.nils,.nils])] 3 m=M1
 have hC1:Chg [] m M1:=bS hM1 rfl
 obtain ⟨u,M2,r2,ho,hC2⟩:=hT M1 (hb.chg hC1 (by simp))
 have a0:aI M1 (na m 0):=dg hM1 (by omega)
 have a1:aI M1 (na m 1):=dg hM1 (by omega)
 have a2:aI M1 (na m 2):=dg hM1 (by omega)
 have b0:=hC2.old a0
 have b1:=hC2.old a1
 have b2:=hC2.old a2
 have g0:M2.get (na m 0)=some (.cells true [.nils,.nils,.nils]):=(hC2.get a0 (by simp)).trans (cZ hM1)
 have g1:M2.get (na m 1)=some (.cells true [.int .i64 (.lit 0)]):=(hC2.get a1 (by simp)).trans (cZ hM1)
 have g2:M2.get (na m 2)=some (.cells true [.int .i64 (.lit 0)]):=(hC2.get a2 (by simp)).trans (cZ hM1)
 have n01:na m 0≠na m 1:=by simp[eI]
 have n02:na m 0≠na m 2:=by simp[eI]
 have n12:na m 1≠na m 2:=by simp[eI]
 have n10:=n01.symm
 have n20:=n02.symm
 have n21:=n12.symm
 have l0:=b0.ne 0
 have l1:=b1.ne 0
 have l2:=b2.ne 0
 refine ⟨na M2 0,na m 0,na m 1,na m 2,⟨n01,n02,n12,l0.symm,l1.symm,l2.symm⟩, ?_⟩
 unfold Du
 generalize hR:ProgE (na M2 0) (na m 0) (na m 1) (na m 2) L b.length=R
 refine RW.of_wp ?_
 change wp _ _ _ _ ⟨ap [(D4.e,bv)] .leaf, [],none,m⟩ _
 rw[←ag m]
 simp (config:={maxSteps:=1000000}) (disch:=first|assumption|omega|(apply ab;omega)|(apply aa;assumption)|(simp only[aq]<;>omega)) only[go_sem,seval]
 refine RW.of_wp ?_
 have hu:=ho.sl.one
 simp (config:={maxSteps:=1000000}) (disch:=first|assumption|omega|(apply ab;omega)|(apply aa;assumption)|(simp only[aq]<;>omega)) only[go_sem,seval,hM1,r2.wf,g0,g1,g2,hu]
 refine RW.of_wp ?_
 simp (config:={maxSteps:=1000000}) (disch:=first|assumption|omega|(apply ab;omega)|(apply aa;assumption)|(simp only[aq]<;>omega)) only[go_sem,seval,g0,g1,g2]
 generalize hM3:hp _ 1 M2=M3
 generalize hTT:ap _ NT.leaf=TT
 have q0:NT.get D4.e TT=some bv:=by rw[←hTT];exact gq rfl
 have q1:NT.get D4.e.a.a TT=some (.ptr (na M2 0) 0):=by rw[←hTT];exact gq rfl
 have q2:NT.get D4.e.b TT=some (.ptr (na m 0) 0):=by rw[←hTT];exact gq rfl
 have q3:NT.get D4.e.c TT=some (.ptr (na m 1) 0):=by rw[←hTT];exact gq rfl
 have q4:NT.get D4.e.f TT=some (.ptr (na m 2) 0):=by rw[←hTT];exact gq rfl
 clear hTT
 have hC3:Chg [na m 2,na m 1] M2 M3:=bS hM3 rfl
 have k0:M3.get (na M2 0)=some (.cells true [u]):=cZ hM3
 have e0:aI M3 (na M2 0):=dg hM3 (by omega)
 change RW _ ⟨ap [] TT, [],none,M3⟩ _
 have hd:ρ (ap [(D4.e.f.b,NV.fn 8 [.ptr (na M2 0) 0,.ptr (na m 0) 0,.ptr (na m 1) 0,.ptr (na m 2) 0])] TT) (.tmp D4.e.f.b)=some (NV.fn 8 [.ptr (na M2 0) 0,.ptr (na m 0) 0,.ptr (na m 1) 0,.ptr (na m 2) 0]):=(show NT.get D4.e.f.b _=_ from gq rfl)
 have hf:ae (.mkFn 8 [.tmp D4.e.a.a,.tmp D4.e.b,.tmp D4.e.c,.tmp D4.e.f]) (ap [] TT) M3= .val (NV.fn 8 [.ptr (na M2 0) 0,.ptr (na m 0) 0,.ptr (na m 1) 0,.ptr (na m 2) 0]):=by (simp (config:={maxSteps:=1000000}) (disch:=first|assumption|omega|(apply ab;omega)|(apply aa;assumption)|(simp only[aq]<;>omega)) only[go_sem,seval,q1,q2,q3,q4])
 refine RW.run (d1:=⟨ap [(D4.e.f.b,.fn 8 [.ptr (na M2 0) 0,.ptr (na m 0) 0,.ptr (na m 1) 0,.ptr (na m 2) 0])] TT, [.call 8 [.ptr (na M2 0) 0,.ptr (na m 0) 0,.ptr (na m 1) 0,.ptr (na m 2) 0]],none,M3⟩) (b7.reg (dl.val rfl hf (dl.dfr rfl (Ea hd) (dl.nil _)))) ?_
 refine RW.of_wp ?_
 rw[←ag M3]
 simp (config:={maxSteps:=1000000}) (disch:=first|assumption|omega|(apply ab;omega)|(apply aa;assumption)|(simp only[aq]<;>omega)) only[go_sem,seval,q0,q1,q2,q3,q4,k0,hu]
 generalize hM4:hp _ 1 M3=M4
 generalize hT2:ap _ TT=T2
 have t0:NT.get D4.e T2=some bv:=by rw[←hT2];exact gq q0
 have t1:NT.get D4.e.a.b T2=some (.ptr (na M3 0) 0):=by rw[←hT2];exact gq rfl
 have t2:NT.get D4.e.b T2=some (.ptr (na m 0) 0):=by rw[←hT2];exact gq q2
 have t3:NT.get D4.e.c T2=some (.ptr (na m 1) 0):=by rw[←hT2];exact gq q3
 have t4:NT.get D4.e.f T2=some (.ptr (na m 2) 0):=by rw[←hT2];exact gq q4
 clear hT2
 have hC4:Chg [] M3 M4:=bS hM4 rfl
 have nu:∀i∈ids u,¬aI M1 i:=ho.new
 have j0:M3.get (na m 0)=some (.cells true [.nils,.nils,.nils]):=(hC3.get b0 (by simp[eI])).trans g0
 have j1:M3.get (na m 1)=some (.cells true [ii b.length]):=by rw[←hM3];simp (config:={maxSteps:=1000000}) (disch:=first|assumption|omega|(apply ab;omega)|(apply aa;assumption)|(simp only[aq]<;>omega)) only[go_sem,seval]
 have j2:M3.get (na m 2)=some (.cells true [ii 0]):=by rw[←hM3];simp (config:={maxSteps:=1000000}) (disch:=first|assumption|omega|(apply ab;omega)|(apply aa;assumption)|(simp only[aq]<;>omega)) only[go_sem,seval]
 have hu3:Sl M3 u 4 (L.map Tok.l):=ho.sl.chg hC3 fun i hi q=>by
  simp only[FE,FD,or_false] at q
  rcases q with rfl|rfl
  ·exact nu _ hi a2
  ·exact nu _ hi a1
 have rd:Rd M4 (na M3 0) u L 0:=⟨cZ hM4,dg hM4 (by omega),hu3.chg hC4 (by simp),fun q=>aQ (hu3.old _ q),hl,hk,h0,hbb⟩
 have z0:=hC3.old b0
 have z1:=hC3.old b1
 have z2:=hC3.old b2
 have s0:∀{i:D4},aI M3 i->i∉ [na M3 0]:=fun hi q=>hi.ne 0 (one q)
 have hW:=rV rd (fun v m'=>bR [na M3 0] L M4 v m') (fun v m'=>(∃v1 v2 v3,v= .agg [v1,v2,v3])/\Chg [na M3 0] M4 m') (fun v m' h=>h) (fun v m' h=>h)
 have keep:∀M',Chg [na M3 0] M4 M'->M'.get (na M2 0)=some (.cells true [u])/\aI M' (na M2 0)/\M'.get (na m 0)=some (.cells true [.nils,.nils,.nils])/\aI M' (na m 0)/\M'.get (na m 1)=some (.cells true [ii b.length])/\aI M' (na m 1)/\M'.get (na m 2)=some (.cells true [ii 0])/\aI M' (na m 2):=fun M' hC=>
  ⟨(hC.get (hC4.old e0) (s0 e0)).trans ((hC4.get e0 (by simp)).trans k0),hC.old (hC4.old e0),(hC.get (hC4.old z0) (s0 z0)).trans ((hC4.get z0 (by simp)).trans j0),hC.old (hC4.old z0),(hC.get (hC4.old z1) (s0 z1)).trans ((hC4.get z1 (by simp)).trans j1),hC.old (hC4.old z1),(hC.get (hC4.old z2) (s0 z2)).trans ((hC4.get z2 (by simp)).trans j2),hC.old (hC4.old z2)⟩
 rcases hW with ⟨w,c,M5,hc,⟨w1,w2,w3,rfl⟩,hC5⟩|⟨w,c,M5,hc,e,a,rfl,he,ha,hC5⟩
 ·obtain ⟨x1,x2,x3,x4,x5,x6,x7,x8⟩:=keep M5 hC5
  have r5:rT 10 [.ptr (na M3 0) 0] M4 (.agg [w1,w2,w3]) M5:=⟨c,hc⟩
  have hlen:=hb.len
  rw[show (tc b).length=b.length by simp] at hlen
  refine RW.wp ?_
  change wp _ _ _ _ ⟨ap [] T2,_,none,M4⟩ _
  simp (config:={maxSteps:=1000000}) (disch:=first|assumption|omega|(apply ab;omega)|(apply aa;assumption)|(simp only[aq]<;>omega)) only[go_sem,seval,t0,t1,t2,t3,t4,r5.wf,x3,x5,x7,hlen]
  rw[←hR]
  refine ⟨rfl,rfl,gq t2,gq t3,gq t4,Or.inl ⟨Or.inr rfl,w1,w2,w3, ?_, ?_, ?_⟩⟩
  ·simp (config:={maxSteps:=1000000}) (disch:=first|assumption|omega|(apply ab;omega)|(apply aa;assumption)|(simp only[aq]<;>omega)) only[go_sem,seval]
  ·simp (config:={maxSteps:=1000000}) (disch:=first|assumption|omega|(apply ab;omega)|(apply aa;assumption)|(simp only[aq]<;>omega)) only[go_sem,seval]
  ·simp (config:={maxSteps:=1000000}) (disch:=first|assumption|omega|(apply ab;omega)|(apply aa;assumption)|(simp only[aq]<;>omega)) only[go_sem,seval]
 ·obtain ⟨x1,x2,x3,x4,x5,x6,x7,x8⟩:=keep M5 hC5
  have h1:ae (.move (.tmp D4.e.a.b)) T2 M4= .val (.ptr (na M3 0) 0):=by
   change ae _ (ap [] T2) _=_
   simp (config:={maxSteps:=1000000}) (disch:=first|assumption|omega|(apply ab;omega)|(apply aa;assumption)|(simp only[aq]<;>omega)) only[go_sem,seval,t1]
  have h2:ae (.call (C.F 10) [.tmp D4.e.a.a.b]) (ap [(D4.e.a.a.b,.ptr (na M3 0) 0)] T2) M4= .call 10 [.ptr (na M3 0) 0]:=by (simp (config:={maxSteps:=1000000}) (disch:=first|assumption|omega|(apply ab;omega)|(apply aa;assumption)|(simp only[aq]<;>omega)) only[go_sem,seval])
  refine RW.pan (d1:=⟨ap [(D4.e.a.a.b,.ptr (na M3 0) 0)] T2, [.call 8 [.ptr (na M2 0) 0,.ptr (na m 0) 0,.ptr (na m 1) 0,.ptr (na m 2) 0]],none,M5⟩) (b7.reg (dl.val rfl h1 (dl.callp rfl h2 hc))) ?_
  rw[←hR]
  have hu5:Sl M5 u 4 (L.map Tok.l):=(hu3.chg hC4 (by simp)).chg hC5 fun i hi=>s0 (hu3.old i hi)
  refine ⟨rfl,rfl,gq t2,gq t3,gq t4,Or.inr ⟨e,a,u,L[a],rfl,he,ha,List.getElem?_eq_getElem ha,x2,x1,x4,⟨_,_,_,x3⟩,x6,⟨_,x5⟩,x8,⟨_,x7⟩,hu5,fun i hi=> ?_⟩⟩
  exact ⟨fun q=>nu i hi (q▸a0),fun q=>nu i hi (q▸a1),fun q=>nu i hi (q▸a2)⟩
end
theorem ux :∀(L:List Tok) (w:Int),CE s w L->∀(i:Nat) (x:Tok),L[i]? =some x->(x.k=5↔i+1=L.length)/\x.p<=s.length/\∀c∈x.t,c∈s
 | [],_,_,i,x,hx=>by simp at hx
 |y::l,w,⟨h1,h2,h3,h4,h5,h6⟩,0,x,hx=>by
  have e:y=x:=by simpa using hx
  subst e
  refine ⟨h5.trans ?_,h2,fun c hc=> ?_⟩
  ·rw[List.length_cons]
   constructor
   ·rintro rfl;rfl
   ·intro q;exact List.eq_nil_of_length_eq_zero (by omega)
  ·rw[←h4] at hc
   exact List.mem_of_mem_take (List.mem_of_mem_drop hc)
 |y::l,w,⟨h1,h2,h3,h4,h5,h6⟩,i+1,x,hx=>by
  obtain ⟨a,b,c⟩:=ux l y.p h6 i x (by simpa using hx)
  refine ⟨a.trans ?_,b,c⟩
  rw[List.length_cons];omega
theorem qt :∀(L:List Tok) (w:Int),CE s w L->L= []∨w+(L.length:Int)<=s.length
 | [],_,_=>Or.inl rfl
 |y::l,w,⟨h1,h2,h3,h4,h5,h6⟩=>by
  refine Or.inr ?_
  rw[List.length_cons]
  rcases qt l y.p h6 with rfl|h
  ·simp;omega
  ·omega
section
variable {m m' m0 M:NH} {b:List Nat} {v:NV}
theorem AC (hv:Sl m v 1 (tc b)) (hl:b.length<=3000) (hb:∀c∈b,c<256):∃(p1 p2 p3:NV) (at_ e:Int) (m':NH),rT 5 [v] m (.tup [.agg [p1,p2,p3],ii at_,ii e]) m'/\((e=0/\at_=b.length)∨(e≠0/\0<=at_/\at_<=b.length/\p1= .nils/\p2= .nils/\p3= .nils)):=by
 cases ht:(eq b).2 with
 |some a=>
  have ha:a<b.length:=sO b _ _ _ ht
  suffices hh:∃w m',rT 5 [v] m w m'/\w= .tup [.agg [.nils,.nils,.nils],ii a,ii 2] by
   obtain ⟨w,m',h1,rfl⟩:=hh
   exact ⟨_,_,_,_,_,m',h1,Or.inr ⟨by omega,by omega,by omega,rfl,rfl,rfl⟩⟩
  refine WF.ex fun K hK=> ?_
  refine WF.of_wpG (fun _=>rfl) mi (L:= [(.e,v)]) rfl ?_
  unfold Du
  generalize hM1:hp [(.n 2,.cells true [.int .i64 (.lit 0)]),(.n 1,.cells true [.int .i64 (.lit 0)]),(.n 0,.cells true [.nils,.nils,.nils])] 3 m=M1
  have hC1:Chg [] m M1:=bS hM1 rfl
  obtain ⟨w,M2,r2,hw,hC2⟩:=mH M1 (hv.chg hC1 (by simp)) (by omega) hb
  rw[Fz (by omega),ht] at hw
  have hw:w= .tup [.nils,ii a,ii 2]:=hw
  subst hw
  have a0:aI M1 (na m 0):=dg hM1 (by omega)
  have a1:aI M1 (na m 1):=dg hM1 (by omega)
  have a2:aI M1 (na m 2):=dg hM1 (by omega)
  have b0:=hC2.old a0
  have b1:=hC2.old a1
  have b2:=hC2.old a2
  have g0:M2.get (na m 0)=some (.cells true [.nils,.nils,.nils]):=(hC2.get a0 (by simp)).trans (cZ hM1)
  have g1:M2.get (na m 1)=some (.cells true [.int .i64 (.lit 0)]):=(hC2.get a1 (by simp)).trans (cZ hM1)
  have g2:M2.get (na m 2)=some (.cells true [.int .i64 (.lit 0)]):=(hC2.get a2 (by simp)).trans (cZ hM1)
  have n01:na m 0≠na m 1:=by simp[eI]
  have n02:na m 0≠na m 2:=by simp[eI]
  have n12:na m 1≠na m 2:=by simp[eI]
  have n10:=n01.symm
  have n20:=n02.symm
  have n21:=n12.symm
  simp (config:={maxSteps:=1000000}) (disch:=first|assumption|omega|(apply ab;omega)|(apply aa;assumption)|(simp only[aq]<;>omega)) only[go_sem,seval,hM1,r2.wf,g0,g1,g2]
  exact hK _ _ rfl
 |none=>
  obtain ⟨hok,hne⟩:=v9 ht
  have hat:=ux _ _ hok
  have hlen:=(qt _ _ hok).resolve_left hne
  have hpos:0<(eq b).1.length:=List.length_pos_iff.2 hne
  obtain ⟨bl,bp,ba,be,⟨n1,n2,n3,n4,n5,n6⟩,o,d,hrun,hE⟩:=uj (L:=(eq b).1) hv (by omega) hpos (fun i x hx=>(hat i x hx).1) (fun i x hx c hc=>hb c ((hat i x hx).2.2 c hc)) fun M hM=>by
   obtain ⟨w,M2,r2,hw,hC2⟩:=mH M hM (by omega) hb
   rw[Fz (by omega),ht] at hw
   obtain ⟨u,rfl,ho⟩:=hw
   exact ⟨u,M2,r2,ho,hC2⟩
  obtain ⟨e1,e2,t1,t2,t3,⟨ho,p1,p2,p3,g1,g2,g3⟩|⟨e,a,u,x,rfl,he,ha,hx,o1,g1,o2,⟨w1,w2,w3,g2⟩,o3,⟨w4,g3⟩,o4,⟨w5,g4⟩,hu,hd⟩⟩:=hE
  ·obtain ⟨o2,d2,h2,ho2,hd2,hc2,hh⟩:=tN (M:=d.h) (bl:=bl) (bp:=bp) (ba:=ba) (be:=be)
   have hrd:ky (ap [] d.t) d2.h [.cellN D4.e.b 3,.cell1 D4.e.c,.cell1 D4.e.f] (fun l=>l= [.agg [p1,p2,p3],ii b.length,ii 0]):=by
    rw[hh]
    simp (config:={maxSteps:=1000000}) (disch:=first|assumption|omega|(apply ab;omega)|(apply aa;assumption)|(simp only[aq]<;>omega)) only[go_sem,seval,t1,t2,t3,g1,g2,g3]
   obtain ⟨l,q1,q2⟩:=kh _ _ (fun l=>CR.val (ez l) d.ctx d2.h) hrd
   subst q2
   exact ⟨p1,p2,p3,b.length,0,d2.h,⟨_,Call.of_dfr (fun _=>rfl) mi hrun e1 (Or.inl ⟨rfl,ho⟩) pH h2 ho2 hd2 hc2 rfl q1⟩,Or.inl ⟨rfl,rfl⟩⟩
  ·obtain ⟨o2',d2,h2,ho2,hd2,hc2,k1,k2,k3⟩:=uT (M:=d.h) (L:=(eq b).1) (e:=e) o1 g1 o2 g2 o3 g3 o4 g4 hu ha (by omega) hx n1 n2 n3 n4 n5 n6 hd
   have hrd:ky (ap [] d.t) d2.h [.cellN D4.e.b 3,.cell1 D4.e.c,.cell1 D4.e.f] (fun l=>l= [.agg [.nils,.nils,.nils],ii x.p,ii e]):=by
    simp (config:={maxSteps:=1000000}) (disch:=first|assumption|omega|(apply ab;omega)|(apply aa;assumption)|(simp only[aq]<;>omega)) only[go_sem,seval,t1,t2,t3,k1,k2,k3]
   obtain ⟨l,q1,q2⟩:=kh _ _ (fun l=>CR.val (ez l) d.ctx d2.h) hrd
   subst q2
   exact ⟨_,_,_,x.p,e,d2.h,⟨_,Call.of_dfr (fun _=>rfl) mi hrun e1 (Or.inr ⟨_,rfl,rfl⟩) pH h2 ho2 hd2 hc2 rfl q1⟩,Or.inr ⟨he,by omega,by have:=(hat a x hx).2.1;omega,rfl,rfl,rfl⟩⟩
theorem vd (m:NH) (e:Int):rT 6 [ii e] m (ii e) m:=by
 have h:∃v m',rT 6 [ii e] m v m'/\v=ii e/\m'=m:=by
  refine WF.ex fun K hK=> ?_
  refine WF.of_wpG (fun _=>rfl) uz (L:= [(.e,ii e)]) rfl ?_
  unfold EZ
  simp (config:={maxSteps:=1000000}) (disch:=first|assumption|omega|(apply ab;omega)|(apply aa;assumption)|(simp only[aq]<;>omega)) only[go_sem,seval,ag]
  exact hK _ _ ⟨rfl,rfl⟩
 obtain ⟨v,m',h1,rfl,rfl⟩:=h
 exact h1
theorem parsePlaces (m:NH) (l:List NV) (h:TyA Try.prog m [22] l):∃m',rT 3 l m (.bool true) m':=by
 obtain ⟨x2,r2,rfl,h2,h⟩:=h.inv1 (by intro fs q;rw[Try.underlying22] at q;simp at q)
 obtain rfl:=h.inv0
 obtain ⟨vl,b,hx2,hv,hl,hb⟩:=tf h2
 have hxv2:vl=x2:=by simpa using hx2.symm
 subst hxv2
 have hal:∀m,rT 4 [] m (.bool true) m:=fun m=>mF.kept rfl m
 have h:∃v' m',rT 3 [vl] m v' m'/\v'= .bool true:=by
  refine WF.ex fun K hK=> ?_
  refine WF.of_wpG (fun _=>rfl) ph (L:= [(.e,vl)]) rfl ?_
  unfold Ew
  have hlen:=hv.len
  rw[show (tc b).length=b.length by simp] at hlen
  by_cases hn:3000<b.length
  ·simp (config:={maxSteps:=1000000}) (disch:=first|assumption|omega|(apply ab;omega)|(apply aa;assumption)|(simp only[aq]<;>omega)) only[go_sem,seval,ag,(hal _).wf',hlen]
   exact hK _ _ rfl
  obtain ⟨p1,p2,p3,at_,e,m1,r1,hr⟩:=AC hv (by omega) hb
  rcases hr with ⟨rfl,rfl⟩|⟨he,h0,h1,rfl,rfl,rfl⟩
  ·rw[ag]
   simp (config:={maxSteps:=1000000}) (disch:=first|assumption|omega|(apply ab;omega)|(apply aa;assumption)|(simp only[aq]<;>omega)) only[go_sem,seval,(hal _).wf',hlen,r1.wf,(vd _ _).wf']
   exact hK _ _ rfl
  ·rw[ag]
   simp (config:={maxSteps:=1000000}) (disch:=first|assumption|omega|(apply ab;omega)|(apply aa;assumption)|(simp only[aq]<;>omega)) only[go_sem,seval,(hal _).wf',hlen,r1.wf,(vd _ _).wf',he]
   exact hK _ _ rfl
 obtain ⟨v',m',h,rfl⟩:=h
 exact ⟨m',h⟩
end
end LX
