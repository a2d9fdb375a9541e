/- Contracts of functions that the law CheckPrograms reaches, part 1. -/
import Derived.Test.YtcpilcplobihkaaCpU0
open Go Nm Go.Proofs
namespace FR
set_option linter.unusedSimpArgs false
set_option linter.unusedVariables false
def isL (c:Nat):Bool:=decide (97<=c/\c<=122)
def isD (c:Nat):Bool:=decide (48<=c/\c<=57)
def isI (c:Nat):Bool:=isL c||isD c||decide (c=95)
def isB (c:Nat):Bool:=decide (c=32∨c=9∨c=10∨c=13)
theorem letter_r (m:NH) (c:Nat):Ret Try.prog S0 133 [u8 c] m (.bool (isL c)) m:=by
 have h:∃v m',Ret Try.prog S0 133 [u8 c] m v m'/\v= .bool (isL c)/\m'=m:=by
  refine WF.ex fun K hK=> ?_
  refine WF.of_wpG (fun _=>rfl) nf133_eq (L:= [(.e,u8 c)]) rfl ?_
  unfold nf133
  by_cases h1:97<=c
  ·by_cases h2:c<=122
   ·simp (config:={maxSteps:=1000000}) (disch:=(first|assumption|omega|exact old_n (by omega)|exact old_hp (by assumption)|(simp only[nmL]<;>omega))) only[go_sem,seval]
    exact hK _ _ ⟨by simp[isL,h1,h2],hp_nil m⟩
   ·simp (config:={maxSteps:=1000000}) (disch:=(first|assumption|omega|exact old_n (by omega)|exact old_hp (by assumption)|(simp only[nmL]<;>omega))) only[go_sem,seval]
    exact hK _ _ ⟨by simp[isL,h2],hp_nil m⟩
  ·simp (config:={maxSteps:=1000000}) (disch:=(first|assumption|omega|exact old_n (by omega)|exact old_hp (by assumption)|(simp only[nmL]<;>omega))) only[go_sem,seval]
   exact hK _ _ ⟨by simp[isL,h1],hp_nil m⟩
 obtain ⟨v,m',h,rfl,rfl⟩:=h
 exact h
theorem digit_r (m:NH) (c:Nat):Ret Try.prog S0 132 [u8 c] m (.bool (isD c)) m:=by
 have h:∃v m',Ret Try.prog S0 132 [u8 c] m v m'/\v= .bool (isD c)/\m'=m:=by
  refine WF.ex fun K hK=> ?_
  refine WF.of_wpG (fun _=>rfl) nf132_eq (L:= [(.e,u8 c)]) rfl ?_
  unfold nf132
  by_cases h1:48<=c
  ·by_cases h2:c<=57
   ·simp (config:={maxSteps:=1000000}) (disch:=(first|assumption|omega|exact old_n (by omega)|exact old_hp (by assumption)|(simp only[nmL]<;>omega))) only[go_sem,seval]
    exact hK _ _ ⟨by simp[isD,h1,h2],hp_nil m⟩
   ·simp (config:={maxSteps:=1000000}) (disch:=(first|assumption|omega|exact old_n (by omega)|exact old_hp (by assumption)|(simp only[nmL]<;>omega))) only[go_sem,seval]
    exact hK _ _ ⟨by simp[isD,h2],hp_nil m⟩
  ·simp (config:={maxSteps:=1000000}) (disch:=(first|assumption|omega|exact old_n (by omega)|exact old_hp (by assumption)|(simp only[nmL]<;>omega))) only[go_sem,seval]
   exact hK _ _ ⟨by simp[isD,h1],hp_nil m⟩
 obtain ⟨v,m',h,rfl,rfl⟩:=h
 exact h
theorem inside_r (m:NH) (c:Nat):Ret Try.prog S0 131 [u8 c] m (.bool (isI c)) m:=by
 have h:∃v m',Ret Try.prog S0 131 [u8 c] m v m'/\v= .bool (isI c)/\m'=m:=by
  refine WF.ex fun K hK=> ?_
  refine WF.of_wpG (fun _=>rfl) nf131_eq (L:= [(.e,u8 c)]) rfl ?_
  unfold nf131
  have a1:=letter_r m c
  have a2:=digit_r m c
  cases h1:isL c with
  |true=>
   rw[h1] at a1
   simp (config:={maxSteps:=1000000}) (disch:=(first|assumption|omega|exact old_n (by omega)|exact old_hp (by assumption)|(simp only[nmL]<;>omega))) only[go_sem,seval,hp_nil,a1.wf']
   exact hK _ _ ⟨by simp[isI,h1],rfl⟩
  |false=>
   rw[h1] at a1
   cases h2:isD c with
   |true=>
    rw[h2] at a2
    simp (config:={maxSteps:=1000000}) (disch:=(first|assumption|omega|exact old_n (by omega)|exact old_hp (by assumption)|(simp only[nmL]<;>omega))) only[go_sem,seval,hp_nil,a1.wf',a2.wf']
    exact hK _ _ ⟨by simp[isI,h2],rfl⟩
   |false=>
    rw[h2] at a2
    by_cases h3:c=95
    ·simp (config:={maxSteps:=1000000}) (disch:=(first|assumption|omega|exact old_n (by omega)|exact old_hp (by assumption)|(simp only[nmL]<;>omega))) only[go_sem,seval,hp_nil,a1.wf',a2.wf']
     exact hK _ _ ⟨by simp[isI,h3],rfl⟩
    ·simp (config:={maxSteps:=1000000}) (disch:=(first|assumption|omega|exact old_n (by omega)|exact old_hp (by assumption)|(simp only[nmL]<;>omega))) only[go_sem,seval,hp_nil,a1.wf',a2.wf']
     exact hK _ _ ⟨by simp[isI,h1,h2,h3],rfl⟩
 obtain ⟨v,m',h,rfl,rfl⟩:=h
 exact h
def rowN (p:Nat->Bool) (s:List Nat) (a:Nat):Nat:=a+((s.drop a).takeWhile p).length
theorem rowN_yes {p:Nat->Bool} {s:List Nat} {a:Nat} (h:a<s.length) (hp:p s[a]=true):rowN p s a=rowN p s (a+1):=by
 unfold rowN
 rw[List.drop_eq_getElem_cons h,List.takeWhile_cons,if_pos hp,List.length_cons]
 omega
theorem rowN_no {p:Nat->Bool} {s:List Nat} {a:Nat} (h:a<s.length) (hp:p s[a]=false):rowN p s a=a:=by
 unfold rowN
 rw[List.drop_eq_getElem_cons h,List.takeWhile_cons,if_neg (by simp[hp])];rfl
theorem rowN_end {p:Nat->Bool} {s:List Nat} {a:Nat} (h:s.length<=a):rowN p s a=a:=by
 unfold rowN
 rw[List.drop_eq_nil_of_le h];rfl
theorem rowN_ge {p:Nat->Bool} {s:List Nat} {a:Nat}:a<=rowN p s a:=by unfold rowN;omega
theorem rowN_le {p:Nat->Bool} {s:List Nat} {a:Nat} (h:a<=s.length):rowN p s a<=s.length:=by
 unfold rowN
 have:=(List.takeWhile_sublist (l:=s.drop a) p).length_le
 rw[List.length_drop] at this;omega
def cnt:Bool->List Nat->Nat
 |_, []=>0
 |false,c::l=>if isB c then 1+cnt false l else if c=35 then 1+cnt true l else 0
 |true,c::l=>if c=10 then 1+cnt false l else 1+cnt true l
def skipN (s:List Nat) (a:Nat):Nat:=a+cnt false (s.drop a)
theorem cnt_le:∀(l:List Nat) (q:Bool),cnt q l<=l.length:=by
 intro l
 induction l with
 |nil=>intro q;cases q<;>exact Nat.le_refl 0
 |cons c l ih=>
  intro q
  have h1:=ih false
  have h2:=ih true
  cases q with
  |false=>
   show (if isB c then 1+cnt false l else if c=35 then 1+cnt true l else 0)<=l.length+1
   split
   ·omega
   ·split<;>omega
  |true=>
   show (if c=10 then 1+cnt false l else 1+cnt true l)<=l.length+1
   split<;>omega
def skipR (s:List Nat) (a:Nat):Nat:=a+cnt true (s.drop a)
theorem skipN_step {s:List Nat} {a:Nat} (h:a<s.length):skipN s a=if isB s[a] then skipN s (a+1) else if s[a]=35 then skipR s (a+1) else a:=by
 unfold skipN skipR
 rw[List.drop_eq_getElem_cons h]
 show a+(if isB s[a] then 1+cnt false (s.drop (a+1)) else if s[a]=35 then 1+cnt true (s.drop (a+1)) else 0)=_
 split
 ·omega
 ·split<;>omega
theorem skipR_step {s:List Nat} {a:Nat} (h:a<s.length):skipR s a=if s[a]=10 then skipN s (a+1) else skipR s (a+1):=by
 unfold skipN skipR
 rw[List.drop_eq_getElem_cons h]
 show a+(if s[a]=10 then 1+cnt false (s.drop (a+1)) else 1+cnt true (s.drop (a+1)))=_
 split<;>omega
theorem skipN_end {s:List Nat} {a:Nat} (h:s.length<=a):skipN s a=a:=by
 unfold skipN;rw[List.drop_eq_nil_of_le h];rfl
theorem skipR_end {s:List Nat} {a:Nat} (h:s.length<=a):skipR s a=a:=by
 unfold skipR;rw[List.drop_eq_nil_of_le h];rfl
theorem skipN_le {s:List Nat} {a:Nat} (h:a<=s.length):skipN s a<=s.length:=by
 have:=cnt_le (s.drop a) false
 rw[List.length_drop] at this
 unfold skipN;omega
theorem skipN_ge {s:List Nat} {a:Nat}:a<=skipN s a:=by unfold skipN;omega
theorem rem_row (s:List Nat):∀(k a:Nat),k=s.length - a->skipR s a=skipN s (rowN (fun c=>decide (c≠10)) s a):=by
 intro k
 induction k with
 |zero=>intro a hk;rw[rowN_end (by omega),skipR_end (by omega),skipN_end (by omega)]
 |succ k ih=>
  intro a hk
  have ha:a<s.length:=by omega
  by_cases h:s[a]=10
  ·rw[rowN_no ha (by simp[h]),skipR_step ha,if_pos h,skipN_step ha,if_pos (by simp[isB,h])]
  ·rw[rowN_yes ha (by simp[h]),skipR_step ha,if_neg h];exact ih (a+1) (by omega)
theorem skip_sharp {s:List Nat} {a:Nat} (h:a<s.length) (hs:s[a]=35):skipN s a=skipN s (rowN (fun c=>decide (c≠10)) s a):=by
 rw[rowN_yes h (by simp[hs]),skipN_step h,if_neg (by simp[isB,hs]),if_pos hs,rem_row s _ _ rfl]
theorem skip_stop {s:List Nat} {a:Nat} (h:a<s.length) (hb:isB s[a]=false) (hs:s[a]≠35):skipN s a=a:=by
 rw[skipN_step h,if_neg (by simp[hb]),if_neg hs]
theorem skip_r1 {m:NH} {vb:NV} {s:List Nat} (hs:s.length<=1000000) (hb:Sl m vb 1 (Byt s)) {a:Nat} (ha:a<=s.length) {t:Tm} (g1:NT.get D4.e t=some vb) (g2:NT.get D4.e.a t=some (ii a))
 {Q:Out->Dyn->Prop} (hQ:∀t',NT.get D4.e t'=some vb->NT.get D4.e.a t'=some (ii (rowN (fun c=>decide (c≠10)) s a))->Q (.exit 3) ⟨puts [] t', [],none,m⟩):W Try.prog S0 none nf82_l1.loop ⟨t, [],none,m⟩ Q:=by
 have hlen:=hb.len
 rw[List.length_map] at hlen
 refine W.loop (fun k d=>∃t i,d=⟨t, [],none,m⟩/\NT.get D4.e t=some vb/\NT.get D4.e.a t=some (ii (i:Nat))/\rowN (fun c=>decide (c≠10)) s i=rowN (fun c=>decide (c≠10)) s a/\i+k=s.length) ?_ (s.length - a) _ ⟨_,a,rfl,g1,g2,rfl,by omega⟩
 rintro k d ⟨t,i,rfl,g1,g2,hr,hik⟩
 have hQ':=fun L t'=>hQ (puts L t')
 simp only[puts_nil] at hQ'
 apply wp_sound
 unfold nf82_l1
 change wp _ _ _ _ ⟨puts [] t, [],none,m⟩ _
 by_cases hi:i<s.length
 ·obtain ⟨id,off,w,c,a1,a2,a3,a4,a5⟩:=hb.at i (by simpa using hi)
  rw[List.getElem_map] at a5
  have c0:=cell_at a5 0 (by omega)
  rw[Nat.add_zero] at c0
  by_cases h10:s[i]=10
  ·simp (config:={maxSteps:=1000000}) (disch:=(first|assumption|omega|exact old_n (by omega)|exact old_hp (by assumption)|(simp only[nmL]<;>omega))) only[go_sem,seval,g1,g2,hlen,a1,a2,c0]
   refine hQ' _ _ ?_ ?_
   ·simp (config:={maxSteps:=1000000}) (disch:=(first|assumption|omega|exact old_n (by omega)|exact old_hp (by assumption)|(simp only[nmL]<;>omega))) only[go_sem,seval,g1]
   ·simp (config:={maxSteps:=1000000}) (disch:=(first|assumption|omega|exact old_n (by omega)|exact old_hp (by assumption)|(simp only[nmL]<;>omega))) only[go_sem,seval,g2];rw[←hr,rowN_no hi (by simp[h10])]
  ·simp (config:={maxSteps:=1000000}) (disch:=(first|assumption|omega|exact old_n (by omega)|exact old_hp (by assumption)|(simp only[nmL]<;>omega))) only[go_sem,seval,g1,g2,hlen,a1,a2,c0]
   refine ⟨k - 1,by omega,_,i+1,rfl, ?_, ?_,by rw[←hr,rowN_yes hi (by simp[h10])],by omega⟩
   ·simp (config:={maxSteps:=1000000}) (disch:=(first|assumption|omega|exact old_n (by omega)|exact old_hp (by assumption)|(simp only[nmL]<;>omega))) only[go_sem,seval,g1]
   ·simp (config:={maxSteps:=1000000}) (disch:=(first|assumption|omega|exact old_n (by omega)|exact old_hp (by assumption)|(simp only[nmL]<;>omega))) only[go_sem,seval]<;>rfl
 ·simp (config:={maxSteps:=1000000}) (disch:=(first|assumption|omega|exact old_n (by omega)|exact old_hp (by assumption)|(simp only[nmL]<;>omega))) only[go_sem,seval,g1,g2,hlen]
  refine hQ' _ _ ?_ ?_
  ·simp (config:={maxSteps:=1000000}) (disch:=(first|assumption|omega|exact old_n (by omega)|exact old_hp (by assumption)|(simp only[nmL]<;>omega))) only[go_sem,seval,g1]
  ·simp (config:={maxSteps:=1000000}) (disch:=(first|assumption|omega|exact old_n (by omega)|exact old_hp (by assumption)|(simp only[nmL]<;>omega))) only[go_sem,seval,g2];rw[←hr,rowN_end (by omega)]
theorem skip_r (m:NH) {vb:NV} {s:List Nat} (hs:s.length<=1000000) (hb:Sl m vb 1 (Byt s)) {a:Nat} (ha:a<=s.length):Ret Try.prog S0 82 [vb,ii a] m (ii (skipN s a)) m:=by
 have h:∃v m',Ret Try.prog S0 82 [vb,ii a] m v m'/\v=ii (skipN s a)/\m'=m:=by
  refine WF.ex fun K hK=> ?_
  refine WF.of_wpG (fun _=>rfl) nf82_eq (L:= [(.a .e,ii a),(.e,vb)]) rfl ?_
  unfold nf82
  have hlen:=hb.len
  rw[List.length_map] at hlen
  simp (config:={maxSteps:=1000000}) (disch:=(first|assumption|omega|exact old_n (by omega)|exact old_hp (by assumption)|(simp only[nmL]<;>omega))) only[go_sem,seval,hp_nil]
  refine W.loop (fun k d=>∃t i,d=⟨t, [],none,m⟩/\NT.get D4.e t=some vb/\NT.get D4.e.a t=some (ii (i:Nat))/\skipN s i=skipN s a/\i+k=s.length) ?_ (s.length - a) _ ⟨_,a,rfl,by simp only[go_sem,seval],by simp only[go_sem,seval],rfl,by omega⟩
  rintro k d ⟨t,i,rfl,g1,g2,hr,hik⟩
  apply wp_sound
  unfold nf82_l2
  change wp _ _ _ _ ⟨puts [] t, [],none,m⟩ _
  by_cases hi:i<s.length
  ·obtain ⟨id,off,w,c,a1,a2,a3,a4,a5⟩:=hb.at i (by simpa using hi)
   rw[List.getElem_map] at a5
   have c0:=cell_at a5 0 (by omega)
   rw[Nat.add_zero] at c0
   have blk:∀h:isB s[i]=true,skipN s (i+1)=skipN s a:=fun h=>by rw[←hr,skipN_step hi,if_pos h]
   by_cases h1:s[i]=32
   ·simp (config:={maxSteps:=1000000}) (disch:=(first|assumption|omega|exact old_n (by omega)|exact old_hp (by assumption)|(simp only[nmL]<;>omega))) only[go_sem,seval,g1,g2,hlen,a1,a2,c0]
    refine ⟨k - 1,by omega,_,i+1,rfl, ?_, ?_,blk (by simp[isB,h1]),by omega⟩
    ·simp (config:={maxSteps:=1000000}) (disch:=(first|assumption|omega|exact old_n (by omega)|exact old_hp (by assumption)|(simp only[nmL]<;>omega))) only[go_sem,seval,g1]
    ·simp (config:={maxSteps:=1000000}) (disch:=(first|assumption|omega|exact old_n (by omega)|exact old_hp (by assumption)|(simp only[nmL]<;>omega))) only[go_sem,seval]<;>rfl
   ·by_cases h2:s[i]=9
    ·simp (config:={maxSteps:=1000000}) (disch:=(first|assumption|omega|exact old_n (by omega)|exact old_hp (by assumption)|(simp only[nmL]<;>omega))) only[go_sem,seval,g1,g2,hlen,a1,a2,c0]
     refine ⟨k - 1,by omega,_,i+1,rfl, ?_, ?_,blk (by simp[isB,h2]),by omega⟩
     ·simp (config:={maxSteps:=1000000}) (disch:=(first|assumption|omega|exact old_n (by omega)|exact old_hp (by assumption)|(simp only[nmL]<;>omega))) only[go_sem,seval,g1]
     ·simp (config:={maxSteps:=1000000}) (disch:=(first|assumption|omega|exact old_n (by omega)|exact old_hp (by assumption)|(simp only[nmL]<;>omega))) only[go_sem,seval]<;>rfl
    ·by_cases h3:s[i]=10
     ·simp (config:={maxSteps:=1000000}) (disch:=(first|assumption|omega|exact old_n (by omega)|exact old_hp (by assumption)|(simp only[nmL]<;>omega))) only[go_sem,seval,g1,g2,hlen,a1,a2,c0]
      refine ⟨k - 1,by omega,_,i+1,rfl, ?_, ?_,blk (by simp[isB,h3]),by omega⟩
      ·simp (config:={maxSteps:=1000000}) (disch:=(first|assumption|omega|exact old_n (by omega)|exact old_hp (by assumption)|(simp only[nmL]<;>omega))) only[go_sem,seval,g1]
      ·simp (config:={maxSteps:=1000000}) (disch:=(first|assumption|omega|exact old_n (by omega)|exact old_hp (by assumption)|(simp only[nmL]<;>omega))) only[go_sem,seval]<;>rfl
     ·by_cases h4:s[i]=13
      ·simp (config:={maxSteps:=1000000}) (disch:=(first|assumption|omega|exact old_n (by omega)|exact old_hp (by assumption)|(simp only[nmL]<;>omega))) only[go_sem,seval,g1,g2,hlen,a1,a2,c0]
       refine ⟨k - 1,by omega,_,i+1,rfl, ?_, ?_,blk (by simp[isB,h4]),by omega⟩
       ·simp (config:={maxSteps:=1000000}) (disch:=(first|assumption|omega|exact old_n (by omega)|exact old_hp (by assumption)|(simp only[nmL]<;>omega))) only[go_sem,seval,g1]
       ·simp (config:={maxSteps:=1000000}) (disch:=(first|assumption|omega|exact old_n (by omega)|exact old_hp (by assumption)|(simp only[nmL]<;>omega))) only[go_sem,seval]<;>rfl
      ·have hnb:isB s[i]=false:=by simp[isB,h1,h2,h3,h4]
       by_cases h5:s[i]=35
       ·simp (config:={maxSteps:=1000000}) (disch:=(first|assumption|omega|exact old_n (by omega)|exact old_hp (by assumption)|(simp only[nmL]<;>omega))) only[go_sem,seval,g1,g2,hlen,a1,a2,c0]
        refine skip_r1 hs hb (a:=i) (by omega) ?_ ?_ ?_
        ·simp (config:={maxSteps:=1000000}) (disch:=(first|assumption|omega|exact old_n (by omega)|exact old_hp (by assumption)|(simp only[nmL]<;>omega))) only[go_sem,seval,g1]
        ·simp (config:={maxSteps:=1000000}) (disch:=(first|assumption|omega|exact old_n (by omega)|exact old_hp (by assumption)|(simp only[nmL]<;>omega))) only[go_sem,seval,g2]
        intro t' g1 g2
        simp (config:={maxSteps:=1000000}) (disch:=(first|assumption|omega|exact old_n (by omega)|exact old_hp (by assumption)|(simp only[nmL]<;>omega))) only[go_sem,seval]
        have hle:=rowN_le (p:=fun c=>decide (c≠10)) (s:=s) (a:=i) (by omega)
        have hlt:i+1<=rowN (fun c=>decide (c≠10)) s i:=by rw[rowN_yes hi (by simp[h5])];exact rowN_ge
        exact ⟨s.length - rowN (fun c=>decide (c≠10)) s i,by omega,t',_,rfl,g1,g2,by rw[←skip_sharp hi h5];exact hr,by omega⟩
       ·simp (config:={maxSteps:=1000000}) (disch:=(first|assumption|omega|exact old_n (by omega)|exact old_hp (by assumption)|(simp only[nmL]<;>omega))) only[go_sem,seval,g1,g2,hlen,a1,a2,c0]
        exact hK _ _ ⟨by rw[←hr,skip_stop hi hnb h5],rfl⟩
  ·simp (config:={maxSteps:=1000000}) (disch:=(first|assumption|omega|exact old_n (by omega)|exact old_hp (by assumption)|(simp only[nmL]<;>omega))) only[go_sem,seval,g1,g2,hlen]
   exact hK _ _ ⟨by rw[←hr,skipN_end (by omega)],rfl⟩
 obtain ⟨v,m',h,rfl,rfl⟩:=h
 exact h
def wordsL:List (List Nat):= [[99,101,108,108], [116,104,114,101,97,100], [114,101,99,111,118,101,114], [115,101,116], [108,111,97,100], [115,116,111,114,101], [99,97,115], [102,101,110,99,101], [111,117,116], [105,102], [101,108,115,101], [119,104,105,108,101]]
theorem word_r (m:NH) (t:List Nat):∃v m',Ret Try.prog S0 134 [.str t] m v m'/\v= .bool (decide (t∈wordsL))/\Chg [] m m':=by
 refine WF.ex fun K hK=> ?_
 refine WF.of_wpG (fun _=>rfl) nf134_eq (L:= [(.e,.str t)]) rfl ?_
 unfold nf134
 simp (config:={maxSteps:=1000000}) (disch:=(first|assumption|omega|exact old_n (by omega)|exact old_hp (by assumption)|(simp only[nmL]<;>omega))) only[go_sem,seval]
 generalize hM:hp _ 1 m=M
 have hC:Chg [] m M:=by rw[←hM];exact hp_of rfl
 have hv:Sl M (.slc (na m 0) 0 12 1 12) 1 (Strs wordsL):=by
  rw[←hM]
  exact (Own.of (B:=m) (C:=Strs wordsL) (by simp) na_old h_getN (old_n (by omega)) rfl rfl rfl).sl
 have hwl:wordsL.length=12:=rfl
 refine W.loop (fun k d=>∃t' i,d=⟨t', [],none,M⟩/\NT.get D4.e t'=some (.str t)/\NT.get D4.e.c t'=some (.slc (na m 0) 0 12 1 12)/\NT.get D4.e.f t'=some (ii (i:Nat))/\t∉wordsL.take i/\i+k=12) ?_ 12 _ ⟨_,0,rfl,by simp only[go_sem,seval],by simp only[go_sem,seval],by simp only[go_sem,seval]<;>rfl,by simp,by omega⟩
 rintro k d ⟨t',i,rfl,g1,g2,g3,hno,hik⟩
 apply wp_sound
 unfold nf134_l1
 change wp _ _ _ _ ⟨puts [] t', [],none,M⟩ _
 by_cases hi:i<12
 ·obtain ⟨id,off,w,c,a1,a2,a3,a4,a5⟩:=hv.at i (by simpa [hwl] using hi)
  rw[List.getElem_map] at a5
  have c0:=cell_at a5 0 (by omega)
  rw[Nat.add_zero] at c0
  by_cases he:wordsL[i]=t
  ·simp (config:={maxSteps:=1000000}) (disch:=(first|assumption|omega|exact old_n (by omega)|exact old_hp (by assumption)|(simp only[nmL]<;>omega))) only[go_sem,seval,g1,g2,g3,a1,a2,c0,he]
   exact hK _ _ ⟨by rw[decide_eq_true (show t∈wordsL by rw[←he];exact List.getElem_mem _)],hC⟩
  ·simp (config:={maxSteps:=1000000}) (disch:=(first|assumption|omega|exact old_n (by omega)|exact old_hp (by assumption)|(simp only[nmL]<;>omega))) only[go_sem,seval,g1,g2,g3,a1,a2,c0,he]
   refine ⟨k - 1,by omega,_,i+1,rfl, ?_, ?_, ?_, ?_,by omega⟩
   ·simp (config:={maxSteps:=1000000}) (disch:=(first|assumption|omega|exact old_n (by omega)|exact old_hp (by assumption)|(simp only[nmL]<;>omega))) only[go_sem,seval,g1]
   ·simp (config:={maxSteps:=1000000}) (disch:=(first|assumption|omega|exact old_n (by omega)|exact old_hp (by assumption)|(simp only[nmL]<;>omega))) only[go_sem,seval,g2]
   ·simp (config:={maxSteps:=1000000}) (disch:=(first|assumption|omega|exact old_n (by omega)|exact old_hp (by assumption)|(simp only[nmL]<;>omega))) only[go_sem,seval]<;>rfl
   ·rw[List.take_add_one,List.getElem?_eq_getElem (by omega)]
    simp only[Option.toList_some,List.mem_append,List.mem_singleton,not_or]
    exact ⟨hno,fun q=>he q.symm⟩
 ·simp (config:={maxSteps:=1000000}) (disch:=(first|assumption|omega|exact old_n (by omega)|exact old_hp (by assumption)|(simp only[nmL]<;>omega))) only[go_sem,seval,g1,g2,g3]
  have e:i=12:=by omega
  subst e
  rw[List.take_of_length_le (by rw[hwl];omega)] at hno
  exact hK _ _ ⟨by simp[hno],hC⟩
def valL:List Nat->Nat->Option Nat
 | [],n=>some n
 |c::l,n=>if 10*n+(c - 48)<18446744073709551616 then valL l (10*n+(c - 48)) else none
def numV (s:List Nat):Option Nat:=if 1<s.length/\s[0]? =some 48 then none else valL s 0
def signsL:List Nat:= [123,125,40,41,91,93,59,43,45,42,38,61,60]
def cut (s:List Nat) (a e:Nat):List Nat:=(s.take e).drop a
def tokS (s:List Nat) (a:Nat):Option (Nat×List Nat×Nat×Nat):=
 match s[a]? with
 |none=>none
 |some c=>
  if isL c then (if cut s a (rowN isI s a)∈wordsL then some (4,cut s a (rowN isI s a),0,rowN isI s a) else if (cut s a (rowN isI s a)).length<=16 then some (1,cut s a (rowN isI s a),0,rowN isI s a) else none)
  else if isD c then (match numV (cut s a (rowN isD s a)) with|some n=>if rowN isI s a=rowN isD s a then some (2, [],n,rowN isD s a) else none|none=>none)
  else if c∈signsL then some (3, [c],0,a+1) else none
theorem same_tok {a n d:Int} {t:List Nat}:sameV 4 (.agg [.int .i64 (.lit a),.str t,.int .u64 (.lit n),.int .i64 (.lit d)]) (.agg [.int .i64 (.lit a),.str t,.int .u64 (.lit n),.int .i64 (.lit d)])=true:=by
 refine same_agg ?_
 intro v hv
 simp only[List.mem_cons,List.not_mem_nil,or_false] at hv
 rcases hv with rfl|rfl|rfl|rfl<;>trivial
theorem cut_row (p:Nat->Bool) (s:List Nat) (a:Nat):cut s a (rowN p s a)=(s.drop a).takeWhile p:=by
 unfold cut rowN
 rw[List.drop_take,Nat.add_sub_cancel_left]
 exact (List.prefix_iff_eq_take.mp (List.takeWhile_prefix p)).symm
theorem cut_hd {p:Nat->Bool} {s:List Nat} {a c:Nat} (hb:s[a]? =some c) (hp:p c=true):∃l,cut s a (rowN p s a)=c::l:=by
 rw[cut_row]
 obtain ⟨ha,hc⟩:=List.getElem?_eq_some_iff.mp hb
 rw[List.drop_eq_getElem_cons ha,hc,List.takeWhile_cons,hp]
 exact ⟨_,rfl⟩
theorem take_every (p:Nat->Bool) (l:List Nat):∀c∈l.takeWhile p,p c=true:=by
 induction l with
 |nil=>intro c h;simp at h
 |cons x l ih=>
  intro c h
  rw[List.takeWhile_cons] at h
  split at h
  ·rcases List.mem_cons.mp h with rfl|h
   ·assumption
   ·exact ih c h
  ·simp at h
theorem cut_every (p:Nat->Bool) (s:List Nat) (a:Nat):∀c∈cut s a (rowN p s a),p c=true:=by rw[cut_row];exact take_every p _
theorem isD_isI (c:Nat) (h:isD c=true):isI c=true:=by unfold isI;rw[h];simp
structure Tok where
 k:Nat
 t:List Nat
 n:Nat
 p:Nat
def Tok.l (x:Tok):List NV:= [ii x.k,.str x.t,u64 x.n,ii x.p]
def toksL (s:List Nat):Nat->Nat->List Tok×Option Nat
 |0,_=>([],none)
 |k+1,a=>if a<s.length then (match tokS s a with
  |none=>([],some a)
  |some (kd,t,n,e)=>(⟨kd,t,n,a⟩::(toksL s k (skipN s e)).1,(toksL s k (skipN s e)).2)) else ([⟨5, [],0,s.length⟩],none)
def toks (s:List Nat):List Tok×Option Nat:=toksL s (s.length+1) (skipN s 0)
theorem row_gt {p:Nat->Bool} {s:List Nat} {a c:Nat} (hb:s[a]? =some c) (hp:p c=true):a<rowN p s a:=by
 obtain ⟨ha,hc⟩:=List.getElem?_eq_some_iff.mp hb
 rw[rowN_yes ha (by rw[hc];exact hp)]
 exact rowN_ge
theorem tokS_e {s:List Nat} {a kd n e:Nat} {t:List Nat} (h:tokS s a=some (kd,t,n,e)):a<e/\e<=s.length:=by
 unfold tokS at h
 cases hb:s[a]? with
 |none=>rw[hb] at h;cases h
 |some c=>
  rw[hb] at h
  obtain ⟨ha,hc⟩:=List.getElem?_eq_some_iff.mp hb
  dsimp only at h
  have g1:isL c=true->a<rowN isI s a:=fun q=>row_gt hb (by unfold isI;rw[q];rfl)
  have g2:isD c=true->a<rowN isD s a:=fun q=>row_gt hb q
  have l1:=rowN_le (p:=isI) (s:=s) (a:=a) (by omega)
  have l2:=rowN_le (p:=isD) (s:=s) (a:=a) (by omega)
  split at h
  ·rename_i hL
   split at h
   ·cases h;exact ⟨g1 hL,l1⟩
   ·split at h
    ·cases h;exact ⟨g1 hL,l1⟩
    ·cases h
  ·split at h
   ·rename_i hD
    split at h
    ·split at h
     ·cases h;exact ⟨g2 hD,l2⟩
     ·cases h
    ·cases h
   ·split at h
    ·cases h;exact ⟨by omega,by omega⟩
    ·cases h
theorem toksL_len (s:List Nat):∀(k a:Nat),(toksL s k a).1.length<=k:=by
 intro k
 induction k with
 |zero=>intro a;simp[toksL]
 |succ k ih=>
  intro a
  unfold toksL
  split
  ·split
   ·simp
   ·rename_i kd t n e _
    have:=ih (skipN s e)
    simp only[List.length_cons];omega
  ·simp
def okL (s:List Nat):Int->List Tok->Prop
 |_, []=>True
 |w,x::l=>w<x.p/\x.p<=s.length/\x.t.length<=s.length - x.p/\cut s x.p (x.p+x.t.length)=x.t/\(x.k=5↔l= [])/\okL s x.p l
theorem cut_len {s:List Nat} {a e:Nat} (h:e<=s.length):(cut s a e).length=e - a:=by unfold cut;rw[List.length_drop,List.length_take];omega
theorem cut_nil (s:List Nat) (a:Nat):cut s a a= []:=by unfold cut;exact List.drop_take_self
theorem cut_cut {s:List Nat} {a e:Nat} (h:e<=s.length) (h':a<=e):cut s a (a+(cut s a e).length)=cut s a e:=by rw[cut_len h,Nat.add_sub_cancel' h']
theorem cut_one {s:List Nat} {a c:Nat} (hb:s[a]? =some c):cut s a (a+1)= [c]:=by
 obtain ⟨ha,hc⟩:=List.getElem?_eq_some_iff.mp hb
 unfold cut
 rw[List.take_add_one,hb]
 simp only[Option.toList_some]
 rw[List.drop_append_of_le_length (by rw[List.length_take];omega),List.drop_take_self];rfl
theorem tokS_t {s:List Nat} {a kd n e:Nat} {t:List Nat} (h:tokS s a=some (kd,t,n,e)):kd≠5/\t.length<=s.length - a/\cut s a (a+t.length)=t:=by
 unfold tokS at h
 cases hb:s[a]? with
 |none=>rw[hb] at h;cases h
 |some c=>
  rw[hb] at h
  obtain ⟨ha,hc⟩:=List.getElem?_eq_some_iff.mp hb
  dsimp only at h
  have l1:=rowN_le (p:=isI) (s:=s) (a:=a) (by omega)
  have l2:=rowN_ge (p:=isI) (s:=s) (a:=a)
  have c1:=cut_cut l1 l2
  have c2:=cut_len (a:=a) l1
  split at h
  ·split at h
   ·cases h;exact ⟨by omega,by omega,c1⟩
   ·split at h
    ·cases h;exact ⟨by omega,by omega,c1⟩
    ·cases h
  ·split at h
   ·split at h
    ·split at h
     ·cases h;exact ⟨by omega,by simp,cut_nil s a⟩
     ·cases h
    ·cases h
   ·split at h
    ·cases h;exact ⟨by omega,by simp;omega,cut_one hb⟩
    ·cases h
theorem toksL_ok (s:List Nat):∀(k a:Nat) (w:Int),s.length<=a+k->a<=s.length->w<a->(toksL s (k+1) a).2=none->okL s w (toksL s (k+1) a).1/\(toksL s (k+1) a).1≠ []:=by
 intro k
 induction k with
 |zero=>
  intro a w h1 h2 h3 h4
  rw[toksL,if_neg (by omega)]
  exact ⟨⟨by simp;omega,Nat.le_refl _,by simp,cut_nil s _,by simp,trivial⟩,by simp⟩
 |succ k ih=>
  intro a w h1 h2 h3 h4
  by_cases ha:a<s.length
  ·rw[toksL,if_pos ha] at h4 ⊢
   cases hk:tokS s a with
   |none=>rw[hk] at h4;cases h4
   |some x=>
    obtain ⟨kd,t,n,e⟩:=x
    rw[hk] at h4
    obtain ⟨e1,e2⟩:=tokS_e hk
    obtain ⟨t1,t2,t3⟩:=tokS_t hk
    have g1:e<=skipN s e:=skipN_ge
    obtain ⟨i1,i2⟩:=ih (skipN s e) a (by omega) (skipN_le e2) (by omega) h4
    exact ⟨⟨h3,by simp;omega,t2,t3,⟨fun q=>absurd q t1,fun q=>absurd q i2⟩,i1⟩,by simp⟩
  ·rw[toksL,if_neg ha]
   exact ⟨⟨by simp;omega,Nat.le_refl _,by simp,cut_nil s _,by simp,trivial⟩,by simp⟩
theorem toks_ok {s:List Nat} (h:(toks s).2=none):okL s (-1) (toks s).1/\(toks s).1≠ []:=by
 have:=skipN_le (s:=s) (a:=0) (Nat.zero_le _)
 exact toksL_ok s s.length (skipN s 0) (-1) (by omega) this (by omega) h
theorem tk_r1 {m:NH} {vb f:NV} {s:List Nat} (hs:s.length<=1000000) (hb:Sl m vb 1 (Byt s)) {a:Nat} (ha:a<=s.length) {t:Tm} (g1:NT.get D4.e t=some vb) (g2:NT.get D4.e.a.c t=some (ii a)) (g3:NT.get D4.e.a t=some (ii a)) (g4:NT.get D4.e.f t=some f)
 {Q:Out->Dyn->Prop} (hQ:∀L t',NT.get D4.e (puts L t')=some vb->NT.get D4.e.a (puts L t')=some (ii a)->NT.get D4.e.f (puts L t')=some f->NT.get D4.e.a.c (puts L t')=some (ii ((rowN isI s a:Nat):Int))->Q (.exit 0) ⟨puts L t', [],none,m⟩):W Try.prog S0 none nf83_l1.loop ⟨t, [],none,m⟩ Q:=by
 have hlen:=hb.len
 rw[List.length_map] at hlen
 refine W.loop (fun k d=>∃t i,d=⟨t, [],none,m⟩/\NT.get D4.e t=some vb/\NT.get D4.e.a t=some (ii a)/\NT.get D4.e.f t=some f/\NT.get D4.e.a.c t=some (ii (i:Nat))/\rowN isI s i=rowN isI s a/\i+k=s.length) ?_ (s.length - a) _ ⟨_,a,rfl,g1,g3,g4,g2,rfl,by omega⟩
 rintro k d ⟨t,i,rfl,g1,g3,g4,g2,hr,hik⟩
 apply wp_sound
 unfold nf83_l1
 change wp _ _ _ _ ⟨puts [] t, [],none,m⟩ _
 by_cases hi:i<s.length
 ·obtain ⟨id,off,w,c,a1,a2,a3,a4,a5⟩:=hb.at i (by simpa using hi)
  rw[List.getElem_map] at a5
  have c0:=cell_at a5 0 (by omega)
  rw[Nat.add_zero] at c0
  have hI:=inside_r m s[i]
  cases h1:isI s[i] with
  |false=>
   rw[h1] at hI
   simp (config:={maxSteps:=1000000}) (disch:=(first|assumption|omega|exact old_n (by omega)|exact old_hp (by assumption)|(simp only[nmL]<;>omega))) only[go_sem,seval,g1,g2,hlen,a1,a2,c0,hI.wf']
   refine hQ _ _ ?_ ?_ ?_ ?_
   ·simp (config:={maxSteps:=1000000}) (disch:=(first|assumption|omega|exact old_n (by omega)|exact old_hp (by assumption)|(simp only[nmL]<;>omega))) only[go_sem,seval,g1]
   ·simp (config:={maxSteps:=1000000}) (disch:=(first|assumption|omega|exact old_n (by omega)|exact old_hp (by assumption)|(simp only[nmL]<;>omega))) only[go_sem,seval,g3]
   ·simp (config:={maxSteps:=1000000}) (disch:=(first|assumption|omega|exact old_n (by omega)|exact old_hp (by assumption)|(simp only[nmL]<;>omega))) only[go_sem,seval,g4]
   ·simp (config:={maxSteps:=1000000}) (disch:=(first|assumption|omega|exact old_n (by omega)|exact old_hp (by assumption)|(simp only[nmL]<;>omega))) only[go_sem,seval,g2];rw[←hr,rowN_no hi h1]
  |true=>
   rw[h1] at hI
   simp (config:={maxSteps:=1000000}) (disch:=(first|assumption|omega|exact old_n (by omega)|exact old_hp (by assumption)|(simp only[nmL]<;>omega))) only[go_sem,seval,g1,g2,hlen,a1,a2,c0,hI.wf']
   refine ⟨k - 1,by omega,_,i+1,rfl, ?_, ?_, ?_, ?_,by rw[←hr,rowN_yes hi h1],by omega⟩
   ·simp (config:={maxSteps:=1000000}) (disch:=(first|assumption|omega|exact old_n (by omega)|exact old_hp (by assumption)|(simp only[nmL]<;>omega))) only[go_sem,seval,g1]
   ·simp (config:={maxSteps:=1000000}) (disch:=(first|assumption|omega|exact old_n (by omega)|exact old_hp (by assumption)|(simp only[nmL]<;>omega))) only[go_sem,seval,g3]
   ·simp (config:={maxSteps:=1000000}) (disch:=(first|assumption|omega|exact old_n (by omega)|exact old_hp (by assumption)|(simp only[nmL]<;>omega))) only[go_sem,seval,g4]
   ·simp (config:={maxSteps:=1000000}) (disch:=(first|assumption|omega|exact old_n (by omega)|exact old_hp (by assumption)|(simp only[nmL]<;>omega))) only[go_sem,seval]<;>rfl
 ·simp (config:={maxSteps:=1000000}) (disch:=(first|assumption|omega|exact old_n (by omega)|exact old_hp (by assumption)|(simp only[nmL]<;>omega))) only[go_sem,seval,g1,g2,hlen]
  refine hQ _ _ ?_ ?_ ?_ ?_
  ·simp (config:={maxSteps:=1000000}) (disch:=(first|assumption|omega|exact old_n (by omega)|exact old_hp (by assumption)|(simp only[nmL]<;>omega))) only[go_sem,seval,g1]
  ·simp (config:={maxSteps:=1000000}) (disch:=(first|assumption|omega|exact old_n (by omega)|exact old_hp (by assumption)|(simp only[nmL]<;>omega))) only[go_sem,seval,g3]
  ·simp (config:={maxSteps:=1000000}) (disch:=(first|assumption|omega|exact old_n (by omega)|exact old_hp (by assumption)|(simp only[nmL]<;>omega))) only[go_sem,seval,g4]
  ·simp (config:={maxSteps:=1000000}) (disch:=(first|assumption|omega|exact old_n (by omega)|exact old_hp (by assumption)|(simp only[nmL]<;>omega))) only[go_sem,seval,g2];rw[←hr,rowN_end (by omega)]
theorem allD_row {s:List Nat} {a:Nat} (h:∀c∈cut s a (rowN isI s a),isD c=true):rowN isD s a=rowN isI s a:=by
 rw[cut_row] at h
 unfold rowN
 congr 1
 generalize s.drop a=l at h ⊢
 induction l with
 |nil=>rfl
 |cons x l ih=>
  rw[List.takeWhile_cons] at h
  rw[List.takeWhile_cons,List.takeWhile_cons]
  cases hx:isI x with
  |false=>
   have:isD x=false:=by cases hd:isD x with
    |false=>rfl
    |true=>rw[isD_isI x hd] at hx;cases hx
   simp[hx,this]
  |true=>
   rw[hx] at h
   have h0:=h x (by simp)
   rw[h0]
   simp only[if_true,List.length_cons]
   rw[ih fun c hc=>h c (by simp[hc])]
def badNum (s:List Nat) (a:Nat):Prop:=rowN isI s a≠rowN isD s a∨valL (cut s a (rowN isD s a)) 0=none
theorem cut_get {s:List Nat} {a e i:Nat} (h1:a<=i) (h2:i<e) (h3:e<=s.length):(cut s a e).drop (i - a)=s[i]::(cut s a e).drop (i+1 - a):=by
 have hlt:i - a<(cut s a e).length:=by rw[cut_len h3];omega
 have hg:(cut s a e)[i - a]? =s[i]? :=by
  unfold cut
  rw[List.getElem?_drop,show a+(i - a)=i by omega,List.getElem?_take_of_lt h2]
 rw[List.getElem?_eq_getElem hlt,List.getElem?_eq_getElem (by omega),Option.some.injEq] at hg
 rw[List.drop_eq_getElem_cons hlt,show i - a+1=i+1 - a by omega,hg]
theorem tk_r3 {m:NH} {vb:NV} {s:List Nat} (hs:s.length<=1000000) (hb:Sl m vb 1 (Byt s)) {a:Nat} (ha:a<=s.length) {t:Tm} {r tk:D4} {b0 b1 b2 b3 a0 a1 a2 a3 cc:NV}
 (hr:m.get r=some (.cells true [b0,b1,b2,b3])) (htk:m.get tk=some (.cells true [a0,a1,a2,a3])) (orr:Old m r) (otk:Old m tk)
 (g1:NT.get D4.e t=some vb) (g2:NT.get D4.e.a.c t=some (ii ((rowN isI s a:Nat):Int))) (g3:NT.get D4.e.a t=some (ii a)) (g4:NT.get D4.e.f t=some (.ptr r 0)) (g5:NT.get D4.e.b.a t=some (.ptr tk 0)) (g6:NT.get D4.e.b.b t=some (u64 0)) (g7:NT.get D4.e.b.c t=some (ii a)) (g8:NT.get D4.e.a.f t=some cc)
 {Q:Out->Dyn->Prop}
 (hbad:badNum s a->∀L t',NT.get D4.e.f (puts L t')=some (.ptr r 0)->NT.get D4.e.a.a (puts L t')=some (ii a)->NT.get D4.e.a.b (puts L t')=some (ii 2)->Q .ret ⟨puts L t', [],none,m.put r (.cells true [a0,a1,a2,a3])⟩)
 (hok:∀n,rowN isI s a=rowN isD s a->valL (cut s a (rowN isD s a)) 0=some n->∀L t',NT.get D4.e.b.a (puts L t')=some (.ptr tk 0)->NT.get D4.e.a.c (puts L t')=some (ii ((rowN isI s a:Nat):Int))->NT.get D4.e.a (puts L t')=some (ii a)->NT.get D4.e.f (puts L t')=some (.ptr r 0)->NT.get D4.e.b.b (puts L t')=some (u64 n)->NT.get D4.e.a.f (puts L t')=some cc->Q (.exit 3) ⟨puts L t', [],none,m⟩):
 W Try.prog S0 none nf83_l3.loop ⟨t, [],none,m⟩ Q:=by
 have hlen:=hb.len
 rw[List.length_map] at hlen
 have hle:rowN isI s a<=s.length:=rowN_le ha
 have hge:a<=rowN isI s a:=rowN_ge
 generalize hto:rowN isI s a=to at hle hge g2 hok
 refine W.loop (fun k d=>∃t i n,d=⟨t, [],none,m⟩/\NT.get D4.e t=some vb/\NT.get D4.e.a.c t=some (ii (to:Nat))/\NT.get D4.e.a t=some (ii a)/\NT.get D4.e.f t=some (.ptr r 0)/\NT.get D4.e.b.a t=some (.ptr tk 0)/\NT.get D4.e.b.b t=some (u64 n)/\NT.get D4.e.b.c t=some (ii (i:Nat))/\NT.get D4.e.a.f t=some cc/\n<18446744073709551616/\a<=i/\(∀c∈(cut s a to).take (i - a),isD c=true)/\valL ((cut s a to).drop (i - a)) n=valL (cut s a to) 0/\i+k=to) ?_ (to - a) _
  ⟨_,a,0,rfl,g1,g2,g3,g4,g5,g6,g7,g8,by omega,Nat.le_refl _,by simp,by simp,by omega⟩
 rintro k d ⟨t,i,n,rfl,g1,g2,g3,g4,g5,g6,g7,g8,hn,hai,hall,hv,hik⟩
 apply wp_sound
 unfold nf83_l3
 change wp _ _ _ _ ⟨puts [] t, [],none,m⟩ _
 by_cases hi:i<to
 ·obtain ⟨id,off,w,c',x1,x2,x3,x4,x5⟩:=hb.at i (by simp;omega)
  rw[List.getElem_map] at x5
  have c0:=cell_at x5 0 (by omega)
  rw[Nat.add_zero] at c0
  have hcg:=cut_get (s:=s) hai hi hle
  have hD:=digit_r m s[i]
  generalize hc:s[i]=c at c0 hcg hD
  rw[hcg] at hv
  have hmem:c∈cut s a to:=by
   have:c∈(cut s a to).drop (i - a):=by rw[hcg];simp
   exact List.mem_of_mem_drop this
  cases h1:isD c with
  |false=>
   rw[h1] at hD
   simp (config:={maxSteps:=1000000}) (disch:=(first|assumption|omega|exact old_n (by omega)|exact old_hp (by assumption)|(simp only[nmL]<;>omega))) only[go_sem,seval,hp_nil,g1,g2,g3,g4,g5,g6,g7,hlen,x1,x2,c0,hD.wf',hr,htk]
   refine hbad (Or.inl fun h=> ?_) _ _ ?_ ?_ ?_
   ·rw[hto] at h
    have:=cut_every isD s a c (by rw[←h];exact hmem)
    rw[h1] at this;cases this
   ·simp (config:={maxSteps:=1000000}) (disch:=(first|assumption|omega|exact old_n (by omega)|exact old_hp (by assumption)|(simp only[nmL]<;>omega))) only[go_sem,seval,g4]
   ·simp (config:={maxSteps:=1000000}) (disch:=(first|assumption|omega|exact old_n (by omega)|exact old_hp (by assumption)|(simp only[nmL]<;>omega))) only[go_sem,seval]
   ·simp (config:={maxSteps:=1000000}) (disch:=(first|assumption|omega|exact old_n (by omega)|exact old_hp (by assumption)|(simp only[nmL]<;>omega))) only[go_sem,seval]
  |true=>
   rw[h1] at hD
   have hdd:=h1
   unfold isD at hdd
   rw[decide_eq_true_eq] at hdd
   have e1:((c:Int) - 48) % 256=((c - 48:Nat):Int):=by omega
   have e2:((c - 48:Nat):Int) % 18446744073709551616=((c - 48:Nat):Int):=by omega
   have e3:(18446744073709551615 - ((c - 48:Nat):Int)) % 18446744073709551616=((18446744073709551615 - (c - 48):Nat):Int):=by omega
   have q10:∀x:Nat,x<18446744073709551616->binV .num .quo (.int .u64 (.lit (x:Int))) (.int .u64 (.lit 10))=some (.int .u64 (.lit ((x / 10:Nat):Int))):=by
    intro x hx
    have:=b_quoU (a:=x) (b:=10) (by omega)
    rw[show x / 10 % 18446744073709551616=x / 10 by omega] at this
    exact this
   have q10:=q10 (18446744073709551615 - (c - 48)) (by omega)
   have hvn:valL (c::(cut s a to).drop (i+1 - a)) n=if 10*n+(c - 48)<18446744073709551616 then valL ((cut s a to).drop (i+1 - a)) (10*n+(c - 48)) else none:=rfl
   by_cases hlt:10*n+(c - 48)<18446744073709551616
   ·rw[hvn,if_pos hlt] at hv
    have hle10:n<=(18446744073709551615 - (c - 48)) / 10:=by omega
    have e4:(10*(n:Int) % 18446744073709551616+((c - 48:Nat):Int)) % 18446744073709551616=((10*n+(c - 48):Nat):Int):=by omega
    generalize hqq:(18446744073709551615 - (c - 48)) / 10=qq at q10 hle10
    simp (config:={maxSteps:=1000000}) (disch:=(first|assumption|omega|exact old_n (by omega)|exact old_hp (by assumption)|(simp only[nmL]<;>omega))) only[go_sem,seval,hp_nil,g1,g2,g3,g4,g5,g6,g7,hlen,x1,x2,c0,hD.wf',e1,e2,e3,q10,e4]
    refine ⟨k - 1,by omega,_,i+1,10*n+(c - 48),rfl, ?_, ?_, ?_, ?_, ?_, ?_, ?_, ?_,hlt,by omega, ?_,hv,by omega⟩
    ·simp (config:={maxSteps:=1000000}) (disch:=(first|assumption|omega|exact old_n (by omega)|exact old_hp (by assumption)|(simp only[nmL]<;>omega))) only[go_sem,seval,g1]
    ·simp (config:={maxSteps:=1000000}) (disch:=(first|assumption|omega|exact old_n (by omega)|exact old_hp (by assumption)|(simp only[nmL]<;>omega))) only[go_sem,seval,g2]
    ·simp (config:={maxSteps:=1000000}) (disch:=(first|assumption|omega|exact old_n (by omega)|exact old_hp (by assumption)|(simp only[nmL]<;>omega))) only[go_sem,seval,g3]
    ·simp (config:={maxSteps:=1000000}) (disch:=(first|assumption|omega|exact old_n (by omega)|exact old_hp (by assumption)|(simp only[nmL]<;>omega))) only[go_sem,seval,g4]
    ·simp (config:={maxSteps:=1000000}) (disch:=(first|assumption|omega|exact old_n (by omega)|exact old_hp (by assumption)|(simp only[nmL]<;>omega))) only[go_sem,seval,g5]
    ·simp (config:={maxSteps:=1000000}) (disch:=(first|assumption|omega|exact old_n (by omega)|exact old_hp (by assumption)|(simp only[nmL]<;>omega))) only[go_sem,seval]
    ·simp (config:={maxSteps:=1000000}) (disch:=(first|assumption|omega|exact old_n (by omega)|exact old_hp (by assumption)|(simp only[nmL]<;>omega))) only[go_sem,seval]<;>rfl
    ·simp (config:={maxSteps:=1000000}) (disch:=(first|assumption|omega|exact old_n (by omega)|exact old_hp (by assumption)|(simp only[nmL]<;>omega))) only[go_sem,seval,g8]
    ·intro x hx
     rw[show i+1 - a=i - a+1 by omega,List.take_add_one] at hx
     have hg:(cut s a to)[i - a]? =some c:=by
      have:=congrArg (fun l=>l[0]?) hcg
      simpa using this
     rw[hg] at hx
     simp only[Option.toList_some,List.mem_append,List.mem_singleton] at hx
     rcases hx with hx|rfl
     ·exact hall x hx
     ·exact h1
   ·rw[hvn,if_neg hlt] at hv
    have hle10:(18446744073709551615 - (c - 48)) / 10<n:=by omega
    generalize hqq:(18446744073709551615 - (c - 48)) / 10=qq at q10 hle10
    simp (config:={maxSteps:=1000000}) (disch:=(first|assumption|omega|exact old_n (by omega)|exact old_hp (by assumption)|(simp only[nmL]<;>omega))) only[go_sem,seval,hp_nil,g1,g2,g3,g4,g5,g6,g7,hlen,x1,x2,c0,hD.wf',e1,e2,e3,q10,hr,htk]
    refine hbad ?_ _ _ ?_ ?_ ?_
    ·unfold badNum
     by_cases h:rowN isI s a=rowN isD s a
     ·right;rw[←h,hto];exact hv.symm
     ·exact Or.inl h
    ·simp (config:={maxSteps:=1000000}) (disch:=(first|assumption|omega|exact old_n (by omega)|exact old_hp (by assumption)|(simp only[nmL]<;>omega))) only[go_sem,seval,g4]
    ·simp (config:={maxSteps:=1000000}) (disch:=(first|assumption|omega|exact old_n (by omega)|exact old_hp (by assumption)|(simp only[nmL]<;>omega))) only[go_sem,seval]
    ·simp (config:={maxSteps:=1000000}) (disch:=(first|assumption|omega|exact old_n (by omega)|exact old_hp (by assumption)|(simp only[nmL]<;>omega))) only[go_sem,seval]
 ·simp (config:={maxSteps:=1000000}) (disch:=(first|assumption|omega|exact old_n (by omega)|exact old_hp (by assumption)|(simp only[nmL]<;>omega))) only[go_sem,seval,g1,g2,g7,hlen]
  have hia:i - a=(cut s a to).length:=by rw[cut_len hle];omega
  rw[hia,List.take_length] at hall
  have he:rowN isD s a=rowN isI s a:=allD_row (by rw[hto];exact hall)
  rw[hia,List.drop_length] at hv
  rw[hto] at he
  refine hok n he.symm ?_ _ _ ?_ ?_ ?_ ?_ ?_ ?_
  ·rw[he,←hv];rfl
  ·simp (config:={maxSteps:=1000000}) (disch:=(first|assumption|omega|exact old_n (by omega)|exact old_hp (by assumption)|(simp only[nmL]<;>omega))) only[go_sem,seval,g5]
  ·simp (config:={maxSteps:=1000000}) (disch:=(first|assumption|omega|exact old_n (by omega)|exact old_hp (by assumption)|(simp only[nmL]<;>omega))) only[go_sem,seval,g2]
  ·simp (config:={maxSteps:=1000000}) (disch:=(first|assumption|omega|exact old_n (by omega)|exact old_hp (by assumption)|(simp only[nmL]<;>omega))) only[go_sem,seval,g3]
  ·simp (config:={maxSteps:=1000000}) (disch:=(first|assumption|omega|exact old_n (by omega)|exact old_hp (by assumption)|(simp only[nmL]<;>omega))) only[go_sem,seval,g4]
  ·simp (config:={maxSteps:=1000000}) (disch:=(first|assumption|omega|exact old_n (by omega)|exact old_hp (by assumption)|(simp only[nmL]<;>omega))) only[go_sem,seval,g6]
  ·simp (config:={maxSteps:=1000000}) (disch:=(first|assumption|omega|exact old_n (by omega)|exact old_hp (by assumption)|(simp only[nmL]<;>omega))) only[go_sem,seval,g8]
theorem tk_r2 {m:NH} {t:Tm} {r tk:D4} {b0 b1 b2 b3 a0 a1 a2 a3:NV} {c a:Nat} (ha':a<=1000000)
 (hr:m.get r=some (.cells true [b0,b1,b2,b3])) (htk:m.get tk=some (.cells true [a0,a1,a2,a3])) (orr:Old m r) (otk:Old m tk) (hrt:r≠tk)
 (g1:NT.get D4.e.c.a t=some (.str signsL)) (g2:NT.get D4.e.c.b t=some (ii 0)) (g3:NT.get D4.e.a t=some (ii a)) (g4:NT.get D4.e.f t=some (.ptr r 0)) (g5:NT.get D4.e.b.a t=some (.ptr tk 0)) (g6:NT.get D4.e.a.f t=some (u8 c))
 {Q:Out->Dyn->Prop}
 (hok:c∈signsL->∀L t' m',m'.get r=some (.cells true [ii 3,.str [c],a2,a3])->Chg [r,tk] m m'->NT.get D4.e.f (puts L t')=some (.ptr r 0)->NT.get D4.e.a.a (puts L t')=some (ii ((a:Int)+1))->NT.get D4.e.a.b (puts L t')=some (ii 0)->Q .ret ⟨puts L t', [],none,m'⟩)
 (hbad:c∉signsL->∀L t',NT.get D4.e.b.a (puts L t')=some (.ptr tk 0)->NT.get D4.e.a (puts L t')=some (ii a)->NT.get D4.e.f (puts L t')=some (.ptr r 0)->Q (.exit 5) ⟨puts L t', [],none,m⟩):
 W Try.prog S0 none nf83_l2.loop ⟨t, [],none,m⟩ Q:=by
 have hsl:signsL.length=13:=rfl
 refine W.loop (fun k d=>∃t i,d=⟨t, [],none,m⟩/\NT.get D4.e.c.a t=some (.str signsL)/\NT.get D4.e.c.b t=some (ii (i:Nat))/\NT.get D4.e.a t=some (ii a)/\NT.get D4.e.f t=some (.ptr r 0)/\NT.get D4.e.b.a t=some (.ptr tk 0)/\NT.get D4.e.a.f t=some (u8 c)/\c∉signsL.take i/\i+k=13) ?_ 13 _ ⟨_,0,rfl,g1,g2,g3,g4,g5,g6,by simp,by omega⟩
 rintro k d ⟨t,i,rfl,g1,g2,g3,g4,g5,g6,hno,hik⟩
 apply wp_sound
 unfold nf83_l2
 change wp _ _ _ _ ⟨puts [] t, [],none,m⟩ _
 rw[←hp_nil m]
 by_cases hi:i<13
 ·have hb:signsL[i]? =some signsL[i]:=List.getElem?_eq_getElem (by omega)
  by_cases he:signsL[i]=c
  ·rw[he] at hb
   have e1:List.drop i (List.take ((i:Int)+1).toNat signsL)= [c]:=by
    rw[show ((i:Int)+1).toNat=i+1 by omega,List.take_add_one,hb]
    simp only[Option.toList_some]
    rw[List.drop_append_of_le_length (by rw[List.length_take];omega),List.drop_take_self];rfl
   simp (config:={maxSteps:=1000000}) (disch:=(first|assumption|omega|exact old_n (by omega)|exact old_hp (by assumption)|(simp only[nmL]<;>omega))) only[go_sem,seval,g1,g2,g3,g4,g5,g6,hb,hsl,e1,hr,htk,same_tok]
   refine hok (by rw[←he];exact List.getElem_mem _) _ _ _ ?_ ?_ ?_ ?_ ?_
   ·exact (h_getO orr).trans h_lookOs
   ·exact (hp_of rfl).weak (by simp[oldK])
   ·simp (config:={maxSteps:=1000000}) (disch:=(first|assumption|omega|exact old_n (by omega)|exact old_hp (by assumption)|(simp only[nmL]<;>omega))) only[go_sem,seval,g4]
   ·simp (config:={maxSteps:=1000000}) (disch:=(first|assumption|omega|exact old_n (by omega)|exact old_hp (by assumption)|(simp only[nmL]<;>omega))) only[go_sem,seval]
   ·simp (config:={maxSteps:=1000000}) (disch:=(first|assumption|omega|exact old_n (by omega)|exact old_hp (by assumption)|(simp only[nmL]<;>omega))) only[go_sem,seval]
  ·have hne:((signsL[i]:Int)=(c:Int))=False:=by simp;omega
   simp (config:={maxSteps:=1000000}) (disch:=(first|assumption|omega|exact old_n (by omega)|exact old_hp (by assumption)|(simp only[nmL]<;>omega))) only[go_sem,seval,g1,g2,g3,g4,g5,g6,hb,hsl]
   refine ⟨k - 1,by omega,_,i+1,by rw[hp_nil], ?_, ?_, ?_, ?_, ?_, ?_, ?_,by omega⟩
   ·simp (config:={maxSteps:=1000000}) (disch:=(first|assumption|omega|exact old_n (by omega)|exact old_hp (by assumption)|(simp only[nmL]<;>omega))) only[go_sem,seval,g1]
   ·simp (config:={maxSteps:=1000000}) (disch:=(first|assumption|omega|exact old_n (by omega)|exact old_hp (by assumption)|(simp only[nmL]<;>omega))) only[go_sem,seval]<;>rfl
   ·simp (config:={maxSteps:=1000000}) (disch:=(first|assumption|omega|exact old_n (by omega)|exact old_hp (by assumption)|(simp only[nmL]<;>omega))) only[go_sem,seval,g3]
   ·simp (config:={maxSteps:=1000000}) (disch:=(first|assumption|omega|exact old_n (by omega)|exact old_hp (by assumption)|(simp only[nmL]<;>omega))) only[go_sem,seval,g4]
   ·simp (config:={maxSteps:=1000000}) (disch:=(first|assumption|omega|exact old_n (by omega)|exact old_hp (by assumption)|(simp only[nmL]<;>omega))) only[go_sem,seval,g5]
   ·simp (config:={maxSteps:=1000000}) (disch:=(first|assumption|omega|exact old_n (by omega)|exact old_hp (by assumption)|(simp only[nmL]<;>omega))) only[go_sem,seval,g6]
   ·rw[List.take_add_one,hb]
    simp only[Option.toList_some,List.mem_append,List.mem_singleton,not_or]
    exact ⟨hno,fun q=>he q.symm⟩
 ·simp (config:={maxSteps:=1000000}) (disch:=(first|assumption|omega|exact old_n (by omega)|exact old_hp (by assumption)|(simp only[nmL]<;>omega))) only[go_sem,seval,g1,g2,hsl]
  rw[hp_nil]
  refine hbad ?_ _ _ ?_ ?_ ?_
  ·have:i=13:=by omega
   subst this
   exact hno
  ·simp (config:={maxSteps:=1000000}) (disch:=(first|assumption|omega|exact old_n (by omega)|exact old_hp (by assumption)|(simp only[nmL]<;>omega))) only[go_sem,seval,g5]
  ·simp (config:={maxSteps:=1000000}) (disch:=(first|assumption|omega|exact old_n (by omega)|exact old_hp (by assumption)|(simp only[nmL]<;>omega))) only[go_sem,seval,g3]
  ·simp (config:={maxSteps:=1000000}) (disch:=(first|assumption|omega|exact old_n (by omega)|exact old_hp (by assumption)|(simp only[nmL]<;>omega))) only[go_sem,seval,g4]
theorem byt_cut' (s:List Nat) (a e:Nat):((Byt s).drop a).take (e - a)=Byt (cut s a e):=by
 unfold cut
 rw[List.drop_take]
 simp[List.map_take,List.map_drop]
theorem numV_cut {s:List Nat} {a c:Nat} (hbs:s[a]? =some c) (hD:isD c=true):numV (cut s a (rowN isD s a))=if 1<rowN isD s a - a/\c=48 then none else valL (cut s a (rowN isD s a)) 0:=by
 have ha:=(List.getElem?_eq_some_iff.mp hbs).1
 obtain ⟨l,hl⟩:=cut_hd hbs hD
 have hn:=cut_len (s:=s) (a:=a) (rowN_le (p:=isD) (s:=s) (a:=a) (by omega))
 unfold numV
 rw[hn]
 have e:((cut s a (rowN isD s a))[0]? =some 48)↔(c=48):=by rw[hl];simp
 by_cases h:1<rowN isD s a - a/\c=48
 ·rw[if_pos h,if_pos ⟨h.1,e.mpr h.2⟩]
 ·rw[if_neg h,if_neg fun q=>h ⟨q.1,e.mp q.2⟩]
theorem tokS_dig {s:List Nat} {a c:Nat} (hbs:s[a]? =some c) (hD:isD c=true):tokS s a=(match numV (cut s a (rowN isD s a)) with|some n=>if rowN isI s a=rowN isD s a then some (2, [],n,rowN isD s a) else none|none=>none):=by
 have hL:isL c=false:=by
  unfold isD at hD;rw[decide_eq_true_eq] at hD
  unfold isL;rw[decide_eq_false_iff_not];omega
 unfold tokS;rw[hbs];simp only[hL,hD];rfl
theorem tokS_badNum {s:List Nat} {a c:Nat} (hbs:s[a]? =some c) (hD:isD c=true) (h:badNum s a):tokS s a=none:=by
 rw[tokS_dig hbs hD,numV_cut hbs hD]
 by_cases h1:1<rowN isD s a - a/\c=48
 ·rw[if_pos h1]
 ·rw[if_neg h1]
  rcases h with h|h
  ·cases valL (cut s a (rowN isD s a)) 0 with
   |none=>rfl
   |some n=>simp[h]
  ·rw[h]
theorem token_r (m:NH) {vb:NV} {s:List Nat} (hs:s.length<=1000000) (h256:∀c∈s,c<256) (hb:Sl m vb 1 (Byt s)) {a:Nat} (ha:a<s.length):
 ∃v m',Ret Try.prog S0 83 [vb,ii a] m v m'/\(∃(k0:Int) (t0:List Nat) (n0 p:Int),v= .tup [.agg [ii k0,.str t0,.int .u64 (.lit n0),ii a],ii p,ii (if (tokS s a).isSome then 0 else 2)]/\∀k t n e,tokS s a=some (k,t,n,e)->k0=k/\t0=t/\n0=n/\p=e)/\Chg [] m m':=by
 refine WF.ex fun K hK=> ?_
 refine WF.of_wpG (fun _=>rfl) nf83_eq (L:= [(.a .e,ii a),(.e,vb)]) rfl ?_
 unfold nf83
 simp (config:={maxSteps:=1000000}) (disch:=(first|assumption|omega|exact old_n (by omega)|exact old_hp (by assumption)|(simp only[nmL]<;>omega))) only[go_sem,seval]
 generalize hM0:hp _ 1 m=M0
 have hC0:Chg [] m M0:=by rw[←hM0];exact hp_of rfl
 have r0:M0.get (na m 0)=some (.cells true [ii 0,.str [],u64 0,ii 0]):=by rw[←hM0];exact h_getN
 have or0:Old M0 (na m 0):=by rw[←hM0];exact old_n (by omega)
 have hb0:=hb.chg hC0 fun _ _=>by simp
 refine tk_r1 hs hb0 (Nat.le_of_lt ha) (by simp only[go_sem,seval]) (by simp only[go_sem,seval]) (by simp only[go_sem,seval]) (f:= .ptr (na m 0) 0) (by simp only[go_sem,seval]) ?_
 intro L t g1 g2 g3 g4
 rw[←hp_nil M0]
 obtain ⟨id,off,w,c',x1,x2,x3,x4,x5⟩:=hb0.at a (by simpa using ha)
 rw[List.getElem_map] at x5
 have c0:=cell_at x5 0 (by omega)
 rw[Nat.add_zero] at c0
 have hbs:s[a]? =some s[a]:=List.getElem?_eq_getElem ha
 have hc256:=h256 s[a] (List.getElem_mem ha)
 generalize hc:s[a]=c at c0 hbs hc256
 have hd:∀m,Ret Try.prog S0 132 [u8 c] m (.bool (isD c)) m:=fun m=>digit_r m c
 have hl:∀m,Ret Try.prog S0 133 [u8 c] m (.bool (isL c)) m:=fun m=>letter_r m c
 generalize hT:puts L t=T at g1 g2 g3 g4
 change wp _ _ _ _ ⟨puts [] T, [],none,_⟩ _
 have na_ne:na m 0≠na M0 0:=or0.ne 0
 have na_ne':na M0 0≠na m 0:=fun e=>or0.ne 0 e.symm
 have chF:∀(M1:NH) {MF:NH} {T1 T2:List D4},Chg T1 M0 M1->Chg T2 M1 MF->(∀i∈T1++T2,i=na m 0∨i=na M0 0)->Chg [] m MF:=by
  intro M1 MF T1 T2 h1 h2 hi
  refine (hC0.weak (T:=T1++T2) (by simp)).trans ((h1.weak (T:=T1++T2) (by intro i hi _;simp[hi])).trans h2 (by intro i hi _;simp[hi])) (fun _ h _=>h) |>.weak ?_
  intro i hi' ho
  rcases hi i hi' with rfl|rfl
  ·exact absurd ho na_old
  ·exact absurd (hC0.old ho) na_old
 cases hD:isD c with
 |true=>
  rw[hD] at hd
  simp (config:={maxSteps:=1000000}) (disch:=(first|assumption|omega|exact old_n (by omega)|exact old_hp (by assumption)|(simp only[nmL]<;>omega))) only[go_sem,seval,g1,g2,g3,g4,x1,x2,c0,(hd _).wf']
  generalize hM1:hp _ 1 M0=M1
  have hC1:Chg [] M0 M1:=by rw[←hM1];exact hp_of rfl
  have p0:=(hC1.get or0 (by simp)).trans r0
  have op0:=hC1.old or0
  have p1:M1.get (na M0 0)=some (.cells true [ii 0,.str [],u64 0,ii a]):=by rw[←hM1];exact h_getN
  have op1:Old M1 (na M0 0):=by rw[←hM1];exact old_n (by omega)
  have hb1:=hb0.chg hC1 fun _ _=>by simp
  refine tk_r3 hs hb1 (Nat.le_of_lt ha) p0 p1 op0 op1 (cc:=u8 c) ?_ ?_ ?_ ?_ ?_ ?_ ?_ ?_ ?_ ?_
  ·simp (config:={maxSteps:=1000000}) (disch:=(first|assumption|omega|exact old_n (by omega)|exact old_hp (by assumption)|(simp only[nmL]<;>omega))) only[go_sem,seval,g1]
  ·simp (config:={maxSteps:=1000000}) (disch:=(first|assumption|omega|exact old_n (by omega)|exact old_hp (by assumption)|(simp only[nmL]<;>omega))) only[go_sem,seval,g4]
  ·simp (config:={maxSteps:=1000000}) (disch:=(first|assumption|omega|exact old_n (by omega)|exact old_hp (by assumption)|(simp only[nmL]<;>omega))) only[go_sem,seval,g2]
  ·simp (config:={maxSteps:=1000000}) (disch:=(first|assumption|omega|exact old_n (by omega)|exact old_hp (by assumption)|(simp only[nmL]<;>omega))) only[go_sem,seval,g3]
  ·simp (config:={maxSteps:=1000000}) (disch:=(first|assumption|omega|exact old_n (by omega)|exact old_hp (by assumption)|(simp only[nmL]<;>omega))) only[go_sem,seval]
  ·simp (config:={maxSteps:=1000000}) (disch:=(first|assumption|omega|exact old_n (by omega)|exact old_hp (by assumption)|(simp only[nmL]<;>omega))) only[go_sem,seval]<;>rfl
  ·simp (config:={maxSteps:=1000000}) (disch:=(first|assumption|omega|exact old_n (by omega)|exact old_hp (by assumption)|(simp only[nmL]<;>omega))) only[go_sem,seval,g2]
  ·simp (config:={maxSteps:=1000000}) (disch:=(first|assumption|omega|exact old_n (by omega)|exact old_hp (by assumption)|(simp only[nmL]<;>omega))) only[go_sem,seval]
  ·intro hbn L' t' k1 k2 k3
   generalize puts L' t'=T' at k1 k2 k3
   rw[show M1.put (na m 0) (.cells true [ii 0,.str [],u64 0,ii a])=hp [(.o (na m 0),.cells true [ii 0,.str [],u64 0,ii a])] 0 M1 from by rw[←h_putO op0,hp_nil]]
   change retG _ K .ret ⟨puts [] T', [],none,_⟩
   have T:tokS s a=none:=tokS_badNum hbs hD hbn
   simp (config:={maxSteps:=1000000}) (disch:=(first|assumption|omega|exact old_n (by omega)|exact old_hp (by assumption)|(simp only[nmL]<;>omega))) only[go_sem,seval,k1,k2,k3]
   refine hK _ _ ⟨⟨_,_,_,_,by rw[T];rfl, ?_⟩,chF M1 hC1 (hp_of rfl) (by simp[oldK])⟩
   intro k t n e he;rw[T] at he;cases he
  ·intro n hrr hv L' t' k1 k2 k3 k4 k5 k6
   generalize puts L' t'=T' at k1 k2 k3 k4 k5 k6
   rw[←hp_nil M1]
   change wp _ _ _ _ ⟨puts [] T', [],none,_⟩ _
   have hge:a<=rowN isI s a:=rowN_ge
   have hle:rowN isI s a<=s.length:=rowN_le (Nat.le_of_lt ha)
   by_cases h48:c=48
   ·by_cases hgt:a+1<rowN isI s a
    ·have T:tokS s a=none:=by rw[tokS_dig hbs hD,numV_cut hbs hD,if_pos ⟨by omega,h48⟩]
     simp (config:={maxSteps:=1000000}) (disch:=(first|assumption|omega|exact old_n (by omega)|exact old_hp (by assumption)|(simp only[nmL]<;>omega))) only[go_sem,seval,k1,k2,k3,k4,k5,k6,p0,p1]
     refine hK _ _ ⟨⟨_,_,_,_,by rw[T];rfl, ?_⟩,chF M1 hC1 (hp_of rfl) (by simp[oldK])⟩
     intro k t n e he;rw[T] at he;cases he
    ·have T:tokS s a=some (2, [],n,rowN isD s a):=by rw[tokS_dig hbs hD,numV_cut hbs hD,if_neg (by omega),hv];simp[hrr]
     simp (config:={maxSteps:=1000000}) (disch:=(first|assumption|omega|exact old_n (by omega)|exact old_hp (by assumption)|(simp only[nmL]<;>omega))) only[go_sem,seval,k1,k2,k3,k4,k5,k6,p0,p1,na_ne]
     refine hK _ _ ⟨⟨_,_,_,_,by rw[T];rfl, ?_⟩,chF M1 hC1 (hp_of rfl) (by simp[oldK])⟩
     intro k t n e he;rw[T] at he;cases he
     exact ⟨rfl,rfl,rfl,by rw[hrr]⟩
   ·have T:tokS s a=some (2, [],n,rowN isD s a):=by rw[tokS_dig hbs hD,numV_cut hbs hD,if_neg (by omega),hv];simp[hrr]
    simp (config:={maxSteps:=1000000}) (disch:=(first|assumption|omega|exact old_n (by omega)|exact old_hp (by assumption)|(simp only[nmL]<;>omega))) only[go_sem,seval,k1,k2,k3,k4,k5,k6,p0,p1,na_ne]
    refine hK _ _ ⟨⟨_,_,_,_,by rw[T];rfl, ?_⟩,chF M1 hC1 (hp_of rfl) (by simp[oldK])⟩
    intro k t n e he;rw[T] at he;cases he
    exact ⟨rfl,rfl,rfl,by rw[hrr]⟩
 |false=>
  rw[hD] at hd
  cases hL:isL c with
  |true=>
   rw[hL] at hl
   simp (config:={maxSteps:=1000000}) (disch:=(first|assumption|omega|exact old_n (by omega)|exact old_hp (by assumption)|(simp only[nmL]<;>omega))) only[go_sem,seval,g1,g2,g3,g4,x1,x2,c0,(hd _).wf',(hl _).wf']
   generalize hM1:hp _ 1 M0=M1
   have hC1:Chg [] M0 M1:=by rw[←hM1];exact hp_of rfl
   have op0:=hC1.old or0
   have p1:M1.get (na M0 0)=some (.cells true [ii 0,.str [],u64 0,ii a]):=by rw[←hM1];exact h_getN
   have op1:Old M1 (na M0 0):=by rw[←hM1];exact old_n (by omega)
   have hb1:=hb0.chg hC1 fun _ _=>by simp
   have p0:=(hC1.get or0 (by simp)).trans r0
   have hge:a<=rowN isI s a:=rowN_ge
   have hle:rowN isI s a<=s.length:=rowN_le (Nat.le_of_lt ha)
   refine wNT_ssl (a:=a) (b:=rowN isI s a) hb1 hge (by simpa using hle) ?_ ?_ ?_
   ·intro K;simp (config:={maxSteps:=1000000}) (disch:=(first|assumption|omega|exact old_n (by omega)|exact old_hp (by assumption)|(simp only[nmL]<;>omega))) only[go_sem,seval]
   ·intro d K hd;simp (config:={maxSteps:=1000000}) (disch:=(first|assumption|omega|exact old_n (by omega)|exact old_hp (by assumption)|(simp only[nmL]<;>omega))) only[go_sem,seval]
   intro v' hv' _
   rw[byt_cut'] at hv'
   have hbt:=hv'.bts (fun c hc=>h256 c (List.mem_of_mem_take (List.mem_of_mem_drop hc)))
   rw[←hp_nil M1]
   have hbt:btsV (hp [] 0 M1) v'= .val (.str (cut s a (rowN isI s a))):=by rw[hp_nil];exact hbt
   simp (config:={maxSteps:=1000000}) (disch:=(first|assumption|omega|exact old_n (by omega)|exact old_hp (by assumption)|(simp only[nmL]<;>omega))) only[go_sem,seval,g1,g2,g3,g4,hbt,p1]
   generalize hM2:hp _ 0 M1=M2
   have hC2:Chg [na M0 0] M1 M2:=by rw[←hM2];exact (hp_of rfl).weak (by simp[oldK])
   have s0:=(hC2.get op0 (by simpa using na_ne)).trans p0
   have s1:M2.get (na M0 0)=some (.cells true [ii 1,.str (cut s a (rowN isI s a)),u64 0,ii a]):=by rw[←hM2];simp (config:={maxSteps:=1000000}) (disch:=(first|assumption|omega|exact old_n (by omega)|exact old_hp (by assumption)|(simp only[nmL]<;>omega))) only[go_sem,seval]
   have os0:=hC2.old op0
   have os1:=hC2.old op1
   obtain ⟨wv,M3,hw,rfl,hC3⟩:=word_r M2 (cut s a (rowN isI s a))
   have y0:=(hC3.get os0 (by simp)).trans s0
   have y1:=(hC3.get os1 (by simp)).trans s1
   have oy0:=hC3.old os0
   have oy1:=hC3.old os1
   have hC13:Chg [na M0 0] M0 M3:=(hC1.weak (T:= [na M0 0]) (by simp)).trans ((hC2.weak (T:= [na M0 0]) (by simp)).trans (hC3.weak (T:= [na M0 0]) (by simp)) (fun _ h _=>h)) (fun _ h _=>h)
   have TT:tokS s a=(if cut s a (rowN isI s a)∈wordsL then some (4,cut s a (rowN isI s a),0,rowN isI s a) else if (cut s a (rowN isI s a)).length<=16 then some (1,cut s a (rowN isI s a),0,rowN isI s a) else none):=by
    unfold tokS;rw[hbs];simp only[hL];rfl
   by_cases hwd:cut s a (rowN isI s a)∈wordsL
   ·rw[decide_eq_true hwd] at hw
    rw[if_pos hwd] at TT
    simp (config:={maxSteps:=1000000}) (disch:=(first|assumption|omega|exact old_n (by omega)|exact old_hp (by assumption)|(simp only[nmL]<;>omega))) only[go_sem,seval,hw.wf,g1,g2,g3,g4,y0,y1]
    refine hK _ _ ⟨⟨_,_,_,_,by rw[TT];rfl, ?_⟩,chF M3 hC13 (hp_of rfl) (by simp[oldK])⟩
    intro k t n e he;rw[TT] at he;cases he
    exact ⟨rfl,rfl,rfl,rfl⟩
   ·rw[decide_eq_false hwd] at hw
    rw[if_neg hwd] at TT
    by_cases h16:(cut s a (rowN isI s a)).length<=16
    ·rw[if_pos h16] at TT
     simp (config:={maxSteps:=1000000}) (disch:=(first|assumption|omega|exact old_n (by omega)|exact old_hp (by assumption)|(simp only[nmL]<;>omega))) only[go_sem,seval,hw.wf,g1,g2,g3,g4,y0,y1]
     refine hK _ _ ⟨⟨_,_,_,_,by rw[TT];rfl, ?_⟩,chF M3 hC13 (hp_of rfl) (by simp[oldK])⟩
     intro k t n e he;rw[TT] at he;cases he
     exact ⟨rfl,rfl,rfl,rfl⟩
    ·rw[if_neg h16] at TT
     simp (config:={maxSteps:=1000000}) (disch:=(first|assumption|omega|exact old_n (by omega)|exact old_hp (by assumption)|(simp only[nmL]<;>omega))) only[go_sem,seval,hw.wf,g1,g2,g3,g4,y0,y1]
     refine hK _ _ ⟨⟨_,_,_,_,by rw[TT];rfl, ?_⟩,chF M3 hC13 (hp_of rfl) (by simp[oldK])⟩
     intro k t n e he;rw[TT] at he;cases he
  |false=>
   rw[hL] at hl
   simp (config:={maxSteps:=1000000}) (disch:=(first|assumption|omega|exact old_n (by omega)|exact old_hp (by assumption)|(simp only[nmL]<;>omega))) only[go_sem,seval,g1,g2,g3,g4,x1,x2,c0,(hd _).wf',(hl _).wf']
   generalize hM1:hp _ 1 M0=M1
   have hC1:Chg [] M0 M1:=by rw[←hM1];exact hp_of rfl
   have p0:=(hC1.get or0 (by simp)).trans r0
   have op0:=hC1.old or0
   have p1:M1.get (na M0 0)=some (.cells true [ii 0,.str [],u64 0,ii a]):=by rw[←hM1];exact h_getN
   have op1:Old M1 (na M0 0):=by rw[←hM1];exact old_n (by omega)
   have T:tokS s a=if c∈signsL then some (3, [c],0,a+1) else none:=by unfold tokS;rw[hbs];simp[hL,hD]
   refine tk_r2 (c:=c) (a:=a) (by omega) p0 p1 op0 op1 na_ne ?_ ?_ ?_ ?_ ?_ ?_ ?_ ?_
   ·simp (config:={maxSteps:=1000000}) (disch:=(first|assumption|omega|exact old_n (by omega)|exact old_hp (by assumption)|(simp only[nmL]<;>omega))) only[go_sem,seval]<;>rfl
   ·simp (config:={maxSteps:=1000000}) (disch:=(first|assumption|omega|exact old_n (by omega)|exact old_hp (by assumption)|(simp only[nmL]<;>omega))) only[go_sem,seval]
   ·simp (config:={maxSteps:=1000000}) (disch:=(first|assumption|omega|exact old_n (by omega)|exact old_hp (by assumption)|(simp only[nmL]<;>omega))) only[go_sem,seval,g2]
   ·simp (config:={maxSteps:=1000000}) (disch:=(first|assumption|omega|exact old_n (by omega)|exact old_hp (by assumption)|(simp only[nmL]<;>omega))) only[go_sem,seval,g3]
   ·simp (config:={maxSteps:=1000000}) (disch:=(first|assumption|omega|exact old_n (by omega)|exact old_hp (by assumption)|(simp only[nmL]<;>omega))) only[go_sem,seval]
   ·simp (config:={maxSteps:=1000000}) (disch:=(first|assumption|omega|exact old_n (by omega)|exact old_hp (by assumption)|(simp only[nmL]<;>omega))) only[go_sem,seval]
   ·intro hm L' t' m' q0 hCm k1 k2 k3
    rw[if_pos hm] at T
    generalize puts L' t'=T' at k1 k2 k3
    change retG _ K .ret ⟨puts [] T', [],none,m'⟩
    simp (config:={maxSteps:=1000000}) (disch:=(first|assumption|omega|exact old_n (by omega)|exact old_hp (by assumption)|(simp only[nmL]<;>omega))) only[go_sem,seval,k1,k2,k3,q0]
    refine hK _ _ ⟨⟨_,_,_,_,by rw[T];rfl, ?_⟩,chF M1 hC1 hCm (by simp)⟩
    intro k t n e he;rw[T] at he;cases he
    exact ⟨rfl,rfl,rfl,by omega⟩
   ·intro hm L' t' k1 k2 k3
    rw[if_neg hm] at T
    generalize puts L' t'=T' at k1 k2 k3
    rw[←hp_nil M1]
    change wp _ _ _ _ ⟨puts [] T', [],none,_⟩ _
    simp (config:={maxSteps:=1000000}) (disch:=(first|assumption|omega|exact old_n (by omega)|exact old_hp (by assumption)|(simp only[nmL]<;>omega))) only[go_sem,seval,k1,k2,k3,p0,p1]
    refine hK _ _ ⟨⟨_,_,_,_,by rw[T];rfl, ?_⟩,chF M1 hC1 (hp_of rfl) (by simp[oldK])⟩
    intro k t n e he;rw[T] at he;cases he
theorem toks_r1 {m M0:NH} {vb:NV} {s:List Nat} (hs:s.length<=16384) (h256:∀c∈s,c<256) (hb:Sl m vb 1 (Byt s)) (hCm:Chg [] m M0) {t:Tm}
 (g1:NT.get D4.e t=some vb) (g2:NT.get D4.e.a.a t=some .nils) (g3:NT.get D4.e.a.b t=some (ii ((skipN s 0:Nat):Int))) {Q:Out->Dyn->Prop}
 (hbad:∀a,(toks s).2=some a->∀L t' M,Chg [] m M->NT.get D4.e.b (puts L t')=some .nils->NT.get D4.e.c (puts L t')=some (ii a)->NT.get D4.e.f (puts L t')=some (ii 2)->Q .ret ⟨puts L t', [],none,M⟩)
 (hok:∀T,toks s=(T++ [⟨5, [],0,s.length⟩],none)->∀L t' M u,Chg [] m M->Own m M u 4 (T.map Tok.l)->NT.get D4.e (puts L t')=some vb->NT.get D4.e.a.a (puts L t')=some u->Q (.exit 0) ⟨puts L t', [],none,M⟩):
 W Try.prog S0 none nf45_l1.loop ⟨t, [],none,M0⟩ Q:=by
 have hsk0:skipN s 0<=s.length:=skipN_le (Nat.zero_le _)
 refine W.loop (fun k d=>∃t M i L u,d=⟨t, [],none,M⟩/\NT.get D4.e t=some vb/\NT.get D4.e.a.a t=some u/\NT.get D4.e.a.b t=some (ii (i:Nat))/\i<=s.length/\s.length<=i+k/\Chg [] m M/\Own m M u 4 (L.map Tok.l)/\toks s=(L++(toksL s (k+1) i).1,(toksL s (k+1) i).2)) ?_ s.length _
  ⟨_,M0,skipN s 0, [],.nils,rfl,g1,g2,g3,hsk0,by omega,hCm,Own.nil,rfl⟩
 rintro k d ⟨t,M,i,L,u,rfl,g1,g2,g3,hi,hik,hC,hu,hT⟩
 apply wp_sound
 unfold nf45_l1
 change wp _ _ _ _ ⟨puts [] t, [],none,M⟩ _
 rw[←hp_nil M]
 have hLl:L.length<=s.length+1:=by
  have h:=toksL_len s (s.length+1) (skipN s 0)
  have h2:(toks s).1.length=_:=congrArg (fun x=>x.1.length) hT
  rw[List.length_append] at h2
  have h3:(toks s).1.length<=s.length+1:=h
  omega
 have hbM:=hb.chg hC fun _ _=>by simp
 have hlen:=hbM.len
 rw[show (Byt s).length=s.length by simp] at hlen
 by_cases hlt:i<s.length
 ·obtain ⟨k,rfl⟩:∃k',k=k'+1:=⟨k - 1,by omega⟩
  have hTs:toksL s (k+1+1) i=(match tokS s i with
   |none=>([],some i)
   |some (kd,t,n,e)=>(⟨kd,t,n,i⟩::(toksL s (k+1) (skipN s e)).1,(toksL s (k+1) (skipN s e)).2)):=by
   rw[toksL,if_pos hlt]
  obtain ⟨v,M2,hr,⟨k0,t0,n0,p,rfl,htk⟩,hC2⟩:=token_r (hp [] 0 M) (by omega) h256 (by rw[hp_nil];exact hbM) hlt
  have hC2:Chg [] M M2:=by rw[hp_nil] at hC2;exact hC2
  cases hk:tokS s i with
  |none=>
   rw[hk] at hr
   have hr:Ret Try.prog S0 83 [vb,ii i] (hp [] 0 M) (.tup [.agg [ii k0,.str t0,.int .u64 (.lit n0),ii i],ii p,ii 2]) M2:=hr
   rw[hTs,hk] at hT
   simp (config:={maxSteps:=1000000}) (disch:=(first|assumption|omega|exact old_n (by omega)|exact old_hp (by assumption)|(simp only[nmL]<;>omega))) only[go_sem,seval,g1,g2,g3,hlen,hr.wf]
   refine hbad i (by rw[hT]) _ _ _ ((hC.trans hC2 (by simp)).trans (hp_of rfl) (by simp[oldK])) ?_ ?_ ?_
   ·simp (config:={maxSteps:=1000000}) (disch:=(first|assumption|omega|exact old_n (by omega)|exact old_hp (by assumption)|(simp only[nmL]<;>omega))) only[go_sem,seval]
   ·simp (config:={maxSteps:=1000000}) (disch:=(first|assumption|omega|exact old_n (by omega)|exact old_hp (by assumption)|(simp only[nmL]<;>omega))) only[go_sem,seval]
   ·simp (config:={maxSteps:=1000000}) (disch:=(first|assumption|omega|exact old_n (by omega)|exact old_hp (by assumption)|(simp only[nmL]<;>omega))) only[go_sem,seval]
  |some x=>
   obtain ⟨kd,tx,n,e⟩:=x
   rw[hk] at hr
   obtain ⟨e0,e1,e2,e3⟩:=htk kd tx n e hk
   rw[e0,e1,e2,e3] at hr
   have hr:Ret Try.prog S0 83 [vb,ii i] (hp [] 0 M) (.tup [.agg [ii kd,.str tx,.int .u64 (.lit (n:Int)),ii i],ii e,ii 0]) M2:=hr
   obtain ⟨l1,l2⟩:=tokS_e hk
   simp (config:={maxSteps:=1000000}) (disch:=(first|assumption|omega|exact old_n (by omega)|exact old_hp (by assumption)|(simp only[nmL]<;>omega))) only[go_sem,seval,g1,g2,g3,hlen,hr.wf]
   generalize hM3:hp _ 2 M2=M3
   have hC3:Chg [] M2 M3:=by rw[←hM3];exact hp_of rfl
   have n1:M3.get (na M2 1)=some (.cells true (Tok.l ⟨kd,tx,n,i⟩)):=by rw[←hM3];exact h_getN
   have on1:Old M3 (na M2 1):=by rw[←hM3];exact old_n (by omega)
   have hCC:Chg [] m M3:=hC.trans (hC2.trans hC3 (by simp)) (by simp)
   refine wNT_app1 (hu.chg (hC2.trans hC3 fun _ h _=>h) fun _ _=>by simp) n1 on1 rfl (fun i hi=>hCC.old hi) (by simp;omega) (by simp;omega) ?_
   intro u' M5 hu' hC5
   have hC6:Chg [] m M5:=(hCC.weak (T:=ids u) (by simp)).trans hC5 (fun _ h _=>h) |>.weak (by intro j hj ho;exact absurd ho (hu.new j hj))
   have hsk:Ret Try.prog S0 82 [vb,ii e] (hp [] 0 M5) (ii ((skipN s e:Nat):Int)) (hp [] 0 M5):=skip_r _ (by omega) (by rw[hp_nil];exact hb.chg hC6 fun _ _=>by simp) l2
   simp (config:={maxSteps:=1000000}) (disch:=(first|assumption|omega|exact old_n (by omega)|exact old_hp (by assumption)|(simp only[nmL]<;>omega))) only[go_sem,seval,g1,g2,g3,hsk.wf']
   have hge:e<=skipN s e:=skipN_ge
   refine ⟨k,by omega,_,M5,skipN s e,L++ [⟨kd,tx,n,i⟩],u',by rw[hp_nil], ?_, ?_, ?_,skipN_le l2,by omega,hC6, ?_, ?_⟩
   ·simp (config:={maxSteps:=1000000}) (disch:=(first|assumption|omega|exact old_n (by omega)|exact old_hp (by assumption)|(simp only[nmL]<;>omega))) only[go_sem,seval,g1]
   ·simp (config:={maxSteps:=1000000}) (disch:=(first|assumption|omega|exact old_n (by omega)|exact old_hp (by assumption)|(simp only[nmL]<;>omega))) only[go_sem,seval]
   ·simp (config:={maxSteps:=1000000}) (disch:=(first|assumption|omega|exact old_n (by omega)|exact old_hp (by assumption)|(simp only[nmL]<;>omega))) only[go_sem,seval]
   ·rw[List.map_append];exact hu'
   ·rw[hT,hTs,hk];simp
 ·have hTs:toksL s (k+1) i=([⟨5, [],0,s.length⟩],none):=by rw[toksL,if_neg hlt]
  rw[hTs] at hT
  simp (config:={maxSteps:=1000000}) (disch:=(first|assumption|omega|exact old_n (by omega)|exact old_hp (by assumption)|(simp only[nmL]<;>omega))) only[go_sem,seval,g1,g2,g3,hlen]
  rw[hp_nil]
  refine hok L hT _ _ _ u hC hu ?_ ?_
  ·simp (config:={maxSteps:=1000000}) (disch:=(first|assumption|omega|exact old_n (by omega)|exact old_hp (by assumption)|(simp only[nmL]<;>omega))) only[go_sem,seval,g1]
  ·simp (config:={maxSteps:=1000000}) (disch:=(first|assumption|omega|exact old_n (by omega)|exact old_hp (by assumption)|(simp only[nmL]<;>omega))) only[go_sem,seval,g2]
theorem tokens_r (m:NH) {v:NV} {b:List Nat} (hv:Sl m v 1 (Byt b)) (hb:∀c∈b,c<256):
 ∃r m',Ret Try.prog S0 45 [v] m r m'/\(if 16384<b.length then r= .tup [.nils,ii 0,ii 3] else (match (toks b).2 with|some a=>r= .tup [.nils,ii a,ii 2]|none=>∃u,r= .tup [u,ii b.length,ii 0]/\Own m m' u 4 ((toks b).1.map Tok.l)))/\Chg [] m m':=by
 refine WF.ex fun K hK=> ?_
 refine WF.of_wpG (fun _=>rfl) nf45_eq (L:= [(.e,v)]) rfl ?_
 unfold nf45
 have hlen:=hv.len
 rw[show (Byt b).length=b.length by simp] at hlen
 by_cases h1:16384<b.length
 ·simp (config:={maxSteps:=1000000}) (disch:=(first|assumption|omega|exact old_n (by omega)|exact old_hp (by assumption)|(simp only[nmL]<;>omega))) only[go_sem,seval,hlen,hp_nil]
  refine hK _ _ ⟨by rw[if_pos h1],Chg.refl m⟩
 ·have hs0:Ret Try.prog S0 82 [v,ii 0] m (ii ((skipN b 0:Nat):Int)) m:=skip_r m (by omega) hv (a:=0) (Nat.zero_le _)
  simp (config:={maxSteps:=1000000}) (disch:=(first|assumption|omega|exact old_n (by omega)|exact old_hp (by assumption)|(simp only[nmL]<;>omega))) only[go_sem,seval,hlen,hp_nil,hs0.wf']
  refine toks_r1 (m:=m) (s:=b) (vb:=v) (by omega) hb hv (Chg.refl m) ?_ ?_ ?_ ?_ ?_
  ·simp (config:={maxSteps:=1000000}) (disch:=(first|assumption|omega|exact old_n (by omega)|exact old_hp (by assumption)|(simp only[nmL]<;>omega))) only[go_sem,seval]
  ·simp (config:={maxSteps:=1000000}) (disch:=(first|assumption|omega|exact old_n (by omega)|exact old_hp (by assumption)|(simp only[nmL]<;>omega))) only[go_sem,seval]
  ·simp (config:={maxSteps:=1000000}) (disch:=(first|assumption|omega|exact old_n (by omega)|exact old_hp (by assumption)|(simp only[nmL]<;>omega))) only[go_sem,seval]
  ·intro a he L t M hC g1 g2 g3
   generalize puts L t=T at g1 g2 g3
   change retG _ K .ret ⟨puts [] T, [],none,M⟩
   simp (config:={maxSteps:=1000000}) (disch:=(first|assumption|omega|exact old_n (by omega)|exact old_hp (by assumption)|(simp only[nmL]<;>omega))) only[go_sem,seval,g1,g2,g3]
   refine hK _ _ ⟨by rw[if_neg h1,he],hC⟩
  ·intro Tl hT L t M u hC hu g1 g2
   generalize puts L t=T at g1 g2
   change wp _ _ _ _ ⟨puts [] T, [],none,M⟩ _
   rw[←hp_nil M]
   have hlen:=(hv.chg hC fun _ _=>by simp).len
   rw[show (Byt b).length=b.length by simp] at hlen
   have hTl:Tl.length<=b.length+1:=by
    have h:=toksL_len b (b.length+1) (skipN b 0)
    have h2:(toks b).1.length=_:=congrArg (fun x=>x.1.length) hT
    rw[List.length_append] at h2
    have h3:(toks b).1.length<=b.length+1:=h
    omega
   simp (config:={maxSteps:=1000000}) (disch:=(first|assumption|omega|exact old_n (by omega)|exact old_hp (by assumption)|(simp only[nmL]<;>omega))) only[go_sem,seval,g1,g2,hlen]
   generalize hM3:hp _ 1 M=M3
   have hC3:Chg [] M M3:=by rw[←hM3];exact hp_of rfl
   have n1:M3.get (na M 0)=some (.cells true (Tok.l ⟨5, [],0,b.length⟩)):=by rw[←hM3];exact h_getN
   have on1:Old M3 (na M 0):=by rw[←hM3];exact old_n (by omega)
   have hCC:Chg [] m M3:=hC.trans hC3 (by simp)
   refine wNT_app1 (hu.chg hC3 fun _ _=>by simp) n1 on1 rfl (fun i hi=>hCC.old hi) (by simp;omega) (by simp;omega) ?_
   intro u' M5 hu' hC5
   have hC6:Chg [] m M5:=(hCC.weak (T:=ids u) (by simp)).trans hC5 (fun _ h _=>h) |>.weak (by intro j hj ho;exact absurd ho (hu.new j hj))
   have hlen5:=(hv.chg hC6 fun _ _=>by simp).len
   rw[show (Byt b).length=b.length by simp] at hlen5
   simp (config:={maxSteps:=1000000}) (disch:=(first|assumption|omega|exact old_n (by omega)|exact old_hp (by assumption)|(simp only[nmL]<;>omega))) only[go_sem,seval,g1,g2,hlen5]
   rw[hp_nil]
   refine hK _ _ ⟨?_,hC6⟩
   rw[if_neg h1,hT]
   exact ⟨u',rfl,by rw[List.map_append];exact hu'⟩
end FR
open Go Nm Go.Proofs
namespace FR
set_option linter.unusedSimpArgs false
set_option linter.unusedVariables false
structure Rs where
 (a e b:Nat)
def nowT (L:List Tok) (a:Nat):Tok:=(L[a]?).getD ⟨0, [],0,0⟩
def failR (e:Nat) (s:Rs):Rs:=if s.e=0 then ⟨s.a,e,s.a⟩ else s
def nextR (s:Rs):Rs:=⟨s.a+1,s.e,s.b⟩
def kindW:List Nat->Nat
 |c::_=>if isL c then 4 else 3
 | []=>3
def takeB (L:List Tok) (w:List Nat) (s:Rs):Bool:=decide (s.e=0/\(nowT L s.a).k=kindW w/\(nowT L s.a).t=w)
def wantR (L:List Tok) (w:List Nat) (s:Rs):Rs:=if takeB L w s then nextR s else failR 2 s
def nameR (L:List Tok) (s:Rs):List Nat×Rs:=if s.e≠0∨(nowT L s.a).k≠1 then ([],failR 2 s) else ((nowT L s.a).t,nextR s)
structure RD (m:NH) (r:D4) (vl:NV) (s:Rs) (rest:List NV):Prop where
 g:m.get r=some (.cells true (vl::ii s.a::ii s.e::ii s.b::rest))
 o:Old m r
structure RC (m0:NH) (L:List Tok) (vl:NV) (r:D4):Prop where
 sl:Sl m0 vl 4 (L.map Tok.l)
 len:L.length<=20000
 no:¬Old m0 r
theorem RD.chg {m m':NH} {r:D4} {vl:NV} {s:Rs} {rest:List NV} {S:List D4} (h:RD m r vl s rest) (hC:Chg S m m') (hr:r∉S):RD m' r vl s rest:=⟨(hC.get h.o hr).trans h.g,hC.old h.o⟩
theorem RC.chg {m0 m m':NH} {L:List Tok} {vl:NV} {r:D4} (h:RC m0 L vl r) (h0:Chg [] m0 m) (hC:Chg [r] m m'):Chg [] m0 m':=h0.trans hC fun i hi ho=>by
 simp only[List.mem_cons,List.not_mem_nil,or_false] at hi;subst hi;exact absurd ho h.no
theorem takeB_lt {L:List Tok} {w:List Nat} {s:Rs} (h:takeB L w s=true):s.e=0/\s.a<L.length:=by
 obtain ⟨h1,h2,h3⟩:=of_decide_eq_true h
 refine ⟨h1, ?_⟩
 rcases Nat.lt_or_ge s.a L.length with q|q
 ·exact q
 ·rw[nowT,List.getElem?_eq_none q] at h2
  have:kindW w≠0:=by unfold kindW;split;split<;>omega;omega
  exact absurd h2.symm this
theorem tl0 {T:Tok}:T.l[0]? =some (ii T.k):=_root_.id rfl
theorem tl1 {T:Tok}:T.l[1]? =some (.str T.t):=_root_.id rfl
theorem tl2 {T:Tok}:T.l[2]? =some (u64 T.n):=_root_.id rfl
section
variable {m0 m:NH} {L:List Tok} {vl:NV} {r:D4} {s:Rs} {rest:List NV}
theorem fail_r (hd:RD m r vl s rest) (e:Nat):∃m',Ret Try.prog S0 86 [.ptr r 0,ii e] m (.tup []) m'/\RD m' r vl (failR e s) rest/\Chg [r] m m':=by
 refine WF.ex1 fun K hK=> ?_
 refine WF.of_wpG (fun _=>rfl) nf86_eq (L:= [(.a .e,ii e),(.e,.ptr r 0)]) rfl ?_
 unfold nf86
 obtain ⟨g,o⟩:=hd
 by_cases h:s.e=0
 ·rw[h] at g
  simp (config:={maxSteps:=1000000}) (disch:=(first|assumption|omega|exact old_n (by omega)|exact old_hp (by assumption)|(simp only[nmL]<;>omega))) only[go_sem,seval,g]
  refine hK _ ⟨⟨?_,old_hp o⟩,(hp_of rfl).weak (by intro i hi _;simpa [oldK] using hi)⟩
  rw[failR,if_pos h]
  exact (h_getO o).trans h_lookOs
 ·have hd:decide ((s.e:Int)=0)=false:=decide_eq_false (by omega)
  simp (config:={maxSteps:=1000000}) (disch:=(first|assumption|omega|exact old_n (by omega)|exact old_hp (by assumption)|(simp only[nmL]<;>omega))) only[go_sem,seval,g,hd,hp_nil]
  refine hK _ ⟨⟨?_,o⟩,(Chg.refl m).weak (by simp)⟩
  rw[failR,if_neg h];exact g
theorem now_r (hc:RC m0 L vl r) (h0:Chg [] m0 m) (hd:RD m r vl s rest):∃m',Ret Try.prog S0 46 [.ptr r 0] m (.agg (nowT L s.a).l) m'/\Chg [] m m':=by
 refine WF.ex1 fun K hK=> ?_
 refine WF.of_wpG (fun _=>rfl) nf46_eq (L:= [(.e,.ptr r 0)]) rfl ?_
 unfold nf46
 obtain ⟨g,o⟩:=hd
 have hs:=hc.sl.chg h0 fun _ _=>by simp
 have hlen:=hs.len
 have hll:=hc.len
 rw[List.length_map] at hlen
 have hvs:sameV 4 vl vl=true:=hs.same
 by_cases h:s.a<L.length
 ·obtain ⟨id,off,w,c,a1,a2,a3,a4,a5⟩:=hs.at s.a (by simpa using h)
  rw[List.getElem_map] at a5
  have hl:(Tok.l L[s.a]).length=4:=rfl
  have hl':(Tok.l L[s.a]).take 4=Tok.l L[s.a]:=rfl
  simp (config:={maxSteps:=1000000}) (disch:=(first|assumption|omega|exact old_n (by omega)|exact old_hp (by assumption)|(simp only[nmL]<;>omega))) only[go_sem,seval,g,hlen,a1,a2,a5,hl,hl',hvs]
  have e:nowT L s.a=L[s.a]:=by rw[nowT,List.getElem?_eq_getElem h];rfl
  rw[e] at hK
  exact hK _ (hp_of rfl)
 ·have e:nowT L s.a=⟨0, [],0,0⟩:=by rw[nowT,List.getElem?_eq_none (by omega)];rfl
  rw[e] at hK
  simp (config:={maxSteps:=1000000}) (disch:=(first|assumption|omega|exact old_n (by omega)|exact old_hp (by assumption)|(simp only[nmL]<;>omega))) only[go_sem,seval,g,hlen,hvs]
  exact hK _ (hp_of rfl)
theorem take_r (hc:RC m0 L vl r) (h0:Chg [] m0 m) (hd:RD m r vl s rest) (w:List Nat) (hw:w≠ []) (ha:s.a<=100000):∃m',Ret Try.prog S0 84 [.ptr r 0,.str w] m (.bool (takeB L w s)) m'/\RD m' r vl (if takeB L w s then nextR s else s) rest/\Chg [r] m m':=by
 refine WF.ex1 fun K hK=> ?_
 refine WF.of_wpG (fun _=>rfl) nf84_eq (L:= [(.a .e,.str w),(.e,.ptr r 0)]) rfl ?_
 unfold nf84
 simp (config:={maxSteps:=1000000}) (disch:=(first|assumption|omega|exact old_n (by omega)|exact old_hp (by assumption)|(simp only[nmL]<;>omega))) only[go_sem,seval,hp_nil]
 refine WF.use1H (now_r hc h0 hd) ?_
 intro m1 hC1
 have hd1:=hd.chg hC1 (by simp)
 generalize hT:nowT L s.a=T
 obtain ⟨c,w',rfl⟩:=List.exists_cons_of_ne_nil hw
 have hw0:(c::w')[0]? =some c:=rfl
 obtain ⟨g,o⟩:=hd1
 have hkw:kindW (c::w')=if isL c then 4 else 3:=rfl
 have hl:(Tok.l T).length=4:=rfl
 have hlr:=letter_r
 have yes:∀M,takeB L (c::w') s=true->Chg [r] m M->M.get r=some (.cells true (vl::ii (s.a+1:Nat)::ii s.e::ii s.b::rest))->Old M r->K (.bool true) M:=fun M h1 h2 h3 h4=>by
  rw[h1,if_pos rfl] at hK
  exact hK M ⟨⟨h3,h4⟩,h2⟩
 have no:∀M,takeB L (c::w') s=false->Chg [] m M->K (.bool false) M:=fun M h1 h2=>by
  rw[h1,if_neg (by simp)] at hK
  exact hK M ⟨hd.chg h2 (by simp),h2.weak (by simp)⟩
 have tb:∀k,kindW (c::w')=k->takeB L (c::w') s=decide (s.e=0/\T.k=k/\T.t=c::w'):=fun k hk=>by rw[takeB,hT,hk]
 have hC2:∀l,oldK l= []->Chg [] m (hp l 1 m1):=fun l e=>hC1.trans (hp_of e) (by simp)
 cases hlt:isL c with
 |true=>
  have tb:=tb 4 (by rw[hkw,hlt];rfl)
  by_cases he:s.e=0
  ·by_cases hk:T.k=4
   ·by_cases ht:T.t=c::w'
    ·simp (config:={maxSteps:=1000000}) (disch:=(first|assumption|omega|exact old_n (by omega)|exact old_hp (by assumption)|(simp only[nmL]<;>omega))) only[go_sem,seval,hw0,hl,tl0,tl1,(hlr _ _).wf',hlt,g]
     refine yes _ (by rw[tb];simp[he,hk,ht]) ?_ ((h_getO o).trans h_lookOs) (old_hp o)
     exact (hC1.weak (by simp)).trans (hp_of rfl) (by simp[oldK])
    ·simp (config:={maxSteps:=1000000}) (disch:=(first|assumption|omega|exact old_n (by omega)|exact old_hp (by assumption)|(simp only[nmL]<;>omega))) only[go_sem,seval,hw0,hl,tl0,tl1,(hlr _ _).wf',hlt,g]
     refine no _ (by rw[tb];simp[ht]) ?_;exact hC2 _ rfl
   ·simp (config:={maxSteps:=1000000}) (disch:=(first|assumption|omega|exact old_n (by omega)|exact old_hp (by assumption)|(simp only[nmL]<;>omega))) only[go_sem,seval,hw0,hl,tl0,tl1,(hlr _ _).wf',hlt,g]
    refine no _ (by rw[tb];simp[hk]) ?_;exact hC2 _ rfl
  ·simp (config:={maxSteps:=1000000}) (disch:=(first|assumption|omega|exact old_n (by omega)|exact old_hp (by assumption)|(simp only[nmL]<;>omega))) only[go_sem,seval,hw0,hl,tl0,tl1,(hlr _ _).wf',hlt,g]
   refine no _ (by rw[tb];simp[he]) ?_;exact hC2 _ rfl
 |false=>
  have tb:=tb 3 (by rw[hkw,hlt];rfl)
  by_cases he:s.e=0
  ·by_cases hk:T.k=3
   ·by_cases ht:T.t=c::w'
    ·simp (config:={maxSteps:=1000000}) (disch:=(first|assumption|omega|exact old_n (by omega)|exact old_hp (by assumption)|(simp only[nmL]<;>omega))) only[go_sem,seval,hw0,hl,tl0,tl1,(hlr _ _).wf',hlt,g]
     refine yes _ (by rw[tb];simp[he,hk,ht]) ?_ ((h_getO o).trans h_lookOs) (old_hp o)
     exact (hC1.weak (by simp)).trans (hp_of rfl) (by simp[oldK])
    ·simp (config:={maxSteps:=1000000}) (disch:=(first|assumption|omega|exact old_n (by omega)|exact old_hp (by assumption)|(simp only[nmL]<;>omega))) only[go_sem,seval,hw0,hl,tl0,tl1,(hlr _ _).wf',hlt,g]
     refine no _ (by rw[tb];simp[ht]) ?_;exact hC2 _ rfl
   ·simp (config:={maxSteps:=1000000}) (disch:=(first|assumption|omega|exact old_n (by omega)|exact old_hp (by assumption)|(simp only[nmL]<;>omega))) only[go_sem,seval,hw0,hl,tl0,tl1,(hlr _ _).wf',hlt,g]
    refine no _ (by rw[tb];simp[hk]) ?_;exact hC2 _ rfl
  ·simp (config:={maxSteps:=1000000}) (disch:=(first|assumption|omega|exact old_n (by omega)|exact old_hp (by assumption)|(simp only[nmL]<;>omega))) only[go_sem,seval,hw0,hl,tl0,tl1,(hlr _ _).wf',hlt,g]
   refine no _ (by rw[tb];simp[he]) ?_;exact hC2 _ rfl
theorem want_r (hc:RC m0 L vl r) (h0:Chg [] m0 m) (hd:RD m r vl s rest) (w:List Nat) (hw:w≠ []) (ha:s.a<=100000):∃m',Ret Try.prog S0 87 [.ptr r 0,.str w] m (.tup []) m'/\RD m' r vl (wantR L w s) rest/\Chg [r] m m':=by
 refine WF.ex1 fun K hK=> ?_
 refine WF.of_wpG (fun _=>rfl) nf87_eq (L:= [(.a .e,.str w),(.e,.ptr r 0)]) rfl ?_
 unfold nf87
 simp (config:={maxSteps:=1000000}) (disch:=(first|assumption|omega|exact old_n (by omega)|exact old_hp (by assumption)|(simp only[nmL]<;>omega))) only[go_sem,seval,hp_nil]
 refine WF.use1 (take_r hc h0 hd w hw ha) ?_
 rintro m1 ⟨hd1,hC1⟩
 unfold wantR at hK
 cases hb:takeB L w s with
 |true=>
  rw[hb] at hd1 hK
  simp (config:={maxSteps:=1000000}) (disch:=(first|assumption|omega|exact old_n (by omega)|exact old_hp (by assumption)|(simp only[nmL]<;>omega))) only[go_sem,seval]
  exact hK _ ⟨hd1,hC1⟩
 |false=>
  rw[hb] at hd1 hK
  simp (config:={maxSteps:=1000000}) (disch:=(first|assumption|omega|exact old_n (by omega)|exact old_hp (by assumption)|(simp only[nmL]<;>omega))) only[go_sem,seval]
  refine WF.use1 (fail_r (s:=s) hd1 2) ?_
  rintro m2 ⟨hd2,hC2⟩
  simp (config:={maxSteps:=1000000}) (disch:=(first|assumption|omega|exact old_n (by omega)|exact old_hp (by assumption)|(simp only[nmL]<;>omega))) only[go_sem,seval]
  exact hK _ ⟨hd2,hC1.trans hC2 fun _ h _=>h⟩
theorem name_r (hc:RC m0 L vl r) (h0:Chg [] m0 m) (hd:RD m r vl s rest) (ha:s.a<=100000):∃m',Ret Try.prog S0 85 [.ptr r 0] m (.str (nameR L s).1) m'/\RD m' r vl (nameR L s).2 rest/\Chg [r] m m':=by
 refine WF.ex1 fun K hK=> ?_
 refine WF.of_wpG (fun _=>rfl) nf85_eq (L:= [(.e,.ptr r 0)]) rfl ?_
 unfold nf85
 simp (config:={maxSteps:=1000000}) (disch:=(first|assumption|omega|exact old_n (by omega)|exact old_hp (by assumption)|(simp only[nmL]<;>omega))) only[go_sem,seval,hp_nil]
 refine WF.use1H (now_r hc h0 hd) ?_
 intro m1 hC1
 have hd1:=hd.chg hC1 (by simp)
 have hl:(Tok.l (nowT L s.a)).length=4:=rfl
 unfold nameR at hK
 generalize nowT L s.a=T at hK hl
 obtain ⟨g,o⟩:=hd1
 have bad:(s.e≠0∨T.k≠1)->∀M,Chg [] m M->∃m',Ret Try.prog S0 86 [.ptr r 0,ii 2] M (.tup []) m'/\K (.str []) m':=fun h M hC=>by
  rw[if_pos h] at hK
  obtain ⟨m2,h1,hd2,hC2⟩:=fail_r (hd.chg hC (by simp)) 2
  exact ⟨m2,h1,hK _ ⟨hd2,(hC.weak (by simp)).trans hC2 fun _ h _=>h⟩⟩
 by_cases he:s.e=0
 ·by_cases hk:T.k=1
  ·rw[if_neg (by omega)] at hK
   simp (config:={maxSteps:=1000000}) (disch:=(first|assumption|omega|exact old_n (by omega)|exact old_hp (by assumption)|(simp only[nmL]<;>omega))) only[go_sem,seval,hl,tl0,tl1,g]
   refine hK _ ⟨⟨(h_getO o).trans h_lookOs,old_hp o⟩,(hC1.weak (by simp)).trans (hp_of rfl) (by simp[oldK])⟩
  ·simp (config:={maxSteps:=1000000}) (disch:=(first|assumption|omega|exact old_n (by omega)|exact old_hp (by assumption)|(simp only[nmL]<;>omega))) only[go_sem,seval,hl,tl0,tl1,g]
   refine WF.use1 (bad (Or.inr hk) _ (chg_hp hC1 rfl)) ?_
   intro M h
   simp (config:={maxSteps:=1000000}) (disch:=(first|assumption|omega|exact old_n (by omega)|exact old_hp (by assumption)|(simp only[nmL]<;>omega))) only[go_sem,seval]
   exact h
 ·simp (config:={maxSteps:=1000000}) (disch:=(first|assumption|omega|exact old_n (by omega)|exact old_hp (by assumption)|(simp only[nmL]<;>omega))) only[go_sem,seval,hl,tl0,tl1,g]
  refine WF.use1 (bad (Or.inl he) _ (chg_hp hC1 rfl)) ?_
  intro M h
  simp (config:={maxSteps:=1000000}) (disch:=(first|assumption|omega|exact old_n (by omega)|exact old_hp (by assumption)|(simp only[nmL]<;>omega))) only[go_sem,seval]
  exact h
end
end FR
open Go Nm Go.Proofs
namespace FR
set_option linter.unusedSimpArgs false
set_option linter.unusedVariables false
abbrev intE (n:Nat):Ex:= .mk 0 n 0 [] []
abbrev nameE (s:List Nat):Ex:= .mk 1 0 0 s []
abbrev opE (o:Nat) (x y:Ex):Ex:= .mk 2 0 o [] [x,y]
mutual
def Ex.depth:Ex->Nat
 | .mk _ _ _ _ ks=>depthL ks+1
def depthL:List Ex->Nat
 | []=>0
 |x::xs=>max x.depth (depthL xs)
end
theorem depthL_append (a b:List Ex):depthL (a++b)=max (depthL a) (depthL b):=by
 induction a with
 |nil=>simp[depthL]
 |cons x a ih=>rw[List.cons_append,depthL,depthL,ih];omega
section
variable (L:List Tok)
def partF (E:Rs->Ex×Rs) (d:Nat) (s:Rs):Ex×Rs:=
 if s.e≠0 then (zE,s) else if 29<d then (zE,failR 11 s) else if (nowT L s.a).k=2 then (intE (nowT L s.a).n,nextR s) else if (nowT L s.a).k=1 then (nameE (nowT L s.a).t,nextR s)
 else if takeB L [40] s=true then ((E (nextR s)).1,wantR L [41] (E (nextR s)).2) else (zE,failR 2 s)
def opOf (T:Tok):Nat:=if T.k=3/\T.t.length=1 then T.t.headD 0 else 0
def isOp (o:Nat):Bool:=decide (o=43∨o=45∨o=42∨o=38∨o=61∨o=60)
def loopE (P:Rs->Ex×Rs):Nat->Ex->Rs->Ex×Rs
 |0,x,s=>(x,s)
 |f+1,x,s=>if s.e≠0 then (x,s) else if isOp (opOf (nowT L s.a))=false then (x,s) else
  if (P (nextR s)).2.e≠0 then (x,(P (nextR s)).2) else
   loopE P f (opE (opOf (nowT L s.a)) x (P (nextR s)).1) (if 30<(opE (opOf (nowT L s.a)) x (P (nextR s)).1).depth then failR 11 (P (nextR s)).2 else (P (nextR s)).2)
def exprL (E:Rs->Ex×Rs) (d:Nat) (s:Rs):Ex×Rs:=loopE L (partF L E d) (L.length+1) (partF L E d s).1 (partF L E d s).2
def exprN:Nat->Rs->Ex×Rs
 |0,s=>exprL L (fun s=>(zE,s)) 30 s
 |n+1,s=>exprL L (exprN n) (29 - n) s
end
structure St (L:List Tok) (s s':Rs):Prop where
 le:s.a<=s'.a
 lim:s.a<=L.length->s'.a<=L.length
 err:s.e≠0->s'=s
 lim2:∀{N:Nat},(∀a,1<=(nowT L a).k->(nowT L a).k<=4->a<N)->s.a<=N->s.b<=N->s'.a<=N/\s'.b<=N
theorem St.refl (L:List Tok) (s:Rs):St L s s:=⟨Nat.le_refl _,fun h=>h,fun _=>rfl,fun _ h1 h2=>⟨h1,h2⟩⟩
theorem St.trans {L:List Tok} {a b c:Rs} (h:St L a b) (h':St L b c):St L a c:=⟨Nat.le_trans h.le h'.le,fun q=>h'.lim (h.lim q),fun q=>by have:=h.err q;subst this;exact h'.err q,fun hN h1 h2=>let ⟨q1,q2⟩:=h.lim2 hN h1 h2;h'.lim2 hN q1 q2⟩
theorem St.zero {L:List Tok} {s s':Rs} (h:St L s s') (e:s'.e=0):s.e=0:=by
 rcases Nat.eq_zero_or_pos s.e with q|q
 ·exact q
 ·have:=h.err (by omega);subst this;exact e
theorem st_fail (L:List Tok) (e:Nat) (s:Rs):St L s (failR e s):=by
 unfold failR
 split
 ·exact ⟨Nat.le_refl _,fun h=>h,fun h=>absurd ‹_› h,fun _ h1 _=>⟨h1,h1⟩⟩
 ·exact St.refl L s
theorem st_next {L:List Tok} {s:Rs} (h:s.a<L.length) (he:s.e=0) (hk:1<=(nowT L s.a).k/\(nowT L s.a).k<=4):St L s (nextR s):=⟨Nat.le_succ _,fun _=>h,fun q=>absurd he q,fun hN _ h2=>⟨hN _ hk.1 hk.2,h2⟩⟩
theorem st_take {L:List Tok} {w:List Nat} {s:Rs} (h:takeB L w s=true):St L s (nextR s):=by
 obtain ⟨h1,h2,h3⟩:=of_decide_eq_true h
 refine st_next (takeB_lt h).2 h1 ?_
 rw[h2]
 unfold kindW
 split
 ·split<;>omega
 ·omega
theorem now_lt {L:List Tok} {a:Nat} (h:(nowT L a).k≠0):a<L.length:=by
 rcases Nat.lt_or_ge a L.length with q|q
 ·exact q
 ·rw[nowT,List.getElem?_eq_none q] at h;exact absurd rfl h
theorem st_want (L:List Tok) (w:List Nat) (s:Rs):St L s (wantR L w s):=by
 unfold wantR
 split
 ·rename_i h;exact st_take h
 ·exact st_fail _ _ _
theorem st_name (L:List Tok) (s:Rs):St L s (nameR L s).2:=by
 unfold nameR
 split
 ·exact st_fail _ _ _
 ·rename_i h
  exact st_next (now_lt (by omega)) (by omega) (by omega)
theorem st_part {L:List Tok} {E:Rs->Ex×Rs} {d:Nat} (hE:∀s,St L s (E s).2) (s:Rs):St L s (partF L E d s).2:=by
 unfold partF
 split
 ·exact St.refl _ _
 ·split
  ·exact st_fail _ _ _
  ·split
   ·exact st_next (now_lt (by omega)) (by omega) (by omega)
   ·split
    ·exact st_next (now_lt (by omega)) (by omega) (by omega)
    ·split
     ·rename_i h;exact ((st_take h).trans (hE _)).trans (st_want _ _ _)
     ·exact st_fail _ _ _
theorem opOf_lt {L:List Tok} {a:Nat} (h:isOp (opOf (nowT L a))=true):a<L.length:=by
 refine now_lt fun q=> ?_
 unfold opOf at h
 rw[if_neg (by omega)] at h
 exact absurd h (by decide)
theorem opOf_k {L:List Tok} {a:Nat} (h:isOp (opOf (nowT L a))=true):1<=(nowT L a).k/\(nowT L a).k<=4:=by
 unfold opOf at h
 by_cases q:(nowT L a).k=3/\(nowT L a).t.length=1
 ·omega
 ·rw[if_neg q] at h;exact absurd h (by decide)
theorem st_loop {L:List Tok} {P:Rs->Ex×Rs} (hP:∀s,St L s (P s).2):∀(f:Nat) (x:Ex) (s:Rs),St L s (loopE L P f x s).2:=by
 intro f
 induction f with
 |zero=>intro x s;exact St.refl _ _
 |succ f ih=>
  intro x s
  rw[loopE]
  split
  ·exact St.refl _ _
  ·split
   ·exact St.refl _ _
   ·rename_i h1 h2
    have h3:=(st_next (opOf_lt (by simpa using h2)) (by omega:s.e=0) (opOf_k (by simpa using h2))).trans (hP (nextR s))
    split
    ·exact h3
    ·refine (h3.trans ?_).trans (ih _ _)
     split
     ·exact st_fail _ _ _
     ·exact St.refl _ _
theorem st_exprL {L:List Tok} {E:Rs->Ex×Rs} {d:Nat} (hE:∀s,St L s (E s).2) (s:Rs):St L s (exprL L E d s).2:=(st_part hE s).trans (st_loop (st_part hE) _ _ _)
theorem st_expr (L:List Tok):∀(n:Nat) (s:Rs),St L s (exprN L n s).2:=by
 intro n
 induction n with
 |zero=>exact fun s=>st_exprL (fun s=>St.refl _ s) s
 |succ n ih=>exact fun s=>st_exprL ih s
def Szd (E:Rs->Ex×Rs):Prop:=∀s,(E s).2.e=0->(E s).1.sz+s.a<=(E s).2.a
theorem sz_part {L:List Tok} {E:Rs->Ex×Rs} {d:Nat} (hS:∀s,St L s (E s).2) (hE:Szd E):Szd (partF L E d):=by
 intro s
 unfold partF
 have hf:∀e,e≠0->(failR e s).e≠0:=fun e he=>by unfold failR;split;exact he;assumption
 split
 ·intro h;exact absurd h ‹_›
 ·split
  ·intro h;exact absurd h (hf 11 (by omega))
  ·split
   ·intro _;simp[Ex.sz,szL,nextR];omega
   ·split
    ·intro _;simp[Ex.sz,szL,nextR];omega
    ·split
     ·intro h
      have h1:=st_want L [41] (E (nextR s)).2
      have h2:=hE (nextR s) (h1.zero h)
      have h3:=h1.le
      have h4:(nextR s).a=s.a+1:=rfl
      dsimp only at h ⊢
      omega
     ·intro h;exact absurd h (hf 2 (by omega))
theorem sz_loop {L:List Tok} {P:Rs->Ex×Rs} (hS:∀s,St L s (P s).2) (hP:Szd P):∀(f:Nat) (x:Ex) (s:Rs) (a0:Nat),(s.e=0->x.sz+a0<=s.a)->(loopE L P f x s).2.e=0->(loopE L P f x s).1.sz+a0<=(loopE L P f x s).2.a:=by
 intro f
 induction f with
 |zero=>intro x s a0 h h2;exact h h2
 |succ f ih=>
  intro x s a0 h
  rw[loopE]
  split
  ·intro h2;exact absurd h2 ‹_›
  ·split
   ·intro h2;exact h h2
   ·split
    ·intro h2;exact absurd h2 ‹_›
    ·rename_i h1 h2 h3
     refine ih _ _ a0 fun h4=> ?_
     have h5:=hP (nextR s) (by omega)
     have h6:=h (by omega)
     have h7:(nextR s).a=s.a+1:=rfl
     have h8:(opE (opOf (nowT L s.a)) x (P (nextR s)).1).sz=1+(x.sz+((P (nextR s)).1.sz+0)):=by simp[Ex.sz,szL]
     rw[h8]
     split
     ·unfold failR;split
      ·show _+a0<=(P (nextR s)).2.a;omega
      ·omega
     ·omega
theorem sz_exprL {L:List Tok} {E:Rs->Ex×Rs} {d:Nat} (hS:∀s,St L s (E s).2) (hP:Szd (partF L E d)):Szd (exprL L E d):=by
 intro s h
 exact sz_loop (st_part hS) hP _ _ _ s.a (fun h=>hP s h) h
theorem sz_part0 (L:List Tok) (E:Rs->Ex×Rs):Szd (partF L E 30):=by
 intro s
 unfold partF
 split
 ·intro h;exact absurd h ‹_›
 ·rw[if_pos (by omega)]
  intro h;unfold failR at h;split at h
  ·exact absurd h (by show (11:Nat)≠0;omega)
  ·exact absurd h ‹_›
theorem sz_expr (L:List Tok):∀n:Nat,Szd (exprN L n):=by
 intro n
 induction n with
 |zero=>exact sz_exprL (fun s=>St.refl _ s) (sz_part0 L _)
 |succ n ih=>exact sz_exprL (st_expr L n) (sz_part (st_expr L n) ih)
abbrev New (m:NH):D4->Prop:=fun i=>¬Old m i
theorem RE.chg {mc m m':NH} {x:Ex} {c:List NV} {S:List D4} (h:RE m (New mc) x c) (hC:Chg S m m') (hS:∀i∈S,Old mc i):RE m' (New mc) x c:=h.stays (Stays.of hC fun i hi hs=>hi (hS i hs))
theorem RS.chg {mc m m':NH} {x:Stm} {c:List NV} {S:List D4} (h:RS m (New mc) x c) (hC:Chg S m m') (hS:∀i∈S,Old mc i):RS m' (New mc) x c:=h.stays (Stays.of hC fun i hi hs=>hi (hS i hs))
theorem RE.new {mc mb m:NH} {x:Ex} {c:List NV} (h:RE m (New mc) x c) (hC:∀i,Old mb i->Old mc i):RE m (New mb) x c:=h.weak fun i hi ho=>hi (hC i ho)
theorem RS.new {mc mb m:NH} {x:Stm} {c:List NV} (h:RS m (New mc) x c) (hC:∀i,Old mb i->Old mc i):RS m (New mb) x c:=h.weak fun i hi ho=>hi (hC i ho)
theorem re_int (m:NH) (T:D4->Prop) (n:Nat):RE m T (intE n) ((intE n).l .nils):=re0 m T 0 n 0 []
theorem re_name (m:NH) (T:D4->Prop) (s:List Nat):RE m T (nameE s) ((nameE s).l .nils):=re0 m T 1 0 0 s
def DepC (x:Ex):Prop:=∀{m0 m:NH} {T:D4->Prop} {c:List NV},RE m0 T x c->Stays T m0 m->x.sz<=100000000->∃m',Ret Try.prog S0 32 [.agg c] m (ii x.depth) m'/\Chg [] m m'
theorem dep_le:∀x:Ex,x.depth<=x.sz:=by
 apply Ex.ind
 intro k n o s ks ih
 rw[Ex.depth,Ex.sz]
 have:∀ks:List Ex,(∀x∈ks,x.depth<=x.sz)->depthL ks<=szL ks:=by
  intro ks
  induction ks with
  |nil=>intro _;simp[depthL]
  |cons x xs ih=>
   intro h
   have h1:=h x (List.mem_cons_self ..)
   have h2:=ih fun y hy=>h y (List.mem_cons_of_mem _ hy)
   rw[depthL,szL];omega
 have:=this ks ih
 omega
theorem szL_mem {l:List Ex} {x:Ex} (hx:x∈l):x.sz<=szL l:=by
 induction l with
 |nil=>simp at hx
 |cons a l ih=>
  rw[szL]
  rcases List.mem_cons.mp hx with rfl|hx
  ·omega
  ·have:=ih hx;omega
theorem depth_r:∀x:Ex,DepC x:=by
 apply Ex.ind
 intro k n o s ks ih m0 m T c hR hst hsz
 obtain ⟨vk,C,rfl,hS⟩:=hR.inv
 rw[Ex.sz] at hsz
 refine WF.ex1 fun K hK=> ?_
 refine WF.of_wpG (fun _=>rfl) nf32_eq (L:= [(.e,.agg [ii k,u64 n,u8 o,.str s,vk])]) rfl ?_
 unfold nf32
 simp (config:={maxSteps:=1000000}) (disch:=(first|assumption|omega|exact old_n (by omega)|exact old_hp (by assumption)|(simp only[nmL]<;>omega))) only[go_sem,seval]
 generalize hM1:hp _ 1 m=M1
 have hC1:Chg [] m M1:=by rw[←hM1];exact hp_of rfl
 have hg1:M1.get (na m 0)=some (.cells true [ii k,u64 n,u8 o,.str s,vk]):=by rw[←hM1];exact h_getN
 have ho1:Old M1 (na m 0):=by rw[←hM1];exact old_n (by omega)
 have hls:=len_szL ks
 refine W.loop (fun j d=>∃t M i,d=⟨t, [],none,M⟩/\NT.get D4.e.a t=some (.ptr (na m 0) 0)/\NT.get D4.e.c t=some (ii (depthL (ks.take i)))/\NT.get D4.e.f t=some (ii (i:Nat))/\i+j=ks.length/\Chg [] M1 M) ?_ ks.length _ ⟨_,M1,0,rfl,by simp only[go_sem,seval],by simp only[go_sem,seval]<;>rfl,by simp only[go_sem,seval]<;>rfl,by omega,Chg.refl M1⟩
 rintro j d ⟨t,M,i,rfl,g1,g2,g3,hij,hC⟩
 apply wp_sound
 unfold nf32_l1
 change wp _ _ _ _ ⟨puts [] t, [],none,M⟩ _
 have hstM:Stays T m0 M:=fun i hi ho=>by
  obtain ⟨q1,q2⟩:=hst i hi ho
  have hCM:Chg [] m M:=hC1.trans hC (by simp)
  exact ⟨(hCM.get q2 (by simp)).trans q1,hCM.old q2⟩
 have hSM:=hS.stays hstM
 have hgM:=(hC.get ho1 (by simp)).trans hg1
 have hlen:=hSM.sl.len
 rw[hS.len] at hlen
 by_cases hi:i<ks.length
 ·obtain ⟨cx,hcx,hRx⟩:=hS.at i hi
  have hc:i<C.length:=by rw[hS.len];exact hi
  obtain ⟨id,off,wr,c,a1,a2,a3,a4,a5⟩:=hSM.sl.at i hc
  have ecx:C[i]=cx:=by rw[List.getElem?_eq_getElem hc] at hcx;injection hcx
  rw[ecx] at a5
  have hsx:=szL_mem (List.getElem_mem hi)
  obtain ⟨m',hr,hC'⟩:=ih ks[i] (List.getElem_mem hi) hRx hstM (by omega)
  have htk:depthL (ks.take (i+1))=max (depthL (ks.take i)) ks[i].depth:=by
   rw[List.take_add_one,List.getElem?_eq_getElem hi,Option.toList_some,depthL_append,depthL,depthL];omega
  simp (config:={maxSteps:=1000000}) (disch:=(first|assumption|omega|exact old_n (by omega)|exact old_hp (by assumption)|(simp only[nmL]<;>omega))) only[go_sem,seval,g1,g2,g3,hgM,hlen,a1,a2,a5,hr.wf']
  by_cases hgt:depthL (ks.take i)<ks[i].depth
  ·simp (config:={maxSteps:=1000000}) (disch:=(first|assumption|omega|exact old_n (by omega)|exact old_hp (by assumption)|(simp only[nmL]<;>omega))) only[go_sem,seval,g1,g2,g3]
   refine ⟨j - 1,by omega,_,m',i+1,by rfl,by simp only[go_sem,seval,g1], ?_,by simp only[go_sem,seval]<;>rfl,by omega,hC.trans hC' (by simp)⟩
   simp (config:={maxSteps:=1000000}) (disch:=(first|assumption|omega|exact old_n (by omega)|exact old_hp (by assumption)|(simp only[nmL]<;>omega))) only[go_sem,seval,htk]
   rw[Nat.max_eq_right (by omega)]
  ·simp (config:={maxSteps:=1000000}) (disch:=(first|assumption|omega|exact old_n (by omega)|exact old_hp (by assumption)|(simp only[nmL]<;>omega))) only[go_sem,seval,g1,g2,g3]
   refine ⟨j - 1,by omega,_,m',i+1,by rfl,by simp only[go_sem,seval,g1], ?_,by simp only[go_sem,seval]<;>rfl,by omega,hC.trans hC' (by simp)⟩
   simp (config:={maxSteps:=1000000}) (disch:=(first|assumption|omega|exact old_n (by omega)|exact old_hp (by assumption)|(simp only[nmL]<;>omega))) only[go_sem,seval,htk,g2]
   rw[Nat.max_eq_left (by omega)]
 ·have e:(ks.take i)=ks:=List.take_of_length_le (by omega)
  rw[e] at g2
  have hd:=dep_le (.mk k n o s ks)
  rw[Ex.depth,Ex.sz] at hd
  rw[Ex.depth] at hK
  simp (config:={maxSteps:=1000000}) (disch:=(first|assumption|omega|exact old_n (by omega)|exact old_hp (by assumption)|(simp only[nmL]<;>omega))) only[go_sem,seval,g1,g2,g3,hgM,hlen]
  exact hK _ (hC1.trans hC (by simp))
end FR
open Go Nm Go.Proofs
namespace FR
set_option linter.unusedSimpArgs false
set_option linter.unusedVariables false
def ExC (f:Nat) (m0:NH) (L:List Tok) (vl:NV) (r:D4) (rest:List NV) (E:Rs->Ex×Rs) (d:Nat):Prop:=∀{m:NH} {s:Rs},Chg [] m0 m->RD m r vl s rest->s.a<=L.length->
 ∃v m',Ret Try.prog S0 f [.ptr r 0,ii d] m v m'/\(∃u,v= .agg ((E s).1.l u)/\RE m' (New m) (E s).1 ((E s).1.l u))/\RD m' r vl (E s).2 rest/\Chg [r] m m'
theorem chg_hpo {S:List D4} {m M:NH} {l:List (AK×NO)} {k:Nat} (h:Chg S m M) (ho:∀i∈oldK l,Old m i->i∈S):Chg S m (hp l k M):=h.trans (hp_of rfl) ho
section
variable {m0:NH} {L:List Tok} {vl:NV} {r:D4} {rest:List NV} {E:Rs->Ex×Rs}
theorem part_r (hc:RC m0 L vl r) {d:Nat} (hst:∀s,St L s (E s).2) (hE:d<=29->ExC 162 m0 L vl r rest E (d+1)) (hd30:d<=30):ExC 173 m0 L vl r rest (partF L E d) d:=by
 intro m s h0 hd ha
 refine WF.ex fun K hK=> ?_
 refine WF.of_wpG (fun _=>rfl) nf173_eq (L:= [(.a .e,ii d),(.e,.ptr r 0)]) rfl ?_
 unfold nf173
 have hll:=hc.len
 simp (config:={maxSteps:=1000000}) (disch:=(first|assumption|omega|exact old_n (by omega)|exact old_hp (by assumption)|(simp only[nmL]<;>omega))) only[go_sem,seval]
 generalize hM1:hp _ 1 m=M1
 have hC1:Chg [] m M1:=by rw[←hM1];exact hp_of rfl
 have hg1:M1.get (na m 0)=some (.cells true [ii 0,u64 0,u8 0,.str [],.nils]):=by rw[←hM1];exact h_getN
 have ho1:Old M1 (na m 0):=by rw[←hM1];exact old_n (by omega)
 have hr0:r≠na m 0:=hd.o.ne 0
 have hr0':na m 0≠r:=fun e=>hr0 e.symm
 have hd1:=hd.chg hC1 (by simp)
 have hn1:∀i,Old m i->Old M1 i:=fun i hi=>hC1.old hi
 refine WF.use1H (now_r hc (h0.trans hC1 (by simp)) hd1) ?_
 intro M2 hC2
 have hd2:=hd1.chg hC2 (by simp)
 have hg2:=(hC2.get ho1 (by simp)).trans hg1
 have ho2:=hC2.old ho1
 have hC02:=hC1.trans hC2 (by simp)
 have hl:(Tok.l (nowT L s.a)).length=4:=rfl
 have hpf:partF L E d s=if s.e≠0 then (zE,s) else if 29<d then (zE,failR 11 s) else if (nowT L s.a).k=2 then (intE (nowT L s.a).n,nextR s) else if (nowT L s.a).k=1 then (nameE (nowT L s.a).t,nextR s)
  else if takeB L [40] s=true then ((E (nextR s)).1,wantR L [41] (E (nextR s)).2) else (zE,failR 2 s):=rfl
 rw[hpf] at hK
 clear hpf
 generalize hT:nowT L s.a=T at hK hl
 have hdg:=hd2.g
 have hdo:=hd2.o
 have hCr2:Chg [r] m M2:=hC02.weak (by simp)
 have fin:∀{M:NH} {s':Rs} {u:NV} {x:Ex} {l:List (AK×NO)} {k:Nat},RD M r vl s' rest->Chg [r] m M->RE M (New m) x (x.l u)->(∀i∈oldK l,i=na m 0)->(RE (hp l k M) (New m) x (x.l u)->RD (hp l k M) r vl s' rest/\Chg [r] m (hp l k M)):=fun h1 h2 h3 h4 _=>
  ⟨h1.chg (hp_of rfl) fun hi=>hr0 (h4 _ hi),chg_hpo h2 fun i hi ho=>absurd (h4 i hi▸ho) na_old⟩
 by_cases he:s.e=0
 ·rw[if_neg (by omega)] at hK
  by_cases h29:29<d
  ·rw[if_pos h29] at hK
   simp (config:={maxSteps:=1000000}) (disch:=(first|assumption|omega|exact old_n (by omega)|exact old_hp (by assumption)|(simp only[nmL]<;>omega))) only[go_sem,seval,hl,hdg]
   generalize hM3:hp _ 1 M2=M3
   have hC3:Chg [] M2 M3:=by rw[←hM3];exact hp_of rfl
   refine WF.use1H (fail_r (hd2.chg hC3 (by simp)) 11) ?_
   rintro M4 ⟨hd4,hC4⟩
   have hg4:=(hC4.get (hC3.old ho2) (by simpa using hr0.symm)).trans ((hC3.get ho2 (by simp)).trans hg2)
   have ho4:=hC4.old (hC3.old ho2)
   simp (config:={maxSteps:=1000000}) (disch:=(first|assumption|omega|exact old_n (by omega)|exact old_hp (by assumption)|(simp only[nmL]<;>omega))) only[go_sem,seval,hg4]
   exact hK _ _ ⟨⟨.nils,rfl,re0 _ _ _ _ _ _⟩,fin hd4 ((hCr2.trans hC3 (by simp)).trans hC4 fun _ h _=>h) (re0 _ _ 0 0 0 []) (by simp[oldK]) (re0 _ _ _ _ _ _)⟩
  ·rw[if_neg h29] at hK
   by_cases h2:T.k=2
   ·rw[if_pos h2] at hK
    simp (config:={maxSteps:=1000000}) (disch:=(first|assumption|omega|exact old_n (by omega)|exact old_hp (by assumption)|(simp only[nmL]<;>omega))) only[go_sem,seval,hl,tl0,tl2,hdg,hg2,hr0]
    refine hK _ _ ⟨⟨.nils,rfl,re_int _ _ _⟩,⟨?_,old_hp (by assumption)⟩, ?_⟩
    ·refine (h_getO hdo).trans ?_
     simp only[h_lookOo hr0,h_lookOs];rfl
    ·exact chg_hpo hCr2 (by simp[oldK,na_old])
   ·rw[if_neg h2] at hK
    by_cases h1:T.k=1
    ·rw[if_pos h1] at hK
     simp (config:={maxSteps:=1000000}) (disch:=(first|assumption|omega|exact old_n (by omega)|exact old_hp (by assumption)|(simp only[nmL]<;>omega))) only[go_sem,seval,hl,tl0,tl1,hdg,hg2,hr0]
     refine hK _ _ ⟨⟨.nils,rfl,re_name _ _ _⟩,⟨?_,old_hp (by assumption)⟩, ?_⟩
     ·refine (h_getO hdo).trans ?_
      simp only[h_lookOo hr0,h_lookOs];rfl
     ·exact chg_hpo hCr2 (by simp[oldK,na_old])
    ·rw[if_neg h1] at hK
     simp (config:={maxSteps:=1000000}) (disch:=(first|assumption|omega|exact old_n (by omega)|exact old_hp (by assumption)|(simp only[nmL]<;>omega))) only[go_sem,seval,hl,tl0,hdg]
     generalize hM3:hp _ 1 M2=M3
     have hC3:Chg [] M2 M3:=by rw[←hM3];exact hp_of rfl
     have hd3:=hd2.chg hC3 (by simp)
     refine WF.use1H (take_r hc (h0.trans (hC02.trans hC3 (by simp)) (by simp)) hd3 [40] (by simp) (by omega)) ?_
     rintro M4 ⟨hd4,hC4⟩
     have hg4:=(hC4.get (hC3.old ho2) (by simpa using hr0.symm)).trans ((hC3.get ho2 (by simp)).trans hg2)
     have ho4:=hC4.old (hC3.old ho2)
     have hC04:Chg [r] m M4:=(hCr2.trans hC3 (by simp)).trans hC4 fun _ h _=>h
     cases hb:takeB L [40] s with
     |true=>
      rw[hb,if_pos rfl] at hK hd4
      dsimp only at hK
      generalize hEs:E (nextR s)=Es at hK
      obtain ⟨-,hlt⟩:=takeB_lt hb
      simp (config:={maxSteps:=1000000}) (disch:=(first|assumption|omega|exact old_n (by omega)|exact old_hp (by assumption)|(simp only[nmL]<;>omega))) only[go_sem,seval,hp_nil]
      refine WF.useH (hE (by omega) (hc.chg h0 hC04) hd4 hlt) ?_
      rintro v5 M5 ⟨⟨u,rfl,hx5⟩,hd5,hC5⟩
      have hst5:=hst (nextR s)
      rw[hEs] at hx5 hd5 hst5 ⊢
      have hg5:=(hC5.get ho4 (by simpa using hr0.symm)).trans hg4
      have ho5:=hC5.old ho4
      have hC05:Chg [r] m M5:=hC04.trans hC5 fun _ h _=>h
      have hx5l:(Es.1.l u).length=5:=rfl
      simp (config:={maxSteps:=1000000}) (disch:=(first|assumption|omega|exact old_n (by omega)|exact old_hp (by assumption)|(simp only[nmL]<;>omega))) only[go_sem,seval,hx5l]
      generalize hM6:hp _ 1 M5=M6
      have hC6:Chg [] M5 M6:=by rw[←hM6];exact hp_of rfl
      have hg6:M6.get (na M5 0)=some (.cells true (Es.1.l u)):=by rw[←hM6];exact h_getN
      have ho6:Old M6 (na M5 0):=by rw[←hM6];exact old_n (by omega)
      have hlim:=hst5.lim hlt
      refine WF.use1H (want_r hc (hc.chg h0 (hC05.trans hC6 (by simp))) (hd5.chg hC6 (by simp)) [41] (by simp) (by omega)) ?_
      rintro M7 ⟨hd7,hC7⟩
      have hg7:=(hC7.get (hC6.old ho5) (by simpa using hr0.symm)).trans ((hC6.get ho5 (by simp)).trans hg5)
      have ho7:=hC7.old (hC6.old ho5)
      have hr5:na M5 0≠r:=fun e=>(hd5.o.ne 0 e.symm)
      have hb7:=(hC7.get ho6 (by simpa using hr5)).trans hg6
      have hC07:Chg [r] m M7:=(hC05.trans hC6 (by simp)).trans hC7 fun _ h _=>h
      have hl5':(Es.1.l u).take 5=Es.1.l u:=rfl
      simp (config:={maxSteps:=1000000}) (disch:=(first|assumption|omega|exact old_n (by omega)|exact old_hp (by assumption)|(simp only[nmL]<;>omega))) only[go_sem,seval,hg7,hb7,hx5l,hl5']
      have hx7:RE M7 (New M4) Es.1 (Es.1.l u):=(hx5.chg hC6 (by simp)).chg hC7 fun i hi=>by
       simp only[List.mem_cons,List.not_mem_nil,or_false] at hi;subst hi;exact hd4.o
      generalize hM8:hp _ 0 M7=M8
      have hC8:Chg [na m 0] M7 M8:=by rw[←hM8];exact hp_of rfl
      have hx8:RE M8 (New M4) Es.1 (Es.1.l u):=hx7.chg hC8 fun i hi=>by
       simp only[List.mem_cons,List.not_mem_nil,or_false] at hi;subst hi;exact ho4
      have hx9:RE M8 (New m) Es.1 (Es.1.l u):=hx8.new fun i hi=>hC04.old hi
      have hd8:=hd7.chg hC8 (by simpa using hr0)
      have hC08:Chg [r] m M8:=hC07.trans hC8 fun i hi ho=>by
       simp only[List.mem_cons,List.not_mem_nil,or_false] at hi;subst hi;exact absurd ho na_old
      exact hK _ _ ⟨⟨u,rfl,hx9⟩,hd8,hC08⟩
     |false=>
      rw[hb,if_neg Bool.false_ne_true] at hK hd4
      simp (config:={maxSteps:=1000000}) (disch:=(first|assumption|omega|exact old_n (by omega)|exact old_hp (by assumption)|(simp only[nmL]<;>omega))) only[go_sem,seval,hp_nil]
      refine WF.use1H (fail_r hd4 2) ?_
      rintro M5 ⟨hd5,hC5⟩
      have hg5:=(hC5.get ho4 (by simpa using hr0.symm)).trans hg4
      have ho5:=hC5.old ho4
      simp (config:={maxSteps:=1000000}) (disch:=(first|assumption|omega|exact old_n (by omega)|exact old_hp (by assumption)|(simp only[nmL]<;>omega))) only[go_sem,seval,hg5]
      exact hK _ _ ⟨⟨.nils,rfl,re0 _ _ _ _ _ _⟩,fin hd5 (hC04.trans hC5 fun _ h _=>h) (re0 _ _ 0 0 0 []) (by simp[oldK]) (re0 _ _ _ _ _ _)⟩
 ·rw[if_pos he] at hK
  simp (config:={maxSteps:=1000000}) (disch:=(first|assumption|omega|exact old_n (by omega)|exact old_hp (by assumption)|(simp only[nmL]<;>omega))) only[go_sem,seval,hl,hdg,hg2]
  exact hK _ _ ⟨⟨.nils,rfl,re0 _ _ _ _ _ _⟩,fin hd2 hCr2 (re0 _ _ 0 0 0 []) (by simp[oldK]) (re0 _ _ _ _ _ _)⟩
end
end FR
open Go Nm Go.Proofs
namespace FR
set_option linter.unusedSimpArgs false
set_option linter.unusedVariables false
theorem RE.old {m:NH} {T:D4->Prop} {x:Ex} {c:List NV} (h:RE m T x c):RE m (fun i=>T i/\Old m i) x c:=by
 induction h with
 |mk hv hT hl h ih=>exact .mk hv (fun i hi=>⟨hT i hi,hv.old i hi⟩) hl ih
theorem RS.old {m:NH} {T:D4->Prop} {x:Stm} {c:List NV} (h:RS m T x c):RS m (fun i=>T i/\Old m i) x c:=by
 induction h with
 |mk hi hx hy hb hbT hbl hbR he heT hel heR ih1 ih2=>exact .mk hi.old hx.old hy.old hb (fun i q=>⟨hbT i q,hb.old i q⟩) hbl ih1 he (fun i q=>⟨heT i q,he.old i q⟩) hel ih2
theorem re_op {m:NH} {T:D4->Prop} {o:Nat} {x y:Ex} {cx cy:List NV} (hx:RE m T x cx) (hy:RE m T y cy) {id:D4} (hT:T id) (hg:m.get id=some (.cells true (cx++cy))) (ho:Old m id):RE m T (opE o x y) ((opE o x y).l (.slc id 0 2 5 2)):=by
 refine .mk (C:= [cx,cy]) ⟨?_,Or.inr ⟨id,0,2,true,_,rfl,hg,ho, ?_, ?_⟩⟩ (by intro i hi;simp[ids] at hi;subst hi;exact hT) rfl ?_
 ·intro c hc;simp at hc;rcases hc with rfl|rfl
  ·exact hx.len
  ·exact hy.len
 ·simp[hx.len,hy.len]
 ·simp[hx.len,hy.len]
  rw[List.take_of_length_le (by simp[hx.len,hy.len])]
 ·intro i z c h1 h2
  match i with
  |0=>cases h1;cases h2;exact hx
  |1=>cases h1;cases h2;exact hy
  |i+2=>simp at h1
section
variable {m0:NH} {L:List Tok} {vl:NV} {r:D4} {rest:List NV}
theorem expr_loop (hc:RC m0 L vl r) {P:Rs->Ex×Rs} {d:Nat} (hst:∀s,St L s (P s).2) (hsz:Szd P) (hP:ExC 173 m0 L vl r rest P d) {m:NH} (h0:Chg [] m0 m) {b1 b2:D4} (hb1:¬Old m b1) (hb2:¬Old m b2) (hb12:b1≠b2) (horm:Old m r)
 {X:Ex} {S:Rs} {M:NH} {x:Ex} {s:Rs} {u:NV} (hd:RD M r vl s rest) (hx:RE M (fun i=>¬Old m i/\i≠b1/\i≠b2) x (x.l u)) (hg:M.get b2=some (.cells true (x.l u))) (hob:Old M b2) (hob1:Old M b1) {z1:List NV} (hg1:M.get b1=some (.cells true z1)) (ha:s.a<=L.length) (hxs:s.e=0->x.sz<=s.a) (hxz:x.sz<=100000) (hC:Chg [r] m M) (hE:loopE L P (L.length+1) x s=(X,S))
 {t:Tm} (g1:NT.get D4.e t=some (.ptr r 0)) (g2:NT.get D4.e.a t=some (ii d)) (g3:NT.get D4.e.f t=some (.ptr b1 0)) (g4:NT.get D4.e.a.a t=some (.ptr b2 0)) {Q:Out->Dyn->Prop}
 (hQ:∀t' M' u',NT.get D4.e.f t'=some (.ptr b1 0)->NT.get D4.e.a.a t'=some (.ptr b2 0)->RD M' r vl S rest->RE M' (fun i=>¬Old m i/\i≠b1/\i≠b2) X (X.l u')->M'.get b2=some (.cells true (X.l u'))->Old M' b2->Old M' b1->M'.get b1=some (.cells true z1)->Chg [r] m M'->Q (.exit 0) ⟨puts [] t', [],none,M'⟩):
 W Try.prog S0 none nf162_l1.loop ⟨t, [],none,M⟩ Q:=by
 refine W.loop (fun k D=>∃t M x s u f,D=⟨t, [],none,M⟩/\NT.get D4.e t=some (.ptr r 0)/\NT.get D4.e.a t=some (ii d)/\NT.get D4.e.f t=some (.ptr b1 0)/\NT.get D4.e.a.a t=some (.ptr b2 0)/\RD M r vl s rest/\RE M (fun i=>¬Old m i/\i≠b1/\i≠b2) x (x.l u)/\M.get b2=some (.cells true (x.l u))/\Old M b2/\Old M b1/\M.get b1=some (.cells true z1)/\s.a<=L.length/\(s.e=0->x.sz<=s.a)/\x.sz<=100000/\Chg [r] m M/\loopE L P f x s=(X,S)/\L.length<f+s.a/\k=f) ?_ (L.length+1) _ ⟨t,M,x,s,u,L.length+1,rfl,g1,g2,g3,g4,hd,hx,hg,hob,hob1,hg1,ha,hxs,hxz,hC,hE,by omega,rfl⟩
 clear hd hx hg hob hob1 hg1 ha hxs hxz hC hE g1 g2 g3 g4
 rintro k D ⟨t,M,x,s,u,f,rfl,g1,g2,g3,g4,hd,hx,hg,hob,hob1,hg1,ha,hxs,hxz,hC,hE,hf,rfl⟩
 apply wp_sound
 unfold nf162_l1
 change wp _ _ _ _ ⟨puts [] t, [],none,M⟩ _
 have hll:=hc.len
 obtain ⟨f,rfl⟩:∃f',k=f'+1:=⟨k - 1,by omega⟩
 rw[loopE] at hE
 have hdg:=hd.g
 refine cutK (fun D=>s.e=0/\∃t',D=⟨t', [],none,M⟩/\NT.get D4.e t'=some (.ptr r 0)/\NT.get D4.e.a t'=some (ii d)/\NT.get D4.e.f t'=some (.ptr b1 0)/\NT.get D4.e.a.a t'=some (.ptr b2 0)) (fun R hR=> ?_) ?_
 ·by_cases he:s.e=0
  ·simp (config:={maxSteps:=1000000}) (disch:=(first|assumption|omega|exact old_n (by omega)|exact old_hp (by assumption)|(simp only[nmL]<;>omega))) only[go_sem,seval,g1,g2,g3,g4,hdg]
   exact hR _ ⟨he,_,rfl,by simp only[go_sem,seval,g1],by simp only[go_sem,seval,g2],by simp only[go_sem,seval,g3],by simp only[go_sem,seval,g4]⟩
  ·rw[if_pos he] at hE
   injection hE with e1 e2
   subst e1 e2
   have hde:decide ((s.e:Int)=0)=false:=decide_eq_false (by omega)
   simp (config:={maxSteps:=1000000}) (disch:=(first|assumption|omega|exact old_n (by omega)|exact old_hp (by assumption)|(simp only[nmL]<;>omega))) only[go_sem,seval,g1,g2,g3,g4,hdg,hde]
   exact hQ _ M u (by simp only[go_sem,seval,g3]) (by simp only[go_sem,seval,g4]) hd hx hg hob hob1 hg1 hC
 clear g1 g2 g3 g4
 rintro D ⟨he,t,rfl,g1,g2,g3,g4⟩
 rw[if_neg (by omega)] at hE
 change wp _ _ _ _ ⟨puts [] t, [],none,M⟩ _
 rw[s_block]
 have hl:(Tok.l (nowT L s.a)).length=4:=rfl
 refine cut4 (fun D=>∃t' M2,D=⟨t', [],none,M2⟩/\Chg [] M M2/\isOp (opOf (nowT L s.a))=true/\NT.get D4.e t'=some (.ptr r 0)/\NT.get D4.e.a t'=some (ii d)/\NT.get D4.e.f t'=some (.ptr b1 0)/\NT.get D4.e.a.a t'=some (.ptr b2 0)/\NT.get D4.e.a.c t'=some (u8 (opOf (nowT L s.a)))) (fun R hR=> ?_) ?_
 ·simp (config:={maxSteps:=1000000}) (disch:=(first|assumption|omega|exact old_n (by omega)|exact old_hp (by assumption)|(simp only[nmL]<;>omega))) only[go_sem,seval,g1,g2,g3,g4,hdg]
  refine WF.use1H (now_r hc (hc.chg h0 hC) hd) ?_
  intro M2 hC2
  generalize hT:nowT L s.a=T at hE hl hR
  have out:∀(l:List (AK×NO)) (k:Nat) (t':Tm),isOp (opOf T)=false->NT.get D4.e.f t'=some (.ptr b1 0)->NT.get D4.e.a.a t'=some (.ptr b2 0)->oldK l= []->Q (.exit 0) ⟨puts [] t', [],none,hp l k M2⟩:=by
   intro l k t' hop q1 q2 ho
   rw[if_pos hop] at hE
   injection hE with e1 e2
   subst e1 e2
   have hC3:=chg_hp (k:=k) hC2 ho
   exact hQ _ _ u q1 q2 (hd.chg hC3 (by simp)) (hx.stays (stN hC3 _)) ((hC3.get hob (by simp)).trans hg) (hC3.old hob) (hC3.old hob1) ((hC3.get hob1 (by simp)).trans hg1) (hC.trans hC3 (by simp))
  by_cases h3:T.k=3
  ·by_cases h1:T.t.length=1
   ·obtain ⟨c,hc1⟩:=List.length_eq_one_iff.mp h1
    have hopc:opOf T=c:=by unfold opOf;rw[if_pos ⟨h3,h1⟩,hc1];rfl
    have h00:T.t[0]? =some c:=by rw[hc1];rfl
    rw[hopc] at hR out
    by_cases hop:isOp c=true
    ·have hcs:=of_decide_eq_true hop
     rcases hcs with rfl|rfl|rfl|rfl|rfl|rfl<;>simp (config:={maxSteps:=1000000}) (disch:=(first|assumption|omega|exact old_n (by omega)|exact old_hp (by assumption)|(simp only[nmL]<;>omega))) only[go_sem,seval,g1,g2,g3,g4,hl,tl0,tl1,h3,h1,h00]<;>exact hR _ ⟨_,_,rfl,chg_hp hC2 rfl,hop,by simp only[go_sem,seval,g1],by simp only[go_sem,seval,g2],by simp only[go_sem,seval,g3],by simp only[go_sem,seval,g4],by simp only[go_sem,seval]<;>rfl⟩
    ·have hop':isOp c=false:=by simpa using hop
     have hcs:=of_decide_eq_false hop'
     simp (config:={maxSteps:=1000000}) (disch:=(first|assumption|omega|exact old_n (by omega)|exact old_hp (by assumption)|(simp only[nmL]<;>omega))) only[go_sem,seval,g1,g2,g3,g4,hl,tl0,tl1,h3,h1,h00]
     exact out _ _ _ hop' (by simp only[go_sem,seval,g3]) (by simp only[go_sem,seval,g4]) rfl
   ·have hopc:opOf T=0:=by unfold opOf;rw[if_neg (fun h=>h1 h.2)]
    rw[hopc] at hR out
    simp (config:={maxSteps:=1000000}) (disch:=(first|assumption|omega|exact old_n (by omega)|exact old_hp (by assumption)|(simp only[nmL]<;>omega))) only[go_sem,seval,g1,g2,g3,g4,hl,tl0,tl1,h3]
    exact out _ _ _ rfl (by simp only[go_sem,seval,g3]) (by simp only[go_sem,seval,g4]) rfl
  ·have hopc:opOf T=0:=by unfold opOf;rw[if_neg (fun h=>h3 h.1)]
   rw[hopc] at hR out
   simp (config:={maxSteps:=1000000}) (disch:=(first|assumption|omega|exact old_n (by omega)|exact old_hp (by assumption)|(simp only[nmL]<;>omega))) only[go_sem,seval,g1,g2,g3,g4,hl,tl0,tl1]
   exact out _ _ _ rfl (by simp only[go_sem,seval,g3]) (by simp only[go_sem,seval,g4]) rfl
 clear g1 g2 g3 g4
 rintro D ⟨t,M2,rfl,hC2,hop,g1,g2,g3,g4,g5⟩
 have hlt:=opOf_lt hop
 rw[if_neg (by simp[hop])] at hE
 generalize opOf (nowT L s.a)=o at hE g5
 change wp _ _ _ _ ⟨puts [] t, [],none,M2⟩ _
 rw[←hp_nil M2]
 have hd2:=hd.chg hC2 (by simp)
 have hdg2:=hd2.g
 have hdo2:=hd2.o
 simp (config:={maxSteps:=1000000}) (disch:=(first|assumption|omega|exact old_n (by omega)|exact old_hp (by assumption)|(simp only[nmL]<;>omega))) only[go_sem,seval,g1,g2,g3,g4,g5,hdg2]
 generalize hM3:hp _ 0 M2=M3
 have hC3:Chg [r] M2 M3:=by rw[←hM3];exact hp_of rfl
 have hd3:RD M3 r vl (nextR s) rest:=⟨by rw[←hM3];exact (h_getO hdo2).trans h_lookOs,hC3.old hdo2⟩
 have hC03:Chg [r] m M3:=(hC.trans hC2 (by simp)).trans hC3 fun _ h _=>h
 have nb1:b1∉ [r]:=by simp;rintro rfl;exact hb1 horm
 have nb2:b2∉ [r]:=by simp;rintro rfl;exact hb2 horm
 have hCb:∀{M M':NH} {z:List NV} {b:D4},Chg [r] M M'->b∉ [r]->Old M b->M.get b=some (.cells true z)->M'.get b=some (.cells true z)/\Old M' b:=fun h hn ho hg=>⟨(h.get ho hn).trans hg,h.old ho⟩
 have hC23:Chg [r] M M3:=(hC2.weak (by simp)).trans hC3 fun _ h _=>h
 refine WF.use (hP (hc.chg h0 hC03) hd3 hlt) ?_
 rintro v4 M4 ⟨⟨w,rfl,hy4⟩,hd4,hC4⟩
 have hst4:=hst (nextR s)
 have hsz4:=hsz (nextR s)
 have hna:(nextR s).a=s.a+1:=rfl
 have hlim:=hst4.lim hlt
 generalize hP4:P (nextR s)=p4 at hy4 hd4 hE hst4 hsz4 hlim
 obtain ⟨y,s4⟩:=p4
 dsimp only at hy4 hd4 hE hst4 hsz4 hlim
 have hC24:Chg [r] M M4:=hC23.trans hC4 fun _ h _=>h
 obtain ⟨hg4,ho4⟩:=hCb hC24 nb2 hob hg
 obtain ⟨hg14,ho14⟩:=hCb hC24 nb1 hob1 hg1
 have hx4:RE M4 (fun i=>¬Old m i/\i≠b1/\i≠b2) x (x.l u):=hx.stays (Stays.of hC24 fun i hi hs=>by
  simp only[List.mem_cons,List.not_mem_nil,or_false] at hs;subst hs;exact hi.1 horm)
 have hC04:Chg [r] m M4:=hC03.trans hC4 fun _ h _=>h
 have hy4':RE M4 (fun i=>¬Old m i/\i≠b1/\i≠b2) y (y.l w):=hy4.weak fun i hi=>⟨fun h=>hi (hC03.old h),fun h=>hi (h▸hC23.old hob1),fun h=>hi (h▸hC23.old hob)⟩
 have hyl:(y.l w).length=5:=rfl
 have hxl:(x.l u).length=5:=rfl
 rw[←hp_nil M4]
 by_cases he4:s4.e=0
 ·rw[if_neg (by omega)] at hE
  have hys:=hsz4 he4
  have hdg4:=hd4.g
  have hdo4:=hd4.o
  have hyl':(y.l w).take 5=y.l w:=rfl
  have hxl':(x.l u).take 5=x.l u:=rfl
  have hxd:(y.l w).drop 5= []:=rfl
  simp (config:={maxSteps:=1000000}) (disch:=(first|assumption|omega|exact old_n (by omega)|exact old_hp (by assumption)|(simp only[nmL]<;>omega))) only[go_sem,seval,g1,g2,g3,g4,g5,hyl,hdg4,hg4,hxl,hyl',hxl']
  generalize hM5:hp _ 2 M4=M5
  have hC5:Chg [b2] M4 M5:=by rw[←hM5];exact hp_of rfl
  have hg5:M5.get b2=some (.cells true ((opE o x y).l (.slc (na M4 1) 0 2 5 2))):=by rw[←hM5];exact (h_getO ho4).trans h_lookOs
  have hk5:M5.get (na M4 1)=some (.cells true (x.l u++y.l w)):=by rw[←hM5];exact h_getN
  have hko5:Old M5 (na M4 1):=by rw[←hM5];exact old_n (by omega)
  have hTk:¬Old m (na M4 1)/\na M4 1≠b1/\na M4 1≠b2:=⟨fun h=>na_old (hC04.old h),fun h=>ho14.ne 1 h.symm,fun h=>ho4.ne 1 h.symm⟩
  have hs5:Stays (fun i=>¬Old m i/\i≠b1/\i≠b2) M4 M5:=Stays.of hC5 fun i hi hs=>by
   simp only[List.mem_cons,List.not_mem_nil,or_false] at hs;exact hi.2.2 hs
  have hxy5:RE M5 (fun i=>¬Old m i/\i≠b1/\i≠b2) (opE o x y) ((opE o x y).l (.slc (na M4 1) 0 2 5 2)):=re_op (hx4.stays hs5) (hy4'.stays hs5) hTk hk5 hko5
  have hosz:(opE o x y).sz=1+(x.sz+(y.sz+0)):=by simp[Ex.sz,szL]
  refine WF.use1H (depth_r (opE o x y) hxy5 (fun i _ ho=>⟨rfl,ho⟩) (by omega)) ?_
  intro M6 hC6
  have hd5:RD M5 r vl s4 rest:=hd4.chg hC5 (by simp;rintro rfl;exact hb2 horm)
  have hd6:=hd5.chg hC6 (by simp)
  have hC56:Chg [b2] M4 M6:=hC5.trans hC6 (by simp)
  have hxy6:=hxy5.stays (stN hC6 _)
  have hg6:=(hC6.get (hC5.old ho4) (by simp)).trans hg5
  have ho6:=hC56.old ho4
  have ho16:=hC56.old ho14
  have hg16:=(hC56.get ho14 (by simpa using hb12)).trans hg14
  have hC06:Chg [r] m M6:=hC04.trans hC56 fun i hi ho=>by
   simp only[List.mem_cons,List.not_mem_nil,or_false] at hi;subst hi;exact absurd ho hb2
  have he0:=hxs he
  by_cases hdp:30<(opE o x y).depth
  ·rw[if_pos hdp] at hE
   simp (config:={maxSteps:=1000000}) (disch:=(first|assumption|omega|exact old_n (by omega)|exact old_hp (by assumption)|(simp only[nmL]<;>omega))) only[go_sem,seval,g1]
   rw[hp_nil]
   refine WF.use1 (fail_r hd6 11) ?_
   rintro M7 ⟨hd7,hC7⟩
   obtain ⟨hg7,ho7⟩:=hCb hC7 nb2 ho6 hg6
   obtain ⟨hg17,ho17⟩:=hCb hC7 nb1 ho16 hg16
   have hxy7:=hxy6.stays (m':=M7) (Stays.of hC7 fun i hi hs=>by
    simp only[List.mem_cons,List.not_mem_nil,or_false] at hs;subst hs;exact hi.1 horm)
   have hfe:(failR 11 s4).e≠0/\(failR 11 s4).a=s4.a:=by unfold failR;rw[if_pos he4];exact ⟨by show (11:Nat)≠0;omega,rfl⟩
   simp (config:={maxSteps:=1000000}) (disch:=(first|assumption|omega|exact old_n (by omega)|exact old_hp (by assumption)|(simp only[nmL]<;>omega))) only[go_sem,seval]
   refine ⟨f,by omega,_,M7,opE o x y,_,_,f,by rfl,by simp only[go_sem,seval,g1],by simp only[go_sem,seval,g2],by simp only[go_sem,seval,g3],by simp only[go_sem,seval,g4],hd7,hxy7,hg7,ho7,ho17,hg17,by rw[hfe.2];exact hlim,fun h=>absurd h hfe.1,by omega,hC06.trans hC7 fun _ h _=>h,hE, ?_,rfl⟩
   have:=hst4.le
   rw[hfe.2];omega
  ·rw[if_neg hdp] at hE
   simp (config:={maxSteps:=1000000}) (disch:=(first|assumption|omega|exact old_n (by omega)|exact old_hp (by assumption)|(simp only[nmL]<;>omega))) only[go_sem,seval,g1]
   refine ⟨f,by omega,_,M6,opE o x y,_,_,f,by rw[hp_nil],by simp only[go_sem,seval,g1],by simp only[go_sem,seval,g2],by simp only[go_sem,seval,g3],by simp only[go_sem,seval,g4],hd6,hxy6,hg6,ho6,ho16,hg16,hlim,fun h=>by omega,by omega,hC06,hE, ?_,rfl⟩
   have:=hst4.le
   omega
 ·rw[if_pos he4] at hE
  injection hE with e1 e2
  subst e1 e2
  have hdg4:=hd4.g
  have hdo4:=hd4.o
  simp (config:={maxSteps:=1000000}) (disch:=(first|assumption|omega|exact old_n (by omega)|exact old_hp (by assumption)|(simp only[nmL]<;>omega))) only[go_sem,seval,g1,g2,g3,g4,g5,hyl,hdg4]
  generalize hM5:hp _ 1 M4=M5
  have hC5:Chg [] M4 M5:=by rw[←hM5];exact hp_of rfl
  exact hQ _ M5 u (by simp only[go_sem,seval,g3]) (by simp only[go_sem,seval,g4]) (hd4.chg hC5 (by simp)) (hx4.stays (stN hC5 _)) ((hC5.get ho4 (by simp)).trans hg4) (hC5.old ho4) (hC5.old ho14) ((hC5.get ho14 (by simp)).trans hg14) (hC04.trans hC5 (by simp))
end
end FR
open Go Nm Go.Proofs
namespace FR
set_option linter.unusedSimpArgs false
set_option linter.unusedVariables false
section
variable {m0:NH} {L:List Tok} {vl:NV} {r:D4} {rest:List NV}
theorem expr_r1 (hc:RC m0 L vl r) {E:Rs->Ex×Rs} {d:Nat} (hst:∀s,St L s (E s).2) (hP:ExC 173 m0 L vl r rest (partF L E d) d) (hsz:Szd (partF L E d)) (hsz1:∀s,s.a<=L.length->(partF L E d s).1.sz<=100000):ExC 162 m0 L vl r rest (exprL L E d) d:=by
 intro m s h0 hd ha
 refine WF.ex fun K hK=> ?_
 refine WF.of_wpG (fun _=>rfl) nf162_eq (L:= [(.a .e,ii d),(.e,.ptr r 0)]) rfl ?_
 unfold nf162
 have hll:=hc.len
 simp (config:={maxSteps:=1000000}) (disch:=(first|assumption|omega|exact old_n (by omega)|exact old_hp (by assumption)|(simp only[nmL]<;>omega))) only[go_sem,seval]
 generalize hM1:hp _ 1 m=M1
 have hC1:Chg [] m M1:=by rw[←hM1];exact hp_of rfl
 have hg1:M1.get (na m 0)=some (.cells true [ii 0,u64 0,u8 0,.str [],.nils]):=by rw[←hM1];exact h_getN
 have ho1:Old M1 (na m 0):=by rw[←hM1];exact old_n (by omega)
 have hr0:na m 0≠r:=fun e=>hd.o.ne 0 e.symm
 have hd1:=hd.chg hC1 (by simp)
 refine WF.useH (hP (h0.trans hC1 (by simp)) hd1 ha) ?_
 rintro v2 M2 ⟨⟨u,rfl,hx2⟩,hd2,hC2⟩
 have hst2:=st_part (L:=L) (d:=d) hst s
 have hlim:=hst2.lim ha
 have hsz2:=hsz s
 have hszz:=hsz1 s ha
 have hXS:loopE L (partF L E d) (L.length+1) (partF L E d s).1 (partF L E d s).2=((exprL L E d s).1,(exprL L E d s).2):=rfl
 generalize (exprL L E d s).1=X at hXS hK
 generalize (exprL L E d s).2=S at hXS hK
 generalize partF L E d s=p at hx2 hd2 hlim hsz2 hszz hXS
 obtain ⟨x,s2⟩:=p
 dsimp only at hx2 hd2 hlim hsz2 hszz hXS
 have hg2:=(hC2.get ho1 (by simpa using hr0)).trans hg1
 have ho2:=hC2.old ho1
 have hxl:(x.l u).length=5:=rfl
 have hC02:Chg [r] m M2:=(hC1.weak (by simp)).trans hC2 fun _ h _=>h
 simp (config:={maxSteps:=1000000}) (disch:=(first|assumption|omega|exact old_n (by omega)|exact old_hp (by assumption)|(simp only[nmL]<;>omega))) only[go_sem,seval,hxl]
 generalize hM3:hp _ 1 M2=M3
 have hC3:Chg [] M2 M3:=by rw[←hM3];exact hp_of rfl
 have hg3:M3.get (na M2 0)=some (.cells true (x.l u)):=by rw[←hM3];exact h_getN
 have ho3:Old M3 (na M2 0):=by rw[←hM3];exact old_n (by omega)
 have hx3:RE M3 (fun i=>¬Old m i/\i≠na m 0/\i≠na M2 0) x (x.l u):=(hx2.old.stays (stN hC3 _)).weak fun i hi=>⟨fun h=>hi.1 (hC1.old h),fun h=>hi.1 (h▸ho1),fun h=>na_old (h▸hi.2)⟩
 refine expr_loop hc (st_part hst) hsz hP h0 (b1:=na m 0) (b2:=na M2 0) na_old (fun h=>na_old (hC02.old h)) (fun e=>ho2.ne 0 e) hd.o (hd2.chg hC3 (by simp)) hx3 hg3 ho3 (hC3.old ho2) ((hC3.get ho2 (by simp)).trans hg2) hlim (fun h=>by have:=hsz2 h;omega) hszz (hC02.trans hC3 (by simp)) hXS (by simp only[go_sem,seval]) (by simp only[go_sem,seval]) (by simp only[go_sem,seval]) (by simp only[go_sem,seval]) ?_
 intro t' M' u' q1 q2 q3 q4 q5 q6 q7 q8 q9
 have hXl:(X.l u').length=5:=rfl
 have hXl':(X.l u').take 5=X.l u':=rfl
 rw[←hp_nil M']
 simp (config:={maxSteps:=1000000}) (disch:=(first|assumption|omega|exact old_n (by omega)|exact old_hp (by assumption)|(simp only[nmL]<;>omega))) only[go_sem,seval,q1,q2,q5,q8,hXl,hXl']
 generalize hM5:hp _ 0 M'=M5
 have hC5:Chg [na m 0] M' M5:=by rw[←hM5];exact hp_of rfl
 have hx5:RE M5 (New m) X (X.l u'):=(q4.stays (m':=M5) (Stays.of hC5 fun i hi hs=>by
  simp only[List.mem_cons,List.not_mem_nil,or_false] at hs;exact hi.2.1 hs)).weak fun i hi=>hi.1
 exact hK _ _ ⟨⟨u',rfl,hx5⟩,q3.chg hC5 (by simpa using hr0.symm),q9.trans hC5 fun i hi ho=>by
  simp only[List.mem_cons,List.not_mem_nil,or_false] at hi;subst hi;exact absurd ho na_old⟩
theorem loop_sz {P:Rs->Ex×Rs} (hst:∀s,St L s (P s).2) (hsz:Szd P):∀(f:Nat) (x:Ex) (s:Rs),s.a<=L.length->(s.e=0->x.sz<=s.a)->x.sz<=L.length+1->(loopE L P f x s).1.sz<=L.length+1:=by
 intro f
 induction f with
 |zero=>intro x s _ _ h;exact h
 |succ f ih=>
  intro x s ha h1 h2
  rw[loopE]
  split
  ·exact h2
  ·split
   ·exact h2
   ·rename_i q1 q2
    have hlt:=opOf_lt (L:=L) (a:=s.a) (by simpa using q2)
    have h3:=(hst (nextR s)).lim hlt
    split
    ·exact h2
    ·rename_i q3
     have h5:=hsz (nextR s) (by omega)
     have h6:=h1 (by omega)
     have h7:(nextR s).a=s.a+1:=rfl
     have h8:(opE (opOf (nowT L s.a)) x (P (nextR s)).1).sz=1+(x.sz+((P (nextR s)).1.sz+0)):=by simp[Ex.sz,szL]
     have hfa:∀e,(failR e (P (nextR s)).2).a=(P (nextR s)).2.a:=fun e=>by unfold failR;split<;>rfl
     refine ih _ _ ?_ ?_ (by omega)
     ·split
      ·rw[hfa];exact h3
      ·exact h3
     ·split
      ·rw[hfa];omega
      ·omega
theorem exprL_sz {E:Rs->Ex×Rs} {d:Nat} (hst:∀s,St L s (E s).2) (hsz:Szd (partF L E d)) (hp1:∀s,s.a<=L.length->(partF L E d s).1.sz<=L.length+1) (s:Rs) (ha:s.a<=L.length):(exprL L E d s).1.sz<=L.length+1:=
 loop_sz (st_part hst) hsz _ _ _ ((st_part (L:=L) (d:=d) hst s).lim ha) (fun h=>by have:=hsz s h;omega) (hp1 s ha)
theorem part_sz {E:Rs->Ex×Rs} {d:Nat} (hE:∀s,s.a<=L.length->(E s).1.sz<=L.length+1) (s:Rs) (ha:s.a<=L.length):(partF L E d s).1.sz<=L.length+1:=by
 unfold partF
 split
 ·simp[zE,Ex.sz,szL]
 ·split
  ·simp[zE,Ex.sz,szL]
  ·split
   ·simp[Ex.sz,szL]
   ·split
    ·simp[Ex.sz,szL]
    ·split
     ·rename_i h;exact hE _ (takeB_lt h).2
     ·simp[zE,Ex.sz,szL]
theorem expr_szN:∀(n:Nat) (s:Rs),s.a<=L.length->(exprN L n s).1.sz<=L.length+1:=by
 intro n
 induction n with
 |zero=>exact fun s ha=>exprL_sz (fun s=>St.refl _ s) (sz_part0 L _) (part_sz fun s _=>by simp[zE,Ex.sz,szL]) s ha
 |succ n ih=>exact fun s ha=>exprL_sz (st_expr L n) (sz_part (st_expr L n) (sz_expr L n)) (part_sz ih) s ha
theorem expr_r (hc:RC m0 L vl r):∀n,n<=30->ExC 162 m0 L vl r rest (exprN L n) (30 - n):=by
 have hll:=hc.len
 intro n
 induction n with
 |zero=>
  intro _
  have e2:exprN L 0=exprL L (fun s=>(zE,s)) 30:=by funext s;rfl
  rw[e2]
  intro m s
  exact expr_r1 (E:=fun s=>(zE,s)) hc (fun s=>St.refl _ s) (part_r hc (fun s=>St.refl _ s) (fun h=>by omega) (by omega)) (sz_part0 L _) fun s ha=>by have:=part_sz (L:=L) (E:=fun s=>(zE,s)) (d:=30) (fun s _=>by simp[zE,Ex.sz,szL]) s ha;omega
 |succ n ih=>
  intro hn
  have e:30 - (n+1)=29 - n:=by omega
  have h1:29 - n+1=30 - n:=by omega
  have e2:exprN L (n+1)=exprL L (exprN L n) (29 - n):=by funext s;rfl
  rw[e,e2]
  intro m s
  exact expr_r1 hc (st_expr L n) (part_r hc (st_expr L n) (fun _=>by rw[h1];exact ih (by omega)) (by omega)) (sz_part (st_expr L n) (sz_expr L n)) fun s ha=>by have:=part_sz (d:=29 - n) (expr_szN n) s ha;omega
end
end FR
open Go Nm Go.Proofs
namespace FR
set_option linter.unusedSimpArgs false
set_option linter.unusedVariables false
section
variable (L:List Tok)
abbrev exR (s:Rs):Ex×Rs:=exprN L 30 s
def placeF (s:Rs):List Nat×Ex×Rs:=if takeB L [91] (nameR L s).2=true then ((nameR L s).1,(exR L (nextR (nameR L s).2)).1,wantR L [93] (exR L (nextR (nameR L s).2)).2) else ((nameR L s).1,zE,(nameR L s).2)
def endF (x:Stm) (s:Rs):Stm×Rs:=(x,wantR L [59] s)
def setF (p:Int) (s:Rs):Stm×Rs:=endF L (.mk 0 p (nameR L s).1 [] zE (exR L (nameR L s).2).1 zE [] []) (exR L (nameR L s).2).2
def loadF (p:Int) (s:Rs):Stm×Rs:=endF L (.mk 1 p (nameR L s).1 (placeF L (nameR L s).2).1 (placeF L (nameR L s).2).2.1 zE zE [] []) (placeF L (nameR L s).2).2.2
def storeF (p:Int) (s:Rs):Stm×Rs:=endF L (.mk 2 p [] (placeF L s).1 (placeF L s).2.1 (exR L (placeF L s).2.2).1 zE [] []) (exR L (placeF L s).2.2).2
def casF (p:Int) (s:Rs):Stm×Rs:=endF L (.mk 3 p (nameR L s).1 (placeF L (nameR L s).2).1 (placeF L (nameR L s).2).2.1 (exR L (placeF L (nameR L s).2).2.2).1 (exR L (exR L (placeF L (nameR L s).2).2.2).2).1 [] []) (exR L (exR L (placeF L (nameR L s).2).2.2).2).2
def outF (p:Int) (s:Rs):Stm×Rs:=endF L (.mk 5 p [] [] zE (exR L s).1 zE [] []) (exR L s).2
def ifF (B:Rs->List Stm×Rs) (p:Int) (s:Rs):Stm×Rs:=
 if takeB L [101,108,115,101] (B (exR L s).2).2=true then (.mk 6 p [] [] zE (exR L s).1 zE (B (exR L s).2).1 (B (nextR (B (exR L s).2).2)).1,(B (nextR (B (exR L s).2).2)).2)
 else (.mk 6 p [] [] zE (exR L s).1 zE (B (exR L s).2).1 [],(B (exR L s).2).2)
def whileF (B:Rs->List Stm×Rs) (p:Int) (s:Rs):Stm×Rs:=(.mk 7 p [] [] zE (exR L s).1 zE (B (exR L s).2).1 [],(B (exR L s).2).2)
def stmtF (B:Rs->List Stm×Rs) (s:Rs):Stm×Rs:=
 if takeB L [115,101,116] s=true then setF L (nowT L s.a).p (nextR s)
 else if takeB L [108,111,97,100] s=true then loadF L (nowT L s.a).p (nextR s)
 else if takeB L [115,116,111,114,101] s=true then storeF L (nowT L s.a).p (nextR s)
 else if takeB L [99,97,115] s=true then casF L (nowT L s.a).p (nextR s)
 else if takeB L [102,101,110,99,101] s=true then endF L (.mk 4 (nowT L s.a).p [] [] zE zE zE [] []) (nextR s)
 else if takeB L [111,117,116] s=true then outF L (nowT L s.a).p (nextR s)
 else if takeB L [105,102] s=true then ifF L B (nowT L s.a).p (nextR s)
 else if takeB L [119,104,105,108,101] s=true then whileF L B (nowT L s.a).p (nextR s)
 else endF L (.mk 0 (nowT L s.a).p [] [] zE zE zE [] []) (failR 2 s)
def loopB (S:Rs->Stm×Rs):Nat->List Stm->Rs->List Stm×Rs
 |0,l,s=>(l,s)
 |f+1,l,s=>if s.e≠0 then (l,s) else if takeB L [125] s=true then (l,nextR s) else loopB S f (l++ [(S s).1]) (S s).2
def deepF (d:Nat) (s:Rs):Rs:=if s.e=0/\29<d/\(nowT L s.a).k=3/\(nowT L s.a).t= [123] then failR 11 s else s
def bodyF (S:Rs->Stm×Rs) (d:Nat) (s:Rs):List Stm×Rs:=loopB L S (L.length+1) [] (wantR L [123] (deepF L d s))
def bodyN:Nat->Rs->List Stm×Rs
 |0,s=>bodyF L (fun s=>(.mk 0 0 [] [] zE zE zE [] [],failR 2 s)) 30 s
 |n+1,s=>bodyF L (stmtF L (bodyN n)) (29 - n) s
end
section
variable {m0:NH} {L:List Tok} {vl:NV} {r:D4} {rest:List NV}
theorem st_place (s:Rs):St L s (placeF L s).2.2:=by
 unfold placeF
 split
 ·rename_i h;exact (((st_name L s).trans (st_take h)).trans (st_expr L 30 _)).trans (st_want _ _ _)
 ·exact st_name L s
theorem exr (hc:RC m0 L vl r):ExC 162 m0 L vl r rest (exR L) 0:=by
 intro m s
 exact expr_r hc 30 (Nat.le_refl _)
theorem place_r (hc:RC m0 L vl r) {m:NH} {s:Rs} (h0:Chg [] m0 m) (hd:RD m r vl s rest) (ha:s.a<=L.length) {pb:D4} (hpr:pb≠r) (hop:Old m pb) (hnp:¬Old m0 pb) {c0 c1 c2 c3:NV} {c:List NV} (hl:c.length=12)
 (hg:m.get pb=some (.cells true (c0::c1::c2::c3::ii 0::u64 0::u8 0:: .str []:: .nils::c))):
 ∃m',Ret Try.prog S0 163 [.ptr r 0,.ptr pb 0] m (.tup []) m'/\∃u,m'.get pb=some (.cells true (c0::c1::c2:: .str (placeF L s).1::((placeF L s).2.1.l u++c)))/\RE m' (New m) (placeF L s).2.1 ((placeF L s).2.1.l u)/\RD m' r vl (placeF L s).2.2 rest/\Chg [r,pb] m m':=by
 refine WF.ex1 fun K hK=> ?_
 refine WF.of_wpG (fun _=>rfl) nf163_eq (L:= [(.a .e,.ptr pb 0),(.e,.ptr r 0)]) rfl ?_
 unfold nf163
 have hll:=hc.len
 have hrp:r≠pb:=fun e=>hpr e.symm
 simp (config:={maxSteps:=1000000}) (disch:=(first|assumption|omega|exact old_n (by omega)|exact old_hp (by assumption)|(simp only[nmL]<;>omega))) only[go_sem,seval,hp_nil]
 refine WF.use1H (name_r hc h0 hd (by omega)) ?_
 rintro M1 ⟨hd1,hC1⟩
 have hst1:=st_name L s
 unfold placeF at hK
 generalize nameR L s=q at hK hd1 hst1
 obtain ⟨n,s1⟩:=q
 dsimp only at hK hd1 hst1
 have hg1:=(hC1.get hop (by simpa using hpr)).trans hg
 have ho1:=hC1.old hop
 simp (config:={maxSteps:=1000000}) (disch:=(first|assumption|omega|exact old_n (by omega)|exact old_hp (by assumption)|(simp only[nmL]<;>omega))) only[go_sem,seval,hg1]
 generalize hM2:hp _ 0 M1=M2
 have hC2:Chg [pb] M1 M2:=by rw[←hM2];exact hp_of rfl
 have hg2:M2.get pb=some (.cells true (c0::c1::c2:: .str n::ii 0::u64 0::u8 0:: .str []:: .nils::c)):=by rw[←hM2];exact (h_getO ho1).trans h_lookOs
 have ho2:=hC2.old ho1
 have hd2:=hd1.chg hC2 (by simpa using hrp)
 have hC02:Chg [r,pb] m M2:=(hC1.weak (by simp)).trans hC2 (by simp)
 have hlim:=hst1.lim ha
 have hbase:∀{M},Chg [r,pb] m M->Chg [] m0 M:=fun h=>h0.trans h fun i hi ho=>by
  simp only[List.mem_cons,List.not_mem_nil,or_false] at hi
  rcases hi with rfl|rfl
  ·exact absurd ho hc.no
  ·exact absurd ho hnp
 refine WF.use1H (take_r hc (hbase hC02) hd2 [91] (by simp) (by omega)) ?_
 rintro M3 ⟨hd3,hC3⟩
 have hg3:=(hC3.get ho2 (by simpa using hpr)).trans hg2
 have ho3:=hC3.old ho2
 have hC03:Chg [r,pb] m M3:=hC02.trans hC3 (by intro i hi _;simp at hi ⊢;exact Or.inl hi)
 cases hb:takeB L [91] s1 with
 |true=>
  rw[hb,if_pos rfl] at hK hd3
  have hlt:=(takeB_lt hb).2
  simp (config:={maxSteps:=1000000}) (disch:=(first|assumption|omega|exact old_n (by omega)|exact old_hp (by assumption)|(simp only[nmL]<;>omega))) only[go_sem,seval,hp_nil]
  refine WF.useH (exr hc (hbase hC03) hd3 hlt) ?_
  rintro v4 M4 ⟨⟨u,rfl,hx4⟩,hd4,hC4⟩
  have hst4:=st_expr L 30 (nextR s1)
  have hlim4:=hst4.lim hlt
  dsimp only at hK
  generalize hq:exR L (nextR s1)=q at hK hx4 hd4
  have hq':exprN L 30 (nextR s1)=q:=hq
  rw[hq'] at hlim4
  obtain ⟨x,s4⟩:=q
  dsimp only at hK hx4 hd4 hlim4
  have hg4:=(hC4.get ho3 (by simpa using hpr)).trans hg3
  have ho4:=hC4.old ho3
  have hxl:(x.l u).length=5:=rfl
  simp (config:={maxSteps:=1000000}) (disch:=(first|assumption|omega|exact old_n (by omega)|exact old_hp (by assumption)|(simp only[nmL]<;>omega))) only[go_sem,seval,hg4,hxl,hl]
  generalize hM5:hp _ 0 M4=M5
  have hC5:Chg [pb] M4 M5:=by rw[←hM5];exact hp_of rfl
  have hg5:M5.get pb=some (.cells true (c0::c1::c2:: .str n::(x.l u++c))):=by rw[←hM5];exact (h_getO ho4).trans h_lookOs
  have ho5:=hC5.old ho4
  have hC04:Chg [r,pb] m M4:=hC03.trans hC4 (by intro i hi _;simp at hi ⊢;exact Or.inl hi)
  have hC05:Chg [r,pb] m M5:=hC04.trans hC5 (by simp)
  refine WF.use1H (want_r hc (hbase hC05) (hd4.chg hC5 (by simpa using hrp)) [93] (by simp) (by omega)) ?_
  rintro M6 ⟨hd6,hC6⟩
  simp (config:={maxSteps:=1000000}) (disch:=(first|assumption|omega|exact old_n (by omega)|exact old_hp (by assumption)|(simp only[nmL]<;>omega))) only[go_sem,seval,hp_nil]
  refine hK _ ⟨u,(hC6.get ho5 (by simpa using hpr)).trans hg5, ?_,hd6,hC05.trans hC6 (by intro i hi _;simp at hi ⊢;exact Or.inl hi)⟩
  refine ((hx4.chg hC5 ?_).chg hC6 ?_).new fun i hi=>hC03.old hi
  ·intro i hi;simp only[List.mem_cons,List.not_mem_nil,or_false] at hi;subst hi;exact ho3
  ·intro i hi;simp only[List.mem_cons,List.not_mem_nil,or_false] at hi;subst hi;exact hd3.o
 |false=>
  rw[hb,if_neg Bool.false_ne_true] at hK hd3
  simp (config:={maxSteps:=1000000}) (disch:=(first|assumption|omega|exact old_n (by omega)|exact old_hp (by assumption)|(simp only[nmL]<;>omega))) only[go_sem,seval,hp_nil]
  exact hK _ ⟨.nils,hg3,re0 _ _ 0 0 0 [],hd3,hC03⟩
end
end FR
open Go Nm Go.Proofs
namespace FR
set_option linter.unusedSimpArgs false
set_option linter.unusedVariables false
def StC (m0:NH) (L:List Tok) (vl:NV) (r:D4) (rest:List NV) (S:Rs->Stm×Rs) (d:Nat):Prop:=∀{m:NH} {s:Rs},Chg [] m0 m->RD m r vl s rest->s.a<=L.length->
 ∃v m',Ret Try.prog S0 135 [.ptr r 0,ii d] m v m'/\(∃w,v= .agg ((S s).1.l w)/\RS m' (New m) (S s).1 ((S s).1.l w))/\RD m' r vl (S s).2 rest/\Chg [r] m m'
def BdC (m0:NH) (L:List Tok) (vl:NV) (r:D4) (rest:List NV) (B:Rs->List Stm×Rs) (d:Nat):Prop:=∀{m:NH} {s:Rs},Chg [] m0 m->RD m r vl s rest->s.a<=L.length->
 ∃v m',Ret Try.prog S0 88 [.ptr r 0,ii d] m v m'/\(∃C,SS m' (New m) v (B s).1 C)/\RD m' r vl (B s).2 rest/\Chg [r] m m'
section
variable {m0:NH} {L:List Tok} {vl:NV} {r:D4} {rest:List NV}
theorem st_deep (d:Nat) (s:Rs):St L s (deepF L d s):=by
 unfold deepF
 split
 ·exact st_fail _ _ _
 ·exact St.refl _ _
theorem body_loop (hc:RC m0 L vl r) {S:Rs->Stm×Rs} {d:Nat} (hst:∀s,St L s (S s).2) (hpr:∀s,s.e=0->s.a<(S s).2.a∨(S s).2.e≠0) (hS:d<=29->StC m0 L vl r rest S d) (hd29:∀s:Rs,d=30->True) {m:NH} (h0:Chg [] m0 m) (horm:Old m r)
 {X:List Stm} {Z:Rs} {M:NH} {s:Rs} (hde:s.e≠0∨d<=29) (hd:RD M r vl s rest) (ha:s.a<=L.length) (hC:Chg [r] m M) (hE:loopB L S (L.length+1) [] s=(X,Z))
 {t:Tm} (g1:NT.get D4.e t=some (.ptr r 0)) (g2:NT.get D4.e.a t=some (ii d)) (g3:NT.get D4.e.a.a t=some .nils) {Q:Out->Dyn->Prop}
 (hQ:∀t' M' v C,NT.get D4.e.a.a t'=some v->RD M' r vl Z rest->SS M' (New m) v X C->Chg [r] m M'->Q (.exit 0) ⟨puts [] t', [],none,M'⟩):
 W Try.prog S0 none nf88_l1.loop ⟨t, [],none,M⟩ Q:=by
 refine W.loop (fun k D=>∃t M l s v C,D=⟨t, [],none,M⟩/\NT.get D4.e t=some (.ptr r 0)/\NT.get D4.e.a t=some (ii d)/\NT.get D4.e.a.a t=some v/\(s.e≠0∨d<=29)/\RD M r vl s rest/\Own m M v 21 C/\C.length=l.length/\(∀(j:Nat) (x:Stm) (c:List NV),l[j]? =some x->C[j]? =some c->RS M (fun i=>¬Old m i/\i∉ids v) x c)/\s.a<=L.length/\Chg [r] m M/\loopB L S k l s=(X,Z)/\(L.length<k+s.a∨s.e≠0)/\l.length+k<=L.length+1) ?_ (L.length+1) _ ⟨t,M, [],s,.nils, [],rfl,g1,g2,g3,hde,hd,Own.nil,rfl,by simp,ha,hC,hE,Or.inl (by omega),by simp⟩
 clear hde hd ha hC hE g1 g2 g3
 rintro k D ⟨t,M,l,s,v,C,rfl,g1,g2,g3,hde,hd,hv,hcl,hR,ha,hC,hE,hf,hlk⟩
 apply wp_sound
 unfold nf88_l1
 change wp _ _ _ _ ⟨puts [] t, [],none,M⟩ _
 have hll:=hc.len
 have hdg:=hd.g
 by_cases he:s.e=0
 ·obtain ⟨f,rfl⟩:∃f',k=f'+1:=⟨k - 1,by rcases hf with h|h<;>omega⟩
  rw[loopB,if_neg (by omega)] at hE
  simp (config:={maxSteps:=1000000}) (disch:=(first|assumption|omega|exact old_n (by omega)|exact old_hp (by assumption)|(simp only[nmL]<;>omega))) only[go_sem,seval,g1,g2,g3,hdg]
  refine WF.use1H (take_r hc (hc.chg h0 hC) hd [125] (by simp) (by omega)) ?_
  rintro M2 ⟨hd2,hC2⟩
  have hrv:∀i∈ids v,i∉ [r]:=fun i hi h=>by
   simp only[List.mem_cons,List.not_mem_nil,or_false] at h;subst h;exact hv.new _ hi horm
  have hv2:=hv.chg hC2 hrv
  have hC02:Chg [r] m M2:=hC.trans hC2 fun _ h _=>h
  have hst2:Stays (fun i=>¬Old m i/\i∉ids v) M M2:=Stays.of hC2 fun i hi hs=>by
   simp only[List.mem_cons,List.not_mem_nil,or_false] at hs;subst hs;exact hi.1 horm
  cases hb:takeB L [125] s with
  |true=>
   rw[hb,if_pos rfl] at hE hd2
   injection hE with e1 e2
   subst e1 e2
   simp (config:={maxSteps:=1000000}) (disch:=(first|assumption|omega|exact old_n (by omega)|exact old_hp (by assumption)|(simp only[nmL]<;>omega))) only[go_sem,seval,g1,g2,g3,hp_nil]
   exact hQ _ M2 v C (by simp only[go_sem,seval,g3]) hd2 ⟨hv2.sl,fun i hi=>hv2.new i hi,hcl,fun j x c h1 h2=>((hR j x c h1 h2).stays hst2).weak fun i hi=>hi.1⟩ hC02
  |false=>
   rw[hb,if_neg Bool.false_ne_true] at hE hd2
   simp (config:={maxSteps:=1000000}) (disch:=(first|assumption|omega|exact old_n (by omega)|exact old_hp (by assumption)|(simp only[nmL]<;>omega))) only[go_sem,seval,g1,g2,g3,hp_nil]
   refine WF.useH (hS (by omega) (hc.chg h0 hC02) hd2 ha) ?_
   rintro v3 M3 ⟨⟨w,rfl,hx3⟩,hd3,hC3⟩
   have hlim:=(hst s).lim ha
   have hpr':=hpr s he
   generalize S s=q at hE hx3 hd3 hlim hpr'
   obtain ⟨x,s3⟩:=q
   dsimp only at hE hx3 hd3 hlim hpr'
   have hxl:(x.l w).length=21:=rfl
   have hxl':(x.l w).take 21=x.l w:=rfl
   simp (config:={maxSteps:=1000000}) (disch:=(first|assumption|omega|exact old_n (by omega)|exact old_hp (by assumption)|(simp only[nmL]<;>omega))) only[go_sem,seval,g1,g2,g3,hxl]
   have hC4:Chg [] M3 (hp [(.n 0,.cells true (x.l w))] 1 M3):=hp_of rfl
   have hv3:=hv2.chg hC3 hrv
   have hC03:Chg [r] m M3:=hC02.trans hC3 fun _ h _=>h
   refine wNT_app2 (cs:=x.l w) (hv3.chg hC4 fun _ _=>by simp) h_getN (old_n (by omega)) hxl (fun i hi=>hC4.old (hC03.old hi)) (by omega) (by omega) ?_
   intro v5 M5 hv5 hC5 hF5
   generalize hM4:hp [(.n 0,.cells true (x.l w))] 1 M3=M4 at hC4 hC5 hF5
   have hC34:Chg [r] M2 M4:=hC3.trans hC4 (by simp)
   have hd5:RD M5 r vl s3 rest:=(hd3.chg hC4 (by simp)).chg hC5 fun h=>hv.new _ h horm
   have hC05:Chg [r] m M5:=(hC02.trans hC34 fun _ h _=>h).trans hC5 fun i hi ho=>absurd ho (hv.new i hi)
   have hlen5:(l++ [x]).length=l.length+1:=by simp
   simp (config:={maxSteps:=1000000}) (disch:=(first|assumption|omega|exact old_n (by omega)|exact old_hp (by assumption)|(simp only[nmL]<;>omega))) only[go_sem,seval,g1,g2,g3]
   refine ⟨f,by omega,_,M5,l++ [x],s3,v5,C++ [x.l w],by rfl,by simp only[go_sem,seval,g1],by simp only[go_sem,seval,g2],by simp only[go_sem,seval], ?_,hd5,hv5,by simp[hcl], ?_,hlim,hC05,hE, ?_,by omega⟩
   ·rcases hde with h|h
    ·exact absurd he h
    ·exact Or.inr h
   ·have hold:∀(j:Nat) (y:Stm) (c:List NV),l[j]? =some y->C[j]? =some c->RS M5 (fun i=>¬Old m i/\i∉ids v5) y c:=fun j y c h1 h2=>by
     have a1:=((hR j y c h1 h2).stays hst2).stays (m':=M4) (Stays.of hC34 fun i hi hs=>by
      simp only[List.mem_cons,List.not_mem_nil,or_false] at hs;subst hs;exact hi.1 horm)
     have a2:=a1.old.stays (m':=M5) (Stays.of hC5 fun i hi hs=>hi.1.2 hs)
     exact a2.weak fun i hi=>⟨hi.1.1,fun h=>(hF5 i h).elim hi.1.2 fun q=>q hi.2⟩
    have hnew:RS M5 (fun i=>¬Old m i/\i∉ids v5) x (x.l w):=by
     have a1:RS M4 (New M2) x (x.l w):=hx3.chg hC4 (by simp)
     have a2:=a1.old.stays (m':=M5) (Stays.of hC5 fun i hi hs=>hi.1 (hv2.sl.old i hs))
     exact a2.weak fun i hi=>⟨fun h=>hi.1 (hC02.old h),fun h=>(hF5 i h).elim (fun q=>hi.1 (hv2.sl.old i q)) fun q=>q hi.2⟩
    intro j y c h1 h2
    rcases Nat.lt_or_ge j l.length with h|h
    ·rw[List.getElem?_append_left h] at h1
     rw[List.getElem?_append_left (by omega)] at h2
     exact hold j y c h1 h2
    ·rw[List.getElem?_append_right h] at h1
     rw[List.getElem?_append_right (by omega),hcl] at h2
     cases hj:j - l.length with
     |zero=>rw[hj] at h1 h2;cases h1;cases h2;exact hnew
     |succ n=>rw[hj] at h1;simp at h1
   ·rcases hpr' with h|h
    ·left;rcases hf with q|q<;>omega
    ·exact Or.inr h
 ·have hde':decide ((s.e:Int)=0)=false:=decide_eq_false (by omega)
  have hE':(l,s)=(X,Z):=by
   cases k with
   |zero=>exact hE
   |succ k=>rw[loopB,if_pos he] at hE;exact hE
  injection hE' with e1 e2
  subst e1 e2
  simp (config:={maxSteps:=1000000}) (disch:=(first|assumption|omega|exact old_n (by omega)|exact old_hp (by assumption)|(simp only[nmL]<;>omega))) only[go_sem,seval,g1,g2,g3,hdg,hde']
  exact hQ _ M v C (by simp only[go_sem,seval,g3]) hd ⟨hv.sl,fun i hi=>hv.new i hi,hcl,fun j x c h1 h2=>(hR j x c h1 h2).weak fun i hi=>hi.1⟩ hC
theorem body_r1 (hc:RC m0 L vl r) {S:Rs->Stm×Rs} {d:Nat} (hst:∀s,St L s (S s).2) (hpr:∀s,s.e=0->s.a<(S s).2.a∨(S s).2.e≠0) (hS:d<=29->StC m0 L vl r rest S d):BdC m0 L vl r rest (bodyF L S d) d:=by
 intro m s h0 hd ha
 refine WF.ex fun K hK=> ?_
 refine WF.of_wpG (fun _=>rfl) nf88_eq (L:= [(.a .e,ii d),(.e,.ptr r 0)]) rfl ?_
 unfold nf88
 have hll:=hc.len
 have hdg:=hd.g
 refine cut2 (fun D=>D=⟨puts [(D4.e.a.a,.nils),(D4.e.f,.nils),(D4.e.a,ii d),(D4.e,.ptr r 0)] .leaf, [],none,m⟩) (fun R hR=> ?_) ?_
 ·simp (config:={maxSteps:=1000000}) (disch:=(first|assumption|omega|exact old_n (by omega)|exact old_hp (by assumption)|(simp only[nmL]<;>omega))) only[go_sem,seval,hp_nil]
  exact hR _ rfl
 rintro D rfl
 refine cutK (fun D=>∃t M,D=⟨t, [],none,M⟩/\NT.get D4.e t=some (.ptr r 0)/\NT.get D4.e.a t=some (ii d)/\NT.get D4.e.a.a t=some .nils/\RD M r vl (deepF L d s) rest/\Chg [r] m M) (fun R hR=> ?_) ?_
 ·have no:∀(t:Tm) (M:NH),NT.get D4.e t=some (.ptr r 0)->NT.get D4.e.a t=some (ii d)->NT.get D4.e.a.a t=some .nils->deepF L d s=s->Chg [] m M->R ⟨t, [],none,M⟩:=fun t M q1 q2 q3 q4 q5=>hR _ ⟨t,M,rfl,q1,q2,q3,by rw[q4];exact hd.chg q5 (by simp),q5.weak (by simp)⟩
  by_cases he:s.e=0
  ·by_cases h29:29<d
   ·obtain ⟨M1,hr1,hC1⟩:=now_r hc h0 hd
    have hd1:=hd.chg hC1 (by simp)
    obtain ⟨M2,hr2,hC2⟩:=now_r hc (h0.trans hC1 (by simp)) hd1
    have hd2:=hd1.chg hC2 (by simp)
    have hl0:(nowT L s.a).l[0]? =some (ii (nowT L s.a).k):=rfl
    have hl1:(nowT L s.a).l[1]? =some (.str (nowT L s.a).t):=rfl
    by_cases hk:(nowT L s.a).k=3
    ·by_cases ht:(nowT L s.a).t= [123]
     ·simp (config:={maxSteps:=1000000}) (disch:=(first|assumption|omega|exact old_n (by omega)|exact old_hp (by assumption)|(simp only[nmL]<;>omega))) only[go_sem,seval,hdg,hr1.wf',hr2.wf',hl0,hl1]
      refine WF.use1 (fail_r hd2 11) ?_
      rintro M3 ⟨hd3,hC3⟩
      simp (config:={maxSteps:=1000000}) (disch:=(first|assumption|omega|exact old_n (by omega)|exact old_hp (by assumption)|(simp only[nmL]<;>omega))) only[go_sem,seval]
      refine hR _ ⟨_,M3,rfl,by simp only[go_sem,seval],by simp only[go_sem,seval],by simp only[go_sem,seval], ?_,((hC1.trans hC2 (by simp)).weak (by simp)).trans hC3 fun _ h _=>h⟩
      rw[deepF,if_pos ⟨he,h29,hk,ht⟩];exact hd3
     ·simp (config:={maxSteps:=1000000}) (disch:=(first|assumption|omega|exact old_n (by omega)|exact old_hp (by assumption)|(simp only[nmL]<;>omega))) only[go_sem,seval,hdg,hr1.wf',hr2.wf',hl0,hl1]
      exact no _ _ (by simp only[go_sem,seval]) (by simp only[go_sem,seval]) (by simp only[go_sem,seval]) (by rw[deepF,if_neg (fun h=>ht h.2.2.2)]) (hC1.trans hC2 (by simp))
    ·simp (config:={maxSteps:=1000000}) (disch:=(first|assumption|omega|exact old_n (by omega)|exact old_hp (by assumption)|(simp only[nmL]<;>omega))) only[go_sem,seval,hdg,hr1.wf',hr2.wf',hl0,hl1]
     exact no _ _ (by simp only[go_sem,seval]) (by simp only[go_sem,seval]) (by simp only[go_sem,seval]) (by rw[deepF,if_neg (fun h=>hk h.2.2.1)]) hC1
   ·simp (config:={maxSteps:=1000000}) (disch:=(first|assumption|omega|exact old_n (by omega)|exact old_hp (by assumption)|(simp only[nmL]<;>omega))) only[go_sem,seval,hdg]
    exact no _ _ (by simp only[go_sem,seval]) (by simp only[go_sem,seval]) (by simp only[go_sem,seval]) (by rw[deepF,if_neg (fun h=>h29 h.2.1)]) (Chg.refl m)
  ·have hde':decide ((s.e:Int)=0)=false:=decide_eq_false (by omega)
   simp (config:={maxSteps:=1000000}) (disch:=(first|assumption|omega|exact old_n (by omega)|exact old_hp (by assumption)|(simp only[nmL]<;>omega))) only[go_sem,seval,hdg,hde']
   exact no _ _ (by simp only[go_sem,seval]) (by simp only[go_sem,seval]) (by simp only[go_sem,seval]) (by rw[deepF,if_neg (fun h=>he h.1)]) (Chg.refl m)
 rintro D ⟨t,M,rfl,g1,g2,g3,hdM,hCM⟩
 change wp _ _ _ _ ⟨puts [] t, [],none,M⟩ _
 have hst1:=(st_deep (L:=L) d s).lim ha
 have hst2:=(st_want L [123] (deepF L d s)).lim hst1
 have hX:loopB L S (L.length+1) [] (wantR L [123] (deepF L d s))=((bodyF L S d s).1,(bodyF L S d s).2):=rfl
 have hdeep:(wantR L [123] (deepF L d s)).e≠0∨d<=29:=by
  rcases Nat.lt_or_ge 29 d with h|h
  ·left
   have hff:∀e (s:Rs),e≠0->(failR e s).e≠0:=fun e s h=>by unfold failR;split;exact h;assumption
   by_cases he:s.e=0
   ·by_cases hk:(nowT L s.a).k=3/\(nowT L s.a).t= [123]
    ·have e1:deepF L d s=failR 11 s:=by rw[deepF,if_pos ⟨he,h,hk.1,hk.2⟩]
     rw[e1]
     intro q
     exact hff 11 s (by omega) ((st_want L [123] _).zero q)
    ·have e1:deepF L d s=s:=by rw[deepF,if_neg (fun h=>hk ⟨h.2.2.1,h.2.2.2⟩)]
     rw[e1]
     have e2:takeB L [123] s=false:=decide_eq_false fun q=>hk ⟨q.2.1,q.2.2⟩
     rw[wantR,e2,if_neg Bool.false_ne_true]
     exact hff 2 s (by omega)
   ·intro q
    exact he ((st_deep (L:=L) d s).zero ((st_want L [123] _).zero q))
  ·exact Or.inr h
 generalize (bodyF L S d s).1=X at hX hK
 generalize (bodyF L S d s).2=Z at hX hK
 simp (config:={maxSteps:=1000000}) (disch:=(first|assumption|omega|exact old_n (by omega)|exact old_hp (by assumption)|(simp only[nmL]<;>omega))) only[go_sem,seval,g1,g2,g3]
 refine WF.use1 (want_r hc (hc.chg h0 hCM) hdM [123] (by simp) (by omega)) ?_
 rintro M2 ⟨hd2,hC2⟩
 have hC02:Chg [r] m M2:=hCM.trans hC2 fun _ h _=>h
 simp (config:={maxSteps:=1000000}) (disch:=(first|assumption|omega|exact old_n (by omega)|exact old_hp (by assumption)|(simp only[nmL]<;>omega))) only[go_sem,seval,g1,g2,g3]
 refine body_loop hc hst hpr hS (fun _ _=>trivial) h0 hd.o hdeep hd2 hst2 hC02 hX (by simp only[go_sem,seval,g1]) (by simp only[go_sem,seval,g2]) (by simp only[go_sem,seval,g3]) ?_
 intro t' M' v C q1 q2 q3 q4
 simp (config:={maxSteps:=1000000}) (disch:=(first|assumption|omega|exact old_n (by omega)|exact old_hp (by assumption)|(simp only[nmL]<;>omega))) only[go_sem,seval,q1]
 exact hK _ _ ⟨⟨C,q3⟩,q2,q4⟩
end
end FR
open Go Nm Go.Proofs
namespace FR
set_option linter.unusedSimpArgs false
set_option linter.unusedVariables false
abbrev TB (m:NH) (b1 b2:D4):D4->Prop:=fun i=>¬Old m i/\i≠b1/\i≠b2
structure SC (m:NH) (r b1 b2:D4) (vl:NV) (rest z:List NV) (M:NH) (s:Rs) (c:List NV):Prop where
 hd:RD M r vl s rest
 g2:M.get b2=some (.cells true c)
 o2:Old M b2
 g1:M.get b1=some (.cells true z)
 o1:Old M b1
 hC:Chg [r] m M
section
variable {m0:NH} {L:List Tok} {vl:NV} {r b1 b2:D4} {rest z:List NV} {m M M':NH} {s s':Rs} {c c':List NV} {l:List (AK×NO)} {k:Nat}
theorem SC.call (h:SC m r b1 b2 vl rest z M s c) (h1:b1≠r) (h2:b2≠r) (hC:Chg [r] M M') (hd:RD M' r vl s' rest):SC m r b1 b2 vl rest z M' s' c:=
 ⟨hd,(hC.get h.o2 (by simpa using h2)).trans h.g2,hC.old h.o2,(hC.get h.o1 (by simpa using h1)).trans h.g1,hC.old h.o1,h.hC.trans hC fun _ h _=>h⟩
theorem SC.grow (h:SC m r b1 b2 vl rest z M s c) (hC:Chg [] M M'):SC m r b1 b2 vl rest z M' s c:=
 ⟨h.hd.chg hC (by simp),(hC.get h.o2 (by simp)).trans h.g2,hC.old h.o2,(hC.get h.o1 (by simp)).trans h.g1,hC.old h.o1,h.hC.trans hC (by simp)⟩
theorem SC.put (h:SC m r b1 b2 vl rest z M s c) (h2:b2≠r) (h12:b1≠b2) (hn:¬Old m b2) (hl:∀i∈oldK l,i=b2):SC m r b1 b2 vl rest z (hp ((.o b2,.cells true c')::l) k M) s c':=by
 have hC:Chg [b2] M (hp ((.o b2,.cells true c')::l) k M):=(hp_of rfl).weak fun i hi _=>by
  simp only[oldK,List.mem_cons] at hi ⊢
  rcases hi with rfl|hi
  ·exact Or.inl rfl
  ·exact Or.inl (hl i hi)
 exact ⟨h.hd.chg hC (by simpa using h2.symm),(h_getO h.o2).trans h_lookOs,hC.old h.o2,(hC.get h.o1 (by simpa using h12)).trans h.g1,hC.old h.o1,h.hC.trans hC fun i hi ho=>by
  simp only[List.mem_cons,List.not_mem_nil,or_false] at hi;subst hi;exact absurd ho hn⟩
theorem SC.place (h:SC m r b1 b2 vl rest z M s c) (h1:b1≠r) (h12:b1≠b2) (hn:¬Old m b2) (hC:Chg [r,b2] M M') (hd:RD M' r vl s' rest) (hg:M'.get b2=some (.cells true c')):SC m r b1 b2 vl rest z M' s' c':=
 ⟨hd,hg,hC.old h.o2,(hC.get h.o1 (by simp;exact ⟨h1,h12⟩)).trans h.g1,hC.old h.o1,h.hC.trans hC fun i hi ho=>by
  simp only[List.mem_cons,List.not_mem_nil,or_false] at hi
  rcases hi with rfl|rfl
  ·simp
  ·exact absurd ho hn⟩
theorem tb_call (hr:Old m r) (hC:Chg [r] M M'):Stays (TB m b1 b2) M M':=Stays.of hC fun i hi hs=>by
 simp only[List.mem_cons,List.not_mem_nil,or_false] at hs;subst hs;exact hi.1 hr
theorem tb_put (hl:∀i∈oldK l,i=b2):Stays (TB m b1 b2) M (hp l k M):=Stays.of (hp_of rfl) fun i hi hs=>hi.2.2 (hl i hs)
theorem SC.tb (h:SC m r b1 b2 vl rest z M s c):∀i,New M i->TB m b1 b2 i:=fun i hi=>⟨fun q=>hi (h.hC.old q),fun q=>hi (q▸h.o1),fun q=>hi (q▸h.o2)⟩
theorem SS.weak {m:NH} {T T':D4->Prop} (hT':∀i,T i->T' i) {v:NV} {l:List Stm} {C:List (List NV)} (h:SS m T v l C):SS m T' v l C:=⟨h.sl,fun i hi=>hT' i (h.hT i hi),h.len,fun i x c a b=>(h.R i x c a b).weak hT'⟩
theorem ss0 (m:NH) (T:D4->Prop):SS m T .nils [] []:=⟨Sl.nil,by simp[ids],rfl,by simp⟩
theorem RS.of {m:NH} {T:D4->Prop} {k a:Int} {nm ce:List Nat} {i x y:Ex} {b e:List Stm} {ui ux uy vb ve:NV} (hi:RE m T i (i.l ui)) (hx:RE m T x (x.l ux)) (hy:RE m T y (y.l uy)) {B E:List (List NV)} (hb:SS m T vb b B) (he:SS m T ve e E):
 RS m T (.mk k a nm ce i x y b e) ((Stm.mk k a nm ce i x y b e).l ⟨ui,ux,uy,vb,ve⟩):= .mk hi hx hy hb.sl hb.hT hb.len hb.R he.sl he.hT he.len he.R
theorem re00 (m:NH) (T:D4->Prop):RE m T zE (zE.l .nils):=re0 m T 0 0 0 []
abbrev stm0 (k p:Int):List NV:= [ii k,ii p,.str [],.str [],ii 0,u64 0,u8 0,.str [],.nils,ii 0,u64 0,u8 0,.str [],.nils,ii 0,u64 0,u8 0,.str [],.nils,.nils,.nils]
end
section
variable {m0:NH} {L:List Tok} {vl:NV} {r:D4} {rest:List NV}
set_option maxHeartbeats 4000000 in
theorem stmt_r (hc:RC m0 L vl r) {B:Rs->List Stm×Rs} {d:Nat} (hst:∀s,St L s (B s).2) (hB:BdC m0 L vl r rest B (d+1)) (hd29:d<=29):StC m0 L vl r rest (stmtF L B) d:=by
 intro m s h0 hd ha
 refine WF.ex fun K hK=> ?_
 refine WF.of_wpG (fun _=>rfl) nf135_eq (L:= [(.a .e,ii d),(.e,.ptr r 0)]) rfl ?_
 unfold nf135
 have hll:=hc.len
 refine cut3 (fun D=>∃t M b1 b2,D=⟨t, [],none,M⟩/\SC m r b1 b2 vl rest (stm0 0 0) M s (stm0 0 (nowT L s.a).p)/\¬Old m b1/\¬Old m b2/\b1≠b2/\NT.get D4.e t=some (.ptr r 0)/\NT.get D4.e.a t=some (ii d)/\NT.get D4.e.f t=some (.ptr b1 0)/\NT.get D4.e.a.a t=some (.ptr b2 0)/\NT.get D4.e.a.b t=some (.bool true)) (fun R hR=> ?_) ?_
 ·simp (config:={maxSteps:=1000000}) (disch:=(first|assumption|omega|exact old_n (by omega)|exact old_hp (by assumption)|(simp only[nmL]<;>omega))) only[go_sem,seval]
  generalize hM1:hp _ 1 m=M1
  have hC1:Chg [] m M1:=by rw[←hM1];exact hp_of rfl
  have g1:M1.get (na m 0)=some (.cells true (stm0 0 0)):=by rw[←hM1];exact h_getN
  have o1:Old M1 (na m 0):=by rw[←hM1];exact old_n (by omega)
  refine WF.use1H (now_r hc (h0.trans hC1 (by simp)) (hd.chg hC1 (by simp))) ?_
  intro M2 hC2
  have hl3:(nowT L s.a).l[3]? =some (ii (nowT L s.a).p):=rfl
  simp (config:={maxSteps:=1000000}) (disch:=(first|assumption|omega|exact old_n (by omega)|exact old_hp (by assumption)|(simp only[nmL]<;>omega))) only[go_sem,seval,hl3]
  generalize hM3:hp _ 1 M2=M3
  have hC3:Chg [] M2 M3:=by rw[←hM3];exact hp_of rfl
  have hC02:=hC1.trans hC2 (by simp)
  have hC03:=hC02.trans hC3 (by simp)
  have o12:=hC2.old o1
  refine hR _ ⟨_,M3,na m 0,na M2 0,rfl,⟨hd.chg hC03 (by simp), ?_, ?_,(hC3.get o12 (by simp)).trans ((hC2.get o1 (by simp)).trans g1),hC3.old o12,hC03.weak (by simp)⟩,na_old,fun h=>na_old (hC02.old h),fun e=>o12.ne 0 e,by simp only[go_sem,seval],by simp only[go_sem,seval],by simp only[go_sem,seval],by simp only[go_sem,seval],by simp only[go_sem,seval]⟩
  ·rw[←hM3];exact h_getN
  ·rw[←hM3];exact old_n (by omega)
 rintro D ⟨t,M,b1,b2,rfl,hs,hn1,hn2,h12,g1,g2,g3,g4,g5⟩
 change wp _ _ _ _ ⟨puts [] t, [],none,M⟩ _
 have hr1:b1≠r:=fun e=>hn1 (e▸hd.o)
 have hr2:b2≠r:=fun e=>hn2 (e▸hd.o)
 have hr2':r≠b2:=fun e=>hr2 e.symm
 have hnb2:¬Old m0 b2:=fun h=>hn2 (h0.old h)
 have hro:=hd.o
 refine cutK (fun D=>∃t M x w s' q,D=⟨t, [],none,M⟩/\SC m r b1 b2 vl rest (stm0 0 0) M s' (x.l w)/\RS M (TB m b1 b2) x (x.l w)/\(x,if q then wantR L [59] s' else s')=stmtF L B s/\s'.a<=L.length/\NT.get D4.e t=some (.ptr r 0)/\NT.get D4.e.f t=some (.ptr b1 0)/\NT.get D4.e.a.a t=some (.ptr b2 0)/\NT.get D4.e.a.b t=some (.bool q)) (fun R hR=> ?_) ?_
 ·have hbase:∀{M:NH} {s:Rs} {c:List NV},SC m r b1 b2 vl rest (stm0 0 0) M s c->Chg [] m0 M:=fun h=>hc.chg h0 h.hC
  have hput:∀{M:NH} {s:Rs} {c c':List NV} {l:List (AK×NO)} {k:Nat},SC m r b1 b2 vl rest (stm0 0 0) M s c->(∀i∈oldK l,i=b2)->SC m r b1 b2 vl rest (stm0 0 0) (hp ((.o b2,.cells true c')::l) k M) s c':=fun h hl=>h.put hr2 h12 hn2 hl
  generalize hpp:((nowT L s.a).p:Int)=p at hs
  have fin:∀{t:Tm} {M:NH} {x:Stm} {w:SV} {s':Rs} {q:Bool},SC m r b1 b2 vl rest (stm0 0 0) M s' (x.l w)->RS M (TB m b1 b2) x (x.l w)->(x,if q then wantR L [59] s' else s')=stmtF L B s->s'.a<=L.length->NT.get D4.e t=some (.ptr r 0)->NT.get D4.e.f t=some (.ptr b1 0)->NT.get D4.e.a.a t=some (.ptr b2 0)->NT.get D4.e.a.b t=some (.bool q)->R ⟨t, [],none,M⟩:=fun h1 h2 h3 h4 h5 h6 h7 h8=>hR _ ⟨_,_,_,_,_,_,rfl,h1,h2,h3,h4,h5,h6,h7,h8⟩
  rw[s_block]
  simp (config:={maxSteps:=1000000}) (disch:=(first|assumption|omega|exact old_n (by omega)|exact old_hp (by assumption)|(simp only[nmL]<;>omega))) only[go_sem,seval,g1,g2,g3,g4,g5,hp_nil]
  refine WF.use1H (take_r hc (hbase hs) hs.hd [115,101,116] (by simp) (by omega)) ?_
  rintro M0 ⟨hd0,hC0⟩
  cases hb0:takeB L [115,101,116] s with
  |true=>
   obtain ⟨he,hlt⟩:=takeB_lt hb0
   have hlim:(nextR s).a<=L.length:=hlt
   rw[hb0,if_pos rfl] at hd0
   replace hs:=hs.call hr1 hr2 hC0 hd0
   have hg2:=hs.g2
   have ho2:=hs.o2
   simp (config:={maxSteps:=1000000}) (disch:=(first|assumption|omega|exact old_n (by omega)|exact old_hp (by assumption)|(simp only[nmL]<;>omega))) only[go_sem,seval,g1,g2,g3,g4,g5,hg2,hp_nil]
   refine WF.use1H (name_r hc (hbase hs) hs.hd (by omega)) ?_
   rintro N0_1 ⟨hd,hC⟩
   replace hs:=hs.call hr1 hr2 hC hd
   replace hlim:=(st_name L _).lim hlim
   generalize hqs0_2:(nameR L (nextR s)).2=s0_2 at hs hlim
   generalize hqn0_3:(nameR L (nextR s)).1=n0_3
   have hg2:=hs.g2
   have ho2:=hs.o2
   simp (config:={maxSteps:=1000000}) (disch:=(first|assumption|omega|exact old_n (by omega)|exact old_hp (by assumption)|(simp only[nmL]<;>omega))) only[go_sem,seval,g1,g2,g3,g4,g5,hg2]
   generalize hMg:hp _ 0 _=M0_4
   have hs':SC m r b1 b2 vl rest (stm0 0 0) M0_4 s0_2 [ii 0,ii p,.str n0_3,.str [],ii 0,u64 0,u8 0,.str [],.nils,ii 0,u64 0,u8 0,.str [],.nils,ii 0,u64 0,u8 0,.str [],.nils,.nils,.nils]:=by rw[←hMg];exact hput hs (by simp[oldK])
   clear hMg
   replace hs:=hs'
   refine WF.useH (exr hc (hbase hs) hs.hd hlim) ?_
   rintro v N0_5 ⟨⟨u0_6,rfl,hx⟩,hd,hC⟩
   have tX:=hx.weak hs.tb
   replace hs:=hs.call hr1 hr2 hC hd
   replace hlim:(exR L s0_2).2.a<=L.length:=(st_expr L 30 _).lim hlim
   generalize hqs0_8:(exR L s0_2).2=s0_8 at hs hlim
   generalize hqx0_7:(exR L s0_2).1=x0_7 at tX
   clear hx hd
   have hxl:(x0_7.l u0_6).length=5:=rfl
   have hg2:=hs.g2
   have ho2:=hs.o2
   simp (config:={maxSteps:=1000000}) (disch:=(first|assumption|omega|exact old_n (by omega)|exact old_hp (by assumption)|(simp only[nmL]<;>omega))) only[go_sem,seval,g1,g2,g3,g4,g5,hg2]
   generalize hMg:hp _ 0 _=M0_9
   have hs':SC m r b1 b2 vl rest (stm0 0 0) M0_9 s0_8 [ii 0,ii p,.str n0_3,.str [],ii 0,u64 0,u8 0,.str [],.nils,ii x0_7.k,u64 x0_7.n,u8 x0_7.o,.str x0_7.s,u0_6,ii 0,u64 0,u8 0,.str [],.nils,.nils,.nils]:=by rw[←hMg];exact hput hs (by simp[oldK])
   replace tX:=tX.stays (m':=M0_9) (by rw[←hMg];exact tb_put (by simp[oldK]))
   clear hMg
   replace hs:=hs'
   refine fin (x:= .mk 0 p n0_3 [] zE x0_7 zE [] []) (w:=⟨.nils,u0_6,.nils,.nils,.nils⟩) (s':=s0_8) (q:=true) hs (RS.of (re00 _ _) tX (re00 _ _) (ss0 _ _) (ss0 _ _)) ?_ hlim (by simp only[go_sem,seval,g1]) (by simp only[go_sem,seval,g3]) (by simp only[go_sem,seval,g4]) (by simp only[go_sem,seval,g5])
   rw[stmtF,if_pos hb0,hpp]
   subst hqx0_7 hqs0_8 hqn0_3 hqs0_2
   rfl
  |false=>
  have ne0:¬(takeB L [115,101,116] s=true):=by rw[hb0];exact Bool.false_ne_true
  rw[hb0,if_neg Bool.false_ne_true] at hd0
  replace hs:=hs.call hr1 hr2 hC0 hd0
  simp (config:={maxSteps:=1000000}) (disch:=(first|assumption|omega|exact old_n (by omega)|exact old_hp (by assumption)|(simp only[nmL]<;>omega))) only[go_sem,seval,g1,g2,g3,g4,g5,hp_nil]
  refine WF.use1H (take_r hc (hbase hs) hs.hd [108,111,97,100] (by simp) (by omega)) ?_
  rintro M1 ⟨hd1,hC1⟩
  cases hb1:takeB L [108,111,97,100] s with
  |true=>
   obtain ⟨he,hlt⟩:=takeB_lt hb1
   have hlim:(nextR s).a<=L.length:=hlt
   rw[hb1,if_pos rfl] at hd1
   replace hs:=hs.call hr1 hr2 hC1 hd1
   have hg2:=hs.g2
   have ho2:=hs.o2
   simp (config:={maxSteps:=1000000}) (disch:=(first|assumption|omega|exact old_n (by omega)|exact old_hp (by assumption)|(simp only[nmL]<;>omega))) only[go_sem,seval,g1,g2,g3,g4,g5,hg2]
   generalize hMg:hp _ 0 _=M1_1
   have hs':SC m r b1 b2 vl rest (stm0 0 0) M1_1 (nextR s) [ii 1,ii p,.str [],.str [],ii 0,u64 0,u8 0,.str [],.nils,ii 0,u64 0,u8 0,.str [],.nils,ii 0,u64 0,u8 0,.str [],.nils,.nils,.nils]:=by rw[←hMg];exact hput hs (by simp[oldK])
   clear hMg
   replace hs:=hs'
   refine WF.use1H (name_r hc (hbase hs) hs.hd (by omega)) ?_
   rintro N1_2 ⟨hd,hC⟩
   replace hs:=hs.call hr1 hr2 hC hd
   replace hlim:=(st_name L _).lim hlim
   generalize hqs1_3:(nameR L (nextR s)).2=s1_3 at hs hlim
   generalize hqn1_4:(nameR L (nextR s)).1=n1_4
   have hg2:=hs.g2
   have ho2:=hs.o2
   simp (config:={maxSteps:=1000000}) (disch:=(first|assumption|omega|exact old_n (by omega)|exact old_hp (by assumption)|(simp only[nmL]<;>omega))) only[go_sem,seval,g1,g2,g3,g4,g5,hg2]
   generalize hMg:hp _ 0 _=M1_5
   have hs':SC m r b1 b2 vl rest (stm0 0 0) M1_5 s1_3 [ii 1,ii p,.str n1_4,.str [],ii 0,u64 0,u8 0,.str [],.nils,ii 0,u64 0,u8 0,.str [],.nils,ii 0,u64 0,u8 0,.str [],.nils,.nils,.nils]:=by rw[←hMg];exact hput hs (by simp[oldK])
   clear hMg
   replace hs:=hs'
   refine WF.use1 (place_r hc (hbase hs) hs.hd hlim hr2 hs.o2 hnb2 (by rfl) hs.g2) ?_
   rintro N1_6 ⟨u1_7,hg,hx,hd,hC⟩
   have tI:=hx.weak hs.tb
   replace hs:=hs.place hr1 h12 hn2 hC hd hg
   replace hlim:=(st_place (L:=L) s1_3).lim hlim
   generalize hqs1_9:(placeF L s1_3).2.2=s1_9 at hs hlim
   generalize hqx1_8:(placeF L s1_3).2.1=x1_8 at hs tI
   generalize hqn1_10:(placeF L s1_3).1=n1_10 at hs
   clear hx hd hg
   have hg2:=hs.g2
   have ho2:=hs.o2
   simp (config:={maxSteps:=1000000}) (disch:=(first|assumption|omega|exact old_n (by omega)|exact old_hp (by assumption)|(simp only[nmL]<;>omega))) only[go_sem,seval,g1,g2,g3,g4,g5,hg2,hp_nil]
   refine fin (x:= .mk 1 p n1_4 n1_10 x1_8 zE zE [] []) (w:=⟨u1_7,.nils,.nils,.nils,.nils⟩) (s':=s1_9) (q:=true) hs (RS.of tI (re00 _ _) (re00 _ _) (ss0 _ _) (ss0 _ _)) ?_ hlim (by simp only[go_sem,seval,g1]) (by simp only[go_sem,seval,g3]) (by simp only[go_sem,seval,g4]) (by simp only[go_sem,seval,g5])
   rw[stmtF,if_neg ne0,if_pos hb1,hpp]
   subst hqn1_10 hqx1_8 hqs1_9 hqn1_4 hqs1_3
   rfl
  |false=>
  have ne1:¬(takeB L [108,111,97,100] s=true):=by rw[hb1];exact Bool.false_ne_true
  rw[hb1,if_neg Bool.false_ne_true] at hd1
  replace hs:=hs.call hr1 hr2 hC1 hd1
  simp (config:={maxSteps:=1000000}) (disch:=(first|assumption|omega|exact old_n (by omega)|exact old_hp (by assumption)|(simp only[nmL]<;>omega))) only[go_sem,seval,g1,g2,g3,g4,g5,hp_nil]
  refine WF.use1H (take_r hc (hbase hs) hs.hd [115,116,111,114,101] (by simp) (by omega)) ?_
  rintro M2 ⟨hd2,hC2⟩
  cases hb2:takeB L [115,116,111,114,101] s with
  |true=>
   obtain ⟨he,hlt⟩:=takeB_lt hb2
   have hlim:(nextR s).a<=L.length:=hlt
   rw[hb2,if_pos rfl] at hd2
   replace hs:=hs.call hr1 hr2 hC2 hd2
   have hg2:=hs.g2
   have ho2:=hs.o2
   simp (config:={maxSteps:=1000000}) (disch:=(first|assumption|omega|exact old_n (by omega)|exact old_hp (by assumption)|(simp only[nmL]<;>omega))) only[go_sem,seval,g1,g2,g3,g4,g5,hg2]
   generalize hMg:hp _ 0 _=M2_1
   have hs':SC m r b1 b2 vl rest (stm0 0 0) M2_1 (nextR s) [ii 2,ii p,.str [],.str [],ii 0,u64 0,u8 0,.str [],.nils,ii 0,u64 0,u8 0,.str [],.nils,ii 0,u64 0,u8 0,.str [],.nils,.nils,.nils]:=by rw[←hMg];exact hput hs (by simp[oldK])
   clear hMg
   replace hs:=hs'
   refine WF.use1 (place_r hc (hbase hs) hs.hd hlim hr2 hs.o2 hnb2 (by rfl) hs.g2) ?_
   rintro N2_2 ⟨u2_3,hg,hx,hd,hC⟩
   have tI:=hx.weak hs.tb
   replace hs:=hs.place hr1 h12 hn2 hC hd hg
   replace hlim:=(st_place (L:=L) (nextR s)).lim hlim
   generalize hqs2_5:(placeF L (nextR s)).2.2=s2_5 at hs hlim
   generalize hqx2_4:(placeF L (nextR s)).2.1=x2_4 at hs tI
   generalize hqn2_6:(placeF L (nextR s)).1=n2_6 at hs
   clear hx hd hg
   have hg2:=hs.g2
   have ho2:=hs.o2
   simp (config:={maxSteps:=1000000}) (disch:=(first|assumption|omega|exact old_n (by omega)|exact old_hp (by assumption)|(simp only[nmL]<;>omega))) only[go_sem,seval,g1,g2,g3,g4,g5,hg2,hp_nil]
   refine WF.useH (exr hc (hbase hs) hs.hd hlim) ?_
   rintro v N2_7 ⟨⟨u2_8,rfl,hx⟩,hd,hC⟩
   have tX:=hx.weak hs.tb
   replace hs:=hs.call hr1 hr2 hC hd
   replace tI:=tI.stays (tb_call hro hC)
   replace hlim:(exR L s2_5).2.a<=L.length:=(st_expr L 30 _).lim hlim
   generalize hqs2_10:(exR L s2_5).2=s2_10 at hs hlim
   generalize hqx2_9:(exR L s2_5).1=x2_9 at tX
   clear hx hd
   have hxl:(x2_9.l u2_8).length=5:=rfl
   have hg2:=hs.g2
   have ho2:=hs.o2
   simp (config:={maxSteps:=1000000}) (disch:=(first|assumption|omega|exact old_n (by omega)|exact old_hp (by assumption)|(simp only[nmL]<;>omega))) only[go_sem,seval,g1,g2,g3,g4,g5,hg2]
   generalize hMg:hp _ 0 _=M2_11
   have hs':SC m r b1 b2 vl rest (stm0 0 0) M2_11 s2_10 [ii 2,ii p,.str [],.str n2_6,ii x2_4.k,u64 x2_4.n,u8 x2_4.o,.str x2_4.s,u2_3,ii x2_9.k,u64 x2_9.n,u8 x2_9.o,.str x2_9.s,u2_8,ii 0,u64 0,u8 0,.str [],.nils,.nils,.nils]:=by rw[←hMg];exact hput hs (by simp[oldK])
   replace tI:=tI.stays (m':=M2_11) (by rw[←hMg];exact tb_put (by simp[oldK]))
   replace tX:=tX.stays (m':=M2_11) (by rw[←hMg];exact tb_put (by simp[oldK]))
   clear hMg
   replace hs:=hs'
   refine fin (x:= .mk 2 p [] n2_6 x2_4 x2_9 zE [] []) (w:=⟨u2_3,u2_8,.nils,.nils,.nils⟩) (s':=s2_10) (q:=true) hs (RS.of tI tX (re00 _ _) (ss0 _ _) (ss0 _ _)) ?_ hlim (by simp only[go_sem,seval,g1]) (by simp only[go_sem,seval,g3]) (by simp only[go_sem,seval,g4]) (by simp only[go_sem,seval,g5])
   rw[stmtF,if_neg ne0,if_neg ne1,if_pos hb2,hpp]
   subst hqx2_9 hqs2_10 hqn2_6 hqx2_4 hqs2_5
   rfl
  |false=>
  have ne2:¬(takeB L [115,116,111,114,101] s=true):=by rw[hb2];exact Bool.false_ne_true
  rw[hb2,if_neg Bool.false_ne_true] at hd2
  replace hs:=hs.call hr1 hr2 hC2 hd2
  simp (config:={maxSteps:=1000000}) (disch:=(first|assumption|omega|exact old_n (by omega)|exact old_hp (by assumption)|(simp only[nmL]<;>omega))) only[go_sem,seval,g1,g2,g3,g4,g5,hp_nil]
  refine WF.use1H (take_r hc (hbase hs) hs.hd [99,97,115] (by simp) (by omega)) ?_
  rintro M3 ⟨hd3,hC3⟩
  cases hb3:takeB L [99,97,115] s with
  |true=>
   obtain ⟨he,hlt⟩:=takeB_lt hb3
   have hlim:(nextR s).a<=L.length:=hlt
   rw[hb3,if_pos rfl] at hd3
   replace hs:=hs.call hr1 hr2 hC3 hd3
   have hg2:=hs.g2
   have ho2:=hs.o2
   simp (config:={maxSteps:=1000000}) (disch:=(first|assumption|omega|exact old_n (by omega)|exact old_hp (by assumption)|(simp only[nmL]<;>omega))) only[go_sem,seval,g1,g2,g3,g4,g5,hg2]
   generalize hMg:hp _ 0 _=M3_1
   have hs':SC m r b1 b2 vl rest (stm0 0 0) M3_1 (nextR s) [ii 3,ii p,.str [],.str [],ii 0,u64 0,u8 0,.str [],.nils,ii 0,u64 0,u8 0,.str [],.nils,ii 0,u64 0,u8 0,.str [],.nils,.nils,.nils]:=by rw[←hMg];exact hput hs (by simp[oldK])
   clear hMg
   replace hs:=hs'
   refine WF.use1H (name_r hc (hbase hs) hs.hd (by omega)) ?_
   rintro N3_2 ⟨hd,hC⟩
   replace hs:=hs.call hr1 hr2 hC hd
   replace hlim:=(st_name L _).lim hlim
   generalize hqs3_3:(nameR L (nextR s)).2=s3_3 at hs hlim
   generalize hqn3_4:(nameR L (nextR s)).1=n3_4
   have hg2:=hs.g2
   have ho2:=hs.o2
   simp (config:={maxSteps:=1000000}) (disch:=(first|assumption|omega|exact old_n (by omega)|exact old_hp (by assumption)|(simp only[nmL]<;>omega))) only[go_sem,seval,g1,g2,g3,g4,g5,hg2]
   generalize hMg:hp _ 0 _=M3_5
   have hs':SC m r b1 b2 vl rest (stm0 0 0) M3_5 s3_3 [ii 3,ii p,.str n3_4,.str [],ii 0,u64 0,u8 0,.str [],.nils,ii 0,u64 0,u8 0,.str [],.nils,ii 0,u64 0,u8 0,.str [],.nils,.nils,.nils]:=by rw[←hMg];exact hput hs (by simp[oldK])
   clear hMg
   replace hs:=hs'
   refine WF.use1 (place_r hc (hbase hs) hs.hd hlim hr2 hs.o2 hnb2 (by rfl) hs.g2) ?_
   rintro N3_6 ⟨u3_7,hg,hx,hd,hC⟩
   have tI:=hx.weak hs.tb
   replace hs:=hs.place hr1 h12 hn2 hC hd hg
   replace hlim:=(st_place (L:=L) s3_3).lim hlim
   generalize hqs3_9:(placeF L s3_3).2.2=s3_9 at hs hlim
   generalize hqx3_8:(placeF L s3_3).2.1=x3_8 at hs tI
   generalize hqn3_10:(placeF L s3_3).1=n3_10 at hs
   clear hx hd hg
   have hg2:=hs.g2
   have ho2:=hs.o2
   simp (config:={maxSteps:=1000000}) (disch:=(first|assumption|omega|exact old_n (by omega)|exact old_hp (by assumption)|(simp only[nmL]<;>omega))) only[go_sem,seval,g1,g2,g3,g4,g5,hg2,hp_nil]
   refine WF.useH (exr hc (hbase hs) hs.hd hlim) ?_
   rintro v N3_11 ⟨⟨u3_12,rfl,hx⟩,hd,hC⟩
   have tX:=hx.weak hs.tb
   replace hs:=hs.call hr1 hr2 hC hd
   replace tI:=tI.stays (tb_call hro hC)
   replace hlim:(exR L s3_9).2.a<=L.length:=(st_expr L 30 _).lim hlim
   generalize hqs3_14:(exR L s3_9).2=s3_14 at hs hlim
   generalize hqx3_13:(exR L s3_9).1=x3_13 at tX
   clear hx hd
   have hxl:(x3_13.l u3_12).length=5:=rfl
   have hg2:=hs.g2
   have ho2:=hs.o2
   simp (config:={maxSteps:=1000000}) (disch:=(first|assumption|omega|exact old_n (by omega)|exact old_hp (by assumption)|(simp only[nmL]<;>omega))) only[go_sem,seval,g1,g2,g3,g4,g5,hg2]
   generalize hMg:hp _ 0 _=M3_15
   have hs':SC m r b1 b2 vl rest (stm0 0 0) M3_15 s3_14 [ii 3,ii p,.str n3_4,.str n3_10,ii x3_8.k,u64 x3_8.n,u8 x3_8.o,.str x3_8.s,u3_7,ii x3_13.k,u64 x3_13.n,u8 x3_13.o,.str x3_13.s,u3_12,ii 0,u64 0,u8 0,.str [],.nils,.nils,.nils]:=by rw[←hMg];exact hput hs (by simp[oldK])
   replace tI:=tI.stays (m':=M3_15) (by rw[←hMg];exact tb_put (by simp[oldK]))
   replace tX:=tX.stays (m':=M3_15) (by rw[←hMg];exact tb_put (by simp[oldK]))
   clear hMg
   replace hs:=hs'
   refine WF.useH (exr hc (hbase hs) hs.hd hlim) ?_
   rintro v N3_16 ⟨⟨u3_17,rfl,hx⟩,hd,hC⟩
   have tY:=hx.weak hs.tb
   replace hs:=hs.call hr1 hr2 hC hd
   replace tI:=tI.stays (tb_call hro hC)
   replace tX:=tX.stays (tb_call hro hC)
   replace hlim:(exR L s3_14).2.a<=L.length:=(st_expr L 30 _).lim hlim
   generalize hqs3_19:(exR L s3_14).2=s3_19 at hs hlim
   generalize hqx3_18:(exR L s3_14).1=x3_18 at tY
   clear hx hd
   have hxl:(x3_18.l u3_17).length=5:=rfl
   have hg2:=hs.g2
   have ho2:=hs.o2
   simp (config:={maxSteps:=1000000}) (disch:=(first|assumption|omega|exact old_n (by omega)|exact old_hp (by assumption)|(simp only[nmL]<;>omega))) only[go_sem,seval,g1,g2,g3,g4,g5,hg2]
   generalize hMg:hp _ 0 _=M3_20
   have hs':SC m r b1 b2 vl rest (stm0 0 0) M3_20 s3_19 [ii 3,ii p,.str n3_4,.str n3_10,ii x3_8.k,u64 x3_8.n,u8 x3_8.o,.str x3_8.s,u3_7,ii x3_13.k,u64 x3_13.n,u8 x3_13.o,.str x3_13.s,u3_12,ii x3_18.k,u64 x3_18.n,u8 x3_18.o,.str x3_18.s,u3_17,.nils,.nils]:=by rw[←hMg];exact hput hs (by simp[oldK])
   replace tI:=tI.stays (m':=M3_20) (by rw[←hMg];exact tb_put (by simp[oldK]))
   replace tX:=tX.stays (m':=M3_20) (by rw[←hMg];exact tb_put (by simp[oldK]))
   replace tY:=tY.stays (m':=M3_20) (by rw[←hMg];exact tb_put (by simp[oldK]))
   clear hMg
   replace hs:=hs'
   refine fin (x:= .mk 3 p n3_4 n3_10 x3_8 x3_13 x3_18 [] []) (w:=⟨u3_7,u3_12,u3_17,.nils,.nils⟩) (s':=s3_19) (q:=true) hs (RS.of tI tX tY (ss0 _ _) (ss0 _ _)) ?_ hlim (by simp only[go_sem,seval,g1]) (by simp only[go_sem,seval,g3]) (by simp only[go_sem,seval,g4]) (by simp only[go_sem,seval,g5])
   rw[stmtF,if_neg ne0,if_neg ne1,if_neg ne2,if_pos hb3,hpp]
   subst hqx3_18 hqs3_19 hqx3_13 hqs3_14 hqn3_10 hqx3_8 hqs3_9 hqn3_4 hqs3_3
   rfl
  |false=>
  have ne3:¬(takeB L [99,97,115] s=true):=by rw[hb3];exact Bool.false_ne_true
  rw[hb3,if_neg Bool.false_ne_true] at hd3
  replace hs:=hs.call hr1 hr2 hC3 hd3
  simp (config:={maxSteps:=1000000}) (disch:=(first|assumption|omega|exact old_n (by omega)|exact old_hp (by assumption)|(simp only[nmL]<;>omega))) only[go_sem,seval,g1,g2,g3,g4,g5,hp_nil]
  refine WF.use1H (take_r hc (hbase hs) hs.hd [102,101,110,99,101] (by simp) (by omega)) ?_
  rintro M4 ⟨hd4,hC4⟩
  cases hb4:takeB L [102,101,110,99,101] s with
  |true=>
   obtain ⟨he,hlt⟩:=takeB_lt hb4
   have hlim:(nextR s).a<=L.length:=hlt
   rw[hb4,if_pos rfl] at hd4
   replace hs:=hs.call hr1 hr2 hC4 hd4
   have hg2:=hs.g2
   have ho2:=hs.o2
   simp (config:={maxSteps:=1000000}) (disch:=(first|assumption|omega|exact old_n (by omega)|exact old_hp (by assumption)|(simp only[nmL]<;>omega))) only[go_sem,seval,g1,g2,g3,g4,g5,hg2]
   generalize hMg:hp _ 0 _=M4_1
   have hs':SC m r b1 b2 vl rest (stm0 0 0) M4_1 (nextR s) [ii 4,ii p,.str [],.str [],ii 0,u64 0,u8 0,.str [],.nils,ii 0,u64 0,u8 0,.str [],.nils,ii 0,u64 0,u8 0,.str [],.nils,.nils,.nils]:=by rw[←hMg];exact hput hs (by simp[oldK])
   clear hMg
   replace hs:=hs'
   refine fin (x:= .mk 4 p [] [] zE zE zE [] []) (w:=⟨.nils,.nils,.nils,.nils,.nils⟩) (s':=(nextR s)) (q:=true) hs (RS.of (re00 _ _) (re00 _ _) (re00 _ _) (ss0 _ _) (ss0 _ _)) ?_ hlim (by simp only[go_sem,seval,g1]) (by simp only[go_sem,seval,g3]) (by simp only[go_sem,seval,g4]) (by simp only[go_sem,seval,g5])
   rw[stmtF,if_neg ne0,if_neg ne1,if_neg ne2,if_neg ne3,if_pos hb4,hpp]
   rfl
  |false=>
  have ne4:¬(takeB L [102,101,110,99,101] s=true):=by rw[hb4];exact Bool.false_ne_true
  rw[hb4,if_neg Bool.false_ne_true] at hd4
  replace hs:=hs.call hr1 hr2 hC4 hd4
  simp (config:={maxSteps:=1000000}) (disch:=(first|assumption|omega|exact old_n (by omega)|exact old_hp (by assumption)|(simp only[nmL]<;>omega))) only[go_sem,seval,g1,g2,g3,g4,g5,hp_nil]
  refine WF.use1H (take_r hc (hbase hs) hs.hd [111,117,116] (by simp) (by omega)) ?_
  rintro M5 ⟨hd5,hC5⟩
  cases hb5:takeB L [111,117,116] s with
  |true=>
   obtain ⟨he,hlt⟩:=takeB_lt hb5
   have hlim:(nextR s).a<=L.length:=hlt
   rw[hb5,if_pos rfl] at hd5
   replace hs:=hs.call hr1 hr2 hC5 hd5
   have hg2:=hs.g2
   have ho2:=hs.o2
   simp (config:={maxSteps:=1000000}) (disch:=(first|assumption|omega|exact old_n (by omega)|exact old_hp (by assumption)|(simp only[nmL]<;>omega))) only[go_sem,seval,g1,g2,g3,g4,g5,hg2]
   generalize hMg:hp _ 0 _=M5_1
   have hs':SC m r b1 b2 vl rest (stm0 0 0) M5_1 (nextR s) [ii 5,ii p,.str [],.str [],ii 0,u64 0,u8 0,.str [],.nils,ii 0,u64 0,u8 0,.str [],.nils,ii 0,u64 0,u8 0,.str [],.nils,.nils,.nils]:=by rw[←hMg];exact hput hs (by simp[oldK])
   clear hMg
   replace hs:=hs'
   refine WF.useH (exr hc (hbase hs) hs.hd hlim) ?_
   rintro v N5_2 ⟨⟨u5_3,rfl,hx⟩,hd,hC⟩
   have tX:=hx.weak hs.tb
   replace hs:=hs.call hr1 hr2 hC hd
   replace hlim:(exR L (nextR s)).2.a<=L.length:=(st_expr L 30 _).lim hlim
   generalize hqs5_5:(exR L (nextR s)).2=s5_5 at hs hlim
   generalize hqx5_4:(exR L (nextR s)).1=x5_4 at tX
   clear hx hd
   have hxl:(x5_4.l u5_3).length=5:=rfl
   have hg2:=hs.g2
   have ho2:=hs.o2
   simp (config:={maxSteps:=1000000}) (disch:=(first|assumption|omega|exact old_n (by omega)|exact old_hp (by assumption)|(simp only[nmL]<;>omega))) only[go_sem,seval,g1,g2,g3,g4,g5,hg2]
   generalize hMg:hp _ 0 _=M5_6
   have hs':SC m r b1 b2 vl rest (stm0 0 0) M5_6 s5_5 [ii 5,ii p,.str [],.str [],ii 0,u64 0,u8 0,.str [],.nils,ii x5_4.k,u64 x5_4.n,u8 x5_4.o,.str x5_4.s,u5_3,ii 0,u64 0,u8 0,.str [],.nils,.nils,.nils]:=by rw[←hMg];exact hput hs (by simp[oldK])
   replace tX:=tX.stays (m':=M5_6) (by rw[←hMg];exact tb_put (by simp[oldK]))
   clear hMg
   replace hs:=hs'
   refine fin (x:= .mk 5 p [] [] zE x5_4 zE [] []) (w:=⟨.nils,u5_3,.nils,.nils,.nils⟩) (s':=s5_5) (q:=true) hs (RS.of (re00 _ _) tX (re00 _ _) (ss0 _ _) (ss0 _ _)) ?_ hlim (by simp only[go_sem,seval,g1]) (by simp only[go_sem,seval,g3]) (by simp only[go_sem,seval,g4]) (by simp only[go_sem,seval,g5])
   rw[stmtF,if_neg ne0,if_neg ne1,if_neg ne2,if_neg ne3,if_neg ne4,if_pos hb5,hpp]
   subst hqx5_4 hqs5_5
   rfl
  |false=>
  have ne5:¬(takeB L [111,117,116] s=true):=by rw[hb5];exact Bool.false_ne_true
  rw[hb5,if_neg Bool.false_ne_true] at hd5
  replace hs:=hs.call hr1 hr2 hC5 hd5
  simp (config:={maxSteps:=1000000}) (disch:=(first|assumption|omega|exact old_n (by omega)|exact old_hp (by assumption)|(simp only[nmL]<;>omega))) only[go_sem,seval,g1,g2,g3,g4,g5,hp_nil]
  refine WF.use1H (take_r hc (hbase hs) hs.hd [105,102] (by simp) (by omega)) ?_
  rintro M6 ⟨hd6,hC6⟩
  cases hb6:takeB L [105,102] s with
  |true=>
   obtain ⟨he,hlt⟩:=takeB_lt hb6
   have hlim:(nextR s).a<=L.length:=hlt
   rw[hb6,if_pos rfl] at hd6
   replace hs:=hs.call hr1 hr2 hC6 hd6
   have hg2:=hs.g2
   have ho2:=hs.o2
   simp (config:={maxSteps:=1000000}) (disch:=(first|assumption|omega|exact old_n (by omega)|exact old_hp (by assumption)|(simp only[nmL]<;>omega))) only[go_sem,seval,g1,g2,g3,g4,g5,hg2]
   generalize hMg:hp _ 0 _=M6_1
   have hs':SC m r b1 b2 vl rest (stm0 0 0) M6_1 (nextR s) [ii 6,ii p,.str [],.str [],ii 0,u64 0,u8 0,.str [],.nils,ii 0,u64 0,u8 0,.str [],.nils,ii 0,u64 0,u8 0,.str [],.nils,.nils,.nils]:=by rw[←hMg];exact hput hs (by simp[oldK])
   clear hMg
   replace hs:=hs'
   refine WF.useH (exr hc (hbase hs) hs.hd hlim) ?_
   rintro v N6_2 ⟨⟨u6_3,rfl,hx⟩,hd,hC⟩
   have tX:=hx.weak hs.tb
   replace hs:=hs.call hr1 hr2 hC hd
   replace hlim:(exR L (nextR s)).2.a<=L.length:=(st_expr L 30 _).lim hlim
   generalize hqs6_5:(exR L (nextR s)).2=s6_5 at hs hlim
   generalize hqx6_4:(exR L (nextR s)).1=x6_4 at tX
   clear hx hd
   have hxl:(x6_4.l u6_3).length=5:=rfl
   have hg2:=hs.g2
   have ho2:=hs.o2
   simp (config:={maxSteps:=1000000}) (disch:=(first|assumption|omega|exact old_n (by omega)|exact old_hp (by assumption)|(simp only[nmL]<;>omega))) only[go_sem,seval,g1,g2,g3,g4,g5,hg2]
   generalize hMg:hp _ 0 _=M6_6
   have hs':SC m r b1 b2 vl rest (stm0 0 0) M6_6 s6_5 [ii 6,ii p,.str [],.str [],ii 0,u64 0,u8 0,.str [],.nils,ii x6_4.k,u64 x6_4.n,u8 x6_4.o,.str x6_4.s,u6_3,ii 0,u64 0,u8 0,.str [],.nils,.nils,.nils]:=by rw[←hMg];exact hput hs (by simp[oldK])
   replace tX:=tX.stays (m':=M6_6) (by rw[←hMg];exact tb_put (by simp[oldK]))
   clear hMg
   replace hs:=hs'
   refine WF.useH (hB (hbase hs) hs.hd hlim) ?_
   rintro v6_8 N6_7 ⟨⟨C6_9,hx⟩,hd,hC⟩
   have tB:=hx.weak hs.tb
   replace hs:=hs.call hr1 hr2 hC hd
   replace tX:=tX.stays (tb_call hro hC)
   replace hlim:=(hst s6_5).lim hlim
   generalize hqs6_11:(B s6_5).2=s6_11 at hs hlim
   generalize hql6_10:(B s6_5).1=l6_10 at tB
   clear hx hd
   have hg2:=hs.g2
   have ho2:=hs.o2
   simp (config:={maxSteps:=1000000}) (disch:=(first|assumption|omega|exact old_n (by omega)|exact old_hp (by assumption)|(simp only[nmL]<;>omega))) only[go_sem,seval,g1,g2,g3,g4,g5,hg2,tB.sl.one]
   generalize hMg:hp _ 0 _=M6_12
   have hs':SC m r b1 b2 vl rest (stm0 0 0) M6_12 s6_11 [ii 6,ii p,.str [],.str [],ii 0,u64 0,u8 0,.str [],.nils,ii x6_4.k,u64 x6_4.n,u8 x6_4.o,.str x6_4.s,u6_3,ii 0,u64 0,u8 0,.str [],.nils,v6_8,.nils]:=by rw[←hMg];exact hput hs (by simp[oldK])
   replace tX:=tX.stays (m':=M6_12) (by rw[←hMg];exact tb_put (by simp[oldK]))
   replace tB:=tB.stays (m':=M6_12) (by rw[←hMg];exact tb_put (by simp[oldK]))
   clear hMg
   replace hs:=hs'
   refine WF.use1H (take_r hc (hbase hs) hs.hd [101,108,115,101] (by simp) (by omega)) ?_
   rintro Me ⟨hde,hCe⟩
   replace hs':=hs.call hr1 hr2 hCe hde
   replace tX:=tX.stays (tb_call hro hCe)
   replace tB:=tB.stays (tb_call hro hCe)
   cases hbe:takeB L [101,108,115,101] s6_11 with
   |true=>
    rw[hbe,if_pos rfl] at hs'
    replace hs:=hs'
    have hlim:(nextR s6_11).a<=L.length:=(takeB_lt hbe).2
    have hg2:=hs.g2
    have ho2:=hs.o2
    simp (config:={maxSteps:=1000000}) (disch:=(first|assumption|omega|exact old_n (by omega)|exact old_hp (by assumption)|(simp only[nmL]<;>omega))) only[go_sem,seval,g1,g2,g3,g4,g5,hg2,tB.sl.one,hp_nil]
    refine WF.useH (hB (hbase hs) hs.hd hlim) ?_
    rintro v6t_14 N6t_13 ⟨⟨C6t_15,hx⟩,hd,hC⟩
    have tE:=hx.weak hs.tb
    replace hs:=hs.call hr1 hr2 hC hd
    replace tX:=tX.stays (tb_call hro hC)
    replace tB:=tB.stays (tb_call hro hC)
    replace hlim:=(hst (nextR s6_11)).lim hlim
    generalize hqs6t_17:(B (nextR s6_11)).2=s6t_17 at hs hlim
    generalize hql6t_16:(B (nextR s6_11)).1=l6t_16 at tE
    clear hx hd
    have hg2:=hs.g2
    have ho2:=hs.o2
    simp (config:={maxSteps:=1000000}) (disch:=(first|assumption|omega|exact old_n (by omega)|exact old_hp (by assumption)|(simp only[nmL]<;>omega))) only[go_sem,seval,g1,g2,g3,g4,g5,hg2,tB.sl.one,tE.sl.one]
    generalize hMg:hp _ 0 _=M6t_18
    have hs':SC m r b1 b2 vl rest (stm0 0 0) M6t_18 s6t_17 [ii 6,ii p,.str [],.str [],ii 0,u64 0,u8 0,.str [],.nils,ii x6_4.k,u64 x6_4.n,u8 x6_4.o,.str x6_4.s,u6_3,ii 0,u64 0,u8 0,.str [],.nils,v6_8,v6t_14]:=by rw[←hMg];exact hput hs (by simp[oldK])
    replace tX:=tX.stays (m':=M6t_18) (by rw[←hMg];exact tb_put (by simp[oldK]))
    replace tB:=tB.stays (m':=M6t_18) (by rw[←hMg];exact tb_put (by simp[oldK]))
    replace tE:=tE.stays (m':=M6t_18) (by rw[←hMg];exact tb_put (by simp[oldK]))
    clear hMg
    replace hs:=hs'
    refine fin (x:= .mk 6 p [] [] zE x6_4 zE l6_10 l6t_16) (w:=⟨.nils,u6_3,.nils,v6_8,v6t_14⟩) (s':=s6t_17) (q:=false) hs (RS.of (re00 _ _) tX (re00 _ _) tB tE) ?_ hlim (by simp only[go_sem,seval,g1]) (by simp only[go_sem,seval,g3]) (by simp only[go_sem,seval,g4]) (by simp only[go_sem,seval,g5])
    rw[stmtF,if_neg ne0,if_neg ne1,if_neg ne2,if_neg ne3,if_neg ne4,if_neg ne5,if_pos hb6,hpp]
    subst hql6t_16 hqs6t_17 hql6_10 hqs6_11 hqx6_4 hqs6_5
    rw[ifF,if_pos hbe];rfl
   |false=>
    rw[hbe,if_neg Bool.false_ne_true] at hs'
    replace hs:=hs'
    have nee:¬(takeB L [101,108,115,101] s6_11=true):=by rw[hbe];exact Bool.false_ne_true
    have hg2:=hs.g2
    have ho2:=hs.o2
    simp (config:={maxSteps:=1000000}) (disch:=(first|assumption|omega|exact old_n (by omega)|exact old_hp (by assumption)|(simp only[nmL]<;>omega))) only[go_sem,seval,g1,g2,g3,g4,g5,hg2,tB.sl.one,hp_nil]
    refine fin (x:= .mk 6 p [] [] zE x6_4 zE l6_10 []) (w:=⟨.nils,u6_3,.nils,v6_8,.nils⟩) (s':=s6_11) (q:=false) hs (RS.of (re00 _ _) tX (re00 _ _) tB (ss0 _ _)) ?_ hlim (by simp only[go_sem,seval,g1]) (by simp only[go_sem,seval,g3]) (by simp only[go_sem,seval,g4]) (by simp only[go_sem,seval,g5])
    rw[stmtF,if_neg ne0,if_neg ne1,if_neg ne2,if_neg ne3,if_neg ne4,if_neg ne5,if_pos hb6,hpp]
    subst hql6_10 hqs6_11 hqx6_4 hqs6_5
    rw[ifF,if_neg nee];rfl
  |false=>
  have ne6:¬(takeB L [105,102] s=true):=by rw[hb6];exact Bool.false_ne_true
  rw[hb6,if_neg Bool.false_ne_true] at hd6
  replace hs:=hs.call hr1 hr2 hC6 hd6
  simp (config:={maxSteps:=1000000}) (disch:=(first|assumption|omega|exact old_n (by omega)|exact old_hp (by assumption)|(simp only[nmL]<;>omega))) only[go_sem,seval,g1,g2,g3,g4,g5,hp_nil]
  refine WF.use1H (take_r hc (hbase hs) hs.hd [119,104,105,108,101] (by simp) (by omega)) ?_
  rintro M7 ⟨hd7,hC7⟩
  cases hb7:takeB L [119,104,105,108,101] s with
  |true=>
   obtain ⟨he,hlt⟩:=takeB_lt hb7
   have hlim:(nextR s).a<=L.length:=hlt
   rw[hb7,if_pos rfl] at hd7
   replace hs:=hs.call hr1 hr2 hC7 hd7
   have hg2:=hs.g2
   have ho2:=hs.o2
   simp (config:={maxSteps:=1000000}) (disch:=(first|assumption|omega|exact old_n (by omega)|exact old_hp (by assumption)|(simp only[nmL]<;>omega))) only[go_sem,seval,g1,g2,g3,g4,g5,hg2]
   generalize hMg:hp _ 0 _=M7_1
   have hs':SC m r b1 b2 vl rest (stm0 0 0) M7_1 (nextR s) [ii 7,ii p,.str [],.str [],ii 0,u64 0,u8 0,.str [],.nils,ii 0,u64 0,u8 0,.str [],.nils,ii 0,u64 0,u8 0,.str [],.nils,.nils,.nils]:=by rw[←hMg];exact hput hs (by simp[oldK])
   clear hMg
   replace hs:=hs'
   refine WF.useH (exr hc (hbase hs) hs.hd hlim) ?_
   rintro v N7_2 ⟨⟨u7_3,rfl,hx⟩,hd,hC⟩
   have tX:=hx.weak hs.tb
   replace hs:=hs.call hr1 hr2 hC hd
   replace hlim:(exR L (nextR s)).2.a<=L.length:=(st_expr L 30 _).lim hlim
   generalize hqs7_5:(exR L (nextR s)).2=s7_5 at hs hlim
   generalize hqx7_4:(exR L (nextR s)).1=x7_4 at tX
   clear hx hd
   have hxl:(x7_4.l u7_3).length=5:=rfl
   have hg2:=hs.g2
   have ho2:=hs.o2
   simp (config:={maxSteps:=1000000}) (disch:=(first|assumption|omega|exact old_n (by omega)|exact old_hp (by assumption)|(simp only[nmL]<;>omega))) only[go_sem,seval,g1,g2,g3,g4,g5,hg2]
   generalize hMg:hp _ 0 _=M7_6
   have hs':SC m r b1 b2 vl rest (stm0 0 0) M7_6 s7_5 [ii 7,ii p,.str [],.str [],ii 0,u64 0,u8 0,.str [],.nils,ii x7_4.k,u64 x7_4.n,u8 x7_4.o,.str x7_4.s,u7_3,ii 0,u64 0,u8 0,.str [],.nils,.nils,.nils]:=by rw[←hMg];exact hput hs (by simp[oldK])
   replace tX:=tX.stays (m':=M7_6) (by rw[←hMg];exact tb_put (by simp[oldK]))
   clear hMg
   replace hs:=hs'
   refine WF.useH (hB (hbase hs) hs.hd hlim) ?_
   rintro v7_8 N7_7 ⟨⟨C7_9,hx⟩,hd,hC⟩
   have tB:=hx.weak hs.tb
   replace hs:=hs.call hr1 hr2 hC hd
   replace tX:=tX.stays (tb_call hro hC)
   replace hlim:=(hst s7_5).lim hlim
   generalize hqs7_11:(B s7_5).2=s7_11 at hs hlim
   generalize hql7_10:(B s7_5).1=l7_10 at tB
   clear hx hd
   have hg2:=hs.g2
   have ho2:=hs.o2
   simp (config:={maxSteps:=1000000}) (disch:=(first|assumption|omega|exact old_n (by omega)|exact old_hp (by assumption)|(simp only[nmL]<;>omega))) only[go_sem,seval,g1,g2,g3,g4,g5,hg2,tB.sl.one]
   generalize hMg:hp _ 0 _=M7_12
   have hs':SC m r b1 b2 vl rest (stm0 0 0) M7_12 s7_11 [ii 7,ii p,.str [],.str [],ii 0,u64 0,u8 0,.str [],.nils,ii x7_4.k,u64 x7_4.n,u8 x7_4.o,.str x7_4.s,u7_3,ii 0,u64 0,u8 0,.str [],.nils,v7_8,.nils]:=by rw[←hMg];exact hput hs (by simp[oldK])
   replace tX:=tX.stays (m':=M7_12) (by rw[←hMg];exact tb_put (by simp[oldK]))
   replace tB:=tB.stays (m':=M7_12) (by rw[←hMg];exact tb_put (by simp[oldK]))
   clear hMg
   replace hs:=hs'
   refine fin (x:= .mk 7 p [] [] zE x7_4 zE l7_10 []) (w:=⟨.nils,u7_3,.nils,v7_8,.nils⟩) (s':=s7_11) (q:=false) hs (RS.of (re00 _ _) tX (re00 _ _) tB (ss0 _ _)) ?_ hlim (by simp only[go_sem,seval,g1]) (by simp only[go_sem,seval,g3]) (by simp only[go_sem,seval,g4]) (by simp only[go_sem,seval,g5])
   rw[stmtF,if_neg ne0,if_neg ne1,if_neg ne2,if_neg ne3,if_neg ne4,if_neg ne5,if_neg ne6,if_pos hb7,hpp]
   subst hql7_10 hqs7_11 hqx7_4 hqs7_5
   rfl
  |false=>
  have ne7:¬(takeB L [119,104,105,108,101] s=true):=by rw[hb7];exact Bool.false_ne_true
  rw[hb7,if_neg Bool.false_ne_true] at hd7
  replace hs:=hs.call hr1 hr2 hC7 hd7
  simp (config:={maxSteps:=1000000}) (disch:=(first|assumption|omega|exact old_n (by omega)|exact old_hp (by assumption)|(simp only[nmL]<;>omega))) only[go_sem,seval,g1,g2,g3,g4,g5,hp_nil]
  refine WF.use1 (fail_r hs.hd 2) ?_
  rintro M9 ⟨hd9,hC9⟩
  replace hs:=hs.call hr1 hr2 hC9 hd9
  have hlim:=(st_fail L 2 s).lim ha
  simp (config:={maxSteps:=1000000}) (disch:=(first|assumption|omega|exact old_n (by omega)|exact old_hp (by assumption)|(simp only[nmL]<;>omega))) only[go_sem,seval,g1,g2,g3,g4,g5]
  refine fin (x:= .mk 0 p [] [] zE zE zE [] []) (w:=⟨.nils,.nils,.nils,.nils,.nils⟩) (s':=failR 2 s) (q:=true) hs (RS.of (re00 _ _) (re00 _ _) (re00 _ _) (ss0 _ _) (ss0 _ _)) ?_ hlim (by simp only[go_sem,seval,g1]) (by simp only[go_sem,seval,g3]) (by simp only[go_sem,seval,g4]) (by simp only[go_sem,seval,g5])
  rw[stmtF,if_neg ne0,if_neg ne1,if_neg ne2,if_neg ne3,if_neg ne4,if_neg ne5,if_neg ne6,if_neg ne7,hpp]
  rfl
 clear g1 g2 g3 g4 g5 hs
 rintro D ⟨t,M,x,w,s',q,rfl,hs,hx,hE,ha',g1,g3,g4,g5⟩
 change wp _ _ _ _ ⟨puts [] t, [],none,M⟩ _
 rw[←hE] at hK
 have hxl:(x.l w).length=21:=rfl
 have hxl':(x.l w).take 21=x.l w:=rfl
 have fin:∀{M s''},SC m r b1 b2 vl rest (stm0 0 0) M s'' (x.l w)->RS M (TB m b1 b2) x (x.l w)->(if q then wantR L [59] s' else s')=s''->K (.agg (x.l w)) (hp [(.o b1,.cells true (x.l w))] 0 M):=fun {M s''} h1 h2 h3=>by
  have hC:Chg [b1] M (hp [(.o b1,.cells true (x.l w))] 0 M):=hp_of rfl
  refine hK _ _ ⟨⟨w,rfl,(h2.stays (Stays.of hC fun i hi hs=> ?_)).weak fun i hi=>hi.1⟩, ?_,h1.hC.trans hC fun i hi ho=> ?_⟩
  ·simp only[List.mem_cons,List.not_mem_nil,or_false] at hs;exact hi.2.1 hs
  ·show RD _ r vl (if q then wantR L [59] s' else s') rest
   rw[h3];exact h1.hd.chg hC (by simpa using fun e=>hr1 e.symm)
  ·simp only[List.mem_cons,List.not_mem_nil,or_false] at hi;subst hi;exact absurd ho hn1
 cases q with
 |true=>
  simp (config:={maxSteps:=1000000}) (disch:=(first|assumption|omega|exact old_n (by omega)|exact old_hp (by assumption)|(simp only[nmL]<;>omega))) only[go_sem,seval,g1,g3,g4,g5,hp_nil]
  refine WF.use1H (want_r hc (hc.chg h0 hs.hC) hs.hd [59] (by simp) (by omega)) ?_
  rintro M2 ⟨hd2,hC2⟩
  have hs2:=hs.call hr1 hr2 hC2 hd2
  have hg2:=hs2.g2
  have hg1:=hs2.g1
  have ho1:=hs2.o1
  have ho2:=hs2.o2
  simp (config:={maxSteps:=1000000}) (disch:=(first|assumption|omega|exact old_n (by omega)|exact old_hp (by assumption)|(simp only[nmL]<;>omega))) only[go_sem,seval,g1,g3,g4,g5,hg2,hg1,hxl,hxl']
  exact fin hs2 (hx.stays (tb_call hro hC2)) rfl
 |false=>
  have hg2:=hs.g2
  have hg1:=hs.g1
  have ho1:=hs.o1
  have ho2:=hs.o2
  rw[←hp_nil M]
  simp (config:={maxSteps:=1000000}) (disch:=(first|assumption|omega|exact old_n (by omega)|exact old_hp (by assumption)|(simp only[nmL]<;>omega))) only[go_sem,seval,g1,g3,g4,g5,hg2,hg1,hxl,hxl']
  exact fin hs hx rfl
end
end FR
open Go Nm Go.Proofs
namespace FR
set_option linter.unusedSimpArgs false
set_option linter.unusedVariables false
section
variable {L:List Tok}
theorem ex_st (s:Rs):St L s (exR L s).2:=st_expr L 30 s
theorem st_end {x:Stm} {s s':Rs} (h:St L s s'):St L s (endF L x s').2:=h.trans (st_want _ _ _)
theorem st_set (p:Int) (s:Rs):St L s (setF L p s).2:=st_end ((st_name L s).trans (ex_st _))
theorem st_load (p:Int) (s:Rs):St L s (loadF L p s).2:=st_end ((st_name L s).trans (st_place _))
theorem st_store (p:Int) (s:Rs):St L s (storeF L p s).2:=st_end ((st_place s).trans (ex_st _))
theorem st_cas (p:Int) (s:Rs):St L s (casF L p s).2:=st_end ((((st_name L s).trans (st_place _)).trans (ex_st _)).trans (ex_st _))
theorem st_out (p:Int) (s:Rs):St L s (outF L p s).2:=st_end (ex_st _)
theorem st_if {B:Rs->List Stm×Rs} (hB:∀s,St L s (B s).2) (p:Int) (s:Rs):St L s (ifF L B p s).2:=by
 unfold ifF
 have h:=(ex_st (L:=L) s).trans (hB _)
 split
 ·rename_i q;exact (h.trans (st_take q)).trans (hB _)
 ·exact h
theorem st_while {B:Rs->List Stm×Rs} (hB:∀s,St L s (B s).2) (p:Int) (s:Rs):St L s (whileF L B p s).2:=(ex_st s).trans (hB _)
theorem st_stmt1 {B:Rs->List Stm×Rs} (hB:∀s,St L s (B s).2) (s:Rs):(∃t,St L s t/\St L t (stmtF L B s).2/\(s.e=0->s.a<t.a∨t.e≠0)):=by
 have y:∀{w:List Nat},takeB L w s=true->St L s (nextR s):=fun h=>st_take h
 have n:s.a<(nextR s).a:=Nat.lt_succ_self _
 unfold stmtF
 split
 ·exact ⟨nextR s,y ‹_›,st_set _ _,fun _=>Or.inl n⟩
 ·split
  ·exact ⟨nextR s,y ‹_›,st_load _ _,fun _=>Or.inl n⟩
  ·split
   ·exact ⟨nextR s,y ‹_›,st_store _ _,fun _=>Or.inl n⟩
   ·split
    ·exact ⟨nextR s,y ‹_›,st_cas _ _,fun _=>Or.inl n⟩
    ·split
     ·exact ⟨nextR s,y ‹_›,st_end (St.refl _ _),fun _=>Or.inl n⟩
     ·split
      ·exact ⟨nextR s,y ‹_›,st_out _ _,fun _=>Or.inl n⟩
      ·split
       ·exact ⟨nextR s,y ‹_›,st_if hB _ _,fun _=>Or.inl n⟩
       ·split
        ·exact ⟨nextR s,y ‹_›,st_while hB _ _,fun _=>Or.inl n⟩
        ·refine ⟨failR 2 s,st_fail _ _ _,st_end (St.refl _ _),fun h=>Or.inr ?_⟩
         rw[failR,if_pos h];show (2:Nat)≠0;omega
theorem st_stmt {B:Rs->List Stm×Rs} (hB:∀s,St L s (B s).2) (s:Rs):St L s (stmtF L B s).2:=by
 obtain ⟨t,h1,h2,-⟩:=st_stmt1 hB s
 exact h1.trans h2
theorem pr_stmt {B:Rs->List Stm×Rs} (hB:∀s,St L s (B s).2) (s:Rs) (he:s.e=0):s.a<(stmtF L B s).2.a∨(stmtF L B s).2.e≠0:=by
 obtain ⟨t,h1,h2,h3⟩:=st_stmt1 hB s
 rcases h3 he with q|q
 ·left;have:=h2.le;omega
 ·right;rw[h2.err q];exact q
theorem st_loopB {S:Rs->Stm×Rs} (hS:∀s,St L s (S s).2):∀(f:Nat) (l:List Stm) (s:Rs),St L s (loopB L S f l s).2:=by
 intro f
 induction f with
 |zero=>exact fun l s=>St.refl _ _
 |succ f ih=>
  intro l s
  rw[loopB]
  split
  ·exact St.refl _ _
  ·split
   ·exact st_take ‹_›
   ·exact (hS s).trans (ih _ _)
theorem st_bodyF {S:Rs->Stm×Rs} (hS:∀s,St L s (S s).2) (d:Nat) (s:Rs):St L s (bodyF L S d s).2:=((st_deep d s).trans (st_want _ _ _)).trans (st_loopB hS _ _ _)
theorem st_body:∀(n:Nat) (s:Rs),St L s (bodyN L n s).2:=by
 intro n
 induction n with
 |zero=>exact fun s=>st_bodyF (fun s=>st_fail _ _ _) _ s
 |succ n ih=>exact fun s=>st_bodyF (st_stmt ih) _ s
def SzB (B:Rs->List Stm×Rs):Prop:=∀s,(B s).2.e=0->szB (B s).1+4*s.a<=4*(B s).2.a
theorem ex_sz (s:Rs) (h:(exR L s).2.e=0):(exR L s).1.sz+s.a<=(exR L s).2.a:=sz_expr L 30 s h
theorem name_sz {s:Rs} (h:(nameR L s).2.e=0):s.a+1<=(nameR L s).2.a:=by
 unfold nameR at h ⊢
 split
 ·rename_i q
  rw[if_pos q] at h
  have h0:=(st_fail L 2 s).zero h
  rw[failR,if_pos h0] at h
  exact absurd h (by show (2:Nat)≠0;omega)
 ·exact Nat.le_refl _
theorem want_sz {w:List Nat} {s:Rs} (h:(wantR L w s).e=0):s.e=0/\(wantR L w s).a=s.a+1:=by
 have h0:=(st_want L w s).zero h
 refine ⟨h0, ?_⟩
 unfold wantR at h ⊢
 split
 ·rfl
 ·rename_i q
  rw[if_neg q,failR,if_pos h0] at h
  exact absurd h (by show (2:Nat)≠0;omega)
theorem place_sz {s:Rs} (h:(placeF L s).2.2.e=0):(placeF L s).2.1.sz+s.a<=(placeF L s).2.2.a:=by
 unfold placeF at h ⊢
 split
 ·rename_i q
  rw[if_pos q] at h
  obtain ⟨h1,h2⟩:=want_sz h
  have h3:=ex_sz _ h1
  have h4:=(st_take q).le
  have h5:=(st_name L s).le
  have h6:(nextR (nameR L s).2).a=(nameR L s).2.a+1:=rfl
  dsimp only at h1 h2 h3 h4 h5 ⊢
  omega
 ·rename_i q
  rw[if_neg q] at h
  have:=name_sz h
  simp[zE,Ex.sz,szL];omega
theorem zE_sz:zE.sz=1:=by simp[zE,Ex.sz,szL]
theorem stm_sz (k p:Int) (nm ce:List Nat) (i x y:Ex) (b e:List Stm):(Stm.mk k p nm ce i x y b e).sz=1+i.sz+x.sz+y.sz+szB b+szB e:=by rw[Stm.sz]
theorem szB0:szB []=0:=rfl
set_option maxHeartbeats 4000000 in
theorem sz_stmt {B:Rs->List Stm×Rs} (hSt:∀s,St L s (B s).2) (hB:SzB B) (s:Rs) (h:(stmtF L B s).2.e=0):(stmtF L B s).1.sz+4*s.a<=4*(stmtF L B s).2.a:=by
 have n:(nextR s).a=s.a+1:=rfl
 unfold stmtF at h ⊢
 split
 ·rename_i q
  rw[if_pos q] at h
  obtain ⟨h1,h2⟩:=want_sz h
  have h3:=ex_sz _ h1
  have h4:=name_sz ((ex_st (L:=L) _).zero h1)
  show (Stm.mk ..).sz+_<=4*(wantR L [59] _).a
  rw[h2,stm_sz,zE_sz,szB0];omega
 ·rename_i q0;rw[if_neg q0] at h
  split
  ·rename_i q
   rw[if_pos q] at h
   obtain ⟨h1,h2⟩:=want_sz h
   have h3:=place_sz h1
   have h4:=name_sz ((st_place (L:=L) _).zero h1)
   show (Stm.mk ..).sz+_<=4*(wantR L [59] _).a
   rw[h2,stm_sz,zE_sz,szB0];omega
  ·rename_i q0;rw[if_neg q0] at h
   split
   ·rename_i q
    rw[if_pos q] at h
    obtain ⟨h1,h2⟩:=want_sz h
    have h3:=ex_sz _ h1
    have h4:=place_sz ((ex_st (L:=L) _).zero h1)
    show (Stm.mk ..).sz+_<=4*(wantR L [59] _).a
    rw[h2,stm_sz,zE_sz,szB0];omega
   ·rename_i q0;rw[if_neg q0] at h
    split
    ·rename_i q
     rw[if_pos q] at h
     obtain ⟨h1,h2⟩:=want_sz h
     have h3:=ex_sz _ h1
     have h1':=(ex_st (L:=L) _).zero h1
     have h4:=ex_sz _ h1'
     have h1'':=(ex_st (L:=L) _).zero h1'
     have h5:=place_sz h1''
     have h6:=name_sz ((st_place (L:=L) _).zero h1'')
     show (Stm.mk ..).sz+_<=4*(wantR L [59] _).a
     rw[h2,stm_sz,szB0];omega
    ·rename_i q0;rw[if_neg q0] at h
     split
     ·rename_i q
      rw[if_pos q] at h
      obtain ⟨h1,h2⟩:=want_sz h
      show (Stm.mk ..).sz+_<=4*(wantR L [59] _).a
      rw[h2,stm_sz,zE_sz,szB0];omega
     ·rename_i q0;rw[if_neg q0] at h
      split
      ·rename_i q
       rw[if_pos q] at h
       obtain ⟨h1,h2⟩:=want_sz h
       have h3:=ex_sz _ h1
       show (Stm.mk ..).sz+_<=4*(wantR L [59] _).a
       rw[h2,stm_sz,zE_sz,szB0];omega
      ·rename_i q0;rw[if_neg q0] at h
       split
       ·rename_i q
        rw[if_pos q] at h
        unfold ifF at h ⊢
        split
        ·rename_i q2
         rw[if_pos q2] at h
         have h1:=hB _ h
         have h2:=(hSt _).zero h
         have h3:=hB _ h2
         have h4:=ex_sz _ ((hSt _).zero h2)
         have h5:(nextR (B (exR L (nextR s)).2).2).a=(B (exR L (nextR s)).2).2.a+1:=rfl
         rw[stm_sz,zE_sz];dsimp only at *;omega
        ·rename_i q2
         rw[if_neg q2] at h
         have h3:=hB _ h
         have h4:=ex_sz _ ((hSt _).zero h)
         rw[stm_sz,zE_sz,szB0];dsimp only at *;omega
       ·rename_i q0;rw[if_neg q0] at h
        split
        ·rename_i q
         rw[if_pos q] at h
         have h3:=hB _ h
         have h4:=ex_sz _ ((hSt _).zero h)
         show (Stm.mk ..).sz+_<=4*(B _).2.a
         rw[stm_sz,zE_sz,szB0];omega
        ·rename_i q0;rw[if_neg q0] at h
         obtain ⟨h1,h2⟩:=want_sz h
         have h3:=(st_fail L 2 s).zero h1
         rw[failR,if_pos h3] at h1
         exact absurd h1 (by show (2:Nat)≠0;omega)
theorem szB_append (a b:List Stm):szB (a++b)=szB a+szB b:=by
 induction a with
 |nil=>simp[szB]
 |cons x a ih=>rw[List.cons_append,szB,szB,ih];omega
theorem sz_loopB {S:Rs->Stm×Rs} (hSt:∀s,St L s (S s).2) (hS:∀s,(S s).2.e=0->(S s).1.sz+4*s.a<=4*(S s).2.a):∀(f:Nat) (l:List Stm) (s:Rs) (a0:Nat),(s.e=0->szB l+4*a0<=4*s.a)->(loopB L S f l s).2.e=0->szB (loopB L S f l s).1+4*a0<=4*(loopB L S f l s).2.a:=by
 intro f
 induction f with
 |zero=>intro l s a0 h h2;exact h h2
 |succ f ih=>
  intro l s a0 h
  rw[loopB]
  split
  ·intro h2;exact absurd h2 ‹_›
  ·split
   ·rename_i q1 q2
    intro h2
    have h1:=h (by omega)
    have:(nextR s).a=s.a+1:=rfl
    dsimp only;omega
   ·rename_i q1 q2
    refine ih _ _ a0 fun h2=> ?_
    have h1:=h (by omega)
    have h3:=hS s h2
    rw[szB_append,szB,szB0];omega
theorem sz_bodyF {S:Rs->Stm×Rs} (hSt:∀s,St L s (S s).2) (hS:∀s,(S s).2.e=0->(S s).1.sz+4*s.a<=4*(S s).2.a) (d:Nat):SzB (bodyF L S d):=by
 intro s h
 refine sz_loopB hSt hS _ _ _ s.a (fun h2=> ?_) h
 have:=((st_deep (L:=L) d s).trans (st_want L [123] _)).le
 rw[szB0];omega
theorem sz_body:∀n:Nat,SzB (bodyN L n):=by
 intro n
 induction n with
 |zero=>
  intro s h
  have h1:=(st_loopB (L:=L) (S:=fun s=>(Stm.mk 0 0 [] [] zE zE zE [] [],failR 2 s)) (fun s=>st_fail _ _ _) _ _ _).zero h
  have h2:=(st_want L [123] _).zero h1
  have h3:=(st_deep (L:=L) 30 s).zero h2
  exfalso
  obtain ⟨h4,h5⟩:=want_sz h1
  have hff:∀e (s:Rs),e≠0->(failR e s).e≠0:=fun e s h=>by unfold failR;split;exact h;assumption
  by_cases hk:(nowT L s.a).k=3/\(nowT L s.a).t= [123]
  ·rw[deepF,if_pos ⟨h3,by omega,hk.1,hk.2⟩] at h4
   exact hff 11 s (by omega) h4
  ·have e1:deepF L 30 s=s:=by rw[deepF,if_neg (fun h=>hk ⟨h.2.2.1,h.2.2.2⟩)]
   rw[e1] at h1
   have e2:takeB L [123] s=false:=decide_eq_false fun q=>hk ⟨q.2.1,q.2.2⟩
   rw[wantR,e2,if_neg Bool.false_ne_true] at h1
   exact hff 2 s (by omega) h1
 |succ n ih=>exact sz_bodyF (st_stmt (st_body n)) (sz_stmt (st_body n) ih) _
end
section
variable {m0:NH} {L:List Tok} {vl:NV} {r:D4} {rest:List NV}
theorem body_r (hc:RC m0 L vl r):∀n,n<=30->BdC m0 L vl r rest (bodyN L n) (30 - n):=by
 intro n
 induction n with
 |zero=>
  intro _
  have e2:bodyN L 0=bodyF L (fun s=>(.mk 0 0 [] [] zE zE zE [] [],failR 2 s)) 30:=by funext s;rfl
  rw[e2]
  intro m s
  exact body_r1 (S:=fun s=>(.mk 0 0 [] [] zE zE zE [] [],failR 2 s)) hc (fun s=>st_fail _ _ _) (fun s he=>Or.inr (by rw[failR,if_pos he];show (2:Nat)≠0;omega)) (fun h=>by omega)
 |succ n ih=>
  intro hn
  have e:30 - (n+1)=29 - n:=by omega
  have h1:29 - n+1=30 - n:=by omega
  have e2:bodyN L (n+1)=bodyF L (stmtF L (bodyN L n)) (29 - n):=by funext s;rfl
  rw[e,e2]
  intro m s
  exact body_r1 hc (st_stmt (st_body n)) (pr_stmt (st_body n)) (fun _=>by rw[←h1] at ih;intro m s;exact stmt_r hc (st_body n) (ih (by omega)) (by omega))
end
end FR
open Go Nm Go.Proofs
namespace FR
set_option linter.unusedSimpArgs false
set_option linter.unusedVariables false
structure Ps where
 cs:List (List Nat×Int)
 ts:List (List Nat×List Stm)
 rc:List Stm
 rd:Bool
section
variable (L:List Tok)
def sizeT (T:Tok):Int:=if T.n<1048576 then T.n else 1048576
def cellF (s:Rs):(List Nat×Int)×Rs:=
 if takeB L [91] (nameR L s).2=true then
  if (nowT L (nextR (nameR L s).2).a).k=2 then (((nameR L s).1,sizeT (nowT L (nextR (nameR L s).2).a)),wantR L [59] (wantR L [93] (nextR (nextR (nameR L s).2))))
  else (((nameR L s).1,1),wantR L [59] (wantR L [93] (failR 2 (nextR (nameR L s).2))))
 else (((nameR L s).1,1),wantR L [59] (nameR L s).2)
def threadF (s:Rs):(List Nat×List Stm)×Rs:=(((nameR L s).1,(bodyN L 30 (nameR L s).2).1),(bodyN L 30 (nameR L s).2).2)
abbrev recW:List Nat:= [114,101,99,111,118,101,114]
def twiceR (rec:Bool) (s:Rs):Rs:=if rec=true/\(nowT L s.a).k=4/\(nowT L s.a).t=recW then failR 5 s else s
def recF (rec:Bool) (s:Rs):List Stm×Rs:=bodyN L 30 (wantR L recW (twiceR L rec s))
def topF (P:Ps) (s:Rs):Ps×Rs:=
 if takeB L [99,101,108,108] s=true then (⟨P.cs++ [(cellF L (nextR s)).1],P.ts,P.rc,P.rd⟩,(cellF L (nextR s)).2)
 else if takeB L [116,104,114,101,97,100] s=true then (⟨P.cs,P.ts++ [(threadF L (nextR s)).1],P.rc,P.rd⟩,(threadF L (nextR s)).2)
 else (⟨P.cs,P.ts,(recF L P.rd s).1,true⟩,(recF L P.rd s).2)
end
abbrev TP (mR:NH) (vc vt:NV):D4->Prop:=fun i=>¬Old mR i/\i∉ids vc/\i∉ids vt
structure PD (mR M:NH) (r:D4) (vl:NV) (s:Rs) (P:Ps) (vc vt vr:NV):Prop where
 hd:RD M r vl s [.bool P.rd,vc,vt,vr]
 cc:Own mR M vc 2 (Cls P.cs)
 tt:∃C,Own mR M vt 2 C/\C.length=P.ts.length/\∀(j:Nat) (x:List Nat×List Stm) (c:List NV),P.ts[j]? =some x->C[j]? =some c->∃vb B,c= [.str x.1,vb]/\SS M (TP mR vc vt) vb x.2 B
 rr:∃C,SS M (TP mR vc vt) vr P.rc C
 dd:∀i∈ids vc,i∉ids vt
 oo:∀i,Old mR i->Old M i
 oR:Old mR r
section
variable {m0 mR:NH} {L:List Tok} {vl vc vt vr:NV} {r:D4} {M M':NH} {s s':Rs} {P:Ps}
theorem PD.call (h:PD mR M r vl s P vc vt vr) (hC:Chg [r] M M') (hd:RD M' r vl s' [.bool P.rd,vc,vt,vr]):PD mR M' r vl s' P vc vt vr:=by
 have hn:∀{v e C},Own mR M v e C->∀i∈ids v,i∉ [r]:=fun hv i hi hs=>by
  simp only[List.mem_cons,List.not_mem_nil,or_false] at hs;subst hs;exact hv.new _ hi h.oR
 have hst:Stays (TP mR vc vt) M M':=Stays.of hC fun i hi hs=>by
  simp only[List.mem_cons,List.not_mem_nil,or_false] at hs;subst hs;exact hi.1 h.oR
 obtain ⟨C,t1,t2,t3⟩:=h.tt
 obtain ⟨D,r1⟩:=h.rr
 exact ⟨hd,h.cc.chg hC (hn h.cc),⟨C,t1.chg hC (hn t1),t2,fun j x c a b=>by obtain ⟨vb,B,e,q⟩:=t3 j x c a b;exact ⟨vb,B,e,q.stays hst⟩⟩,⟨D,r1.stays hst⟩,h.dd,fun i hi=>hC.old (h.oo i hi),h.oR⟩
theorem PD.grow (h:PD mR M r vl s P vc vt vr) (hC:Chg [] M M'):PD mR M' r vl s P vc vt vr:=h.call (hC.weak (by simp)) (h.hd.chg hC (by simp))
end
section
variable {mR:NH} {vl vc vt vr:NV} {r:D4} {M:NH} {s:Rs} {P:Ps}
theorem pd_cell (h:PD mR M r vl s P vc vt vr) {v:NV} {M5 M6:NH} {c:List Nat×Int} (h5:Chg [] M M5) (hv:Own mR M6 v 2 (Cls P.cs++ [[.str c.1,ii c.2]])) (h6:Chg (ids vc) M5 M6) (hF:From M5 vc v):
 PD mR (hp [(.o r,.cells true [vl,ii s.a,ii s.e,ii s.b,.bool P.rd,v,vt,vr])] 0 M6) r vl s ⟨P.cs++ [c],P.ts,P.rc,P.rd⟩ v vt vr:=by
 have h:=h.grow h5
 have o5:=h.oo
 have hr6:Old M6 r:=h6.old h.hd.o
 have hC:Chg [r] M6 (hp [(.o r,.cells true [vl,ii s.a,ii s.e,ii s.b,.bool P.rd,v,vt,vr])] 0 M6):=hp_of rfl
 obtain ⟨C,t1,t2,t3⟩:=h.tt
 obtain ⟨D,r1⟩:=h.rr
 have hvt:∀i∈ids vt,i∉ids vc:=fun i hi hc=>h.dd i hc hi
 have nr:∀{v e C M},Own mR M v e C->∀i∈ids v,i∉ [r]:=fun hv i hi hs=>by
  simp only[List.mem_cons,List.not_mem_nil,or_false] at hs;subst hs;exact hv.new _ hi h.oR
 have hS:∀{w:NV} {l:List Stm} {C:List (List NV)},SS M5 (TP mR vc vt) w l C->SS (hp [(.o r,.cells true [vl,ii s.a,ii s.e,ii s.b,.bool P.rd,v,vt,vr])] 0 M6) (TP mR v vt) w l C:=fun q=>by
  have q1:SS M5 (fun i=>TP mR vc vt i/\Old M5 i) _ _ _:=⟨q.sl,fun i hi=>⟨q.hT i hi,q.sl.old i hi⟩,q.len,fun i x c a b=>(q.R i x c a b).old⟩
  have q2:=q1.stays (m':=M6) (Stays.of h6 fun i hi hs=>hi.1.2.1 hs)
  have q3:=q2.stays (Stays.of hC fun i hi hs=>by
   simp only[List.mem_cons,List.not_mem_nil,or_false] at hs;subst hs;exact hi.1.1 h.oR)
  exact q3.weak fun i hi=>⟨hi.1.1,fun a=>(hF i a).elim hi.1.2.1 fun z=>z hi.2,hi.1.2.2⟩
 refine ⟨⟨(h_getO hr6).trans h_lookOs,old_hp hr6⟩, ?_,⟨C,(t1.chg h6 hvt).chg hC (nr t1),t2,fun j x c a b=>by obtain ⟨vb,B,e,q⟩:=t3 j x c a b;exact ⟨vb,B,e,hS q⟩⟩,⟨D,hS r1⟩,fun i hi ht=>(hF i hi).elim (fun a=>h.dd i a ht) fun z=>z (t1.sl.old i ht),fun i hi=>hC.old (h6.old (o5 i hi)),h.oR⟩
 have e:Cls (P.cs++ [c])=Cls P.cs++ [[.str c.1,ii c.2]]:=by simp
 show Own mR _ v 2 (Cls (P.cs++ [c]))
 rw[e]
 exact hv.chg hC (nr hv)
theorem pd_thread (h:PD mR M r vl s P vc vt vr) {v vb:NV} {B C:List (List NV)} {M6:NH} {n:List Nat} {b:List Stm} (hb:SS M (TP mR vc vt) vb b B) (t1:Own mR M vt 2 C) (t2:C.length=P.ts.length) (t3:∀(j:Nat) (x:List Nat×List Stm) (c:List NV),P.ts[j]? =some x->C[j]? =some c->∃vb B,c= [.str x.1,vb]/\SS M (TP mR vc vt) vb x.2 B)
 (hv':Own mR M6 v 2 (C++ [[.str n,vb]])) (h6:Chg (ids vt) M M6) (hF:From M vt v):
 PD mR (hp [(.o r,.cells true [vl,ii s.a,ii s.e,ii s.b,.bool P.rd,vc,v,vr])] 0 M6) r vl s ⟨P.cs,P.ts++ [(n,b)],P.rc,P.rd⟩ vc v vr:=by
 have o5:=h.oo
 have hr6:Old M6 r:=h6.old h.hd.o
 have hC:Chg [r] M6 (hp [(.o r,.cells true [vl,ii s.a,ii s.e,ii s.b,.bool P.rd,vc,v,vr])] 0 M6):=hp_of rfl
 obtain ⟨D,r1⟩:=h.rr
 have nr:∀{v e C M},Own mR M v e C->∀i∈ids v,i∉ [r]:=fun hv i hi hs=>by
  simp only[List.mem_cons,List.not_mem_nil,or_false] at hs;subst hs;exact hv.new _ hi h.oR
 have hS:∀{w:NV} {l:List Stm} {C:List (List NV)},SS M (TP mR vc vt) w l C->SS (hp [(.o r,.cells true [vl,ii s.a,ii s.e,ii s.b,.bool P.rd,vc,v,vr])] 0 M6) (TP mR vc v) w l C:=fun q=>by
  have q1:SS M (fun i=>TP mR vc vt i/\Old M i) _ _ _:=⟨q.sl,fun i hi=>⟨q.hT i hi,q.sl.old i hi⟩,q.len,fun i x c a b=>(q.R i x c a b).old⟩
  have q2:=q1.stays (m':=M6) (Stays.of h6 fun i hi hs=>hi.1.2.2 hs)
  have q3:=q2.stays (Stays.of hC fun i hi hs=>by
   simp only[List.mem_cons,List.not_mem_nil,or_false] at hs;subst hs;exact hi.1.1 h.oR)
  exact q3.weak fun i hi=>⟨hi.1.1,hi.1.2.1,fun a=>(hF i a).elim hi.1.2.2 fun z=>z hi.2⟩
 refine ⟨⟨(h_getO hr6).trans h_lookOs,old_hp hr6⟩,(h.cc.chg h6 h.dd).chg hC (nr h.cc),⟨C++ [[.str n,vb]],hv'.chg hC (nr hv'),by simp[t2],fun j x c a b'=> ?_⟩,⟨D,hS r1⟩,fun i hi ht=>(hF i ht).elim (fun a=>h.dd i hi a) fun z=>z (h.cc.sl.old i hi),fun i hi=>hC.old (h6.old (o5 i hi)),h.oR⟩
 rcases Nat.lt_or_ge j P.ts.length with q|q
 ·rw[List.getElem?_append_left q] at a
  rw[List.getElem?_append_left (by omega)] at b'
  obtain ⟨w,B2,e,q2⟩:=t3 j x c a b'
  exact ⟨w,B2,e,hS q2⟩
 ·rw[List.getElem?_append_right q] at a
  rw[List.getElem?_append_right (by omega),t2] at b'
  cases hj:j - P.ts.length with
  |zero=>rw[hj] at a b';cases a;cases b';exact ⟨vb,B,rfl,hS hb⟩
  |succ k=>rw[hj] at a;simp at a
theorem pd_rec (h:PD mR M r vl s P vc vt vr) {v:NV} {C:List (List NV)} {b:List Stm} (hb:SS M (TP mR vc vt) v b C) {l:List (AK×NO)} (hl:∀i∈oldK l,i=r):
 PD mR (hp ((.o r,.cells true [vl,ii s.a,ii s.e,ii s.b,.bool true,vc,vt,v])::l) 0 M) r vl s ⟨P.cs,P.ts,b,true⟩ vc vt v:=by
 have hC:Chg [r] M (hp ((.o r,.cells true [vl,ii s.a,ii s.e,ii s.b,.bool true,vc,vt,v])::l) 0 M):=(hp_of rfl).weak fun i hi _=>by
  simp only[oldK,List.mem_cons] at hi ⊢
  rcases hi with rfl|hi
  ·exact Or.inl rfl
  ·exact Or.inl (hl i hi)
 have nr:∀{v e C M},Own mR M v e C->∀i∈ids v,i∉ [r]:=fun hv i hi hs=>by
  simp only[List.mem_cons,List.not_mem_nil,or_false] at hs;subst hs;exact hv.new _ hi h.oR
 obtain ⟨D,t1,t2,t3⟩:=h.tt
 have hst:Stays (TP mR vc vt) M (hp ((.o r,.cells true [vl,ii s.a,ii s.e,ii s.b,.bool true,vc,vt,v])::l) 0 M):=Stays.of hC fun i hi hs=>by
  simp only[List.mem_cons,List.not_mem_nil,or_false] at hs;subst hs;exact hi.1 h.oR
 exact ⟨⟨(h_getO h.hd.o).trans h_lookOs,old_hp h.hd.o⟩,h.cc.chg hC (nr h.cc),⟨D,t1.chg hC (nr t1),t2,fun j x c a b=>by obtain ⟨w,B,e,q⟩:=t3 j x c a b;exact ⟨w,B,e,q.stays hst⟩⟩,⟨C,hb.stays hst⟩,h.dd,fun i hi=>hC.old (h.oo i hi),h.oR⟩
end
section
variable {m0 mR:NH} {L:List Tok} {vl vc vt vr:NV} {r:D4}
theorem top_r (hc:RC m0 L vl r) (h0R:∀i,Old m0 i->Old mR i) {m:NH} {s:Rs} {P:Ps} (h0:Chg [] m0 m) (hp0:PD mR m r vl s P vc vt vr) (ha:s.a<=L.length) (hcs:P.cs.length<=100000) (hts:P.ts.length<=100000):
 ∃m',Ret Try.prog S0 47 [.ptr r 0] m (.tup []) m'/\Chg [] m0 m'/\∃vc' vt' vr',PD mR m' r vl (topF L P s).2 (topF L P s).1 vc' vt' vr':=by
 refine WF.ex1 fun K hK=> ?_
 refine WF.of_wpG (fun _=>rfl) nf47_eq (L:= [(.e,.ptr r 0)]) rfl ?_
 unfold nf47
 have hll:=hc.len
 have hbase:∀{M M':NH},Chg [] m0 M->Chg [r] M M'->Chg [] m0 M':=fun h h'=>hc.chg h h'
 simp (config:={maxSteps:=1000000}) (disch:=(first|assumption|omega|exact old_n (by omega)|exact old_hp (by assumption)|(simp only[nmL]<;>omega))) only[go_sem,seval,hp_nil]
 refine WF.use1H (take_r hc h0 hp0.hd [99,101,108,108] (by simp) (by omega)) ?_
 rintro M1 ⟨hd1,hC1⟩
 unfold topF at hK
 cases hb:takeB L [99,101,108,108] s with
 |true=>
  rw[hb,if_pos rfl] at hd1 hK
  have hlt:=(takeB_lt hb).2
  have hp1:=hp0.call hC1 hd1
  have h01:=hbase h0 hC1
  simp (config:={maxSteps:=1000000}) (disch:=(first|assumption|omega|exact old_n (by omega)|exact old_hp (by assumption)|(simp only[nmL]<;>omega))) only[go_sem,seval,hp_nil]
  refine WF.use1H (name_r hc h01 hp1.hd (by have:(nextR s).a=s.a+1:=rfl;omega)) ?_
  rintro M2 ⟨hd2,hC2⟩
  have hp2:=hp1.call hC2 hd2
  have h02:=hbase h01 hC2
  have hlim2:=(st_name L (nextR s)).lim hlt
  unfold cellF at hK
  generalize nameR L (nextR s)=q at hd2 hp2 hlim2 hK
  obtain ⟨n,s2⟩:=q
  dsimp only at hd2 hp2 hlim2 hK
  simp (config:={maxSteps:=1000000}) (disch:=(first|assumption|omega|exact old_n (by omega)|exact old_hp (by assumption)|(simp only[nmL]<;>omega))) only[go_sem,seval]
  generalize hM3:hp _ 1 M2=M3
  have hC3:Chg [] M2 M3:=by rw[←hM3];exact hp_of rfl
  have hg3:M3.get (na M2 0)=some (.cells true [.str n,ii 1]):=by rw[←hM3];exact h_getN
  have ho3:Old M3 (na M2 0):=by rw[←hM3];exact old_n (by omega)
  have hp3:=hp2.grow hC3
  have h03:=h02.trans hC3 (by simp)
  refine WF.use1H (take_r hc h03 hp3.hd [91] (by simp) (by omega)) ?_
  rintro M4 ⟨hd4,hC4⟩
  have hr2:na M2 0≠r:=fun e=>hp2.hd.o.ne 0 e.symm
  have hp4:=hp3.call hC4 hd4
  have h04:=hbase h03 hC4
  have hg4:=(hC4.get ho3 (by simpa using hr2)).trans hg3
  have ho4:=hC4.old ho3
  cases hb4:takeB L [91] s2 with
  |true=>
   rw[hb4,if_pos rfl] at hK hd4
   have hlt4:=(takeB_lt hb4).2
   have he4:=(takeB_lt hb4).1
   have hC24:Chg [r] M2 M4:=(hC3.weak (by simp)).trans hC4 fun _ h _=>h
   have hp4:=hp2.call hC24 hd4
   simp (config:={maxSteps:=1000000}) (disch:=(first|assumption|omega|exact old_n (by omega)|exact old_hp (by assumption)|(simp only[nmL]<;>omega))) only[go_sem,seval,hp_nil]
   refine WF.use1H (now_r hc h04 hp4.hd) ?_
   intro M5 hC5
   have hC25:Chg [r] M2 M5:=hC24.trans hC5 (by simp)
   have hp5:=hp4.grow hC5
   have h05:=h04.trans hC5 (by simp)
   have hg5:=(hC5.get ho4 (by simp)).trans hg4
   have ho5:=hC5.old ho4
   have hl:(Tok.l (nowT L (nextR s2).a)).length=4:=rfl
   have hdg:=hp5.hd.g
   have hdo:=hp5.hd.o
   have he5:(nextR s2).e=0:=he4
   have hlim5:(nextR s2).a<=L.length:=hlt4
   have hst:1<=(nowT L (nextR s2).a).k/\(nowT L (nextR s2).a).k<=4->St L (nextR s2) (nextR (nextR s2)):=fun h=>st_next (now_lt (by omega)) he5 h
   generalize hT:nowT L (nextR s2).a=T at hK hl hst
   generalize hs3:nextR s2=s3 at hK hp5 hdg he5 hlim5 hst
   have rest:∀{M6:NH} {s6:Rs} {z:Int},Chg [r] M2 M6->RD M6 r vl s6 [.bool P.rd,vc,vt,vr]->s6.a<=L.length->M6.get (na M2 0)=some (.cells true [.str n,ii z])->Old M6 (na M2 0)->
    ∃m',Ret Try.prog S0 87 [.ptr r 0,.str [93]] M6 (.tup []) m'/\PD mR m' r vl (wantR L [93] s6) P vc vt vr/\Chg [] m0 m'/\(wantR L [93] s6).a<=L.length/\m'.get (na M2 0)=some (.cells true [.str n,ii z])/\Old m' (na M2 0):=by
    intro M6 s6 z q1 q2 q3 q4 q5
    obtain ⟨m',w1,w2,w3⟩:=want_r hc (hbase h02 q1) q2 [93] (by simp) (by omega)
    have w4:Chg [r] M2 m':=q1.trans w3 fun _ h _=>h
    exact ⟨m',w1,hp2.call w4 w2,hbase h02 w4,(st_want L [93] s6).lim q3,(w3.get q5 (by simpa using hr2)).trans q4,w3.old q5⟩
   have hr2':r≠na M2 0:=fun e=>hr2 e.symm
   have hbn:∀{l:List (AK×NO)} {k:Nat},(∀i∈oldK l,i=r∨i=na M2 0)->Chg [r] M2 (hp l k M5):=fun hl=>hC25.trans (hp_of rfl) fun i hi ho=>(hl i hi).elim (fun h=>by simp[h]) fun h=>absurd (h▸ho) na_old
   by_cases hk:T.k=2
   ·rw[if_pos hk] at hK
    have hst6:=(hst (by omega)).lim hlim5
    by_cases hn:T.n<1048576
    ·have hz:sizeT T=(T.n:Int):=by unfold sizeT;rw[if_pos hn]
     rw[hz] at hK
     simp (config:={maxSteps:=1000000}) (disch:=(first|assumption|omega|exact old_n (by omega)|exact old_hp (by assumption)|(simp only[nmL]<;>omega))) only[go_sem,seval,hl,tl0,tl2,hdg,hg5]
     generalize hM6:hp _ 1 M5=M6
     have hC26:Chg [r] M2 M6:=by rw[←hM6];exact hbn (by simp[oldK])
     have hd6:RD M6 r vl (nextR s3) [.bool P.rd,vc,vt,vr]:=⟨by rw[←hM6];exact (h_getO hdo).trans h_lookOs,by rw[←hM6];exact old_hp hdo⟩
     have hg6:M6.get (na M2 0)=some (.cells true [.str n,ii T.n]):=by rw[←hM6];exact (h_getO ho5).trans ((h_lookOo hr2).trans h_lookOs)
     have ho6:Old M6 (na M2 0):=by rw[←hM6];exact old_hp ho5
     refine WF.use1 (rest hC26 hd6 hst6 hg6 ho6) ?_
     rintro M7 ⟨hp7,h07,hlim7,hg7,ho7⟩
     simp (config:={maxSteps:=1000000}) (disch:=(first|assumption|omega|exact old_n (by omega)|exact old_hp (by assumption)|(simp only[nmL]<;>omega))) only[go_sem,seval]
     refine WF.use1H (want_r hc h07 hp7.hd [59] (by simp) (by omega)) ?_
     rintro M5 ⟨hd5,hC5⟩
     have hp5:=hp7.call hC5 hd5
     have h05:=hbase h07 hC5
     have hg5:=(hC5.get ho7 (by simpa using hr2)).trans hg7
     have ho5:=hC5.old ho7
     have hdg:=hp5.hd.g
     have hdo:=hp5.hd.o
     have hcl:=hp5.cc.sl.one
     have hcs':=hp5.cc.sl.same (n:=3)
     simp (config:={maxSteps:=1000000}) (disch:=(first|assumption|omega|exact old_n (by omega)|exact old_hp (by assumption)|(simp only[nmL]<;>omega))) only[go_sem,seval,hg5,hdg,hcl,hcs']
     have hC6:Chg [] M5 (hp [(.n 0,.cells true [.str n,ii T.n])] 1 M5):=hp_of rfl
     refine wNE_app2 (cs:= [.str n,ii T.n]) (B:=mR) (hp5.cc.chg hC6 fun _ _=>by simp) h_getN (old_n (by omega)) rfl (fun i hi=>hC6.old (hp5.oo i hi)) (by simp;omega) (by simp;omega) ?_
     intro v6 M6 hv6 hC7 hF6
     have hg6:=(hC7.get (hC6.old hdo) (fun h=>hp5.cc.new _ h hp5.oR)).trans ((hC6.get hdo (by simp)).trans hdg)
     have ho6:=hC7.old (hC6.old hdo)
     have hPD:=pd_cell (c:=(n,(T.n:Int))) hp5 hC6 hv6 hC7 hF6
     simp (config:={maxSteps:=1000000}) (disch:=(first|assumption|omega|exact old_n (by omega)|exact old_hp (by assumption)|(simp only[nmL]<;>omega))) only[go_sem,seval,hg6,hv6.sl.one]
     refine hK _ ⟨?_,v6,vt,vr,hPD⟩
     refine ((h05.trans hC6 (by simp)).trans hC7 fun i hi ho=>absurd (h0R i ho) (hp5.cc.new i hi)).trans (hp_of rfl) fun i hi ho=> ?_
     simp only[oldK,List.mem_cons,List.not_mem_nil,or_false] at hi
     subst hi;exact absurd ho hc.no
    ·have hz:sizeT T=1048576:=by unfold sizeT;rw[if_neg hn]
     rw[hz] at hK
     simp (config:={maxSteps:=1000000}) (disch:=(first|assumption|omega|exact old_n (by omega)|exact old_hp (by assumption)|(simp only[nmL]<;>omega))) only[go_sem,seval,hl,tl0,tl2,hdg,hg5]
     generalize hM6:hp _ 1 M5=M6
     have hC26:Chg [r] M2 M6:=by rw[←hM6];exact hbn (by simp[oldK])
     have hd6:RD M6 r vl (nextR s3) [.bool P.rd,vc,vt,vr]:=⟨by rw[←hM6];exact (h_getO hdo).trans h_lookOs,by rw[←hM6];exact old_hp hdo⟩
     have hg6:M6.get (na M2 0)=some (.cells true [.str n,ii 1048576]):=by rw[←hM6];exact (h_getO ho5).trans ((h_lookOo hr2).trans h_lookOs)
     have ho6:Old M6 (na M2 0):=by rw[←hM6];exact old_hp ho5
     refine WF.use1 (rest hC26 hd6 hst6 hg6 ho6) ?_
     rintro M7 ⟨hp7,h07,hlim7,hg7,ho7⟩
     simp (config:={maxSteps:=1000000}) (disch:=(first|assumption|omega|exact old_n (by omega)|exact old_hp (by assumption)|(simp only[nmL]<;>omega))) only[go_sem,seval]
     refine WF.use1H (want_r hc h07 hp7.hd [59] (by simp) (by omega)) ?_
     rintro M5 ⟨hd5,hC5⟩
     have hp5:=hp7.call hC5 hd5
     have h05:=hbase h07 hC5
     have hg5:=(hC5.get ho7 (by simpa using hr2)).trans hg7
     have ho5:=hC5.old ho7
     have hdg:=hp5.hd.g
     have hdo:=hp5.hd.o
     have hcl:=hp5.cc.sl.one
     have hcs':=hp5.cc.sl.same (n:=3)
     simp (config:={maxSteps:=1000000}) (disch:=(first|assumption|omega|exact old_n (by omega)|exact old_hp (by assumption)|(simp only[nmL]<;>omega))) only[go_sem,seval,hg5,hdg,hcl,hcs']
     have hC6:Chg [] M5 (hp [(.n 0,.cells true [.str n,ii 1048576])] 1 M5):=hp_of rfl
     refine wNE_app2 (cs:= [.str n,ii 1048576]) (B:=mR) (hp5.cc.chg hC6 fun _ _=>by simp) h_getN (old_n (by omega)) rfl (fun i hi=>hC6.old (hp5.oo i hi)) (by simp;omega) (by simp;omega) ?_
     intro v6 M6 hv6 hC7 hF6
     have hg6:=(hC7.get (hC6.old hdo) (fun h=>hp5.cc.new _ h hp5.oR)).trans ((hC6.get hdo (by simp)).trans hdg)
     have ho6:=hC7.old (hC6.old hdo)
     have hPD:=pd_cell (c:=(n,1048576)) hp5 hC6 hv6 hC7 hF6
     simp (config:={maxSteps:=1000000}) (disch:=(first|assumption|omega|exact old_n (by omega)|exact old_hp (by assumption)|(simp only[nmL]<;>omega))) only[go_sem,seval,hg6,hv6.sl.one]
     refine hK _ ⟨?_,v6,vt,vr,hPD⟩
     refine ((h05.trans hC6 (by simp)).trans hC7 fun i hi ho=>absurd (h0R i ho) (hp5.cc.new i hi)).trans (hp_of rfl) fun i hi ho=> ?_
     simp only[oldK,List.mem_cons,List.not_mem_nil,or_false] at hi
     subst hi;exact absurd ho hc.no
   ·rw[if_neg hk] at hK
    simp (config:={maxSteps:=1000000}) (disch:=(first|assumption|omega|exact old_n (by omega)|exact old_hp (by assumption)|(simp only[nmL]<;>omega))) only[go_sem,seval,hl,tl0,tl2,hdg,hg5]
    generalize hM6:hp _ 1 M5=M6
    have hC6:Chg [] M5 M6:=by rw[←hM6];exact hp_of rfl
    refine WF.use1 (fail_r (hp5.grow hC6).hd 2) ?_
    rintro M6' ⟨hd6,hC6'⟩
    have hC26:Chg [r] M2 M6':=(hC25.trans hC6 (by simp)).trans hC6' fun _ h _=>h
    have hg6:=(hC6'.get (hC6.old ho5) (by simpa using hr2)).trans ((hC6.get ho5 (by simp)).trans hg5)
    have ho6:=hC6'.old (hC6.old ho5)
    simp (config:={maxSteps:=1000000}) (disch:=(first|assumption|omega|exact old_n (by omega)|exact old_hp (by assumption)|(simp only[nmL]<;>omega))) only[go_sem,seval]
    refine WF.use1 (rest hC26 hd6 ((st_fail L 2 s3).lim hlim5) hg6 ho6) ?_
    rintro M7 ⟨hp7,h07,hlim7,hg7,ho7⟩
    simp (config:={maxSteps:=1000000}) (disch:=(first|assumption|omega|exact old_n (by omega)|exact old_hp (by assumption)|(simp only[nmL]<;>omega))) only[go_sem,seval]
    refine WF.use1H (want_r hc h07 hp7.hd [59] (by simp) (by omega)) ?_
    rintro M5 ⟨hd5,hC5⟩
    have hp5:=hp7.call hC5 hd5
    have h05:=hbase h07 hC5
    have hg5:=(hC5.get ho7 (by simpa using hr2)).trans hg7
    have ho5:=hC5.old ho7
    have hdg:=hp5.hd.g
    have hdo:=hp5.hd.o
    have hcl:=hp5.cc.sl.one
    have hcs':=hp5.cc.sl.same (n:=3)
    simp (config:={maxSteps:=1000000}) (disch:=(first|assumption|omega|exact old_n (by omega)|exact old_hp (by assumption)|(simp only[nmL]<;>omega))) only[go_sem,seval,hg5,hdg,hcl,hcs']
    have hC6:Chg [] M5 (hp [(.n 0,.cells true [.str n,ii 1])] 1 M5):=hp_of rfl
    refine wNE_app2 (cs:= [.str n,ii 1]) (B:=mR) (hp5.cc.chg hC6 fun _ _=>by simp) h_getN (old_n (by omega)) rfl (fun i hi=>hC6.old (hp5.oo i hi)) (by simp;omega) (by simp;omega) ?_
    intro v6 M6 hv6 hC7 hF6
    have hg6:=(hC7.get (hC6.old hdo) (fun h=>hp5.cc.new _ h hp5.oR)).trans ((hC6.get hdo (by simp)).trans hdg)
    have ho6:=hC7.old (hC6.old hdo)
    have hPD:=pd_cell (c:=(n,1)) hp5 hC6 hv6 hC7 hF6
    simp (config:={maxSteps:=1000000}) (disch:=(first|assumption|omega|exact old_n (by omega)|exact old_hp (by assumption)|(simp only[nmL]<;>omega))) only[go_sem,seval,hg6,hv6.sl.one]
    refine hK _ ⟨?_,v6,vt,vr,hPD⟩
    refine ((h05.trans hC6 (by simp)).trans hC7 fun i hi ho=>absurd (h0R i ho) (hp5.cc.new i hi)).trans (hp_of rfl) fun i hi ho=> ?_
    simp only[oldK,List.mem_cons,List.not_mem_nil,or_false] at hi
    subst hi;exact absurd ho hc.no
  |false=>
   rw[hb4,if_neg Bool.false_ne_true] at hK hd4
   have hp4:=hp3.call hC4 hd4
   simp (config:={maxSteps:=1000000}) (disch:=(first|assumption|omega|exact old_n (by omega)|exact old_hp (by assumption)|(simp only[nmL]<;>omega))) only[go_sem,seval,hp_nil]
   refine WF.use1H (want_r hc h04 hp4.hd [59] (by simp) (by omega)) ?_
   rintro M5 ⟨hd5,hC5⟩
   have hp5:=hp4.call hC5 hd5
   have h05:=hbase h04 hC5
   have hg5:=(hC5.get ho4 (by simpa using hr2)).trans hg4
   have ho5:=hC5.old ho4
   have hdg:=hp5.hd.g
   have hdo:=hp5.hd.o
   have hcl:=hp5.cc.sl.one
   have hcs':=hp5.cc.sl.same (n:=3)
   simp (config:={maxSteps:=1000000}) (disch:=(first|assumption|omega|exact old_n (by omega)|exact old_hp (by assumption)|(simp only[nmL]<;>omega))) only[go_sem,seval,hg5,hdg,hcl,hcs']
   have hC6:Chg [] M5 (hp [(.n 0,.cells true [.str n,ii 1])] 1 M5):=hp_of rfl
   refine wNE_app2 (cs:= [.str n,ii 1]) (B:=mR) (hp5.cc.chg hC6 fun _ _=>by simp) h_getN (old_n (by omega)) rfl (fun i hi=>hC6.old (hp5.oo i hi)) (by simp;omega) (by simp;omega) ?_
   intro v6 M6 hv6 hC7 hF6
   have hg6:=(hC7.get (hC6.old hdo) (fun h=>hp5.cc.new _ h hp5.oR)).trans ((hC6.get hdo (by simp)).trans hdg)
   have ho6:=hC7.old (hC6.old hdo)
   have hPD:=pd_cell (c:=(n,1)) hp5 hC6 hv6 hC7 hF6
   simp (config:={maxSteps:=1000000}) (disch:=(first|assumption|omega|exact old_n (by omega)|exact old_hp (by assumption)|(simp only[nmL]<;>omega))) only[go_sem,seval,hg6,hv6.sl.one]
   refine hK _ ⟨?_,v6,vt,vr,hPD⟩
   refine ((h05.trans hC6 (by simp)).trans hC7 fun i hi ho=>absurd (h0R i ho) (hp5.cc.new i hi)).trans (hp_of rfl) fun i hi ho=> ?_
   simp only[oldK,List.mem_cons,List.not_mem_nil,or_false] at hi
   subst hi;exact absurd ho hc.no
 |false=>
  have ne1:¬(takeB L [99,101,108,108] s=true):=by rw[hb];exact Bool.false_ne_true
  rw[hb,if_neg Bool.false_ne_true] at hd1
  rw[if_neg ne1] at hK
  have hp1:=hp0.call hC1 hd1
  have h01:=hbase h0 hC1
  simp (config:={maxSteps:=1000000}) (disch:=(first|assumption|omega|exact old_n (by omega)|exact old_hp (by assumption)|(simp only[nmL]<;>omega))) only[go_sem,seval,hp_nil]
  refine WF.use1H (take_r hc h01 hp1.hd [116,104,114,101,97,100] (by simp) (by omega)) ?_
  rintro M2 ⟨hd2,hC2⟩
  have h02:=hbase h01 hC2
  have tpw:∀{M:NH},PD mR M r vl s P vc vt vr->True:=fun _=>trivial
  cases hb2:takeB L [116,104,114,101,97,100] s with
  |true=>
   rw[hb2,if_pos rfl] at hd2 hK
   have hlt:=(takeB_lt hb2).2
   have hp2:=hp1.call hC2 hd2
   simp (config:={maxSteps:=1000000}) (disch:=(first|assumption|omega|exact old_n (by omega)|exact old_hp (by assumption)|(simp only[nmL]<;>omega))) only[go_sem,seval,hp_nil]
   refine WF.use1H (name_r hc h02 hp2.hd (by have:(nextR s).a=s.a+1:=rfl;omega)) ?_
   rintro M3 ⟨hd3,hC3⟩
   have hp3:=hp2.call hC3 hd3
   have h03:=hbase h02 hC3
   have hlim3:=(st_name L (nextR s)).lim hlt
   unfold threadF at hK
   generalize nameR L (nextR s)=q at hd3 hp3 hlim3 hK
   obtain ⟨n,s3⟩:=q
   dsimp only at hd3 hp3 hlim3 hK
   simp (config:={maxSteps:=1000000}) (disch:=(first|assumption|omega|exact old_n (by omega)|exact old_hp (by assumption)|(simp only[nmL]<;>omega))) only[go_sem,seval]
   generalize hM4:hp _ 1 M3=M4
   have hC4:Chg [] M3 M4:=by rw[←hM4];exact hp_of rfl
   have hg4:M4.get (na M3 0)=some (.cells true [.str n,.nils]):=by rw[←hM4];exact h_getN
   have ho4:Old M4 (na M3 0):=by rw[←hM4];exact old_n (by omega)
   have hr3:na M3 0≠r:=fun e=>hp3.hd.o.ne 0 e.symm
   have hp4:=hp3.grow hC4
   have h04:=h03.trans hC4 (by simp)
   refine WF.useH (body_r hc 30 (Nat.le_refl _) h04 hp4.hd hlim3) ?_
   rintro v5 M5 ⟨⟨C5,hb5⟩,hd5,hC5⟩
   generalize bodyN L 30 s3=q at hb5 hd5 hK
   obtain ⟨b,s5⟩:=q
   dsimp only at hb5 hd5 hK
   have hg5:=(hC5.get ho4 (by simpa using hr3)).trans hg4
   have ho5:=hC5.old ho4
   have hC35:Chg [r] M3 M5:=(hC4.weak (by simp)).trans hC5 fun _ h _=>h
   have hp5:=hp3.call hC35 hd5
   have hdg:=hp5.hd.g
   have hdo:=hp5.hd.o
   obtain ⟨CT,t1,t2,-⟩:=hp5.tt
   have hcl:=t1.sl.one
   have hcs':=t1.sl.same (n:=3)
   have hr3':r≠na M3 0:=fun e=>hr3 e.symm
   obtain ⟨CT4,t41,-,-⟩:=hp4.tt
   have hbT:SS M5 (fun i=>TP mR vc vt i/\i≠na M3 0) v5 b C5:=hb5.weak fun i hi=>⟨⟨fun h=>hi (hp4.oo i h),fun h=>hi (hp4.cc.sl.old i h),fun h=>hi (t41.sl.old i h)⟩,fun h=>hi (h▸ho4)⟩
   simp (config:={maxSteps:=1000000}) (disch:=(first|assumption|omega|exact old_n (by omega)|exact old_hp (by assumption)|(simp only[nmL]<;>omega))) only[go_sem,seval,hg5,hdg,hb5.sl.one,hcl,hcs']
   have hCb:Chg [na M3 0] M5 (hp [(.n 0,.cells true [.str n,v5]),(.o (na M3 0),.cells true [.str n,v5])] 1 M5):=hp_of rfl
   have hxb:(hp [(.n 0,.cells true [.str n,v5]),(.o (na M3 0),.cells true [.str n,v5])] 1 M5).get (na M5 0)=some (.cells true [.str n,v5]):=h_getN
   have hob:Old (hp [(.n 0,.cells true [.str n,v5]),(.o (na M3 0),.cells true [.str n,v5])] 1 M5) (na M5 0):=old_n (by omega)
   generalize hp [(.n 0,.cells true [.str n,v5]),(.o (na M3 0),.cells true [.str n,v5])] 1 M5=Mb at hCb hxb hob ⊢
   have hCb3:Chg [r] M3 Mb:=hC35.trans hCb fun i hi ho=>by
    simp only[List.mem_cons,List.not_mem_nil,or_false] at hi;subst hi;exact absurd ho na_old
   have hpb:=hp3.call hCb3 (hd5.chg hCb (by simpa using hr3'))
   have h0b:=hbase h03 hCb3
   have hbb:SS Mb (TP mR vc vt) v5 b C5:=(hbT.stays (Stays.of hCb fun i hi hs=>by
    simp only[List.mem_cons,List.not_mem_nil,or_false] at hs;exact hi.2 hs)).weak fun i hi=>hi.1
   obtain ⟨CTb,tb1,tb2,tb3⟩:=hpb.tt
   have hdgb:=hpb.hd.g
   have hdob:=hpb.hd.o
   refine wNE_app2 (cs:= [.str n,v5]) (B:=mR) tb1 hxb hob rfl (fun i hi=>hpb.oo i hi) (by omega) (by omega) ?_
   intro v6 M6 hv6 hC7 hF6
   have hg6:=(hC7.get hdob (fun h=>tb1.new _ h hpb.oR)).trans hdgb
   have ho6:=hC7.old hdob
   have hPD:=pd_thread (n:=n) hpb hbb tb1 tb2 tb3 hv6 hC7 hF6
   simp (config:={maxSteps:=1000000}) (disch:=(first|assumption|omega|exact old_n (by omega)|exact old_hp (by assumption)|(simp only[nmL]<;>omega))) only[go_sem,seval,hg6,hv6.sl.one]
   refine hK _ ⟨?_,vc,v6,vr,hPD⟩
   refine (h0b.trans hC7 fun i hi ho=>absurd (h0R i ho) (tb1.new i hi)).trans (hp_of rfl) fun i hi ho=> ?_
   simp only[oldK,List.mem_cons,List.not_mem_nil,or_false] at hi
   subst hi;exact absurd ho hc.no
  |false=>
   have ne2:¬(takeB L [116,104,114,101,97,100] s=true):=by rw[hb2];exact Bool.false_ne_true
   rw[hb2,if_neg Bool.false_ne_true] at hd2
   rw[if_neg ne2] at hK
   have hp2:=hp1.call hC2 hd2
   have hdg:=hp2.hd.g
   have hl0:(nowT L s.a).l[0]? =some (ii (nowT L s.a).k):=rfl
   have hl1:(nowT L s.a).l[1]? =some (.str (nowT L s.a).t):=rfl
   unfold recF at hK
   have fin:∀{M:NH},PD mR M r vl (twiceR L P.rd s) P vc vt vr->Chg [] m0 M->∃m',Ret Try.prog S0 87 [.ptr r 0,.str recW] M (.tup []) m'/\PD mR m' r vl (wantR L recW (twiceR L P.rd s)) P vc vt vr/\Chg [] m0 m':=by
    intro M q1 q2
    have ha2:(twiceR L P.rd s).a<=100000:=by
     have h1:St L s (twiceR L P.rd s):=by unfold twiceR;split;exact st_fail _ _ _;exact St.refl _ _
     have:=h1.lim ha
     omega
    obtain ⟨m',w1,w2,w3⟩:=want_r hc q2 q1.hd recW (by simp) ha2
    exact ⟨m',w1,q1.call w3 w2,hbase q2 w3⟩
   have hst3:(wantR L recW (twiceR L P.rd s)).a<=L.length:=by
    have h1:St L s (twiceR L P.rd s):=by unfold twiceR;split;exact st_fail _ _ _;exact St.refl _ _
    exact (h1.trans (st_want _ _ _)).lim ha
   have fin2:∀{M:NH},PD mR M r vl (wantR L recW (twiceR L P.rd s)) P vc vt vr->Chg [] m0 M->PD mR (hp [(.o r,.cells true [vl,ii (wantR L recW (twiceR L P.rd s)).a,ii (wantR L recW (twiceR L P.rd s)).e,ii (wantR L recW (twiceR L P.rd s)).b,.bool true,vc,vt,vr])] 0 M) r vl (wantR L recW (twiceR L P.rd s)) ⟨P.cs,P.ts,P.rc,true⟩ vc vt vr/\Chg [] m0 (hp [(.o r,.cells true [vl,ii (wantR L recW (twiceR L P.rd s)).a,ii (wantR L recW (twiceR L P.rd s)).e,ii (wantR L recW (twiceR L P.rd s)).b,.bool true,vc,vt,vr])] 0 M):=by
    intro M q1 q2
    obtain ⟨C,q3⟩:=q1.rr
    exact ⟨pd_rec q1 q3 (by simp[oldK]),hbase q2 (hp_of rfl)⟩
   have fin3:∀{M:NH},PD mR M r vl (wantR L recW (twiceR L P.rd s)) ⟨P.cs,P.ts,P.rc,true⟩ vc vt vr->Chg [] m0 M->∃v m',Ret Try.prog S0 88 [.ptr r 0,ii 0] M v m'/\cellsOf v=some [v]/\m'.get r=some (.cells true [vl,ii (bodyN L 30 (wantR L recW (twiceR L P.rd s))).2.a,ii (bodyN L 30 (wantR L recW (twiceR L P.rd s))).2.e,ii (bodyN L 30 (wantR L recW (twiceR L P.rd s))).2.b,.bool true,vc,vt,vr])/\Old m' r/\
    K (.tup []) (hp [(.o r,.cells true [vl,ii (bodyN L 30 (wantR L recW (twiceR L P.rd s))).2.a,ii (bodyN L 30 (wantR L recW (twiceR L P.rd s))).2.e,ii (bodyN L 30 (wantR L recW (twiceR L P.rd s))).2.b,.bool true,vc,vt,v])] 0 m'):=by
    intro M q1 q2
    obtain ⟨v,m',w1,⟨C,w2⟩,w3,w4⟩:=body_r hc 30 (Nat.le_refl _) q2 q1.hd hst3
    have q3:=q1.call w4 w3
    obtain ⟨CT,t1,-,-⟩:=q1.tt
    have w5:SS m' (TP mR vc vt) v (bodyN L 30 (wantR L recW (twiceR L P.rd s))).1 C:=w2.weak fun i hi=>⟨fun h=>hi (q1.oo i h),fun h=>hi (q1.cc.sl.old i h),fun h=>hi (t1.sl.old i h)⟩
    refine ⟨v,m',w1,w2.sl.one,w3.g,w3.o,hK _ ⟨(hbase q2 w4).trans (hp_of rfl) fun i hi ho=> ?_,vc,vt,v,pd_rec q3 w5 (by simp[oldK])⟩⟩
    simp only[oldK,List.mem_cons,List.not_mem_nil,or_false] at hi
    subst hi;exact absurd ho hc.no
   have no:∀{M},PD mR M r vl s P vc vt vr->¬(P.rd=true/\(nowT L s.a).k=4/\(nowT L s.a).t=recW)->PD mR M r vl (twiceR L P.rd s) P vc vt vr:=fun h q=>by rw[twiceR,if_neg q];exact h
   cases hrd:P.rd with
   |false=>
    rw[hrd] at hdg
    simp (config:={maxSteps:=1000000}) (disch:=(first|assumption|omega|exact old_n (by omega)|exact old_hp (by assumption)|(simp only[nmL]<;>omega))) only[go_sem,seval,hdg,hp_nil]
    refine WF.use1H (fin (no hp2 (by rw[hrd];simp)) h02) ?_
    rintro M7 ⟨hp7,h07⟩
    have hdg7:=hp7.hd.g
    have hdo7:=hp7.hd.o
    obtain ⟨hp8,h08⟩:=fin2 hp7 h07
    obtain ⟨v9,M9,hr9,hv9,hg9,ho9,hK9⟩:=fin3 hp8 h08
    simp (config:={maxSteps:=1000000}) (disch:=(first|assumption|omega|exact old_n (by omega)|exact old_hp (by assumption)|(simp only[nmL]<;>omega))) only[go_sem,seval,hdg7,hr9.wf,hv9,hg9]
    exact hK9
   |true=>
    rw[hrd] at hdg
    obtain ⟨M3,hr3,hC3⟩:=now_r hc h02 hp2.hd
    have hp3:=hp2.grow hC3
    have h03:=h02.trans hC3 (by simp)
    obtain ⟨M4,hr4,hC4⟩:=now_r hc h03 hp3.hd
    have hp4:=hp3.grow hC4
    have h04:=h03.trans hC4 (by simp)
    by_cases hk:(nowT L s.a).k=4
    ·by_cases ht:(nowT L s.a).t=recW
     ·simp (config:={maxSteps:=1000000}) (disch:=(first|assumption|omega|exact old_n (by omega)|exact old_hp (by assumption)|(simp only[nmL]<;>omega))) only[go_sem,seval,hdg,hr3.wf',hr4.wf',hl0,hl1,hp_nil]
      refine WF.use1 (fail_r hp4.hd 5) ?_
      rintro M5 ⟨hd5,hC5⟩
      have hp5:=hp4.call hC5 hd5
      have e5:twiceR L P.rd s=failR 5 s:=by rw[twiceR,if_pos ⟨hrd,hk,ht⟩]
      simp (config:={maxSteps:=1000000}) (disch:=(first|assumption|omega|exact old_n (by omega)|exact old_hp (by assumption)|(simp only[nmL]<;>omega))) only[go_sem,seval]
      refine WF.use1H (fin (by rw[e5];exact hp5) (hbase h04 hC5)) ?_
      rintro M7 ⟨hp7,h07⟩
      have hdg7:=hp7.hd.g
      have hdo7:=hp7.hd.o
      obtain ⟨hp8,h08⟩:=fin2 hp7 h07
      obtain ⟨v9,M9,hr9,hv9,hg9,ho9,hK9⟩:=fin3 hp8 h08
      simp (config:={maxSteps:=1000000}) (disch:=(first|assumption|omega|exact old_n (by omega)|exact old_hp (by assumption)|(simp only[nmL]<;>omega))) only[go_sem,seval,hdg7,hr9.wf,hv9,hg9]
      exact hK9
     ·simp (config:={maxSteps:=1000000}) (disch:=(first|assumption|omega|exact old_n (by omega)|exact old_hp (by assumption)|(simp only[nmL]<;>omega))) only[go_sem,seval,hdg,hr3.wf',hr4.wf',hl0,hl1,hp_nil]
      refine WF.use1H (fin (no hp4 fun h=>ht h.2.2) h04) ?_
      rintro M7 ⟨hp7,h07⟩
      have hdg7:=hp7.hd.g
      have hdo7:=hp7.hd.o
      obtain ⟨hp8,h08⟩:=fin2 hp7 h07
      obtain ⟨v9,M9,hr9,hv9,hg9,ho9,hK9⟩:=fin3 hp8 h08
      simp (config:={maxSteps:=1000000}) (disch:=(first|assumption|omega|exact old_n (by omega)|exact old_hp (by assumption)|(simp only[nmL]<;>omega))) only[go_sem,seval,hdg7,hr9.wf,hv9,hg9]
      exact hK9
    ·simp (config:={maxSteps:=1000000}) (disch:=(first|assumption|omega|exact old_n (by omega)|exact old_hp (by assumption)|(simp only[nmL]<;>omega))) only[go_sem,seval,hdg,hr3.wf',hr4.wf',hl0,hl1,hp_nil]
     refine WF.use1H (fin (no hp3 fun h=>hk h.2.1) h03) ?_
     rintro M7 ⟨hp7,h07⟩
     have hdg7:=hp7.hd.g
     have hdo7:=hp7.hd.o
     obtain ⟨hp8,h08⟩:=fin2 hp7 h07
     obtain ⟨v9,M9,hr9,hv9,hg9,ho9,hK9⟩:=fin3 hp8 h08
     simp (config:={maxSteps:=1000000}) (disch:=(first|assumption|omega|exact old_n (by omega)|exact old_hp (by assumption)|(simp only[nmL]<;>omega))) only[go_sem,seval,hdg7,hr9.wf,hv9,hg9]
     exact hK9
end
end FR
