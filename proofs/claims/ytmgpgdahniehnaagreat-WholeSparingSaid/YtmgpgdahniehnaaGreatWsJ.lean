/- WholeSparing on the given program: part 10. -/
import Derived.Shelf.Abstract
import Derived.Test.YtmgpgdahniehnaaGreatRows
import Derived.Test.YtmgpgdahniehnaaGreatChecked
import Derived.OpenShut
import Derived.ProofKit
import Derived.ChangeShapes
import Derived.Test.YtmgpgdahniehnaaGreatWsI
set_option linter.unusedSimpArgs false
set_option linter.unusedVariables false
set_option linter.unusedSectionVars false
set_option linter.defProp false
noncomputable section
open Go Nm Go.Proofs
namespace FR
variable {n:Nat}
theorem Yf (n:Nat) (hn:n<21) (el:Bool):ix ((cT n).fl.el [el]) 8=some (wT n el):=by
 by_cases h0:n<8
 ·have h:=Xr (n - 0) (by omega) el
  grind
 by_cases h8:n<12
 ·have h:=U8 (n - 8) (by omega) el
  grind
 by_cases h12:n<15
 ·have h:=QA (n - 12) (by omega) el
  grind
 by_cases h15:n<17
 ·have h:=QN (n - 15) (by omega) el
  grind
 by_cases h17:n<18
 ·have h:=Q9 (n - 17) (by omega) el
  grind
 by_cases h18:n<19
 ·have h:=Tv (n - 18) (by omega) el
  grind
 by_cases h19:n<20
 ·have h:=SL (n - 19) (by omega) el
  grind
 by_cases h20:n<21
 ·have h:=Sh (n - 20) (by omega) el
  grind
 omega
def Za (o:Option Iw):Bool:=match o with|some i=> !KR i|none=>false
def X7 (w:Nat):Bool:=Za (oV w)&&decide (w<4294967296)
theorem SX {N k:Nat} {r:Bool}:∀{o:Option Iw},Za o=true->IR N k o r=r
 |none,h=>by cases h
 |some i,h=>by
  have h:(!KR i)=true:=h
  unfold IR
  grind
theorem Zp {w:Nat} (h:X7 w=true):Za (oV w)=true:=(ab6 _ _▸(show (Za (oV w)&&decide (w<4294967296))=true from h)).1
theorem W9 {w:Nat} (h:X7 w=true):w<4294967296:=of_decide_eq_true (ab6 _ _▸(show (Za (oV w)&&decide (w<4294967296))=true from h)).2
theorem Rd (N:Nat) (l:List Nat):∀(k:Nat),(∀w∈l,X7 w=true)->BU N k l=true:=by
 induction l with
 |nil=>exact λ_ _=>rfl
 |cons w l ih=>
  intro k h
  exact (SX (Zp (h w ab2))).trans (by grind)
theorem Px:∀el,∀w∈ldW el++ [3560964096],X7 w=true:=by decide+kernel
theorem Fv  {el:Bool}:∀w∈wT n el,X7 w=true:=by
 intro w hw
 unfold wT at hw
 rw[aa6,List.mem_flatten] at hw
 rcases hw with⟨l,hl,hw⟩|hw
 ·rw[List.eq_of_mem_replicate hl] at hw
  exact Px el w (by simp[hw])
 ·exact Px el w (by grind)
theorem qn (n:Nat) (el:Bool):(wT n el).length=n*(if el then 8 else 10)+2:=by
 unfold wT
 rw[aa5,List.length_flatten,List.map_replicate,List.sum_replicate_nat]
 cases el<;>rfl
theorem Fs:∀n<21,(cT n).st.length<=100000:=by decide+kernel
def tu (n:Nat) (both sp:Bool):Bool:=sp&& !(both&&decide (0<n))
def IA (n:Nat) (both sp:Bool):List (List Nat):= [wT n (tu n both sp),wT (bN both) (tu n both sp)]
theorem UC (both:Bool):bN both<21:=by cases both<;>decide
theorem acq  {both sp:Bool} (hn:n<21):yO (cT 0) [cT n,cT (bN both)] 1 sp=((cT 0).fl.el [sp], [(cT n).fl.el [tu n both sp],(cT (bN both)).fl.el [tu n both sp]]):=by
 unfold yO tu
 cases sp
 ·rw[adE (by simp),Bool.false_and,N4 0 (by decide),N4 n hn,N4 _ (UC both)];rfl
 ·rw[adF rfl,Bool.true_and]
  simp only[ac1,List.map_nil]
  rw[show min 1 16=1 from rfl,Ti n hn both]
  rfl
theorem HA  {both sp:Bool} {r:Int} (hn:n<21) (hr:8<=r):∃p,ImgOk (JN n both) r sp p [3560964096,3560964096] (IA n both sp)/\de p.cs=1:=by
 have h:=Tj n hn both
 unfold ZS at h
 cases hp:(eg (JN n both)).1 with
 |none=>grind
 |some p=>
  rw[hp] at h
  simp only[aad,ab6,decide_eq_true_eq,Bool.not_eq_true',ae8] at h
  obtain⟨⟨⟨⟨⟨⟨⟨⟨h1,h2⟩,h3⟩,h4⟩,h5⟩,h6⟩,h7⟩,h8⟩,h9⟩:=h
  have hdur:uI p sp=((cT 0).fl.el [sp], [(cT n).fl.el [tu n both sp],(cT (bN both)).fl.el [tu n both sp]]):=by
   unfold uI
   rw[h8,h9,h3]
   exact acq hn
  have hR:qZ r=8+(qZ r - 8):=by unfold qZ;omega
  have hw:∀k<21,∀el,ix ((cT k).fl.el [el]) (qZ r)=some (wT k el):=λk hk el=>by
   rw[hR]
   exact Td (Yf k hk el)
  have hb:=UC both
  have l1:=qn n (tu n both sp)
  have l2:=qn (bN both) (tu n both sp)
  have e0:mQ [] [3560964096,3560964096] (IA n both sp)=([2,((2+(wT n (tu n both sp)).length:Nat):Int)], [3560964096,3560964096]++wT n (tu n both sp)++wT (bN both) (tu n both sp)):=by
   unfold IA
   rw[pV,pV]
   unfold mQ
   rw[aa5]
   rfl
  have hok:∀w∈ [3560964096,3560964096]++wT n (tu n both sp)++wT (bN both) (tu n both sp),X7 w=true:=by
   intro w hw
   rw[aa6,aa6] at hw
   rcases hw with (hw|hw)|hw
   ·exact Fv (n:=0) (el:=false) w hw
   ·exact Fv w hw
   ·exact Fv w hw
  refine⟨p,⟨hp,⟨h1,h2⟩,by omega,by omega,h5,h6, ?_, ?_,by omega, ?_, ?_,by simp[IA],by simp[IA],by simp, ?_, ?_, ?_⟩,h7⟩
  ·rw[h9]
   intro x hx
   simp only[adJ,adI,or_false] at hx
   rcases hx with rfl|rfl
   ·exact Fs n hn
   ·exact Fs _ hb
  ·rw[h8];exact Fs 0 (by decide)
  ·rw[hdur];exact hw 0 (by decide) sp
  ·rw[hdur]
   show ou _ [_,_]=_
   rw[wK,wK,hw n hn,hw _ hb]
   rfl
  ·intro w hw
   simp only[IA,adJ,adI,or_false] at hw
   grind
  ·rw[e0];exact λw hw=>W9 (hok w hw)
  ·rw[e0]
   unfold IZ Fp
   rw[Rd _ _ _ hok]
   simp only[GR,aa5,ab4,af0,Bool.and_true,ab6,decide_eq_true_eq]
   omega
def RA (i:Nat):List Nat:=spS++(List.replicate i RU).flatten
theorem ZF (i:Nat):RA i++RU=RA (i+1):=by
 unfold RA
 rw[List.replicate_succ',List.flatten_append,ab1]
 simp
theorem uG (n:Nat) (both sp:Bool):(mQ [] [3560964096,3560964096] (IA n both sp)).2.length=6+(n+bN both)*(if tu n both sp then 8 else 10):=by
 unfold IA
 rw[pV,pV]
 unfold mQ
 simp only[aa5,qn,ab4,af0]
 rw[ad4]
 omega
theorem Vo (n:Nat) (both sp:Bool):(mQ [] [3560964096,3560964096] (IA n both sp)).1.length=2:=by
 rfl
theorem Ut {m:NH} {s:List Nat} (h:s.length<=1099511627776):∃v m',Rf m (.str s)= .mem v m'/\Sl m' v 1 (up s)/\Chg [] m m':=by
 refine⟨_,_,Uq h, ?_,Chg.add m _⟩
 have hl:(up s).flatten.length=(up s).length*1:=eS λy hy=>by
  obtain⟨c,-,rfl⟩:=ab3.1 hy;rfl
 have hb:(up s).length=s.length:=aa0 _
 refine⟨λy hy=>by obtain⟨c,-,rfl⟩:=ab3.1 hy;rfl,Or.inr ⟨m.next,0,s.length,false,_,by rw[hb],NH.get_add_same m _,iA m _,by rw[hl];omega,by rw[List.drop_zero,←hl,ae1]⟩⟩
theorem KG (i:Nat) (h:i<=20):bH .num .mul (ii 2) (ii (i:Nat))=some (ii ((2*i:Nat):Int)):=by
 refine (jy rfl).trans ?_
 show cS .i64 (bM .i64 (xe 2 (i:Int)))=_
 rw[kq,cN,show IntKind.i64.wrap (2*(i:Int))=((2*i:Nat):Int) from by rw[IntKind.wrap_i64];omega,bc]
set_option maxHeartbeats 4000000 in
theorem II {m:NH} (n r:Int) (both:Bool):∃m',rT 6 [ii n,ii r,.bool both] m (.bool true) m'/\Chg [] m m':=by
 refine WF.ex1 λK hK=> ?_
 refine WF.of_wpG (λ_=>rfl) EL (L:= [(.b .e,.bool both),(.a .e,ii r),(.e,ii n)]) rfl ?_
 unfold nf6
 have hal:∀m,rT 35 [] m (.bool true) m:=λm=>pE.kept rfl m
 have hnum:∀m,rT 38 [ii 0] m (ii 0) m:=λm=>by
  have h:∃w m',rT 38 [ii 0] m w m'/\w=ii 0/\m'=m:=by
   refine WF.ex λK' hK'=> ?_
   refine WF.of_wpG (λ_=>rfl) HZ (L:= [(.e,ii 0)]) rfl ?_
   unfold VV
   simp (disch:=first|assumption|omega|(apply aq;omega)|(apply au;assumption)|(simp only[aA]<;>omega)) only[go_sem,seval]
   exact hK' _ _ ⟨rfl,by first|rfl|exact aa _⟩
  grind
 by_cases h0:n<0
 ·simp (disch:=first|assumption|omega|(apply aq;omega)|(apply au;assumption)|(simp only[aA]<;>omega)) only[go_sem,seval,(hal _).wf',h0]
  exact hK _ (by first|exact Chg.refl m|(rw[aa];exact Chg.refl m))
 by_cases h1:20<n
 ·simp (disch:=first|assumption|omega|(apply aq;omega)|(apply au;assumption)|(simp only[aA]<;>omega)) only[go_sem,seval,(hal _).wf',h0,h1]
  exact hK _ (by first|exact Chg.refl m|(rw[aa];exact Chg.refl m))
 by_cases h2:r<8
 ·simp (disch:=first|assumption|omega|(apply aq;omega)|(apply au;assumption)|(simp only[aA]<;>omega)) only[go_sem,seval,(hal _).wf',h0,h1,h2]
  exact hK _ (by first|exact Chg.refl m|(rw[aa];exact Chg.refl m))
 obtain⟨k,rfl⟩:=adL (by omega:0<=n)
 have hk:k<21:=by omega
 simp (disch:=first|assumption|omega|(apply aq;omega)|(apply au;assumption)|(simp only[aA]<;>omega)) only[go_sem,seval,(hal _).wf',h0,h1,h2]
 try rw[aa m]
 refine Nm.W.loop (λf D=>∃t i,D=⟨t, [],none,m⟩/\NT.get D4.e t=some (ii k)/\NT.get D4.e.a t=some (ii r)/\NT.get D4.e.b t=some (.bool both)/\NT.get D4.e.a.f t=some (.str (RA i))/\NT.get D4.e.b.a t=some (ii (i:Nat))/\i+f=k) ?_ k _
  ⟨_,0,rfl,by exact gq rfl,by exact gq rfl,by exact gq rfl,by exact gq rfl,by exact gq rfl,by omega⟩
 rintro f D ⟨t,i,rfl,t0,t1,t2,t3,t4,hif⟩
 apply av
 unfold Kw
 change wp _ _ _ _ ⟨puts [] t, [],none,m⟩ _
 rw[←aa m]
 have hlA:(RA i).length=19+10*i:=by
  unfold RA
  rw[aa5,List.length_flatten,List.map_replicate,List.sum_replicate_nat]
  show 19+i*10=_
  omega
 by_cases hi:i<k
 ·simp (disch:=first|assumption|omega|(apply aq;omega)|(apply au;assumption)|(simp only[aA]<;>omega)) only[go_sem,seval,t0,t3,t4]
  rw[aa m]
  exact⟨f - 1,by omega,_,i+1,rfl,by exact gq t0,by exact gq t1,by exact gq t2,by simp only[go_sem,seval];exact congrArg (λl=>some (NV.str l)) (ZF i),by exact gq rfl,by omega⟩
 ·have hik:i=k:=by omega
  subst hik
  obtain⟨p,hI,hW⟩:=HA (both:=both) (sp:=false) hk (by omega:8<=r)
  obtain⟨p',hI',hW'⟩:=HA (both:=both) (sp:=true) hk (by omega:8<=r)
  have hpp:p'=p:=by
   have a:=hI.pr
   have b:=hI'.pr
   grind
  have hbl:(JN i both).length<=1000000:=by
   have:(JN i both).length=33+10*i+(if both then 10 else 0):=by
    show (RA i++spM++(if both then RU else [])++ [125]).length=_
    rw[aa5,aa5,aa5,hlA]
    cases both<;>simp[spM,RU]<;>omega
   grind
  have hb:∀c∈JN i both,c<256:=by
   intro c hc
   have hq:∀c∈spS++spM++RU++ [125],c<256:=by decide
   have hf:c∈(List.replicate i RU).flatten->c∈RU:=by simp
   apply hq
   unfold JN at hc
   grind
  subst hpp
  obtain⟨v1,m1,q1,s1,C1⟩:=Ut (m:=m) (s:=JN i both) (by omega)
  obtain⟨z2,m2,r2,⟨ve,vc,e2,oe,oc⟩,C2⟩:=tg s1 hbl hb hI
  subst e2
  have c12:=C1.tr C2
  rw[hW] at r2
  generalize hM3:hp [(.n 0,.cells true [ii 1,ii 0,ve,vc]),(.n 0,.cells true [ii 0,ii 0,.nils,.nils])] 1 m2=M3
  have hC3:Chg [] m2 M3:=az hM3 rfl
  have g3:M3.get (na m2 0)=some (.cells true [ii 1,ii 0,ve,vc]):=aI hM3
  have o3:ap M3 (na m2 0):=aL hM3 (by omega)
  obtain⟨v4,m4,q4,s4,C4⟩:=Ut (m:=M3) (s:=JN i both) (by omega)
  obtain⟨z5,m5,r5,⟨ve',vc',e5,oe',oc'⟩,C5⟩:=tg s4 hbl hb hI'
  subst e5
  rw[hW'] at r5
  have c35:=C4.tr C5
  have g5:=(c35.get o3 (by simp)).trans g3
  have o5:=c35.old o3
  have se:=(oe.sl.grew hC3).grew c35
  have sc:=(oc.sl.grew hC3).grew c35
  generalize hM6:hp [(.n 0,.cells true [ii 1,ii 0,ve',vc']),(.n 0,.cells true [ii 0,ii 0,.nils,.nils])] 1 m5=M6
  have hC6:Chg [] m5 M6:=az hM6 rfl
  have g6:M6.get (na m5 0)=some (.cells true [ii 1,ii 0,ve',vc']):=aI hM6
  have g36:=(hC6.get o5 (by simp)).trans g5
  have hve:=oe.sl.one
  have hvc:=oc.sl.one
  have hve':=oe'.sl.one
  have hvc':=oc'.sl.one
  have hv1:=s1.one
  have hv4:=s4.one
  have cm:Chg [] m M6:=((c12.tr hC3).tr c35).tr hC6
  have hlc:=(sc.grew hC6).len
  have hlc':=(oc'.sl.grew hC6).len
  rw[←aa m2] at r2
  rw[←aa m5] at r5
  cases both with
  |true=>
   have hT:RA i++ [125,32,116,104,114,101,97,100,32,117,32,123,32]++ [108,111,97,100,32,120,32,97,59,32]++ [125]=JN i true:=rfl
   rw[aa m]
   simp (disch:=first|assumption|omega|(apply aq;omega)|(apply au;assumption)|(simp only[aA]<;>omega)) only[go_sem,seval,t0,t1,t2,t3,t4,hT,q1,r2.wf',hM3,q4,r5.wf',hM6,(hnum _).wf']
   by_cases h3:0<i
   ·have he:IA i true true=IA i true false:=by unfold IA tu;simp[h3]
    have se6:=se.grew hC6
    have sc6:=sc.grew hC6
    have se6':=oe'.sl.grew hC6
    have sc6':=oc'.sl.grew hC6
    rw[he] at se6' sc6'
    have hll:=uG i true false
    have hle:=Vo i true false
    obtain⟨m7,r7,C7⟩:=yz (W:=1) se6 sc6 se6' sc6' (by omega) (by rw[hll];have:bN true=1:=rfl;split<;>omega)
    simp (disch:=first|assumption|omega|(apply aq;omega)|(apply au;assumption)|(simp only[aA]<;>omega)) only[go_sem,seval,g6,g36,r7.wf']
    exact hK _ (cm.tr C7)
   ·have h4:i=0:=by omega
    subst h4
    rw[aa0,uG] at hlc hlc'
    have hlc:nN vc= .val (ii 16):=hlc
    have hlc':nN vc'= .val (ii 14):=hlc'
    have t0:NT.get D4.e t=some (ii 0):=t0
    have hm1:bH .num .mul (ii 2) (ii 1)=some (ii 2):=KG 1 (by omega)
    simp (disch:=first|assumption|omega|(apply aq;omega)|(apply au;assumption)|(simp only[aA]<;>omega)) only[go_sem,seval,t0,t2,g6,g36,hlc,hlc',hm1]
    exact hK _ cm
  |false=>
   have hT:RA i++ [125,32,116,104,114,101,97,100,32,117,32,123,32]++ [125]=JN i false:=by unfold JN;rw[adE (by decide),ac7];rfl
   rw[aa m]
   simp (disch:=first|assumption|omega|(apply aq;omega)|(apply au;assumption)|(simp only[aA]<;>omega)) only[go_sem,seval,t0,t1,t2,t3,t4,hT,q1,r2.wf',hM3,q4,r5.wf',hM6,(hnum _).wf',g36]
   rw[aa0,uG] at hlc hlc'
   have e1:6+(i+bN false)*(if tu i false false then 8 else 10)=6+10*i:=by show 6+(i+0)*10=_;omega
   have e2:6+(i+bN false)*(if tu i false true then 8 else 10)=6+8*i:=by show 6+(i+0)*8=_;omega
   rw[e1] at hlc
   rw[e2] at hlc'
   have hm2:=KG i
   have e3:((6+10*i:Nat):Int) - ((6+8*i:Nat):Int)=((2*i:Nat):Int):=by omega
   generalize ((6+10*i:Nat):Int)=X at *
   generalize ((6+8*i:Nat):Int)=Y at *
   simp (disch:=first|assumption|omega|(apply aq;omega)|(apply au;assumption)|(simp only[aA]<;>omega)) only[go_sem,seval,g6,hlc,hlc',hm2 (by omega),e3]
   exact hK _ cm
theorem vD (m:NH) (l:List NV) (h:TyA af8 m [3,3,4] l):∃m',rT 6 l m (.bool true) m':=by
 obtain⟨x1,r1,rfl,h1,h⟩:=h.inv1 (by simp)
 obtain⟨x2,r2,rfl,h2,h⟩:=h.inv1 (by simp)
 obtain⟨x3,r3,rfl,h3,h⟩:=h.inv1 (by simp)
 obtain rfl:=h.inv0
 obtain⟨n,hn,-⟩:=h1.inv_int Tryz.underlying3
 obtain⟨r,hr,-⟩:=h2.inv_int Tryz.underlying3
 obtain⟨b,hb⟩:=h3.inv_bool Tryz.underlying4
 cases hn
 cases hr
 cases hb
 obtain⟨m',h,-⟩:=II (m:=m) n r b
 exact⟨m',h⟩
end FR
open Go Nm Go.Proofs Go.RowKit
namespace WR
open FR (code fI)
abbrev ii (n:Int):NV:= .int .i64 (.lit n)
structure WForm where
 w:Nat
 d:Nat×Nat
 a:Nat×Nat
 b:Nat×Nat
 s:Nat×Nat
 n:Nat×Nat
 c:Nat×Nat
 sg:Bool
 tn:Bool
def WForm.cells (f:WForm):List NV:= [.int .u32 (.lit (f.w:Int)),ii f.d.1,ii f.d.2,ii f.a.1,ii f.a.2,ii f.b.1,ii f.b.2,ii f.s.1,ii f.s.2,ii f.n.1,ii f.n.2,ii f.c.1,ii f.c.2,.bool f.sg,.bool f.tn]
def cu:List WForm:= [
 ⟨3531603968,(0,5),(0,0),(0,0),(21,2),(5,16),(0,0),false,false⟩,
 ⟨4068474880,(0,5),(0,0),(0,0),(21,2),(5,16),(0,0),false,false⟩,
 ⟨2332033024,(0,5),(5,5),(16,5),(0,0),(0,0),(0,0),false,false⟩,
 ⟨3405774848,(0,5),(5,5),(16,5),(0,0),(0,0),(0,0),false,false⟩,
 ⟨2600500224,(0,5),(5,5),(16,5),(0,0),(0,0),(0,0),false,false⟩,
 ⟨2315255808,(0,5),(5,5),(16,5),(0,0),(0,0),(0,0),false,false⟩,
 ⟨3942645791,(0,0),(5,5),(16,5),(0,0),(0,0),(0,0),false,false⟩,
 ⟨2594113504,(0,5),(0,0),(0,0),(0,0),(0,0),(12,4),false,true⟩,
 ⟨335544320,(0,0),(0,0),(0,0),(0,0),(0,26),(0,0),true,false⟩,
 ⟨1409286144,(0,0),(0,0),(0,0),(0,0),(5,19),(0,4),true,false⟩,
 ⟨3019898880,(0,0),(0,5),(0,0),(0,0),(5,19),(0,0),true,false⟩,
 ⟨3036676096,(0,0),(0,5),(0,0),(0,0),(5,19),(0,0),true,false⟩,
 ⟨4181721088,(0,5),(5,5),(0,0),(0,0),(10,12),(0,0),false,false⟩,
 ⟨4177526784,(0,5),(5,5),(0,0),(0,0),(10,12),(0,0),false,false⟩,
 ⟨3370122240,(0,5),(5,5),(0,0),(0,0),(0,0),(0,0),false,false⟩,
 ⟨3365927936,(0,5),(5,5),(0,0),(0,0),(0,0),(0,0),false,false⟩,
 ⟨3361700864,(0,5),(5,5),(0,0),(0,0),(0,0),(0,0),false,false⟩,
 ⟨3355474944,(0,5),(5,5),(0,0),(16,5),(0,0),(0,0),false,false⟩,
 ⟨3573758911,(0,0),(0,0),(0,0),(0,0),(0,0),(0,0),false,false⟩,
 ⟨3573758879,(0,0),(0,0),(0,0),(0,0),(0,0),(0,0),false,false⟩,
 ⟨3574299680,(0,0),(0,5),(0,0),(0,0),(0,0),(0,0),false,false⟩,
 ⟨3573751839,(0,0),(0,0),(0,0),(0,0),(0,0),(0,0),false,false⟩,
 ⟨3560964096,(0,0),(0,0),(0,0),(0,0),(0,0),(0,0),false,false⟩,
 ⟨3556769793,(0,0),(0,0),(0,0),(0,0),(0,0),(0,0),false,false⟩]
def Np (l:List (List NV)):List NV:=List.rec [] (λa _ r=>iM a r λt=>t) l
def fU:List (List NV):=cu.map WForm.cells
theorem Kg:rY code noS 4000 164 [] (Np fU) 0 24 15 24=true:=by kernel_rfl
def S9:cE:=Vj 164 (VE [] (Np fU) 0 24 15 24) noS
end WR
open Go Nm Go.Proofs Go.RowKit Go.Shelf
namespace WR
open FR (code fI)
abbrev E0:cE:=S9
theorem kd0:lE code E0 20000 106 [.int .u32 (.lit (3531604129))] (.tup [.agg [.int .i64 (.lit (0)),.int .i64 (.lit (1)),.int .i64 (.lit (0)),.int .i64 (.lit (0)),.int .i64 (.lit (0)),.int .i64 (.lit (0)),.int .i64 (.lit (5))],.int .i64 (.lit 0)])=true:=by kernel_rfl
def E1:cE:=sK 106 [.int .u32 (.lit (3531604129))] (.tup [.agg [.int .i64 (.lit (0)),.int .i64 (.lit (1)),.int .i64 (.lit (0)),.int .i64 (.lit (0)),.int .i64 (.lit (0)),.int .i64 (.lit (0)),.int .i64 (.lit (5))],.int .i64 (.lit 0)]) E0
theorem kd1:lE code E1 20000 106 [.int .u32 (.lit (2334064672))] (.tup [.agg [.int .i64 (.lit (2)),.int .i64 (.lit (0)),.int .i64 (.lit (1)),.int .i64 (.lit (31)),.int .i64 (.lit (0)),.int .i64 (.lit (0)),.int .i64 (.lit (0))],.int .i64 (.lit 0)])=true:=by kernel_rfl
def E2:cE:=sK 106 [.int .u32 (.lit (2334064672))] (.tup [.agg [.int .i64 (.lit (2)),.int .i64 (.lit (0)),.int .i64 (.lit (1)),.int .i64 (.lit (31)),.int .i64 (.lit (0)),.int .i64 (.lit (0)),.int .i64 (.lit (0))],.int .i64 (.lit 0)]) E1
theorem kd2:lE code E2 20000 106 [.int .u32 (.lit (3556769793))] (.tup [.agg [.int .i64 (.lit (23)),.int .i64 (.lit (0)),.int .i64 (.lit (0)),.int .i64 (.lit (0)),.int .i64 (.lit (0)),.int .i64 (.lit (0)),.int .i64 (.lit (0))],.int .i64 (.lit 0)])=true:=by kernel_rfl
def E3:cE:=sK 106 [.int .u32 (.lit (3556769793))] (.tup [.agg [.int .i64 (.lit (23)),.int .i64 (.lit (0)),.int .i64 (.lit (0)),.int .i64 (.lit (0)),.int .i64 (.lit (0)),.int .i64 (.lit (0)),.int .i64 (.lit (0))],.int .i64 (.lit 0)]) E2
theorem kd3:lE code E3 20000 106 [.int .u32 (.lit (3560964096))] (.tup [.agg [.int .i64 (.lit (22)),.int .i64 (.lit (0)),.int .i64 (.lit (0)),.int .i64 (.lit (0)),.int .i64 (.lit (0)),.int .i64 (.lit (0)),.int .i64 (.lit (0))],.int .i64 (.lit 0)])=true:=by kernel_rfl
def E4:cE:=sK 106 [.int .u32 (.lit (3560964096))] (.tup [.agg [.int .i64 (.lit (22)),.int .i64 (.lit (0)),.int .i64 (.lit (0)),.int .i64 (.lit (0)),.int .i64 (.lit (0)),.int .i64 (.lit (0)),.int .i64 (.lit (0))],.int .i64 (.lit 0)]) E3
abbrev S8:cE:=E4
section
theorem mixed:Tryz.prog.follows .mixedOrders=true:=by kernel_rfl
theorem ok9:dh af8 S9:=QU Do (U1 mixed Tryz.codeOk Do (fI.row Kg) (by simp))
theorem abP:dh af8 E0:=ok9
theorem acV:dh af8 E1:=lA mixed Tryz.codeOk abP (fI.kept kd0)
theorem aco:dh af8 E2:=lA mixed Tryz.codeOk acV (fI.kept kd1)
theorem acL:dh af8 E3:=lA mixed Tryz.codeOk aco (fI.kept kd2)
theorem abX:dh af8 E4:=lA mixed Tryz.codeOk acL (fI.kept kd3)
theorem ok8:dh af8 S8:=abX
end
open FR (code fI)
theorem kept:lE code S8 200000 35 [] (.bool true)=true:=by kernel_rfl
def S0:cE:=sK 35 [] (.bool true) S8
end WR
open Go Nm Go.Proofs Go.RowKit Go.ChangeShapes
namespace FR
section
theorem MT {P:Program} {S S':cE} (h:dh P S) (hs:∀f l m r,S' f l m=some r->S f l m=some r):dh P S':=
 λι B m w f args args' v m' q=>h ι B m w f args args' v m' (hs _ _ _ _ q)
theorem Ia {f:Nat} {l:List NV} {v:NV} {S S':cE} (hs:∀f l m r,S' f l m=some r->S f l m=some r):∀g k m r,sK f l v S' g k m=some r->sK f l v S g k m=some r:=by
 intro g k m r h
 unfold sK at h ⊢
 grind
theorem ZO:dh af8 S0:=MT (lA WR.mixed Tryz.codeOk WR.ok8 (fI.kept WR.kept)) (Ia λ_ _ _ _ h=>by cases h)
theorem Ya:yI af8 [3,4]=true:=by kernel_rfl
theorem VP:isC ((begin af8 (λ_ _=>0) default).world.heap[Tryz.prog.globals.size]?)=true:=by kernel_rfl
set_option maxRecDepth 100000 in
theorem sparingC {W:World} (hs:W.ShapedOpen af8) {H:Type} {enc:TypeId×Value->H} {args:List Value} {ds:List (DataW H)} {ps:List MemPlace}
 (h:DataW.TrodAll enc af8 W 0 (λ_=>true) true [3,3,4] args ds ps) {base:Nat} (hval:∀(j:Nat) t v, [3,3,4][j]? =some t->args[j]? =some v->Value.okWide af8 W .any base t v):
 Calls af8 6 args.toArray W λe W'=>e= .returned (.bool true)/\Below W.heap.size W W':=
 H5 WR.mixed Tryz.codeOk ZO Ya EL (λ_=>rfl) (by decide) vD (Nat.zero_le _) (BG VP hs) h hval
end
end FR
