/- A machine that runs the given program with memory and order of evaluation taken apart, and what it shows of the law ListingReads: part 5. -/
import Derived.Test.YtbjinflchdkhiaaDoorLrD
set_option linter.unusedSimpArgs false
set_option linter.unusedVariables false
set_option linter.unusedSectionVars false
set_option linter.defProp false
open Go Nm Go.Proofs
namespace LI
set_option maxRecDepth 100000 in
set_option maxHeartbeats 8000000 in
theorem Do (m:NH) (d a b s c n:Int) (hr:aO ⟨8,d,a,b,s,c,n⟩=true):∃v m',bo Tryd.prog S0 10 [.agg [ii 8,ii d,ii a,ii b,ii s,ii c,ii n]] m v m'/\v= .str (aK ⟨8,d,a,b,s,c,n⟩)/\Chg [] m m':=by
 refine WF.ex fun K hK=> ?_
 refine WF.of_wpG (fun _=>rfl) aV (L:= [(.e,.agg [ii 8,ii d,ii a,ii b,ii s,ii c,ii n])]) rfl ?_
 unfold cQ
 obtain ⟨v,m1,h1,hv,hC1⟩:=bi (hp [(AK.n 0,NO.cells true [ii 8,ii d,ii a,ii b,ii s,ii c,ii n])] 1 m) ⟨8,d,a,b,s,c,n⟩
 subst hv
 rw[hr] at h1
 simp only[Ins.cells] at h1
 have g0:(hp [(AK.n 0,NO.cells true [ii 8,ii d,ii a,ii b,ii s,ii c,ii n])] 1 m).get (na m 0)=some (.cells true [ii 8,ii d,ii a,ii b,ii s,ii c,ii n]):=aH
 have o0:bQ (hp [(AK.n 0,NO.cells true [ii 8,ii d,ii a,ii b,ii s,ii c,ii n])] 1 m) (na m 0):=ab (by omega)
 have hC0:Chg [] m (hp [(AK.n 0,NO.cells true [ii 8,ii d,ii a,ii b,ii s,ii c,ii n])] 1 m):=ap rfl
 have g1:=(hC1.get o0 (by simp)).trans g0
 have o1:=hC1.old o0
 have bd:=aP hr
 have b1:-4294967296<=d/\d<=4294967296:=bd 68
 have b2:-4294967296<=a/\a<=4294967296:=bd 65
 have b3:-4294967296<=b/\b<=4294967296:=bd 66
 have b4:-4294967296<=s/\s<=4294967296:=bd 83
 have b5:-4294967296<=c/\c<=4294967296:=bd 67
 have b6:-4294967296<=n/\n<=4294967296:=bd 78
 clear bd
 simp (config:={maxSteps:=1000000}) (disch:=first|assumption|omega|(apply ab;omega)|(apply aa;assumption)|(simp only[au]<;>omega)) only[go_sem,seval,h1.wf,g1]
 refine bZ _ [n] (by simp) ?_ (.slc (na m1 1) 0 1 1 1) ?_ [98] (by simp) _ ?_ ?_ ?_ ?_
 ·simp only[Ha,G9,or_false,forall_eq_or_imp,forall_eq];omega
 ·exact (fJ.of (B:=m1) (C:=([n]:List Int).map fun x=> [ii x]) (by simp) aY aH (ab (by omega)) rfl rfl rfl).sl
 ·simp (config:={maxSteps:=1000000}) (disch:=first|assumption|omega|(apply ab;omega)|(apply aa;assumption)|(simp only[au]<;>omega)) only[go_sem,seval]
 ·simp (config:={maxSteps:=1000000}) (disch:=first|assumption|omega|(apply ab;omega)|(apply aa;assumption)|(simp only[au]<;>omega)) only[go_sem,seval]
 ·simp (config:={maxSteps:=1000000}) (disch:=first|assumption|omega|(apply ab;omega)|(apply aa;assumption)|(simp only[au]<;>omega)) only[go_sem,seval]
 ·intro t' g
  simp (config:={maxSteps:=1000000}) (disch:=first|assumption|omega|(apply ab;omega)|(apply aa;assumption)|(simp only[au]<;>omega)) only[go_sem,seval,g]
  refine hK _ _ ⟨?_, ?_⟩
  ·simp only[aK,hr]
   rfl
  ·exact jK (hC0.trans hC1 (by simp)) (ap rfl)
set_option maxRecDepth 100000 in
set_option maxHeartbeats 8000000 in
theorem DL (m:NH) (d a b s c n:Int) (hr:aO ⟨9,d,a,b,s,c,n⟩=true):∃v m',bo Tryd.prog S0 10 [.agg [ii 9,ii d,ii a,ii b,ii s,ii c,ii n]] m v m'/\v= .str (aK ⟨9,d,a,b,s,c,n⟩)/\Chg [] m m':=by
 refine WF.ex fun K hK=> ?_
 refine WF.of_wpG (fun _=>rfl) aV (L:= [(.e,.agg [ii 9,ii d,ii a,ii b,ii s,ii c,ii n])]) rfl ?_
 unfold cQ
 obtain ⟨v,m1,h1,hv,hC1⟩:=bi (hp [(AK.n 0,NO.cells true [ii 9,ii d,ii a,ii b,ii s,ii c,ii n])] 1 m) ⟨9,d,a,b,s,c,n⟩
 subst hv
 rw[hr] at h1
 simp only[Ins.cells] at h1
 have g0:(hp [(AK.n 0,NO.cells true [ii 9,ii d,ii a,ii b,ii s,ii c,ii n])] 1 m).get (na m 0)=some (.cells true [ii 9,ii d,ii a,ii b,ii s,ii c,ii n]):=aH
 have o0:bQ (hp [(AK.n 0,NO.cells true [ii 9,ii d,ii a,ii b,ii s,ii c,ii n])] 1 m) (na m 0):=ab (by omega)
 have hC0:Chg [] m (hp [(AK.n 0,NO.cells true [ii 9,ii d,ii a,ii b,ii s,ii c,ii n])] 1 m):=ap rfl
 have g1:=(hC1.get o0 (by simp)).trans g0
 have o1:=hC1.old o0
 have bd:=aP hr
 have b1:-4294967296<=d/\d<=4294967296:=bd 68
 have b2:-4294967296<=a/\a<=4294967296:=bd 65
 have b3:-4294967296<=b/\b<=4294967296:=bd 66
 have b4:-4294967296<=s/\s<=4294967296:=bd 83
 have b5:-4294967296<=c/\c<=4294967296:=bd 67
 have b6:-4294967296<=n/\n<=4294967296:=bd 78
 clear bd
 simp (config:={maxSteps:=1000000}) (disch:=first|assumption|omega|(apply ab;omega)|(apply aa;assumption)|(simp only[au]<;>omega)) only[go_sem,seval,h1.wf,g1]
 refine bZ _ [c,n] (by simp) ?_ (.slc (na m1 1) 0 2 1 2) ?_ [98,99] (by simp) _ ?_ ?_ ?_ ?_
 ·simp only[Ha,G9,or_false,forall_eq_or_imp,forall_eq];omega
 ·exact (fJ.of (B:=m1) (C:=([c,n]:List Int).map fun x=> [ii x]) (by simp) aY aH (ab (by omega)) rfl rfl rfl).sl
 ·simp (config:={maxSteps:=1000000}) (disch:=first|assumption|omega|(apply ab;omega)|(apply aa;assumption)|(simp only[au]<;>omega)) only[go_sem,seval]
 ·simp (config:={maxSteps:=1000000}) (disch:=first|assumption|omega|(apply ab;omega)|(apply aa;assumption)|(simp only[au]<;>omega)) only[go_sem,seval]
 ·simp (config:={maxSteps:=1000000}) (disch:=first|assumption|omega|(apply ab;omega)|(apply aa;assumption)|(simp only[au]<;>omega)) only[go_sem,seval]
 ·intro t' g
  simp (config:={maxSteps:=1000000}) (disch:=first|assumption|omega|(apply ab;omega)|(apply aa;assumption)|(simp only[au]<;>omega)) only[go_sem,seval,g]
  refine hK _ _ ⟨?_, ?_⟩
  ·simp only[aK,hr]
   rfl
  ·exact jK (hC0.trans hC1 (by simp)) (ap rfl)
set_option maxRecDepth 100000 in
set_option maxHeartbeats 8000000 in
theorem Az (m:NH) (d a b s c n:Int) (hr:aO ⟨10,d,a,b,s,c,n⟩=true):∃v m',bo Tryd.prog S0 10 [.agg [ii 10,ii d,ii a,ii b,ii s,ii c,ii n]] m v m'/\v= .str (aK ⟨10,d,a,b,s,c,n⟩)/\Chg [] m m':=by
 refine WF.ex fun K hK=> ?_
 refine WF.of_wpG (fun _=>rfl) aV (L:= [(.e,.agg [ii 10,ii d,ii a,ii b,ii s,ii c,ii n])]) rfl ?_
 unfold cQ
 obtain ⟨v,m1,h1,hv,hC1⟩:=bi (hp [(AK.n 0,NO.cells true [ii 10,ii d,ii a,ii b,ii s,ii c,ii n])] 1 m) ⟨10,d,a,b,s,c,n⟩
 subst hv
 rw[hr] at h1
 simp only[Ins.cells] at h1
 have g0:(hp [(AK.n 0,NO.cells true [ii 10,ii d,ii a,ii b,ii s,ii c,ii n])] 1 m).get (na m 0)=some (.cells true [ii 10,ii d,ii a,ii b,ii s,ii c,ii n]):=aH
 have o0:bQ (hp [(AK.n 0,NO.cells true [ii 10,ii d,ii a,ii b,ii s,ii c,ii n])] 1 m) (na m 0):=ab (by omega)
 have hC0:Chg [] m (hp [(AK.n 0,NO.cells true [ii 10,ii d,ii a,ii b,ii s,ii c,ii n])] 1 m):=ap rfl
 have g1:=(hC1.get o0 (by simp)).trans g0
 have o1:=hC1.old o0
 have bd:=aP hr
 have b1:-4294967296<=d/\d<=4294967296:=bd 68
 have b2:-4294967296<=a/\a<=4294967296:=bd 65
 have b3:-4294967296<=b/\b<=4294967296:=bd 66
 have b4:-4294967296<=s/\s<=4294967296:=bd 83
 have b5:-4294967296<=c/\c<=4294967296:=bd 67
 have b6:-4294967296<=n/\n<=4294967296:=bd 78
 clear bd
 simp (config:={maxSteps:=1000000}) (disch:=first|assumption|omega|(apply ab;omega)|(apply aa;assumption)|(simp only[au]<;>omega)) only[go_sem,seval,h1.wf,g1]
 refine bZ _ [a,n] (by simp) ?_ (.slc (na m1 1) 0 2 1 2) ?_ [99,98,122] (by simp) _ ?_ ?_ ?_ ?_
 ·simp only[Ha,G9,or_false,forall_eq_or_imp,forall_eq];omega
 ·exact (fJ.of (B:=m1) (C:=([a,n]:List Int).map fun x=> [ii x]) (by simp) aY aH (ab (by omega)) rfl rfl rfl).sl
 ·simp (config:={maxSteps:=1000000}) (disch:=first|assumption|omega|(apply ab;omega)|(apply aa;assumption)|(simp only[au]<;>omega)) only[go_sem,seval]
 ·simp (config:={maxSteps:=1000000}) (disch:=first|assumption|omega|(apply ab;omega)|(apply aa;assumption)|(simp only[au]<;>omega)) only[go_sem,seval]
 ·simp (config:={maxSteps:=1000000}) (disch:=first|assumption|omega|(apply ab;omega)|(apply aa;assumption)|(simp only[au]<;>omega)) only[go_sem,seval]
 ·intro t' g
  simp (config:={maxSteps:=1000000}) (disch:=first|assumption|omega|(apply ab;omega)|(apply aa;assumption)|(simp only[au]<;>omega)) only[go_sem,seval,g]
  refine hK _ _ ⟨?_, ?_⟩
  ·simp only[aK,hr]
   rfl
  ·exact jK (hC0.trans hC1 (by simp)) (ap rfl)
set_option maxRecDepth 100000 in
set_option maxHeartbeats 8000000 in
theorem Cp (m:NH) (d a b s c n:Int) (hr:aO ⟨11,d,a,b,s,c,n⟩=true):∃v m',bo Tryd.prog S0 10 [.agg [ii 11,ii d,ii a,ii b,ii s,ii c,ii n]] m v m'/\v= .str (aK ⟨11,d,a,b,s,c,n⟩)/\Chg [] m m':=by
 refine WF.ex fun K hK=> ?_
 refine WF.of_wpG (fun _=>rfl) aV (L:= [(.e,.agg [ii 11,ii d,ii a,ii b,ii s,ii c,ii n])]) rfl ?_
 unfold cQ
 obtain ⟨v,m1,h1,hv,hC1⟩:=bi (hp [(AK.n 0,NO.cells true [ii 11,ii d,ii a,ii b,ii s,ii c,ii n])] 1 m) ⟨11,d,a,b,s,c,n⟩
 subst hv
 rw[hr] at h1
 simp only[Ins.cells] at h1
 have g0:(hp [(AK.n 0,NO.cells true [ii 11,ii d,ii a,ii b,ii s,ii c,ii n])] 1 m).get (na m 0)=some (.cells true [ii 11,ii d,ii a,ii b,ii s,ii c,ii n]):=aH
 have o0:bQ (hp [(AK.n 0,NO.cells true [ii 11,ii d,ii a,ii b,ii s,ii c,ii n])] 1 m) (na m 0):=ab (by omega)
 have hC0:Chg [] m (hp [(AK.n 0,NO.cells true [ii 11,ii d,ii a,ii b,ii s,ii c,ii n])] 1 m):=ap rfl
 have g1:=(hC1.get o0 (by simp)).trans g0
 have o1:=hC1.old o0
 have bd:=aP hr
 have b1:-4294967296<=d/\d<=4294967296:=bd 68
 have b2:-4294967296<=a/\a<=4294967296:=bd 65
 have b3:-4294967296<=b/\b<=4294967296:=bd 66
 have b4:-4294967296<=s/\s<=4294967296:=bd 83
 have b5:-4294967296<=c/\c<=4294967296:=bd 67
 have b6:-4294967296<=n/\n<=4294967296:=bd 78
 clear bd
 simp (config:={maxSteps:=1000000}) (disch:=first|assumption|omega|(apply ab;omega)|(apply aa;assumption)|(simp only[au]<;>omega)) only[go_sem,seval,h1.wf,g1]
 refine bZ _ [a,n] (by simp) ?_ (.slc (na m1 1) 0 2 1 2) ?_ [99,98,110,122] (by simp) _ ?_ ?_ ?_ ?_
 ·simp only[Ha,G9,or_false,forall_eq_or_imp,forall_eq];omega
 ·exact (fJ.of (B:=m1) (C:=([a,n]:List Int).map fun x=> [ii x]) (by simp) aY aH (ab (by omega)) rfl rfl rfl).sl
 ·simp (config:={maxSteps:=1000000}) (disch:=first|assumption|omega|(apply ab;omega)|(apply aa;assumption)|(simp only[au]<;>omega)) only[go_sem,seval]
 ·simp (config:={maxSteps:=1000000}) (disch:=first|assumption|omega|(apply ab;omega)|(apply aa;assumption)|(simp only[au]<;>omega)) only[go_sem,seval]
 ·simp (config:={maxSteps:=1000000}) (disch:=first|assumption|omega|(apply ab;omega)|(apply aa;assumption)|(simp only[au]<;>omega)) only[go_sem,seval]
 ·intro t' g
  simp (config:={maxSteps:=1000000}) (disch:=first|assumption|omega|(apply ab;omega)|(apply aa;assumption)|(simp only[au]<;>omega)) only[go_sem,seval,g]
  refine hK _ _ ⟨?_, ?_⟩
  ·simp only[aK,hr]
   rfl
  ·exact jK (hC0.trans hC1 (by simp)) (ap rfl)
set_option maxRecDepth 100000 in
set_option maxHeartbeats 8000000 in
theorem Bh (m:NH) (d a b s c n:Int) (hr:aO ⟨12,d,a,b,s,c,n⟩=true):∃v m',bo Tryd.prog S0 10 [.agg [ii 12,ii d,ii a,ii b,ii s,ii c,ii n]] m v m'/\v= .str (aK ⟨12,d,a,b,s,c,n⟩)/\Chg [] m m':=by
 refine WF.ex fun K hK=> ?_
 refine WF.of_wpG (fun _=>rfl) aV (L:= [(.e,.agg [ii 12,ii d,ii a,ii b,ii s,ii c,ii n])]) rfl ?_
 unfold cQ
 obtain ⟨v,m1,h1,hv,hC1⟩:=bi (hp [(AK.n 0,NO.cells true [ii 12,ii d,ii a,ii b,ii s,ii c,ii n])] 1 m) ⟨12,d,a,b,s,c,n⟩
 subst hv
 rw[hr] at h1
 simp only[Ins.cells] at h1
 have g0:(hp [(AK.n 0,NO.cells true [ii 12,ii d,ii a,ii b,ii s,ii c,ii n])] 1 m).get (na m 0)=some (.cells true [ii 12,ii d,ii a,ii b,ii s,ii c,ii n]):=aH
 have o0:bQ (hp [(AK.n 0,NO.cells true [ii 12,ii d,ii a,ii b,ii s,ii c,ii n])] 1 m) (na m 0):=ab (by omega)
 have hC0:Chg [] m (hp [(AK.n 0,NO.cells true [ii 12,ii d,ii a,ii b,ii s,ii c,ii n])] 1 m):=ap rfl
 have g1:=(hC1.get o0 (by simp)).trans g0
 have o1:=hC1.old o0
 have bd:=aP hr
 have b1:-4294967296<=d/\d<=4294967296:=bd 68
 have b2:-4294967296<=a/\a<=4294967296:=bd 65
 have b3:-4294967296<=b/\b<=4294967296:=bd 66
 have b4:-4294967296<=s/\s<=4294967296:=bd 83
 have b5:-4294967296<=c/\c<=4294967296:=bd 67
 have b6:-4294967296<=n/\n<=4294967296:=bd 78
 clear bd
 simp (config:={maxSteps:=1000000}) (disch:=first|assumption|omega|(apply ab;omega)|(apply aa;assumption)|(simp only[au]<;>omega)) only[go_sem,seval,h1.wf,g1]
 refine bZ _ [d,a,n] (by simp) ?_ (.slc (na m1 1) 0 3 1 3) ?_ [108,100,114] (by simp) _ ?_ ?_ ?_ ?_
 ·simp only[Ha,G9,or_false,forall_eq_or_imp,forall_eq];omega
 ·exact (fJ.of (B:=m1) (C:=([d,a,n]:List Int).map fun x=> [ii x]) (by simp) aY aH (ab (by omega)) rfl rfl rfl).sl
 ·simp (config:={maxSteps:=1000000}) (disch:=first|assumption|omega|(apply ab;omega)|(apply aa;assumption)|(simp only[au]<;>omega)) only[go_sem,seval]
 ·simp (config:={maxSteps:=1000000}) (disch:=first|assumption|omega|(apply ab;omega)|(apply aa;assumption)|(simp only[au]<;>omega)) only[go_sem,seval]
 ·simp (config:={maxSteps:=1000000}) (disch:=first|assumption|omega|(apply ab;omega)|(apply aa;assumption)|(simp only[au]<;>omega)) only[go_sem,seval]
 ·intro t' g
  simp (config:={maxSteps:=1000000}) (disch:=first|assumption|omega|(apply ab;omega)|(apply aa;assumption)|(simp only[au]<;>omega)) only[go_sem,seval,g]
  refine hK _ _ ⟨?_, ?_⟩
  ·simp only[aK,hr]
   rfl
  ·exact jK (hC0.trans hC1 (by simp)) (ap rfl)
set_option maxRecDepth 100000 in
set_option maxHeartbeats 8000000 in
theorem Ca (m:NH) (d a b s c n:Int) (hr:aO ⟨13,d,a,b,s,c,n⟩=true):∃v m',bo Tryd.prog S0 10 [.agg [ii 13,ii d,ii a,ii b,ii s,ii c,ii n]] m v m'/\v= .str (aK ⟨13,d,a,b,s,c,n⟩)/\Chg [] m m':=by
 refine WF.ex fun K hK=> ?_
 refine WF.of_wpG (fun _=>rfl) aV (L:= [(.e,.agg [ii 13,ii d,ii a,ii b,ii s,ii c,ii n])]) rfl ?_
 unfold cQ
 obtain ⟨v,m1,h1,hv,hC1⟩:=bi (hp [(AK.n 0,NO.cells true [ii 13,ii d,ii a,ii b,ii s,ii c,ii n])] 1 m) ⟨13,d,a,b,s,c,n⟩
 subst hv
 rw[hr] at h1
 simp only[Ins.cells] at h1
 have g0:(hp [(AK.n 0,NO.cells true [ii 13,ii d,ii a,ii b,ii s,ii c,ii n])] 1 m).get (na m 0)=some (.cells true [ii 13,ii d,ii a,ii b,ii s,ii c,ii n]):=aH
 have o0:bQ (hp [(AK.n 0,NO.cells true [ii 13,ii d,ii a,ii b,ii s,ii c,ii n])] 1 m) (na m 0):=ab (by omega)
 have hC0:Chg [] m (hp [(AK.n 0,NO.cells true [ii 13,ii d,ii a,ii b,ii s,ii c,ii n])] 1 m):=ap rfl
 have g1:=(hC1.get o0 (by simp)).trans g0
 have o1:=hC1.old o0
 have bd:=aP hr
 have b1:-4294967296<=d/\d<=4294967296:=bd 68
 have b2:-4294967296<=a/\a<=4294967296:=bd 65
 have b3:-4294967296<=b/\b<=4294967296:=bd 66
 have b4:-4294967296<=s/\s<=4294967296:=bd 83
 have b5:-4294967296<=c/\c<=4294967296:=bd 67
 have b6:-4294967296<=n/\n<=4294967296:=bd 78
 clear bd
 simp (config:={maxSteps:=1000000}) (disch:=first|assumption|omega|(apply ab;omega)|(apply aa;assumption)|(simp only[au]<;>omega)) only[go_sem,seval,h1.wf,g1]
 refine bZ _ [d,a,n] (by simp) ?_ (.slc (na m1 1) 0 3 1 3) ?_ [115,116,114] (by simp) _ ?_ ?_ ?_ ?_
 ·simp only[Ha,G9,or_false,forall_eq_or_imp,forall_eq];omega
 ·exact (fJ.of (B:=m1) (C:=([d,a,n]:List Int).map fun x=> [ii x]) (by simp) aY aH (ab (by omega)) rfl rfl rfl).sl
 ·simp (config:={maxSteps:=1000000}) (disch:=first|assumption|omega|(apply ab;omega)|(apply aa;assumption)|(simp only[au]<;>omega)) only[go_sem,seval]
 ·simp (config:={maxSteps:=1000000}) (disch:=first|assumption|omega|(apply ab;omega)|(apply aa;assumption)|(simp only[au]<;>omega)) only[go_sem,seval]
 ·simp (config:={maxSteps:=1000000}) (disch:=first|assumption|omega|(apply ab;omega)|(apply aa;assumption)|(simp only[au]<;>omega)) only[go_sem,seval]
 ·intro t' g
  simp (config:={maxSteps:=1000000}) (disch:=first|assumption|omega|(apply ab;omega)|(apply aa;assumption)|(simp only[au]<;>omega)) only[go_sem,seval,g]
  refine hK _ _ ⟨?_, ?_⟩
  ·simp only[aK,hr]
   rfl
  ·exact jK (hC0.trans hC1 (by simp)) (ap rfl)
set_option maxRecDepth 100000 in
set_option maxHeartbeats 8000000 in
theorem Cl (m:NH) (d a b s c n:Int) (hr:aO ⟨14,d,a,b,s,c,n⟩=true):∃v m',bo Tryd.prog S0 10 [.agg [ii 14,ii d,ii a,ii b,ii s,ii c,ii n]] m v m'/\v= .str (aK ⟨14,d,a,b,s,c,n⟩)/\Chg [] m m':=by
 refine WF.ex fun K hK=> ?_
 refine WF.of_wpG (fun _=>rfl) aV (L:= [(.e,.agg [ii 14,ii d,ii a,ii b,ii s,ii c,ii n])]) rfl ?_
 unfold cQ
 obtain ⟨v,m1,h1,hv,hC1⟩:=bi (hp [(AK.n 0,NO.cells true [ii 14,ii d,ii a,ii b,ii s,ii c,ii n])] 1 m) ⟨14,d,a,b,s,c,n⟩
 subst hv
 rw[hr] at h1
 simp only[Ins.cells] at h1
 have g0:(hp [(AK.n 0,NO.cells true [ii 14,ii d,ii a,ii b,ii s,ii c,ii n])] 1 m).get (na m 0)=some (.cells true [ii 14,ii d,ii a,ii b,ii s,ii c,ii n]):=aH
 have o0:bQ (hp [(AK.n 0,NO.cells true [ii 14,ii d,ii a,ii b,ii s,ii c,ii n])] 1 m) (na m 0):=ab (by omega)
 have hC0:Chg [] m (hp [(AK.n 0,NO.cells true [ii 14,ii d,ii a,ii b,ii s,ii c,ii n])] 1 m):=ap rfl
 have g1:=(hC1.get o0 (by simp)).trans g0
 have o1:=hC1.old o0
 have bd:=aP hr
 have b1:-4294967296<=d/\d<=4294967296:=bd 68
 have b2:-4294967296<=a/\a<=4294967296:=bd 65
 have b3:-4294967296<=b/\b<=4294967296:=bd 66
 have b4:-4294967296<=s/\s<=4294967296:=bd 83
 have b5:-4294967296<=c/\c<=4294967296:=bd 67
 have b6:-4294967296<=n/\n<=4294967296:=bd 78
 clear bd
 simp (config:={maxSteps:=1000000}) (disch:=first|assumption|omega|(apply ab;omega)|(apply aa;assumption)|(simp only[au]<;>omega)) only[go_sem,seval,h1.wf,g1]
 refine bZ _ [d,a] (by simp) ?_ (.slc (na m1 1) 0 2 1 2) ?_ [108,100,97,114] (by simp) _ ?_ ?_ ?_ ?_
 ·simp only[Ha,G9,or_false,forall_eq_or_imp,forall_eq];omega
 ·exact (fJ.of (B:=m1) (C:=([d,a]:List Int).map fun x=> [ii x]) (by simp) aY aH (ab (by omega)) rfl rfl rfl).sl
 ·simp (config:={maxSteps:=1000000}) (disch:=first|assumption|omega|(apply ab;omega)|(apply aa;assumption)|(simp only[au]<;>omega)) only[go_sem,seval]
 ·simp (config:={maxSteps:=1000000}) (disch:=first|assumption|omega|(apply ab;omega)|(apply aa;assumption)|(simp only[au]<;>omega)) only[go_sem,seval]
 ·simp (config:={maxSteps:=1000000}) (disch:=first|assumption|omega|(apply ab;omega)|(apply aa;assumption)|(simp only[au]<;>omega)) only[go_sem,seval]
 ·intro t' g
  simp (config:={maxSteps:=1000000}) (disch:=first|assumption|omega|(apply ab;omega)|(apply aa;assumption)|(simp only[au]<;>omega)) only[go_sem,seval,g]
  refine hK _ _ ⟨?_, ?_⟩
  ·simp only[aK,hr]
   rfl
  ·exact jK (hC0.trans hC1 (by simp)) (ap rfl)
set_option maxRecDepth 100000 in
set_option maxHeartbeats 8000000 in
theorem AJ (m:NH) (d a b s c n:Int) (hr:aO ⟨15,d,a,b,s,c,n⟩=true):∃v m',bo Tryd.prog S0 10 [.agg [ii 15,ii d,ii a,ii b,ii s,ii c,ii n]] m v m'/\v= .str (aK ⟨15,d,a,b,s,c,n⟩)/\Chg [] m m':=by
 refine WF.ex fun K hK=> ?_
 refine WF.of_wpG (fun _=>rfl) aV (L:= [(.e,.agg [ii 15,ii d,ii a,ii b,ii s,ii c,ii n])]) rfl ?_
 unfold cQ
 obtain ⟨v,m1,h1,hv,hC1⟩:=bi (hp [(AK.n 0,NO.cells true [ii 15,ii d,ii a,ii b,ii s,ii c,ii n])] 1 m) ⟨15,d,a,b,s,c,n⟩
 subst hv
 rw[hr] at h1
 simp only[Ins.cells] at h1
 have g0:(hp [(AK.n 0,NO.cells true [ii 15,ii d,ii a,ii b,ii s,ii c,ii n])] 1 m).get (na m 0)=some (.cells true [ii 15,ii d,ii a,ii b,ii s,ii c,ii n]):=aH
 have o0:bQ (hp [(AK.n 0,NO.cells true [ii 15,ii d,ii a,ii b,ii s,ii c,ii n])] 1 m) (na m 0):=ab (by omega)
 have hC0:Chg [] m (hp [(AK.n 0,NO.cells true [ii 15,ii d,ii a,ii b,ii s,ii c,ii n])] 1 m):=ap rfl
 have g1:=(hC1.get o0 (by simp)).trans g0
 have o1:=hC1.old o0
 have bd:=aP hr
 have b1:-4294967296<=d/\d<=4294967296:=bd 68
 have b2:-4294967296<=a/\a<=4294967296:=bd 65
 have b3:-4294967296<=b/\b<=4294967296:=bd 66
 have b4:-4294967296<=s/\s<=4294967296:=bd 83
 have b5:-4294967296<=c/\c<=4294967296:=bd 67
 have b6:-4294967296<=n/\n<=4294967296:=bd 78
 clear bd
 simp (config:={maxSteps:=1000000}) (disch:=first|assumption|omega|(apply ab;omega)|(apply aa;assumption)|(simp only[au]<;>omega)) only[go_sem,seval,h1.wf,g1]
 refine bZ _ [d,a] (by simp) ?_ (.slc (na m1 1) 0 2 1 2) ?_ [115,116,108,114] (by simp) _ ?_ ?_ ?_ ?_
 ·simp only[Ha,G9,or_false,forall_eq_or_imp,forall_eq];omega
 ·exact (fJ.of (B:=m1) (C:=([d,a]:List Int).map fun x=> [ii x]) (by simp) aY aH (ab (by omega)) rfl rfl rfl).sl
 ·simp (config:={maxSteps:=1000000}) (disch:=first|assumption|omega|(apply ab;omega)|(apply aa;assumption)|(simp only[au]<;>omega)) only[go_sem,seval]
 ·simp (config:={maxSteps:=1000000}) (disch:=first|assumption|omega|(apply ab;omega)|(apply aa;assumption)|(simp only[au]<;>omega)) only[go_sem,seval]
 ·simp (config:={maxSteps:=1000000}) (disch:=first|assumption|omega|(apply ab;omega)|(apply aa;assumption)|(simp only[au]<;>omega)) only[go_sem,seval]
 ·intro t' g
  simp (config:={maxSteps:=1000000}) (disch:=first|assumption|omega|(apply ab;omega)|(apply aa;assumption)|(simp only[au]<;>omega)) only[go_sem,seval,g]
  refine hK _ _ ⟨?_, ?_⟩
  ·simp only[aK,hr]
   rfl
  ·exact jK (hC0.trans hC1 (by simp)) (ap rfl)
end LI
open Go Nm Go.Proofs
namespace LI
set_option maxRecDepth 100000 in
set_option maxHeartbeats 8000000 in
theorem Aq (m:NH) (d a b s c n:Int) (hr:aO ⟨16,d,a,b,s,c,n⟩=true):∃v m',bo Tryd.prog S0 10 [.agg [ii 16,ii d,ii a,ii b,ii s,ii c,ii n]] m v m'/\v= .str (aK ⟨16,d,a,b,s,c,n⟩)/\Chg [] m m':=by
 refine WF.ex fun K hK=> ?_
 refine WF.of_wpG (fun _=>rfl) aV (L:= [(.e,.agg [ii 16,ii d,ii a,ii b,ii s,ii c,ii n])]) rfl ?_
 unfold cQ
 obtain ⟨v,m1,h1,hv,hC1⟩:=bi (hp [(AK.n 0,NO.cells true [ii 16,ii d,ii a,ii b,ii s,ii c,ii n])] 1 m) ⟨16,d,a,b,s,c,n⟩
 subst hv
 rw[hr] at h1
 simp only[Ins.cells] at h1
 have g0:(hp [(AK.n 0,NO.cells true [ii 16,ii d,ii a,ii b,ii s,ii c,ii n])] 1 m).get (na m 0)=some (.cells true [ii 16,ii d,ii a,ii b,ii s,ii c,ii n]):=aH
 have o0:bQ (hp [(AK.n 0,NO.cells true [ii 16,ii d,ii a,ii b,ii s,ii c,ii n])] 1 m) (na m 0):=ab (by omega)
 have hC0:Chg [] m (hp [(AK.n 0,NO.cells true [ii 16,ii d,ii a,ii b,ii s,ii c,ii n])] 1 m):=ap rfl
 have g1:=(hC1.get o0 (by simp)).trans g0
 have o1:=hC1.old o0
 have bd:=aP hr
 have b1:-4294967296<=d/\d<=4294967296:=bd 68
 have b2:-4294967296<=a/\a<=4294967296:=bd 65
 have b3:-4294967296<=b/\b<=4294967296:=bd 66
 have b4:-4294967296<=s/\s<=4294967296:=bd 83
 have b5:-4294967296<=c/\c<=4294967296:=bd 67
 have b6:-4294967296<=n/\n<=4294967296:=bd 78
 clear bd
 simp (config:={maxSteps:=1000000}) (disch:=first|assumption|omega|(apply ab;omega)|(apply aa;assumption)|(simp only[au]<;>omega)) only[go_sem,seval,h1.wf,g1]
 refine bZ _ [d,a] (by simp) ?_ (.slc (na m1 1) 0 2 1 2) ?_ [108,100,120,114] (by simp) _ ?_ ?_ ?_ ?_
 ·simp only[Ha,G9,or_false,forall_eq_or_imp,forall_eq];omega
 ·exact (fJ.of (B:=m1) (C:=([d,a]:List Int).map fun x=> [ii x]) (by simp) aY aH (ab (by omega)) rfl rfl rfl).sl
 ·simp (config:={maxSteps:=1000000}) (disch:=first|assumption|omega|(apply ab;omega)|(apply aa;assumption)|(simp only[au]<;>omega)) only[go_sem,seval]
 ·simp (config:={maxSteps:=1000000}) (disch:=first|assumption|omega|(apply ab;omega)|(apply aa;assumption)|(simp only[au]<;>omega)) only[go_sem,seval]
 ·simp (config:={maxSteps:=1000000}) (disch:=first|assumption|omega|(apply ab;omega)|(apply aa;assumption)|(simp only[au]<;>omega)) only[go_sem,seval]
 ·intro t' g
  simp (config:={maxSteps:=1000000}) (disch:=first|assumption|omega|(apply ab;omega)|(apply aa;assumption)|(simp only[au]<;>omega)) only[go_sem,seval,g]
  refine hK _ _ ⟨?_, ?_⟩
  ·simp only[aK,hr]
   rfl
  ·exact jK (hC0.trans hC1 (by simp)) (ap rfl)
set_option maxRecDepth 100000 in
set_option maxHeartbeats 8000000 in
theorem AG (m:NH) (d a b s c n:Int) (hr:aO ⟨17,d,a,b,s,c,n⟩=true):∃v m',bo Tryd.prog S0 10 [.agg [ii 17,ii d,ii a,ii b,ii s,ii c,ii n]] m v m'/\v= .str (aK ⟨17,d,a,b,s,c,n⟩)/\Chg [] m m':=by
 refine WF.ex fun K hK=> ?_
 refine WF.of_wpG (fun _=>rfl) aV (L:= [(.e,.agg [ii 17,ii d,ii a,ii b,ii s,ii c,ii n])]) rfl ?_
 unfold cQ
 obtain ⟨v,m1,h1,hv,hC1⟩:=bi (hp [(AK.n 0,NO.cells true [ii 17,ii d,ii a,ii b,ii s,ii c,ii n])] 1 m) ⟨17,d,a,b,s,c,n⟩
 subst hv
 rw[hr] at h1
 simp only[Ins.cells] at h1
 have g0:(hp [(AK.n 0,NO.cells true [ii 17,ii d,ii a,ii b,ii s,ii c,ii n])] 1 m).get (na m 0)=some (.cells true [ii 17,ii d,ii a,ii b,ii s,ii c,ii n]):=aH
 have o0:bQ (hp [(AK.n 0,NO.cells true [ii 17,ii d,ii a,ii b,ii s,ii c,ii n])] 1 m) (na m 0):=ab (by omega)
 have hC0:Chg [] m (hp [(AK.n 0,NO.cells true [ii 17,ii d,ii a,ii b,ii s,ii c,ii n])] 1 m):=ap rfl
 have g1:=(hC1.get o0 (by simp)).trans g0
 have o1:=hC1.old o0
 have bd:=aP hr
 have b1:-4294967296<=d/\d<=4294967296:=bd 68
 have b2:-4294967296<=a/\a<=4294967296:=bd 65
 have b3:-4294967296<=b/\b<=4294967296:=bd 66
 have b4:-4294967296<=s/\s<=4294967296:=bd 83
 have b5:-4294967296<=c/\c<=4294967296:=bd 67
 have b6:-4294967296<=n/\n<=4294967296:=bd 78
 clear bd
 simp (config:={maxSteps:=1000000}) (disch:=first|assumption|omega|(apply ab;omega)|(apply aa;assumption)|(simp only[au]<;>omega)) only[go_sem,seval,h1.wf,g1]
 refine bZ _ [s,d,a] (by simp) ?_ (.slc (na m1 1) 0 3 1 3) ?_ [115,116,120,114] (by simp) _ ?_ ?_ ?_ ?_
 ·simp only[Ha,G9,or_false,forall_eq_or_imp,forall_eq];omega
 ·exact (fJ.of (B:=m1) (C:=([s,d,a]:List Int).map fun x=> [ii x]) (by simp) aY aH (ab (by omega)) rfl rfl rfl).sl
 ·simp (config:={maxSteps:=1000000}) (disch:=first|assumption|omega|(apply ab;omega)|(apply aa;assumption)|(simp only[au]<;>omega)) only[go_sem,seval]
 ·simp (config:={maxSteps:=1000000}) (disch:=first|assumption|omega|(apply ab;omega)|(apply aa;assumption)|(simp only[au]<;>omega)) only[go_sem,seval]
 ·simp (config:={maxSteps:=1000000}) (disch:=first|assumption|omega|(apply ab;omega)|(apply aa;assumption)|(simp only[au]<;>omega)) only[go_sem,seval]
 ·intro t' g
  simp (config:={maxSteps:=1000000}) (disch:=first|assumption|omega|(apply ab;omega)|(apply aa;assumption)|(simp only[au]<;>omega)) only[go_sem,seval,g]
  refine hK _ _ ⟨?_, ?_⟩
  ·simp only[aK,hr]
   rfl
  ·exact jK (hC0.trans hC1 (by simp)) (ap rfl)
set_option maxRecDepth 100000 in
set_option maxHeartbeats 8000000 in
theorem BT (m:NH) (d a b s c n:Int) (hr:aO ⟨18,d,a,b,s,c,n⟩=true):∃v m',bo Tryd.prog S0 10 [.agg [ii 18,ii d,ii a,ii b,ii s,ii c,ii n]] m v m'/\v= .str (aK ⟨18,d,a,b,s,c,n⟩)/\Chg [] m m':=by
 refine WF.ex fun K hK=> ?_
 refine WF.of_wpG (fun _=>rfl) aV (L:= [(.e,.agg [ii 18,ii d,ii a,ii b,ii s,ii c,ii n])]) rfl ?_
 unfold cQ
 obtain ⟨v,m1,h1,hv,hC1⟩:=bi (hp [(AK.n 0,NO.cells true [ii 18,ii d,ii a,ii b,ii s,ii c,ii n])] 1 m) ⟨18,d,a,b,s,c,n⟩
 subst hv
 rw[hr] at h1
 simp only[Ins.cells] at h1
 have g0:(hp [(AK.n 0,NO.cells true [ii 18,ii d,ii a,ii b,ii s,ii c,ii n])] 1 m).get (na m 0)=some (.cells true [ii 18,ii d,ii a,ii b,ii s,ii c,ii n]):=aH
 have o0:bQ (hp [(AK.n 0,NO.cells true [ii 18,ii d,ii a,ii b,ii s,ii c,ii n])] 1 m) (na m 0):=ab (by omega)
 have hC0:Chg [] m (hp [(AK.n 0,NO.cells true [ii 18,ii d,ii a,ii b,ii s,ii c,ii n])] 1 m):=ap rfl
 have g1:=(hC1.get o0 (by simp)).trans g0
 have o1:=hC1.old o0
 have bd:=aP hr
 have b1:-4294967296<=d/\d<=4294967296:=bd 68
 have b2:-4294967296<=a/\a<=4294967296:=bd 65
 have b3:-4294967296<=b/\b<=4294967296:=bd 66
 have b4:-4294967296<=s/\s<=4294967296:=bd 83
 have b5:-4294967296<=c/\c<=4294967296:=bd 67
 have b6:-4294967296<=n/\n<=4294967296:=bd 78
 clear bd
 simp (config:={maxSteps:=1000000}) (disch:=first|assumption|omega|(apply ab;omega)|(apply aa;assumption)|(simp only[au]<;>omega)) only[go_sem,seval,h1.wf,g1]
 refine bZ _ [] (by simp) ?_ .nils ?_ [100,109,98] (by simp) _ ?_ ?_ ?_ ?_
 ·simp
 ·exact Sl.nil
 ·simp (config:={maxSteps:=1000000}) (disch:=first|assumption|omega|(apply ab;omega)|(apply aa;assumption)|(simp only[au]<;>omega)) only[go_sem,seval]
 ·simp (config:={maxSteps:=1000000}) (disch:=first|assumption|omega|(apply ab;omega)|(apply aa;assumption)|(simp only[au]<;>omega)) only[go_sem,seval]
 ·simp (config:={maxSteps:=1000000}) (disch:=first|assumption|omega|(apply ab;omega)|(apply aa;assumption)|(simp only[au]<;>omega)) only[go_sem,seval]
 ·intro t' g
  simp (config:={maxSteps:=1000000}) (disch:=first|assumption|omega|(apply ab;omega)|(apply aa;assumption)|(simp only[au]<;>omega)) only[go_sem,seval,g]
  refine hK _ _ ⟨?_, ?_⟩
  ·simp only[aK,hr]
   rfl
  ·exact jK (hC0.trans hC1 (by simp)) (ap rfl)
set_option maxRecDepth 100000 in
set_option maxHeartbeats 8000000 in
theorem AZ (m:NH) (d a b s c n:Int) (hr:aO ⟨19,d,a,b,s,c,n⟩=true):∃v m',bo Tryd.prog S0 10 [.agg [ii 19,ii d,ii a,ii b,ii s,ii c,ii n]] m v m'/\v= .str (aK ⟨19,d,a,b,s,c,n⟩)/\Chg [] m m':=by
 refine WF.ex fun K hK=> ?_
 refine WF.of_wpG (fun _=>rfl) aV (L:= [(.e,.agg [ii 19,ii d,ii a,ii b,ii s,ii c,ii n])]) rfl ?_
 unfold cQ
 obtain ⟨v,m1,h1,hv,hC1⟩:=bi (hp [(AK.n 0,NO.cells true [ii 19,ii d,ii a,ii b,ii s,ii c,ii n])] 1 m) ⟨19,d,a,b,s,c,n⟩
 subst hv
 rw[hr] at h1
 simp only[Ins.cells] at h1
 have g0:(hp [(AK.n 0,NO.cells true [ii 19,ii d,ii a,ii b,ii s,ii c,ii n])] 1 m).get (na m 0)=some (.cells true [ii 19,ii d,ii a,ii b,ii s,ii c,ii n]):=aH
 have o0:bQ (hp [(AK.n 0,NO.cells true [ii 19,ii d,ii a,ii b,ii s,ii c,ii n])] 1 m) (na m 0):=ab (by omega)
 have hC0:Chg [] m (hp [(AK.n 0,NO.cells true [ii 19,ii d,ii a,ii b,ii s,ii c,ii n])] 1 m):=ap rfl
 have g1:=(hC1.get o0 (by simp)).trans g0
 have o1:=hC1.old o0
 have bd:=aP hr
 have b1:-4294967296<=d/\d<=4294967296:=bd 68
 have b2:-4294967296<=a/\a<=4294967296:=bd 65
 have b3:-4294967296<=b/\b<=4294967296:=bd 66
 have b4:-4294967296<=s/\s<=4294967296:=bd 83
 have b5:-4294967296<=c/\c<=4294967296:=bd 67
 have b6:-4294967296<=n/\n<=4294967296:=bd 78
 clear bd
 simp (config:={maxSteps:=1000000}) (disch:=first|assumption|omega|(apply ab;omega)|(apply aa;assumption)|(simp only[au]<;>omega)) only[go_sem,seval,h1.wf,g1]
 refine bZ _ [] (by simp) ?_ .nils ?_ [100,115,98] (by simp) _ ?_ ?_ ?_ ?_
 ·simp
 ·exact Sl.nil
 ·simp (config:={maxSteps:=1000000}) (disch:=first|assumption|omega|(apply ab;omega)|(apply aa;assumption)|(simp only[au]<;>omega)) only[go_sem,seval]
 ·simp (config:={maxSteps:=1000000}) (disch:=first|assumption|omega|(apply ab;omega)|(apply aa;assumption)|(simp only[au]<;>omega)) only[go_sem,seval]
 ·simp (config:={maxSteps:=1000000}) (disch:=first|assumption|omega|(apply ab;omega)|(apply aa;assumption)|(simp only[au]<;>omega)) only[go_sem,seval]
 ·intro t' g
  simp (config:={maxSteps:=1000000}) (disch:=first|assumption|omega|(apply ab;omega)|(apply aa;assumption)|(simp only[au]<;>omega)) only[go_sem,seval,g]
  refine hK _ _ ⟨?_, ?_⟩
  ·simp only[aK,hr]
   rfl
  ·exact jK (hC0.trans hC1 (by simp)) (ap rfl)
set_option maxRecDepth 100000 in
set_option maxHeartbeats 8000000 in
theorem BA (m:NH) (d a b s c n:Int) (hr:aO ⟨20,d,a,b,s,c,n⟩=true):∃v m',bo Tryd.prog S0 10 [.agg [ii 20,ii d,ii a,ii b,ii s,ii c,ii n]] m v m'/\v= .str (aK ⟨20,d,a,b,s,c,n⟩)/\Chg [] m m':=by
 refine WF.ex fun K hK=> ?_
 refine WF.of_wpG (fun _=>rfl) aV (L:= [(.e,.agg [ii 20,ii d,ii a,ii b,ii s,ii c,ii n])]) rfl ?_
 unfold cQ
 obtain ⟨v,m1,h1,hv,hC1⟩:=bi (hp [(AK.n 0,NO.cells true [ii 20,ii d,ii a,ii b,ii s,ii c,ii n])] 1 m) ⟨20,d,a,b,s,c,n⟩
 subst hv
 rw[hr] at h1
 simp only[Ins.cells] at h1
 have g0:(hp [(AK.n 0,NO.cells true [ii 20,ii d,ii a,ii b,ii s,ii c,ii n])] 1 m).get (na m 0)=some (.cells true [ii 20,ii d,ii a,ii b,ii s,ii c,ii n]):=aH
 have o0:bQ (hp [(AK.n 0,NO.cells true [ii 20,ii d,ii a,ii b,ii s,ii c,ii n])] 1 m) (na m 0):=ab (by omega)
 have hC0:Chg [] m (hp [(AK.n 0,NO.cells true [ii 20,ii d,ii a,ii b,ii s,ii c,ii n])] 1 m):=ap rfl
 have g1:=(hC1.get o0 (by simp)).trans g0
 have o1:=hC1.old o0
 have bd:=aP hr
 have b1:-4294967296<=d/\d<=4294967296:=bd 68
 have b2:-4294967296<=a/\a<=4294967296:=bd 65
 have b3:-4294967296<=b/\b<=4294967296:=bd 66
 have b4:-4294967296<=s/\s<=4294967296:=bd 83
 have b5:-4294967296<=c/\c<=4294967296:=bd 67
 have b6:-4294967296<=n/\n<=4294967296:=bd 78
 clear bd
 simp (config:={maxSteps:=1000000}) (disch:=first|assumption|omega|(apply ab;omega)|(apply aa;assumption)|(simp only[au]<;>omega)) only[go_sem,seval,h1.wf,g1]
 refine bZ _ [a] (by simp) ?_ (.slc (na m1 1) 0 1 1 1) ?_ [99,118,97,112] (by simp) _ ?_ ?_ ?_ ?_
 ·simp only[Ha,G9,or_false,forall_eq_or_imp,forall_eq];omega
 ·exact (fJ.of (B:=m1) (C:=([a]:List Int).map fun x=> [ii x]) (by simp) aY aH (ab (by omega)) rfl rfl rfl).sl
 ·simp (config:={maxSteps:=1000000}) (disch:=first|assumption|omega|(apply ab;omega)|(apply aa;assumption)|(simp only[au]<;>omega)) only[go_sem,seval]
 ·simp (config:={maxSteps:=1000000}) (disch:=first|assumption|omega|(apply ab;omega)|(apply aa;assumption)|(simp only[au]<;>omega)) only[go_sem,seval]
 ·simp (config:={maxSteps:=1000000}) (disch:=first|assumption|omega|(apply ab;omega)|(apply aa;assumption)|(simp only[au]<;>omega)) only[go_sem,seval]
 ·intro t' g
  simp (config:={maxSteps:=1000000}) (disch:=first|assumption|omega|(apply ab;omega)|(apply aa;assumption)|(simp only[au]<;>omega)) only[go_sem,seval,g]
  refine hK _ _ ⟨?_, ?_⟩
  ·simp only[aK,hr]
   rfl
  ·exact jK (hC0.trans hC1 (by simp)) (ap rfl)
set_option maxRecDepth 100000 in
set_option maxHeartbeats 8000000 in
theorem An (m:NH) (d a b s c n:Int) (hr:aO ⟨21,d,a,b,s,c,n⟩=true):∃v m',bo Tryd.prog S0 10 [.agg [ii 21,ii d,ii a,ii b,ii s,ii c,ii n]] m v m'/\v= .str (aK ⟨21,d,a,b,s,c,n⟩)/\Chg [] m m':=by
 refine WF.ex fun K hK=> ?_
 refine WF.of_wpG (fun _=>rfl) aV (L:= [(.e,.agg [ii 21,ii d,ii a,ii b,ii s,ii c,ii n])]) rfl ?_
 unfold cQ
 obtain ⟨v,m1,h1,hv,hC1⟩:=bi (hp [(AK.n 0,NO.cells true [ii 21,ii d,ii a,ii b,ii s,ii c,ii n])] 1 m) ⟨21,d,a,b,s,c,n⟩
 subst hv
 rw[hr] at h1
 simp only[Ins.cells] at h1
 have g0:(hp [(AK.n 0,NO.cells true [ii 21,ii d,ii a,ii b,ii s,ii c,ii n])] 1 m).get (na m 0)=some (.cells true [ii 21,ii d,ii a,ii b,ii s,ii c,ii n]):=aH
 have o0:bQ (hp [(AK.n 0,NO.cells true [ii 21,ii d,ii a,ii b,ii s,ii c,ii n])] 1 m) (na m 0):=ab (by omega)
 have hC0:Chg [] m (hp [(AK.n 0,NO.cells true [ii 21,ii d,ii a,ii b,ii s,ii c,ii n])] 1 m):=ap rfl
 have g1:=(hC1.get o0 (by simp)).trans g0
 have o1:=hC1.old o0
 have bd:=aP hr
 have b1:-4294967296<=d/\d<=4294967296:=bd 68
 have b2:-4294967296<=a/\a<=4294967296:=bd 65
 have b3:-4294967296<=b/\b<=4294967296:=bd 66
 have b4:-4294967296<=s/\s<=4294967296:=bd 83
 have b5:-4294967296<=c/\c<=4294967296:=bd 67
 have b6:-4294967296<=n/\n<=4294967296:=bd 78
 clear bd
 simp (config:={maxSteps:=1000000}) (disch:=first|assumption|omega|(apply ab;omega)|(apply aa;assumption)|(simp only[au]<;>omega)) only[go_sem,seval,h1.wf,g1]
 refine bZ _ [] (by simp) ?_ .nils ?_ [110,111,112] (by simp) _ ?_ ?_ ?_ ?_
 ·simp
 ·exact Sl.nil
 ·simp (config:={maxSteps:=1000000}) (disch:=first|assumption|omega|(apply ab;omega)|(apply aa;assumption)|(simp only[au]<;>omega)) only[go_sem,seval]
 ·simp (config:={maxSteps:=1000000}) (disch:=first|assumption|omega|(apply ab;omega)|(apply aa;assumption)|(simp only[au]<;>omega)) only[go_sem,seval]
 ·simp (config:={maxSteps:=1000000}) (disch:=first|assumption|omega|(apply ab;omega)|(apply aa;assumption)|(simp only[au]<;>omega)) only[go_sem,seval]
 ·intro t' g
  simp (config:={maxSteps:=1000000}) (disch:=first|assumption|omega|(apply ab;omega)|(apply aa;assumption)|(simp only[au]<;>omega)) only[go_sem,seval,g]
  refine hK _ _ ⟨?_, ?_⟩
  ·simp only[aK,hr]
   rfl
  ·exact jK (hC0.trans hC1 (by simp)) (ap rfl)
set_option maxRecDepth 100000 in
set_option maxHeartbeats 8000000 in
theorem Cd (m:NH) (d a b s c n:Int) (hr:aO ⟨22,d,a,b,s,c,n⟩=true):∃v m',bo Tryd.prog S0 10 [.agg [ii 22,ii d,ii a,ii b,ii s,ii c,ii n]] m v m'/\v= .str (aK ⟨22,d,a,b,s,c,n⟩)/\Chg [] m m':=by
 refine WF.ex fun K hK=> ?_
 refine WF.of_wpG (fun _=>rfl) aV (L:= [(.e,.agg [ii 22,ii d,ii a,ii b,ii s,ii c,ii n])]) rfl ?_
 unfold cQ
 obtain ⟨v,m1,h1,hv,hC1⟩:=bi (hp [(AK.n 0,NO.cells true [ii 22,ii d,ii a,ii b,ii s,ii c,ii n])] 1 m) ⟨22,d,a,b,s,c,n⟩
 subst hv
 rw[hr] at h1
 simp only[Ins.cells] at h1
 have g0:(hp [(AK.n 0,NO.cells true [ii 22,ii d,ii a,ii b,ii s,ii c,ii n])] 1 m).get (na m 0)=some (.cells true [ii 22,ii d,ii a,ii b,ii s,ii c,ii n]):=aH
 have o0:bQ (hp [(AK.n 0,NO.cells true [ii 22,ii d,ii a,ii b,ii s,ii c,ii n])] 1 m) (na m 0):=ab (by omega)
 have hC0:Chg [] m (hp [(AK.n 0,NO.cells true [ii 22,ii d,ii a,ii b,ii s,ii c,ii n])] 1 m):=ap rfl
 have g1:=(hC1.get o0 (by simp)).trans g0
 have o1:=hC1.old o0
 have bd:=aP hr
 have b1:-4294967296<=d/\d<=4294967296:=bd 68
 have b2:-4294967296<=a/\a<=4294967296:=bd 65
 have b3:-4294967296<=b/\b<=4294967296:=bd 66
 have b4:-4294967296<=s/\s<=4294967296:=bd 83
 have b5:-4294967296<=c/\c<=4294967296:=bd 67
 have b6:-4294967296<=n/\n<=4294967296:=bd 78
 clear bd
 simp (config:={maxSteps:=1000000}) (disch:=first|assumption|omega|(apply ab;omega)|(apply aa;assumption)|(simp only[au]<;>omega)) only[go_sem,seval,h1.wf,g1]
 refine bZ _ [] (by simp) ?_ .nils ?_ [104,108,116] (by simp) _ ?_ ?_ ?_ ?_
 ·simp
 ·exact Sl.nil
 ·simp (config:={maxSteps:=1000000}) (disch:=first|assumption|omega|(apply ab;omega)|(apply aa;assumption)|(simp only[au]<;>omega)) only[go_sem,seval]
 ·simp (config:={maxSteps:=1000000}) (disch:=first|assumption|omega|(apply ab;omega)|(apply aa;assumption)|(simp only[au]<;>omega)) only[go_sem,seval]
 ·simp (config:={maxSteps:=1000000}) (disch:=first|assumption|omega|(apply ab;omega)|(apply aa;assumption)|(simp only[au]<;>omega)) only[go_sem,seval]
 ·intro t' g
  simp (config:={maxSteps:=1000000}) (disch:=first|assumption|omega|(apply ab;omega)|(apply aa;assumption)|(simp only[au]<;>omega)) only[go_sem,seval,g]
  refine hK _ _ ⟨?_, ?_⟩
  ·simp only[aK,hr]
   rfl
  ·exact jK (hC0.trans hC1 (by simp)) (ap rfl)
set_option maxRecDepth 100000 in
set_option maxHeartbeats 8000000 in
theorem BB (m:NH) (d a b s c n:Int) (hr:aO ⟨23,d,a,b,s,c,n⟩=true):∃v m',bo Tryd.prog S0 10 [.agg [ii 23,ii d,ii a,ii b,ii s,ii c,ii n]] m v m'/\v= .str (aK ⟨23,d,a,b,s,c,n⟩)/\Chg [] m m':=by
 refine WF.ex fun K hK=> ?_
 refine WF.of_wpG (fun _=>rfl) aV (L:= [(.e,.agg [ii 23,ii d,ii a,ii b,ii s,ii c,ii n])]) rfl ?_
 unfold cQ
 obtain ⟨v,m1,h1,hv,hC1⟩:=bi (hp [(AK.n 0,NO.cells true [ii 23,ii d,ii a,ii b,ii s,ii c,ii n])] 1 m) ⟨23,d,a,b,s,c,n⟩
 subst hv
 rw[hr] at h1
 simp only[Ins.cells] at h1
 have g0:(hp [(AK.n 0,NO.cells true [ii 23,ii d,ii a,ii b,ii s,ii c,ii n])] 1 m).get (na m 0)=some (.cells true [ii 23,ii d,ii a,ii b,ii s,ii c,ii n]):=aH
 have o0:bQ (hp [(AK.n 0,NO.cells true [ii 23,ii d,ii a,ii b,ii s,ii c,ii n])] 1 m) (na m 0):=ab (by omega)
 have hC0:Chg [] m (hp [(AK.n 0,NO.cells true [ii 23,ii d,ii a,ii b,ii s,ii c,ii n])] 1 m):=ap rfl
 have g1:=(hC1.get o0 (by simp)).trans g0
 have o1:=hC1.old o0
 have bd:=aP hr
 have b1:-4294967296<=d/\d<=4294967296:=bd 68
 have b2:-4294967296<=a/\a<=4294967296:=bd 65
 have b3:-4294967296<=b/\b<=4294967296:=bd 66
 have b4:-4294967296<=s/\s<=4294967296:=bd 83
 have b5:-4294967296<=c/\c<=4294967296:=bd 67
 have b6:-4294967296<=n/\n<=4294967296:=bd 78
 clear bd
 simp (config:={maxSteps:=1000000}) (disch:=first|assumption|omega|(apply ab;omega)|(apply aa;assumption)|(simp only[au]<;>omega)) only[go_sem,seval,h1.wf,g1]
 refine bZ _ [] (by simp) ?_ .nils ?_ [115,118,99] (by simp) _ ?_ ?_ ?_ ?_
 ·simp
 ·exact Sl.nil
 ·simp (config:={maxSteps:=1000000}) (disch:=first|assumption|omega|(apply ab;omega)|(apply aa;assumption)|(simp only[au]<;>omega)) only[go_sem,seval]
 ·simp (config:={maxSteps:=1000000}) (disch:=first|assumption|omega|(apply ab;omega)|(apply aa;assumption)|(simp only[au]<;>omega)) only[go_sem,seval]
 ·simp (config:={maxSteps:=1000000}) (disch:=first|assumption|omega|(apply ab;omega)|(apply aa;assumption)|(simp only[au]<;>omega)) only[go_sem,seval]
 ·intro t' g
  simp (config:={maxSteps:=1000000}) (disch:=first|assumption|omega|(apply ab;omega)|(apply aa;assumption)|(simp only[au]<;>omega)) only[go_sem,seval,g]
  refine hK _ _ ⟨?_, ?_⟩
  ·simp only[aK,hr]
   rfl
  ·exact jK (hC0.trans hC1 (by simp)) (ap rfl)
end LI
open Go Nm Go.Proofs
namespace LI
theorem tK (m:NH) (i:Ins):∃v m',bo Tryd.prog S0 10 [.agg i.cells] m v m'/\v= .str (aK i)/\Chg [] m m':=by
 obtain ⟨k,d,a,b,s,c,n⟩:=i
 cases hr:aO ⟨k,d,a,b,s,c,n⟩ with
 |false=>
  refine WF.ex fun K hK=> ?_
  refine WF.of_wpG (fun _=>rfl) aV (L:= [(.e,.agg [ii k,ii d,ii a,ii b,ii s,ii c,ii n])]) rfl ?_
  unfold cQ
  obtain ⟨v,m1,h1,hv,hC1⟩:=bi (hp [(AK.n 0,NO.cells true [ii k,ii d,ii a,ii b,ii s,ii c,ii n])] 1 m) ⟨k,d,a,b,s,c,n⟩
  subst hv
  rw[hr] at h1
  simp only[Ins.cells] at h1
  have hC0:Chg [] m (hp [(AK.n 0,NO.cells true [ii k,ii d,ii a,ii b,ii s,ii c,ii n])] 1 m):=ap rfl
  simp (config:={maxSteps:=1000000}) (disch:=first|assumption|omega|(apply ab;omega)|(apply aa;assumption)|(simp only[au]<;>omega)) only[go_sem,seval,h1.wf]
  refine hK _ _ ⟨?_, ?_⟩
  ·simp[aK,hr]
  ·rw[aG];exact jK hC0 hC1
 |true=>
  have hk:0<=k/\k<24:=by simp only[aO,Bool.and_eq_true,decide_eq_true_eq] at hr;exact hr.1
  have hc:k=0∨k=1∨k=2∨k=3∨k=4∨k=5∨k=6∨k=7∨k=8∨k=9∨k=10∨k=11∨k=12∨k=13∨k=14∨k=15∨k=16∨k=17∨k=18∨k=19∨k=20∨k=21∨k=22∨k=23:=by omega
  rcases hc with rfl|rfl|rfl|rfl|rfl|rfl|rfl|rfl|rfl|rfl|rfl|rfl|rfl|rfl|rfl|rfl|rfl|rfl|rfl|rfl|rfl|rfl|rfl|rfl
  ·exact Ev m d a b s c n hr
  ·exact zX m d a b s c n hr
  ·exact D7 m d a b s c n hr
  ·exact CQ m d a b s c n hr
  ·exact Er m d a b s c n hr
  ·exact D9 m d a b s c n hr
  ·exact CT m d a b s c n hr
  ·exact Ex m d a b s c n hr
  ·exact Do m d a b s c n hr
  ·exact DL m d a b s c n hr
  ·exact Az m d a b s c n hr
  ·exact Cp m d a b s c n hr
  ·exact Bh m d a b s c n hr
  ·exact Ca m d a b s c n hr
  ·exact Cl m d a b s c n hr
  ·exact AJ m d a b s c n hr
  ·exact Aq m d a b s c n hr
  ·exact AG m d a b s c n hr
  ·exact BT m d a b s c n hr
  ·exact AZ m d a b s c n hr
  ·exact BA m d a b s c n hr
  ·exact An m d a b s c n hr
  ·exact Cd m d a b s c n hr
  ·exact BB m d a b s c n hr
end LI
open Go Nm Go.Proofs
namespace LI
def bM (c:Nat):List Nat->List (List Nat)
 | []=> [[]]
 |x::l=>if x=c then []::bM c l else (match bM c l with|p::ps=>(x::p)::ps| []=> [[x]])
def ef (c:Nat):List Nat->Nat
 | []=>0
 |x::l=>if x=c then ef c l+1 else ef c l
def ee (c:Nat):List Nat->Option Nat
 | []=>none
 |x::l=>if x=c then some 0 else (ee c l).map (·+1)
theorem li (c x:Nat) (l:List Nat):ee c (x::l)=if x=c then some 0 else (ee c l).map (·+1):=rfl
theorem en (c x:Nat) (l:List Nat):ef c (x::l)=if x=c then ef c l+1 else ef c l:=rfl
theorem dI (c x:Nat) (l:List Nat):bM c (x::l)=if x=c then []::bM c l else (match bM c l with|p::ps=>(x::p)::ps| []=> [[x]]):=rfl
theorem vo (c:Nat):∀(l:List Nat) (i:Nat),lA c l i=(ee c l).map (·+i):=by
 intro l
 induction l with
 |nil=>intro i;rfl
 |cons x l ih=>
  intro i
  have e:lA c (x::l) i=cond (Nat.beq x c) (some i) (ai (Nat.succ i) (lA c l)):=rfl
  rw[e,ae,ih]
  rw[li]
  cases h:Nat.beq x c with
  |true=>rw[G6 (Hb h)];simp
  |false=>
   rw[G5 (Nat.ne_of_beq_eq_false h)]
   simp only[cond_false]
   cases ee c l with
   |none=>rfl
   |some j=>simp;omega
theorem xX (c:Nat):∀(l:List Nat) (n:Nat),lI c l n=n+ef c l:=by
 intro l
 induction l with
 |nil=>intro n;rfl
 |cons x l ih=>
  intro n
  have e:lI c (x::l) n=cond (Nat.beq x c) (ai (Nat.succ n) (lI c l)) (lI c l n):=rfl
  rw[e,ae]
  rw[en]
  cases h:Nat.beq x c with
  |true=>rw[G6 (Hb h),cond_true,ih];omega
  |false=>rw[G5 (Nat.ne_of_beq_eq_false h),cond_false,ih]
theorem nT {c:Nat}:∀{l:List Nat} {j:Nat},ee c l=some j->j<l.length/\bM c l=l.take j::bM c (l.drop (j+1))/\ef c l=ef c (l.drop (j+1))+1:=by
 intro l
 induction l with
 |nil=>intro j h;cases h
 |cons x l ih=>
  intro j h
  rw[li] at h
  split at h
  ·rename_i hx
   cases h
   rw[dI,en,G6 hx,G6 hx]
   simp
  ·rename_i hx
   cases hf:ee c l with
   |none=>rw[hf] at h;cases h
   |some i=>
    rw[hf] at h
    obtain rfl:i+1=j:=by simpa using h
    obtain ⟨h1,h2,h3⟩:=ih hf
    rw[dI,en,G5 hx,G5 hx,h2]
    simp[h3];omega
theorem oc {c:Nat}:∀{l:List Nat},ee c l=none->bM c l= [l]/\ef c l=0:=by
 intro l
 induction l with
 |nil=>intro _;exact ⟨rfl,rfl⟩
 |cons x l ih=>
  intro h
  rw[li] at h
  split at h
  ·cases h
  ·rename_i hx
   cases hf:ee c l with
   |none=>
    obtain ⟨h1,h2⟩:=ih hf
    rw[dI,en,G5 hx,G5 hx,h1]
    exact ⟨rfl,h2⟩
   |some i=>rw[hf] at h;cases h
theorem iF (c:Nat):∀(l:List Nat),(bM c l).length=ef c l+1:=by
 intro l
 induction l with
 |nil=>rfl
 |cons x l ih=>
  rw[dI,en]
  split
  ·simp[ih]
  ·cases hs:bM c l with
   |nil=>rw[hs] at ih;simp at ih
   |cons p ps=>rw[hs] at ih;simpa using ih
theorem wd (c:Nat):∀(l:List Nat),ef c l<=l.length:=by
 intro l
 induction l with
 |nil=>simp[ef]
 |cons x l ih=>rw[en];split<;>simp<;>omega
def xp (o:Option Nat):Int:=match o with|some j=>j|none=>-1
theorem yT:am Tryd.prog 138=some (.ext .idxByte):=by kernel_rfl
theorem yP:am Tryd.prog 96=some (.ext .cntByte):=by kernel_rfl
theorem zm (m:NH) (s:List Nat) (c:Nat) (hc:c<256):bo Tryd.prog S0 96 [.str s,u8 c] m (ii (ef c s)) m:=by
 refine bo.ext rfl yP ?_
 show cond (Nat.ble c 255) (some (NV.int .i64 (.lit (.ofNat (lI c s 0))))) none=_
 rw[Nat.ble_eq_true_of_le (by omega),xX,Nat.zero_add];rfl
theorem A3 (m:NH) (s:List Nat) (c:Nat) (hc:c<256):bo Tryd.prog S0 138 [.str s,u8 c] m (ii (xp (ee c s))) m:=by
 refine bo.ext rfl yT ?_
 show cond (Nat.ble c 255) (match lA c s 0 with|some i=>some (NV.int .i64 (.lit (.ofNat i)))|none=>some (.int .i64 (.lit (.negSucc 0)))) none=_
 rw[Nat.ble_eq_true_of_le (by omega),vo]
 cases ee c s<;>rfl
theorem wM (m:NH) (s:List Nat) (c:Nat) (hc:c<256):bo Tryd.prog S0 125 [.str s,u8 c] m (ii (xp (ee c s))) m:=by
 have h:∃u m',bo Tryd.prog S0 125 [.str s,u8 c] m u m'/\u=ii (xp (ee c s))/\m'=m:=by
  refine WF.ex fun K hK=> ?_
  refine WF.of_wpG (fun _=>rfl) nK (L:= [(.a .e,u8 c),(.e,.str s)]) rfl ?_
  unfold uQ
  simp (config:={maxSteps:=1000000}) (disch:=first|assumption|omega|(apply ab;omega)|(apply aa;assumption)|(simp only[au]<;>omega)) only[go_sem,seval,(A3 _ s c hc).wf']
  exact hK _ _ ⟨rfl,aG m⟩
 obtain ⟨v,m',h,rfl,rfl⟩:=h
 exact h
theorem uY (m:NH) (s:List Nat) (c:Nat) (hc:c<256):bo Tryd.prog S0 97 [.str s,.str [c]] m (ii (xp (ee c s))) m:=by
 have h:∃u m',bo Tryd.prog S0 97 [.str s,.str [c]] m u m'/\u=ii (xp (ee c s))/\m'=m:=by
  refine WF.ex fun K hK=> ?_
  refine WF.of_wpG (fun _=>rfl) rV (L:= [(.a .e,.str [c]),(.e,.str s)]) rfl ?_
  unfold Cf
  have hb: [c][0]? =some c:=rfl
  have hl1: [c].length=1:=rfl
  by_cases hcs: [c]=s
  ·subst hcs
   simp (config:={maxSteps:=1000000}) (disch:=first|assumption|omega|(apply ab;omega)|(apply aa;assumption)|(simp only[au]<;>omega)) only[go_sem,seval,hb,hl1]
   refine hK _ _ ⟨?_,aG m⟩
   simp[xp,ee]
  ·simp (config:={maxSteps:=1000000}) (disch:=first|assumption|omega|(apply ab;omega)|(apply aa;assumption)|(simp only[au]<;>omega)) only[go_sem,seval,hb,hl1,G7 hcs,(wM _ s c hc).wf']
   exact hK _ _ ⟨rfl,aG m⟩
 obtain ⟨v,m',h,rfl,rfl⟩:=h
 exact h
theorem yH (m:NH) (s:List Nat) (c:Nat) (hc:c<256):bo Tryd.prog S0 71 [.str s,.str [c]] m (ii (xp (ee c s))) m:=by
 have h:∃u m',bo Tryd.prog S0 71 [.str s,.str [c]] m u m'/\u=ii (xp (ee c s))/\m'=m:=by
  refine WF.ex fun K hK=> ?_
  refine WF.of_wpG (fun _=>rfl) rW (L:= [(.a .e,.str [c]),(.e,.str s)]) rfl ?_
  unfold B9
  simp (config:={maxSteps:=1000000}) (disch:=first|assumption|omega|(apply ab;omega)|(apply aa;assumption)|(simp only[au]<;>omega)) only[go_sem,seval,(uY _ s c hc).wf']
  exact hK _ _ ⟨rfl,aG m⟩
 obtain ⟨v,m',h,rfl,rfl⟩:=h
 exact h
theorem El (m:NH) (s:List Nat) (c:Nat) (hc:c<256):bo Tryd.prog S0 70 [.str s,.str [c]] m (ii (ef c s)) m:=by
 have h:∃u m',bo Tryd.prog S0 70 [.str s,.str [c]] m u m'/\u=ii (ef c s)/\m'=m:=by
  refine WF.ex fun K hK=> ?_
  refine WF.of_wpG (fun _=>rfl) rS (L:= [(.a .e,.str [c]),(.e,.str s)]) rfl ?_
  unfold Ba
  have hb: [c][0]? =some c:=rfl
  have hl1: [c].length=1:=rfl
  simp (config:={maxSteps:=1000000}) (disch:=first|assumption|omega|(apply ab;omega)|(apply aa;assumption)|(simp only[au]<;>omega)) only[go_sem,seval,hb,hl1,(zm _ s c hc).wf']
  exact hK _ _ ⟨rfl,aG m⟩
 obtain ⟨v,m',h,rfl,rfl⟩:=h
 exact h
end LI
open Go Nm Go.Proofs
namespace LI
theorem gq {k:D4} {L:List (D4×NV)} {t:Tm} {v:Option NV} (h:ei k L (NT.get k t)=v):NT.get k (aE L t)=v:=(fK k L t).trans h
theorem one {a b:D4} (h:a∈ [b]):a=b:=by simpa using h
section
variable {l:List (AK×NO)} {k j:Nat} {m M:NH} {id:D4} {o:NO} {S:List D4}
theorem Bv (ho:bQ m id) (h:hp ((.o id,o)::l) k m=M):M.get id=some o:=by rw[←h];exact (pP ho).trans nV
theorem kI (h:hp l k m=M) (hs:pE l=S):Chg S m M:=by rw[←h];exact ap hs
theorem uy (h:hp l k m=M) (hj:j<k):bQ M (na m j):=by rw[←h];exact ab hj
theorem vJ (h:hp l k m=M):M.get (na m j)=jB j l (m.get (na m j)):=by rw[←h];exact aH
end
theorem take_set {α:Type} {i:Nat} {x:α}:∀{l:List α},i<l.length->(l.set i x).take (i+1)=l.take i++ [x]:=by
 induction i with
 |zero=>intro l h;cases l with|nil=>simp at h|cons a l=>simp
 |succ i ih=>intro l h;cases l with|nil=>simp at h|cons a l=>simp;exact ih (by simpa using h)
theorem n5:∀(P:List (List Nat)),(P.map fun p=> [NV.str p]).flatten=P.map .str:=by
 intro P
 induction P with
 |nil=>rfl
 |cons a P ih=>rw[List.map_cons,List.flatten_cons,ih];rfl
set_option maxHeartbeats 8000000 in
theorem pA (m:NH) (s:List Nat) (hs:s.length<=1000000):∃v m',bo Tryd.prog S0 43 [.str s,.str [32],ii 0,ii (-1)] m v m'/\fJ m m' v 1 ((bM 32 s).map fun p=> [.str p])/\Chg [] m m':=by
 refine WF.ex fun K hK=> ?_
 refine WF.of_wpG (fun _=>rfl) rz (L:= [(.c .e,ii (-1)),(.b .e,ii 0),(.a .e,.str [32]),(.e,.str s)]) rfl ?_
 unfold AN
 have hcl:=wd 32 s
 have hne:decide ([32]=([]:List Nat))=false:=rfl
 have hmin:min ((ef 32 s:Int)+1) ((s.length:Int)+1)=((ef 32 s+1:Nat):Int):=by omega
 have e2:((ef 32 s+1:Nat):Int) - 1=(ef 32 s:Int):=by omega
 have hsl:=iF 32 s
 simp (config:={maxSteps:=1000000}) (disch:=first|assumption|omega|(apply ab;omega)|(apply aa;assumption)|(simp only[au]<;>omega)) only[go_sem,seval,(El _ s 32 (by omega)).wf',hne,hmin,e2]
 generalize hn:ef 32 s=n at *
 generalize hM0:hp _ 1 m=M0
 have hC0:Chg [] m M0:=kI hM0 rfl
 have hg0:M0.get (na m 0)=_:=(vJ hM0).trans rfl
 have ho0:bQ M0 (na m 0):=uy hM0 (by omega)
 refine W.loop (fun k d=>∃(t':Tm) (M:NH) (r:List Nat) (i:Nat) (P:List (List Nat)) (cc:List NV),d=⟨t', [],none,M⟩/\NT.get .e t'=some (.str r)/\NT.get (.a .e) t'=some (.str [32])/\NT.get (.b .e) t'=some (ii 0)/\NT.get (.b (.b .e)) t'=some (ii i)/\NT.get (.c .e) t'=some (ii n)/\NT.get (.a (.b .e)) t'=some (.slc (na m 0) 0 (n+1) 1 (n+1))/\
  bM 32 s=P++bM 32 r/\P.length=i/\cc.take i=P.map .str/\cc.length=n+1/\ef 32 r+i=n/\r.length<=1000000/\i+k=n/\M.get (na m 0)=some (.cells true cc)/\bQ M (na m 0)/\Chg [] m M) ?_ n _ ⟨_,M0,s,0, [],_,rfl,by exact gq rfl,by exact gq rfl,by exact gq rfl,by exact gq rfl,by exact gq rfl,by exact gq rfl,rfl,rfl,rfl,by rw[kF];simp,by omega,hs,by omega,hg0,ho0,hC0⟩
 rintro k d ⟨t',M,r,i,P,cc,rfl,g1,g2,g6,g3,g4,g5,hP,hPl,hcc,hcl',hci,hrl,hik,hg,ho,hC⟩
 apply eh
 unfold rJ
 change wp _ _ _ _ ⟨aE [] t', [],none,_⟩ _
 rw[←aG M]
 have hx:=fun m=>yH m r 32 (by omega)
 by_cases hi:i<n
 ·cases hf:ee 32 r with
  |none=>have:=(oc hf).2;omega
  |some j=>
   obtain ⟨f1,f2,f3⟩:=nT hf
   rw[hf] at hx
   simp only[xp] at hx
   have hl1: [32].length=1:=rfl
   have hi1:i*1=i:=Nat.mul_one i
   have ej:((j:Int)+0).toNat=j:=by omega
   have ej1:((j:Int)+1).toNat=j+1:=by omega
   have ei1:(i:Int)+1=((i+1:Nat):Int):=by omega
   simp (config:={maxSteps:=1000000}) (disch:=first|assumption|omega|(apply ab;omega)|(apply aa;assumption)|(simp only[au]<;>omega)) only[go_sem,seval,g1,g2,g3,g4,g5,g6,(hx _).wf,hl1,hg,hi1,ej,ej1,ei1,List.take_length]
   rw[aG M]
   generalize hM1:hp _ 0 M=M1
   have hC1:Chg [na m 0] M M1:=kI hM1 rfl
   refine ⟨k - 1,by omega,_,M1,r.drop (j+1),i+1,P++ [r.take j],_,rfl,by exact gq rfl,by exact gq g2,by exact gq g6,by exact gq rfl,by exact gq g4,by exact gq g5, ?_,by simp[hPl], ?_, ?_,by omega, ?_,by omega,Bv ho hM1,hC1.old ho,hC.trans hC1 fun i hi ho=> ?_⟩
   ·rw[hP,f2];simp
   ·rw[take_set (by omega),hcc];simp
   ·simpa using hcl'
   ·simp;omega
   ·have hi:=one hi;subst hi;exact G4 ho aY
 ·have e:i=n:=by omega
  have hfn:ee 32 r=none:=by
   cases hf:ee 32 r with
   |none=>rfl
   |some j=>have:=(nT hf).2.2;omega
  have hi1:i*1=i:=Nat.mul_one i
  have ei1:((i:Int)+1).toNat=i+1:=by omega
  simp (config:={maxSteps:=1000000}) (disch:=first|assumption|omega|(apply ab;omega)|(apply aa;assumption)|(simp only[au]<;>omega)) only[go_sem,seval,g1,g2,g3,g4,g5,g6,hi1,ei1,hg]
  generalize hM1:hp _ 0 M=M1
  have hC1:Chg [na m 0] M M1:=kI hM1 rfl
  refine hK _ _ ⟨?_,hC.trans hC1 fun i hi ho=> ?_⟩
  ·refine fJ.of (by simp) aY (Bv ho hM1) (hC1.old ho) ?_ ?_ ?_
   ·rw[hP,(oc hfn).1,←List.take_of_length_le (l:=cc.set i _) (i:=i+1) (by simp;omega),take_set (by omega),hcc]
    rw[List.map_append,List.flatten_append,n5]
    rfl
   ·simp[hsl,e]
   ·simp[hsl,e]
  ·have hi:=one hi;subst hi;exact G4 ho aY
end LI
open Go Nm Go.Proofs
namespace LI
theorem fQ {c X:List NV} {off e:Nat} (h:(c.drop off).take e=X) (j:Nat) (hj:j<X.length):c[off+j]? =some X[j]:=by
 subst h
 rw[List.getElem_take,List.getElem_drop]
 simp only[List.length_take,List.length_drop] at hj
 rw[List.getElem?_eq_getElem (by omega)]
def up (s:List Nat):List (List NV):=(bM 32 s).map fun p=> [.str p]
theorem zd (m:NH) (s:List Nat) (hs:s.length<=1000000):∃v m',bo Tryd.prog S0 26 [.str s,.str [32]] m v m'/\Sl m' v 1 (up s)/\Chg [] m m':=by
 refine WF.ex fun K hK=> ?_
 refine WF.of_wpG (fun _=>rfl) rA (L:= [(.a .e,.str [32]),(.e,.str s)]) rfl ?_
 unfold Cv
 obtain ⟨v,m',h,hv,hC⟩:=pA m s hs
 simp (config:={maxSteps:=1000000}) (disch:=first|assumption|omega|(apply ab;omega)|(apply aa;assumption)|(simp only[au]<;>omega)) only[go_sem,seval,aG,h.wf']
 exact hK _ _ ⟨hv.sl,hC⟩
theorem AW (m:NH) (p q:List Nat) (p0:List Nat) (P:List (List Nat)) (v:NV) (b:D4) (hb:m.get b=some (.cells true [v])) (ho:bQ m b) (hv:Sl m v 1 ((p0::P).map fun p=> [.str p])):
 ∃m',bo Tryd.prog S0 28 [.agg [.str p,.str q],.ptr b 0] m (.bool (decide (p=p0))) m'/\Chg [] m m':=by
 refine WF.ex1 fun K hK=> ?_
 refine WF.of_wpG (fun _=>rfl) rv (L:= [(.a .e,.ptr b 0),(.e,.agg [.str p,.str q])]) rfl ?_
 unfold Bk
 obtain ⟨id,off,w,c,a1,a2,a3,a4,a5⟩:=hv.at 0 (by simp)
 simp only[List.map_cons,List.getElem_cons_zero] at a5
 replace a1:sH 1 v (.int .i64 (.lit 0))= .val (.ptr id off):=a1
 have c0:c[off]? =some (.str p0):=fQ a5 0 (by simp)
 simp (config:={maxSteps:=1000000}) (disch:=first|assumption|omega|(apply ab;omega)|(apply aa;assumption)|(simp only[au]<;>omega)) only[go_sem,seval,hb,a1,a2,c0]
 refine hK _ ?_
 exact ap rfl
theorem Eo (m:NH) (vs v:NV) (b:D4) (p0:List Nat) (P:List (List Nat)) (hs:Sl m vs 2 bO) (hb:m.get b=some (.cells true [v])) (ho:bQ m b) (hv:Sl m v 1 ((p0::P).map fun p=> [.str p])):
 ∃r m',bo Tryd.prog S0 27 [vs,.fn 28 [.ptr b 0]] m r m'/\Chg [] m m'/\((r=ii (-1)/\∀x∈aU,x.1≠p0)∨∃n,∃hn:n<aU.length,r=ii (n:Nat)/\aU[n].1=p0):=by
 refine WF.ex fun K' hK'=> ?_
 refine WF.of_wpG (fun _=>rfl) rj (L:= [(.a .e,.fn 28 [.ptr b 0]),(.e,vs)]) rfl ?_
 unfold B3
 have hlen:=hs.len
 rw[show bO.length=aU.length by simp[bO]] at hlen
 simp (config:={maxSteps:=1000000}) (disch:=first|assumption|omega|(apply ab;omega)|(apply aa;assumption)|(simp only[au]<;>omega)) only[go_sem,seval,aG,hlen]
 refine W.loop (fun f q=>∃T M i,q=⟨T, [],none,M⟩/\NT.get D4.e T=some vs/\NT.get D4.e.a T=some (.fn 28 [.ptr b 0])/\NT.get D4.e.a.c T=some (ii (aU.length:Nat))/\NT.get D4.e.a.f T=some (ii (i:Nat))/\i+f=aU.length/\(∀x∈aU.take i,x.1≠p0)/\Chg [] m M) ?_ aU.length _ ⟨_,m,0,rfl,by exact gq rfl,by exact gq rfl,by exact gq rfl,by exact gq rfl,by omega,by simp,Chg.refl m⟩
 rintro f q ⟨T,M,i,rfl,t1,t2,t3,t4,hif,hg,hC⟩
 apply eh
 unfold ry
 change wp _ _ _ _ ⟨aE [] T, [],none,M⟩ _
 have h24:aU.length=24:=rfl
 by_cases hi:i<aU.length
 ·obtain ⟨id,off,w,c,a1,a2,a3,a4,a5⟩:=(hs.grew hC).at i (by simpa [bO] using hi)
  have e5:bO[i]'(by simpa [bO] using hi)= [.str (aU[i]'hi).1,.str (aU[i]'hi).2]:=by simp[bO]
  rw[e5] at a5
  have hb':=(hC.get ho (by simp)).trans hb
  obtain ⟨m2,r2,hC2⟩:=AW M (aU[i]'hi).1 (aU[i]'hi).2 p0 P v b hb' (hC.old ho) (hv.grew hC)
  cases hgo:decide ((aU[i]'hi).1=p0) with
  |true=>
   rw[hgo] at r2
   simp (config:={maxSteps:=1000000}) (disch:=first|assumption|omega|(apply ab;omega)|(apply aa;assumption)|(simp only[au]<;>omega)) only[go_sem,seval,aG,t1,t2,t3,t4,a1,a2,a5,r2.wf']
   exact hK' _ _ ⟨hC.trans hC2 (by simp),Or.inr ⟨i,hi,rfl,of_decide_eq_true hgo⟩⟩
  |false=>
   rw[hgo] at r2
   simp (config:={maxSteps:=1000000}) (disch:=first|assumption|omega|(apply ab;omega)|(apply aa;assumption)|(simp only[au]<;>omega)) only[go_sem,seval,aG,t1,t2,t3,t4,a1,a2,a5,r2.wf']
   refine ⟨f - 1,by omega,_,m2,i+1,by rfl,by exact gq t1,by exact gq t2,by exact gq t3,by exact gq rfl,by omega,fun x hx=> ?_,hC.trans hC2 (by simp)⟩
   rw[List.take_add_one,List.getElem?_eq_getElem hi,List.mem_append] at hx
   rcases hx with hx|hx
   ·exact hg x hx
   ·simp at hx;subst hx;exact of_decide_eq_false hgo
 ·simp (config:={maxSteps:=1000000}) (disch:=first|assumption|omega|(apply ab;omega)|(apply aa;assumption)|(simp only[au]<;>omega)) only[go_sem,seval,aG,t1,t2,t3,t4]
  rw[List.take_of_length_le (by omega)] at hg
  exact hK' _ _ ⟨hC,Or.inl ⟨rfl,hg⟩⟩
end LI
open Go Nm Go.Proofs
namespace LI
def Ins.set (i:Ins) (c:Nat) (v:Int):Ins:=if c=68 then {i with d:=v} else if c=65 then {i with a:=v} else if c=66 then {i with b:=v} else if c=83 then {i with s:=v} else if c=67 then {i with c:=v} else {i with n:=v}
noncomputable def hV:List (List Nat)->List Nat->Ins->Option Ins
 |p::ps,c::cs,i=>match ib p with| .ok v=>hV ps cs (i.set c v)|_=>none
 |_,_,i=>some i
theorem p8 (p:List Nat) (ps:List (List Nat)) (c:Nat) (cs:List Nat) (i:Ins):hV (p::ps) (c::cs) i=match ib p with| .ok v=>hV ps cs (i.set c v)|_=>none:=rfl
theorem sw (cs:List Nat) (i:Ins):hV [] cs i=some i:=by cases cs<;>rfl
def mz (k:Int):Ins:=⟨k,0,0,0,0,0,0⟩
noncomputable def j5 (s:List Nat) (P:List (List Nat)) (n:Nat) (nums:List Nat):Option Ins:=if P.length=nums.length then (match hV P nums (mz n) with|some i=>if aK i=s then some i else none|none=>none) else none
def ld (o:Option Ins):NV:=match o with|some i=> .tup [.agg i.cells,ii 0]|none=> .tup [.agg (mz 0).cells,ii 2]
theorem wx (s:List Nat):∃p P,bM 32 s=p::P:=by
 cases h:bM 32 s with
 |nil=>have:=iF 32 s;rw[h] at this;simp at this
 |cons p P=>exact ⟨p,P,rfl⟩
theorem tU (i:Ins) (c:Nat) (v:Int):i.cells.set (lE c) (ii v)=(i.set c v).cells:=by
 unfold lE Ins.set Ins.cells
 split
 ·rfl
 split
 ·rfl
 split
 ·rfl
 split
 ·rfl
 split<;>rfl
theorem wc (c:Nat):∀(l:List Nat),∀p∈bM c l,p.length<=l.length:=by
 intro l
 induction l with
 |nil=>intro p hp;simp[bM] at hp;subst hp;simp
 |cons x l ih=>
  intro p hp
  rw[dI] at hp
  split at hp
  ·rcases List.mem_cons.1 hp with rfl|hp
   ·simp
   ·have:=ih p hp;simp;omega
  ·cases hs:bM c l with
   |nil=>rw[hs] at hp;simp at hp;subst hp;simp
   |cons a ps=>
    rw[hs] at hp ih
    rcases List.mem_cons.1 hp with rfl|hp
    ·have:=ih a (List.mem_cons_self ..);simpa using this
    ·have:=ih p (List.mem_cons_of_mem _ hp);simp;omega
theorem yS (c:Nat):lE c+1<=7:=by
 unfold lE
 split
 ·decide
 split
 ·decide
 split
 ·decide
 split
 ·decide
 split<;>decide
set_option maxRecDepth 100000 in
set_option maxHeartbeats 8000000 in
theorem Ax (m:NH) (hT:Tb m) (s:List Nat) (hsz:s.length<=1000000) (p0:List Nat) (P:List (List Nat)) (hP:bM 32 s=p0::P):∃v m',bo Tryd.prog S0 12 [.str s] m v m'/\(((∀x∈aU,x.1≠p0)/\v=ld none)∨∃n,∃hn:n<aU.length,aU[n].1=p0/\v=ld (j5 s P n aU[n].2))/\Chg [] m m':=by
 refine WF.ex fun K hK=> ?_
 refine WF.of_wpG (fun _=>rfl) sa (L:= [(.e,.str s)]) rfl ?_
 unfold Cc
 generalize hM0:hp [(AK.n 0,NO.cells true [ii 0,ii 0,ii 0,ii 0,ii 0,ii 0,ii 0])] 1 m=M0
 have C0:Chg [] m M0:=kI hM0 rfl
 have g0:M0.get (na m 0)=_:=(vJ hM0).trans rfl
 have o0:bQ M0 (na m 0):=uy hM0 (by omega)
 obtain ⟨vp,M1,r1,hv1,C1⟩:=zd M0 s hsz
 rw[up,hP] at hv1
 have g1:=(C1.get o0 (by simp)).trans g0
 have o1:=C1.old o0
 rw[←hM0] at r1
 simp (config:={maxSteps:=1000000}) (disch:=first|assumption|omega|(apply ab;omega)|(apply aa;assumption)|(simp only[au]<;>omega)) only[go_sem,seval,r1.wf,hv1.one]
 generalize hM2:hp _ 1 M1=M2
 have C2:Chg [] M1 M2:=kI hM2 rfl
 have q2:M2.get (na M1 0)=_:=(vJ hM2).trans rfl
 have p2:bQ M2 (na M1 0):=uy hM2 (by omega)
 have g2:=(C2.get o1 (by simp)).trans g1
 have o2:=C2.old o1
 have hv2:=hv1.grew C2
 obtain ⟨vs,M3,r3,hs3,C3⟩:=hY M2
 have g3:=(C3.get o2 (by simp)).trans g2
 have o3:=C3.old o2
 have q3:=(C3.get p2 (by simp)).trans q2
 have p3:=C3.old p2
 have hv3:=hv2.grew C3
 obtain ⟨ix,M4,r4,C4,hix⟩:=Eo M3 vs vp (na M1 0) p0 P hs3 q3 p3 hv3
 have g4:=(C4.get o3 (by simp)).trans g3
 have o4:=C4.old o3
 have q4:=(C4.get p3 (by simp)).trans q3
 have p4:=C4.old p3
 have hv4:=hv3.grew C4
 have CC4:Chg [] m M4:=(((C0.trans C1 (by simp)).trans C2 (by simp)).trans C3 (by simp)).trans C4 (by simp)
 have e10:(-1:Int)<0:=by omega
 rcases hix with ⟨rfl,hno⟩|⟨n,hn,rfl,hnm⟩
 ·simp (config:={maxSteps:=1000000}) (disch:=first|assumption|omega|(apply ab;omega)|(apply aa;assumption)|(simp only[au]<;>omega)) only[go_sem,seval,r3.wf',r4.wf,g4]
  refine hK _ _ ⟨Or.inl ⟨hno,rfl⟩,CC4.trans (T:= [na m 0]) (ap rfl) fun i hi ho=> ?_⟩
  have hi:=one hi;subst hi;exact G4 ho aY
 ·have hPl:P.length<=1000000:=by
   have h1:=iF 32 s;rw[hP] at h1;have h2:=wd 32 s;simp at h1;omega
  have hl4:Ck vp= .val (.int .i64 (.lit ((P.length:Int)+1))):=by
   rw[hv4.len];simp
  obtain ⟨v5,M5,r5,hs5,C5⟩:=hY M4
  have hsn:n<bO.length:=by simpa [bO] using hn
  obtain ⟨id,off,w,cc,a1,a2,a3,a4,a5⟩:=hs5.at n hsn
  have e5:bO[n]'hsn= [.str (aU[n]'hn).1,.str (aU[n]'hn).2]:=by simp[bO]
  rw[e5] at a5
  obtain ⟨w1,w2,w3,w4⟩:=iM _ (List.getElem_mem hn)
  have hfin:∀v m',v=ld (j5 s P n (aU[n]'hn).2)->Chg [] m m'->K v m':=fun v m' h1 h2=>hK v m' ⟨Or.inr ⟨n,hn,hnm,h1⟩,h2⟩
  generalize hpp:aU[n]'hn=pp at *
  obtain ⟨nm,nums⟩:=pp
  dsimp only at a5 w1 w2 w3 w4 hnm hfin
  have c1:cc[off+1]? =some (.str nums):=fQ a5 1 (by simp)
  have g5:=(C5.get o4 (by simp)).trans g4
  have o5:=C5.old o4
  have q5:=(C5.get p4 (by simp)).trans q4
  have p5:=C5.old p4
  have hv5:=hv4.grew C5
  have CC5:=CC4.trans C5 (S:= []) (by simp)
  by_cases hle:P.length=nums.length
  ·simp (config:={maxSteps:=1000000}) (disch:=first|assumption|omega|(apply ab;omega)|(apply aa;assumption)|(simp only[au]<;>omega)) only[go_sem,seval,r3.wf',r4.wf',q4,hl4,r5.wf,a1,a2,c1,hle,q5]
   refine ⟨hv4.same, ?_⟩
   generalize hM6:hp _ 1 M5=M6
   have C6:Chg [] M5 M6:=kI hM6 rfl
   have b6:M6.get (na M5 0)=some (.cells true (mz n).cells):=(vJ hM6).trans rfl
   have x6:bQ M6 (na M5 0):=uy hM6 (by omega)
   have g6:=(C6.get o5 (by simp)).trans g5
   have o6:=C6.old o5
   have hne:na M5 0≠na m 0:=fun e=>aY (e▸o5)
   have hv6:=hv5.grew C6
   have hid6:∀i∈ids vp,i≠na M5 0:=fun i hi e=>aY (e▸hv5.old i hi)
   have CC6:=CC5.trans C6 (S:= []) (by simp)
   have nb5:¬bQ m (na M5 0):=fun h=>aY (CC5.old h)
   have hlm:((p0::P).map fun p=> [NV.str p]).length=P.length+1:=by simp
   refine zc hv6 (a:=1) (b:=P.length+1) (by omega) (by omega) (fun K=>by simp only[go_sem,seval]<;>rfl) (fun d K hd=>by simp only[go_sem,seval];rw[hd,hlm]) fun vq hq hqi=> ?_
   have eq1:List.take (P.length+1 - 1) (List.drop 1 (List.map (fun p=> [NV.str p]) (p0::P)))=P.map fun p=> [NV.str p]:=by
    rw[List.map_cons,List.drop_succ_cons,List.drop_zero,Nat.add_sub_cancel];exact List.take_of_length_le (by simp)
   rw[eq1] at hq
   have hqn:∀i∈ids vq,i∉ [na M5 0]:=fun i hi q=>hid6 i (hqi i hi) (one q)
   simp (config:={maxSteps:=1000000}) (disch:=first|assumption|omega|(apply ab;omega)|(apply aa;assumption)|(simp only[au]<;>omega)) only[go_sem,seval,hq.len,List.length_map]
   refine W.loop (fun k d=>∃(t':Tm) (M:NH) (q:Nat) (i:Ins),d=⟨t', [],none,M⟩/\NT.get .e t'=some (.str s)/\NT.get (.b .e) t'=some (.ptr (na m 0) 0)/\NT.get D4.e.a.a t'=some (ii n)/\NT.get D4.e.a.b t'=some (.ptr (na M5 0) 0)/\NT.get D4.e.a.f.b t'=some vq/\NT.get D4.e.a.f.c t'=some (ii P.length)/\NT.get D4.e.a.f.f t'=some (ii q)/\
    q+k=P.length/\Sl M vq 1 (P.map fun p=> [NV.str p])/\M.get (na M5 0)=some (.cells true i.cells)/\bQ M (na M5 0)/\M.get (na m 0)=some (.cells true [ii 0,ii 0,ii 0,ii 0,ii 0,ii 0,ii 0])/\bQ M (na m 0)/\Chg [] m M/\hV (P.drop q) (nums.drop q) i=hV P nums (mz n)) ?_ P.length _ ⟨_,M6,0,mz n,rfl,by exact gq rfl,by exact gq rfl,by exact gq rfl,by exact gq rfl,by exact gq rfl,by exact gq rfl,by exact gq rfl,by omega,hq,b6,x6,g6,o6,CC6,rfl⟩
   rintro k d ⟨t',M,q,i,rfl,t1,t2,t3,t4,t5,t6,t7,hqk,hS,hb,ob,hg,og,hC,hR⟩
   apply eh
   unfold rP
   change wp _ _ _ _ ⟨aE [] t', [],none,_⟩ _
   by_cases hqi:q<P.length
   ·obtain ⟨jd,jo,jw,jc,b1,b2,b3,b4,b5⟩:=hS.at q (by simpa using hqi)
    rw[List.getElem_map] at b5
    have c2:jc[jo]? =some (.str (P[q]'hqi)):=fQ b5 0 (by simp)
    have hpl:(P[q]'hqi).length<=1000000:=by
     have:=wc 32 s (P[q]'hqi) (by rw[hP];exact List.mem_cons_of_mem _ (List.getElem_mem hqi));omega
    obtain ⟨M7,v,e,r7,C7,hve⟩:=Bu (hT.chg hC) (s:=P[q]'hqi) (by omega)
    have hqc:q<nums.length:=by omega
    have hcq:nums[q]? =some (nums[q]'hqc):=List.getElem?_eq_getElem hqc
    have hc256:nums[q]'hqc<256:=w4 _ (List.getElem_mem hqc)
    have g7:=(C7.get og (by simp)).trans hg
    have o7:=C7.old og
    have b7:=(C7.get ob (by simp)).trans hb
    have x7:=C7.old ob
    rw[List.drop_eq_getElem_cons hqi,List.drop_eq_getElem_cons hqc,p8] at hR
    rcases hve with ⟨h1,rfl⟩|⟨tt,xx,rfl,h1⟩
    ·rw[h1] at hR
     dsimp only at hR
     obtain ⟨v8,M8,r8,hs8,C8⟩:=hY M7
     obtain ⟨id8,off8,w8,cc8,d1,d2,d3,d4,d5⟩:=hs8.at n hsn
     rw[e5] at d5
     have c8:cc8[off8+1]? =some (.str nums):=fQ d5 1 (by simp)
     have hnum:=fun m=>oz m (na M5 0) (nums[q]'hqc) hc256
     have b8:=(C8.get x7 (by simp)).trans b7
     have x8:=C8.old x7
     generalize hcn:nums[q]'hqc=c at *
     have bn:cK .ifc .neq .nili .nili=some (.bool false):=rfl
     simp (config:={maxSteps:=1000000}) (disch:=first|assumption|omega|(apply ab;omega)|(apply aa;assumption)|(simp only[au]<;>omega)) only[go_sem,seval,t1,t2,t3,t4,t5,t6,t7,b1,b2,c2,r7.wf',bn,r8.wf',d1,d2,c8,hcq,(hnum _).wf,b8]
     rw[aG M8,←aG M8]
     have hl7:i.cells.length=7:=rfl
     have hof:lE c+1<=7:=yS _
     simp (config:={maxSteps:=1000000}) (disch:=first|assumption|omega|(apply ab;omega)|(apply aa;assumption)|(simp only[au]<;>omega)) only[go_sem,seval,t7,b8]
     generalize hM9:hp _ 0 M8=M9
     rw[tU] at hM9
     have C9:Chg [na M5 0] M8 M9:=kI hM9 rfl
     have hCC:=(hC.trans C7 (S:= []) (by simp)).trans C8 (S:= []) (by simp)
     refine ⟨k - 1,by omega,_,M9,q+1,i.set c v,rfl,by exact gq t1,by exact gq t2,by exact gq t3,by exact gq t4,by exact gq t5,by exact gq t6,by exact gq rfl,by omega,((hS.grew C7).grew C8).chg C9 hqn,Bv x8 hM9,C9.old x8, ?_,C9.old (C8.old o7),hCC.trans C9 fun i hi ho=> ?_,hR⟩
     ·exact (C9.get (C8.old o7) (by simpa using fun e=>hne e.symm)).trans ((C8.get o7 (by simp)).trans g7)
     ·have hi:=one hi;subst hi;exact G4 ho nb5
    ·have bn:cK .ifc .neq (.ifc tt xx) .nili=some (.bool true):=rfl
     simp (config:={maxSteps:=1000000}) (disch:=first|assumption|omega|(apply ab;omega)|(apply aa;assumption)|(simp only[au]<;>omega)) only[go_sem,seval,t1,t2,t3,t4,t5,t6,t7,b1,b2,c2,r7.wf,bn,g7]
     generalize hM9:hp _ 0 M7=M9
     have C9:Chg [na m 0] M7 M9:=kI hM9 rfl
     refine hfin _ _ ?_ ((hC.trans C7 (S:= []) (by simp)).trans C9 fun i hi ho=> ?_)
     ·have hn:hV P nums (mz n)=none:=by
       rw[←hR]
       cases ha:ib (P[q]'hqi) with
       |ok z=>exact G4 ha (h1 z)
       |range=>rfl
       |_=>rfl
      rw[j5,G6 hle,hn];rfl
     ·have hi:=one hi;subst hi;exact G4 ho aY
   ·rw[List.drop_eq_nil_of_le (by omega),sw] at hR
    have hb':M.get (na M5 0)=some (.cells true [ii i.k,ii i.d,ii i.a,ii i.b,ii i.s,ii i.c,ii i.n]):=hb
    obtain ⟨vl,M7,r7,rfl,C7⟩:=Bb M (hT.chg hC) i
    have hic:i.cells= [ii i.k,ii i.d,ii i.a,ii i.b,ii i.s,ii i.c,ii i.n]:=rfl
    rw[hic] at r7
    have g7:=(C7.get og (by simp)).trans hg
    have o7:=C7.old og
    have b7:=(C7.get ob (by simp)).trans hb'
    have x7:=C7.old ob
    have hCC:=hC.trans C7 (S:= []) (by simp)
    by_cases hls:aK i=s
    ·have hds:decide (s≠s)=false:=by simp
     simp (config:={maxSteps:=1000000}) (disch:=first|assumption|omega|(apply ab;omega)|(apply aa;assumption)|(simp only[au]<;>omega)) only[go_sem,seval,t1,t2,t3,t4,t5,t6,t7,hb',r7.wf,hls,hds,b7,g7]
     generalize hM9:hp _ 0 M7=M9
     have C9:Chg [na m 0] M7 M9:=kI hM9 rfl
     refine hfin _ _ ?_ (hCC.trans C9 fun i hi ho=> ?_)
     ·rw[j5,G6 hle,←hR]
      dsimp only
      rw[G6 hls];rfl
     ·have hi:=one hi;subst hi;exact G4 ho aY
    ·have hds:decide (aK i≠s)=true:=by simpa using hls
     simp (config:={maxSteps:=1000000}) (disch:=first|assumption|omega|(apply ab;omega)|(apply aa;assumption)|(simp only[au]<;>omega)) only[go_sem,seval,t1,t2,t3,t4,t5,t6,t7,hb',r7.wf,hds,b7,g7]
     generalize hM9:hp _ 0 M7=M9
     have C9:Chg [na m 0] M7 M9:=kI hM9 rfl
     refine hfin _ _ ?_ (hCC.trans C9 fun i hi ho=> ?_)
     ·rw[j5,G6 hle,←hR]
      dsimp only
      rw[G5 hls];rfl
     ·have hi:=one hi;subst hi;exact G4 ho aY
  ·simp (config:={maxSteps:=1000000}) (disch:=first|assumption|omega|(apply ab;omega)|(apply aa;assumption)|(simp only[au]<;>omega)) only[go_sem,seval,r3.wf',r4.wf',q4,hl4,r5.wf,a1,a2,c1,g5,q5]
   refine ⟨hv4.same, ?_⟩
   generalize hM9:hp _ 0 _=M9
   have C9:Chg [na m 0] M5 M9:=kI hM9 rfl
   refine hfin _ _ ?_ (CC5.trans C9 fun i hi ho=> ?_)
   ·rw[j5,G5 hle];rfl
   ·have hi:=one hi;subst hi;exact G4 ho aY
end LI
open Go Nm Go.Proofs
namespace LI
end LI
open Go Nm Go.Proofs
namespace LI
theorem pD {k:IntKind} {a b:Int} {es:List EK} {l l':List NV}:cC (.int::es) (.int k (.lit a)::l) (.int k (.lit b)::l')=if a=b then cC es l l' else some false:=by
 have hk:eU k k=true:=by cases k<;>rfl
 show (match (cond (eU k k) (some (fV a b)) none) with|some c=>cond c (cC es l l') (some false)|none=>none)=_
 rw[hk,bp]
 by_cases h:a=b
 ·rw[G6 h,h];simp
 ·rw[G5 h,beq_eq_false_iff_ne.2 h];rfl
def zW (i j:Ins):Bool:=decide (i.k=j.k)&&(decide (i.d=j.d)&&(decide (i.a=j.a)&&(decide (i.b=j.b)&&(decide (i.s=j.s)&&(decide (i.c=j.c)&&decide (i.n=j.n))))))
theorem fR {p:Prop} [Decidable p] {o:Option Bool} {b:Bool} (h:o=some b):(if p then o else some false)=some (decide p&&b):=by
 subst h;by_cases hp:p<;>simp[hp]
theorem GZ (i j:Ins):cC [.int,.int,.int,.int,.int,.int,.int] i.cells j.cells=some (zW i j):=by
 unfold Ins.cells
 rw[pD,pD,pD,pD,pD,pD,pD]
 refine fR (fR (fR (fR (fR (fR ?_)))))
 show (if i.n=j.n then some true else some false)=_
 by_cases h:i.n=j.n<;>simp[h]
theorem Fk (a b c d e f g a' b' c' d' e' f' g':Int):E4 false [.int,.int,.int,.int,.int,.int,.int] (.agg [ii a,ii b,ii c,ii d,ii e,ii f,ii g]) (.agg [ii a',ii b',ii c',ii d',ii e',ii f',ii g'])= .val (.bool (zW ⟨a,b,c,d,e,f,g⟩ ⟨a',b',c',d',e',f',g'⟩)):=FW (GZ ⟨a,b,c,d,e,f,g⟩ ⟨a',b',c',d',e',f',g'⟩)
theorem Fy:E4 false [.int,.int,.int,.int,.int,.int,.int] (.agg [ii 0,ii 0,ii 0,ii 0,ii 0,ii 0,ii 0]) (.agg [ii 0,ii 0,ii 0,ii 0,ii 0,ii 0,ii 0])= .val (.bool true):=(Fk 0 0 0 0 0 0 0 0 0 0 0 0 0 0).trans rfl
theorem DK (m:NH) (n:Int):bo Tryd.prog S0 13 [ii n] m (ii n) m:=by
 have h:∃u m',bo Tryd.prog S0 13 [ii n] m u m'/\u=ii n/\m'=m:=by
  refine WF.ex fun K hK=> ?_
  refine WF.of_wpG (fun _=>rfl) sh (L:= [(.e,ii n)]) rfl ?_
  unfold BI
  simp (config:={maxSteps:=1000000}) (disch:=first|assumption|omega|(apply ab;omega)|(apply aa;assumption)|(simp only[au]<;>omega)) only[go_sem,seval]
  exact hK _ _ ⟨rfl,aG m⟩
 obtain ⟨v,m',h,rfl,rfl⟩:=h
 exact h
theorem mV (m:NH):bo Tryd.prog S0 8 [] m (.bool true) m:=bo.keptM rfl
set_option maxRecDepth 100000 in
set_option maxHeartbeats 4000000 in
theorem mR (m0 m:NH) (l:List NV) (hT0:Tb m0) (hC0:Chg [] m0 m) (h:TyA Tryd.prog m [9] l):∃m',bo Tryd.prog S0 4 l m (.bool true) m':=by
 have hT:=hT0.chg hC0
 obtain ⟨x,r,rfl,hx,h⟩:=h.inv1 (by intro fs q;rw[Tryd.underlying9] at q;cases q)
 obtain rfl:=h.inv0
 obtain ⟨s,hs,_,_⟩:=hx.inv_str Tryd.underlying9
 obtain rfl:x= .str s:=by simpa using hs
 suffices hw:∃m',bo Tryd.prog S0 4 [.str s] m (.bool true) m'/\True by
  obtain ⟨m',h,_⟩:=hw;exact ⟨m',h⟩
 refine WF.ex1 fun K hK=> ?_
 replace hK:∀m',K (.bool true) m':=fun m'=>hK m' trivial
 refine WF.of_wpG (fun _=>rfl) pV (L:= [(.e,.str s)]) rfl ?_
 unfold Ge
 by_cases hsz:100<s.length
 ·simp (config:={maxSteps:=1000000}) (disch:=first|assumption|omega|(apply ab;omega)|(apply aa;assumption)|(simp only[au]<;>omega)) only[go_sem,seval,(mV _).wf']
  exact hK _
 ·obtain ⟨p0,P,hP⟩:=wx s
  obtain ⟨v,M1,r1,hv,C1⟩:=Ax m hT s (by omega) p0 P hP
  have hT1:=hT.chg C1
  rw[←aG m] at r1
  have hcase:v=ld none∨∃i,v=ld (some i)/\aK i=s/\aO i=true:=by
   rcases hv with ⟨_,rfl⟩|⟨n,hn,hnm,rfl⟩
   ·exact Or.inl rfl
   ·unfold j5
    by_cases hle:P.length=(aU[n]'hn).2.length
    ·rw[G6 hle]
     cases hq:hV P (aU[n]'hn).2 (mz n) with
     |none=>exact Or.inl rfl
     |some i=>
      dsimp only
      by_cases hl:aK i=s
      ·rw[G6 hl]
       refine Or.inr ⟨i,rfl,hl, ?_⟩
       cases hr:aO i with
       |true=>rfl
       |false=>
        exfalso
        have hl0:aK i= []:=by simp[aK,hr]
        rw[hl0] at hl
        subst hl
        obtain ⟨e1,e2⟩:=List.cons.inj (show [[]]=p0::P from hP)
        have:=(iM _ (List.getElem_mem hn)).2.1
        rw[hnm,←e1] at this
        simp at this
      ·rw[G5 hl];exact Or.inl rfl
    ·rw[G5 hle];exact Or.inl rfl
  rcases hcase with rfl|⟨i,rfl,hl,hr⟩
  ·simp (config:={maxSteps:=1000000}) (disch:=first|assumption|omega|(apply ab;omega)|(apply aa;assumption)|(simp only[au]<;>omega)) only[go_sem,seval,(mV _).wf',r1.wf,ld,mz,Ins.cells,(DK _ _).wf',Fy]
   exact hK _
  ·simp (config:={maxSteps:=1000000}) (disch:=first|assumption|omega|(apply ab;omega)|(apply aa;assumption)|(simp only[au]<;>omega)) only[go_sem,seval,(mV _).wf',r1.wf,ld,mz,Ins.cells,(DK _ _).wf']
   generalize hM2:hp _ 1 M1=M2
   have b2:M2.get (na M1 0)=some (.cells true [ii i.k,ii i.d,ii i.a,ii i.b,ii i.s,ii i.c,ii i.n]):=(vJ hM2).trans rfl
   have o2:bQ M2 (na M1 0):=uy hM2 (by omega)
   obtain ⟨v2,M3,r2,rfl,C2⟩:=tK M2 i
   obtain ⟨v3,M4,r3,rfl,C3⟩:=bi M3 i
   unfold Ins.cells at r2 r3
   have b3:=(C2.get o2 (by simp)).trans b2
   rw[hl] at r2
   have hd:decide (s=s)=true:=by simp
   simp (config:={maxSteps:=1000000}) (disch:=first|assumption|omega|(apply ab;omega)|(apply aa;assumption)|(simp only[au]<;>omega)) only[go_sem,seval,aG,r2.wf',hd,b3,r3.wf',hr]
   exact hK _
end LI
open Go Nm Go.Proofs Go.RowKit
open Go.Proofs.YtbjinflchdkhiaaDoor
namespace LI
theorem GE (t u x y:Nat):Tb (M0 t u x y):=by
 have n0:(D4.of 0).toNat=0:=by kernel_rfl
 have n1:(D4.of 1).toNat=1:=by kernel_rfl
 have n2:(D4.of 2).toNat=2:=by kernel_rfl
 have h01:D4.of 0≠D4.of 1:=fun e=>by rw[e,n1] at n0;omega
 have h02:D4.of 0≠D4.of 2:=fun e=>by rw[e,n2] at n0;omega
 have h12:D4.of 1≠D4.of 2:=fun e=>by rw[e,n2] at n1;omega
 refine ⟨NH.get_put_same _ _ _,⟨t,.ptr (D4.of 8) x, ?_⟩,⟨u,.ptr (D4.of 9) y, ?_⟩, ?_, ?_, ?_⟩
 ·unfold M0;rw[NH.get_put_ne _ _ h02,NH.get_put_ne _ _ h01,NH.get_put_same]
 ·unfold M0;rw[NH.get_put_ne _ _ h12,NH.get_put_same]
 ·exact Nat.le_of_ble_eq_true (by kernel_rfl)
 ·exact Nat.le_of_ble_eq_true (by kernel_rfl)
 ·exact Nat.le_of_ble_eq_true (by kernel_rfl)
set_option maxRecDepth 100000
section
variable [Val]
theorem DY:rx Tryd.prog [3,9,23]=true:=by kernel_rfl
theorem Ff {W:World} (hL:laidMetH Tryd.prog Rows.listingWrongRow.laid W) {f:Nat} {nf:NFun} {ts:List TypeId} (hf:am Tryd.prog f=some (.code nf)) (hs:∀l,S0 f l=fun _=>none) (hts:∀t∈ts,t∈ [3,9,23])
 (law:∀(m0 m:NH) (l:List NV),Tb m0->Chg [] m0 m->TyA Tryd.prog m ts l->∃m',bo Tryd.prog S0 f l m (.bool true) m') {H:Type} {enc:TypeId×Value->H} {args:List Value} {ds:List (DataW H)} {ps:List MemPlace}
 (h:DataW.TrodAll enc Tryd.prog W 0 (fun _=>true) true ts args ds ps) {base:Nat} (hval:∀(j:Nat) t v,ts[j]? =some t->args[j]? =some v->Value.okWide Tryd.prog W .any base t v):
 Calls Tryd.prog f args.toArray W fun e W'=>e= .returned (.bool true)/\Below W.heap.size W W':=by
 obtain ⟨t,u,a,b,ι,hR⟩:=BJ hL
 have hg:=hR.1.global (g:=2) (by decide) (GE t u a b).1 (by rfl)
 obtain ⟨cur,T,fz,hg,_⟩:=hg
 exact pz mixed Tryd.codeOk Dc DY hf hs hts (fun m l hC hl=>law _ m l (GE t u a b) hC hl) hR ⟨_,cur,T,fz,hg⟩ h hval
theorem reads {W:World} (hL:laidMetH Tryd.prog Rows.listingReadsRow.laid W) (_:W.ShapedOpen Tryd.prog) {H:Type} {enc:TypeId×Value->H} {args:List Value} {ds:List (DataW H)} {ps:List MemPlace}
 (h:DataW.TrodAll enc Tryd.prog W 0 (fun _=>true) true [9] args ds ps) {base:Nat} (hval:∀(j:Nat) t v, [9][j]? =some t->args[j]? =some v->Value.okWide Tryd.prog W .any base t v):
 Calls Tryd.prog 4 args.toArray W fun e W'=>e= .returned (.bool true)/\Below W.heap.size W W':=
 Ff hL pV (fun _=>rfl) (by decide) mR h hval
end
end LI
