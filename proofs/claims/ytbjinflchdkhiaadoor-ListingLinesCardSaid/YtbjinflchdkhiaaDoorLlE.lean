/- A machine that runs the given program with memory and order of evaluation taken apart, and what it shows of the law ListingLines: part 5. -/
import Derived.Test.YtbjinflchdkhiaaDoorLlD
set_option linter.unusedSimpArgs false
set_option linter.unusedVariables false
set_option linter.unusedSectionVars false
set_option linter.defProp false
open Go Nm Go.Proofs
namespace LI
set_option maxRecDepth 100000 in
set_option maxHeartbeats 8000000 in
theorem EJ (m:NH) (d a b s c n:Int) (hr:au ⟨8,d,a,b,s,c,n⟩=true):∃v m',bu Tryd.prog S0 10 [.agg [ii 8,ii d,ii a,ii b,ii s,ii c,ii n]] m v m'/\v= .str (aH ⟨8,d,a,b,s,c,n⟩)/\Chg [] m m':=by
 refine WF.ex fun K hK=> ?_
 refine WF.of_wpG (fun _=>rfl) aX (L:= [(.e,.agg [ii 8,ii d,ii a,ii b,ii s,ii c,ii n])]) rfl ?_
 unfold da
 obtain ⟨v,m1,h1,hv,hC1⟩:=bo (hp [(AK.n 0,NO.cells true [ii 8,ii d,ii a,ii b,ii s,ii c,ii n])] 1 m) ⟨8,d,a,b,s,c,n⟩
 subst hv
 rw[hr] at h1
 simp only[Ins.cells] at h1
 have g0:(hp [(AK.n 0,NO.cells true [ii 8,ii d,ii a,ii b,ii s,ii c,ii n])] 1 m).get (na m 0)=some (.cells true [ii 8,ii d,ii a,ii b,ii s,ii c,ii n]):=aM
 have o0:bU (hp [(AK.n 0,NO.cells true [ii 8,ii d,ii a,ii b,ii s,ii c,ii n])] 1 m) (na m 0):=ab (by omega)
 have hC0:Chg [] m (hp [(AK.n 0,NO.cells true [ii 8,ii d,ii a,ii b,ii s,ii c,ii n])] 1 m):=aq rfl
 have g1:=(hC1.get o0 (by simp)).trans g0
 have o1:=hC1.old o0
 have bd:=aS hr
 have b1:-4294967296<=d/\d<=4294967296:=bd 68
 have b2:-4294967296<=a/\a<=4294967296:=bd 65
 have b3:-4294967296<=b/\b<=4294967296:=bd 66
 have b4:-4294967296<=s/\s<=4294967296:=bd 83
 have b5:-4294967296<=c/\c<=4294967296:=bd 67
 have b6:-4294967296<=n/\n<=4294967296:=bd 78
 clear bd
 simp (config:={maxSteps:=1000000}) (disch:=first|assumption|omega|(apply ab;omega)|(apply aa;assumption)|(simp only[aw]<;>omega)) only[go_sem,seval,h1.wf,g1]
 refine cg _ [n] (by simp) ?_ (.slc (na m1 1) 0 1 1 1) ?_ [98] (by simp) _ ?_ ?_ ?_ ?_
 ·simp only[Hr,Hq,or_false,forall_eq_or_imp,forall_eq];omega
 ·exact (fj.of (B:=m1) (C:=([n]:List Int).map fun x=> [ii x]) (by simp) a7 aM (ab (by omega)) rfl rfl rfl).sl
 ·simp (config:={maxSteps:=1000000}) (disch:=first|assumption|omega|(apply ab;omega)|(apply aa;assumption)|(simp only[aw]<;>omega)) only[go_sem,seval]
 ·simp (config:={maxSteps:=1000000}) (disch:=first|assumption|omega|(apply ab;omega)|(apply aa;assumption)|(simp only[aw]<;>omega)) only[go_sem,seval]
 ·simp (config:={maxSteps:=1000000}) (disch:=first|assumption|omega|(apply ab;omega)|(apply aa;assumption)|(simp only[aw]<;>omega)) only[go_sem,seval]
 ·intro t' g
  simp (config:={maxSteps:=1000000}) (disch:=first|assumption|omega|(apply ab;omega)|(apply aa;assumption)|(simp only[aw]<;>omega)) only[go_sem,seval,g]
  refine hK _ _ ⟨?_, ?_⟩
  ·simp only[aH,hr]
   rfl
  ·exact jN (hC0.trans hC1 (by simp)) (aq rfl)
set_option maxRecDepth 100000 in
set_option maxHeartbeats 8000000 in
theorem DU (m:NH) (d a b s c n:Int) (hr:au ⟨9,d,a,b,s,c,n⟩=true):∃v m',bu Tryd.prog S0 10 [.agg [ii 9,ii d,ii a,ii b,ii s,ii c,ii n]] m v m'/\v= .str (aH ⟨9,d,a,b,s,c,n⟩)/\Chg [] m m':=by
 refine WF.ex fun K hK=> ?_
 refine WF.of_wpG (fun _=>rfl) aX (L:= [(.e,.agg [ii 9,ii d,ii a,ii b,ii s,ii c,ii n])]) rfl ?_
 unfold da
 obtain ⟨v,m1,h1,hv,hC1⟩:=bo (hp [(AK.n 0,NO.cells true [ii 9,ii d,ii a,ii b,ii s,ii c,ii n])] 1 m) ⟨9,d,a,b,s,c,n⟩
 subst hv
 rw[hr] at h1
 simp only[Ins.cells] at h1
 have g0:(hp [(AK.n 0,NO.cells true [ii 9,ii d,ii a,ii b,ii s,ii c,ii n])] 1 m).get (na m 0)=some (.cells true [ii 9,ii d,ii a,ii b,ii s,ii c,ii n]):=aM
 have o0:bU (hp [(AK.n 0,NO.cells true [ii 9,ii d,ii a,ii b,ii s,ii c,ii n])] 1 m) (na m 0):=ab (by omega)
 have hC0:Chg [] m (hp [(AK.n 0,NO.cells true [ii 9,ii d,ii a,ii b,ii s,ii c,ii n])] 1 m):=aq rfl
 have g1:=(hC1.get o0 (by simp)).trans g0
 have o1:=hC1.old o0
 have bd:=aS hr
 have b1:-4294967296<=d/\d<=4294967296:=bd 68
 have b2:-4294967296<=a/\a<=4294967296:=bd 65
 have b3:-4294967296<=b/\b<=4294967296:=bd 66
 have b4:-4294967296<=s/\s<=4294967296:=bd 83
 have b5:-4294967296<=c/\c<=4294967296:=bd 67
 have b6:-4294967296<=n/\n<=4294967296:=bd 78
 clear bd
 simp (config:={maxSteps:=1000000}) (disch:=first|assumption|omega|(apply ab;omega)|(apply aa;assumption)|(simp only[aw]<;>omega)) only[go_sem,seval,h1.wf,g1]
 refine cg _ [c,n] (by simp) ?_ (.slc (na m1 1) 0 2 1 2) ?_ [98,99] (by simp) _ ?_ ?_ ?_ ?_
 ·simp only[Hr,Hq,or_false,forall_eq_or_imp,forall_eq];omega
 ·exact (fj.of (B:=m1) (C:=([c,n]:List Int).map fun x=> [ii x]) (by simp) a7 aM (ab (by omega)) rfl rfl rfl).sl
 ·simp (config:={maxSteps:=1000000}) (disch:=first|assumption|omega|(apply ab;omega)|(apply aa;assumption)|(simp only[aw]<;>omega)) only[go_sem,seval]
 ·simp (config:={maxSteps:=1000000}) (disch:=first|assumption|omega|(apply ab;omega)|(apply aa;assumption)|(simp only[aw]<;>omega)) only[go_sem,seval]
 ·simp (config:={maxSteps:=1000000}) (disch:=first|assumption|omega|(apply ab;omega)|(apply aa;assumption)|(simp only[aw]<;>omega)) only[go_sem,seval]
 ·intro t' g
  simp (config:={maxSteps:=1000000}) (disch:=first|assumption|omega|(apply ab;omega)|(apply aa;assumption)|(simp only[aw]<;>omega)) only[go_sem,seval,g]
  refine hK _ _ ⟨?_, ?_⟩
  ·simp only[aH,hr]
   rfl
  ·exact jN (hC0.trans hC1 (by simp)) (aq rfl)
set_option maxRecDepth 100000 in
set_option maxHeartbeats 8000000 in
theorem Cl (m:NH) (d a b s c n:Int) (hr:au ⟨10,d,a,b,s,c,n⟩=true):∃v m',bu Tryd.prog S0 10 [.agg [ii 10,ii d,ii a,ii b,ii s,ii c,ii n]] m v m'/\v= .str (aH ⟨10,d,a,b,s,c,n⟩)/\Chg [] m m':=by
 refine WF.ex fun K hK=> ?_
 refine WF.of_wpG (fun _=>rfl) aX (L:= [(.e,.agg [ii 10,ii d,ii a,ii b,ii s,ii c,ii n])]) rfl ?_
 unfold da
 obtain ⟨v,m1,h1,hv,hC1⟩:=bo (hp [(AK.n 0,NO.cells true [ii 10,ii d,ii a,ii b,ii s,ii c,ii n])] 1 m) ⟨10,d,a,b,s,c,n⟩
 subst hv
 rw[hr] at h1
 simp only[Ins.cells] at h1
 have g0:(hp [(AK.n 0,NO.cells true [ii 10,ii d,ii a,ii b,ii s,ii c,ii n])] 1 m).get (na m 0)=some (.cells true [ii 10,ii d,ii a,ii b,ii s,ii c,ii n]):=aM
 have o0:bU (hp [(AK.n 0,NO.cells true [ii 10,ii d,ii a,ii b,ii s,ii c,ii n])] 1 m) (na m 0):=ab (by omega)
 have hC0:Chg [] m (hp [(AK.n 0,NO.cells true [ii 10,ii d,ii a,ii b,ii s,ii c,ii n])] 1 m):=aq rfl
 have g1:=(hC1.get o0 (by simp)).trans g0
 have o1:=hC1.old o0
 have bd:=aS hr
 have b1:-4294967296<=d/\d<=4294967296:=bd 68
 have b2:-4294967296<=a/\a<=4294967296:=bd 65
 have b3:-4294967296<=b/\b<=4294967296:=bd 66
 have b4:-4294967296<=s/\s<=4294967296:=bd 83
 have b5:-4294967296<=c/\c<=4294967296:=bd 67
 have b6:-4294967296<=n/\n<=4294967296:=bd 78
 clear bd
 simp (config:={maxSteps:=1000000}) (disch:=first|assumption|omega|(apply ab;omega)|(apply aa;assumption)|(simp only[aw]<;>omega)) only[go_sem,seval,h1.wf,g1]
 refine cg _ [a,n] (by simp) ?_ (.slc (na m1 1) 0 2 1 2) ?_ [99,98,122] (by simp) _ ?_ ?_ ?_ ?_
 ·simp only[Hr,Hq,or_false,forall_eq_or_imp,forall_eq];omega
 ·exact (fj.of (B:=m1) (C:=([a,n]:List Int).map fun x=> [ii x]) (by simp) a7 aM (ab (by omega)) rfl rfl rfl).sl
 ·simp (config:={maxSteps:=1000000}) (disch:=first|assumption|omega|(apply ab;omega)|(apply aa;assumption)|(simp only[aw]<;>omega)) only[go_sem,seval]
 ·simp (config:={maxSteps:=1000000}) (disch:=first|assumption|omega|(apply ab;omega)|(apply aa;assumption)|(simp only[aw]<;>omega)) only[go_sem,seval]
 ·simp (config:={maxSteps:=1000000}) (disch:=first|assumption|omega|(apply ab;omega)|(apply aa;assumption)|(simp only[aw]<;>omega)) only[go_sem,seval]
 ·intro t' g
  simp (config:={maxSteps:=1000000}) (disch:=first|assumption|omega|(apply ab;omega)|(apply aa;assumption)|(simp only[aw]<;>omega)) only[go_sem,seval,g]
  refine hK _ _ ⟨?_, ?_⟩
  ·simp only[aH,hr]
   rfl
  ·exact jN (hC0.trans hC1 (by simp)) (aq rfl)
set_option maxRecDepth 100000 in
set_option maxHeartbeats 8000000 in
theorem Ce (m:NH) (d a b s c n:Int) (hr:au ⟨11,d,a,b,s,c,n⟩=true):∃v m',bu Tryd.prog S0 10 [.agg [ii 11,ii d,ii a,ii b,ii s,ii c,ii n]] m v m'/\v= .str (aH ⟨11,d,a,b,s,c,n⟩)/\Chg [] m m':=by
 refine WF.ex fun K hK=> ?_
 refine WF.of_wpG (fun _=>rfl) aX (L:= [(.e,.agg [ii 11,ii d,ii a,ii b,ii s,ii c,ii n])]) rfl ?_
 unfold da
 obtain ⟨v,m1,h1,hv,hC1⟩:=bo (hp [(AK.n 0,NO.cells true [ii 11,ii d,ii a,ii b,ii s,ii c,ii n])] 1 m) ⟨11,d,a,b,s,c,n⟩
 subst hv
 rw[hr] at h1
 simp only[Ins.cells] at h1
 have g0:(hp [(AK.n 0,NO.cells true [ii 11,ii d,ii a,ii b,ii s,ii c,ii n])] 1 m).get (na m 0)=some (.cells true [ii 11,ii d,ii a,ii b,ii s,ii c,ii n]):=aM
 have o0:bU (hp [(AK.n 0,NO.cells true [ii 11,ii d,ii a,ii b,ii s,ii c,ii n])] 1 m) (na m 0):=ab (by omega)
 have hC0:Chg [] m (hp [(AK.n 0,NO.cells true [ii 11,ii d,ii a,ii b,ii s,ii c,ii n])] 1 m):=aq rfl
 have g1:=(hC1.get o0 (by simp)).trans g0
 have o1:=hC1.old o0
 have bd:=aS hr
 have b1:-4294967296<=d/\d<=4294967296:=bd 68
 have b2:-4294967296<=a/\a<=4294967296:=bd 65
 have b3:-4294967296<=b/\b<=4294967296:=bd 66
 have b4:-4294967296<=s/\s<=4294967296:=bd 83
 have b5:-4294967296<=c/\c<=4294967296:=bd 67
 have b6:-4294967296<=n/\n<=4294967296:=bd 78
 clear bd
 simp (config:={maxSteps:=1000000}) (disch:=first|assumption|omega|(apply ab;omega)|(apply aa;assumption)|(simp only[aw]<;>omega)) only[go_sem,seval,h1.wf,g1]
 refine cg _ [a,n] (by simp) ?_ (.slc (na m1 1) 0 2 1 2) ?_ [99,98,110,122] (by simp) _ ?_ ?_ ?_ ?_
 ·simp only[Hr,Hq,or_false,forall_eq_or_imp,forall_eq];omega
 ·exact (fj.of (B:=m1) (C:=([a,n]:List Int).map fun x=> [ii x]) (by simp) a7 aM (ab (by omega)) rfl rfl rfl).sl
 ·simp (config:={maxSteps:=1000000}) (disch:=first|assumption|omega|(apply ab;omega)|(apply aa;assumption)|(simp only[aw]<;>omega)) only[go_sem,seval]
 ·simp (config:={maxSteps:=1000000}) (disch:=first|assumption|omega|(apply ab;omega)|(apply aa;assumption)|(simp only[aw]<;>omega)) only[go_sem,seval]
 ·simp (config:={maxSteps:=1000000}) (disch:=first|assumption|omega|(apply ab;omega)|(apply aa;assumption)|(simp only[aw]<;>omega)) only[go_sem,seval]
 ·intro t' g
  simp (config:={maxSteps:=1000000}) (disch:=first|assumption|omega|(apply ab;omega)|(apply aa;assumption)|(simp only[aw]<;>omega)) only[go_sem,seval,g]
  refine hK _ _ ⟨?_, ?_⟩
  ·simp only[aH,hr]
   rfl
  ·exact jN (hC0.trans hC1 (by simp)) (aq rfl)
set_option maxRecDepth 100000 in
set_option maxHeartbeats 8000000 in
theorem AW (m:NH) (d a b s c n:Int) (hr:au ⟨12,d,a,b,s,c,n⟩=true):∃v m',bu Tryd.prog S0 10 [.agg [ii 12,ii d,ii a,ii b,ii s,ii c,ii n]] m v m'/\v= .str (aH ⟨12,d,a,b,s,c,n⟩)/\Chg [] m m':=by
 refine WF.ex fun K hK=> ?_
 refine WF.of_wpG (fun _=>rfl) aX (L:= [(.e,.agg [ii 12,ii d,ii a,ii b,ii s,ii c,ii n])]) rfl ?_
 unfold da
 obtain ⟨v,m1,h1,hv,hC1⟩:=bo (hp [(AK.n 0,NO.cells true [ii 12,ii d,ii a,ii b,ii s,ii c,ii n])] 1 m) ⟨12,d,a,b,s,c,n⟩
 subst hv
 rw[hr] at h1
 simp only[Ins.cells] at h1
 have g0:(hp [(AK.n 0,NO.cells true [ii 12,ii d,ii a,ii b,ii s,ii c,ii n])] 1 m).get (na m 0)=some (.cells true [ii 12,ii d,ii a,ii b,ii s,ii c,ii n]):=aM
 have o0:bU (hp [(AK.n 0,NO.cells true [ii 12,ii d,ii a,ii b,ii s,ii c,ii n])] 1 m) (na m 0):=ab (by omega)
 have hC0:Chg [] m (hp [(AK.n 0,NO.cells true [ii 12,ii d,ii a,ii b,ii s,ii c,ii n])] 1 m):=aq rfl
 have g1:=(hC1.get o0 (by simp)).trans g0
 have o1:=hC1.old o0
 have bd:=aS hr
 have b1:-4294967296<=d/\d<=4294967296:=bd 68
 have b2:-4294967296<=a/\a<=4294967296:=bd 65
 have b3:-4294967296<=b/\b<=4294967296:=bd 66
 have b4:-4294967296<=s/\s<=4294967296:=bd 83
 have b5:-4294967296<=c/\c<=4294967296:=bd 67
 have b6:-4294967296<=n/\n<=4294967296:=bd 78
 clear bd
 simp (config:={maxSteps:=1000000}) (disch:=first|assumption|omega|(apply ab;omega)|(apply aa;assumption)|(simp only[aw]<;>omega)) only[go_sem,seval,h1.wf,g1]
 refine cg _ [d,a,n] (by simp) ?_ (.slc (na m1 1) 0 3 1 3) ?_ [108,100,114] (by simp) _ ?_ ?_ ?_ ?_
 ·simp only[Hr,Hq,or_false,forall_eq_or_imp,forall_eq];omega
 ·exact (fj.of (B:=m1) (C:=([d,a,n]:List Int).map fun x=> [ii x]) (by simp) a7 aM (ab (by omega)) rfl rfl rfl).sl
 ·simp (config:={maxSteps:=1000000}) (disch:=first|assumption|omega|(apply ab;omega)|(apply aa;assumption)|(simp only[aw]<;>omega)) only[go_sem,seval]
 ·simp (config:={maxSteps:=1000000}) (disch:=first|assumption|omega|(apply ab;omega)|(apply aa;assumption)|(simp only[aw]<;>omega)) only[go_sem,seval]
 ·simp (config:={maxSteps:=1000000}) (disch:=first|assumption|omega|(apply ab;omega)|(apply aa;assumption)|(simp only[aw]<;>omega)) only[go_sem,seval]
 ·intro t' g
  simp (config:={maxSteps:=1000000}) (disch:=first|assumption|omega|(apply ab;omega)|(apply aa;assumption)|(simp only[aw]<;>omega)) only[go_sem,seval,g]
  refine hK _ _ ⟨?_, ?_⟩
  ·simp only[aH,hr]
   rfl
  ·exact jN (hC0.trans hC1 (by simp)) (aq rfl)
set_option maxRecDepth 100000 in
set_option maxHeartbeats 8000000 in
theorem Ci (m:NH) (d a b s c n:Int) (hr:au ⟨13,d,a,b,s,c,n⟩=true):∃v m',bu Tryd.prog S0 10 [.agg [ii 13,ii d,ii a,ii b,ii s,ii c,ii n]] m v m'/\v= .str (aH ⟨13,d,a,b,s,c,n⟩)/\Chg [] m m':=by
 refine WF.ex fun K hK=> ?_
 refine WF.of_wpG (fun _=>rfl) aX (L:= [(.e,.agg [ii 13,ii d,ii a,ii b,ii s,ii c,ii n])]) rfl ?_
 unfold da
 obtain ⟨v,m1,h1,hv,hC1⟩:=bo (hp [(AK.n 0,NO.cells true [ii 13,ii d,ii a,ii b,ii s,ii c,ii n])] 1 m) ⟨13,d,a,b,s,c,n⟩
 subst hv
 rw[hr] at h1
 simp only[Ins.cells] at h1
 have g0:(hp [(AK.n 0,NO.cells true [ii 13,ii d,ii a,ii b,ii s,ii c,ii n])] 1 m).get (na m 0)=some (.cells true [ii 13,ii d,ii a,ii b,ii s,ii c,ii n]):=aM
 have o0:bU (hp [(AK.n 0,NO.cells true [ii 13,ii d,ii a,ii b,ii s,ii c,ii n])] 1 m) (na m 0):=ab (by omega)
 have hC0:Chg [] m (hp [(AK.n 0,NO.cells true [ii 13,ii d,ii a,ii b,ii s,ii c,ii n])] 1 m):=aq rfl
 have g1:=(hC1.get o0 (by simp)).trans g0
 have o1:=hC1.old o0
 have bd:=aS hr
 have b1:-4294967296<=d/\d<=4294967296:=bd 68
 have b2:-4294967296<=a/\a<=4294967296:=bd 65
 have b3:-4294967296<=b/\b<=4294967296:=bd 66
 have b4:-4294967296<=s/\s<=4294967296:=bd 83
 have b5:-4294967296<=c/\c<=4294967296:=bd 67
 have b6:-4294967296<=n/\n<=4294967296:=bd 78
 clear bd
 simp (config:={maxSteps:=1000000}) (disch:=first|assumption|omega|(apply ab;omega)|(apply aa;assumption)|(simp only[aw]<;>omega)) only[go_sem,seval,h1.wf,g1]
 refine cg _ [d,a,n] (by simp) ?_ (.slc (na m1 1) 0 3 1 3) ?_ [115,116,114] (by simp) _ ?_ ?_ ?_ ?_
 ·simp only[Hr,Hq,or_false,forall_eq_or_imp,forall_eq];omega
 ·exact (fj.of (B:=m1) (C:=([d,a,n]:List Int).map fun x=> [ii x]) (by simp) a7 aM (ab (by omega)) rfl rfl rfl).sl
 ·simp (config:={maxSteps:=1000000}) (disch:=first|assumption|omega|(apply ab;omega)|(apply aa;assumption)|(simp only[aw]<;>omega)) only[go_sem,seval]
 ·simp (config:={maxSteps:=1000000}) (disch:=first|assumption|omega|(apply ab;omega)|(apply aa;assumption)|(simp only[aw]<;>omega)) only[go_sem,seval]
 ·simp (config:={maxSteps:=1000000}) (disch:=first|assumption|omega|(apply ab;omega)|(apply aa;assumption)|(simp only[aw]<;>omega)) only[go_sem,seval]
 ·intro t' g
  simp (config:={maxSteps:=1000000}) (disch:=first|assumption|omega|(apply ab;omega)|(apply aa;assumption)|(simp only[aw]<;>omega)) only[go_sem,seval,g]
  refine hK _ _ ⟨?_, ?_⟩
  ·simp only[aH,hr]
   rfl
  ·exact jN (hC0.trans hC1 (by simp)) (aq rfl)
set_option maxRecDepth 100000 in
set_option maxHeartbeats 8000000 in
theorem Bj (m:NH) (d a b s c n:Int) (hr:au ⟨14,d,a,b,s,c,n⟩=true):∃v m',bu Tryd.prog S0 10 [.agg [ii 14,ii d,ii a,ii b,ii s,ii c,ii n]] m v m'/\v= .str (aH ⟨14,d,a,b,s,c,n⟩)/\Chg [] m m':=by
 refine WF.ex fun K hK=> ?_
 refine WF.of_wpG (fun _=>rfl) aX (L:= [(.e,.agg [ii 14,ii d,ii a,ii b,ii s,ii c,ii n])]) rfl ?_
 unfold da
 obtain ⟨v,m1,h1,hv,hC1⟩:=bo (hp [(AK.n 0,NO.cells true [ii 14,ii d,ii a,ii b,ii s,ii c,ii n])] 1 m) ⟨14,d,a,b,s,c,n⟩
 subst hv
 rw[hr] at h1
 simp only[Ins.cells] at h1
 have g0:(hp [(AK.n 0,NO.cells true [ii 14,ii d,ii a,ii b,ii s,ii c,ii n])] 1 m).get (na m 0)=some (.cells true [ii 14,ii d,ii a,ii b,ii s,ii c,ii n]):=aM
 have o0:bU (hp [(AK.n 0,NO.cells true [ii 14,ii d,ii a,ii b,ii s,ii c,ii n])] 1 m) (na m 0):=ab (by omega)
 have hC0:Chg [] m (hp [(AK.n 0,NO.cells true [ii 14,ii d,ii a,ii b,ii s,ii c,ii n])] 1 m):=aq rfl
 have g1:=(hC1.get o0 (by simp)).trans g0
 have o1:=hC1.old o0
 have bd:=aS hr
 have b1:-4294967296<=d/\d<=4294967296:=bd 68
 have b2:-4294967296<=a/\a<=4294967296:=bd 65
 have b3:-4294967296<=b/\b<=4294967296:=bd 66
 have b4:-4294967296<=s/\s<=4294967296:=bd 83
 have b5:-4294967296<=c/\c<=4294967296:=bd 67
 have b6:-4294967296<=n/\n<=4294967296:=bd 78
 clear bd
 simp (config:={maxSteps:=1000000}) (disch:=first|assumption|omega|(apply ab;omega)|(apply aa;assumption)|(simp only[aw]<;>omega)) only[go_sem,seval,h1.wf,g1]
 refine cg _ [d,a] (by simp) ?_ (.slc (na m1 1) 0 2 1 2) ?_ [108,100,97,114] (by simp) _ ?_ ?_ ?_ ?_
 ·simp only[Hr,Hq,or_false,forall_eq_or_imp,forall_eq];omega
 ·exact (fj.of (B:=m1) (C:=([d,a]:List Int).map fun x=> [ii x]) (by simp) a7 aM (ab (by omega)) rfl rfl rfl).sl
 ·simp (config:={maxSteps:=1000000}) (disch:=first|assumption|omega|(apply ab;omega)|(apply aa;assumption)|(simp only[aw]<;>omega)) only[go_sem,seval]
 ·simp (config:={maxSteps:=1000000}) (disch:=first|assumption|omega|(apply ab;omega)|(apply aa;assumption)|(simp only[aw]<;>omega)) only[go_sem,seval]
 ·simp (config:={maxSteps:=1000000}) (disch:=first|assumption|omega|(apply ab;omega)|(apply aa;assumption)|(simp only[aw]<;>omega)) only[go_sem,seval]
 ·intro t' g
  simp (config:={maxSteps:=1000000}) (disch:=first|assumption|omega|(apply ab;omega)|(apply aa;assumption)|(simp only[aw]<;>omega)) only[go_sem,seval,g]
  refine hK _ _ ⟨?_, ?_⟩
  ·simp only[aH,hr]
   rfl
  ·exact jN (hC0.trans hC1 (by simp)) (aq rfl)
set_option maxRecDepth 100000 in
set_option maxHeartbeats 8000000 in
theorem Ay (m:NH) (d a b s c n:Int) (hr:au ⟨15,d,a,b,s,c,n⟩=true):∃v m',bu Tryd.prog S0 10 [.agg [ii 15,ii d,ii a,ii b,ii s,ii c,ii n]] m v m'/\v= .str (aH ⟨15,d,a,b,s,c,n⟩)/\Chg [] m m':=by
 refine WF.ex fun K hK=> ?_
 refine WF.of_wpG (fun _=>rfl) aX (L:= [(.e,.agg [ii 15,ii d,ii a,ii b,ii s,ii c,ii n])]) rfl ?_
 unfold da
 obtain ⟨v,m1,h1,hv,hC1⟩:=bo (hp [(AK.n 0,NO.cells true [ii 15,ii d,ii a,ii b,ii s,ii c,ii n])] 1 m) ⟨15,d,a,b,s,c,n⟩
 subst hv
 rw[hr] at h1
 simp only[Ins.cells] at h1
 have g0:(hp [(AK.n 0,NO.cells true [ii 15,ii d,ii a,ii b,ii s,ii c,ii n])] 1 m).get (na m 0)=some (.cells true [ii 15,ii d,ii a,ii b,ii s,ii c,ii n]):=aM
 have o0:bU (hp [(AK.n 0,NO.cells true [ii 15,ii d,ii a,ii b,ii s,ii c,ii n])] 1 m) (na m 0):=ab (by omega)
 have hC0:Chg [] m (hp [(AK.n 0,NO.cells true [ii 15,ii d,ii a,ii b,ii s,ii c,ii n])] 1 m):=aq rfl
 have g1:=(hC1.get o0 (by simp)).trans g0
 have o1:=hC1.old o0
 have bd:=aS hr
 have b1:-4294967296<=d/\d<=4294967296:=bd 68
 have b2:-4294967296<=a/\a<=4294967296:=bd 65
 have b3:-4294967296<=b/\b<=4294967296:=bd 66
 have b4:-4294967296<=s/\s<=4294967296:=bd 83
 have b5:-4294967296<=c/\c<=4294967296:=bd 67
 have b6:-4294967296<=n/\n<=4294967296:=bd 78
 clear bd
 simp (config:={maxSteps:=1000000}) (disch:=first|assumption|omega|(apply ab;omega)|(apply aa;assumption)|(simp only[aw]<;>omega)) only[go_sem,seval,h1.wf,g1]
 refine cg _ [d,a] (by simp) ?_ (.slc (na m1 1) 0 2 1 2) ?_ [115,116,108,114] (by simp) _ ?_ ?_ ?_ ?_
 ·simp only[Hr,Hq,or_false,forall_eq_or_imp,forall_eq];omega
 ·exact (fj.of (B:=m1) (C:=([d,a]:List Int).map fun x=> [ii x]) (by simp) a7 aM (ab (by omega)) rfl rfl rfl).sl
 ·simp (config:={maxSteps:=1000000}) (disch:=first|assumption|omega|(apply ab;omega)|(apply aa;assumption)|(simp only[aw]<;>omega)) only[go_sem,seval]
 ·simp (config:={maxSteps:=1000000}) (disch:=first|assumption|omega|(apply ab;omega)|(apply aa;assumption)|(simp only[aw]<;>omega)) only[go_sem,seval]
 ·simp (config:={maxSteps:=1000000}) (disch:=first|assumption|omega|(apply ab;omega)|(apply aa;assumption)|(simp only[aw]<;>omega)) only[go_sem,seval]
 ·intro t' g
  simp (config:={maxSteps:=1000000}) (disch:=first|assumption|omega|(apply ab;omega)|(apply aa;assumption)|(simp only[aw]<;>omega)) only[go_sem,seval,g]
  refine hK _ _ ⟨?_, ?_⟩
  ·simp only[aH,hr]
   rfl
  ·exact jN (hC0.trans hC1 (by simp)) (aq rfl)
end LI
open Go Nm Go.Proofs
namespace LI
set_option maxRecDepth 100000 in
set_option maxHeartbeats 8000000 in
theorem BW (m:NH) (d a b s c n:Int) (hr:au ⟨16,d,a,b,s,c,n⟩=true):∃v m',bu Tryd.prog S0 10 [.agg [ii 16,ii d,ii a,ii b,ii s,ii c,ii n]] m v m'/\v= .str (aH ⟨16,d,a,b,s,c,n⟩)/\Chg [] m m':=by
 refine WF.ex fun K hK=> ?_
 refine WF.of_wpG (fun _=>rfl) aX (L:= [(.e,.agg [ii 16,ii d,ii a,ii b,ii s,ii c,ii n])]) rfl ?_
 unfold da
 obtain ⟨v,m1,h1,hv,hC1⟩:=bo (hp [(AK.n 0,NO.cells true [ii 16,ii d,ii a,ii b,ii s,ii c,ii n])] 1 m) ⟨16,d,a,b,s,c,n⟩
 subst hv
 rw[hr] at h1
 simp only[Ins.cells] at h1
 have g0:(hp [(AK.n 0,NO.cells true [ii 16,ii d,ii a,ii b,ii s,ii c,ii n])] 1 m).get (na m 0)=some (.cells true [ii 16,ii d,ii a,ii b,ii s,ii c,ii n]):=aM
 have o0:bU (hp [(AK.n 0,NO.cells true [ii 16,ii d,ii a,ii b,ii s,ii c,ii n])] 1 m) (na m 0):=ab (by omega)
 have hC0:Chg [] m (hp [(AK.n 0,NO.cells true [ii 16,ii d,ii a,ii b,ii s,ii c,ii n])] 1 m):=aq rfl
 have g1:=(hC1.get o0 (by simp)).trans g0
 have o1:=hC1.old o0
 have bd:=aS hr
 have b1:-4294967296<=d/\d<=4294967296:=bd 68
 have b2:-4294967296<=a/\a<=4294967296:=bd 65
 have b3:-4294967296<=b/\b<=4294967296:=bd 66
 have b4:-4294967296<=s/\s<=4294967296:=bd 83
 have b5:-4294967296<=c/\c<=4294967296:=bd 67
 have b6:-4294967296<=n/\n<=4294967296:=bd 78
 clear bd
 simp (config:={maxSteps:=1000000}) (disch:=first|assumption|omega|(apply ab;omega)|(apply aa;assumption)|(simp only[aw]<;>omega)) only[go_sem,seval,h1.wf,g1]
 refine cg _ [d,a] (by simp) ?_ (.slc (na m1 1) 0 2 1 2) ?_ [108,100,120,114] (by simp) _ ?_ ?_ ?_ ?_
 ·simp only[Hr,Hq,or_false,forall_eq_or_imp,forall_eq];omega
 ·exact (fj.of (B:=m1) (C:=([d,a]:List Int).map fun x=> [ii x]) (by simp) a7 aM (ab (by omega)) rfl rfl rfl).sl
 ·simp (config:={maxSteps:=1000000}) (disch:=first|assumption|omega|(apply ab;omega)|(apply aa;assumption)|(simp only[aw]<;>omega)) only[go_sem,seval]
 ·simp (config:={maxSteps:=1000000}) (disch:=first|assumption|omega|(apply ab;omega)|(apply aa;assumption)|(simp only[aw]<;>omega)) only[go_sem,seval]
 ·simp (config:={maxSteps:=1000000}) (disch:=first|assumption|omega|(apply ab;omega)|(apply aa;assumption)|(simp only[aw]<;>omega)) only[go_sem,seval]
 ·intro t' g
  simp (config:={maxSteps:=1000000}) (disch:=first|assumption|omega|(apply ab;omega)|(apply aa;assumption)|(simp only[aw]<;>omega)) only[go_sem,seval,g]
  refine hK _ _ ⟨?_, ?_⟩
  ·simp only[aH,hr]
   rfl
  ·exact jN (hC0.trans hC1 (by simp)) (aq rfl)
set_option maxRecDepth 100000 in
set_option maxHeartbeats 8000000 in
theorem Cx (m:NH) (d a b s c n:Int) (hr:au ⟨17,d,a,b,s,c,n⟩=true):∃v m',bu Tryd.prog S0 10 [.agg [ii 17,ii d,ii a,ii b,ii s,ii c,ii n]] m v m'/\v= .str (aH ⟨17,d,a,b,s,c,n⟩)/\Chg [] m m':=by
 refine WF.ex fun K hK=> ?_
 refine WF.of_wpG (fun _=>rfl) aX (L:= [(.e,.agg [ii 17,ii d,ii a,ii b,ii s,ii c,ii n])]) rfl ?_
 unfold da
 obtain ⟨v,m1,h1,hv,hC1⟩:=bo (hp [(AK.n 0,NO.cells true [ii 17,ii d,ii a,ii b,ii s,ii c,ii n])] 1 m) ⟨17,d,a,b,s,c,n⟩
 subst hv
 rw[hr] at h1
 simp only[Ins.cells] at h1
 have g0:(hp [(AK.n 0,NO.cells true [ii 17,ii d,ii a,ii b,ii s,ii c,ii n])] 1 m).get (na m 0)=some (.cells true [ii 17,ii d,ii a,ii b,ii s,ii c,ii n]):=aM
 have o0:bU (hp [(AK.n 0,NO.cells true [ii 17,ii d,ii a,ii b,ii s,ii c,ii n])] 1 m) (na m 0):=ab (by omega)
 have hC0:Chg [] m (hp [(AK.n 0,NO.cells true [ii 17,ii d,ii a,ii b,ii s,ii c,ii n])] 1 m):=aq rfl
 have g1:=(hC1.get o0 (by simp)).trans g0
 have o1:=hC1.old o0
 have bd:=aS hr
 have b1:-4294967296<=d/\d<=4294967296:=bd 68
 have b2:-4294967296<=a/\a<=4294967296:=bd 65
 have b3:-4294967296<=b/\b<=4294967296:=bd 66
 have b4:-4294967296<=s/\s<=4294967296:=bd 83
 have b5:-4294967296<=c/\c<=4294967296:=bd 67
 have b6:-4294967296<=n/\n<=4294967296:=bd 78
 clear bd
 simp (config:={maxSteps:=1000000}) (disch:=first|assumption|omega|(apply ab;omega)|(apply aa;assumption)|(simp only[aw]<;>omega)) only[go_sem,seval,h1.wf,g1]
 refine cg _ [s,d,a] (by simp) ?_ (.slc (na m1 1) 0 3 1 3) ?_ [115,116,120,114] (by simp) _ ?_ ?_ ?_ ?_
 ·simp only[Hr,Hq,or_false,forall_eq_or_imp,forall_eq];omega
 ·exact (fj.of (B:=m1) (C:=([s,d,a]:List Int).map fun x=> [ii x]) (by simp) a7 aM (ab (by omega)) rfl rfl rfl).sl
 ·simp (config:={maxSteps:=1000000}) (disch:=first|assumption|omega|(apply ab;omega)|(apply aa;assumption)|(simp only[aw]<;>omega)) only[go_sem,seval]
 ·simp (config:={maxSteps:=1000000}) (disch:=first|assumption|omega|(apply ab;omega)|(apply aa;assumption)|(simp only[aw]<;>omega)) only[go_sem,seval]
 ·simp (config:={maxSteps:=1000000}) (disch:=first|assumption|omega|(apply ab;omega)|(apply aa;assumption)|(simp only[aw]<;>omega)) only[go_sem,seval]
 ·intro t' g
  simp (config:={maxSteps:=1000000}) (disch:=first|assumption|omega|(apply ab;omega)|(apply aa;assumption)|(simp only[aw]<;>omega)) only[go_sem,seval,g]
  refine hK _ _ ⟨?_, ?_⟩
  ·simp only[aH,hr]
   rfl
  ·exact jN (hC0.trans hC1 (by simp)) (aq rfl)
set_option maxRecDepth 100000 in
set_option maxHeartbeats 8000000 in
theorem CC (m:NH) (d a b s c n:Int) (hr:au ⟨18,d,a,b,s,c,n⟩=true):∃v m',bu Tryd.prog S0 10 [.agg [ii 18,ii d,ii a,ii b,ii s,ii c,ii n]] m v m'/\v= .str (aH ⟨18,d,a,b,s,c,n⟩)/\Chg [] m m':=by
 refine WF.ex fun K hK=> ?_
 refine WF.of_wpG (fun _=>rfl) aX (L:= [(.e,.agg [ii 18,ii d,ii a,ii b,ii s,ii c,ii n])]) rfl ?_
 unfold da
 obtain ⟨v,m1,h1,hv,hC1⟩:=bo (hp [(AK.n 0,NO.cells true [ii 18,ii d,ii a,ii b,ii s,ii c,ii n])] 1 m) ⟨18,d,a,b,s,c,n⟩
 subst hv
 rw[hr] at h1
 simp only[Ins.cells] at h1
 have g0:(hp [(AK.n 0,NO.cells true [ii 18,ii d,ii a,ii b,ii s,ii c,ii n])] 1 m).get (na m 0)=some (.cells true [ii 18,ii d,ii a,ii b,ii s,ii c,ii n]):=aM
 have o0:bU (hp [(AK.n 0,NO.cells true [ii 18,ii d,ii a,ii b,ii s,ii c,ii n])] 1 m) (na m 0):=ab (by omega)
 have hC0:Chg [] m (hp [(AK.n 0,NO.cells true [ii 18,ii d,ii a,ii b,ii s,ii c,ii n])] 1 m):=aq rfl
 have g1:=(hC1.get o0 (by simp)).trans g0
 have o1:=hC1.old o0
 have bd:=aS hr
 have b1:-4294967296<=d/\d<=4294967296:=bd 68
 have b2:-4294967296<=a/\a<=4294967296:=bd 65
 have b3:-4294967296<=b/\b<=4294967296:=bd 66
 have b4:-4294967296<=s/\s<=4294967296:=bd 83
 have b5:-4294967296<=c/\c<=4294967296:=bd 67
 have b6:-4294967296<=n/\n<=4294967296:=bd 78
 clear bd
 simp (config:={maxSteps:=1000000}) (disch:=first|assumption|omega|(apply ab;omega)|(apply aa;assumption)|(simp only[aw]<;>omega)) only[go_sem,seval,h1.wf,g1]
 refine cg _ [] (by simp) ?_ .nils ?_ [100,109,98] (by simp) _ ?_ ?_ ?_ ?_
 ·simp
 ·exact Sl.nil
 ·simp (config:={maxSteps:=1000000}) (disch:=first|assumption|omega|(apply ab;omega)|(apply aa;assumption)|(simp only[aw]<;>omega)) only[go_sem,seval]
 ·simp (config:={maxSteps:=1000000}) (disch:=first|assumption|omega|(apply ab;omega)|(apply aa;assumption)|(simp only[aw]<;>omega)) only[go_sem,seval]
 ·simp (config:={maxSteps:=1000000}) (disch:=first|assumption|omega|(apply ab;omega)|(apply aa;assumption)|(simp only[aw]<;>omega)) only[go_sem,seval]
 ·intro t' g
  simp (config:={maxSteps:=1000000}) (disch:=first|assumption|omega|(apply ab;omega)|(apply aa;assumption)|(simp only[aw]<;>omega)) only[go_sem,seval,g]
  refine hK _ _ ⟨?_, ?_⟩
  ·simp only[aH,hr]
   rfl
  ·exact jN (hC0.trans hC1 (by simp)) (aq rfl)
set_option maxRecDepth 100000 in
set_option maxHeartbeats 8000000 in
theorem BA (m:NH) (d a b s c n:Int) (hr:au ⟨19,d,a,b,s,c,n⟩=true):∃v m',bu Tryd.prog S0 10 [.agg [ii 19,ii d,ii a,ii b,ii s,ii c,ii n]] m v m'/\v= .str (aH ⟨19,d,a,b,s,c,n⟩)/\Chg [] m m':=by
 refine WF.ex fun K hK=> ?_
 refine WF.of_wpG (fun _=>rfl) aX (L:= [(.e,.agg [ii 19,ii d,ii a,ii b,ii s,ii c,ii n])]) rfl ?_
 unfold da
 obtain ⟨v,m1,h1,hv,hC1⟩:=bo (hp [(AK.n 0,NO.cells true [ii 19,ii d,ii a,ii b,ii s,ii c,ii n])] 1 m) ⟨19,d,a,b,s,c,n⟩
 subst hv
 rw[hr] at h1
 simp only[Ins.cells] at h1
 have g0:(hp [(AK.n 0,NO.cells true [ii 19,ii d,ii a,ii b,ii s,ii c,ii n])] 1 m).get (na m 0)=some (.cells true [ii 19,ii d,ii a,ii b,ii s,ii c,ii n]):=aM
 have o0:bU (hp [(AK.n 0,NO.cells true [ii 19,ii d,ii a,ii b,ii s,ii c,ii n])] 1 m) (na m 0):=ab (by omega)
 have hC0:Chg [] m (hp [(AK.n 0,NO.cells true [ii 19,ii d,ii a,ii b,ii s,ii c,ii n])] 1 m):=aq rfl
 have g1:=(hC1.get o0 (by simp)).trans g0
 have o1:=hC1.old o0
 have bd:=aS hr
 have b1:-4294967296<=d/\d<=4294967296:=bd 68
 have b2:-4294967296<=a/\a<=4294967296:=bd 65
 have b3:-4294967296<=b/\b<=4294967296:=bd 66
 have b4:-4294967296<=s/\s<=4294967296:=bd 83
 have b5:-4294967296<=c/\c<=4294967296:=bd 67
 have b6:-4294967296<=n/\n<=4294967296:=bd 78
 clear bd
 simp (config:={maxSteps:=1000000}) (disch:=first|assumption|omega|(apply ab;omega)|(apply aa;assumption)|(simp only[aw]<;>omega)) only[go_sem,seval,h1.wf,g1]
 refine cg _ [] (by simp) ?_ .nils ?_ [100,115,98] (by simp) _ ?_ ?_ ?_ ?_
 ·simp
 ·exact Sl.nil
 ·simp (config:={maxSteps:=1000000}) (disch:=first|assumption|omega|(apply ab;omega)|(apply aa;assumption)|(simp only[aw]<;>omega)) only[go_sem,seval]
 ·simp (config:={maxSteps:=1000000}) (disch:=first|assumption|omega|(apply ab;omega)|(apply aa;assumption)|(simp only[aw]<;>omega)) only[go_sem,seval]
 ·simp (config:={maxSteps:=1000000}) (disch:=first|assumption|omega|(apply ab;omega)|(apply aa;assumption)|(simp only[aw]<;>omega)) only[go_sem,seval]
 ·intro t' g
  simp (config:={maxSteps:=1000000}) (disch:=first|assumption|omega|(apply ab;omega)|(apply aa;assumption)|(simp only[aw]<;>omega)) only[go_sem,seval,g]
  refine hK _ _ ⟨?_, ?_⟩
  ·simp only[aH,hr]
   rfl
  ·exact jN (hC0.trans hC1 (by simp)) (aq rfl)
set_option maxRecDepth 100000 in
set_option maxHeartbeats 8000000 in
theorem B8 (m:NH) (d a b s c n:Int) (hr:au ⟨20,d,a,b,s,c,n⟩=true):∃v m',bu Tryd.prog S0 10 [.agg [ii 20,ii d,ii a,ii b,ii s,ii c,ii n]] m v m'/\v= .str (aH ⟨20,d,a,b,s,c,n⟩)/\Chg [] m m':=by
 refine WF.ex fun K hK=> ?_
 refine WF.of_wpG (fun _=>rfl) aX (L:= [(.e,.agg [ii 20,ii d,ii a,ii b,ii s,ii c,ii n])]) rfl ?_
 unfold da
 obtain ⟨v,m1,h1,hv,hC1⟩:=bo (hp [(AK.n 0,NO.cells true [ii 20,ii d,ii a,ii b,ii s,ii c,ii n])] 1 m) ⟨20,d,a,b,s,c,n⟩
 subst hv
 rw[hr] at h1
 simp only[Ins.cells] at h1
 have g0:(hp [(AK.n 0,NO.cells true [ii 20,ii d,ii a,ii b,ii s,ii c,ii n])] 1 m).get (na m 0)=some (.cells true [ii 20,ii d,ii a,ii b,ii s,ii c,ii n]):=aM
 have o0:bU (hp [(AK.n 0,NO.cells true [ii 20,ii d,ii a,ii b,ii s,ii c,ii n])] 1 m) (na m 0):=ab (by omega)
 have hC0:Chg [] m (hp [(AK.n 0,NO.cells true [ii 20,ii d,ii a,ii b,ii s,ii c,ii n])] 1 m):=aq rfl
 have g1:=(hC1.get o0 (by simp)).trans g0
 have o1:=hC1.old o0
 have bd:=aS hr
 have b1:-4294967296<=d/\d<=4294967296:=bd 68
 have b2:-4294967296<=a/\a<=4294967296:=bd 65
 have b3:-4294967296<=b/\b<=4294967296:=bd 66
 have b4:-4294967296<=s/\s<=4294967296:=bd 83
 have b5:-4294967296<=c/\c<=4294967296:=bd 67
 have b6:-4294967296<=n/\n<=4294967296:=bd 78
 clear bd
 simp (config:={maxSteps:=1000000}) (disch:=first|assumption|omega|(apply ab;omega)|(apply aa;assumption)|(simp only[aw]<;>omega)) only[go_sem,seval,h1.wf,g1]
 refine cg _ [a] (by simp) ?_ (.slc (na m1 1) 0 1 1 1) ?_ [99,118,97,112] (by simp) _ ?_ ?_ ?_ ?_
 ·simp only[Hr,Hq,or_false,forall_eq_or_imp,forall_eq];omega
 ·exact (fj.of (B:=m1) (C:=([a]:List Int).map fun x=> [ii x]) (by simp) a7 aM (ab (by omega)) rfl rfl rfl).sl
 ·simp (config:={maxSteps:=1000000}) (disch:=first|assumption|omega|(apply ab;omega)|(apply aa;assumption)|(simp only[aw]<;>omega)) only[go_sem,seval]
 ·simp (config:={maxSteps:=1000000}) (disch:=first|assumption|omega|(apply ab;omega)|(apply aa;assumption)|(simp only[aw]<;>omega)) only[go_sem,seval]
 ·simp (config:={maxSteps:=1000000}) (disch:=first|assumption|omega|(apply ab;omega)|(apply aa;assumption)|(simp only[aw]<;>omega)) only[go_sem,seval]
 ·intro t' g
  simp (config:={maxSteps:=1000000}) (disch:=first|assumption|omega|(apply ab;omega)|(apply aa;assumption)|(simp only[aw]<;>omega)) only[go_sem,seval,g]
  refine hK _ _ ⟨?_, ?_⟩
  ·simp only[aH,hr]
   rfl
  ·exact jN (hC0.trans hC1 (by simp)) (aq rfl)
set_option maxRecDepth 100000 in
set_option maxHeartbeats 8000000 in
theorem B3 (m:NH) (d a b s c n:Int) (hr:au ⟨21,d,a,b,s,c,n⟩=true):∃v m',bu Tryd.prog S0 10 [.agg [ii 21,ii d,ii a,ii b,ii s,ii c,ii n]] m v m'/\v= .str (aH ⟨21,d,a,b,s,c,n⟩)/\Chg [] m m':=by
 refine WF.ex fun K hK=> ?_
 refine WF.of_wpG (fun _=>rfl) aX (L:= [(.e,.agg [ii 21,ii d,ii a,ii b,ii s,ii c,ii n])]) rfl ?_
 unfold da
 obtain ⟨v,m1,h1,hv,hC1⟩:=bo (hp [(AK.n 0,NO.cells true [ii 21,ii d,ii a,ii b,ii s,ii c,ii n])] 1 m) ⟨21,d,a,b,s,c,n⟩
 subst hv
 rw[hr] at h1
 simp only[Ins.cells] at h1
 have g0:(hp [(AK.n 0,NO.cells true [ii 21,ii d,ii a,ii b,ii s,ii c,ii n])] 1 m).get (na m 0)=some (.cells true [ii 21,ii d,ii a,ii b,ii s,ii c,ii n]):=aM
 have o0:bU (hp [(AK.n 0,NO.cells true [ii 21,ii d,ii a,ii b,ii s,ii c,ii n])] 1 m) (na m 0):=ab (by omega)
 have hC0:Chg [] m (hp [(AK.n 0,NO.cells true [ii 21,ii d,ii a,ii b,ii s,ii c,ii n])] 1 m):=aq rfl
 have g1:=(hC1.get o0 (by simp)).trans g0
 have o1:=hC1.old o0
 have bd:=aS hr
 have b1:-4294967296<=d/\d<=4294967296:=bd 68
 have b2:-4294967296<=a/\a<=4294967296:=bd 65
 have b3:-4294967296<=b/\b<=4294967296:=bd 66
 have b4:-4294967296<=s/\s<=4294967296:=bd 83
 have b5:-4294967296<=c/\c<=4294967296:=bd 67
 have b6:-4294967296<=n/\n<=4294967296:=bd 78
 clear bd
 simp (config:={maxSteps:=1000000}) (disch:=first|assumption|omega|(apply ab;omega)|(apply aa;assumption)|(simp only[aw]<;>omega)) only[go_sem,seval,h1.wf,g1]
 refine cg _ [] (by simp) ?_ .nils ?_ [110,111,112] (by simp) _ ?_ ?_ ?_ ?_
 ·simp
 ·exact Sl.nil
 ·simp (config:={maxSteps:=1000000}) (disch:=first|assumption|omega|(apply ab;omega)|(apply aa;assumption)|(simp only[aw]<;>omega)) only[go_sem,seval]
 ·simp (config:={maxSteps:=1000000}) (disch:=first|assumption|omega|(apply ab;omega)|(apply aa;assumption)|(simp only[aw]<;>omega)) only[go_sem,seval]
 ·simp (config:={maxSteps:=1000000}) (disch:=first|assumption|omega|(apply ab;omega)|(apply aa;assumption)|(simp only[aw]<;>omega)) only[go_sem,seval]
 ·intro t' g
  simp (config:={maxSteps:=1000000}) (disch:=first|assumption|omega|(apply ab;omega)|(apply aa;assumption)|(simp only[aw]<;>omega)) only[go_sem,seval,g]
  refine hK _ _ ⟨?_, ?_⟩
  ·simp only[aH,hr]
   rfl
  ·exact jN (hC0.trans hC1 (by simp)) (aq rfl)
set_option maxRecDepth 100000 in
set_option maxHeartbeats 8000000 in
theorem By (m:NH) (d a b s c n:Int) (hr:au ⟨22,d,a,b,s,c,n⟩=true):∃v m',bu Tryd.prog S0 10 [.agg [ii 22,ii d,ii a,ii b,ii s,ii c,ii n]] m v m'/\v= .str (aH ⟨22,d,a,b,s,c,n⟩)/\Chg [] m m':=by
 refine WF.ex fun K hK=> ?_
 refine WF.of_wpG (fun _=>rfl) aX (L:= [(.e,.agg [ii 22,ii d,ii a,ii b,ii s,ii c,ii n])]) rfl ?_
 unfold da
 obtain ⟨v,m1,h1,hv,hC1⟩:=bo (hp [(AK.n 0,NO.cells true [ii 22,ii d,ii a,ii b,ii s,ii c,ii n])] 1 m) ⟨22,d,a,b,s,c,n⟩
 subst hv
 rw[hr] at h1
 simp only[Ins.cells] at h1
 have g0:(hp [(AK.n 0,NO.cells true [ii 22,ii d,ii a,ii b,ii s,ii c,ii n])] 1 m).get (na m 0)=some (.cells true [ii 22,ii d,ii a,ii b,ii s,ii c,ii n]):=aM
 have o0:bU (hp [(AK.n 0,NO.cells true [ii 22,ii d,ii a,ii b,ii s,ii c,ii n])] 1 m) (na m 0):=ab (by omega)
 have hC0:Chg [] m (hp [(AK.n 0,NO.cells true [ii 22,ii d,ii a,ii b,ii s,ii c,ii n])] 1 m):=aq rfl
 have g1:=(hC1.get o0 (by simp)).trans g0
 have o1:=hC1.old o0
 have bd:=aS hr
 have b1:-4294967296<=d/\d<=4294967296:=bd 68
 have b2:-4294967296<=a/\a<=4294967296:=bd 65
 have b3:-4294967296<=b/\b<=4294967296:=bd 66
 have b4:-4294967296<=s/\s<=4294967296:=bd 83
 have b5:-4294967296<=c/\c<=4294967296:=bd 67
 have b6:-4294967296<=n/\n<=4294967296:=bd 78
 clear bd
 simp (config:={maxSteps:=1000000}) (disch:=first|assumption|omega|(apply ab;omega)|(apply aa;assumption)|(simp only[aw]<;>omega)) only[go_sem,seval,h1.wf,g1]
 refine cg _ [] (by simp) ?_ .nils ?_ [104,108,116] (by simp) _ ?_ ?_ ?_ ?_
 ·simp
 ·exact Sl.nil
 ·simp (config:={maxSteps:=1000000}) (disch:=first|assumption|omega|(apply ab;omega)|(apply aa;assumption)|(simp only[aw]<;>omega)) only[go_sem,seval]
 ·simp (config:={maxSteps:=1000000}) (disch:=first|assumption|omega|(apply ab;omega)|(apply aa;assumption)|(simp only[aw]<;>omega)) only[go_sem,seval]
 ·simp (config:={maxSteps:=1000000}) (disch:=first|assumption|omega|(apply ab;omega)|(apply aa;assumption)|(simp only[aw]<;>omega)) only[go_sem,seval]
 ·intro t' g
  simp (config:={maxSteps:=1000000}) (disch:=first|assumption|omega|(apply ab;omega)|(apply aa;assumption)|(simp only[aw]<;>omega)) only[go_sem,seval,g]
  refine hK _ _ ⟨?_, ?_⟩
  ·simp only[aH,hr]
   rfl
  ·exact jN (hC0.trans hC1 (by simp)) (aq rfl)
set_option maxRecDepth 100000 in
set_option maxHeartbeats 8000000 in
theorem Bl (m:NH) (d a b s c n:Int) (hr:au ⟨23,d,a,b,s,c,n⟩=true):∃v m',bu Tryd.prog S0 10 [.agg [ii 23,ii d,ii a,ii b,ii s,ii c,ii n]] m v m'/\v= .str (aH ⟨23,d,a,b,s,c,n⟩)/\Chg [] m m':=by
 refine WF.ex fun K hK=> ?_
 refine WF.of_wpG (fun _=>rfl) aX (L:= [(.e,.agg [ii 23,ii d,ii a,ii b,ii s,ii c,ii n])]) rfl ?_
 unfold da
 obtain ⟨v,m1,h1,hv,hC1⟩:=bo (hp [(AK.n 0,NO.cells true [ii 23,ii d,ii a,ii b,ii s,ii c,ii n])] 1 m) ⟨23,d,a,b,s,c,n⟩
 subst hv
 rw[hr] at h1
 simp only[Ins.cells] at h1
 have g0:(hp [(AK.n 0,NO.cells true [ii 23,ii d,ii a,ii b,ii s,ii c,ii n])] 1 m).get (na m 0)=some (.cells true [ii 23,ii d,ii a,ii b,ii s,ii c,ii n]):=aM
 have o0:bU (hp [(AK.n 0,NO.cells true [ii 23,ii d,ii a,ii b,ii s,ii c,ii n])] 1 m) (na m 0):=ab (by omega)
 have hC0:Chg [] m (hp [(AK.n 0,NO.cells true [ii 23,ii d,ii a,ii b,ii s,ii c,ii n])] 1 m):=aq rfl
 have g1:=(hC1.get o0 (by simp)).trans g0
 have o1:=hC1.old o0
 have bd:=aS hr
 have b1:-4294967296<=d/\d<=4294967296:=bd 68
 have b2:-4294967296<=a/\a<=4294967296:=bd 65
 have b3:-4294967296<=b/\b<=4294967296:=bd 66
 have b4:-4294967296<=s/\s<=4294967296:=bd 83
 have b5:-4294967296<=c/\c<=4294967296:=bd 67
 have b6:-4294967296<=n/\n<=4294967296:=bd 78
 clear bd
 simp (config:={maxSteps:=1000000}) (disch:=first|assumption|omega|(apply ab;omega)|(apply aa;assumption)|(simp only[aw]<;>omega)) only[go_sem,seval,h1.wf,g1]
 refine cg _ [] (by simp) ?_ .nils ?_ [115,118,99] (by simp) _ ?_ ?_ ?_ ?_
 ·simp
 ·exact Sl.nil
 ·simp (config:={maxSteps:=1000000}) (disch:=first|assumption|omega|(apply ab;omega)|(apply aa;assumption)|(simp only[aw]<;>omega)) only[go_sem,seval]
 ·simp (config:={maxSteps:=1000000}) (disch:=first|assumption|omega|(apply ab;omega)|(apply aa;assumption)|(simp only[aw]<;>omega)) only[go_sem,seval]
 ·simp (config:={maxSteps:=1000000}) (disch:=first|assumption|omega|(apply ab;omega)|(apply aa;assumption)|(simp only[aw]<;>omega)) only[go_sem,seval]
 ·intro t' g
  simp (config:={maxSteps:=1000000}) (disch:=first|assumption|omega|(apply ab;omega)|(apply aa;assumption)|(simp only[aw]<;>omega)) only[go_sem,seval,g]
  refine hK _ _ ⟨?_, ?_⟩
  ·simp only[aH,hr]
   rfl
  ·exact jN (hC0.trans hC1 (by simp)) (aq rfl)
end LI
open Go Nm Go.Proofs
namespace LI
theorem tV (m:NH) (i:Ins):∃v m',bu Tryd.prog S0 10 [.agg i.cells] m v m'/\v= .str (aH i)/\Chg [] m m':=by
 obtain ⟨k,d,a,b,s,c,n⟩:=i
 cases hr:au ⟨k,d,a,b,s,c,n⟩ with
 |false=>
  refine WF.ex fun K hK=> ?_
  refine WF.of_wpG (fun _=>rfl) aX (L:= [(.e,.agg [ii k,ii d,ii a,ii b,ii s,ii c,ii n])]) rfl ?_
  unfold da
  obtain ⟨v,m1,h1,hv,hC1⟩:=bo (hp [(AK.n 0,NO.cells true [ii k,ii d,ii a,ii b,ii s,ii c,ii n])] 1 m) ⟨k,d,a,b,s,c,n⟩
  subst hv
  rw[hr] at h1
  simp only[Ins.cells] at h1
  have hC0:Chg [] m (hp [(AK.n 0,NO.cells true [ii k,ii d,ii a,ii b,ii s,ii c,ii n])] 1 m):=aq rfl
  simp (config:={maxSteps:=1000000}) (disch:=first|assumption|omega|(apply ab;omega)|(apply aa;assumption)|(simp only[aw]<;>omega)) only[go_sem,seval,h1.wf]
  refine hK _ _ ⟨?_, ?_⟩
  ·simp[aH,hr]
  ·rw[aO];exact jN hC0 hC1
 |true=>
  have hk:0<=k/\k<24:=by simp only[au,Bool.and_eq_true,decide_eq_true_eq] at hr;exact hr.1
  have hc:k=0∨k=1∨k=2∨k=3∨k=4∨k=5∨k=6∨k=7∨k=8∨k=9∨k=10∨k=11∨k=12∨k=13∨k=14∨k=15∨k=16∨k=17∨k=18∨k=19∨k=20∨k=21∨k=22∨k=23:=by omega
  rcases hc with rfl|rfl|rfl|rfl|rfl|rfl|rfl|rfl|rfl|rfl|rfl|rfl|rfl|rfl|rfl|rfl|rfl|rfl|rfl|rfl|rfl|rfl|rfl|rfl
  ·exact CY m d a b s c n hr
  ·exact As m d a b s c n hr
  ·exact Di m d a b s c n hr
  ·exact DC m d a b s c n hr
  ·exact Dg m d a b s c n hr
  ·exact Df m d a b s c n hr
  ·exact ED m d a b s c n hr
  ·exact DK m d a b s c n hr
  ·exact EJ m d a b s c n hr
  ·exact DU m d a b s c n hr
  ·exact Cl m d a b s c n hr
  ·exact Ce m d a b s c n hr
  ·exact AW m d a b s c n hr
  ·exact Ci m d a b s c n hr
  ·exact Bj m d a b s c n hr
  ·exact Ay m d a b s c n hr
  ·exact BW m d a b s c n hr
  ·exact Cx m d a b s c n hr
  ·exact CC m d a b s c n hr
  ·exact BA m d a b s c n hr
  ·exact B8 m d a b s c n hr
  ·exact B3 m d a b s c n hr
  ·exact By m d a b s c n hr
  ·exact Bl m d a b s c n hr
end LI
open Go Nm Go.Proofs
namespace LI
def bD (c:Nat):List Nat->List (List Nat)
 | []=> [[]]
 |x::l=>if x=c then []::bD c l else (match bD c l with|p::ps=>(x::p)::ps| []=> [[x]])
def er (c:Nat):List Nat->Nat
 | []=>0
 |x::l=>if x=c then er c l+1 else er c l
def eo (c:Nat):List Nat->Option Nat
 | []=>none
 |x::l=>if x=c then some 0 else (eo c l).map (·+1)
theorem kS (c x:Nat) (l:List Nat):eo c (x::l)=if x=c then some 0 else (eo c l).map (·+1):=rfl
theorem eJ (c x:Nat) (l:List Nat):er c (x::l)=if x=c then er c l+1 else er c l:=rfl
theorem ck (c x:Nat) (l:List Nat):bD c (x::l)=if x=c then []::bD c l else (match bD c l with|p::ps=>(x::p)::ps| []=> [[x]]):=rfl
theorem uz (c:Nat):∀(l:List Nat) (i:Nat),lN c l i=(eo c l).map (·+i):=by
 intro l
 induction l with
 |nil=>intro i;rfl
 |cons x l ih=>
  intro i
  have e:lN c (x::l) i=cond (Nat.beq x c) (some i) (ai (Nat.succ i) (lN c l)):=rfl
  rw[e,ae,ih]
  rw[kS]
  cases h:Nat.beq x c with
  |true=>rw[Hn (Hs h)];simp
  |false=>
   rw[Hm (Nat.ne_of_beq_eq_false h)]
   simp only[cond_false]
   cases eo c l with
   |none=>rfl
   |some j=>simp;omega
theorem yY (c:Nat):∀(l:List Nat) (n:Nat),lG c l n=n+er c l:=by
 intro l
 induction l with
 |nil=>intro n;rfl
 |cons x l ih=>
  intro n
  have e:lG c (x::l) n=cond (Nat.beq x c) (ai (Nat.succ n) (lG c l)) (lG c l n):=rfl
  rw[e,ae]
  rw[eJ]
  cases h:Nat.beq x c with
  |true=>rw[Hn (Hs h),cond_true,ih];omega
  |false=>rw[Hm (Nat.ne_of_beq_eq_false h),cond_false,ih]
theorem n7 {c:Nat}:∀{l:List Nat} {j:Nat},eo c l=some j->j<l.length/\bD c l=l.take j::bD c (l.drop (j+1))/\er c l=er c (l.drop (j+1))+1:=by
 intro l
 induction l with
 |nil=>intro j h;cases h
 |cons x l ih=>
  intro j h
  rw[kS] at h
  split at h
  ·rename_i hx
   cases h
   rw[ck,eJ,Hn hx,Hn hx]
   simp
  ·rename_i hx
   cases hf:eo c l with
   |none=>rw[hf] at h;cases h
   |some i=>
    rw[hf] at h
    obtain rfl:i+1=j:=by simpa using h
    obtain ⟨h1,h2,h3⟩:=ih hf
    rw[ck,eJ,Hm hx,Hm hx,h2]
    simp[h3];omega
theorem oH {c:Nat}:∀{l:List Nat},eo c l=none->bD c l= [l]/\er c l=0:=by
 intro l
 induction l with
 |nil=>intro _;exact ⟨rfl,rfl⟩
 |cons x l ih=>
  intro h
  rw[kS] at h
  split at h
  ·cases h
  ·rename_i hx
   cases hf:eo c l with
   |none=>
    obtain ⟨h1,h2⟩:=ih hf
    rw[ck,eJ,Hm hx,Hm hx,h1]
    exact ⟨rfl,h2⟩
   |some i=>rw[hf] at h;cases h
theorem mj (c:Nat):∀(l:List Nat),(bD c l).length=er c l+1:=by
 intro l
 induction l with
 |nil=>rfl
 |cons x l ih=>
  rw[ck,eJ]
  split
  ·simp[ih]
  ·cases hs:bD c l with
   |nil=>rw[hs] at ih;simp at ih
   |cons p ps=>rw[hs] at ih;simpa using ih
theorem vT (c:Nat):∀(l:List Nat),er c l<=l.length:=by
 intro l
 induction l with
 |nil=>simp[er]
 |cons x l ih=>rw[eJ];split<;>simp<;>omega
def y6 (o:Option Nat):Int:=match o with|some j=>j|none=>-1
theorem zm:am Tryd.prog 138=some (.ext .idxByte):=by kernel_rfl
theorem ze:am Tryd.prog 96=some (.ext .cntByte):=by kernel_rfl
theorem zC (m:NH) (s:List Nat) (c:Nat) (hc:c<256):bu Tryd.prog S0 96 [.str s,u8 c] m (ii (er c s)) m:=by
 refine bu.ext rfl ze ?_
 show cond (Nat.ble c 255) (some (NV.int .i64 (.lit (.ofNat (lG c s 0))))) none=_
 rw[Nat.ble_eq_true_of_le (by omega),yY,Nat.zero_add];rfl
theorem AC (m:NH) (s:List Nat) (c:Nat) (hc:c<256):bu Tryd.prog S0 138 [.str s,u8 c] m (ii (y6 (eo c s))) m:=by
 refine bu.ext rfl zm ?_
 show cond (Nat.ble c 255) (match lN c s 0 with|some i=>some (NV.int .i64 (.lit (.ofNat i)))|none=>some (.int .i64 (.lit (.negSucc 0)))) none=_
 rw[Nat.ble_eq_true_of_le (by omega),uz]
 cases eo c s<;>rfl
theorem uy (m:NH) (s:List Nat) (c:Nat) (hc:c<256):bu Tryd.prog S0 125 [.str s,u8 c] m (ii (y6 (eo c s))) m:=by
 have h:∃u m',bu Tryd.prog S0 125 [.str s,u8 c] m u m'/\u=ii (y6 (eo c s))/\m'=m:=by
  refine WF.ex fun K hK=> ?_
  refine WF.of_wpG (fun _=>rfl) nZ (L:= [(.a .e,u8 c),(.e,.str s)]) rfl ?_
  unfold vZ
  simp (config:={maxSteps:=1000000}) (disch:=first|assumption|omega|(apply ab;omega)|(apply aa;assumption)|(simp only[aw]<;>omega)) only[go_sem,seval,(AC _ s c hc).wf']
  exact hK _ _ ⟨rfl,aO m⟩
 obtain ⟨v,m',h,rfl,rfl⟩:=h
 exact h
theorem vv (m:NH) (s:List Nat) (c:Nat) (hc:c<256):bu Tryd.prog S0 97 [.str s,.str [c]] m (ii (y6 (eo c s))) m:=by
 have h:∃u m',bu Tryd.prog S0 97 [.str s,.str [c]] m u m'/\u=ii (y6 (eo c s))/\m'=m:=by
  refine WF.ex fun K hK=> ?_
  refine WF.of_wpG (fun _=>rfl) rI (L:= [(.a .e,.str [c]),(.e,.str s)]) rfl ?_
  unfold CE
  have hb: [c][0]? =some c:=rfl
  have hl1: [c].length=1:=rfl
  by_cases hcs: [c]=s
  ·subst hcs
   simp (config:={maxSteps:=1000000}) (disch:=first|assumption|omega|(apply ab;omega)|(apply aa;assumption)|(simp only[aw]<;>omega)) only[go_sem,seval,hb,hl1]
   refine hK _ _ ⟨?_,aO m⟩
   simp[y6,eo]
  ·simp (config:={maxSteps:=1000000}) (disch:=first|assumption|omega|(apply ab;omega)|(apply aa;assumption)|(simp only[aw]<;>omega)) only[go_sem,seval,hb,hl1,Ho hcs,(uy _ s c hc).wf']
   exact hK _ _ ⟨rfl,aO m⟩
 obtain ⟨v,m',h,rfl,rfl⟩:=h
 exact h
theorem yE (m:NH) (s:List Nat) (c:Nat) (hc:c<256):bu Tryd.prog S0 71 [.str s,.str [c]] m (ii (y6 (eo c s))) m:=by
 have h:∃u m',bu Tryd.prog S0 71 [.str s,.str [c]] m u m'/\u=ii (y6 (eo c s))/\m'=m:=by
  refine WF.ex fun K hK=> ?_
  refine WF.of_wpG (fun _=>rfl) rO (L:= [(.a .e,.str [c]),(.e,.str s)]) rfl ?_
  unfold Cz
  simp (config:={maxSteps:=1000000}) (disch:=first|assumption|omega|(apply ab;omega)|(apply aa;assumption)|(simp only[aw]<;>omega)) only[go_sem,seval,(vv _ s c hc).wf']
  exact hK _ _ ⟨rfl,aO m⟩
 obtain ⟨v,m',h,rfl,rfl⟩:=h
 exact h
theorem Dk (m:NH) (s:List Nat) (c:Nat) (hc:c<256):bu Tryd.prog S0 70 [.str s,.str [c]] m (ii (er c s)) m:=by
 have h:∃u m',bu Tryd.prog S0 70 [.str s,.str [c]] m u m'/\u=ii (er c s)/\m'=m:=by
  refine WF.ex fun K hK=> ?_
  refine WF.of_wpG (fun _=>rfl) r9 (L:= [(.a .e,.str [c]),(.e,.str s)]) rfl ?_
  unfold A3
  have hb: [c][0]? =some c:=rfl
  have hl1: [c].length=1:=rfl
  simp (config:={maxSteps:=1000000}) (disch:=first|assumption|omega|(apply ab;omega)|(apply aa;assumption)|(simp only[aw]<;>omega)) only[go_sem,seval,hb,hl1,(zC _ s c hc).wf']
  exact hK _ _ ⟨rfl,aO m⟩
 obtain ⟨v,m',h,rfl,rfl⟩:=h
 exact h
end LI
open Go Nm Go.Proofs
namespace LI
theorem gq {k:D4} {L:List (D4×NV)} {t:Tm} {v:Option NV} (h:eu k L (NT.get k t)=v):NT.get k (aG L t)=v:=(fL k L t).trans h
theorem one {a b:D4} (h:a∈ [b]):a=b:=by simpa using h
section
variable {l:List (AK×NO)} {k j:Nat} {m M:NH} {id:D4} {o:NO} {S:List D4}
theorem Bm (ho:bU m id) (h:hp ((.o id,o)::l) k m=M):M.get id=some o:=by rw[←h];exact (qA ho).trans oS
theorem jQ (h:hp l k m=M) (hs:qu l=S):Chg S m M:=by rw[←h];exact aq hs
theorem wb (h:hp l k m=M) (hj:j<k):bU M (na m j):=by rw[←h];exact ab hj
theorem xk (h:hp l k m=M):M.get (na m j)=jv j l (m.get (na m j)):=by rw[←h];exact aM
end
theorem take_set {α:Type} {i:Nat} {x:α}:∀{l:List α},i<l.length->(l.set i x).take (i+1)=l.take i++ [x]:=by
 induction i with
 |zero=>intro l h;cases l with|nil=>simp at h|cons a l=>simp
 |succ i ih=>intro l h;cases l with|nil=>simp at h|cons a l=>simp;exact ih (by simpa using h)
theorem oI:∀(P:List (List Nat)),(P.map fun p=> [NV.str p]).flatten=P.map .str:=by
 intro P
 induction P with
 |nil=>rfl
 |cons a P ih=>rw[List.map_cons,List.flatten_cons,ih];rfl
set_option maxHeartbeats 8000000 in
theorem pK (m:NH) (s:List Nat) (hs:s.length<=1000000):∃v m',bu Tryd.prog S0 43 [.str s,.str [32],ii 0,ii (-1)] m v m'/\fj m m' v 1 ((bD 32 s).map fun p=> [.str p])/\Chg [] m m':=by
 refine WF.ex fun K hK=> ?_
 refine WF.of_wpG (fun _=>rfl) rt (L:= [(.c .e,ii (-1)),(.b .e,ii 0),(.a .e,.str [32]),(.e,.str s)]) rfl ?_
 unfold BN
 have hcl:=vT 32 s
 have hne:decide ([32]=([]:List Nat))=false:=rfl
 have hmin:min ((er 32 s:Int)+1) ((s.length:Int)+1)=((er 32 s+1:Nat):Int):=by omega
 have e2:((er 32 s+1:Nat):Int) - 1=(er 32 s:Int):=by omega
 have hsl:=mj 32 s
 simp (config:={maxSteps:=1000000}) (disch:=first|assumption|omega|(apply ab;omega)|(apply aa;assumption)|(simp only[aw]<;>omega)) only[go_sem,seval,(Dk _ s 32 (by omega)).wf',hne,hmin,e2]
 generalize hn:er 32 s=n at *
 generalize hM0:hp _ 1 m=M0
 have hC0:Chg [] m M0:=jQ hM0 rfl
 have hg0:M0.get (na m 0)=_:=(xk hM0).trans rfl
 have ho0:bU M0 (na m 0):=wb hM0 (by omega)
 refine W.loop (fun k d=>∃(t':Tm) (M:NH) (r:List Nat) (i:Nat) (P:List (List Nat)) (cc:List NV),d=⟨t', [],none,M⟩/\NT.get .e t'=some (.str r)/\NT.get (.a .e) t'=some (.str [32])/\NT.get (.b .e) t'=some (ii 0)/\NT.get (.b (.b .e)) t'=some (ii i)/\NT.get (.c .e) t'=some (ii n)/\NT.get (.a (.b .e)) t'=some (.slc (na m 0) 0 (n+1) 1 (n+1))/\
  bD 32 s=P++bD 32 r/\P.length=i/\cc.take i=P.map .str/\cc.length=n+1/\er 32 r+i=n/\r.length<=1000000/\i+k=n/\M.get (na m 0)=some (.cells true cc)/\bU M (na m 0)/\Chg [] m M) ?_ n _ ⟨_,M0,s,0, [],_,rfl,by exact gq rfl,by exact gq rfl,by exact gq rfl,by exact gq rfl,by exact gq rfl,by exact gq rfl,rfl,rfl,rfl,by rw[jZ];simp,by omega,hs,by omega,hg0,ho0,hC0⟩
 rintro k d ⟨t',M,r,i,P,cc,rfl,g1,g2,g6,g3,g4,g5,hP,hPl,hcc,hcl',hci,hrl,hik,hg,ho,hC⟩
 apply eA
 unfold rF
 change wp _ _ _ _ ⟨aG [] t', [],none,_⟩ _
 rw[←aO M]
 have hx:=fun m=>yE m r 32 (by omega)
 by_cases hi:i<n
 ·cases hf:eo 32 r with
  |none=>have:=(oH hf).2;omega
  |some j=>
   obtain ⟨f1,f2,f3⟩:=n7 hf
   rw[hf] at hx
   simp only[y6] at hx
   have hl1: [32].length=1:=rfl
   have hi1:i*1=i:=Nat.mul_one i
   have ej:((j:Int)+0).toNat=j:=by omega
   have ej1:((j:Int)+1).toNat=j+1:=by omega
   have ei1:(i:Int)+1=((i+1:Nat):Int):=by omega
   simp (config:={maxSteps:=1000000}) (disch:=first|assumption|omega|(apply ab;omega)|(apply aa;assumption)|(simp only[aw]<;>omega)) only[go_sem,seval,g1,g2,g3,g4,g5,g6,(hx _).wf,hl1,hg,hi1,ej,ej1,ei1,List.take_length]
   rw[aO M]
   generalize hM1:hp _ 0 M=M1
   have hC1:Chg [na m 0] M M1:=jQ hM1 rfl
   refine ⟨k - 1,by omega,_,M1,r.drop (j+1),i+1,P++ [r.take j],_,rfl,by exact gq rfl,by exact gq g2,by exact gq g6,by exact gq rfl,by exact gq g4,by exact gq g5, ?_,by simp[hPl], ?_, ?_,by omega, ?_,by omega,Bm ho hM1,hC1.old ho,hC.trans hC1 fun i hi ho=> ?_⟩
   ·rw[hP,f2];simp
   ·rw[take_set (by omega),hcc];simp
   ·simpa using hcl'
   ·simp;omega
   ·have hi:=one hi;subst hi;exact Hl ho a7
 ·have e:i=n:=by omega
  have hfn:eo 32 r=none:=by
   cases hf:eo 32 r with
   |none=>rfl
   |some j=>have:=(n7 hf).2.2;omega
  have hi1:i*1=i:=Nat.mul_one i
  have ei1:((i:Int)+1).toNat=i+1:=by omega
  simp (config:={maxSteps:=1000000}) (disch:=first|assumption|omega|(apply ab;omega)|(apply aa;assumption)|(simp only[aw]<;>omega)) only[go_sem,seval,g1,g2,g3,g4,g5,g6,hi1,ei1,hg]
  generalize hM1:hp _ 0 M=M1
  have hC1:Chg [na m 0] M M1:=jQ hM1 rfl
  refine hK _ _ ⟨?_,hC.trans hC1 fun i hi ho=> ?_⟩
  ·refine fj.of (by simp) a7 (Bm ho hM1) (hC1.old ho) ?_ ?_ ?_
   ·rw[hP,(oH hfn).1,←List.take_of_length_le (l:=cc.set i _) (i:=i+1) (by simp;omega),take_set (by omega),hcc]
    rw[List.map_append,List.flatten_append,oI]
    rfl
   ·simp[hsl,e]
   ·simp[hsl,e]
  ·have hi:=one hi;subst hi;exact Hl ho a7
end LI
open Go Nm Go.Proofs
namespace LI
theorem gm {c X:List NV} {off e:Nat} (h:(c.drop off).take e=X) (j:Nat) (hj:j<X.length):c[off+j]? =some X[j]:=by
 subst h
 rw[List.getElem_take,List.getElem_drop]
 simp only[List.length_take,List.length_drop] at hj
 rw[List.getElem?_eq_getElem (by omega)]
def wR (s:List Nat):List (List NV):=(bD 32 s).map fun p=> [.str p]
theorem yU (m:NH) (s:List Nat) (hs:s.length<=1000000):∃v m',bu Tryd.prog S0 26 [.str s,.str [32]] m v m'/\Sl m' v 1 (wR s)/\Chg [] m m':=by
 refine WF.ex fun K hK=> ?_
 refine WF.of_wpG (fun _=>rfl) rH (L:= [(.a .e,.str [32]),(.e,.str s)]) rfl ?_
 unfold BE
 obtain ⟨v,m',h,hv,hC⟩:=pK m s hs
 simp (config:={maxSteps:=1000000}) (disch:=first|assumption|omega|(apply ab;omega)|(apply aa;assumption)|(simp only[aw]<;>omega)) only[go_sem,seval,aO,h.wf']
 exact hK _ _ ⟨hv.sl,hC⟩
theorem Cg (m:NH) (p q:List Nat) (p0:List Nat) (P:List (List Nat)) (v:NV) (b:D4) (hb:m.get b=some (.cells true [v])) (ho:bU m b) (hv:Sl m v 1 ((p0::P).map fun p=> [.str p])):
 ∃m',bu Tryd.prog S0 28 [.agg [.str p,.str q],.ptr b 0] m (.bool (decide (p=p0))) m'/\Chg [] m m':=by
 refine WF.ex1 fun K hK=> ?_
 refine WF.of_wpG (fun _=>rfl) rv (L:= [(.a .e,.ptr b 0),(.e,.agg [.str p,.str q])]) rfl ?_
 unfold Ch
 obtain ⟨id,off,w,c,a1,a2,a3,a4,a5⟩:=hv.at 0 (by simp)
 simp only[List.map_cons,List.getElem_cons_zero] at a5
 replace a1:tM 1 v (.int .i64 (.lit 0))= .val (.ptr id off):=a1
 have c0:c[off]? =some (.str p0):=gm a5 0 (by simp)
 simp (config:={maxSteps:=1000000}) (disch:=first|assumption|omega|(apply ab;omega)|(apply aa;assumption)|(simp only[aw]<;>omega)) only[go_sem,seval,hb,a1,a2,c0]
 refine hK _ ?_
 exact aq rfl
theorem EW (m:NH) (vs v:NV) (b:D4) (p0:List Nat) (P:List (List Nat)) (hs:Sl m vs 2 bO) (hb:m.get b=some (.cells true [v])) (ho:bU m b) (hv:Sl m v 1 ((p0::P).map fun p=> [.str p])):
 ∃r m',bu Tryd.prog S0 27 [vs,.fn 28 [.ptr b 0]] m r m'/\Chg [] m m'/\((r=ii (-1)/\∀x∈an,x.1≠p0)∨∃n,∃hn:n<an.length,r=ii (n:Nat)/\an[n].1=p0):=by
 refine WF.ex fun K' hK'=> ?_
 refine WF.of_wpG (fun _=>rfl) ss (L:= [(.a .e,.fn 28 [.ptr b 0]),(.e,vs)]) rfl ?_
 unfold A6
 have hlen:=hs.len
 rw[show bO.length=an.length by simp[bO]] at hlen
 simp (config:={maxSteps:=1000000}) (disch:=first|assumption|omega|(apply ab;omega)|(apply aa;assumption)|(simp only[aw]<;>omega)) only[go_sem,seval,aO,hlen]
 refine W.loop (fun f q=>∃T M i,q=⟨T, [],none,M⟩/\NT.get D4.e T=some vs/\NT.get D4.e.a T=some (.fn 28 [.ptr b 0])/\NT.get D4.e.a.c T=some (ii (an.length:Nat))/\NT.get D4.e.a.f T=some (ii (i:Nat))/\i+f=an.length/\(∀x∈an.take i,x.1≠p0)/\Chg [] m M) ?_ an.length _ ⟨_,m,0,rfl,by exact gq rfl,by exact gq rfl,by exact gq rfl,by exact gq rfl,by omega,by simp,Chg.refl m⟩
 rintro f q ⟨T,M,i,rfl,t1,t2,t3,t4,hif,hg,hC⟩
 apply eA
 unfold rZ
 change wp _ _ _ _ ⟨aG [] T, [],none,M⟩ _
 have h24:an.length=24:=rfl
 by_cases hi:i<an.length
 ·obtain ⟨id,off,w,c,a1,a2,a3,a4,a5⟩:=(hs.grew hC).at i (by simpa [bO] using hi)
  have e5:bO[i]'(by simpa [bO] using hi)= [.str (an[i]'hi).1,.str (an[i]'hi).2]:=by simp[bO]
  rw[e5] at a5
  have hb':=(hC.get ho (by simp)).trans hb
  obtain ⟨m2,r2,hC2⟩:=Cg M (an[i]'hi).1 (an[i]'hi).2 p0 P v b hb' (hC.old ho) (hv.grew hC)
  cases hgo:decide ((an[i]'hi).1=p0) with
  |true=>
   rw[hgo] at r2
   simp (config:={maxSteps:=1000000}) (disch:=first|assumption|omega|(apply ab;omega)|(apply aa;assumption)|(simp only[aw]<;>omega)) only[go_sem,seval,aO,t1,t2,t3,t4,a1,a2,a5,r2.wf']
   exact hK' _ _ ⟨hC.trans hC2 (by simp),Or.inr ⟨i,hi,rfl,of_decide_eq_true hgo⟩⟩
  |false=>
   rw[hgo] at r2
   simp (config:={maxSteps:=1000000}) (disch:=first|assumption|omega|(apply ab;omega)|(apply aa;assumption)|(simp only[aw]<;>omega)) only[go_sem,seval,aO,t1,t2,t3,t4,a1,a2,a5,r2.wf']
   refine ⟨f - 1,by omega,_,m2,i+1,by rfl,by exact gq t1,by exact gq t2,by exact gq t3,by exact gq rfl,by omega,fun x hx=> ?_,hC.trans hC2 (by simp)⟩
   rw[List.take_add_one,List.getElem?_eq_getElem hi,List.mem_append] at hx
   rcases hx with hx|hx
   ·exact hg x hx
   ·simp at hx;subst hx;exact of_decide_eq_false hgo
 ·simp (config:={maxSteps:=1000000}) (disch:=first|assumption|omega|(apply ab;omega)|(apply aa;assumption)|(simp only[aw]<;>omega)) only[go_sem,seval,aO,t1,t2,t3,t4]
  rw[List.take_of_length_le (by omega)] at hg
  exact hK' _ _ ⟨hC,Or.inl ⟨rfl,hg⟩⟩
end LI
open Go Nm Go.Proofs
namespace LI
def Ins.set (i:Ins) (c:Nat) (v:Int):Ins:=if c=68 then {i with d:=v} else if c=65 then {i with a:=v} else if c=66 then {i with b:=v} else if c=83 then {i with s:=v} else if c=67 then {i with c:=v} else {i with n:=v}
noncomputable def gC:List (List Nat)->List Nat->Ins->Option Ins
 |p::ps,c::cs,i=>match fJ p with| .ok v=>gC ps cs (i.set c v)|_=>none
 |_,_,i=>some i
theorem kC (p:List Nat) (ps:List (List Nat)) (c:Nat) (cs:List Nat) (i:Ins):gC (p::ps) (c::cs) i=match fJ p with| .ok v=>gC ps cs (i.set c v)|_=>none:=rfl
theorem ud (cs:List Nat) (i:Ins):gC [] cs i=some i:=by cases cs<;>rfl
def cF (k:Int):Ins:=⟨k,0,0,0,0,0,0⟩
noncomputable def ky (s:List Nat) (P:List (List Nat)) (n:Nat) (nums:List Nat):Option Ins:=if P.length=nums.length then (match gC P nums (cF n) with|some i=>if aH i=s then some i else none|none=>none) else none
def oW (o:Option Ins):NV:=match o with|some i=> .tup [.agg i.cells,ii 0]|none=> .tup [.agg (cF 0).cells,ii 2]
theorem tQ (i:Ins) (c:Nat) (v:Int):i.cells.set (lT c) (ii v)=(i.set c v).cells:=by
 unfold lT Ins.set Ins.cells
 split
 ·rfl
 split
 ·rfl
 split
 ·rfl
 split
 ·rfl
 split<;>rfl
theorem ut (c:Nat):∀(l:List Nat),∀p∈bD c l,p.length<=l.length:=by
 intro l
 induction l with
 |nil=>intro p hp;simp[bD] at hp;subst hp;simp
 |cons x l ih=>
  intro p hp
  rw[ck] at hp
  split at hp
  ·rcases List.mem_cons.1 hp with rfl|hp
   ·simp
   ·have:=ih p hp;simp;omega
  ·cases hs:bD c l with
   |nil=>rw[hs] at hp;simp at hp;subst hp;simp
   |cons a ps=>
    rw[hs] at hp ih
    rcases List.mem_cons.1 hp with rfl|hp
    ·have:=ih a (List.mem_cons_self ..);simpa using this
    ·have:=ih p (List.mem_cons_of_mem _ hp);simp;omega
theorem yD (c:Nat):lT c+1<=7:=by
 unfold lT
 split
 ·decide
 split
 ·decide
 split
 ·decide
 split
 ·decide
 split<;>decide
set_option maxRecDepth 100000 in
set_option maxHeartbeats 8000000 in
theorem AO (m:NH) (hT:Tb m) (s:List Nat) (hsz:s.length<=1000000) (p0:List Nat) (P:List (List Nat)) (hP:bD 32 s=p0::P):∃v m',bu Tryd.prog S0 12 [.str s] m v m'/\(((∀x∈an,x.1≠p0)/\v=oW none)∨∃n,∃hn:n<an.length,an[n].1=p0/\v=oW (ky s P n an[n].2))/\Chg [] m m':=by
 refine WF.ex fun K hK=> ?_
 refine WF.of_wpG (fun _=>rfl) rG (L:= [(.e,.str s)]) rfl ?_
 unfold AZ
 generalize hM0:hp [(AK.n 0,NO.cells true [ii 0,ii 0,ii 0,ii 0,ii 0,ii 0,ii 0])] 1 m=M0
 have C0:Chg [] m M0:=jQ hM0 rfl
 have g0:M0.get (na m 0)=_:=(xk hM0).trans rfl
 have o0:bU M0 (na m 0):=wb hM0 (by omega)
 obtain ⟨vp,M1,r1,hv1,C1⟩:=yU M0 s hsz
 rw[wR,hP] at hv1
 have g1:=(C1.get o0 (by simp)).trans g0
 have o1:=C1.old o0
 rw[←hM0] at r1
 simp (config:={maxSteps:=1000000}) (disch:=first|assumption|omega|(apply ab;omega)|(apply aa;assumption)|(simp only[aw]<;>omega)) only[go_sem,seval,r1.wf,hv1.one]
 generalize hM2:hp _ 1 M1=M2
 have C2:Chg [] M1 M2:=jQ hM2 rfl
 have q2:M2.get (na M1 0)=_:=(xk hM2).trans rfl
 have p2:bU M2 (na M1 0):=wb hM2 (by omega)
 have g2:=(C2.get o1 (by simp)).trans g1
 have o2:=C2.old o1
 have hv2:=hv1.grew C2
 obtain ⟨vs,M3,r3,hs3,C3⟩:=iv M2
 have g3:=(C3.get o2 (by simp)).trans g2
 have o3:=C3.old o2
 have q3:=(C3.get p2 (by simp)).trans q2
 have p3:=C3.old p2
 have hv3:=hv2.grew C3
 obtain ⟨ix,M4,r4,C4,hix⟩:=EW M3 vs vp (na M1 0) p0 P hs3 q3 p3 hv3
 have g4:=(C4.get o3 (by simp)).trans g3
 have o4:=C4.old o3
 have q4:=(C4.get p3 (by simp)).trans q3
 have p4:=C4.old p3
 have hv4:=hv3.grew C4
 have CC4:Chg [] m M4:=(((C0.trans C1 (by simp)).trans C2 (by simp)).trans C3 (by simp)).trans C4 (by simp)
 have e10:(-1:Int)<0:=by omega
 rcases hix with ⟨rfl,hno⟩|⟨n,hn,rfl,hnm⟩
 ·simp (config:={maxSteps:=1000000}) (disch:=first|assumption|omega|(apply ab;omega)|(apply aa;assumption)|(simp only[aw]<;>omega)) only[go_sem,seval,r3.wf',r4.wf,g4]
  refine hK _ _ ⟨Or.inl ⟨hno,rfl⟩,CC4.trans (T:= [na m 0]) (aq rfl) fun i hi ho=> ?_⟩
  have hi:=one hi;subst hi;exact Hl ho a7
 ·have hPl:P.length<=1000000:=by
   have h1:=mj 32 s;rw[hP] at h1;have h2:=vT 32 s;simp at h1;omega
  have hl4:AI vp= .val (.int .i64 (.lit ((P.length:Int)+1))):=by
   rw[hv4.len];simp
  obtain ⟨v5,M5,r5,hs5,C5⟩:=iv M4
  have hsn:n<bO.length:=by simpa [bO] using hn
  obtain ⟨id,off,w,cc,a1,a2,a3,a4,a5⟩:=hs5.at n hsn
  have e5:bO[n]'hsn= [.str (an[n]'hn).1,.str (an[n]'hn).2]:=by simp[bO]
  rw[e5] at a5
  obtain ⟨w1,w2,w3,w4⟩:=iP _ (List.getElem_mem hn)
  have hfin:∀v m',v=oW (ky s P n (an[n]'hn).2)->Chg [] m m'->K v m':=fun v m' h1 h2=>hK v m' ⟨Or.inr ⟨n,hn,hnm,h1⟩,h2⟩
  generalize hpp:an[n]'hn=pp at *
  obtain ⟨nm,nums⟩:=pp
  dsimp only at a5 w1 w2 w3 w4 hnm hfin
  have c1:cc[off+1]? =some (.str nums):=gm a5 1 (by simp)
  have g5:=(C5.get o4 (by simp)).trans g4
  have o5:=C5.old o4
  have q5:=(C5.get p4 (by simp)).trans q4
  have p5:=C5.old p4
  have hv5:=hv4.grew C5
  have CC5:=CC4.trans C5 (S:= []) (by simp)
  by_cases hle:P.length=nums.length
  ·simp (config:={maxSteps:=1000000}) (disch:=first|assumption|omega|(apply ab;omega)|(apply aa;assumption)|(simp only[aw]<;>omega)) only[go_sem,seval,r3.wf',r4.wf',q4,hl4,r5.wf,a1,a2,c1,hle,q5]
   refine ⟨hv4.same, ?_⟩
   generalize hM6:hp _ 1 M5=M6
   have C6:Chg [] M5 M6:=jQ hM6 rfl
   have b6:M6.get (na M5 0)=some (.cells true (cF n).cells):=(xk hM6).trans rfl
   have x6:bU M6 (na M5 0):=wb hM6 (by omega)
   have g6:=(C6.get o5 (by simp)).trans g5
   have o6:=C6.old o5
   have hne:na M5 0≠na m 0:=fun e=>a7 (e▸o5)
   have hv6:=hv5.grew C6
   have hid6:∀i∈ids vp,i≠na M5 0:=fun i hi e=>a7 (e▸hv5.old i hi)
   have CC6:=CC5.trans C6 (S:= []) (by simp)
   have nb5:¬bU m (na M5 0):=fun h=>a7 (CC5.old h)
   have hlm:((p0::P).map fun p=> [NV.str p]).length=P.length+1:=by simp
   refine xS hv6 (a:=1) (b:=P.length+1) (by omega) (by omega) (fun K=>by simp only[go_sem,seval]<;>rfl) (fun d K hd=>by simp only[go_sem,seval];rw[hd,hlm]) fun vq hq hqi=> ?_
   have eq1:List.take (P.length+1 - 1) (List.drop 1 (List.map (fun p=> [NV.str p]) (p0::P)))=P.map fun p=> [NV.str p]:=by
    rw[List.map_cons,List.drop_succ_cons,List.drop_zero,Nat.add_sub_cancel];exact List.take_of_length_le (by simp)
   rw[eq1] at hq
   have hqn:∀i∈ids vq,i∉ [na M5 0]:=fun i hi q=>hid6 i (hqi i hi) (one q)
   simp (config:={maxSteps:=1000000}) (disch:=first|assumption|omega|(apply ab;omega)|(apply aa;assumption)|(simp only[aw]<;>omega)) only[go_sem,seval,hq.len,List.length_map]
   refine W.loop (fun k d=>∃(t':Tm) (M:NH) (q:Nat) (i:Ins),d=⟨t', [],none,M⟩/\NT.get .e t'=some (.str s)/\NT.get (.b .e) t'=some (.ptr (na m 0) 0)/\NT.get D4.e.a.a t'=some (ii n)/\NT.get D4.e.a.b t'=some (.ptr (na M5 0) 0)/\NT.get D4.e.a.f.b t'=some vq/\NT.get D4.e.a.f.c t'=some (ii P.length)/\NT.get D4.e.a.f.f t'=some (ii q)/\
    q+k=P.length/\Sl M vq 1 (P.map fun p=> [NV.str p])/\M.get (na M5 0)=some (.cells true i.cells)/\bU M (na M5 0)/\M.get (na m 0)=some (.cells true [ii 0,ii 0,ii 0,ii 0,ii 0,ii 0,ii 0])/\bU M (na m 0)/\Chg [] m M/\gC (P.drop q) (nums.drop q) i=gC P nums (cF n)) ?_ P.length _ ⟨_,M6,0,cF n,rfl,by exact gq rfl,by exact gq rfl,by exact gq rfl,by exact gq rfl,by exact gq rfl,by exact gq rfl,by exact gq rfl,by omega,hq,b6,x6,g6,o6,CC6,rfl⟩
   rintro k d ⟨t',M,q,i,rfl,t1,t2,t3,t4,t5,t6,t7,hqk,hS,hb,ob,hg,og,hC,hR⟩
   apply eA
   unfold rN
   change wp _ _ _ _ ⟨aG [] t', [],none,_⟩ _
   by_cases hqi:q<P.length
   ·obtain ⟨jd,jo,jw,jc,b1,b2,b3,b4,b5⟩:=hS.at q (by simpa using hqi)
    rw[List.getElem_map] at b5
    have c2:jc[jo]? =some (.str (P[q]'hqi)):=gm b5 0 (by simp)
    have hpl:(P[q]'hqi).length<=1000000:=by
     have:=ut 32 s (P[q]'hqi) (by rw[hP];exact List.mem_cons_of_mem _ (List.getElem_mem hqi));omega
    obtain ⟨M7,v,e,r7,C7,hve⟩:=A5 (hT.chg hC) (s:=P[q]'hqi) (by omega)
    have hqc:q<nums.length:=by omega
    have hcq:nums[q]? =some (nums[q]'hqc):=List.getElem?_eq_getElem hqc
    have hc256:nums[q]'hqc<256:=w4 _ (List.getElem_mem hqc)
    have g7:=(C7.get og (by simp)).trans hg
    have o7:=C7.old og
    have b7:=(C7.get ob (by simp)).trans hb
    have x7:=C7.old ob
    rw[List.drop_eq_getElem_cons hqi,List.drop_eq_getElem_cons hqc,kC] at hR
    rcases hve with ⟨h1,rfl⟩|⟨tt,xx,rfl,h1⟩
    ·rw[h1] at hR
     dsimp only at hR
     obtain ⟨v8,M8,r8,hs8,C8⟩:=iv M7
     obtain ⟨id8,off8,w8,cc8,d1,d2,d3,d4,d5⟩:=hs8.at n hsn
     rw[e5] at d5
     have c8:cc8[off8+1]? =some (.str nums):=gm d5 1 (by simp)
     have hnum:=fun m=>oJ m (na M5 0) (nums[q]'hqc) hc256
     have b8:=(C8.get x7 (by simp)).trans b7
     have x8:=C8.old x7
     generalize hcn:nums[q]'hqc=c at *
     have bn:cT .ifc .neq .nili .nili=some (.bool false):=rfl
     simp (config:={maxSteps:=1000000}) (disch:=first|assumption|omega|(apply ab;omega)|(apply aa;assumption)|(simp only[aw]<;>omega)) only[go_sem,seval,t1,t2,t3,t4,t5,t6,t7,b1,b2,c2,r7.wf',bn,r8.wf',d1,d2,c8,hcq,(hnum _).wf,b8]
     rw[aO M8,←aO M8]
     have hl7:i.cells.length=7:=rfl
     have hof:lT c+1<=7:=yD _
     simp (config:={maxSteps:=1000000}) (disch:=first|assumption|omega|(apply ab;omega)|(apply aa;assumption)|(simp only[aw]<;>omega)) only[go_sem,seval,t7,b8]
     generalize hM9:hp _ 0 M8=M9
     rw[tQ] at hM9
     have C9:Chg [na M5 0] M8 M9:=jQ hM9 rfl
     have hCC:=(hC.trans C7 (S:= []) (by simp)).trans C8 (S:= []) (by simp)
     refine ⟨k - 1,by omega,_,M9,q+1,i.set c v,rfl,by exact gq t1,by exact gq t2,by exact gq t3,by exact gq t4,by exact gq t5,by exact gq t6,by exact gq rfl,by omega,((hS.grew C7).grew C8).chg C9 hqn,Bm x8 hM9,C9.old x8, ?_,C9.old (C8.old o7),hCC.trans C9 fun i hi ho=> ?_,hR⟩
     ·exact (C9.get (C8.old o7) (by simpa using fun e=>hne e.symm)).trans ((C8.get o7 (by simp)).trans g7)
     ·have hi:=one hi;subst hi;exact Hl ho nb5
    ·have bn:cT .ifc .neq (.ifc tt xx) .nili=some (.bool true):=rfl
     simp (config:={maxSteps:=1000000}) (disch:=first|assumption|omega|(apply ab;omega)|(apply aa;assumption)|(simp only[aw]<;>omega)) only[go_sem,seval,t1,t2,t3,t4,t5,t6,t7,b1,b2,c2,r7.wf,bn,g7]
     generalize hM9:hp _ 0 M7=M9
     have C9:Chg [na m 0] M7 M9:=jQ hM9 rfl
     refine hfin _ _ ?_ ((hC.trans C7 (S:= []) (by simp)).trans C9 fun i hi ho=> ?_)
     ·have hn:gC P nums (cF n)=none:=by
       rw[←hR]
       cases ha:fJ (P[q]'hqi) with
       |ok z=>exact Hl ha (h1 z)
       |range=>rfl
       |_=>rfl
      rw[ky,Hn hle,hn];rfl
     ·have hi:=one hi;subst hi;exact Hl ho a7
   ·rw[List.drop_eq_nil_of_le (by omega),ud] at hR
    have hb':M.get (na M5 0)=some (.cells true [ii i.k,ii i.d,ii i.a,ii i.b,ii i.s,ii i.c,ii i.n]):=hb
    obtain ⟨vl,M7,r7,rfl,C7⟩:=vH M (hT.chg hC) i
    have hic:i.cells= [ii i.k,ii i.d,ii i.a,ii i.b,ii i.s,ii i.c,ii i.n]:=rfl
    rw[hic] at r7
    have g7:=(C7.get og (by simp)).trans hg
    have o7:=C7.old og
    have b7:=(C7.get ob (by simp)).trans hb'
    have x7:=C7.old ob
    have hCC:=hC.trans C7 (S:= []) (by simp)
    by_cases hls:aH i=s
    ·have hds:decide (s≠s)=false:=by simp
     simp (config:={maxSteps:=1000000}) (disch:=first|assumption|omega|(apply ab;omega)|(apply aa;assumption)|(simp only[aw]<;>omega)) only[go_sem,seval,t1,t2,t3,t4,t5,t6,t7,hb',r7.wf,hls,hds,b7,g7]
     generalize hM9:hp _ 0 M7=M9
     have C9:Chg [na m 0] M7 M9:=jQ hM9 rfl
     refine hfin _ _ ?_ (hCC.trans C9 fun i hi ho=> ?_)
     ·rw[ky,Hn hle,←hR]
      dsimp only
      rw[Hn hls];rfl
     ·have hi:=one hi;subst hi;exact Hl ho a7
    ·have hds:decide (aH i≠s)=true:=by simpa using hls
     simp (config:={maxSteps:=1000000}) (disch:=first|assumption|omega|(apply ab;omega)|(apply aa;assumption)|(simp only[aw]<;>omega)) only[go_sem,seval,t1,t2,t3,t4,t5,t6,t7,hb',r7.wf,hds,b7,g7]
     generalize hM9:hp _ 0 M7=M9
     have C9:Chg [na m 0] M7 M9:=jQ hM9 rfl
     refine hfin _ _ ?_ (hCC.trans C9 fun i hi ho=> ?_)
     ·rw[ky,Hn hle,←hR]
      dsimp only
      rw[Hm hls];rfl
     ·have hi:=one hi;subst hi;exact Hl ho a7
  ·simp (config:={maxSteps:=1000000}) (disch:=first|assumption|omega|(apply ab;omega)|(apply aa;assumption)|(simp only[aw]<;>omega)) only[go_sem,seval,r3.wf',r4.wf',q4,hl4,r5.wf,a1,a2,c1,g5,q5]
   refine ⟨hv4.same, ?_⟩
   generalize hM9:hp _ 0 _=M9
   have C9:Chg [na m 0] M5 M9:=jQ hM9 rfl
   refine hfin _ _ ?_ (CC5.trans C9 fun i hi ho=> ?_)
   ·rw[ky,Hm hle];rfl
   ·have hi:=one hi;subst hi;exact Hl ho a7
end LI
open Go Nm Go.Proofs
namespace LI
theorem vi {c:Nat}:∀{p:List Nat},c∉p->bD c p= [p]:=by
 intro p
 induction p with
 |nil=>intro _;rfl
 |cons x p ih=>
  intro h
  have hx:¬x=c:=fun e=>h (e▸List.mem_cons_self ..)
  rw[ck,Hm hx,ih fun q=>h (List.mem_cons_of_mem _ q)]
theorem uU {c:Nat} {r:List Nat}:∀{p:List Nat},c∉p->bD c (p++c::r)=p::bD c r:=by
 intro p
 induction p with
 |nil=>intro _;rw[List.nil_append,ck,Hn rfl]
 |cons x p ih=>
  intro h
  have hx:¬x=c:=fun e=>h (e▸List.mem_cons_self ..)
  rw[List.cons_append,ck,Hm hx,ih fun q=>h (List.mem_cons_of_mem _ q)]
theorem wy:∀(k u:Nat) (acc:List Nat),32∉acc->32∉gu k u acc:=by
 intro k
 induction k with
 |zero=>intro u acc h;exact h
 |succ k ih=>
  intro u acc h
  rw[gb]
  split
  ·simp only[Hr,not_or];exact ⟨by omega,h⟩
  ·refine ih _ _ ?_
   simp only[Hr,not_or];exact ⟨by omega,h⟩
theorem zP (n:Int):32∉cA n:=by
 cases n with
 |ofNat m=>exact wy 20 m [] (by simp)
 |negSucc m=>
  show 32∉45::gu 20 (m+1) []
  simp only[Hr,not_or]
  exact ⟨by omega,wy 20 _ [] (by simp)⟩
theorem pw (i:Ins):∀(l p:List Nat),32∉p->bD 32 (p++fb i l)=p::l.map fun c=>cA (i.num c):=by
 intro l
 induction l with
 |nil=>intro p h;rw[gp,List.append_nil,vi h];rfl
 |cons c l ih=>
  intro p h
  rw[dZ,List.cons_append,uU h,ih _ (zP _)];rfl
theorem sN (i:Ins):∀(l:List Nat) (j:Ins),(∀c∈l,-4294967296<=i.num c/\i.num c<=4294967296)->gC (l.map fun c=>cA (i.num c)) l j=some (l.foldl (fun j c=>j.set c (i.num c)) j):=by
 intro l
 induction l with
 |nil=>intro j _;rfl
 |cons c l ih=>
  intro j h
  obtain ⟨h0,h1⟩:=h c (List.mem_cons_self ..)
  rw[List.map_cons,kC,uc h0 h1]
  exact ih _ fun d hd=>h d (List.mem_cons_of_mem _ hd)
theorem v6:∀p∈an,32∉p.1:=by decide
theorem ug:∀a<24,∀b<24,(an[a]?).map (·.1)=(an[b]?).map (·.1)->a=b:=by decide+kernel
theorem BF (i:Ins) (hr:au i=true):∃k,∃hk:k<an.length,i.k=(k:Int)/\(an[k].2).foldl (fun j c=>j.set c (i.num c)) (cF k)=i:=by
 have hk:0<=i.k/\i.k<24:=by simp only[au,Bool.and_eq_true,decide_eq_true_eq] at hr;exact hr.1
 obtain ⟨k,d,a,b,s,c,n⟩:=i
 have hc:k=0∨k=1∨k=2∨k=3∨k=4∨k=5∨k=6∨k=7∨k=8∨k=9∨k=10∨k=11∨k=12∨k=13∨k=14∨k=15∨k=16∨k=17∨k=18∨k=19∨k=20∨k=21∨k=22∨k=23:=by
  have h0:=hk.1;have h1:=hk.2;dsimp only at h0 h1;omega
 rcases hc with rfl|rfl|rfl|rfl|rfl|rfl|rfl|rfl|rfl|rfl|rfl|rfl|rfl|rfl|rfl|rfl|rfl|rfl|rfl|rfl|rfl|rfl|rfl|rfl
 ·refine ⟨0,by decide,rfl, ?_⟩
  simp[au,aN,a8,bh,cR,cS,bf,ch,aJ] at hr
  simp[an,Ins.set,Ins.num,cF]
  omega
 ·refine ⟨1,by decide,rfl, ?_⟩
  simp[au,aN,a8,bh,cR,cS,bf,ch,aJ] at hr
  simp[an,Ins.set,Ins.num,cF]
  omega
 ·refine ⟨2,by decide,rfl, ?_⟩
  simp[au,aN,a8,bh,cR,cS,bf,ch,aJ] at hr
  simp[an,Ins.set,Ins.num,cF]
  omega
 ·refine ⟨3,by decide,rfl, ?_⟩
  simp[au,aN,a8,bh,cR,cS,bf,ch,aJ] at hr
  simp[an,Ins.set,Ins.num,cF]
  omega
 ·refine ⟨4,by decide,rfl, ?_⟩
  simp[au,aN,a8,bh,cR,cS,bf,ch,aJ] at hr
  simp[an,Ins.set,Ins.num,cF]
  omega
 ·refine ⟨5,by decide,rfl, ?_⟩
  simp[au,aN,a8,bh,cR,cS,bf,ch,aJ] at hr
  simp[an,Ins.set,Ins.num,cF]
  omega
 ·refine ⟨6,by decide,rfl, ?_⟩
  simp[au,aN,a8,bh,cR,cS,bf,ch,aJ] at hr
  simp[an,Ins.set,Ins.num,cF]
  omega
 ·refine ⟨7,by decide,rfl, ?_⟩
  simp[au,aN,a8,bh,cR,cS,bf,ch,aJ] at hr
  simp[an,Ins.set,Ins.num,cF]
  omega
 ·refine ⟨8,by decide,rfl, ?_⟩
  simp[au,aN,a8,bh,cR,cS,bf,ch,aJ] at hr
  simp[an,Ins.set,Ins.num,cF]
  omega
 ·refine ⟨9,by decide,rfl, ?_⟩
  simp[au,aN,a8,bh,cR,cS,bf,ch,aJ] at hr
  simp[an,Ins.set,Ins.num,cF]
  omega
 ·refine ⟨10,by decide,rfl, ?_⟩
  simp[au,aN,a8,bh,cR,cS,bf,ch,aJ] at hr
  simp[an,Ins.set,Ins.num,cF]
  omega
 ·refine ⟨11,by decide,rfl, ?_⟩
  simp[au,aN,a8,bh,cR,cS,bf,ch,aJ] at hr
  simp[an,Ins.set,Ins.num,cF]
  omega
 ·refine ⟨12,by decide,rfl, ?_⟩
  simp[au,aN,a8,bh,cR,cS,bf,ch,aJ] at hr
  simp[an,Ins.set,Ins.num,cF]
  omega
 ·refine ⟨13,by decide,rfl, ?_⟩
  simp[au,aN,a8,bh,cR,cS,bf,ch,aJ] at hr
  simp[an,Ins.set,Ins.num,cF]
  omega
 ·refine ⟨14,by decide,rfl, ?_⟩
  simp[au,aN,a8,bh,cR,cS,bf,ch,aJ] at hr
  simp[an,Ins.set,Ins.num,cF]
  omega
 ·refine ⟨15,by decide,rfl, ?_⟩
  simp[au,aN,a8,bh,cR,cS,bf,ch,aJ] at hr
  simp[an,Ins.set,Ins.num,cF]
  omega
 ·refine ⟨16,by decide,rfl, ?_⟩
  simp[au,aN,a8,bh,cR,cS,bf,ch,aJ] at hr
  simp[an,Ins.set,Ins.num,cF]
  omega
 ·refine ⟨17,by decide,rfl, ?_⟩
  simp[au,aN,a8,bh,cR,cS,bf,ch,aJ] at hr
  simp[an,Ins.set,Ins.num,cF]
  omega
 ·refine ⟨18,by decide,rfl, ?_⟩
  simp[au,aN,a8,bh,cR,cS,bf,ch,aJ] at hr
  simp[an,Ins.set,Ins.num,cF]
  omega
 ·refine ⟨19,by decide,rfl, ?_⟩
  simp[au,aN,a8,bh,cR,cS,bf,ch,aJ] at hr
  simp[an,Ins.set,Ins.num,cF]
  omega
 ·refine ⟨20,by decide,rfl, ?_⟩
  simp[au,aN,a8,bh,cR,cS,bf,ch,aJ] at hr
  simp[an,Ins.set,Ins.num,cF]
  omega
 ·refine ⟨21,by decide,rfl, ?_⟩
  simp[au,aN,a8,bh,cR,cS,bf,ch,aJ] at hr
  simp[an,Ins.set,Ins.num,cF]
  omega
 ·refine ⟨22,by decide,rfl, ?_⟩
  simp[au,aN,a8,bh,cR,cS,bf,ch,aJ] at hr
  simp[an,Ins.set,Ins.num,cF]
  omega
 ·refine ⟨23,by decide,rfl, ?_⟩
  simp[au,aN,a8,bh,cR,cS,bf,ch,aJ] at hr
  simp[an,Ins.set,Ins.num,cF]
  omega
theorem pS (i:Ins) (hr:au i=true):∃k,∃hk:k<an.length,i.k=(k:Int)/\aH i=an[k].1++fb i an[k].2/\bD 32 (aH i)=an[k].1::(an[k].2.map fun c=>cA (i.num c))/\gC (an[k].2.map fun c=>cA (i.num c)) an[k].2 (cF k)=some i:=by
 obtain ⟨k,hk,h1,h2⟩:=BF i hr
 have hl:aH i=an[k].1++fb i an[k].2:=by
  rw[aH,hr,h1,Int.toNat_natCast,List.getElem?_eq_getElem hk];rfl
 refine ⟨k,hk,h1,hl, ?_, ?_⟩
 ·rw[hl,pw i _ _ (v6 _ (List.getElem_mem hk))]
 ·rw[sN i _ _ fun c _=>aS hr c,h2]
theorem wM {a b:Nat} (ha:a<an.length) (hb:b<an.length) (h:an[a].1=an[b].1):a=b:=by
 refine ug a ha b hb ?_
 rw[List.getElem?_eq_getElem ha,List.getElem?_eq_getElem hb]
 exact congrArg some h
theorem qM (i:Ins):(aH i).length<=1000:=by
 rw[aH]
 split
 ·cases h:an[i.k.toNat]? with
  |none=>simp
  |some p=>
   obtain ⟨q1,q2,q3,q4⟩:=iP _ (List.mem_of_getElem? h)
   have:=mg i p.2
   dsimp only
   rw[List.length_append]
   omega
 ·simp
end LI
open Go Nm Go.Proofs
namespace LI
theorem rb {k:IntKind} {a b:Int} {es:List EK} {l l':List NV}:cJ (.int::es) (.int k (.lit a)::l) (.int k (.lit b)::l')=if a=b then cJ es l l' else some false:=by
 have hk:eS k k=true:=by cases k<;>rfl
 show (match (cond (eS k k) (some (gs a b)) none) with|some c=>cond c (cJ es l l') (some false)|none=>none)=_
 rw[hk,bt]
 by_cases h:a=b
 ·rw[Hn h,h];simp
 ·rw[Hm h,beq_eq_false_iff_ne.2 h];rfl
def sb (i j:Ins):Bool:=decide (i.k=j.k)&&(decide (i.d=j.d)&&(decide (i.a=j.a)&&(decide (i.b=j.b)&&(decide (i.s=j.s)&&(decide (i.c=j.c)&&decide (i.n=j.n))))))
theorem sQ (i j:Ins):sb i j=true↔i=j:=by
 obtain ⟨k,d,a,b,s,c,n⟩:=i
 obtain ⟨k',d',a',b',s',c',n'⟩:=j
 simp[sb]
theorem gi {p:Prop} [Decidable p] {o:Option Bool} {b:Bool} (h:o=some b):(if p then o else some false)=some (decide p&&b):=by
 subst h;by_cases hp:p<;>simp[hp]
theorem Hk (i j:Ins):cJ [.int,.int,.int,.int,.int,.int,.int] i.cells j.cells=some (sb i j):=by
 unfold Ins.cells
 rw[rb,rb,rb,rb,rb,rb,rb]
 refine gi (gi (gi (gi (gi (gi ?_)))))
 show (if i.n=j.n then some true else some false)=_
 by_cases h:i.n=j.n<;>simp[h]
theorem Gh (a b c d e f g a' b' c' d' e' f' g':Int):FO false [.int,.int,.int,.int,.int,.int,.int] (.agg [ii a,ii b,ii c,ii d,ii e,ii f,ii g]) (.agg [ii a',ii b',ii c',ii d',ii e',ii f',ii g'])= .val (.bool (sb ⟨a,b,c,d,e,f,g⟩ ⟨a',b',c',d',e',f',g'⟩)):=FD (Hk ⟨a,b,c,d,e,f,g⟩ ⟨a',b',c',d',e',f',g'⟩)
theorem FJ (m:NH) (n:Int):bu Tryd.prog S0 13 [ii n] m (ii n) m:=by
 have h:∃u m',bu Tryd.prog S0 13 [ii n] m u m'/\u=ii n/\m'=m:=by
  refine WF.ex fun K hK=> ?_
  refine WF.of_wpG (fun _=>rfl) sf (L:= [(.e,ii n)]) rfl ?_
  unfold Cm
  simp (config:={maxSteps:=1000000}) (disch:=first|assumption|omega|(apply ab;omega)|(apply aa;assumption)|(simp only[aw]<;>omega)) only[go_sem,seval]
  exact hK _ _ ⟨rfl,aO m⟩
 obtain ⟨v,m',h,rfl,rfl⟩:=h
 exact h
theorem xq (m:NH):bu Tryd.prog S0 8 [] m (.bool true) m:=bu.keptM rfl
theorem BZ {m:NH} {ts:List TypeId} {l:List NV} (h:TyA Tryd.prog m (23::ts) l):∃(i:Ins) (r:List NV),l= .agg i.cells::r/\TyA Tryd.prog m ts r:=by
 obtain ⟨c,r,rfl,hc,hr⟩:=h.invS Tryd.underlying23
 have h1:TyL Tryd.prog m [3,3,3,3,3,3,3] c:=hc
 obtain ⟨a0,b0,rfl,q0,h1⟩:=h1.inv
 obtain ⟨a1,b1,rfl,q1,h1⟩:=h1.inv
 obtain ⟨a2,b2,rfl,q2,h1⟩:=h1.inv
 obtain ⟨a3,b3,rfl,q3,h1⟩:=h1.inv
 obtain ⟨a4,b4,rfl,q4,h1⟩:=h1.inv
 obtain ⟨a5,b5,rfl,q5,h1⟩:=h1.inv
 obtain ⟨a6,b6,rfl,q6,h1⟩:=h1.inv
 obtain rfl:=h1.inv0
 obtain ⟨z0,rfl,_⟩:=q0.inv_int Tryd.underlying3
 obtain ⟨z1,rfl,_⟩:=q1.inv_int Tryd.underlying3
 obtain ⟨z2,rfl,_⟩:=q2.inv_int Tryd.underlying3
 obtain ⟨z3,rfl,_⟩:=q3.inv_int Tryd.underlying3
 obtain ⟨z4,rfl,_⟩:=q4.inv_int Tryd.underlying3
 obtain ⟨z5,rfl,_⟩:=q5.inv_int Tryd.underlying3
 obtain ⟨z6,rfl,_⟩:=q6.inv_int Tryd.underlying3
 exact ⟨⟨z0,z1,z2,z3,z4,z5,z6⟩,r,rfl,hr⟩
set_option maxRecDepth 100000 in
set_option maxHeartbeats 4000000 in
theorem mV (m0 m:NH) (l:List NV) (hT0:Tb m0) (hC0:Chg [] m0 m) (h:TyA Tryd.prog m [23] l):∃m',bu Tryd.prog S0 3 l m (.bool true) m':=by
 have hT:=hT0.chg hC0
 obtain ⟨i,r,rfl,h1⟩:=BZ h
 obtain rfl:=h1.inv0
 suffices hw:∃m',bu Tryd.prog S0 3 [.agg i.cells] m (.bool true) m'/\True by
  obtain ⟨m',h,_⟩:=hw;exact ⟨m',h⟩
 refine WF.ex1 fun K hK=> ?_
 replace hK:∀m',K (.bool true) m':=fun m'=>hK m' trivial
 refine WF.of_wpG (fun _=>rfl) po (L:= [(.e,.agg i.cells)]) rfl ?_
 have hic:i.cells= [ii i.k,ii i.d,ii i.a,ii i.b,ii i.s,ii i.c,ii i.n]:=rfl
 rw[hic]
 unfold GH
 simp (config:={maxSteps:=1000000}) (disch:=first|assumption|omega|(apply ab;omega)|(apply aa;assumption)|(simp only[aw]<;>omega)) only[go_sem,seval,(xq _).wf']
 generalize hM0:hp _ 1 m=M0
 have C0:Chg [] m M0:=jQ hM0 rfl
 have g0:M0.get (na m 0)=some (.cells true [ii i.k,ii i.d,ii i.a,ii i.b,ii i.s,ii i.c,ii i.n]):=(xk hM0).trans rfl
 have o0:bU M0 (na m 0):=wb hM0 (by omega)
 obtain ⟨v1,M1,r1,rfl,C1⟩:=vH M0 (hT.chg C0) i
 have g1:=(C1.get o0 (by simp)).trans g0
 have o1:=C1.old o0
 obtain ⟨v2,M2,r2,rfl,C2⟩:=tV M1 i
 have g2:=(C2.get o1 (by simp)).trans g1
 have o2:=C2.old o1
 obtain ⟨v3,M3,r3,rfl,C3⟩:=bo M2 i
 have g3:=(C3.get o2 (by simp)).trans g2
 have o3:=C3.old o2
 have hT3:=(((hT.chg C0).chg C1).chg C2).chg C3
 rw[hic] at r1 r2 r3
 have hne:decide (aH i≠aH i)=false:=by simp
 cases hr:au i with
 |false=>
  have hl0:aH i= []:=by simp[aH,hr]
  rw[hl0] at r1 r2
  have hd:decide (([]:List Nat)= [])=true:=rfl
  have hd':decide (([]:List Nat)≠ [])=false:=rfl
  simp (config:={maxSteps:=1000000}) (disch:=first|assumption|omega|(apply ab;omega)|(apply aa;assumption)|(simp only[aw]<;>omega)) only[go_sem,seval,r1.wf',g1,r2.wf',hd',g2,r3.wf',hr,hd]
  exact hK _
 |true=>
  obtain ⟨k,hk,e1,e2,e3,e4⟩:=pS i hr
  obtain ⟨v4,M4,r4,hv,C4⟩:=AO M3 hT3 (aH i) (by have:=qM i;omega) _ _ e3
  have hv4:v4=oW (some i):=by
   rcases hv with ⟨h0,_⟩|⟨n,hn,hnm,rfl⟩
   ·exact Hl rfl (h0 _ (List.getElem_mem hk))
   ·have:=wM hn hk hnm
    subst this
    unfold ky
    rw[Hn (by simp),e4]
    dsimp only
    rw[Hn rfl]
  subst hv4
  have g4:=(C4.get o3 (by simp)).trans g3
  have o4:=C4.old o3
  have h7:=(Gh i.k i.d i.a i.b i.s i.c i.n i.k i.d i.a i.b i.s i.c i.n).trans (congrArg (fun b=>NR.val (.bool b)) ((sQ _ _).2 rfl))
  simp (config:={maxSteps:=1000000}) (disch:=first|assumption|omega|(apply ab;omega)|(apply aa;assumption)|(simp only[aw]<;>omega)) only[go_sem,seval,r1.wf',g1,r2.wf',hne,g2,r3.wf',hr,r4.wf,oW,Ins.cells,(FJ _ _).wf',g4,h7]
  exact hK _
end LI
open Go Nm Go.Proofs Go.RowKit
open Go.Proofs.YtbjinflchdkhiaaDoor
namespace LI
theorem GZ (t u x y:Nat):Tb (M0 t u x y):=by
 have n0:(D4.of 0).toNat=0:=by kernel_rfl
 have n1:(D4.of 1).toNat=1:=by kernel_rfl
 have n2:(D4.of 2).toNat=2:=by kernel_rfl
 have h01:D4.of 0≠D4.of 1:=fun e=>by rw[e,n1] at n0;omega
 have h02:D4.of 0≠D4.of 2:=fun e=>by rw[e,n2] at n0;omega
 have h12:D4.of 1≠D4.of 2:=fun e=>by rw[e,n2] at n1;omega
 refine ⟨NH.get_put_same _ _ _,⟨t,.ptr (D4.of 8) x, ?_⟩,⟨u,.ptr (D4.of 9) y, ?_⟩, ?_, ?_, ?_⟩
 ·unfold M0;rw[NH.get_put_ne _ _ h02,NH.get_put_ne _ _ h01,NH.get_put_same]
 ·unfold M0;rw[NH.get_put_ne _ _ h12,NH.get_put_same]
 ·exact Nat.le_of_ble_eq_true (by kernel_rfl)
 ·exact Nat.le_of_ble_eq_true (by kernel_rfl)
 ·exact Nat.le_of_ble_eq_true (by kernel_rfl)
set_option maxRecDepth 100000
section
variable [Val]
theorem EQ:rC Tryd.prog [3,9,23]=true:=by kernel_rfl
theorem Gx {W:World} (hL:laidMetH Tryd.prog Rows.listingWrongRow.laid W) {f:Nat} {nf:NFun} {ts:List TypeId} (hf:am Tryd.prog f=some (.code nf)) (hs:∀l,S0 f l=fun _=>none) (hts:∀t∈ts,t∈ [3,9,23])
 (law:∀(m0 m:NH) (l:List NV),Tb m0->Chg [] m0 m->TyA Tryd.prog m ts l->∃m',bu Tryd.prog S0 f l m (.bool true) m') {H:Type} {enc:TypeId×Value->H} {args:List Value} {ds:List (DataW H)} {ps:List MemPlace}
 (h:DataW.TrodAll enc Tryd.prog W 0 (fun _=>true) true ts args ds ps) {base:Nat} (hval:∀(j:Nat) t v,ts[j]? =some t->args[j]? =some v->Value.okWide Tryd.prog W .any base t v):
 Calls Tryd.prog f args.toArray W fun e W'=>e= .returned (.bool true)/\Below W.heap.size W W':=by
 obtain ⟨t,u,a,b,ι,hR⟩:=BI hL
 have hg:=hR.1.global (g:=2) (by decide) (GZ t u a b).1 (by rfl)
 obtain ⟨cur,T,fz,hg,_⟩:=hg
 exact qQ mixed Tryd.codeOk Ei EQ hf hs hts (fun m l hC hl=>law _ m l (GZ t u a b) hC hl) hR ⟨_,cur,T,fz,hg⟩ h hval
theorem lines {W:World} (hL:laidMetH Tryd.prog Rows.listingLinesRow.laid W) (_:W.ShapedOpen Tryd.prog) {H:Type} {enc:TypeId×Value->H} {args:List Value} {ds:List (DataW H)} {ps:List MemPlace}
 (h:DataW.TrodAll enc Tryd.prog W 0 (fun _=>true) true [23] args ds ps) {base:Nat} (hval:∀(j:Nat) t v, [23][j]? =some t->args[j]? =some v->Value.okWide Tryd.prog W .any base t v):
 Calls Tryd.prog 3 args.toArray W fun e W'=>e= .returned (.bool true)/\Below W.heap.size W W':=
 Gx hL po (fun _=>rfl) (by decide) mV h hval
end
end LI
