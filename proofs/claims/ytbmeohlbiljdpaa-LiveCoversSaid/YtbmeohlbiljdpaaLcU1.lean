/- Contracts of functions that the law LiveCovers reaches, part 1. -/
import Derived.Test.YtbmeohlbiljdpaaLcU0
open Go Nm Go.Proofs
namespace LV
set_option linter.unusedSimpArgs false
set_option linter.unusedVariables false
set_option maxRecDepth 100000 in
theorem lc_l3 {M : NH} {bx : D4} {w : Bool} {vs sv : NV} {vars locals : Int} {steps : List St} {L : List (Int × Int)} (hb : M.get bx = some (.cells w [ii vars, ii locals, vs])) (hbo : Old M bx) (hs : Sl M vs 9 (Sts steps)) (hn : steps.length ≤ 300) (hL : Sl M sv 2 (Prs L)) (hLl : (L.length : Int) = vars) (hv60 : vars ≤ 60) (hfl : ∀ s ∈ steps, flatV s.n ∧ flatV s.op)
    (hloc : ∀ (v : Nat) (hv : v < L.length), (v : Int) < locals → 0 < steps.length → L[v] = (0, (steps.length : Int) - 1))
    (hown : ∀ (v : Nat) (hv : v < L.length), ¬ (v : Int) < locals → 0 ≤ L[v].1 → ∃ i j : Nat, L[v] = ((i : Int), (j : Int)) ∧ ∃ (hi : i < steps.length) (hj : j < steps.length), steps[i].hit v = true ∧ steps[j].hit v = true)
    {t : Tm} (g1 : NT.get D4.e.a t = some (.ptr bx 0)) (g3 : NT.get D4.e.f t = some sv) (g4 : NT.get D4.e.a.f t = some (ii 0))
    {Q : Out → Dyn → Prop} (hQ : ∀ t' M', Q (.exit 4) ⟨puts [] t', [], none, M'⟩) :
    W Try.prog S0 none nf3_l3.loop ⟨t, [], none, M⟩ Q := by
  have hlen := hs.len
  rw [List.length_map] at hlen
  refine W.loop (fun k d => ∃ t' M' v, d = ⟨t', [], none, M'⟩ ∧ Chg [] M M' ∧ NT.get D4.e.a t' = some (.ptr bx 0) ∧ NT.get D4.e.f t' = some sv ∧ NT.get D4.e.a.f t' = some (ii (v : Nat)) ∧ v + k = L.length)
    ?_ L.length _ ⟨t, M, 0, rfl, Chg.refl _, g1, g3, g4, by omega⟩
  rintro k d ⟨t', M', v, rfl, hC, g1, g3, g4, hik⟩
  have hb' := (hC.get hbo (by simp)).trans hb
  have hs' := hs.grew hC
  have hL' := hL.grew hC
  have hbo' := hC.old hbo
  have hQ' := fun L t' => hQ (puts L t')
  simp only [puts_nil] at hQ'
  apply wp_sound
  unfold nf3_l3
  change wp _ _ _ _ ⟨puts [] t', [], none, M'⟩ _
  by_cases hi : v < L.length
  · by_cases hp : 0 < steps.length
    · obtain ⟨id, off, w', c, a1, a2, a3, a4, a5⟩ := hL'.at v (by simpa using hi)
      rw [List.getElem_map] at a5
      by_cases hl : (v : Int) < locals
      · rw [hloc v hi hl hp] at a5
        simp (config := { maxSteps := 1000000 }) (disch := (first | assumption | omega | exact Nm.old_n (by omega) | exact Nm.old_hp (by assumption) | (simp only [List.length_set, List.length_cons, List.length_nil, List.length_append, List.length_map, List.length_replicate] <;> omega))) only [nmS0, nmS1, nmS2, nmS3, nmS4, nmS5, nmS6, Nat.testBit, Nat.reduceShiftRight, Nat.reduceAnd, Nat.reduceBNe, cond_true, cond_false, NT.get_leaf, Nat.reduceSub, d_true, d_false, clsOf, beq_self_eq_true, Int.reduceToNat, Nat.reduceAdd, Nat.reduceMul, Nat.reduceEqDiff, decide_true, decide_false, if_true, if_false, ite_true, ite_false, reduceIte, reduceCtorEq, eq_self, true_and, and_true, true_implies, g1, g3, g4, hb', hlen, a1, a2, a5, y_ne (eq2 _ _)]
        refine ⟨k - 1, by omega, _, M', v + 1, rfl, hC, ?_, ?_, ?_, by omega⟩
        · simp (config := { maxSteps := 1000000 }) (disch := (first | assumption | omega | exact Nm.old_n (by omega) | exact Nm.old_hp (by assumption) | (simp only [List.length_set, List.length_cons, List.length_nil, List.length_append, List.length_map, List.length_replicate] <;> omega))) only [nmS0, nmS1, nmS2, nmS3, nmS4, nmS5, nmS6, Nat.testBit, Nat.reduceShiftRight, Nat.reduceAnd, Nat.reduceBNe, cond_true, cond_false, NT.get_leaf, Nat.reduceSub, d_true, d_false, clsOf, beq_self_eq_true, Int.reduceToNat, Nat.reduceAdd, Nat.reduceMul, Nat.reduceEqDiff, decide_true, decide_false, if_true, if_false, ite_true, ite_false, reduceIte, reduceCtorEq, eq_self, true_and, and_true, true_implies, g1]
        · simp (config := { maxSteps := 1000000 }) (disch := (first | assumption | omega | exact Nm.old_n (by omega) | exact Nm.old_hp (by assumption) | (simp only [List.length_set, List.length_cons, List.length_nil, List.length_append, List.length_map, List.length_replicate] <;> omega))) only [nmS0, nmS1, nmS2, nmS3, nmS4, nmS5, nmS6, Nat.testBit, Nat.reduceShiftRight, Nat.reduceAnd, Nat.reduceBNe, cond_true, cond_false, NT.get_leaf, Nat.reduceSub, d_true, d_false, clsOf, beq_self_eq_true, Int.reduceToNat, Nat.reduceAdd, Nat.reduceMul, Nat.reduceEqDiff, decide_true, decide_false, if_true, if_false, ite_true, ite_false, reduceIte, reduceCtorEq, eq_self, true_and, and_true, true_implies, g3]
        · simp (config := { maxSteps := 1000000 }) (disch := (first | assumption | omega | exact Nm.old_n (by omega) | exact Nm.old_hp (by assumption) | (simp only [List.length_set, List.length_cons, List.length_nil, List.length_append, List.length_map, List.length_replicate] <;> omega))) only [nmS0, nmS1, nmS2, nmS3, nmS4, nmS5, nmS6, Nat.testBit, Nat.reduceShiftRight, Nat.reduceAnd, Nat.reduceBNe, cond_true, cond_false, NT.get_leaf, Nat.reduceSub, d_true, d_false, clsOf, beq_self_eq_true, Int.reduceToNat, Nat.reduceAdd, Nat.reduceMul, Nat.reduceEqDiff, decide_true, decide_false, if_true, if_false, ite_true, ite_false, reduceIte, reduceCtorEq, eq_self, true_and, and_true, true_implies]; rfl
      · have c0 := cell_at a5 0 (by omega)
        have c1 := cell_at a5 1 (by omega)
        by_cases hneg : 0 ≤ L[v].1
        · obtain ⟨i, j, hLv, hii, hjj, hh1, hh2⟩ := hown v hi hl hneg
          rw [hLv] at c0 c1
          obtain ⟨id1, off1, w1, d1, b1, b2, b3, b4, b5⟩ := hs'.at i (by simpa using hii)
          obtain ⟨id2, off2, w2, d2, e1, e2, e3, e4, e5⟩ := hs'.at j (by simpa using hjj)
          rw [List.getElem_map] at b5 e5
          obtain ⟨f1, f2⟩ := hfl _ (List.getElem_mem hii)
          obtain ⟨f3, f4⟩ := hfl _ (List.getElem_mem hjj)
          obtain ⟨q1, M1, hr1, rfl, hC1⟩ := touches_ref M' steps[i] f1 f2 v
          obtain ⟨q2, M2, hr2, rfl, hC2⟩ := touches_ref M1 steps[j] f3 f4 v
          rw [hit_all, hh1] at hr1
          rw [hit_all, hh2] at hr2
          have s1 : sameV 4 (.agg steps[i].l) (.agg steps[i].l) = true := same_agg (by intro v hv; simp [St.l] at hv; rcases hv with rfl | rfl | rfl | rfl | rfl | rfl | rfl | rfl | rfl <;> first | trivial | assumption)
          have s2 : sameV 4 (.agg steps[j].l) (.agg steps[j].l) = true := same_agg (by intro v hv; simp [St.l] at hv; rcases hv with rfl | rfl | rfl | rfl | rfl | rfl | rfl | rfl | rfl <;> first | trivial | assumption)
          have s3 : sameV 4 vs vs = true := hs.same
          have hb1 := (hC1.get hbo' (by simp)).trans hb'
          have a21 := (hC1.get a3 (by simp)).trans a2
          have b21 := (hC1.get b3 (by simp)).trans b2
          have e21 := (hC1.get e3 (by simp)).trans e2
          have hb2 := (hC2.get (hC1.old hbo') (by simp)).trans hb1
          have a22 := (hC2.get (hC1.old a3) (by simp)).trans a21
          have b22 := (hC2.get (hC1.old b3) (by simp)).trans b21
          have e22 := (hC2.get (hC1.old e3) (by simp)).trans e21
          simp (config := { maxSteps := 1000000 }) (disch := (first | assumption | omega | exact Nm.old_n (by omega) | exact Nm.old_hp (by assumption) | (simp only [List.length_set, List.length_cons, List.length_nil, List.length_append, List.length_map, List.length_replicate] <;> omega))) only [nmS0, nmS1, nmS2, nmS3, nmS4, nmS5, nmS6, Nat.testBit, Nat.reduceShiftRight, Nat.reduceAnd, Nat.reduceBNe, cond_true, cond_false, NT.get_leaf, Nat.reduceSub, d_true, d_false, clsOf, beq_self_eq_true, Int.reduceToNat, Nat.reduceAdd, Nat.reduceMul, Nat.reduceEqDiff, decide_true, decide_false, if_true, if_false, ite_true, ite_false, reduceIte, reduceCtorEq, eq_self, true_and, and_true, true_implies, g1, g3, g4, hb', hlen, a1, a2, c0, c1, b1, b2, b5, e1, e2, e5, hr1.wf', hr2.wf', s1, s2, s3, hb1, a21, b21, e21, hb2, a22, b22, e22]
          refine ⟨k - 1, by omega, _, M2, v + 1, rfl, (hC.trans hC1 fun _ h _ => h).trans hC2 fun _ h _ => h, ?_, ?_, ?_, by omega⟩
          · simp (config := { maxSteps := 1000000 }) (disch := (first | assumption | omega | exact Nm.old_n (by omega) | exact Nm.old_hp (by assumption) | (simp only [List.length_set, List.length_cons, List.length_nil, List.length_append, List.length_map, List.length_replicate] <;> omega))) only [nmS0, nmS1, nmS2, nmS3, nmS4, nmS5, nmS6, Nat.testBit, Nat.reduceShiftRight, Nat.reduceAnd, Nat.reduceBNe, cond_true, cond_false, NT.get_leaf, Nat.reduceSub, d_true, d_false, clsOf, beq_self_eq_true, Int.reduceToNat, Nat.reduceAdd, Nat.reduceMul, Nat.reduceEqDiff, decide_true, decide_false, if_true, if_false, ite_true, ite_false, reduceIte, reduceCtorEq, eq_self, true_and, and_true, true_implies, g1]
          · simp (config := { maxSteps := 1000000 }) (disch := (first | assumption | omega | exact Nm.old_n (by omega) | exact Nm.old_hp (by assumption) | (simp only [List.length_set, List.length_cons, List.length_nil, List.length_append, List.length_map, List.length_replicate] <;> omega))) only [nmS0, nmS1, nmS2, nmS3, nmS4, nmS5, nmS6, Nat.testBit, Nat.reduceShiftRight, Nat.reduceAnd, Nat.reduceBNe, cond_true, cond_false, NT.get_leaf, Nat.reduceSub, d_true, d_false, clsOf, beq_self_eq_true, Int.reduceToNat, Nat.reduceAdd, Nat.reduceMul, Nat.reduceEqDiff, decide_true, decide_false, if_true, if_false, ite_true, ite_false, reduceIte, reduceCtorEq, eq_self, true_and, and_true, true_implies, g3]
          · simp (config := { maxSteps := 1000000 }) (disch := (first | assumption | omega | exact Nm.old_n (by omega) | exact Nm.old_hp (by assumption) | (simp only [List.length_set, List.length_cons, List.length_nil, List.length_append, List.length_map, List.length_replicate] <;> omega))) only [nmS0, nmS1, nmS2, nmS3, nmS4, nmS5, nmS6, Nat.testBit, Nat.reduceShiftRight, Nat.reduceAnd, Nat.reduceBNe, cond_true, cond_false, NT.get_leaf, Nat.reduceSub, d_true, d_false, clsOf, beq_self_eq_true, Int.reduceToNat, Nat.reduceAdd, Nat.reduceMul, Nat.reduceEqDiff, decide_true, decide_false, if_true, if_false, ite_true, ite_false, reduceIte, reduceCtorEq, eq_self, true_and, and_true, true_implies]; rfl
        · simp (config := { maxSteps := 1000000 }) (disch := (first | assumption | omega | exact Nm.old_n (by omega) | exact Nm.old_hp (by assumption) | (simp only [List.length_set, List.length_cons, List.length_nil, List.length_append, List.length_map, List.length_replicate] <;> omega))) only [nmS0, nmS1, nmS2, nmS3, nmS4, nmS5, nmS6, Nat.testBit, Nat.reduceShiftRight, Nat.reduceAnd, Nat.reduceBNe, cond_true, cond_false, NT.get_leaf, Nat.reduceSub, d_true, d_false, clsOf, beq_self_eq_true, Int.reduceToNat, Nat.reduceAdd, Nat.reduceMul, Nat.reduceEqDiff, decide_true, decide_false, if_true, if_false, ite_true, ite_false, reduceIte, reduceCtorEq, eq_self, true_and, and_true, true_implies, g1, g3, g4, hb', hlen, a1, a2, c0, c1]
          refine ⟨k - 1, by omega, _, M', v + 1, rfl, hC, ?_, ?_, ?_, by omega⟩
          · simp (config := { maxSteps := 1000000 }) (disch := (first | assumption | omega | exact Nm.old_n (by omega) | exact Nm.old_hp (by assumption) | (simp only [List.length_set, List.length_cons, List.length_nil, List.length_append, List.length_map, List.length_replicate] <;> omega))) only [nmS0, nmS1, nmS2, nmS3, nmS4, nmS5, nmS6, Nat.testBit, Nat.reduceShiftRight, Nat.reduceAnd, Nat.reduceBNe, cond_true, cond_false, NT.get_leaf, Nat.reduceSub, d_true, d_false, clsOf, beq_self_eq_true, Int.reduceToNat, Nat.reduceAdd, Nat.reduceMul, Nat.reduceEqDiff, decide_true, decide_false, if_true, if_false, ite_true, ite_false, reduceIte, reduceCtorEq, eq_self, true_and, and_true, true_implies, g1]
          · simp (config := { maxSteps := 1000000 }) (disch := (first | assumption | omega | exact Nm.old_n (by omega) | exact Nm.old_hp (by assumption) | (simp only [List.length_set, List.length_cons, List.length_nil, List.length_append, List.length_map, List.length_replicate] <;> omega))) only [nmS0, nmS1, nmS2, nmS3, nmS4, nmS5, nmS6, Nat.testBit, Nat.reduceShiftRight, Nat.reduceAnd, Nat.reduceBNe, cond_true, cond_false, NT.get_leaf, Nat.reduceSub, d_true, d_false, clsOf, beq_self_eq_true, Int.reduceToNat, Nat.reduceAdd, Nat.reduceMul, Nat.reduceEqDiff, decide_true, decide_false, if_true, if_false, ite_true, ite_false, reduceIte, reduceCtorEq, eq_self, true_and, and_true, true_implies, g3]
          · simp (config := { maxSteps := 1000000 }) (disch := (first | assumption | omega | exact Nm.old_n (by omega) | exact Nm.old_hp (by assumption) | (simp only [List.length_set, List.length_cons, List.length_nil, List.length_append, List.length_map, List.length_replicate] <;> omega))) only [nmS0, nmS1, nmS2, nmS3, nmS4, nmS5, nmS6, Nat.testBit, Nat.reduceShiftRight, Nat.reduceAnd, Nat.reduceBNe, cond_true, cond_false, NT.get_leaf, Nat.reduceSub, d_true, d_false, clsOf, beq_self_eq_true, Int.reduceToNat, Nat.reduceAdd, Nat.reduceMul, Nat.reduceEqDiff, decide_true, decide_false, if_true, if_false, ite_true, ite_false, reduceIte, reduceCtorEq, eq_self, true_and, and_true, true_implies]; rfl
    · simp (config := { maxSteps := 1000000 }) (disch := (first | assumption | omega | exact Nm.old_n (by omega) | exact Nm.old_hp (by assumption) | (simp only [List.length_set, List.length_cons, List.length_nil, List.length_append, List.length_map, List.length_replicate] <;> omega))) only [nmS0, nmS1, nmS2, nmS3, nmS4, nmS5, nmS6, Nat.testBit, Nat.reduceShiftRight, Nat.reduceAnd, Nat.reduceBNe, cond_true, cond_false, NT.get_leaf, Nat.reduceSub, d_true, d_false, clsOf, beq_self_eq_true, Int.reduceToNat, Nat.reduceAdd, Nat.reduceMul, Nat.reduceEqDiff, decide_true, decide_false, if_true, if_false, ite_true, ite_false, reduceIte, reduceCtorEq, eq_self, true_and, and_true, true_implies, g1, g3, g4, hb', hlen]
      exact hQ' _ _ _
  · simp (config := { maxSteps := 1000000 }) (disch := (first | assumption | omega | exact Nm.old_n (by omega) | exact Nm.old_hp (by assumption) | (simp only [List.length_set, List.length_cons, List.length_nil, List.length_append, List.length_map, List.length_replicate] <;> omega))) only [nmS0, nmS1, nmS2, nmS3, nmS4, nmS5, nmS6, Nat.testBit, Nat.reduceShiftRight, Nat.reduceAnd, Nat.reduceBNe, cond_true, cond_false, NT.get_leaf, Nat.reduceSub, d_true, d_false, clsOf, beq_self_eq_true, Int.reduceToNat, Nat.reduceAdd, Nat.reduceMul, Nat.reduceEqDiff, decide_true, decide_false, if_true, if_false, ite_true, ite_false, reduceIte, reduceCtorEq, eq_self, true_and, and_true, true_implies, g1, g3, g4, hb', hlen]
    exact hQ' _ _ _
theorem ty_code' {m : NH} {c : List NV} (h : TyL Try.prog m [3, 3, 22] c) : ∃ vars locals vs steps, c = [ii vars, ii locals, vs] ∧ Sl m vs 9 (Sts steps) ∧ ∀ s ∈ steps, flatV s.n ∧ flatV s.op := by
  obtain ⟨a1, b1, rfl, h1, h⟩ := h.inv
  obtain ⟨a2, b2, rfl, h2, h⟩ := h.inv
  obtain ⟨a3, b3, rfl, h3, h⟩ := h.inv
  obtain rfl := h.inv0
  obtain ⟨z1, rfl, _⟩ := h1.inv_int Try.underlying3
  obtain ⟨z2, rfl, _⟩ := h2.inv_int Try.underlying3
  obtain ⟨v, C, rfl, hS, _, hall⟩ := h3.inv_slc Try.underlying22
  have key : ∀ C : List (List NV), (∀ c ∈ C, Ty Try.prog m 32 c) → ∃ steps : List St, C = Sts steps ∧ ∀ s ∈ steps, flatV s.n ∧ flatV s.op := by
    intro C
    induction C with
    | nil => intro _; exact ⟨[], rfl, by simp⟩
    | cons c C ih =>
      intro h
      obtain ⟨s, rfl, f⟩ := ty_step ((h c (List.mem_cons_self ..)).inv_struct Try.underlying32)
      obtain ⟨l, rfl, g⟩ := ih fun x hx => h x (List.mem_cons_of_mem _ hx)
      exact ⟨s :: l, rfl, by intro x hx; rcases List.mem_cons.mp hx with rfl | hx; exact f; exact g x hx⟩
  obtain ⟨steps, rfl, hf⟩ := key C hall
  exact ⟨z1, z2, v, steps, rfl, hS, hf⟩
theorem liveCovers (m : NH) (l : List NV) (h : TyA Try.prog m [24] l) : ∃ m', Ret Try.prog S0 3 l m (.bool true) m' := by
  obtain ⟨c, r, rfl, hc, h⟩ := h.invS Try.underlying24
  obtain rfl := h.inv0
  obtain ⟨vars, locals, vs, steps, rfl, hs, hfl⟩ := ty_code' hc
  have h : ∃ v m', Ret Try.prog S0 3 [.agg [ii vars, ii locals, vs]] m v m' ∧ v = .bool true := by
    refine WF.ex fun K hK => ?_
    refine WF.of_wpH (fun _ => rfl) nf3_eq (L := [(.e, .agg [ii vars, ii locals, vs])]) rfl ?_
    unfold nf3
    have hlen := hs.len
    rw [List.length_map] at hlen
    have hal : ∀ m, Ret Try.prog S0 5 [] m (.bool true) m := fun m => Ret.kept rfl m
    by_cases hn : steps.length ≤ 300
    · by_cases hv0 : 0 ≤ vars
      · by_cases hv : vars ≤ 60
        · generalize hM0 : hp [(.n 0, .cells true [ii vars, ii locals, vs])] 1 m = M0
          have hC0 : Chg [] m M0 := by rw [← hM0]; exact hp_of rfl
          have fb0 : M0.get (na m 0) = some (.cells true [ii vars, ii locals, vs]) := by rw [← hM0]; exact h_getN
          have ob0 : Old M0 (na m 0) := by rw [← hM0]; exact old_n (by omega)
          have hs0 := hs.grew hC0
          obtain ⟨u5, M5, hr5, hu5, hC5⟩ := spans_live (vars := vars) (locals := locals) hs0 hn
          have fb5 := (hC5.get ob0 (by simp)).trans fb0
          have hl5 := hu5.sl.len
          have hLl := spansL_len (locals := locals) (steps := steps) hv0 hv
          rw [List.length_map, hLl] at hl5
          have hl5' : lenV u5 = .val (ii vars) := by rw [hl5, Int.toNat_of_nonneg hv0]
          simp (config := { maxSteps := 1000000 }) (disch := (first | assumption | omega | exact Nm.old_n (by omega) | exact Nm.old_hp (by assumption) | (simp only [List.length_set, List.length_cons, List.length_nil, List.length_append, List.length_map, List.length_replicate] <;> omega))) only [nmS0, nmS1, nmS2, nmS3, nmS4, nmS5, nmS6, Nat.testBit, Nat.reduceShiftRight, Nat.reduceAnd, Nat.reduceBNe, cond_true, cond_false, NT.get_leaf, Nat.reduceSub, d_true, d_false, clsOf, beq_self_eq_true, Int.reduceToNat, Nat.reduceAdd, Nat.reduceMul, Nat.reduceEqDiff, decide_true, decide_false, if_true, if_false, ite_true, ite_false, reduceIte, reduceCtorEq, eq_self, true_and, and_true, true_implies, hlen, (hal _).wf', hM0, fb0, hr5.wf', fb5, hl5']
          refine lc_l2 (bx := na m 0) (w := true) (vs := vs) (sv := u5) (vars := vars) (locals := locals) (steps := steps) (L := spansL vars locals steps) fb5 (hC5.old ob0) (hs0.grew hC5) hn hu5.sl (by omega) hv hfl (fun i hi v hv' hh => cov1 hv0 hv hi hv' hh) ?_ ?_ ?_ ?_
          · simp (config := { maxSteps := 1000000 }) (disch := (first | assumption | omega | exact Nm.old_n (by omega) | exact Nm.old_hp (by assumption) | (simp only [List.length_set, List.length_cons, List.length_nil, List.length_append, List.length_map, List.length_replicate] <;> omega))) only [nmS0, nmS1, nmS2, nmS3, nmS4, nmS5, nmS6, Nat.testBit, Nat.reduceShiftRight, Nat.reduceAnd, Nat.reduceBNe, cond_true, cond_false, NT.get_leaf, Nat.reduceSub, d_true, d_false, clsOf, beq_self_eq_true, Int.reduceToNat, Nat.reduceAdd, Nat.reduceMul, Nat.reduceEqDiff, decide_true, decide_false, if_true, if_false, ite_true, ite_false, reduceIte, reduceCtorEq, eq_self, true_and, and_true, true_implies]
          · simp (config := { maxSteps := 1000000 }) (disch := (first | assumption | omega | exact Nm.old_n (by omega) | exact Nm.old_hp (by assumption) | (simp only [List.length_set, List.length_cons, List.length_nil, List.length_append, List.length_map, List.length_replicate] <;> omega))) only [nmS0, nmS1, nmS2, nmS3, nmS4, nmS5, nmS6, Nat.testBit, Nat.reduceShiftRight, Nat.reduceAnd, Nat.reduceBNe, cond_true, cond_false, NT.get_leaf, Nat.reduceSub, d_true, d_false, clsOf, beq_self_eq_true, Int.reduceToNat, Nat.reduceAdd, Nat.reduceMul, Nat.reduceEqDiff, decide_true, decide_false, if_true, if_false, ite_true, ite_false, reduceIte, reduceCtorEq, eq_self, true_and, and_true, true_implies]
          · simp (config := { maxSteps := 1000000 }) (disch := (first | assumption | omega | exact Nm.old_n (by omega) | exact Nm.old_hp (by assumption) | (simp only [List.length_set, List.length_cons, List.length_nil, List.length_append, List.length_map, List.length_replicate] <;> omega))) only [nmS0, nmS1, nmS2, nmS3, nmS4, nmS5, nmS6, Nat.testBit, Nat.reduceShiftRight, Nat.reduceAnd, Nat.reduceBNe, cond_true, cond_false, NT.get_leaf, Nat.reduceSub, d_true, d_false, clsOf, beq_self_eq_true, Int.reduceToNat, Nat.reduceAdd, Nat.reduceMul, Nat.reduceEqDiff, decide_true, decide_false, if_true, if_false, ite_true, ite_false, reduceIte, reduceCtorEq, eq_self, true_and, and_true, true_implies]
          intro t' M' hC' g1 g3
          simp (config := { maxSteps := 1000000 }) (disch := (first | assumption | omega | exact Nm.old_n (by omega) | exact Nm.old_hp (by assumption) | (simp only [List.length_set, List.length_cons, List.length_nil, List.length_append, List.length_map, List.length_replicate] <;> omega))) only [nmS0, nmS1, nmS2, nmS3, nmS4, nmS5, nmS6, Nat.testBit, Nat.reduceShiftRight, Nat.reduceAnd, Nat.reduceBNe, cond_true, cond_false, NT.get_leaf, Nat.reduceSub, d_true, d_false, clsOf, beq_self_eq_true, Int.reduceToNat, Nat.reduceAdd, Nat.reduceMul, Nat.reduceEqDiff, decide_true, decide_false, if_true, if_false, ite_true, ite_false, reduceIte, reduceCtorEq, eq_self, true_and, and_true, true_implies, g1, g3, hp_nil]
          refine lc_l3 (bx := na m 0) (w := true) (vs := vs) (sv := u5) (vars := vars) (locals := locals) (steps := steps) (L := spansL vars locals steps) ((hC'.get (hC5.old ob0) (by simp)).trans fb5) (hC'.old (hC5.old ob0)) ((hs0.grew hC5).grew hC') hn (hu5.sl.grew hC') (by omega) hv hfl (fun v hv' hl hp => cov3 hv0 hv hv' hl hp) (fun v hv' hl hp => cov2 hv0 hv hv' hl hp) ?_ ?_ ?_ ?_
          · simp (config := { maxSteps := 1000000 }) (disch := (first | assumption | omega | exact Nm.old_n (by omega) | exact Nm.old_hp (by assumption) | (simp only [List.length_set, List.length_cons, List.length_nil, List.length_append, List.length_map, List.length_replicate] <;> omega))) only [nmS0, nmS1, nmS2, nmS3, nmS4, nmS5, nmS6, Nat.testBit, Nat.reduceShiftRight, Nat.reduceAnd, Nat.reduceBNe, cond_true, cond_false, NT.get_leaf, Nat.reduceSub, d_true, d_false, clsOf, beq_self_eq_true, Int.reduceToNat, Nat.reduceAdd, Nat.reduceMul, Nat.reduceEqDiff, decide_true, decide_false, if_true, if_false, ite_true, ite_false, reduceIte, reduceCtorEq, eq_self, true_and, and_true, true_implies, g1]
          · simp (config := { maxSteps := 1000000 }) (disch := (first | assumption | omega | exact Nm.old_n (by omega) | exact Nm.old_hp (by assumption) | (simp only [List.length_set, List.length_cons, List.length_nil, List.length_append, List.length_map, List.length_replicate] <;> omega))) only [nmS0, nmS1, nmS2, nmS3, nmS4, nmS5, nmS6, Nat.testBit, Nat.reduceShiftRight, Nat.reduceAnd, Nat.reduceBNe, cond_true, cond_false, NT.get_leaf, Nat.reduceSub, d_true, d_false, clsOf, beq_self_eq_true, Int.reduceToNat, Nat.reduceAdd, Nat.reduceMul, Nat.reduceEqDiff, decide_true, decide_false, if_true, if_false, ite_true, ite_false, reduceIte, reduceCtorEq, eq_self, true_and, and_true, true_implies, g3]
          · simp (config := { maxSteps := 1000000 }) (disch := (first | assumption | omega | exact Nm.old_n (by omega) | exact Nm.old_hp (by assumption) | (simp only [List.length_set, List.length_cons, List.length_nil, List.length_append, List.length_map, List.length_replicate] <;> omega))) only [nmS0, nmS1, nmS2, nmS3, nmS4, nmS5, nmS6, Nat.testBit, Nat.reduceShiftRight, Nat.reduceAnd, Nat.reduceBNe, cond_true, cond_false, NT.get_leaf, Nat.reduceSub, d_true, d_false, clsOf, beq_self_eq_true, Int.reduceToNat, Nat.reduceAdd, Nat.reduceMul, Nat.reduceEqDiff, decide_true, decide_false, if_true, if_false, ite_true, ite_false, reduceIte, reduceCtorEq, eq_self, true_and, and_true, true_implies]
          intro t'' M''
          simp (config := { maxSteps := 1000000 }) (disch := (first | assumption | omega | exact Nm.old_n (by omega) | exact Nm.old_hp (by assumption) | (simp only [List.length_set, List.length_cons, List.length_nil, List.length_append, List.length_map, List.length_replicate] <;> omega))) only [nmS0, nmS1, nmS2, nmS3, nmS4, nmS5, nmS6, Nat.testBit, Nat.reduceShiftRight, Nat.reduceAnd, Nat.reduceBNe, cond_true, cond_false, NT.get_leaf, Nat.reduceSub, d_true, d_false, clsOf, beq_self_eq_true, Int.reduceToNat, Nat.reduceAdd, Nat.reduceMul, Nat.reduceEqDiff, decide_true, decide_false, if_true, if_false, ite_true, ite_false, reduceIte, reduceCtorEq, eq_self, true_and, and_true, true_implies]
          exact hK _ _ rfl
        · simp (config := { maxSteps := 1000000 }) (disch := (first | assumption | omega | exact Nm.old_n (by omega) | exact Nm.old_hp (by assumption) | (simp only [List.length_set, List.length_cons, List.length_nil, List.length_append, List.length_map, List.length_replicate] <;> omega))) only [nmS0, nmS1, nmS2, nmS3, nmS4, nmS5, nmS6, Nat.testBit, Nat.reduceShiftRight, Nat.reduceAnd, Nat.reduceBNe, cond_true, cond_false, NT.get_leaf, Nat.reduceSub, d_true, d_false, clsOf, beq_self_eq_true, Int.reduceToNat, Nat.reduceAdd, Nat.reduceMul, Nat.reduceEqDiff, decide_true, decide_false, if_true, if_false, ite_true, ite_false, reduceIte, reduceCtorEq, eq_self, true_and, and_true, true_implies, hlen, (hal _).wf']
          exact hK _ _ rfl
      · simp (config := { maxSteps := 1000000 }) (disch := (first | assumption | omega | exact Nm.old_n (by omega) | exact Nm.old_hp (by assumption) | (simp only [List.length_set, List.length_cons, List.length_nil, List.length_append, List.length_map, List.length_replicate] <;> omega))) only [nmS0, nmS1, nmS2, nmS3, nmS4, nmS5, nmS6, Nat.testBit, Nat.reduceShiftRight, Nat.reduceAnd, Nat.reduceBNe, cond_true, cond_false, NT.get_leaf, Nat.reduceSub, d_true, d_false, clsOf, beq_self_eq_true, Int.reduceToNat, Nat.reduceAdd, Nat.reduceMul, Nat.reduceEqDiff, decide_true, decide_false, if_true, if_false, ite_true, ite_false, reduceIte, reduceCtorEq, eq_self, true_and, and_true, true_implies, hlen, (hal _).wf']
        exact hK _ _ rfl
    · simp (config := { maxSteps := 1000000 }) (disch := (first | assumption | omega | exact Nm.old_n (by omega) | exact Nm.old_hp (by assumption) | (simp only [List.length_set, List.length_cons, List.length_nil, List.length_append, List.length_map, List.length_replicate] <;> omega))) only [nmS0, nmS1, nmS2, nmS3, nmS4, nmS5, nmS6, Nat.testBit, Nat.reduceShiftRight, Nat.reduceAnd, Nat.reduceBNe, cond_true, cond_false, NT.get_leaf, Nat.reduceSub, d_true, d_false, clsOf, beq_self_eq_true, Int.reduceToNat, Nat.reduceAdd, Nat.reduceMul, Nat.reduceEqDiff, decide_true, decide_false, if_true, if_false, ite_true, ite_false, reduceIte, reduceCtorEq, eq_self, true_and, and_true, true_implies, hlen, (hal _).wf']
      exact hK _ _ rfl
  obtain ⟨v, m', h1, rfl⟩ := h
  exact ⟨m', h1⟩
end LV

