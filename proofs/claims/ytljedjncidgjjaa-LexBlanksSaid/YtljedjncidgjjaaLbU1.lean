/- Contracts of functions that the law LexBlanks reaches, part 1. -/
import Derived.Test.YtljedjncidgjjaaLbU0
open Go Nm Go.Proofs
namespace LX
set_option linter.unusedSimpArgs false
set_option linter.unusedVariables false
theorem tk_r2 {m : NH} {t : Tm} {r tk : D4} {b0 b1 b2 b3 a0 a1 a2 a3 : NV} {c a : Nat} (ha' : a ≤ 1000000)
    (hr : m.get r = some (.cells true [b0, b1, b2, b3])) (htk : m.get tk = some (.cells true [a0, a1, a2, a3])) (orr : Old m r) (otk : Old m tk) (hrt : r ≠ tk)
    (g1 : NT.get D4.e.c.a t = some (.str signsL)) (g2 : NT.get D4.e.c.b t = some (ii 0)) (g3 : NT.get D4.e.a t = some (ii a)) (g4 : NT.get D4.e.f t = some (.ptr r 0)) (g5 : NT.get D4.e.b.a t = some (.ptr tk 0)) (g6 : NT.get D4.e.a.f t = some (u8 c))
    {Q : Out → Dyn → Prop}
    (hok : c ∈ signsL → ∀ L t' m', m'.get r = some (.cells true [ii 3, .str [c], a2, a3]) → Chg [r, tk] m m' → NT.get D4.e.f (puts L t') = some (.ptr r 0) → NT.get D4.e.a.a (puts L t') = some (ii ((a : Int) + 1)) → NT.get D4.e.a.b (puts L t') = some (ii 0) → Q .ret ⟨puts L t', [], none, m'⟩)
    (hbad : c ∉ signsL → ∀ L t', NT.get D4.e.b.a (puts L t') = some (.ptr tk 0) → NT.get D4.e.a (puts L t') = some (ii a) → NT.get D4.e.f (puts L t') = some (.ptr r 0) → Q (.exit 5) ⟨puts L t', [], none, m⟩) :
    W Try.prog S0 none nf18_l2.loop ⟨t, [], none, m⟩ Q := by
  have hsl : signsL.length = 13 := rfl
  refine W.loop (fun k d => ∃ t i, d = ⟨t, [], none, m⟩ ∧ NT.get D4.e.c.a t = some (.str signsL) ∧ NT.get D4.e.c.b t = some (ii (i : Nat)) ∧ NT.get D4.e.a t = some (ii a) ∧ NT.get D4.e.f t = some (.ptr r 0) ∧ NT.get D4.e.b.a t = some (.ptr tk 0) ∧ NT.get D4.e.a.f t = some (u8 c) ∧ c ∉ signsL.take i ∧ i + k = 13) ?_ 13 _ ⟨_, 0, rfl, g1, g2, g3, g4, g5, g6, by simp, by omega⟩
  rintro k d ⟨t, i, rfl, g1, g2, g3, g4, g5, g6, hno, hik⟩
  apply wp_sound
  unfold nf18_l2
  change wp _ _ _ _ ⟨puts [] t, [], none, m⟩ _
  rw [← hp_nil m]
  by_cases hi : i < 13
  · have hb : signsL[i]? = some signsL[i] := List.getElem?_eq_getElem (by omega)
    by_cases he : signsL[i] = c
    · rw [he] at hb
      have e1 : List.drop i (List.take ((i : Int) + 1).toNat signsL) = [c] := by
        rw [show ((i : Int) + 1).toNat = i + 1 by omega, List.take_add_one, hb]
        simp only [Option.toList_some]
        rw [List.drop_append_of_le_length (by rw [List.length_take]; omega), List.drop_take_self]; rfl
      simp (config := { maxSteps := 1000000 }) (disch := (first | assumption | omega | exact Nm.old_n (by omega) | exact Nm.old_hp (by assumption) | (simp only [List.length_set, List.length_cons, List.length_nil, List.length_append, List.length_map, List.length_replicate] <;> omega))) only [nmS0, nmS1, nmS2, nmS3, nmS4, nmS5, nmS6, nmS7, Nat.testBit, Nat.reduceShiftRight, Nat.reduceAnd, Nat.reduceBNe, cond_true, cond_false, NT.get_leaf, Nat.reduceSub, d_true, d_false, clsOf, beq_self_eq_true, Int.reduceToNat, Nat.reduceAdd, Nat.reduceMul, Nat.reduceEqDiff, decide_true, decide_false, if_true, if_false, ite_true, ite_false, reduceIte, reduceCtorEq, eq_self, true_and, and_true, true_implies, g1, g2, g3, g4, g5, g6, hb, hsl, e1, hr, htk, same_tok]
      refine hok (by rw [← he]; exact List.getElem_mem _) _ _ _ ?_ ?_ ?_ ?_ ?_
      · exact (h_getO orr).trans h_lookOs
      · exact (hp_of rfl).weak (by simp [oldK])
      · simp (config := { maxSteps := 1000000 }) (disch := (first | assumption | omega | exact Nm.old_n (by omega) | exact Nm.old_hp (by assumption) | (simp only [List.length_set, List.length_cons, List.length_nil, List.length_append, List.length_map, List.length_replicate] <;> omega))) only [nmS0, nmS1, nmS2, nmS3, nmS4, nmS5, nmS6, nmS7, Nat.testBit, Nat.reduceShiftRight, Nat.reduceAnd, Nat.reduceBNe, cond_true, cond_false, NT.get_leaf, Nat.reduceSub, d_true, d_false, clsOf, beq_self_eq_true, Int.reduceToNat, Nat.reduceAdd, Nat.reduceMul, Nat.reduceEqDiff, decide_true, decide_false, if_true, if_false, ite_true, ite_false, reduceIte, reduceCtorEq, eq_self, true_and, and_true, true_implies, g4]
      · simp (config := { maxSteps := 1000000 }) (disch := (first | assumption | omega | exact Nm.old_n (by omega) | exact Nm.old_hp (by assumption) | (simp only [List.length_set, List.length_cons, List.length_nil, List.length_append, List.length_map, List.length_replicate] <;> omega))) only [nmS0, nmS1, nmS2, nmS3, nmS4, nmS5, nmS6, nmS7, Nat.testBit, Nat.reduceShiftRight, Nat.reduceAnd, Nat.reduceBNe, cond_true, cond_false, NT.get_leaf, Nat.reduceSub, d_true, d_false, clsOf, beq_self_eq_true, Int.reduceToNat, Nat.reduceAdd, Nat.reduceMul, Nat.reduceEqDiff, decide_true, decide_false, if_true, if_false, ite_true, ite_false, reduceIte, reduceCtorEq, eq_self, true_and, and_true, true_implies]
      · simp (config := { maxSteps := 1000000 }) (disch := (first | assumption | omega | exact Nm.old_n (by omega) | exact Nm.old_hp (by assumption) | (simp only [List.length_set, List.length_cons, List.length_nil, List.length_append, List.length_map, List.length_replicate] <;> omega))) only [nmS0, nmS1, nmS2, nmS3, nmS4, nmS5, nmS6, nmS7, Nat.testBit, Nat.reduceShiftRight, Nat.reduceAnd, Nat.reduceBNe, cond_true, cond_false, NT.get_leaf, Nat.reduceSub, d_true, d_false, clsOf, beq_self_eq_true, Int.reduceToNat, Nat.reduceAdd, Nat.reduceMul, Nat.reduceEqDiff, decide_true, decide_false, if_true, if_false, ite_true, ite_false, reduceIte, reduceCtorEq, eq_self, true_and, and_true, true_implies]
    · have hne : ((signsL[i] : Int) = (c : Int)) = False := by simp; omega
      simp (config := { maxSteps := 1000000 }) (disch := (first | assumption | omega | exact Nm.old_n (by omega) | exact Nm.old_hp (by assumption) | (simp only [List.length_set, List.length_cons, List.length_nil, List.length_append, List.length_map, List.length_replicate] <;> omega))) only [nmS0, nmS1, nmS2, nmS3, nmS4, nmS5, nmS6, nmS7, Nat.testBit, Nat.reduceShiftRight, Nat.reduceAnd, Nat.reduceBNe, cond_true, cond_false, NT.get_leaf, Nat.reduceSub, d_true, d_false, clsOf, beq_self_eq_true, Int.reduceToNat, Nat.reduceAdd, Nat.reduceMul, Nat.reduceEqDiff, decide_true, decide_false, if_true, if_false, ite_true, ite_false, reduceIte, reduceCtorEq, eq_self, true_and, and_true, true_implies, g1, g2, g3, g4, g5, g6, hb, hsl]
      refine ⟨k - 1, by omega, _, i + 1, by rw [hp_nil], ?_, ?_, ?_, ?_, ?_, ?_, ?_, by omega⟩
      · simp (config := { maxSteps := 1000000 }) (disch := (first | assumption | omega | exact Nm.old_n (by omega) | exact Nm.old_hp (by assumption) | (simp only [List.length_set, List.length_cons, List.length_nil, List.length_append, List.length_map, List.length_replicate] <;> omega))) only [nmS0, nmS1, nmS2, nmS3, nmS4, nmS5, nmS6, nmS7, Nat.testBit, Nat.reduceShiftRight, Nat.reduceAnd, Nat.reduceBNe, cond_true, cond_false, NT.get_leaf, Nat.reduceSub, d_true, d_false, clsOf, beq_self_eq_true, Int.reduceToNat, Nat.reduceAdd, Nat.reduceMul, Nat.reduceEqDiff, decide_true, decide_false, if_true, if_false, ite_true, ite_false, reduceIte, reduceCtorEq, eq_self, true_and, and_true, true_implies, g1]
      · simp (config := { maxSteps := 1000000 }) (disch := (first | assumption | omega | exact Nm.old_n (by omega) | exact Nm.old_hp (by assumption) | (simp only [List.length_set, List.length_cons, List.length_nil, List.length_append, List.length_map, List.length_replicate] <;> omega))) only [nmS0, nmS1, nmS2, nmS3, nmS4, nmS5, nmS6, nmS7, Nat.testBit, Nat.reduceShiftRight, Nat.reduceAnd, Nat.reduceBNe, cond_true, cond_false, NT.get_leaf, Nat.reduceSub, d_true, d_false, clsOf, beq_self_eq_true, Int.reduceToNat, Nat.reduceAdd, Nat.reduceMul, Nat.reduceEqDiff, decide_true, decide_false, if_true, if_false, ite_true, ite_false, reduceIte, reduceCtorEq, eq_self, true_and, and_true, true_implies]; rfl
      · simp (config := { maxSteps := 1000000 }) (disch := (first | assumption | omega | exact Nm.old_n (by omega) | exact Nm.old_hp (by assumption) | (simp only [List.length_set, List.length_cons, List.length_nil, List.length_append, List.length_map, List.length_replicate] <;> omega))) only [nmS0, nmS1, nmS2, nmS3, nmS4, nmS5, nmS6, nmS7, Nat.testBit, Nat.reduceShiftRight, Nat.reduceAnd, Nat.reduceBNe, cond_true, cond_false, NT.get_leaf, Nat.reduceSub, d_true, d_false, clsOf, beq_self_eq_true, Int.reduceToNat, Nat.reduceAdd, Nat.reduceMul, Nat.reduceEqDiff, decide_true, decide_false, if_true, if_false, ite_true, ite_false, reduceIte, reduceCtorEq, eq_self, true_and, and_true, true_implies, g3]
      · simp (config := { maxSteps := 1000000 }) (disch := (first | assumption | omega | exact Nm.old_n (by omega) | exact Nm.old_hp (by assumption) | (simp only [List.length_set, List.length_cons, List.length_nil, List.length_append, List.length_map, List.length_replicate] <;> omega))) only [nmS0, nmS1, nmS2, nmS3, nmS4, nmS5, nmS6, nmS7, Nat.testBit, Nat.reduceShiftRight, Nat.reduceAnd, Nat.reduceBNe, cond_true, cond_false, NT.get_leaf, Nat.reduceSub, d_true, d_false, clsOf, beq_self_eq_true, Int.reduceToNat, Nat.reduceAdd, Nat.reduceMul, Nat.reduceEqDiff, decide_true, decide_false, if_true, if_false, ite_true, ite_false, reduceIte, reduceCtorEq, eq_self, true_and, and_true, true_implies, g4]
      · simp (config := { maxSteps := 1000000 }) (disch := (first | assumption | omega | exact Nm.old_n (by omega) | exact Nm.old_hp (by assumption) | (simp only [List.length_set, List.length_cons, List.length_nil, List.length_append, List.length_map, List.length_replicate] <;> omega))) only [nmS0, nmS1, nmS2, nmS3, nmS4, nmS5, nmS6, nmS7, Nat.testBit, Nat.reduceShiftRight, Nat.reduceAnd, Nat.reduceBNe, cond_true, cond_false, NT.get_leaf, Nat.reduceSub, d_true, d_false, clsOf, beq_self_eq_true, Int.reduceToNat, Nat.reduceAdd, Nat.reduceMul, Nat.reduceEqDiff, decide_true, decide_false, if_true, if_false, ite_true, ite_false, reduceIte, reduceCtorEq, eq_self, true_and, and_true, true_implies, g5]
      · simp (config := { maxSteps := 1000000 }) (disch := (first | assumption | omega | exact Nm.old_n (by omega) | exact Nm.old_hp (by assumption) | (simp only [List.length_set, List.length_cons, List.length_nil, List.length_append, List.length_map, List.length_replicate] <;> omega))) only [nmS0, nmS1, nmS2, nmS3, nmS4, nmS5, nmS6, nmS7, Nat.testBit, Nat.reduceShiftRight, Nat.reduceAnd, Nat.reduceBNe, cond_true, cond_false, NT.get_leaf, Nat.reduceSub, d_true, d_false, clsOf, beq_self_eq_true, Int.reduceToNat, Nat.reduceAdd, Nat.reduceMul, Nat.reduceEqDiff, decide_true, decide_false, if_true, if_false, ite_true, ite_false, reduceIte, reduceCtorEq, eq_self, true_and, and_true, true_implies, g6]
      · rw [List.take_add_one, hb]
        simp only [Option.toList_some, List.mem_append, List.mem_singleton, not_or]
        exact ⟨hno, fun q => he q.symm⟩
  · simp (config := { maxSteps := 1000000 }) (disch := (first | assumption | omega | exact Nm.old_n (by omega) | exact Nm.old_hp (by assumption) | (simp only [List.length_set, List.length_cons, List.length_nil, List.length_append, List.length_map, List.length_replicate] <;> omega))) only [nmS0, nmS1, nmS2, nmS3, nmS4, nmS5, nmS6, nmS7, Nat.testBit, Nat.reduceShiftRight, Nat.reduceAnd, Nat.reduceBNe, cond_true, cond_false, NT.get_leaf, Nat.reduceSub, d_true, d_false, clsOf, beq_self_eq_true, Int.reduceToNat, Nat.reduceAdd, Nat.reduceMul, Nat.reduceEqDiff, decide_true, decide_false, if_true, if_false, ite_true, ite_false, reduceIte, reduceCtorEq, eq_self, true_and, and_true, true_implies, g1, g2, hsl]
    rw [hp_nil]
    refine hbad ?_ _ _ ?_ ?_ ?_
    · have : i = 13 := by omega
      subst this
      exact hno
    · simp (config := { maxSteps := 1000000 }) (disch := (first | assumption | omega | exact Nm.old_n (by omega) | exact Nm.old_hp (by assumption) | (simp only [List.length_set, List.length_cons, List.length_nil, List.length_append, List.length_map, List.length_replicate] <;> omega))) only [nmS0, nmS1, nmS2, nmS3, nmS4, nmS5, nmS6, nmS7, Nat.testBit, Nat.reduceShiftRight, Nat.reduceAnd, Nat.reduceBNe, cond_true, cond_false, NT.get_leaf, Nat.reduceSub, d_true, d_false, clsOf, beq_self_eq_true, Int.reduceToNat, Nat.reduceAdd, Nat.reduceMul, Nat.reduceEqDiff, decide_true, decide_false, if_true, if_false, ite_true, ite_false, reduceIte, reduceCtorEq, eq_self, true_and, and_true, true_implies, g5]
    · simp (config := { maxSteps := 1000000 }) (disch := (first | assumption | omega | exact Nm.old_n (by omega) | exact Nm.old_hp (by assumption) | (simp only [List.length_set, List.length_cons, List.length_nil, List.length_append, List.length_map, List.length_replicate] <;> omega))) only [nmS0, nmS1, nmS2, nmS3, nmS4, nmS5, nmS6, nmS7, Nat.testBit, Nat.reduceShiftRight, Nat.reduceAnd, Nat.reduceBNe, cond_true, cond_false, NT.get_leaf, Nat.reduceSub, d_true, d_false, clsOf, beq_self_eq_true, Int.reduceToNat, Nat.reduceAdd, Nat.reduceMul, Nat.reduceEqDiff, decide_true, decide_false, if_true, if_false, ite_true, ite_false, reduceIte, reduceCtorEq, eq_self, true_and, and_true, true_implies, g3]
    · simp (config := { maxSteps := 1000000 }) (disch := (first | assumption | omega | exact Nm.old_n (by omega) | exact Nm.old_hp (by assumption) | (simp only [List.length_set, List.length_cons, List.length_nil, List.length_append, List.length_map, List.length_replicate] <;> omega))) only [nmS0, nmS1, nmS2, nmS3, nmS4, nmS5, nmS6, nmS7, Nat.testBit, Nat.reduceShiftRight, Nat.reduceAnd, Nat.reduceBNe, cond_true, cond_false, NT.get_leaf, Nat.reduceSub, d_true, d_false, clsOf, beq_self_eq_true, Int.reduceToNat, Nat.reduceAdd, Nat.reduceMul, Nat.reduceEqDiff, decide_true, decide_false, if_true, if_false, ite_true, ite_false, reduceIte, reduceCtorEq, eq_self, true_and, and_true, true_implies, g4]
theorem byt_cut' (s : List Nat) (a e : Nat) : ((Byt s).drop a).take (e - a) = Byt (cut s a e) := by
  unfold cut
  rw [List.drop_take]
  simp [List.map_take, List.map_drop]
theorem numV_cut {s : List Nat} {a c : Nat} (hbs : s[a]? = some c) (hD : isD c = true) : numV (cut s a (rowN isD s a)) = if 1 < rowN isD s a - a ∧ c = 48 then none else valL (cut s a (rowN isD s a)) 0 := by
  have ha := (List.getElem?_eq_some_iff.mp hbs).1
  obtain ⟨l, hl⟩ := cut_hd hbs hD
  have hn := cut_len (s := s) (a := a) (rowN_le (p := isD) (s := s) (a := a) (by omega))
  unfold numV
  rw [hn]
  have e : ((cut s a (rowN isD s a))[0]? = some 48) ↔ (c = 48) := by rw [hl]; simp
  by_cases h : 1 < rowN isD s a - a ∧ c = 48
  · rw [if_pos h, if_pos ⟨h.1, e.mpr h.2⟩]
  · rw [if_neg h, if_neg fun q => h ⟨q.1, e.mp q.2⟩]
theorem tokS_dig {s : List Nat} {a c : Nat} (hbs : s[a]? = some c) (hD : isD c = true) : tokS s a = (match numV (cut s a (rowN isD s a)) with | some n => if rowN isI s a = rowN isD s a then some (2, [], n, rowN isD s a) else none | none => none) := by
  have hL : isL c = false := by
    unfold isD at hD; rw [decide_eq_true_eq] at hD
    unfold isL; rw [decide_eq_false_iff_not]; omega
  unfold tokS; rw [hbs]; simp only [hL, hD]; rfl
theorem tokS_badNum {s : List Nat} {a c : Nat} (hbs : s[a]? = some c) (hD : isD c = true) (h : badNum s a) : tokS s a = none := by
  rw [tokS_dig hbs hD, numV_cut hbs hD]
  by_cases h1 : 1 < rowN isD s a - a ∧ c = 48
  · rw [if_pos h1]
  · rw [if_neg h1]
    rcases h with h | h
    · cases valL (cut s a (rowN isD s a)) 0 with
      | none => rfl
      | some n => simp [h]
    · rw [h]
theorem token_r (m : NH) {vb : NV} {s : List Nat} (hs : s.length ≤ 1000000) (h256 : ∀ c ∈ s, c < 256) (hb : Sl m vb 1 (Byt s)) {a : Nat} (ha : a < s.length) :
    ∃ v m', Ret Try.prog S0 18 [vb, ii a] m v m' ∧ (∃ (k0 : Int) (t0 : List Nat) (n0 p : Int), v = .tup [.agg [ii k0, .str t0, .int .u64 (.lit n0), ii a], ii p, ii (if (tokS s a).isSome then 0 else 2)] ∧ ∀ k t n e, tokS s a = some (k, t, n, e) → k0 = k ∧ t0 = t ∧ n0 = n ∧ p = e) ∧ Chg [] m m' := by
  refine WF.ex fun K hK => ?_
  refine WF.of_wpG (fun _ => rfl) nf18_eq (L := [(.a .e, ii a), (.e, vb)]) rfl ?_
  unfold nf18
  simp (config := { maxSteps := 1000000 }) (disch := (first | assumption | omega | exact Nm.old_n (by omega) | exact Nm.old_hp (by assumption) | (simp only [List.length_set, List.length_cons, List.length_nil, List.length_append, List.length_map, List.length_replicate] <;> omega))) only [nmS0, nmS1, nmS2, nmS3, nmS4, nmS5, nmS6, nmS7, Nat.testBit, Nat.reduceShiftRight, Nat.reduceAnd, Nat.reduceBNe, cond_true, cond_false, NT.get_leaf, Nat.reduceSub, d_true, d_false, clsOf, beq_self_eq_true, Int.reduceToNat, Nat.reduceAdd, Nat.reduceMul, Nat.reduceEqDiff, decide_true, decide_false, if_true, if_false, ite_true, ite_false, reduceIte, reduceCtorEq, eq_self, true_and, and_true, true_implies]
  generalize hM0 : hp _ 1 m = M0
  have hC0 : Chg [] m M0 := by rw [← hM0]; exact hp_of rfl
  have r0 : M0.get (na m 0) = some (.cells true [ii 0, .str [], u64 0, ii 0]) := by rw [← hM0]; exact h_getN
  have or0 : Old M0 (na m 0) := by rw [← hM0]; exact old_n (by omega)
  have hb0 := hb.chg hC0 fun _ _ => by simp
  refine tk_r1 hs hb0 (Nat.le_of_lt ha) (by simp (config := { maxSteps := 1000000 }) (disch := (first | assumption | omega | exact Nm.old_n (by omega) | exact Nm.old_hp (by assumption) | (simp only [List.length_set, List.length_cons, List.length_nil, List.length_append, List.length_map, List.length_replicate] <;> omega))) only [nmS0, nmS1, nmS2, nmS3, nmS4, nmS5, nmS6, nmS7, Nat.testBit, Nat.reduceShiftRight, Nat.reduceAnd, Nat.reduceBNe, cond_true, cond_false, NT.get_leaf, Nat.reduceSub, d_true, d_false, clsOf, beq_self_eq_true, Int.reduceToNat, Nat.reduceAdd, Nat.reduceMul, Nat.reduceEqDiff, decide_true, decide_false, if_true, if_false, ite_true, ite_false, reduceIte, reduceCtorEq, eq_self, true_and, and_true, true_implies]) (by simp (config := { maxSteps := 1000000 }) (disch := (first | assumption | omega | exact Nm.old_n (by omega) | exact Nm.old_hp (by assumption) | (simp only [List.length_set, List.length_cons, List.length_nil, List.length_append, List.length_map, List.length_replicate] <;> omega))) only [nmS0, nmS1, nmS2, nmS3, nmS4, nmS5, nmS6, nmS7, Nat.testBit, Nat.reduceShiftRight, Nat.reduceAnd, Nat.reduceBNe, cond_true, cond_false, NT.get_leaf, Nat.reduceSub, d_true, d_false, clsOf, beq_self_eq_true, Int.reduceToNat, Nat.reduceAdd, Nat.reduceMul, Nat.reduceEqDiff, decide_true, decide_false, if_true, if_false, ite_true, ite_false, reduceIte, reduceCtorEq, eq_self, true_and, and_true, true_implies]) (by simp (config := { maxSteps := 1000000 }) (disch := (first | assumption | omega | exact Nm.old_n (by omega) | exact Nm.old_hp (by assumption) | (simp only [List.length_set, List.length_cons, List.length_nil, List.length_append, List.length_map, List.length_replicate] <;> omega))) only [nmS0, nmS1, nmS2, nmS3, nmS4, nmS5, nmS6, nmS7, Nat.testBit, Nat.reduceShiftRight, Nat.reduceAnd, Nat.reduceBNe, cond_true, cond_false, NT.get_leaf, Nat.reduceSub, d_true, d_false, clsOf, beq_self_eq_true, Int.reduceToNat, Nat.reduceAdd, Nat.reduceMul, Nat.reduceEqDiff, decide_true, decide_false, if_true, if_false, ite_true, ite_false, reduceIte, reduceCtorEq, eq_self, true_and, and_true, true_implies]) (f := .ptr (na m 0) 0) (by simp (config := { maxSteps := 1000000 }) (disch := (first | assumption | omega | exact Nm.old_n (by omega) | exact Nm.old_hp (by assumption) | (simp only [List.length_set, List.length_cons, List.length_nil, List.length_append, List.length_map, List.length_replicate] <;> omega))) only [nmS0, nmS1, nmS2, nmS3, nmS4, nmS5, nmS6, nmS7, Nat.testBit, Nat.reduceShiftRight, Nat.reduceAnd, Nat.reduceBNe, cond_true, cond_false, NT.get_leaf, Nat.reduceSub, d_true, d_false, clsOf, beq_self_eq_true, Int.reduceToNat, Nat.reduceAdd, Nat.reduceMul, Nat.reduceEqDiff, decide_true, decide_false, if_true, if_false, ite_true, ite_false, reduceIte, reduceCtorEq, eq_self, true_and, and_true, true_implies]) ?_
  intro L t g1 g2 g3 g4
  rw [← hp_nil M0]
  obtain ⟨id, off, w, c', x1, x2, x3, x4, x5⟩ := hb0.at a (by simpa using ha)
  rw [List.getElem_map] at x5
  have c0 := cell_at x5 0 (by omega)
  rw [Nat.add_zero] at c0
  have hbs : s[a]? = some s[a] := List.getElem?_eq_getElem ha
  have hc256 := h256 s[a] (List.getElem_mem ha)
  generalize hc : s[a] = c at c0 hbs hc256
  have hd : ∀ m, Ret Try.prog S0 31 [u8 c] m (.bool (isD c)) m := fun m => digit_r m c
  have hl : ∀ m, Ret Try.prog S0 25 [u8 c] m (.bool (isL c)) m := fun m => letter_r m c
  generalize hT : puts L t = T at g1 g2 g3 g4
  change wp _ _ _ _ ⟨puts [] T, [], none, _⟩ _ 
  have na_ne : na m 0 ≠ na M0 0 := or0.ne 0
  have na_ne' : na M0 0 ≠ na m 0 := fun e => or0.ne 0 e.symm
  have chF : ∀ (M1 : NH) {MF : NH} {T1 T2 : List D4}, Chg T1 M0 M1 → Chg T2 M1 MF → (∀ i ∈ T1 ++ T2, i = na m 0 ∨ i = na M0 0) → Chg [] m MF := by
    intro M1 MF T1 T2 h1 h2 hi
    refine (hC0.weak (T := T1 ++ T2) (by simp)).trans ((h1.weak (T := T1 ++ T2) (by intro i hi _; simp [hi])).trans h2 (by intro i hi _; simp [hi])) (fun _ h _ => h) |>.weak ?_
    intro i hi' ho
    rcases hi i hi' with rfl | rfl
    · exact absurd ho na_old
    · exact absurd (hC0.old ho) na_old
  cases hD : isD c with
  | true =>
    rw [hD] at hd
    simp (config := { maxSteps := 1000000 }) (disch := (first | assumption | omega | exact Nm.old_n (by omega) | exact Nm.old_hp (by assumption) | (simp only [List.length_set, List.length_cons, List.length_nil, List.length_append, List.length_map, List.length_replicate] <;> omega))) only [nmS0, nmS1, nmS2, nmS3, nmS4, nmS5, nmS6, nmS7, Nat.testBit, Nat.reduceShiftRight, Nat.reduceAnd, Nat.reduceBNe, cond_true, cond_false, NT.get_leaf, Nat.reduceSub, d_true, d_false, clsOf, beq_self_eq_true, Int.reduceToNat, Nat.reduceAdd, Nat.reduceMul, Nat.reduceEqDiff, decide_true, decide_false, if_true, if_false, ite_true, ite_false, reduceIte, reduceCtorEq, eq_self, true_and, and_true, true_implies, g1, g2, g3, g4, x1, x2, c0, (hd _).wf']
    generalize hM1 : hp _ 1 M0 = M1
    have hC1 : Chg [] M0 M1 := by rw [← hM1]; exact hp_of rfl
    have p0 := (hC1.get or0 (by simp)).trans r0
    have op0 := hC1.old or0
    have p1 : M1.get (na M0 0) = some (.cells true [ii 0, .str [], u64 0, ii a]) := by rw [← hM1]; exact h_getN
    have op1 : Old M1 (na M0 0) := by rw [← hM1]; exact old_n (by omega)
    have hb1 := hb0.chg hC1 fun _ _ => by simp
    refine tk_r3 hs hb1 (Nat.le_of_lt ha) p0 p1 op0 op1 (cc := u8 c) ?_ ?_ ?_ ?_ ?_ ?_ ?_ ?_ ?_ ?_
    · simp (config := { maxSteps := 1000000 }) (disch := (first | assumption | omega | exact Nm.old_n (by omega) | exact Nm.old_hp (by assumption) | (simp only [List.length_set, List.length_cons, List.length_nil, List.length_append, List.length_map, List.length_replicate] <;> omega))) only [nmS0, nmS1, nmS2, nmS3, nmS4, nmS5, nmS6, nmS7, Nat.testBit, Nat.reduceShiftRight, Nat.reduceAnd, Nat.reduceBNe, cond_true, cond_false, NT.get_leaf, Nat.reduceSub, d_true, d_false, clsOf, beq_self_eq_true, Int.reduceToNat, Nat.reduceAdd, Nat.reduceMul, Nat.reduceEqDiff, decide_true, decide_false, if_true, if_false, ite_true, ite_false, reduceIte, reduceCtorEq, eq_self, true_and, and_true, true_implies, g1]
    · simp (config := { maxSteps := 1000000 }) (disch := (first | assumption | omega | exact Nm.old_n (by omega) | exact Nm.old_hp (by assumption) | (simp only [List.length_set, List.length_cons, List.length_nil, List.length_append, List.length_map, List.length_replicate] <;> omega))) only [nmS0, nmS1, nmS2, nmS3, nmS4, nmS5, nmS6, nmS7, Nat.testBit, Nat.reduceShiftRight, Nat.reduceAnd, Nat.reduceBNe, cond_true, cond_false, NT.get_leaf, Nat.reduceSub, d_true, d_false, clsOf, beq_self_eq_true, Int.reduceToNat, Nat.reduceAdd, Nat.reduceMul, Nat.reduceEqDiff, decide_true, decide_false, if_true, if_false, ite_true, ite_false, reduceIte, reduceCtorEq, eq_self, true_and, and_true, true_implies, g4]
    · simp (config := { maxSteps := 1000000 }) (disch := (first | assumption | omega | exact Nm.old_n (by omega) | exact Nm.old_hp (by assumption) | (simp only [List.length_set, List.length_cons, List.length_nil, List.length_append, List.length_map, List.length_replicate] <;> omega))) only [nmS0, nmS1, nmS2, nmS3, nmS4, nmS5, nmS6, nmS7, Nat.testBit, Nat.reduceShiftRight, Nat.reduceAnd, Nat.reduceBNe, cond_true, cond_false, NT.get_leaf, Nat.reduceSub, d_true, d_false, clsOf, beq_self_eq_true, Int.reduceToNat, Nat.reduceAdd, Nat.reduceMul, Nat.reduceEqDiff, decide_true, decide_false, if_true, if_false, ite_true, ite_false, reduceIte, reduceCtorEq, eq_self, true_and, and_true, true_implies, g2]
    · simp (config := { maxSteps := 1000000 }) (disch := (first | assumption | omega | exact Nm.old_n (by omega) | exact Nm.old_hp (by assumption) | (simp only [List.length_set, List.length_cons, List.length_nil, List.length_append, List.length_map, List.length_replicate] <;> omega))) only [nmS0, nmS1, nmS2, nmS3, nmS4, nmS5, nmS6, nmS7, Nat.testBit, Nat.reduceShiftRight, Nat.reduceAnd, Nat.reduceBNe, cond_true, cond_false, NT.get_leaf, Nat.reduceSub, d_true, d_false, clsOf, beq_self_eq_true, Int.reduceToNat, Nat.reduceAdd, Nat.reduceMul, Nat.reduceEqDiff, decide_true, decide_false, if_true, if_false, ite_true, ite_false, reduceIte, reduceCtorEq, eq_self, true_and, and_true, true_implies, g3]
    · simp (config := { maxSteps := 1000000 }) (disch := (first | assumption | omega | exact Nm.old_n (by omega) | exact Nm.old_hp (by assumption) | (simp only [List.length_set, List.length_cons, List.length_nil, List.length_append, List.length_map, List.length_replicate] <;> omega))) only [nmS0, nmS1, nmS2, nmS3, nmS4, nmS5, nmS6, nmS7, Nat.testBit, Nat.reduceShiftRight, Nat.reduceAnd, Nat.reduceBNe, cond_true, cond_false, NT.get_leaf, Nat.reduceSub, d_true, d_false, clsOf, beq_self_eq_true, Int.reduceToNat, Nat.reduceAdd, Nat.reduceMul, Nat.reduceEqDiff, decide_true, decide_false, if_true, if_false, ite_true, ite_false, reduceIte, reduceCtorEq, eq_self, true_and, and_true, true_implies]
    · simp (config := { maxSteps := 1000000 }) (disch := (first | assumption | omega | exact Nm.old_n (by omega) | exact Nm.old_hp (by assumption) | (simp only [List.length_set, List.length_cons, List.length_nil, List.length_append, List.length_map, List.length_replicate] <;> omega))) only [nmS0, nmS1, nmS2, nmS3, nmS4, nmS5, nmS6, nmS7, Nat.testBit, Nat.reduceShiftRight, Nat.reduceAnd, Nat.reduceBNe, cond_true, cond_false, NT.get_leaf, Nat.reduceSub, d_true, d_false, clsOf, beq_self_eq_true, Int.reduceToNat, Nat.reduceAdd, Nat.reduceMul, Nat.reduceEqDiff, decide_true, decide_false, if_true, if_false, ite_true, ite_false, reduceIte, reduceCtorEq, eq_self, true_and, and_true, true_implies]; rfl
    · simp (config := { maxSteps := 1000000 }) (disch := (first | assumption | omega | exact Nm.old_n (by omega) | exact Nm.old_hp (by assumption) | (simp only [List.length_set, List.length_cons, List.length_nil, List.length_append, List.length_map, List.length_replicate] <;> omega))) only [nmS0, nmS1, nmS2, nmS3, nmS4, nmS5, nmS6, nmS7, Nat.testBit, Nat.reduceShiftRight, Nat.reduceAnd, Nat.reduceBNe, cond_true, cond_false, NT.get_leaf, Nat.reduceSub, d_true, d_false, clsOf, beq_self_eq_true, Int.reduceToNat, Nat.reduceAdd, Nat.reduceMul, Nat.reduceEqDiff, decide_true, decide_false, if_true, if_false, ite_true, ite_false, reduceIte, reduceCtorEq, eq_self, true_and, and_true, true_implies, g2]
    · simp (config := { maxSteps := 1000000 }) (disch := (first | assumption | omega | exact Nm.old_n (by omega) | exact Nm.old_hp (by assumption) | (simp only [List.length_set, List.length_cons, List.length_nil, List.length_append, List.length_map, List.length_replicate] <;> omega))) only [nmS0, nmS1, nmS2, nmS3, nmS4, nmS5, nmS6, nmS7, Nat.testBit, Nat.reduceShiftRight, Nat.reduceAnd, Nat.reduceBNe, cond_true, cond_false, NT.get_leaf, Nat.reduceSub, d_true, d_false, clsOf, beq_self_eq_true, Int.reduceToNat, Nat.reduceAdd, Nat.reduceMul, Nat.reduceEqDiff, decide_true, decide_false, if_true, if_false, ite_true, ite_false, reduceIte, reduceCtorEq, eq_self, true_and, and_true, true_implies]
    · intro hbn L' t' k1 k2 k3
      generalize puts L' t' = T' at k1 k2 k3
      rw [show M1.put (na m 0) (.cells true [ii 0, .str [], u64 0, ii a]) = hp [(.o (na m 0), .cells true [ii 0, .str [], u64 0, ii a])] 0 M1 from by rw [← h_putO op0, hp_nil]]
      change retG _ K .ret ⟨puts [] T', [], none, _⟩
      have T : tokS s a = none := tokS_badNum hbs hD hbn
      simp (config := { maxSteps := 1000000 }) (disch := (first | assumption | omega | exact Nm.old_n (by omega) | exact Nm.old_hp (by assumption) | (simp only [List.length_set, List.length_cons, List.length_nil, List.length_append, List.length_map, List.length_replicate] <;> omega))) only [nmS0, nmS1, nmS2, nmS3, nmS4, nmS5, nmS6, nmS7, Nat.testBit, Nat.reduceShiftRight, Nat.reduceAnd, Nat.reduceBNe, cond_true, cond_false, NT.get_leaf, Nat.reduceSub, d_true, d_false, clsOf, beq_self_eq_true, Int.reduceToNat, Nat.reduceAdd, Nat.reduceMul, Nat.reduceEqDiff, decide_true, decide_false, if_true, if_false, ite_true, ite_false, reduceIte, reduceCtorEq, eq_self, true_and, and_true, true_implies, k1, k2, k3]
      refine hK _ _ ⟨⟨_, _, _, _, by rw [T]; rfl, ?_⟩, chF M1 hC1 (hp_of rfl) (by simp [oldK])⟩
      intro k t n e he; rw [T] at he; cases he
    · intro n hrr hv L' t' k1 k2 k3 k4 k5 k6
      generalize puts L' t' = T' at k1 k2 k3 k4 k5 k6
      rw [← hp_nil M1]
      change wp _ _ _ _ ⟨puts [] T', [], none, _⟩ _
      have hge : a ≤ rowN isI s a := rowN_ge
      have hle : rowN isI s a ≤ s.length := rowN_le (Nat.le_of_lt ha)
      by_cases h48 : c = 48
      · by_cases hgt : a + 1 < rowN isI s a
        · have T : tokS s a = none := by rw [tokS_dig hbs hD, numV_cut hbs hD, if_pos ⟨by omega, h48⟩]
          simp (config := { maxSteps := 1000000 }) (disch := (first | assumption | omega | exact Nm.old_n (by omega) | exact Nm.old_hp (by assumption) | (simp only [List.length_set, List.length_cons, List.length_nil, List.length_append, List.length_map, List.length_replicate] <;> omega))) only [nmS0, nmS1, nmS2, nmS3, nmS4, nmS5, nmS6, nmS7, Nat.testBit, Nat.reduceShiftRight, Nat.reduceAnd, Nat.reduceBNe, cond_true, cond_false, NT.get_leaf, Nat.reduceSub, d_true, d_false, clsOf, beq_self_eq_true, Int.reduceToNat, Nat.reduceAdd, Nat.reduceMul, Nat.reduceEqDiff, decide_true, decide_false, if_true, if_false, ite_true, ite_false, reduceIte, reduceCtorEq, eq_self, true_and, and_true, true_implies, k1, k2, k3, k4, k5, k6, p0, p1]
          refine hK _ _ ⟨⟨_, _, _, _, by rw [T]; rfl, ?_⟩, chF M1 hC1 (hp_of rfl) (by simp [oldK])⟩
          intro k t n e he; rw [T] at he; cases he
        · have T : tokS s a = some (2, [], n, rowN isD s a) := by rw [tokS_dig hbs hD, numV_cut hbs hD, if_neg (by omega), hv]; simp [hrr]
          simp (config := { maxSteps := 1000000 }) (disch := (first | assumption | omega | exact Nm.old_n (by omega) | exact Nm.old_hp (by assumption) | (simp only [List.length_set, List.length_cons, List.length_nil, List.length_append, List.length_map, List.length_replicate] <;> omega))) only [nmS0, nmS1, nmS2, nmS3, nmS4, nmS5, nmS6, nmS7, Nat.testBit, Nat.reduceShiftRight, Nat.reduceAnd, Nat.reduceBNe, cond_true, cond_false, NT.get_leaf, Nat.reduceSub, d_true, d_false, clsOf, beq_self_eq_true, Int.reduceToNat, Nat.reduceAdd, Nat.reduceMul, Nat.reduceEqDiff, decide_true, decide_false, if_true, if_false, ite_true, ite_false, reduceIte, reduceCtorEq, eq_self, true_and, and_true, true_implies, k1, k2, k3, k4, k5, k6, p0, p1, na_ne]
          refine hK _ _ ⟨⟨_, _, _, _, by rw [T]; rfl, ?_⟩, chF M1 hC1 (hp_of rfl) (by simp [oldK])⟩
          intro k t n e he; rw [T] at he; cases he
          exact ⟨rfl, rfl, rfl, by rw [hrr]⟩
      · have T : tokS s a = some (2, [], n, rowN isD s a) := by rw [tokS_dig hbs hD, numV_cut hbs hD, if_neg (by omega), hv]; simp [hrr]
        simp (config := { maxSteps := 1000000 }) (disch := (first | assumption | omega | exact Nm.old_n (by omega) | exact Nm.old_hp (by assumption) | (simp only [List.length_set, List.length_cons, List.length_nil, List.length_append, List.length_map, List.length_replicate] <;> omega))) only [nmS0, nmS1, nmS2, nmS3, nmS4, nmS5, nmS6, nmS7, Nat.testBit, Nat.reduceShiftRight, Nat.reduceAnd, Nat.reduceBNe, cond_true, cond_false, NT.get_leaf, Nat.reduceSub, d_true, d_false, clsOf, beq_self_eq_true, Int.reduceToNat, Nat.reduceAdd, Nat.reduceMul, Nat.reduceEqDiff, decide_true, decide_false, if_true, if_false, ite_true, ite_false, reduceIte, reduceCtorEq, eq_self, true_and, and_true, true_implies, k1, k2, k3, k4, k5, k6, p0, p1, na_ne]
        refine hK _ _ ⟨⟨_, _, _, _, by rw [T]; rfl, ?_⟩, chF M1 hC1 (hp_of rfl) (by simp [oldK])⟩
        intro k t n e he; rw [T] at he; cases he
        exact ⟨rfl, rfl, rfl, by rw [hrr]⟩
  | false =>
    rw [hD] at hd
    cases hL : isL c with
    | true =>
      rw [hL] at hl
      simp (config := { maxSteps := 1000000 }) (disch := (first | assumption | omega | exact Nm.old_n (by omega) | exact Nm.old_hp (by assumption) | (simp only [List.length_set, List.length_cons, List.length_nil, List.length_append, List.length_map, List.length_replicate] <;> omega))) only [nmS0, nmS1, nmS2, nmS3, nmS4, nmS5, nmS6, nmS7, Nat.testBit, Nat.reduceShiftRight, Nat.reduceAnd, Nat.reduceBNe, cond_true, cond_false, NT.get_leaf, Nat.reduceSub, d_true, d_false, clsOf, beq_self_eq_true, Int.reduceToNat, Nat.reduceAdd, Nat.reduceMul, Nat.reduceEqDiff, decide_true, decide_false, if_true, if_false, ite_true, ite_false, reduceIte, reduceCtorEq, eq_self, true_and, and_true, true_implies, g1, g2, g3, g4, x1, x2, c0, (hd _).wf', (hl _).wf']
      generalize hM1 : hp _ 1 M0 = M1
      have hC1 : Chg [] M0 M1 := by rw [← hM1]; exact hp_of rfl
      have op0 := hC1.old or0
      have p1 : M1.get (na M0 0) = some (.cells true [ii 0, .str [], u64 0, ii a]) := by rw [← hM1]; exact h_getN
      have op1 : Old M1 (na M0 0) := by rw [← hM1]; exact old_n (by omega)
      have hb1 := hb0.chg hC1 fun _ _ => by simp
      have p0 := (hC1.get or0 (by simp)).trans r0
      have hge : a ≤ rowN isI s a := rowN_ge
      have hle : rowN isI s a ≤ s.length := rowN_le (Nat.le_of_lt ha)
      refine wNT_ssl (a := a) (b := rowN isI s a) hb1 hge (by simpa using hle) ?_ ?_ ?_
      · intro K; simp (config := { maxSteps := 1000000 }) (disch := (first | assumption | omega | exact Nm.old_n (by omega) | exact Nm.old_hp (by assumption) | (simp only [List.length_set, List.length_cons, List.length_nil, List.length_append, List.length_map, List.length_replicate] <;> omega))) only [nmS0, nmS1, nmS2, nmS3, nmS4, nmS5, nmS6, nmS7, Nat.testBit, Nat.reduceShiftRight, Nat.reduceAnd, Nat.reduceBNe, cond_true, cond_false, NT.get_leaf, Nat.reduceSub, d_true, d_false, clsOf, beq_self_eq_true, Int.reduceToNat, Nat.reduceAdd, Nat.reduceMul, Nat.reduceEqDiff, decide_true, decide_false, if_true, if_false, ite_true, ite_false, reduceIte, reduceCtorEq, eq_self, true_and, and_true, true_implies]
      · intro d K hd; simp (config := { maxSteps := 1000000 }) (disch := (first | assumption | omega | exact Nm.old_n (by omega) | exact Nm.old_hp (by assumption) | (simp only [List.length_set, List.length_cons, List.length_nil, List.length_append, List.length_map, List.length_replicate] <;> omega))) only [nmS0, nmS1, nmS2, nmS3, nmS4, nmS5, nmS6, nmS7, Nat.testBit, Nat.reduceShiftRight, Nat.reduceAnd, Nat.reduceBNe, cond_true, cond_false, NT.get_leaf, Nat.reduceSub, d_true, d_false, clsOf, beq_self_eq_true, Int.reduceToNat, Nat.reduceAdd, Nat.reduceMul, Nat.reduceEqDiff, decide_true, decide_false, if_true, if_false, ite_true, ite_false, reduceIte, reduceCtorEq, eq_self, true_and, and_true, true_implies]
      intro v' hv' _
      rw [byt_cut'] at hv'
      have hbt := hv'.bts (fun c hc => h256 c (List.mem_of_mem_take (List.mem_of_mem_drop hc)))
      rw [← hp_nil M1]
      have hbt : btsV (hp [] 0 M1) v' = .val (.str (cut s a (rowN isI s a))) := by rw [hp_nil]; exact hbt
      simp (config := { maxSteps := 1000000 }) (disch := (first | assumption | omega | exact Nm.old_n (by omega) | exact Nm.old_hp (by assumption) | (simp only [List.length_set, List.length_cons, List.length_nil, List.length_append, List.length_map, List.length_replicate] <;> omega))) only [nmS0, nmS1, nmS2, nmS3, nmS4, nmS5, nmS6, nmS7, Nat.testBit, Nat.reduceShiftRight, Nat.reduceAnd, Nat.reduceBNe, cond_true, cond_false, NT.get_leaf, Nat.reduceSub, d_true, d_false, clsOf, beq_self_eq_true, Int.reduceToNat, Nat.reduceAdd, Nat.reduceMul, Nat.reduceEqDiff, decide_true, decide_false, if_true, if_false, ite_true, ite_false, reduceIte, reduceCtorEq, eq_self, true_and, and_true, true_implies, g1, g2, g3, g4, hbt, p1]
      generalize hM2 : hp _ 0 M1 = M2
      have hC2 : Chg [na M0 0] M1 M2 := by rw [← hM2]; exact (hp_of rfl).weak (by simp [oldK])
      have s0 := (hC2.get op0 (by simpa using na_ne)).trans p0
      have s1 : M2.get (na M0 0) = some (.cells true [ii 1, .str (cut s a (rowN isI s a)), u64 0, ii a]) := by rw [← hM2]; simp (config := { maxSteps := 1000000 }) (disch := (first | assumption | omega | exact Nm.old_n (by omega) | exact Nm.old_hp (by assumption) | (simp only [List.length_set, List.length_cons, List.length_nil, List.length_append, List.length_map, List.length_replicate] <;> omega))) only [nmS0, nmS1, nmS2, nmS3, nmS4, nmS5, nmS6, nmS7, Nat.testBit, Nat.reduceShiftRight, Nat.reduceAnd, Nat.reduceBNe, cond_true, cond_false, NT.get_leaf, Nat.reduceSub, d_true, d_false, clsOf, beq_self_eq_true, Int.reduceToNat, Nat.reduceAdd, Nat.reduceMul, Nat.reduceEqDiff, decide_true, decide_false, if_true, if_false, ite_true, ite_false, reduceIte, reduceCtorEq, eq_self, true_and, and_true, true_implies]
      have os0 := hC2.old op0
      have os1 := hC2.old op1
      obtain ⟨wv, M3, hw, rfl, hC3⟩ := word_r M2 (cut s a (rowN isI s a))
      have y0 := (hC3.get os0 (by simp)).trans s0
      have y1 := (hC3.get os1 (by simp)).trans s1
      have oy0 := hC3.old os0
      have oy1 := hC3.old os1
      have hC13 : Chg [na M0 0] M0 M3 := (hC1.weak (T := [na M0 0]) (by simp)).trans ((hC2.weak (T := [na M0 0]) (by simp)).trans (hC3.weak (T := [na M0 0]) (by simp)) (fun _ h _ => h)) (fun _ h _ => h)
      have TT : tokS s a = (if cut s a (rowN isI s a) ∈ wordsL then some (4, cut s a (rowN isI s a), 0, rowN isI s a) else if (cut s a (rowN isI s a)).length ≤ 16 then some (1, cut s a (rowN isI s a), 0, rowN isI s a) else none) := by
        unfold tokS; rw [hbs]; simp only [hL]; rfl
      by_cases hwd : cut s a (rowN isI s a) ∈ wordsL
      · rw [decide_eq_true hwd] at hw
        rw [if_pos hwd] at TT
        simp (config := { maxSteps := 1000000 }) (disch := (first | assumption | omega | exact Nm.old_n (by omega) | exact Nm.old_hp (by assumption) | (simp only [List.length_set, List.length_cons, List.length_nil, List.length_append, List.length_map, List.length_replicate] <;> omega))) only [nmS0, nmS1, nmS2, nmS3, nmS4, nmS5, nmS6, nmS7, Nat.testBit, Nat.reduceShiftRight, Nat.reduceAnd, Nat.reduceBNe, cond_true, cond_false, NT.get_leaf, Nat.reduceSub, d_true, d_false, clsOf, beq_self_eq_true, Int.reduceToNat, Nat.reduceAdd, Nat.reduceMul, Nat.reduceEqDiff, decide_true, decide_false, if_true, if_false, ite_true, ite_false, reduceIte, reduceCtorEq, eq_self, true_and, and_true, true_implies, hw.wf, g1, g2, g3, g4, y0, y1]
        refine hK _ _ ⟨⟨_, _, _, _, by rw [TT]; rfl, ?_⟩, chF M3 hC13 (hp_of rfl) (by simp [oldK])⟩
        intro k t n e he; rw [TT] at he; cases he
        exact ⟨rfl, rfl, rfl, rfl⟩
      · rw [decide_eq_false hwd] at hw
        rw [if_neg hwd] at TT
        by_cases h16 : (cut s a (rowN isI s a)).length ≤ 16
        · rw [if_pos h16] at TT
          simp (config := { maxSteps := 1000000 }) (disch := (first | assumption | omega | exact Nm.old_n (by omega) | exact Nm.old_hp (by assumption) | (simp only [List.length_set, List.length_cons, List.length_nil, List.length_append, List.length_map, List.length_replicate] <;> omega))) only [nmS0, nmS1, nmS2, nmS3, nmS4, nmS5, nmS6, nmS7, Nat.testBit, Nat.reduceShiftRight, Nat.reduceAnd, Nat.reduceBNe, cond_true, cond_false, NT.get_leaf, Nat.reduceSub, d_true, d_false, clsOf, beq_self_eq_true, Int.reduceToNat, Nat.reduceAdd, Nat.reduceMul, Nat.reduceEqDiff, decide_true, decide_false, if_true, if_false, ite_true, ite_false, reduceIte, reduceCtorEq, eq_self, true_and, and_true, true_implies, hw.wf, g1, g2, g3, g4, y0, y1]
          refine hK _ _ ⟨⟨_, _, _, _, by rw [TT]; rfl, ?_⟩, chF M3 hC13 (hp_of rfl) (by simp [oldK])⟩
          intro k t n e he; rw [TT] at he; cases he
          exact ⟨rfl, rfl, rfl, rfl⟩
        · rw [if_neg h16] at TT
          simp (config := { maxSteps := 1000000 }) (disch := (first | assumption | omega | exact Nm.old_n (by omega) | exact Nm.old_hp (by assumption) | (simp only [List.length_set, List.length_cons, List.length_nil, List.length_append, List.length_map, List.length_replicate] <;> omega))) only [nmS0, nmS1, nmS2, nmS3, nmS4, nmS5, nmS6, nmS7, Nat.testBit, Nat.reduceShiftRight, Nat.reduceAnd, Nat.reduceBNe, cond_true, cond_false, NT.get_leaf, Nat.reduceSub, d_true, d_false, clsOf, beq_self_eq_true, Int.reduceToNat, Nat.reduceAdd, Nat.reduceMul, Nat.reduceEqDiff, decide_true, decide_false, if_true, if_false, ite_true, ite_false, reduceIte, reduceCtorEq, eq_self, true_and, and_true, true_implies, hw.wf, g1, g2, g3, g4, y0, y1]
          refine hK _ _ ⟨⟨_, _, _, _, by rw [TT]; rfl, ?_⟩, chF M3 hC13 (hp_of rfl) (by simp [oldK])⟩
          intro k t n e he; rw [TT] at he; cases he
    | false =>
      rw [hL] at hl
      simp (config := { maxSteps := 1000000 }) (disch := (first | assumption | omega | exact Nm.old_n (by omega) | exact Nm.old_hp (by assumption) | (simp only [List.length_set, List.length_cons, List.length_nil, List.length_append, List.length_map, List.length_replicate] <;> omega))) only [nmS0, nmS1, nmS2, nmS3, nmS4, nmS5, nmS6, nmS7, Nat.testBit, Nat.reduceShiftRight, Nat.reduceAnd, Nat.reduceBNe, cond_true, cond_false, NT.get_leaf, Nat.reduceSub, d_true, d_false, clsOf, beq_self_eq_true, Int.reduceToNat, Nat.reduceAdd, Nat.reduceMul, Nat.reduceEqDiff, decide_true, decide_false, if_true, if_false, ite_true, ite_false, reduceIte, reduceCtorEq, eq_self, true_and, and_true, true_implies, g1, g2, g3, g4, x1, x2, c0, (hd _).wf', (hl _).wf']
      generalize hM1 : hp _ 1 M0 = M1
      have hC1 : Chg [] M0 M1 := by rw [← hM1]; exact hp_of rfl
      have p0 := (hC1.get or0 (by simp)).trans r0
      have op0 := hC1.old or0
      have p1 : M1.get (na M0 0) = some (.cells true [ii 0, .str [], u64 0, ii a]) := by rw [← hM1]; exact h_getN
      have op1 : Old M1 (na M0 0) := by rw [← hM1]; exact old_n (by omega)
      have T : tokS s a = if c ∈ signsL then some (3, [c], 0, a + 1) else none := by unfold tokS; rw [hbs]; simp [hL, hD]
      refine tk_r2 (c := c) (a := a) (by omega) p0 p1 op0 op1 na_ne ?_ ?_ ?_ ?_ ?_ ?_ ?_ ?_
      · simp (config := { maxSteps := 1000000 }) (disch := (first | assumption | omega | exact Nm.old_n (by omega) | exact Nm.old_hp (by assumption) | (simp only [List.length_set, List.length_cons, List.length_nil, List.length_append, List.length_map, List.length_replicate] <;> omega))) only [nmS0, nmS1, nmS2, nmS3, nmS4, nmS5, nmS6, nmS7, Nat.testBit, Nat.reduceShiftRight, Nat.reduceAnd, Nat.reduceBNe, cond_true, cond_false, NT.get_leaf, Nat.reduceSub, d_true, d_false, clsOf, beq_self_eq_true, Int.reduceToNat, Nat.reduceAdd, Nat.reduceMul, Nat.reduceEqDiff, decide_true, decide_false, if_true, if_false, ite_true, ite_false, reduceIte, reduceCtorEq, eq_self, true_and, and_true, true_implies]; rfl
      · simp (config := { maxSteps := 1000000 }) (disch := (first | assumption | omega | exact Nm.old_n (by omega) | exact Nm.old_hp (by assumption) | (simp only [List.length_set, List.length_cons, List.length_nil, List.length_append, List.length_map, List.length_replicate] <;> omega))) only [nmS0, nmS1, nmS2, nmS3, nmS4, nmS5, nmS6, nmS7, Nat.testBit, Nat.reduceShiftRight, Nat.reduceAnd, Nat.reduceBNe, cond_true, cond_false, NT.get_leaf, Nat.reduceSub, d_true, d_false, clsOf, beq_self_eq_true, Int.reduceToNat, Nat.reduceAdd, Nat.reduceMul, Nat.reduceEqDiff, decide_true, decide_false, if_true, if_false, ite_true, ite_false, reduceIte, reduceCtorEq, eq_self, true_and, and_true, true_implies]
      · simp (config := { maxSteps := 1000000 }) (disch := (first | assumption | omega | exact Nm.old_n (by omega) | exact Nm.old_hp (by assumption) | (simp only [List.length_set, List.length_cons, List.length_nil, List.length_append, List.length_map, List.length_replicate] <;> omega))) only [nmS0, nmS1, nmS2, nmS3, nmS4, nmS5, nmS6, nmS7, Nat.testBit, Nat.reduceShiftRight, Nat.reduceAnd, Nat.reduceBNe, cond_true, cond_false, NT.get_leaf, Nat.reduceSub, d_true, d_false, clsOf, beq_self_eq_true, Int.reduceToNat, Nat.reduceAdd, Nat.reduceMul, Nat.reduceEqDiff, decide_true, decide_false, if_true, if_false, ite_true, ite_false, reduceIte, reduceCtorEq, eq_self, true_and, and_true, true_implies, g2]
      · simp (config := { maxSteps := 1000000 }) (disch := (first | assumption | omega | exact Nm.old_n (by omega) | exact Nm.old_hp (by assumption) | (simp only [List.length_set, List.length_cons, List.length_nil, List.length_append, List.length_map, List.length_replicate] <;> omega))) only [nmS0, nmS1, nmS2, nmS3, nmS4, nmS5, nmS6, nmS7, Nat.testBit, Nat.reduceShiftRight, Nat.reduceAnd, Nat.reduceBNe, cond_true, cond_false, NT.get_leaf, Nat.reduceSub, d_true, d_false, clsOf, beq_self_eq_true, Int.reduceToNat, Nat.reduceAdd, Nat.reduceMul, Nat.reduceEqDiff, decide_true, decide_false, if_true, if_false, ite_true, ite_false, reduceIte, reduceCtorEq, eq_self, true_and, and_true, true_implies, g3]
      · simp (config := { maxSteps := 1000000 }) (disch := (first | assumption | omega | exact Nm.old_n (by omega) | exact Nm.old_hp (by assumption) | (simp only [List.length_set, List.length_cons, List.length_nil, List.length_append, List.length_map, List.length_replicate] <;> omega))) only [nmS0, nmS1, nmS2, nmS3, nmS4, nmS5, nmS6, nmS7, Nat.testBit, Nat.reduceShiftRight, Nat.reduceAnd, Nat.reduceBNe, cond_true, cond_false, NT.get_leaf, Nat.reduceSub, d_true, d_false, clsOf, beq_self_eq_true, Int.reduceToNat, Nat.reduceAdd, Nat.reduceMul, Nat.reduceEqDiff, decide_true, decide_false, if_true, if_false, ite_true, ite_false, reduceIte, reduceCtorEq, eq_self, true_and, and_true, true_implies]
      · simp (config := { maxSteps := 1000000 }) (disch := (first | assumption | omega | exact Nm.old_n (by omega) | exact Nm.old_hp (by assumption) | (simp only [List.length_set, List.length_cons, List.length_nil, List.length_append, List.length_map, List.length_replicate] <;> omega))) only [nmS0, nmS1, nmS2, nmS3, nmS4, nmS5, nmS6, nmS7, Nat.testBit, Nat.reduceShiftRight, Nat.reduceAnd, Nat.reduceBNe, cond_true, cond_false, NT.get_leaf, Nat.reduceSub, d_true, d_false, clsOf, beq_self_eq_true, Int.reduceToNat, Nat.reduceAdd, Nat.reduceMul, Nat.reduceEqDiff, decide_true, decide_false, if_true, if_false, ite_true, ite_false, reduceIte, reduceCtorEq, eq_self, true_and, and_true, true_implies]
      · intro hm L' t' m' q0 hCm k1 k2 k3
        rw [if_pos hm] at T
        generalize puts L' t' = T' at k1 k2 k3
        change retG _ K .ret ⟨puts [] T', [], none, m'⟩
        simp (config := { maxSteps := 1000000 }) (disch := (first | assumption | omega | exact Nm.old_n (by omega) | exact Nm.old_hp (by assumption) | (simp only [List.length_set, List.length_cons, List.length_nil, List.length_append, List.length_map, List.length_replicate] <;> omega))) only [nmS0, nmS1, nmS2, nmS3, nmS4, nmS5, nmS6, nmS7, Nat.testBit, Nat.reduceShiftRight, Nat.reduceAnd, Nat.reduceBNe, cond_true, cond_false, NT.get_leaf, Nat.reduceSub, d_true, d_false, clsOf, beq_self_eq_true, Int.reduceToNat, Nat.reduceAdd, Nat.reduceMul, Nat.reduceEqDiff, decide_true, decide_false, if_true, if_false, ite_true, ite_false, reduceIte, reduceCtorEq, eq_self, true_and, and_true, true_implies, k1, k2, k3, q0]
        refine hK _ _ ⟨⟨_, _, _, _, by rw [T]; rfl, ?_⟩, chF M1 hC1 hCm (by simp)⟩
        intro k t n e he; rw [T] at he; cases he
        exact ⟨rfl, rfl, rfl, by omega⟩
      · intro hm L' t' k1 k2 k3
        rw [if_neg hm] at T
        generalize puts L' t' = T' at k1 k2 k3
        rw [← hp_nil M1]
        change wp _ _ _ _ ⟨puts [] T', [], none, _⟩ _
        simp (config := { maxSteps := 1000000 }) (disch := (first | assumption | omega | exact Nm.old_n (by omega) | exact Nm.old_hp (by assumption) | (simp only [List.length_set, List.length_cons, List.length_nil, List.length_append, List.length_map, List.length_replicate] <;> omega))) only [nmS0, nmS1, nmS2, nmS3, nmS4, nmS5, nmS6, nmS7, Nat.testBit, Nat.reduceShiftRight, Nat.reduceAnd, Nat.reduceBNe, cond_true, cond_false, NT.get_leaf, Nat.reduceSub, d_true, d_false, clsOf, beq_self_eq_true, Int.reduceToNat, Nat.reduceAdd, Nat.reduceMul, Nat.reduceEqDiff, decide_true, decide_false, if_true, if_false, ite_true, ite_false, reduceIte, reduceCtorEq, eq_self, true_and, and_true, true_implies, k1, k2, k3, p0, p1]
        refine hK _ _ ⟨⟨_, _, _, _, by rw [T]; rfl, ?_⟩, chF M1 hC1 (hp_of rfl) (by simp [oldK])⟩
        intro k t n e he; rw [T] at he; cases he
end LX

open Go Nm Go.Proofs
namespace LX
set_option linter.unusedSimpArgs false
set_option linter.unusedVariables false
theorem toks_r1 {m M0 : NH} {vb : NV} {s : List Nat} (hs : s.length ≤ 16384) (h256 : ∀ c ∈ s, c < 256) (hb : Sl m vb 1 (Byt s)) (hCm : Chg [] m M0) {t : Tm}
    (g1 : NT.get D4.e t = some vb) (g2 : NT.get D4.e.a.a t = some .nils) (g3 : NT.get D4.e.a.b t = some (ii ((skipN s 0 : Nat) : Int))) {Q : Out → Dyn → Prop}
    (hbad : ∀ a, (toks s).2 = some a → ∀ L t' M, Chg [] m M → NT.get D4.e.b (puts L t') = some .nils → NT.get D4.e.c (puts L t') = some (ii a) → NT.get D4.e.f (puts L t') = some (ii 2) → Q .ret ⟨puts L t', [], none, M⟩)
    (hok : ∀ T, toks s = (T ++ [⟨5, [], 0, s.length⟩], none) → ∀ L t' M u, Chg [] m M → Own m M u 4 (T.map Tok.l) → NT.get D4.e (puts L t') = some vb → NT.get D4.e.a.a (puts L t') = some u → Q (.exit 0) ⟨puts L t', [], none, M⟩) :
    W Try.prog S0 none nf10_l1.loop ⟨t, [], none, M0⟩ Q := by
  have hsk0 : skipN s 0 ≤ s.length := skipN_le (Nat.zero_le _)
  refine W.loop (fun k d => ∃ t M i L u, d = ⟨t, [], none, M⟩ ∧ NT.get D4.e t = some vb ∧ NT.get D4.e.a.a t = some u ∧ NT.get D4.e.a.b t = some (ii (i : Nat)) ∧ i ≤ s.length ∧ s.length ≤ i + k ∧ Chg [] m M ∧ Own m M u 4 (L.map Tok.l) ∧ toks s = (L ++ (toksL s (k + 1) i).1, (toksL s (k + 1) i).2)) ?_ s.length _
    ⟨_, M0, skipN s 0, [], .nils, rfl, g1, g2, g3, hsk0, by omega, hCm, Own.nil, rfl⟩
  rintro k d ⟨t, M, i, L, u, rfl, g1, g2, g3, hi, hik, hC, hu, hT⟩
  apply wp_sound
  unfold nf10_l1
  change wp _ _ _ _ ⟨puts [] t, [], none, M⟩ _
  rw [← hp_nil M]
  have hLl : L.length ≤ s.length + 1 := by
    have h := toksL_len s (s.length + 1) (skipN s 0)
    have h2 : (toks s).1.length = _ := congrArg (fun x => x.1.length) hT
    rw [List.length_append] at h2
    have h3 : (toks s).1.length ≤ s.length + 1 := h
    omega
  have hbM := hb.chg hC fun _ _ => by simp
  have hlen := hbM.len
  rw [show (Byt s).length = s.length by simp] at hlen
  by_cases hlt : i < s.length
  · obtain ⟨k, rfl⟩ : ∃ k', k = k' + 1 := ⟨k - 1, by omega⟩
    have hTs : toksL s (k + 1 + 1) i = (match tokS s i with
      | none => ([], some i)
      | some (kd, t, n, e) => (⟨kd, t, n, i⟩ :: (toksL s (k + 1) (skipN s e)).1, (toksL s (k + 1) (skipN s e)).2)) := by
      rw [toksL, if_pos hlt]
      cases tokS s i with
      | none => rfl
      | some x => rfl
    obtain ⟨v, M2, hr, ⟨k0, t0, n0, p, rfl, htk⟩, hC2⟩ := token_r (hp [] 0 M) (by omega) h256 (by rw [hp_nil]; exact hbM) hlt
    have hC2 : Chg [] M M2 := by rw [hp_nil] at hC2; exact hC2
    cases hk : tokS s i with
    | none =>
      rw [hk] at hr
      have hr : Ret Try.prog S0 18 [vb, ii i] (hp [] 0 M) (.tup [.agg [ii k0, .str t0, .int .u64 (.lit n0), ii i], ii p, ii 2]) M2 := hr
      rw [hTs, hk] at hT
      simp (config := { maxSteps := 1000000 }) (disch := (first | assumption | omega | exact Nm.old_n (by omega) | exact Nm.old_hp (by assumption) | (simp only [List.length_set, List.length_cons, List.length_nil, List.length_append, List.length_map, List.length_replicate] <;> omega))) only [nmS0, nmS1, nmS2, nmS3, nmS4, nmS5, nmS6, nmS7, Nat.testBit, Nat.reduceShiftRight, Nat.reduceAnd, Nat.reduceBNe, cond_true, cond_false, NT.get_leaf, Nat.reduceSub, d_true, d_false, clsOf, beq_self_eq_true, Int.reduceToNat, Nat.reduceAdd, Nat.reduceMul, Nat.reduceEqDiff, decide_true, decide_false, if_true, if_false, ite_true, ite_false, reduceIte, reduceCtorEq, eq_self, true_and, and_true, true_implies, g1, g2, g3, hlen, hr.wf]
      refine hbad i (by rw [hT]) _ _ _ ((hC.trans hC2 (by simp)).trans (hp_of rfl) (by simp [oldK])) ?_ ?_ ?_
      · simp (config := { maxSteps := 1000000 }) (disch := (first | assumption | omega | exact Nm.old_n (by omega) | exact Nm.old_hp (by assumption) | (simp only [List.length_set, List.length_cons, List.length_nil, List.length_append, List.length_map, List.length_replicate] <;> omega))) only [nmS0, nmS1, nmS2, nmS3, nmS4, nmS5, nmS6, nmS7, Nat.testBit, Nat.reduceShiftRight, Nat.reduceAnd, Nat.reduceBNe, cond_true, cond_false, NT.get_leaf, Nat.reduceSub, d_true, d_false, clsOf, beq_self_eq_true, Int.reduceToNat, Nat.reduceAdd, Nat.reduceMul, Nat.reduceEqDiff, decide_true, decide_false, if_true, if_false, ite_true, ite_false, reduceIte, reduceCtorEq, eq_self, true_and, and_true, true_implies]
      · simp (config := { maxSteps := 1000000 }) (disch := (first | assumption | omega | exact Nm.old_n (by omega) | exact Nm.old_hp (by assumption) | (simp only [List.length_set, List.length_cons, List.length_nil, List.length_append, List.length_map, List.length_replicate] <;> omega))) only [nmS0, nmS1, nmS2, nmS3, nmS4, nmS5, nmS6, nmS7, Nat.testBit, Nat.reduceShiftRight, Nat.reduceAnd, Nat.reduceBNe, cond_true, cond_false, NT.get_leaf, Nat.reduceSub, d_true, d_false, clsOf, beq_self_eq_true, Int.reduceToNat, Nat.reduceAdd, Nat.reduceMul, Nat.reduceEqDiff, decide_true, decide_false, if_true, if_false, ite_true, ite_false, reduceIte, reduceCtorEq, eq_self, true_and, and_true, true_implies]
      · simp (config := { maxSteps := 1000000 }) (disch := (first | assumption | omega | exact Nm.old_n (by omega) | exact Nm.old_hp (by assumption) | (simp only [List.length_set, List.length_cons, List.length_nil, List.length_append, List.length_map, List.length_replicate] <;> omega))) only [nmS0, nmS1, nmS2, nmS3, nmS4, nmS5, nmS6, nmS7, Nat.testBit, Nat.reduceShiftRight, Nat.reduceAnd, Nat.reduceBNe, cond_true, cond_false, NT.get_leaf, Nat.reduceSub, d_true, d_false, clsOf, beq_self_eq_true, Int.reduceToNat, Nat.reduceAdd, Nat.reduceMul, Nat.reduceEqDiff, decide_true, decide_false, if_true, if_false, ite_true, ite_false, reduceIte, reduceCtorEq, eq_self, true_and, and_true, true_implies]
    | some x =>
      obtain ⟨kd, tx, n, e⟩ := x
      rw [hk] at hr
      obtain ⟨e0, e1, e2, e3⟩ := htk kd tx n e hk
      rw [e0, e1, e2, e3] at hr
      have hr : Ret Try.prog S0 18 [vb, ii i] (hp [] 0 M) (.tup [.agg [ii kd, .str tx, .int .u64 (.lit (n : Int)), ii i], ii e, ii 0]) M2 := hr
      obtain ⟨l1, l2⟩ := tokS_e hk
      simp (config := { maxSteps := 1000000 }) (disch := (first | assumption | omega | exact Nm.old_n (by omega) | exact Nm.old_hp (by assumption) | (simp only [List.length_set, List.length_cons, List.length_nil, List.length_append, List.length_map, List.length_replicate] <;> omega))) only [nmS0, nmS1, nmS2, nmS3, nmS4, nmS5, nmS6, nmS7, Nat.testBit, Nat.reduceShiftRight, Nat.reduceAnd, Nat.reduceBNe, cond_true, cond_false, NT.get_leaf, Nat.reduceSub, d_true, d_false, clsOf, beq_self_eq_true, Int.reduceToNat, Nat.reduceAdd, Nat.reduceMul, Nat.reduceEqDiff, decide_true, decide_false, if_true, if_false, ite_true, ite_false, reduceIte, reduceCtorEq, eq_self, true_and, and_true, true_implies, g1, g2, g3, hlen, hr.wf]
      generalize hM3 : hp _ 2 M2 = M3
      have hC3 : Chg [] M2 M3 := by rw [← hM3]; exact hp_of rfl
      have n1 : M3.get (na M2 1) = some (.cells true (Tok.l ⟨kd, tx, n, i⟩)) := by rw [← hM3]; exact h_getN
      have on1 : Old M3 (na M2 1) := by rw [← hM3]; exact old_n (by omega)
      have hCC : Chg [] m M3 := hC.trans (hC2.trans hC3 (by simp)) (by simp)
      refine wNT_app1 (hu.chg (hC2.trans hC3 fun _ h _ => h) fun _ _ => by simp) n1 on1 rfl (fun i hi => hCC.old hi) (by simp; omega) (by simp; omega) ?_
      intro u' M5 hu' hC5
      have hC6 : Chg [] m M5 := (hCC.weak (T := ids u) (by simp)).trans hC5 (fun _ h _ => h) |>.weak (by intro j hj ho; exact absurd ho (hu.new j hj))
      have hsk : Ret Try.prog S0 17 [vb, ii e] (hp [] 0 M5) (ii ((skipN s e : Nat) : Int)) (hp [] 0 M5) := skip_r _ (by omega) (by rw [hp_nil]; exact hb.chg hC6 fun _ _ => by simp) l2
      simp (config := { maxSteps := 1000000 }) (disch := (first | assumption | omega | exact Nm.old_n (by omega) | exact Nm.old_hp (by assumption) | (simp only [List.length_set, List.length_cons, List.length_nil, List.length_append, List.length_map, List.length_replicate] <;> omega))) only [nmS0, nmS1, nmS2, nmS3, nmS4, nmS5, nmS6, nmS7, Nat.testBit, Nat.reduceShiftRight, Nat.reduceAnd, Nat.reduceBNe, cond_true, cond_false, NT.get_leaf, Nat.reduceSub, d_true, d_false, clsOf, beq_self_eq_true, Int.reduceToNat, Nat.reduceAdd, Nat.reduceMul, Nat.reduceEqDiff, decide_true, decide_false, if_true, if_false, ite_true, ite_false, reduceIte, reduceCtorEq, eq_self, true_and, and_true, true_implies, g1, g2, g3, hsk.wf']
      have hge : e ≤ skipN s e := skipN_ge
      refine ⟨k, by omega, _, M5, skipN s e, L ++ [⟨kd, tx, n, i⟩], u', by rw [hp_nil], ?_, ?_, ?_, skipN_le l2, by omega, hC6, ?_, ?_⟩
      · simp (config := { maxSteps := 1000000 }) (disch := (first | assumption | omega | exact Nm.old_n (by omega) | exact Nm.old_hp (by assumption) | (simp only [List.length_set, List.length_cons, List.length_nil, List.length_append, List.length_map, List.length_replicate] <;> omega))) only [nmS0, nmS1, nmS2, nmS3, nmS4, nmS5, nmS6, nmS7, Nat.testBit, Nat.reduceShiftRight, Nat.reduceAnd, Nat.reduceBNe, cond_true, cond_false, NT.get_leaf, Nat.reduceSub, d_true, d_false, clsOf, beq_self_eq_true, Int.reduceToNat, Nat.reduceAdd, Nat.reduceMul, Nat.reduceEqDiff, decide_true, decide_false, if_true, if_false, ite_true, ite_false, reduceIte, reduceCtorEq, eq_self, true_and, and_true, true_implies, g1]
      · simp (config := { maxSteps := 1000000 }) (disch := (first | assumption | omega | exact Nm.old_n (by omega) | exact Nm.old_hp (by assumption) | (simp only [List.length_set, List.length_cons, List.length_nil, List.length_append, List.length_map, List.length_replicate] <;> omega))) only [nmS0, nmS1, nmS2, nmS3, nmS4, nmS5, nmS6, nmS7, Nat.testBit, Nat.reduceShiftRight, Nat.reduceAnd, Nat.reduceBNe, cond_true, cond_false, NT.get_leaf, Nat.reduceSub, d_true, d_false, clsOf, beq_self_eq_true, Int.reduceToNat, Nat.reduceAdd, Nat.reduceMul, Nat.reduceEqDiff, decide_true, decide_false, if_true, if_false, ite_true, ite_false, reduceIte, reduceCtorEq, eq_self, true_and, and_true, true_implies]
      · simp (config := { maxSteps := 1000000 }) (disch := (first | assumption | omega | exact Nm.old_n (by omega) | exact Nm.old_hp (by assumption) | (simp only [List.length_set, List.length_cons, List.length_nil, List.length_append, List.length_map, List.length_replicate] <;> omega))) only [nmS0, nmS1, nmS2, nmS3, nmS4, nmS5, nmS6, nmS7, Nat.testBit, Nat.reduceShiftRight, Nat.reduceAnd, Nat.reduceBNe, cond_true, cond_false, NT.get_leaf, Nat.reduceSub, d_true, d_false, clsOf, beq_self_eq_true, Int.reduceToNat, Nat.reduceAdd, Nat.reduceMul, Nat.reduceEqDiff, decide_true, decide_false, if_true, if_false, ite_true, ite_false, reduceIte, reduceCtorEq, eq_self, true_and, and_true, true_implies]
      · rw [List.map_append]; exact hu'
      · rw [hT, hTs, hk]; simp
  · have hTs : toksL s (k + 1) i = ([⟨5, [], 0, s.length⟩], none) := by rw [toksL, if_neg hlt]
    rw [hTs] at hT
    simp (config := { maxSteps := 1000000 }) (disch := (first | assumption | omega | exact Nm.old_n (by omega) | exact Nm.old_hp (by assumption) | (simp only [List.length_set, List.length_cons, List.length_nil, List.length_append, List.length_map, List.length_replicate] <;> omega))) only [nmS0, nmS1, nmS2, nmS3, nmS4, nmS5, nmS6, nmS7, Nat.testBit, Nat.reduceShiftRight, Nat.reduceAnd, Nat.reduceBNe, cond_true, cond_false, NT.get_leaf, Nat.reduceSub, d_true, d_false, clsOf, beq_self_eq_true, Int.reduceToNat, Nat.reduceAdd, Nat.reduceMul, Nat.reduceEqDiff, decide_true, decide_false, if_true, if_false, ite_true, ite_false, reduceIte, reduceCtorEq, eq_self, true_and, and_true, true_implies, g1, g2, g3, hlen]
    rw [hp_nil]
    refine hok L hT _ _ _ u hC hu ?_ ?_
    · simp (config := { maxSteps := 1000000 }) (disch := (first | assumption | omega | exact Nm.old_n (by omega) | exact Nm.old_hp (by assumption) | (simp only [List.length_set, List.length_cons, List.length_nil, List.length_append, List.length_map, List.length_replicate] <;> omega))) only [nmS0, nmS1, nmS2, nmS3, nmS4, nmS5, nmS6, nmS7, Nat.testBit, Nat.reduceShiftRight, Nat.reduceAnd, Nat.reduceBNe, cond_true, cond_false, NT.get_leaf, Nat.reduceSub, d_true, d_false, clsOf, beq_self_eq_true, Int.reduceToNat, Nat.reduceAdd, Nat.reduceMul, Nat.reduceEqDiff, decide_true, decide_false, if_true, if_false, ite_true, ite_false, reduceIte, reduceCtorEq, eq_self, true_and, and_true, true_implies, g1]
    · simp (config := { maxSteps := 1000000 }) (disch := (first | assumption | omega | exact Nm.old_n (by omega) | exact Nm.old_hp (by assumption) | (simp only [List.length_set, List.length_cons, List.length_nil, List.length_append, List.length_map, List.length_replicate] <;> omega))) only [nmS0, nmS1, nmS2, nmS3, nmS4, nmS5, nmS6, nmS7, Nat.testBit, Nat.reduceShiftRight, Nat.reduceAnd, Nat.reduceBNe, cond_true, cond_false, NT.get_leaf, Nat.reduceSub, d_true, d_false, clsOf, beq_self_eq_true, Int.reduceToNat, Nat.reduceAdd, Nat.reduceMul, Nat.reduceEqDiff, decide_true, decide_false, if_true, if_false, ite_true, ite_false, reduceIte, reduceCtorEq, eq_self, true_and, and_true, true_implies, g2]
/-- ref's Tokens -/
theorem tokens_r (m : NH) {v : NV} {b : List Nat} (hv : Sl m v 1 (Byt b)) (hb : ∀ c ∈ b, c < 256) :
    ∃ r m', Ret Try.prog S0 10 [v] m r m' ∧ (if 16384 < b.length then r = .tup [.nils, ii 0, ii 3] else (match (toks b).2 with | some a => r = .tup [.nils, ii a, ii 2] | none => ∃ u, r = .tup [u, ii b.length, ii 0] ∧ Own m m' u 4 ((toks b).1.map Tok.l))) ∧ Chg [] m m' := by
  refine WF.ex fun K hK => ?_
  refine WF.of_wpG (fun _ => rfl) nf10_eq (L := [(.e, v)]) rfl ?_
  unfold nf10
  have hlen := hv.len
  rw [show (Byt b).length = b.length by simp] at hlen
  by_cases h1 : 16384 < b.length
  · simp (config := { maxSteps := 1000000 }) (disch := (first | assumption | omega | exact Nm.old_n (by omega) | exact Nm.old_hp (by assumption) | (simp only [List.length_set, List.length_cons, List.length_nil, List.length_append, List.length_map, List.length_replicate] <;> omega))) only [nmS0, nmS1, nmS2, nmS3, nmS4, nmS5, nmS6, nmS7, Nat.testBit, Nat.reduceShiftRight, Nat.reduceAnd, Nat.reduceBNe, cond_true, cond_false, NT.get_leaf, Nat.reduceSub, d_true, d_false, clsOf, beq_self_eq_true, Int.reduceToNat, Nat.reduceAdd, Nat.reduceMul, Nat.reduceEqDiff, decide_true, decide_false, if_true, if_false, ite_true, ite_false, reduceIte, reduceCtorEq, eq_self, true_and, and_true, true_implies, hlen, hp_nil]
    refine hK _ _ ⟨by rw [if_pos h1], Chg.refl m⟩
  · have hs0 : Ret Try.prog S0 17 [v, ii 0] m (ii ((skipN b 0 : Nat) : Int)) m := skip_r m (by omega) hv (a := 0) (Nat.zero_le _)
    simp (config := { maxSteps := 1000000 }) (disch := (first | assumption | omega | exact Nm.old_n (by omega) | exact Nm.old_hp (by assumption) | (simp only [List.length_set, List.length_cons, List.length_nil, List.length_append, List.length_map, List.length_replicate] <;> omega))) only [nmS0, nmS1, nmS2, nmS3, nmS4, nmS5, nmS6, nmS7, Nat.testBit, Nat.reduceShiftRight, Nat.reduceAnd, Nat.reduceBNe, cond_true, cond_false, NT.get_leaf, Nat.reduceSub, d_true, d_false, clsOf, beq_self_eq_true, Int.reduceToNat, Nat.reduceAdd, Nat.reduceMul, Nat.reduceEqDiff, decide_true, decide_false, if_true, if_false, ite_true, ite_false, reduceIte, reduceCtorEq, eq_self, true_and, and_true, true_implies, hlen, hp_nil, hs0.wf']
    refine toks_r1 (m := m) (s := b) (vb := v) (by omega) hb hv (Chg.refl m) ?_ ?_ ?_ ?_ ?_
    · simp (config := { maxSteps := 1000000 }) (disch := (first | assumption | omega | exact Nm.old_n (by omega) | exact Nm.old_hp (by assumption) | (simp only [List.length_set, List.length_cons, List.length_nil, List.length_append, List.length_map, List.length_replicate] <;> omega))) only [nmS0, nmS1, nmS2, nmS3, nmS4, nmS5, nmS6, nmS7, Nat.testBit, Nat.reduceShiftRight, Nat.reduceAnd, Nat.reduceBNe, cond_true, cond_false, NT.get_leaf, Nat.reduceSub, d_true, d_false, clsOf, beq_self_eq_true, Int.reduceToNat, Nat.reduceAdd, Nat.reduceMul, Nat.reduceEqDiff, decide_true, decide_false, if_true, if_false, ite_true, ite_false, reduceIte, reduceCtorEq, eq_self, true_and, and_true, true_implies]
    · simp (config := { maxSteps := 1000000 }) (disch := (first | assumption | omega | exact Nm.old_n (by omega) | exact Nm.old_hp (by assumption) | (simp only [List.length_set, List.length_cons, List.length_nil, List.length_append, List.length_map, List.length_replicate] <;> omega))) only [nmS0, nmS1, nmS2, nmS3, nmS4, nmS5, nmS6, nmS7, Nat.testBit, Nat.reduceShiftRight, Nat.reduceAnd, Nat.reduceBNe, cond_true, cond_false, NT.get_leaf, Nat.reduceSub, d_true, d_false, clsOf, beq_self_eq_true, Int.reduceToNat, Nat.reduceAdd, Nat.reduceMul, Nat.reduceEqDiff, decide_true, decide_false, if_true, if_false, ite_true, ite_false, reduceIte, reduceCtorEq, eq_self, true_and, and_true, true_implies]
    · simp (config := { maxSteps := 1000000 }) (disch := (first | assumption | omega | exact Nm.old_n (by omega) | exact Nm.old_hp (by assumption) | (simp only [List.length_set, List.length_cons, List.length_nil, List.length_append, List.length_map, List.length_replicate] <;> omega))) only [nmS0, nmS1, nmS2, nmS3, nmS4, nmS5, nmS6, nmS7, Nat.testBit, Nat.reduceShiftRight, Nat.reduceAnd, Nat.reduceBNe, cond_true, cond_false, NT.get_leaf, Nat.reduceSub, d_true, d_false, clsOf, beq_self_eq_true, Int.reduceToNat, Nat.reduceAdd, Nat.reduceMul, Nat.reduceEqDiff, decide_true, decide_false, if_true, if_false, ite_true, ite_false, reduceIte, reduceCtorEq, eq_self, true_and, and_true, true_implies]
    · intro a he L t M hC g1 g2 g3
      generalize puts L t = T at g1 g2 g3
      change retG _ K .ret ⟨puts [] T, [], none, M⟩
      simp (config := { maxSteps := 1000000 }) (disch := (first | assumption | omega | exact Nm.old_n (by omega) | exact Nm.old_hp (by assumption) | (simp only [List.length_set, List.length_cons, List.length_nil, List.length_append, List.length_map, List.length_replicate] <;> omega))) only [nmS0, nmS1, nmS2, nmS3, nmS4, nmS5, nmS6, nmS7, Nat.testBit, Nat.reduceShiftRight, Nat.reduceAnd, Nat.reduceBNe, cond_true, cond_false, NT.get_leaf, Nat.reduceSub, d_true, d_false, clsOf, beq_self_eq_true, Int.reduceToNat, Nat.reduceAdd, Nat.reduceMul, Nat.reduceEqDiff, decide_true, decide_false, if_true, if_false, ite_true, ite_false, reduceIte, reduceCtorEq, eq_self, true_and, and_true, true_implies, g1, g2, g3]
      refine hK _ _ ⟨by rw [if_neg h1, he], hC⟩
    · intro Tl hT L t M u hC hu g1 g2
      generalize puts L t = T at g1 g2
      change wp _ _ _ _ ⟨puts [] T, [], none, M⟩ _
      rw [← hp_nil M]
      have hlen := (hv.chg hC fun _ _ => by simp).len
      rw [show (Byt b).length = b.length by simp] at hlen
      have hTl : Tl.length ≤ b.length + 1 := by
        have h := toksL_len b (b.length + 1) (skipN b 0)
        have h2 : (toks b).1.length = _ := congrArg (fun x => x.1.length) hT
        rw [List.length_append] at h2
        have h3 : (toks b).1.length ≤ b.length + 1 := h
        omega
      simp (config := { maxSteps := 1000000 }) (disch := (first | assumption | omega | exact Nm.old_n (by omega) | exact Nm.old_hp (by assumption) | (simp only [List.length_set, List.length_cons, List.length_nil, List.length_append, List.length_map, List.length_replicate] <;> omega))) only [nmS0, nmS1, nmS2, nmS3, nmS4, nmS5, nmS6, nmS7, Nat.testBit, Nat.reduceShiftRight, Nat.reduceAnd, Nat.reduceBNe, cond_true, cond_false, NT.get_leaf, Nat.reduceSub, d_true, d_false, clsOf, beq_self_eq_true, Int.reduceToNat, Nat.reduceAdd, Nat.reduceMul, Nat.reduceEqDiff, decide_true, decide_false, if_true, if_false, ite_true, ite_false, reduceIte, reduceCtorEq, eq_self, true_and, and_true, true_implies, g1, g2, hlen]
      generalize hM3 : hp _ 1 M = M3
      have hC3 : Chg [] M M3 := by rw [← hM3]; exact hp_of rfl
      have n1 : M3.get (na M 0) = some (.cells true (Tok.l ⟨5, [], 0, b.length⟩)) := by rw [← hM3]; exact h_getN
      have on1 : Old M3 (na M 0) := by rw [← hM3]; exact old_n (by omega)
      have hCC : Chg [] m M3 := hC.trans hC3 (by simp)
      refine wNT_app1 (hu.chg hC3 fun _ _ => by simp) n1 on1 rfl (fun i hi => hCC.old hi) (by simp; omega) (by simp; omega) ?_
      intro u' M5 hu' hC5
      have hC6 : Chg [] m M5 := (hCC.weak (T := ids u) (by simp)).trans hC5 (fun _ h _ => h) |>.weak (by intro j hj ho; exact absurd ho (hu.new j hj))
      have hlen5 := (hv.chg hC6 fun _ _ => by simp).len
      rw [show (Byt b).length = b.length by simp] at hlen5
      simp (config := { maxSteps := 1000000 }) (disch := (first | assumption | omega | exact Nm.old_n (by omega) | exact Nm.old_hp (by assumption) | (simp only [List.length_set, List.length_cons, List.length_nil, List.length_append, List.length_map, List.length_replicate] <;> omega))) only [nmS0, nmS1, nmS2, nmS3, nmS4, nmS5, nmS6, nmS7, Nat.testBit, Nat.reduceShiftRight, Nat.reduceAnd, Nat.reduceBNe, cond_true, cond_false, NT.get_leaf, Nat.reduceSub, d_true, d_false, clsOf, beq_self_eq_true, Int.reduceToNat, Nat.reduceAdd, Nat.reduceMul, Nat.reduceEqDiff, decide_true, decide_false, if_true, if_false, ite_true, ite_false, reduceIte, reduceCtorEq, eq_self, true_and, and_true, true_implies, g1, g2, hlen5]
      rw [hp_nil]
      refine hK _ _ ⟨?_, hC6⟩
      rw [if_neg h1, hT]
      exact ⟨u', rfl, by rw [List.map_append]; exact hu'⟩
end LX

open Go Nm Go.Proofs
namespace LX
set_option linter.unusedSimpArgs false
set_option linter.unusedVariables false
/-! the plain law of LexBlanks: texts by what is left of them -/
theorem cnt_cut : ∀ (l : List Nat) (st : Bool) (X : List Nat), cnt st (l.take (cnt st l) ++ 10 :: X) = cnt st l + 1 + cnt false X := by
  intro l
  induction l with
  | nil =>
    intro st X
    cases st
    · show (if isB 10 then 1 + cnt false X else if 10 = 35 then 1 + cnt true X else 0) = 0 + 1 + cnt false X
      rw [if_pos (by rfl)]
    · show (if 10 = 10 then 1 + cnt false X else 1 + cnt true X) = 0 + 1 + cnt false X
      rw [if_pos rfl]
  | cons c l ih =>
    intro st X
    cases st
    · have e : cnt false (c :: l) = if isB c then 1 + cnt false l else if c = 35 then 1 + cnt true l else 0 := rfl
      rw [e]
      by_cases h1 : isB c = true
      · rw [if_pos h1, show 1 + cnt false l = cnt false l + 1 by omega, List.take_succ_cons, List.cons_append]
        show (if isB c then 1 + cnt false (l.take (cnt false l) ++ 10 :: X) else if c = 35 then 1 + cnt true (l.take (cnt false l) ++ 10 :: X) else 0) = _
        rw [if_pos h1, ih]; omega
      · rw [if_neg h1]
        by_cases h2 : c = 35
        · rw [if_pos h2, show 1 + cnt true l = cnt true l + 1 by omega, List.take_succ_cons, List.cons_append]
          show (if isB c then 1 + cnt false (l.take (cnt true l) ++ 10 :: X) else if c = 35 then 1 + cnt true (l.take (cnt true l) ++ 10 :: X) else 0) = _
          rw [if_neg h1, if_pos h2, ih]; omega
        · rw [if_neg h2, List.take_zero, List.nil_append]
          show (if isB 10 then 1 + cnt false X else if 10 = 35 then 1 + cnt true X else 0) = 0 + 1 + cnt false X
          rw [if_pos (by rfl)]
    · have e : cnt true (c :: l) = if c = 10 then 1 + cnt false l else 1 + cnt true l := rfl
      rw [e]
      by_cases h1 : c = 10
      · rw [if_pos h1, show 1 + cnt false l = cnt false l + 1 by omega, List.take_succ_cons, List.cons_append]
        show (if c = 10 then 1 + cnt false (l.take (cnt false l) ++ 10 :: X) else 1 + cnt true (l.take (cnt false l) ++ 10 :: X)) = _
        rw [if_pos h1, ih]; omega
      · rw [if_neg h1, show 1 + cnt true l = cnt true l + 1 by omega, List.take_succ_cons, List.cons_append]
        show (if c = 10 then 1 + cnt false (l.take (cnt true l) ++ 10 :: X) else 1 + cnt true (l.take (cnt true l) ++ 10 :: X)) = _
        rw [if_neg h1, ih]; omega
def fills : List (List Nat) := [[32], [10], [9, 13, 32], [35, 32, 120, 59, 123, 10], [32, 35, 10, 32]]
theorem cnt_fill : ∀ f ∈ fills, ∀ X, cnt false (f ++ X) = f.length + cnt false X := by
  intro f hf X
  simp only [fills, List.mem_cons, List.not_mem_nil, or_false] at hf
  rcases hf with rfl | rfl | rfl | rfl | rfl
  · show 1 + cnt false X = _; simp
  · show 1 + cnt false X = _; simp
  · show 1 + (1 + (1 + cnt false X)) = _; simp; omega
  · show 1 + (1 + (1 + (1 + (1 + (1 + cnt false X))))) = _; simp; omega
  · show 1 + (1 + (1 + (1 + cnt false X))) = _; simp; omega
/-- the token at the start of a text, and how long it is -/
def tokH (l : List Nat) : Option (Nat × List Nat × Nat × Nat) :=
  match l with
  | [] => none
  | c :: _ =>
    if isL c then (if l.takeWhile isI ∈ wordsL then some (4, l.takeWhile isI, 0, (l.takeWhile isI).length) else if (l.takeWhile isI).length ≤ 16 then some (1, l.takeWhile isI, 0, (l.takeWhile isI).length) else none)
    else if isD c then (match numV (l.takeWhile isD) with | some n => if (l.takeWhile isI).length = (l.takeWhile isD).length then some (2, [], n, (l.takeWhile isD).length) else none | none => none)
    else if c ∈ signsL then some (3, [c], 0, 1) else none
theorem tokS_H (s : List Nat) (a : Nat) : tokS s a = (tokH (s.drop a)).map fun x => (x.1, x.2.1, x.2.2.1, a + x.2.2.2) := by
  unfold tokS
  cases hb : s[a]? with
  | none =>
    rw [List.drop_eq_nil_of_le (by simpa using hb)]; rfl
  | some c =>
    obtain ⟨ha, hc⟩ := List.getElem?_eq_some_iff.mp hb
    rw [cut_row, cut_row]
    have hd : s.drop a = c :: s.drop (a + 1) := by rw [List.drop_eq_getElem_cons ha, hc]
    have hrI : rowN isI s a = a + ((s.drop a).takeWhile isI).length := rfl
    have hrD : rowN isD s a = a + ((s.drop a).takeWhile isD).length := rfl
    rw [hrI, hrD]
    generalize s.drop a = l at hd ⊢
    subst hd
    dsimp only [tokH]
    split
    · split
      · rfl
      · split
        · rfl
        · rfl
    · split
      · cases numV ((c :: s.drop (a + 1)).takeWhile isD) with
        | none => rfl
        | some n =>
          dsimp only
          by_cases h : ((c :: s.drop (a + 1)).takeWhile isI).length = ((c :: s.drop (a + 1)).takeWhile isD).length
          · rw [if_pos h, if_pos (by omega)]; rfl
          · rw [if_neg h, if_neg (by omega)]; rfl
      · split
        · rfl
        · rfl
/-- what is behind a token, another thing in its place -/
def stopI (X : List Nat) : Prop := ∀ c, X[0]? = some c → isI c = false
theorem take_stop {p : Nat → Bool} {X : List Nat} (hX : ∀ c, X[0]? = some c → p c = false) : ∀ l : List Nat, (l.takeWhile p ++ X).takeWhile p = l.takeWhile p := by
  intro l
  induction l with
  | nil =>
    cases X with
    | nil => rfl
    | cons c X => simp [List.takeWhile_cons, hX c rfl]
  | cons c l ih =>
    cases h : p c with
    | false =>
      cases X with
      | nil => simp [List.takeWhile_cons, h]
      | cons d X => simp [List.takeWhile_cons, h, hX d rfl]
    | true => simp [List.takeWhile_cons, h, ih]
theorem tokH_cut {l X : List Nat} {k n e : Nat} {t : List Nat} (h : tokH l = some (k, t, n, e)) (hX : stopI X) : tokH (l.take e ++ X) = some (k, t, n, e) ∧ 0 < e ∧ e ≤ l.length := by
  cases l with
  | nil => cases h
  | cons c l =>
    have hXD : ∀ d, X[0]? = some d → isD d = false := fun d hd => by
      have := hX d hd
      cases h2 : isD d with
      | false => rfl
      | true => rw [isD_isI d h2] at this; cases this
    have tI : (c :: l).take ((c :: l).takeWhile isI).length = (c :: l).takeWhile isI := (List.prefix_iff_eq_take.mp (List.takeWhile_prefix isI)).symm
    have tD : (c :: l).take ((c :: l).takeWhile isD).length = (c :: l).takeWhile isD := (List.prefix_iff_eq_take.mp (List.takeWhile_prefix isD)).symm
    have lI := (List.takeWhile_sublist (l := c :: l) isI).length_le
    have lD := (List.takeWhile_sublist (l := c :: l) isD).length_le
    have sI := take_stop hX (c :: l)
    have sD := take_stop hXD (c :: l)
    dsimp only [tokH] at h
    split at h
    · rename_i hL
      have hI : isI c = true := by unfold isI; rw [hL]; rfl
      have hw : (c :: l).takeWhile isI = c :: l.takeWhile isI := by simp [List.takeWhile_cons, hI]
      have hpos : 0 < ((c :: l).takeWhile isI).length := by rw [hw]; simp
      have key : ∀ e, e = ((c :: l).takeWhile isI).length → tokH ((c :: l).take e ++ X) = (if (c :: l).takeWhile isI ∈ wordsL then some (4, (c :: l).takeWhile isI, 0, ((c :: l).takeWhile isI).length) else if ((c :: l).takeWhile isI).length ≤ 16 then some (1, (c :: l).takeWhile isI, 0, ((c :: l).takeWhile isI).length) else none) := by
        rintro e rfl
        rw [tI]
        have : (c :: l).takeWhile isI ++ X = c :: (l.takeWhile isI ++ X) := by rw [hw]; rfl
        rw [this]
        dsimp only [tokH]
        rw [if_pos hL, ← this, sI]
      split at h
      · rename_i hwd
        cases h
        exact ⟨by rw [key _ rfl, if_pos hwd], hpos, lI⟩
      · rename_i hwd
        split at h
        · rename_i h16
          cases h
          exact ⟨by rw [key _ rfl, if_neg hwd, if_pos h16], hpos, lI⟩
        · cases h
    · rename_i hL
      split at h
      · rename_i hD
        have hw : (c :: l).takeWhile isD = c :: l.takeWhile isD := by simp [List.takeWhile_cons, hD]
        have hpos : 0 < ((c :: l).takeWhile isD).length := by rw [hw]; simp
        cases hn : numV ((c :: l).takeWhile isD) with
        | none => rw [hn] at h; cases h
        | some n' =>
          rw [hn] at h
          dsimp only at h
          split at h
          · rename_i hlen
            cases h
            refine ⟨?_, hpos, lD⟩
            rw [tD]
            have hID : (c :: l).takeWhile isI = (c :: l).takeWhile isD := by rw [← tI, ← tD, hlen]
            have : (c :: l).takeWhile isD ++ X = c :: (l.takeWhile isD ++ X) := by rw [hw]; rfl
            have sI' : ((c :: l).takeWhile isD ++ X).takeWhile isI = (c :: l).takeWhile isD := by rw [← hID]; exact sI
            rw [this]
            dsimp only [tokH]
            rw [if_neg hL, if_pos hD, ← this, sD, hn, sI']
            simp
          · cases h
      · rename_i hD
        split at h
        · rename_i hm
          cases h
          refine ⟨?_, by omega, by simp⟩
          show tokH (c :: X) = _
          dsimp only [tokH]
          rw [if_neg hL, if_neg hD, if_pos hm]
        · cases h
end LX

open Go Nm Go.Proofs
namespace LX
set_option linter.unusedSimpArgs false
set_option linter.unusedVariables false
def Tok.core (x : Tok) : Nat × List Nat × Nat := (x.k, x.t, x.n)
/-- the end of a token's piece -/
def nextP (b : List Nat) : List Tok → Nat
  | [] => b.length
  | y :: _ => y.p
/-- the text with more blanks -/
def blanked (b : List Nat) : List Tok → List (List Nat) → List Nat
  | [], _ => []
  | x :: l, [] => []
  | x :: l, f :: fs => f ++ (cut b x.p (nextP b l) ++ 10 :: blanked b l fs)
theorem toksL_hd {b : List Nat} {k a : Nat} (ha : a ≤ b.length) (h : (toksL b (k + 1) a).2 = none) : nextP b (toksL b (k + 1) a).1 = a := by
  rw [toksL] at h ⊢
  split
  · split at h
    · cases hk : tokS b a with
      | none => rw [hk] at h; cases h
      | some x => rfl
    · omega
  · show b.length = a; omega
theorem tokH_start {c : Nat} {l : List Nat} {x : Nat × List Nat × Nat × Nat} (h : tokH (c :: l) = some x) (X : List Nat) : cnt false (c :: X) = 0 := by
  have h1 : isB c = false ∧ c ≠ 35 := by
    dsimp only [tokH] at h
    cases hL : isL c with
    | true =>
      unfold isL at hL; rw [decide_eq_true_eq] at hL
      exact ⟨by unfold isB; rw [decide_eq_false_iff_not]; omega, by omega⟩
    | false =>
      cases hD : isD c with
      | true =>
        unfold isD at hD; rw [decide_eq_true_eq] at hD
        exact ⟨by unfold isB; rw [decide_eq_false_iff_not]; omega, by omega⟩
      | false =>
        rw [hL, hD] at h
        by_cases hm : c ∈ signsL
        · simp only [signsL, List.mem_cons, List.not_mem_nil, or_false] at hm
          exact ⟨by unfold isB; rw [decide_eq_false_iff_not]; omega, by omega⟩
        · simp [hm] at h
  show (if isB c then 1 + cnt false X else if c = 35 then 1 + cnt true X else 0) = 0
  rw [h1.1, if_neg h1.2]; rfl
theorem gap_stop (l X : List Nat) : stopI (l.take (cnt false l) ++ 10 :: X) := by
  intro c hc
  cases l with
  | nil => simp at hc; subst hc; rfl
  | cons d l =>
    have e : cnt false (d :: l) = if isB d then 1 + cnt false l else if d = 35 then 1 + cnt true l else 0 := rfl
    rw [e] at hc
    by_cases h1 : isB d = true
    · rw [if_pos h1, show 1 + cnt false l = cnt false l + 1 by omega, List.take_succ_cons] at hc
      simp at hc; subst hc
      unfold isB at h1; rw [decide_eq_true_eq] at h1
      unfold isI isL isD; simp; omega
    · rw [if_neg h1] at hc
      by_cases h2 : d = 35
      · rw [if_pos h2, show 1 + cnt true l = cnt true l + 1 by omega, List.take_succ_cons] at hc
        simp at hc; subst hc; subst h2; rfl
      · rw [if_neg h2] at hc
        simp at hc; subst hc; rfl
theorem blanks_main (b : List Nat) : ∀ (k a : Nat), b.length ≤ a + k → a ≤ b.length → (toksL b (k + 1) a).2 = none → ∀ (P : List Nat) (fs : List (List Nat)) (K : Nat), (∀ f ∈ fs, f ∈ fills) → (toksL b (k + 1) a).1.length ≤ fs.length →
    (P ++ blanked b (toksL b (k + 1) a).1 fs).length < P.length + K →
    (toksL (P ++ blanked b (toksL b (k + 1) a).1 fs) K (skipN (P ++ blanked b (toksL b (k + 1) a).1 fs) P.length)).2 = none ∧
    (toksL (P ++ blanked b (toksL b (k + 1) a).1 fs) K (skipN (P ++ blanked b (toksL b (k + 1) a).1 fs) P.length)).1.map Tok.core = (toksL b (k + 1) a).1.map Tok.core := by
  have fin : ∀ (P : List Nat) (fs : List (List Nat)) (K : Nat), (∀ f ∈ fs, f ∈ fills) → 1 ≤ fs.length → (P ++ blanked b [⟨5, [], 0, b.length⟩] fs).length < P.length + K →
      (toksL (P ++ blanked b [⟨5, [], 0, b.length⟩] fs) K (skipN (P ++ blanked b [⟨5, [], 0, b.length⟩] fs) P.length)).2 = none ∧
      (toksL (P ++ blanked b [⟨5, [], 0, b.length⟩] fs) K (skipN (P ++ blanked b [⟨5, [], 0, b.length⟩] fs) P.length)).1.map Tok.core = [(5, [], 0)] := by
    intro P fs K hfs hl hK
    cases fs with
    | nil => simp at hl
    | cons f fs =>
      have hbl : blanked b [⟨5, [], 0, b.length⟩] (f :: fs) = f ++ [10] := by
        show f ++ (cut b b.length b.length ++ 10 :: []) = _
        rw [cut_nil]; rfl
      rw [hbl] at hK ⊢
      have hs : skipN (P ++ (f ++ [10])) P.length = (P ++ (f ++ [10])).length := by
        unfold skipN
        rw [List.drop_left, cnt_fill f (hfs f (by simp)) [10]]
        show P.length + (f.length + 1) = _
        simp
      obtain ⟨K, rfl⟩ : ∃ K', K = K' + 1 := ⟨K - 1, by simp at hK; omega⟩
      rw [hs, toksL, if_neg (by omega)]
      exact ⟨rfl, rfl⟩
  intro k
  induction k with
  | zero =>
    intro a h1 h2 h3 P fs K hfs hl hK
    have e : toksL b 1 a = ([⟨5, [], 0, b.length⟩], none) := by rw [toksL, if_neg (by omega)]
    rw [e] at hl hK ⊢
    exact fin P fs K hfs hl hK
  | succ k ih =>
    intro a h1 h2 h3 P fs K hfs hl hK
    by_cases ha : a < b.length
    · cases hk : tokS b a with
      | none => rw [toksL, if_pos ha, hk] at h3; cases h3
      | some x =>
        obtain ⟨kd, t, n, e⟩ := x
        have eT : toksL b (k + 1 + 1) a = (⟨kd, t, n, a⟩ :: (toksL b (k + 1) (skipN b e)).1, (toksL b (k + 1) (skipN b e)).2) := by
          rw [toksL, if_pos ha, hk]
        rw [eT] at h3 hl hK ⊢
        obtain ⟨l1, l2⟩ := tokS_e hk
        have hsk := skipN_le (s := b) (a := e) l2
        have hge : e ≤ skipN b e := skipN_ge
        cases fs with
        | nil => simp at hl
        | cons f fs =>
          have hnp := toksL_hd hsk h3
          have IH := ih (skipN b e) (by omega) hsk h3
          generalize hR : (toksL b (k + 1) (skipN b e)).1 = R at hnp hl hK IH ⊢
          have hbl : blanked b (⟨kd, t, n, a⟩ :: R) (f :: fs) = f ++ (cut b a (skipN b e) ++ 10 :: blanked b R fs) := by
            show f ++ (cut b a (nextP b R) ++ _) = _
            rw [hnp]
          rw [hbl] at hK ⊢
          generalize hrest : blanked b R fs = rest at hK IH ⊢
          rw [tokS_H] at hk
          obtain ⟨⟨kd', t', n', len⟩, hy, hy2⟩ := Option.map_eq_some_iff.mp hk
          simp only [Prod.mk.injEq] at hy2
          obtain ⟨rfl, rfl, rfl, he⟩ := hy2
          generalize hg : cnt false (b.drop e) = g
          have hsn : skipN b e = e + g := by unfold skipN; rw [hg]
          generalize hG : (b.drop e).take g = G
          have hgl : g ≤ (b.drop e).length := by rw [← hg]; exact cnt_le _ _
          have hGl : G.length = g := by rw [← hG, List.length_take]; omega
          have hst : stopI (G ++ 10 :: rest) := by rw [← hG, ← hg]; exact gap_stop _ _
          obtain ⟨u1, u2, u3⟩ := tokH_cut hy hst
          have hcut : cut b a (skipN b e) ++ 10 :: rest = (b.drop a).take len ++ (G ++ 10 :: rest) := by
            unfold cut
            rw [List.drop_take, hsn, show e + g - a = len + g by omega, List.take_add, List.drop_drop, show a + len = e by omega, hG, List.append_assoc]
          rw [hcut] at hK ⊢
          have hll : ((b.drop a).take len).length = len := by rw [List.length_take]; omega
          generalize (b.drop a).take len = w at u1 hll hK ⊢
          have h0 : cnt false (w ++ (G ++ 10 :: rest)) = 0 := by
            cases hw : w ++ (G ++ 10 :: rest) with
            | nil => rw [hw] at u1; cases u1
            | cons c X => rw [hw] at u1; exact tokH_start u1 X
          have hG1 : cnt false (G ++ 10 :: rest) = g + 1 + cnt false rest := by
            have := cnt_cut (b.drop e) false rest
            rw [hg, hG] at this; exact this
          have s1 : skipN (P ++ (f ++ (w ++ (G ++ 10 :: rest)))) P.length = P.length + f.length := by
            unfold skipN
            rw [List.drop_left, cnt_fill f (hfs f (by simp)), h0]; rfl
          have eS1 : P ++ (f ++ (w ++ (G ++ 10 :: rest))) = (P ++ f) ++ (w ++ (G ++ 10 :: rest)) := by simp
          have eS2 : P ++ (f ++ (w ++ (G ++ 10 :: rest))) = (P ++ f ++ w) ++ (G ++ 10 :: rest) := by simp
          have eS3 : P ++ (f ++ (w ++ (G ++ 10 :: rest))) = (P ++ f ++ w ++ G ++ [10]) ++ rest := by simp
          have hlen : (P ++ (f ++ (w ++ (G ++ 10 :: rest)))).length = P.length + f.length + len + g + 1 + rest.length := by
            simp only [List.length_append, List.length_cons, hll, hGl]; omega
          have s2 : tokS (P ++ (f ++ (w ++ (G ++ 10 :: rest)))) (P.length + f.length) = some (kd', t', n', P.length + f.length + len) := by
            rw [tokS_H]
            have : (P ++ (f ++ (w ++ (G ++ 10 :: rest)))).drop (P.length + f.length) = w ++ (G ++ 10 :: rest) := by
              rw [eS1, ← List.length_append, List.drop_left]
            rw [this, u1]; rfl
          have s3 : skipN (P ++ (f ++ (w ++ (G ++ 10 :: rest)))) (P.length + f.length + len) = P.length + f.length + len + (g + 1 + cnt false rest) := by
            unfold skipN
            have : (P ++ (f ++ (w ++ (G ++ 10 :: rest)))).drop (P.length + f.length + len) = G ++ 10 :: rest := by
              rw [eS2, show P.length + f.length + len = (P ++ f ++ w).length by simp only [List.length_append, hll], List.drop_left]
            rw [this, hG1]
          have hP' : (P ++ f ++ w ++ G ++ [10]).length = P.length + f.length + len + g + 1 := by
            simp only [List.length_append, List.length_cons, List.length_nil, hll, hGl]
          have s4 : skipN (P ++ (f ++ (w ++ (G ++ 10 :: rest)))) (P ++ f ++ w ++ G ++ [10]).length = P.length + f.length + len + (g + 1 + cnt false rest) := by
            unfold skipN
            rw [eS3, List.drop_left, hP']; omega
          rw [hlen] at hK
          obtain ⟨K, rfl⟩ : ∃ K', K = K' + 1 := ⟨K - 1, by omega⟩
          have IH2 := IH (P ++ f ++ w ++ G ++ [10]) fs K (fun f hf => hfs f (by simp [hf])) (by simp at hl; omega) (by rw [hrest, ← eS3, hlen, hP']; omega)
          rw [hrest, ← eS3, s4] at IH2
          rw [s1, toksL, if_pos (by rw [hlen]; omega), s2]
          dsimp only
          rw [s3]
          refine ⟨IH2.1, ?_⟩
          rw [List.map_cons, List.map_cons, IH2.2]
          rfl
    · have e : toksL b (k + 1 + 1) a = ([⟨5, [], 0, b.length⟩], none) := by rw [toksL, if_neg ha]
      rw [e] at hl hK ⊢
      exact fin P fs K hfs hl hK
/-- more blanks turn nothing but places -/
theorem blanks_law {b : List Nat} (h : (toks b).2 = none) {fs : List (List Nat)} (hfs : ∀ f ∈ fs, f ∈ fills) (hl : (toks b).1.length ≤ fs.length) :
    (toks (blanked b (toks b).1 fs)).2 = none ∧ (toks (blanked b (toks b).1 fs)).1.map Tok.core = (toks b).1.map Tok.core := by
  have := blanks_main b b.length (skipN b 0) (by omega) (skipN_le (Nat.zero_le _)) h [] fs ((blanked b (toks b).1 fs).length + 1) hfs hl (by rw [List.nil_append, List.length_nil, Nat.zero_add]; exact Nat.lt_succ_self _)
  exact this
end LX



open Go Nm Go.Proofs
namespace LX
set_option linter.unusedSimpArgs false
set_option linter.unusedVariables false
set_option maxHeartbeats 4000000 in
theorem and1023 (z : Int) : ∃ r : Nat, r < 1024 ∧ binV .num .and (ii z) (ii 1023) = some (ii r) := by
  have hB : ∃ r : Nat, r < 1024 ∧ bitsB .and .i64 z 1023 = some (ii r) := by
    refine ⟨(BitVec.ofInt 64 z &&& BitVec.ofInt 64 1023).toNat, ?_, ?_⟩
    · rw [BitVec.toNat_and]
      have : (BitVec.ofInt 64 1023).toNat = 1023 := by decide
      rw [this]
      exact Nat.lt_succ_of_le Nat.and_le_right
    · have hr : (BitVec.ofInt 64 z &&& BitVec.ofInt 64 1023).toNat < 1024 := by
        rw [BitVec.toNat_and]
        have : (BitVec.ofInt 64 1023).toNat = 1023 := by decide
        rw [this]
        exact Nat.lt_succ_of_le Nat.and_le_right
      show intV .i64 (IntKind.wrap .i64 ((BitVec.ofInt 64 z &&& BitVec.ofInt 64 1023).toNat : Int)) = _
      rw [← wrapI_eq, Nm.wrap_small (by omega) (by omega), intV_eq]
  obtain ⟨r0, hr0, hb⟩ := hB
  have key : bitsI .and .i64 z 1023 = some (ii r0) ∨ ∃ a : Nat, z = a ∧ a < 9223372036854775808 := by
    cases z with
    | negSucc n => left; rw [← hb]; rfl
    | ofNat a =>
      by_cases h : a < 9223372036854775808
      · right; exact ⟨a, rfl, h⟩
      · left
        rw [← hb]
        show cond (Nat.ble (Nat.succ a) 9223372036854775808) _ (bitsB .and .i64 (.ofNat a) (.ofNat 1023)) = _
        rw [show Nat.ble (Nat.succ a) 9223372036854775808 = false from by
          cases hh : Nat.ble (Nat.succ a) 9223372036854775808 with
          | false => rfl
          | true => have := Nat.le_of_ble_eq_true hh; omega]
        rfl
  rcases key with h | ⟨a, rfl, h⟩
  · exact ⟨r0, hr0, (b_of rfl).trans h⟩
  · refine ⟨a &&& 1023, Nat.lt_succ_of_le Nat.and_le_right, (b_of rfl).trans ?_⟩
    show cond (Nat.ble (Nat.succ a) 9223372036854775808) (cond (Nat.ble (Nat.succ 1023) 9223372036854775808) (intV .i64 (.ofNat (Nat.land a 1023))) _) _ = _
    rw [show Nat.ble (Nat.succ a) 9223372036854775808 = true from Nat.ble_eq_true_of_le h]
    show intV .i64 (.ofNat (Nat.land a 1023)) = _
    rw [intV_eq]; rfl
set_option maxHeartbeats 4000000 in
theorem rem5 (r : Nat) : binV .num .rem (ii r) (ii 5) = some (ii ((r % 5 : Nat) : Int)) := by
  refine (b_of rfl).trans ?_
  show intV .i64 (.ofNat (Nat.mod r 5)) = _
  rw [intV_eq]; rfl
end LX

open Go Nm Go.Proofs
namespace LX
set_option linter.unusedSimpArgs false
set_option linter.unusedVariables false
noncomputable def g5 (z : Int) : Nat := Classical.choose (and1023 z)
theorem g5_and (z : Int) : binV .num .and (ii z) (ii 1023) = some (ii (g5 z)) := (Classical.choose_spec (and1023 z)).2
noncomputable def fillOf (z : Int) : List Nat := (fills[g5 z % 5]?).getD []
theorem fill_at (z : Int) : fills[g5 z % 5]? = some (fillOf z) := by
  unfold fillOf
  have : g5 z % 5 < fills.length := by show _ < 5; omega
  rw [List.getElem?_eq_getElem this]; rfl
theorem fill_mem (z : Int) : fillOf z ∈ fills := List.mem_of_getElem? (fill_at z)
theorem fill_len (z : Int) : (fillOf z).length ≤ 6 := by
  have h := fill_mem z
  simp only [fills, List.mem_cons, List.not_mem_nil, or_false] at h
  rcases h with h | h | h | h | h <;> rw [h] <;> simp
set_option maxHeartbeats 4000000 in
theorem bl_l1 {m : NH} {b : List Nat} {zs : List Int} {L : List Tok} {v vg u vf : NV} (hl : b.length ≤ 1500) (hb : ∀ c ∈ b, c < 256) (hv : Sl m v 1 (Byt b)) (hg : Sl m vg 1 (zs.map fun z => [ii z])) (hu : Sl m u 4 (L.map Tok.l)) (hf : Sl m vf 1 (Strs fills)) (hz : L.length ≤ zs.length) (hL : L.length ≤ 400) (w0 : Int) (hok : okL b w0 L) {t : Tm}
    (g1 : NT.get D4.e t = some v) (g2 : NT.get D4.e.a t = some vg) (g3 : NT.get D4.e.a.b t = some u) (g4 : NT.get D4.e.b.a t = some vf) (g5' : NT.get D4.e.b.b t = some (.str [])) (g6 : NT.get D4.e.b.c t = some (ii 0)) {Q : Out → Dyn → Prop}
    (hQ : ∀ L' t', NT.get D4.e.a.b (puts L' t') = some u → NT.get D4.e.b.b (puts L' t') = some (.str (blanked b L (zs.map fillOf))) → Q (.exit 0) ⟨puts L' t', [], none, m⟩) :
    W Try.prog S0 none nf7_l1.loop ⟨t, [], none, m⟩ Q := by
  have hlen := hv.len
  rw [show (Byt b).length = b.length by simp] at hlen
  have hlu := hu.len
  rw [List.length_map] at hlu
  refine W.loop (fun k d => ∃ t i s w, d = ⟨t, [], none, m⟩ ∧ NT.get D4.e t = some v ∧ NT.get D4.e.a t = some vg ∧ NT.get D4.e.a.b t = some u ∧ NT.get D4.e.b.a t = some vf ∧ NT.get D4.e.b.b t = some (.str s) ∧ NT.get D4.e.b.c t = some (ii (i : Nat)) ∧ okL b w (L.drop i) ∧ s.length ≤ i * 2000 ∧ s ++ blanked b (L.drop i) ((zs.map fillOf).drop i) = blanked b L (zs.map fillOf) ∧ i + k = L.length) ?_ L.length _ ⟨_, 0, [], w0, rfl, g1, g2, g3, g4, g5', g6, hok, by simp, rfl, by omega⟩
  rintro k d ⟨t, i, s, w, rfl, g1, g2, g3, g4, g5', g6, hok, hsl, hS, hik⟩
  apply wp_sound
  unfold nf7_l1
  change wp _ _ _ _ ⟨puts [] t, [], none, m⟩ _
  by_cases hi : i < L.length
  · obtain ⟨id, off, wr, c, a1, a2, a3, a4, a5⟩ := hu.at i (by simpa using hi)
    rw [List.getElem_map] at a5
    have c3 := cell_at a5 3 (by omega)
    obtain ⟨id2, off2, wr2, c2, b1, b2, b3, b4, b5⟩ := hg.at i (by simp; omega)
    rw [List.getElem_map] at b5
    have d0 := cell_at b5 0 (by omega)
    rw [Nat.add_zero] at d0
    rw [List.drop_eq_getElem_cons hi] at hok hS
    have hif : i < (zs.map fillOf).length := by rw [List.length_map]; omega
    rw [List.drop_eq_getElem_cons hif, List.getElem_map] at hS
    obtain ⟨ok1, ok2, -, -, -, ok6⟩ := hok
    have c3 : c[off + 3]? = some (ii (L[i]).p) := c3
    have d0 : c2[off2]? = some (ii zs[i]) := d0
    obtain ⟨id6, off6, wr6, c6, h1, h2, h3, h4, h5⟩ := hf.at (g5 zs[i] % 5) (by rw [List.length_map]; show _ < 5; omega)
    rw [List.getElem_map] at h5
    have k0 : c6[off6]? = some (.str (fillOf zs[i])) := by
      have h0 := cell_at h5 0 (by omega)
      rw [Nat.add_zero] at h0
      rw [h0]
      have := fill_at zs[i]
      rw [List.getElem?_eq_getElem (by show _ < 5; omega), Option.some.injEq] at this
      rw [this]; rfl
    have hfl := fill_len zs[i]
    have hl10 : ([10] : List Nat).length = 1 := rfl
    have fin : ∀ to : Nat, to = nextP b (L.drop (i + 1)) → L[i].p ≤ to → to ≤ b.length → (s ++ fillOf zs[i] ++ cut b L[i].p to ++ [10]).length ≤ (i + 1) * 2000 ∧ s ++ fillOf zs[i] ++ cut b L[i].p to ++ [10] ++ blanked b (L.drop (i + 1)) ((zs.map fillOf).drop (i + 1)) = blanked b L (zs.map fillOf) := by
      intro to hto q1 q2
      refine ⟨?_, ?_⟩
      · have := cut_len (a := L[i].p) q2
        simp only [List.length_append, List.length_cons, List.length_nil, this]; omega
      · rw [← hS]
        show _ = s ++ (fillOf zs[i] ++ (cut b L[i].p (nextP b (L.drop (i + 1))) ++ 10 :: _))
        rw [← hto]; simp
    by_cases hn : i + 1 < L.length
    · obtain ⟨id4, off4, wr4, c4, e1, e2, e3, e4, e5⟩ := hu.at (i + 1) (by simpa using hn)
      rw [List.getElem_map] at e5
      have f3 : c4[off4 + 3]? = some (ii (L[i + 1]).p) := cell_at e5 3 (by omega)
      have e1 : idxV 4 u (.int .i64 (.lit ((i : Int) + 1))) = .val (.ptr id4 off4) := by
        have h : ((i + 1 : Nat) : Int) = (i : Int) + 1 := by omega
        rw [← h]; exact e1
      have hdr := List.drop_eq_getElem_cons hn
      have ok7 := ok6
      rw [hdr] at ok7
      have q1 : L[i].p ≤ L[i + 1].p := by have := ok7.1; omega
      have q2 : L[i + 1].p ≤ b.length := ok7.2.1
      have hcl := cut_len (s := b) (a := L[i].p) (e := L[i + 1].p) q2
      obtain ⟨fin1, fin2⟩ := fin L[i + 1].p (by rw [hdr]; rfl) q1 q2
      simp (config := { maxSteps := 1000000 }) (disch := (first | assumption | omega | exact Nm.old_n (by omega) | exact Nm.old_hp (by assumption) | (simp only [List.length_set, List.length_cons, List.length_nil, List.length_append, List.length_map, List.length_replicate] <;> omega))) only [nmS0, nmS1, nmS2, nmS3, nmS4, nmS5, nmS6, nmS7, Nat.testBit, Nat.reduceShiftRight, Nat.reduceAnd, Nat.reduceBNe, cond_true, cond_false, NT.get_leaf, Nat.reduceSub, d_true, d_false, clsOf, beq_self_eq_true, Int.reduceToNat, Nat.reduceAdd, Nat.reduceMul, Nat.reduceEqDiff, decide_true, decide_false, if_true, if_false, ite_true, ite_false, reduceIte, reduceCtorEq, eq_self, true_and, and_true, true_implies, e1, e2, f3, h1, h2, k0, g1, g2, g3, g4, g5', g6, hlen, hlu, a1, a2, c3, b1, b2, d0, g5_and, rem5]
      refine wX_ssl (a := L[i].p) (b := L[i + 1].p) hv q1 (by simpa using q2) ?_ ?_ ?_
      · intro K; simp (config := { maxSteps := 1000000 }) (disch := (first | assumption | omega | exact Nm.old_n (by omega) | exact Nm.old_hp (by assumption) | (simp only [List.length_set, List.length_cons, List.length_nil, List.length_append, List.length_map, List.length_replicate] <;> omega))) only [nmS0, nmS1, nmS2, nmS3, nmS4, nmS5, nmS6, nmS7, Nat.testBit, Nat.reduceShiftRight, Nat.reduceAnd, Nat.reduceBNe, cond_true, cond_false, NT.get_leaf, Nat.reduceSub, d_true, d_false, clsOf, beq_self_eq_true, Int.reduceToNat, Nat.reduceAdd, Nat.reduceMul, Nat.reduceEqDiff, decide_true, decide_false, if_true, if_false, ite_true, ite_false, reduceIte, reduceCtorEq, eq_self, true_and, and_true, true_implies]
      · intro d K hd; simp (config := { maxSteps := 1000000 }) (disch := (first | assumption | omega | exact Nm.old_n (by omega) | exact Nm.old_hp (by assumption) | (simp only [List.length_set, List.length_cons, List.length_nil, List.length_append, List.length_map, List.length_replicate] <;> omega))) only [nmS0, nmS1, nmS2, nmS3, nmS4, nmS5, nmS6, nmS7, Nat.testBit, Nat.reduceShiftRight, Nat.reduceAnd, Nat.reduceBNe, cond_true, cond_false, NT.get_leaf, Nat.reduceSub, d_true, d_false, clsOf, beq_self_eq_true, Int.reduceToNat, Nat.reduceAdd, Nat.reduceMul, Nat.reduceEqDiff, decide_true, decide_false, if_true, if_false, ite_true, ite_false, reduceIte, reduceCtorEq, eq_self, true_and, and_true, true_implies]
      intro v' hv'
      rw [byt_cut'] at hv'
      have hbt := hv'.bts (fun c hc => hb c (List.mem_of_mem_take (List.mem_of_mem_drop hc)))
      have hl1 : (s ++ fillOf zs[i]).length = s.length + (fillOf zs[i]).length := List.length_append
      have hl2 : (s ++ fillOf zs[i] ++ cut b L[i].p (L[i + 1].p)).length = s.length + (fillOf zs[i]).length + (L[i + 1].p - L[i].p) := by rw [List.length_append, hl1, hcl]
      simp (config := { maxSteps := 1000000 }) (disch := (first | assumption | omega | exact Nm.old_n (by omega) | exact Nm.old_hp (by assumption) | (simp only [List.length_set, List.length_cons, List.length_nil, List.length_append, List.length_map, List.length_replicate] <;> omega))) only [nmS0, nmS1, nmS2, nmS3, nmS4, nmS5, nmS6, nmS7, Nat.testBit, Nat.reduceShiftRight, Nat.reduceAnd, Nat.reduceBNe, cond_true, cond_false, NT.get_leaf, Nat.reduceSub, d_true, d_false, clsOf, beq_self_eq_true, Int.reduceToNat, Nat.reduceAdd, Nat.reduceMul, Nat.reduceEqDiff, decide_true, decide_false, if_true, if_false, ite_true, ite_false, reduceIte, reduceCtorEq, eq_self, true_and, and_true, true_implies, g1, g2, g3, g4, g5', g6, hbt, hl1, hl2, hl10, hcl]
      refine ⟨k - 1, by omega, _, i + 1, _, _, rfl, ?_, ?_, ?_, ?_, ?_, ?_, ok6, fin1, fin2, by omega⟩
      · simp (config := { maxSteps := 1000000 }) (disch := (first | assumption | omega | exact Nm.old_n (by omega) | exact Nm.old_hp (by assumption) | (simp only [List.length_set, List.length_cons, List.length_nil, List.length_append, List.length_map, List.length_replicate] <;> omega))) only [nmS0, nmS1, nmS2, nmS3, nmS4, nmS5, nmS6, nmS7, Nat.testBit, Nat.reduceShiftRight, Nat.reduceAnd, Nat.reduceBNe, cond_true, cond_false, NT.get_leaf, Nat.reduceSub, d_true, d_false, clsOf, beq_self_eq_true, Int.reduceToNat, Nat.reduceAdd, Nat.reduceMul, Nat.reduceEqDiff, decide_true, decide_false, if_true, if_false, ite_true, ite_false, reduceIte, reduceCtorEq, eq_self, true_and, and_true, true_implies, g1]
      · simp (config := { maxSteps := 1000000 }) (disch := (first | assumption | omega | exact Nm.old_n (by omega) | exact Nm.old_hp (by assumption) | (simp only [List.length_set, List.length_cons, List.length_nil, List.length_append, List.length_map, List.length_replicate] <;> omega))) only [nmS0, nmS1, nmS2, nmS3, nmS4, nmS5, nmS6, nmS7, Nat.testBit, Nat.reduceShiftRight, Nat.reduceAnd, Nat.reduceBNe, cond_true, cond_false, NT.get_leaf, Nat.reduceSub, d_true, d_false, clsOf, beq_self_eq_true, Int.reduceToNat, Nat.reduceAdd, Nat.reduceMul, Nat.reduceEqDiff, decide_true, decide_false, if_true, if_false, ite_true, ite_false, reduceIte, reduceCtorEq, eq_self, true_and, and_true, true_implies, g2]
      · simp (config := { maxSteps := 1000000 }) (disch := (first | assumption | omega | exact Nm.old_n (by omega) | exact Nm.old_hp (by assumption) | (simp only [List.length_set, List.length_cons, List.length_nil, List.length_append, List.length_map, List.length_replicate] <;> omega))) only [nmS0, nmS1, nmS2, nmS3, nmS4, nmS5, nmS6, nmS7, Nat.testBit, Nat.reduceShiftRight, Nat.reduceAnd, Nat.reduceBNe, cond_true, cond_false, NT.get_leaf, Nat.reduceSub, d_true, d_false, clsOf, beq_self_eq_true, Int.reduceToNat, Nat.reduceAdd, Nat.reduceMul, Nat.reduceEqDiff, decide_true, decide_false, if_true, if_false, ite_true, ite_false, reduceIte, reduceCtorEq, eq_self, true_and, and_true, true_implies, g3]
      · simp (config := { maxSteps := 1000000 }) (disch := (first | assumption | omega | exact Nm.old_n (by omega) | exact Nm.old_hp (by assumption) | (simp only [List.length_set, List.length_cons, List.length_nil, List.length_append, List.length_map, List.length_replicate] <;> omega))) only [nmS0, nmS1, nmS2, nmS3, nmS4, nmS5, nmS6, nmS7, Nat.testBit, Nat.reduceShiftRight, Nat.reduceAnd, Nat.reduceBNe, cond_true, cond_false, NT.get_leaf, Nat.reduceSub, d_true, d_false, clsOf, beq_self_eq_true, Int.reduceToNat, Nat.reduceAdd, Nat.reduceMul, Nat.reduceEqDiff, decide_true, decide_false, if_true, if_false, ite_true, ite_false, reduceIte, reduceCtorEq, eq_self, true_and, and_true, true_implies, g4]
      · simp (config := { maxSteps := 1000000 }) (disch := (first | assumption | omega | exact Nm.old_n (by omega) | exact Nm.old_hp (by assumption) | (simp only [List.length_set, List.length_cons, List.length_nil, List.length_append, List.length_map, List.length_replicate] <;> omega))) only [nmS0, nmS1, nmS2, nmS3, nmS4, nmS5, nmS6, nmS7, Nat.testBit, Nat.reduceShiftRight, Nat.reduceAnd, Nat.reduceBNe, cond_true, cond_false, NT.get_leaf, Nat.reduceSub, d_true, d_false, clsOf, beq_self_eq_true, Int.reduceToNat, Nat.reduceAdd, Nat.reduceMul, Nat.reduceEqDiff, decide_true, decide_false, if_true, if_false, ite_true, ite_false, reduceIte, reduceCtorEq, eq_self, true_and, and_true, true_implies]
      · simp (config := { maxSteps := 1000000 }) (disch := (first | assumption | omega | exact Nm.old_n (by omega) | exact Nm.old_hp (by assumption) | (simp only [List.length_set, List.length_cons, List.length_nil, List.length_append, List.length_map, List.length_replicate] <;> omega))) only [nmS0, nmS1, nmS2, nmS3, nmS4, nmS5, nmS6, nmS7, Nat.testBit, Nat.reduceShiftRight, Nat.reduceAnd, Nat.reduceBNe, cond_true, cond_false, NT.get_leaf, Nat.reduceSub, d_true, d_false, clsOf, beq_self_eq_true, Int.reduceToNat, Nat.reduceAdd, Nat.reduceMul, Nat.reduceEqDiff, decide_true, decide_false, if_true, if_false, ite_true, ite_false, reduceIte, reduceCtorEq, eq_self, true_and, and_true, true_implies]; rfl
    · have hdr : L.drop (i + 1) = [] := List.drop_eq_nil_of_le (by omega)
      have q2 : b.length ≤ b.length := Nat.le_refl _
      have hcl := cut_len (s := b) (a := L[i].p) (e := b.length) q2
      obtain ⟨fin1, fin2⟩ := fin b.length (by rw [hdr]; rfl) ok2 q2
      simp (config := { maxSteps := 1000000 }) (disch := (first | assumption | omega | exact Nm.old_n (by omega) | exact Nm.old_hp (by assumption) | (simp only [List.length_set, List.length_cons, List.length_nil, List.length_append, List.length_map, List.length_replicate] <;> omega))) only [nmS0, nmS1, nmS2, nmS3, nmS4, nmS5, nmS6, nmS7, Nat.testBit, Nat.reduceShiftRight, Nat.reduceAnd, Nat.reduceBNe, cond_true, cond_false, NT.get_leaf, Nat.reduceSub, d_true, d_false, clsOf, beq_self_eq_true, Int.reduceToNat, Nat.reduceAdd, Nat.reduceMul, Nat.reduceEqDiff, decide_true, decide_false, if_true, if_false, ite_true, ite_false, reduceIte, reduceCtorEq, eq_self, true_and, and_true, true_implies, h1, h2, k0, g1, g2, g3, g4, g5', g6, hlen, hlu, a1, a2, c3, b1, b2, d0, g5_and, rem5]
      refine wX_ssl (a := L[i].p) (b := b.length) hv ok2 (by simp) ?_ ?_ ?_
      · intro K; simp (config := { maxSteps := 1000000 }) (disch := (first | assumption | omega | exact Nm.old_n (by omega) | exact Nm.old_hp (by assumption) | (simp only [List.length_set, List.length_cons, List.length_nil, List.length_append, List.length_map, List.length_replicate] <;> omega))) only [nmS0, nmS1, nmS2, nmS3, nmS4, nmS5, nmS6, nmS7, Nat.testBit, Nat.reduceShiftRight, Nat.reduceAnd, Nat.reduceBNe, cond_true, cond_false, NT.get_leaf, Nat.reduceSub, d_true, d_false, clsOf, beq_self_eq_true, Int.reduceToNat, Nat.reduceAdd, Nat.reduceMul, Nat.reduceEqDiff, decide_true, decide_false, if_true, if_false, ite_true, ite_false, reduceIte, reduceCtorEq, eq_self, true_and, and_true, true_implies]
      · intro d K hd; simp (config := { maxSteps := 1000000 }) (disch := (first | assumption | omega | exact Nm.old_n (by omega) | exact Nm.old_hp (by assumption) | (simp only [List.length_set, List.length_cons, List.length_nil, List.length_append, List.length_map, List.length_replicate] <;> omega))) only [nmS0, nmS1, nmS2, nmS3, nmS4, nmS5, nmS6, nmS7, Nat.testBit, Nat.reduceShiftRight, Nat.reduceAnd, Nat.reduceBNe, cond_true, cond_false, NT.get_leaf, Nat.reduceSub, d_true, d_false, clsOf, beq_self_eq_true, Int.reduceToNat, Nat.reduceAdd, Nat.reduceMul, Nat.reduceEqDiff, decide_true, decide_false, if_true, if_false, ite_true, ite_false, reduceIte, reduceCtorEq, eq_self, true_and, and_true, true_implies]
      intro v' hv'
      rw [byt_cut'] at hv'
      have hbt := hv'.bts (fun c hc => hb c (List.mem_of_mem_take (List.mem_of_mem_drop hc)))
      have hl1 : (s ++ fillOf zs[i]).length = s.length + (fillOf zs[i]).length := List.length_append
      have hl2 : (s ++ fillOf zs[i] ++ cut b L[i].p (b.length)).length = s.length + (fillOf zs[i]).length + (b.length - L[i].p) := by rw [List.length_append, hl1, hcl]
      simp (config := { maxSteps := 1000000 }) (disch := (first | assumption | omega | exact Nm.old_n (by omega) | exact Nm.old_hp (by assumption) | (simp only [List.length_set, List.length_cons, List.length_nil, List.length_append, List.length_map, List.length_replicate] <;> omega))) only [nmS0, nmS1, nmS2, nmS3, nmS4, nmS5, nmS6, nmS7, Nat.testBit, Nat.reduceShiftRight, Nat.reduceAnd, Nat.reduceBNe, cond_true, cond_false, NT.get_leaf, Nat.reduceSub, d_true, d_false, clsOf, beq_self_eq_true, Int.reduceToNat, Nat.reduceAdd, Nat.reduceMul, Nat.reduceEqDiff, decide_true, decide_false, if_true, if_false, ite_true, ite_false, reduceIte, reduceCtorEq, eq_self, true_and, and_true, true_implies, g1, g2, g3, g4, g5', g6, hbt, hl1, hl2, hl10, hcl]
      refine ⟨k - 1, by omega, _, i + 1, _, _, rfl, ?_, ?_, ?_, ?_, ?_, ?_, ok6, fin1, fin2, by omega⟩
      · simp (config := { maxSteps := 1000000 }) (disch := (first | assumption | omega | exact Nm.old_n (by omega) | exact Nm.old_hp (by assumption) | (simp only [List.length_set, List.length_cons, List.length_nil, List.length_append, List.length_map, List.length_replicate] <;> omega))) only [nmS0, nmS1, nmS2, nmS3, nmS4, nmS5, nmS6, nmS7, Nat.testBit, Nat.reduceShiftRight, Nat.reduceAnd, Nat.reduceBNe, cond_true, cond_false, NT.get_leaf, Nat.reduceSub, d_true, d_false, clsOf, beq_self_eq_true, Int.reduceToNat, Nat.reduceAdd, Nat.reduceMul, Nat.reduceEqDiff, decide_true, decide_false, if_true, if_false, ite_true, ite_false, reduceIte, reduceCtorEq, eq_self, true_and, and_true, true_implies, g1]
      · simp (config := { maxSteps := 1000000 }) (disch := (first | assumption | omega | exact Nm.old_n (by omega) | exact Nm.old_hp (by assumption) | (simp only [List.length_set, List.length_cons, List.length_nil, List.length_append, List.length_map, List.length_replicate] <;> omega))) only [nmS0, nmS1, nmS2, nmS3, nmS4, nmS5, nmS6, nmS7, Nat.testBit, Nat.reduceShiftRight, Nat.reduceAnd, Nat.reduceBNe, cond_true, cond_false, NT.get_leaf, Nat.reduceSub, d_true, d_false, clsOf, beq_self_eq_true, Int.reduceToNat, Nat.reduceAdd, Nat.reduceMul, Nat.reduceEqDiff, decide_true, decide_false, if_true, if_false, ite_true, ite_false, reduceIte, reduceCtorEq, eq_self, true_and, and_true, true_implies, g2]
      · simp (config := { maxSteps := 1000000 }) (disch := (first | assumption | omega | exact Nm.old_n (by omega) | exact Nm.old_hp (by assumption) | (simp only [List.length_set, List.length_cons, List.length_nil, List.length_append, List.length_map, List.length_replicate] <;> omega))) only [nmS0, nmS1, nmS2, nmS3, nmS4, nmS5, nmS6, nmS7, Nat.testBit, Nat.reduceShiftRight, Nat.reduceAnd, Nat.reduceBNe, cond_true, cond_false, NT.get_leaf, Nat.reduceSub, d_true, d_false, clsOf, beq_self_eq_true, Int.reduceToNat, Nat.reduceAdd, Nat.reduceMul, Nat.reduceEqDiff, decide_true, decide_false, if_true, if_false, ite_true, ite_false, reduceIte, reduceCtorEq, eq_self, true_and, and_true, true_implies, g3]
      · simp (config := { maxSteps := 1000000 }) (disch := (first | assumption | omega | exact Nm.old_n (by omega) | exact Nm.old_hp (by assumption) | (simp only [List.length_set, List.length_cons, List.length_nil, List.length_append, List.length_map, List.length_replicate] <;> omega))) only [nmS0, nmS1, nmS2, nmS3, nmS4, nmS5, nmS6, nmS7, Nat.testBit, Nat.reduceShiftRight, Nat.reduceAnd, Nat.reduceBNe, cond_true, cond_false, NT.get_leaf, Nat.reduceSub, d_true, d_false, clsOf, beq_self_eq_true, Int.reduceToNat, Nat.reduceAdd, Nat.reduceMul, Nat.reduceEqDiff, decide_true, decide_false, if_true, if_false, ite_true, ite_false, reduceIte, reduceCtorEq, eq_self, true_and, and_true, true_implies, g4]
      · simp (config := { maxSteps := 1000000 }) (disch := (first | assumption | omega | exact Nm.old_n (by omega) | exact Nm.old_hp (by assumption) | (simp only [List.length_set, List.length_cons, List.length_nil, List.length_append, List.length_map, List.length_replicate] <;> omega))) only [nmS0, nmS1, nmS2, nmS3, nmS4, nmS5, nmS6, nmS7, Nat.testBit, Nat.reduceShiftRight, Nat.reduceAnd, Nat.reduceBNe, cond_true, cond_false, NT.get_leaf, Nat.reduceSub, d_true, d_false, clsOf, beq_self_eq_true, Int.reduceToNat, Nat.reduceAdd, Nat.reduceMul, Nat.reduceEqDiff, decide_true, decide_false, if_true, if_false, ite_true, ite_false, reduceIte, reduceCtorEq, eq_self, true_and, and_true, true_implies]
      · simp (config := { maxSteps := 1000000 }) (disch := (first | assumption | omega | exact Nm.old_n (by omega) | exact Nm.old_hp (by assumption) | (simp only [List.length_set, List.length_cons, List.length_nil, List.length_append, List.length_map, List.length_replicate] <;> omega))) only [nmS0, nmS1, nmS2, nmS3, nmS4, nmS5, nmS6, nmS7, Nat.testBit, Nat.reduceShiftRight, Nat.reduceAnd, Nat.reduceBNe, cond_true, cond_false, NT.get_leaf, Nat.reduceSub, d_true, d_false, clsOf, beq_self_eq_true, Int.reduceToNat, Nat.reduceAdd, Nat.reduceMul, Nat.reduceEqDiff, decide_true, decide_false, if_true, if_false, ite_true, ite_false, reduceIte, reduceCtorEq, eq_self, true_and, and_true, true_implies]; rfl
  · simp (config := { maxSteps := 1000000 }) (disch := (first | assumption | omega | exact Nm.old_n (by omega) | exact Nm.old_hp (by assumption) | (simp only [List.length_set, List.length_cons, List.length_nil, List.length_append, List.length_map, List.length_replicate] <;> omega))) only [nmS0, nmS1, nmS2, nmS3, nmS4, nmS5, nmS6, nmS7, Nat.testBit, Nat.reduceShiftRight, Nat.reduceAnd, Nat.reduceBNe, cond_true, cond_false, NT.get_leaf, Nat.reduceSub, d_true, d_false, clsOf, beq_self_eq_true, Int.reduceToNat, Nat.reduceAdd, Nat.reduceMul, Nat.reduceEqDiff, decide_true, decide_false, if_true, if_false, ite_true, ite_false, reduceIte, reduceCtorEq, eq_self, true_and, and_true, true_implies, g1, g2, g3, g4, g5', g6, hlen, hlu]
    refine hQ _ _ ?_ ?_
    · simp (config := { maxSteps := 1000000 }) (disch := (first | assumption | omega | exact Nm.old_n (by omega) | exact Nm.old_hp (by assumption) | (simp only [List.length_set, List.length_cons, List.length_nil, List.length_append, List.length_map, List.length_replicate] <;> omega))) only [nmS0, nmS1, nmS2, nmS3, nmS4, nmS5, nmS6, nmS7, Nat.testBit, Nat.reduceShiftRight, Nat.reduceAnd, Nat.reduceBNe, cond_true, cond_false, NT.get_leaf, Nat.reduceSub, d_true, d_false, clsOf, beq_self_eq_true, Int.reduceToNat, Nat.reduceAdd, Nat.reduceMul, Nat.reduceEqDiff, decide_true, decide_false, if_true, if_false, ite_true, ite_false, reduceIte, reduceCtorEq, eq_self, true_and, and_true, true_implies, g3]
    · simp (config := { maxSteps := 1000000 }) (disch := (first | assumption | omega | exact Nm.old_n (by omega) | exact Nm.old_hp (by assumption) | (simp only [List.length_set, List.length_cons, List.length_nil, List.length_append, List.length_map, List.length_replicate] <;> omega))) only [nmS0, nmS1, nmS2, nmS3, nmS4, nmS5, nmS6, nmS7, Nat.testBit, Nat.reduceShiftRight, Nat.reduceAnd, Nat.reduceBNe, cond_true, cond_false, NT.get_leaf, Nat.reduceSub, d_true, d_false, clsOf, beq_self_eq_true, Int.reduceToNat, Nat.reduceAdd, Nat.reduceMul, Nat.reduceEqDiff, decide_true, decide_false, if_true, if_false, ite_true, ite_false, reduceIte, reduceCtorEq, eq_self, true_and, and_true, true_implies, g5']
      rw [List.drop_eq_nil_of_le (by omega)] at hS
      rw [← hS]; simp [blanked]
end LX

open Go Nm Go.Proofs
namespace LX
set_option linter.unusedSimpArgs false
set_option linter.unusedVariables false
theorem stb_sl {m : NH} {s : List Nat} {id : D4} {w : Bool} (hg : m.get id = some (.cells w (Byt s).flatten)) (ho : Old m id) : Sl m (.slc id 0 s.length 1 s.length) 1 (Byt s) := by
  have hall : ∀ x ∈ Byt s, x.length = 1 := by intro x hx; rw [List.mem_map] at hx; obtain ⟨b, _, rfl⟩ := hx; rfl
  have hf := flat_len hall
  refine ⟨hall, Or.inr ⟨id, 0, s.length, w, _, by rw [List.length_map], hg, ho, by omega, ?_⟩⟩
  rw [List.drop_zero, ← hf, List.take_length]
set_option maxHeartbeats 4000000 in
theorem bl_l2 {m : NH} {L L2 : List Tok} {u u2 : NV} (hu : Sl m u 4 (L.map Tok.l)) (hu2 : Sl m u2 4 (L2.map Tok.l)) (hc : L2.map Tok.core = L.map Tok.core) (hL : L.length ≤ 1000000) {t : Tm}
    (g1 : NT.get D4.e.a.b t = some u) (g2 : NT.get D4.e.c.a t = some u2) (g3 : NT.get D4.e.c.f t = some (ii 0)) {Q : Out → Dyn → Prop}
    (hQ : ∀ t', Q (.exit 2) ⟨t', [], none, m⟩) :
    W Try.prog S0 none nf7_l2.loop ⟨t, [], none, m⟩ Q := by
  have hlu := hu.len
  rw [List.length_map] at hlu
  have hll : L2.length = L.length := by have := congrArg List.length hc; simpa using this
  refine W.loop (fun k d => ∃ t i, d = ⟨t, [], none, m⟩ ∧ NT.get D4.e.a.b t = some u ∧ NT.get D4.e.c.a t = some u2 ∧ NT.get D4.e.c.f t = some (ii (i : Nat)) ∧ i + k = L.length) ?_ L.length _ ⟨_, 0, rfl, g1, g2, g3, by omega⟩
  rintro k d ⟨t, i, rfl, g1, g2, g3, hik⟩
  apply wp_sound
  unfold nf7_l2
  change wp _ _ _ _ ⟨puts [] t, [], none, m⟩ _
  by_cases hi : i < L.length
  · obtain ⟨id, off, wr, c, a1, a2, a3, a4, a5⟩ := hu.at i (by simpa using hi)
    rw [List.getElem_map] at a5
    obtain ⟨id2, off2, wr2, c2, b1, b2, b3, b4, b5⟩ := hu2.at i (by simp; omega)
    rw [List.getElem_map] at b5
    have hi2 : i < L2.length := by omega
    have he : L2[i].core = L[i].core := by
      have := congrArg (fun l => l[i]?) hc
      simp only [List.getElem?_map, List.getElem?_eq_getElem hi, List.getElem?_eq_getElem hi2, Option.map_some, Option.some.injEq] at this
      exact this
    simp only [Tok.core, Prod.mk.injEq] at he
    obtain ⟨e1, e2, e3⟩ := he
    have x0 : c[off]? = some (ii L[i].k) := cell_at a5 0 (by omega)
    have x00 : c[off + 0]? = some (ii L[i].k) := cell_at a5 0 (by omega)
    have x1 : c[off + 1]? = some (.str L[i].t) := cell_at a5 1 (by omega)
    have x2 : c[off + 2]? = some (u64 L[i].n) := cell_at a5 2 (by omega)
    have y0 : c2[off2]? = some (ii L[i].k) := by rw [← e1]; exact cell_at b5 0 (by omega)
    have y00 : c2[off2 + 0]? = some (ii L[i].k) := y0
    have y1 : c2[off2 + 1]? = some (.str L[i].t) := by rw [← e2]; exact cell_at b5 1 (by omega)
    have y2 : c2[off2 + 2]? = some (u64 L[i].n) := by rw [← e3]; exact cell_at b5 2 (by omega)
    have hne : decide (L[i].t ≠ L[i].t) = false := by simp
    simp (config := { maxSteps := 1000000 }) (disch := (first | assumption | omega | exact Nm.old_n (by omega) | exact Nm.old_hp (by assumption) | (simp only [List.length_set, List.length_cons, List.length_nil, List.length_append, List.length_map, List.length_replicate] <;> omega))) only [nmS0, nmS1, nmS2, nmS3, nmS4, nmS5, nmS6, nmS7, Nat.testBit, Nat.reduceShiftRight, Nat.reduceAnd, Nat.reduceBNe, cond_true, cond_false, NT.get_leaf, Nat.reduceSub, d_true, d_false, clsOf, beq_self_eq_true, Int.reduceToNat, Nat.reduceAdd, Nat.reduceMul, Nat.reduceEqDiff, decide_true, decide_false, if_true, if_false, ite_true, ite_false, reduceIte, reduceCtorEq, eq_self, true_and, and_true, true_implies, g1, g2, g3, hlu, a1, a2, b1, b2, x0, x00, x1, x2, y0, y00, y1, y2, hne]
    refine ⟨k - 1, by omega, _, i + 1, rfl, ?_, ?_, ?_, by omega⟩
    · simp (config := { maxSteps := 1000000 }) (disch := (first | assumption | omega | exact Nm.old_n (by omega) | exact Nm.old_hp (by assumption) | (simp only [List.length_set, List.length_cons, List.length_nil, List.length_append, List.length_map, List.length_replicate] <;> omega))) only [nmS0, nmS1, nmS2, nmS3, nmS4, nmS5, nmS6, nmS7, Nat.testBit, Nat.reduceShiftRight, Nat.reduceAnd, Nat.reduceBNe, cond_true, cond_false, NT.get_leaf, Nat.reduceSub, d_true, d_false, clsOf, beq_self_eq_true, Int.reduceToNat, Nat.reduceAdd, Nat.reduceMul, Nat.reduceEqDiff, decide_true, decide_false, if_true, if_false, ite_true, ite_false, reduceIte, reduceCtorEq, eq_self, true_and, and_true, true_implies, g1]
    · simp (config := { maxSteps := 1000000 }) (disch := (first | assumption | omega | exact Nm.old_n (by omega) | exact Nm.old_hp (by assumption) | (simp only [List.length_set, List.length_cons, List.length_nil, List.length_append, List.length_map, List.length_replicate] <;> omega))) only [nmS0, nmS1, nmS2, nmS3, nmS4, nmS5, nmS6, nmS7, Nat.testBit, Nat.reduceShiftRight, Nat.reduceAnd, Nat.reduceBNe, cond_true, cond_false, NT.get_leaf, Nat.reduceSub, d_true, d_false, clsOf, beq_self_eq_true, Int.reduceToNat, Nat.reduceAdd, Nat.reduceMul, Nat.reduceEqDiff, decide_true, decide_false, if_true, if_false, ite_true, ite_false, reduceIte, reduceCtorEq, eq_self, true_and, and_true, true_implies, g2]
    · simp (config := { maxSteps := 1000000 }) (disch := (first | assumption | omega | exact Nm.old_n (by omega) | exact Nm.old_hp (by assumption) | (simp only [List.length_set, List.length_cons, List.length_nil, List.length_append, List.length_map, List.length_replicate] <;> omega))) only [nmS0, nmS1, nmS2, nmS3, nmS4, nmS5, nmS6, nmS7, Nat.testBit, Nat.reduceShiftRight, Nat.reduceAnd, Nat.reduceBNe, cond_true, cond_false, NT.get_leaf, Nat.reduceSub, d_true, d_false, clsOf, beq_self_eq_true, Int.reduceToNat, Nat.reduceAdd, Nat.reduceMul, Nat.reduceEqDiff, decide_true, decide_false, if_true, if_false, ite_true, ite_false, reduceIte, reduceCtorEq, eq_self, true_and, and_true, true_implies]; rfl
  · simp (config := { maxSteps := 1000000 }) (disch := (first | assumption | omega | exact Nm.old_n (by omega) | exact Nm.old_hp (by assumption) | (simp only [List.length_set, List.length_cons, List.length_nil, List.length_append, List.length_map, List.length_replicate] <;> omega))) only [nmS0, nmS1, nmS2, nmS3, nmS4, nmS5, nmS6, nmS7, Nat.testBit, Nat.reduceShiftRight, Nat.reduceAnd, Nat.reduceBNe, cond_true, cond_false, NT.get_leaf, Nat.reduceSub, d_true, d_false, clsOf, beq_self_eq_true, Int.reduceToNat, Nat.reduceAdd, Nat.reduceMul, Nat.reduceEqDiff, decide_true, decide_false, if_true, if_false, ite_true, ite_false, reduceIte, reduceCtorEq, eq_self, true_and, and_true, true_implies, g1, g2, g3, hlu]
    exact hQ _
theorem ty_ints {m : NH} {l : List NV} (h : Ty Try.prog m 42 l) : ∃ (v : NV) (zs : List Int), l = [v] ∧ Sl m v 1 (zs.map fun z => [ii z]) := by
  obtain ⟨v, C, rfl, hS, hm, hall⟩ := h.inv_slc Try.underlying42
  have key : ∀ C : List (List NV), (∀ c ∈ C, Ty Try.prog m 3 c) → ∃ zs : List Int, C = zs.map fun z => [ii z] := by
    intro C
    induction C with
    | nil => intro _; exact ⟨[], rfl⟩
    | cons c C ih =>
      intro h
      obtain ⟨n, rfl, hw⟩ := (h c (List.mem_cons_self ..)).inv_int Try.underlying3
      obtain ⟨l, rfl⟩ := ih fun x hx => h x (List.mem_cons_of_mem _ hx)
      exact ⟨n :: l, rfl⟩
  obtain ⟨zs, rfl⟩ := key C hall
  exact ⟨v, zs, rfl, hS⟩
theorem blanked_len {b : List Nat} (hb : b.length ≤ 1500) : ∀ (L : List Tok) (fs : List (List Nat)), (∀ f ∈ fs, f.length ≤ 6) → (blanked b L fs).length ≤ L.length * 2000 := by
  intro L
  induction L with
  | nil => intro fs _; simp [blanked]
  | cons x L ih =>
    intro fs h
    cases fs with
    | nil => simp [blanked]
    | cons f fs =>
      have h1 := h f (by simp)
      have h2 := ih fs fun g hg => h g (by simp [hg])
      have h3 : (cut b x.p (nextP b L)).length ≤ b.length := by unfold cut; rw [List.length_drop, List.length_take]; omega
      show (f ++ (cut b x.p (nextP b L) ++ 10 :: blanked b L fs)).length ≤ _
      simp only [List.length_append, List.length_cons]; omega
theorem blanked_256 {b : List Nat} (hb : ∀ c ∈ b, c < 256) : ∀ (L : List Tok) (fs : List (List Nat)), (∀ f ∈ fs, f ∈ fills) → ∀ c ∈ blanked b L fs, c < 256 := by
  intro L
  induction L with
  | nil => intro fs _ c hc; simp [blanked] at hc
  | cons x L ih =>
    intro fs h c hc
    cases fs with
    | nil => simp [blanked] at hc
    | cons f fs =>
      have hc : c ∈ f ++ (cut b x.p (nextP b L) ++ 10 :: blanked b L fs) := hc
      rw [List.mem_append, List.mem_append, List.mem_cons] at hc
      rcases hc with hc | hc | rfl | hc
      · have := h f (by simp)
        simp only [fills, List.mem_cons, List.not_mem_nil, or_false] at this
        rcases this with rfl | rfl | rfl | rfl | rfl <;> simp at hc <;> omega
      · exact hb c (List.mem_of_mem_take (List.mem_of_mem_drop hc))
      · omega
      · exact ih fs (fun g hg => h g (by simp [hg])) c hc
set_option maxHeartbeats 4000000 in
theorem lexBlanks (m : NH) (l : List NV) (h : TyA Try.prog m [22, 42] l) : ∃ m', Ret Try.prog S0 7 l m (.bool true) m' := by
  obtain ⟨x, r, rfl, h1, h⟩ := h.inv1 (by intro fs q; rw [Try.underlying22] at q; simp at q)
  obtain ⟨y, r, rfl, h2, h⟩ := h.inv1 (by intro fs q; rw [Try.underlying42] at q; simp at q)
  obtain rfl := h.inv0
  obtain ⟨v, b, hx, hv, -, hb⟩ := ty_bytes h1
  obtain ⟨vg, zs, hy, hg⟩ := ty_ints h2
  have hxv : v = x := by simpa using hx.symm
  have hyv : vg = y := by simpa using hy.symm
  subst hxv hyv
  have hlen := hv.len
  rw [show (Byt b).length = b.length by simp] at hlen
  have hlg := hg.len
  rw [List.length_map] at hlg
  have hal : ∀ m, Ret Try.prog S0 8 [] m (.bool true) m := fun m => Ret.kept rfl m
  have hnum : ∀ m e, Ret Try.prog S0 12 [ii e] m (ii e) m := num_p
  have h : ∃ v' m', Ret Try.prog S0 7 [v, vg] m v' m' ∧ v' = .bool true := by
    refine WF.ex fun K hK => ?_
    refine WF.of_wpG (fun _ => rfl) nf7_eq (L := [(.a .e, vg), (.e, v)]) rfl ?_
    unfold nf7
    obtain ⟨r, m1, hr, hR, hC1⟩ := tokens_r m hv hb
    have hv1 := hv.chg hC1 fun _ _ => by simp
    have hg1 := hg.chg hC1 fun _ _ => by simp
    by_cases h16 : 16384 < b.length
    · rw [if_pos h16] at hR
      obtain rfl := hR
      simp (config := { maxSteps := 1000000 }) (disch := (first | assumption | omega | exact Nm.old_n (by omega) | exact Nm.old_hp (by assumption) | (simp only [List.length_set, List.length_cons, List.length_nil, List.length_append, List.length_map, List.length_replicate] <;> omega))) only [nmS0, nmS1, nmS2, nmS3, nmS4, nmS5, nmS6, nmS7, Nat.testBit, Nat.reduceShiftRight, Nat.reduceAnd, Nat.reduceBNe, cond_true, cond_false, NT.get_leaf, Nat.reduceSub, d_true, d_false, clsOf, beq_self_eq_true, Int.reduceToNat, Nat.reduceAdd, Nat.reduceMul, Nat.reduceEqDiff, decide_true, decide_false, if_true, if_false, ite_true, ite_false, reduceIte, reduceCtorEq, eq_self, true_and, and_true, true_implies, hp_nil, (hal _).wf', hr.wf', hlen, hlg]
      exact hK _ _ rfl
    rw [if_neg h16] at hR
    cases he : (toks b).2 with
    | some a =>
      rw [he] at hR
      obtain rfl := hR
      simp (config := { maxSteps := 1000000 }) (disch := (first | assumption | omega | exact Nm.old_n (by omega) | exact Nm.old_hp (by assumption) | (simp only [List.length_set, List.length_cons, List.length_nil, List.length_append, List.length_map, List.length_replicate] <;> omega))) only [nmS0, nmS1, nmS2, nmS3, nmS4, nmS5, nmS6, nmS7, Nat.testBit, Nat.reduceShiftRight, Nat.reduceAnd, Nat.reduceBNe, cond_true, cond_false, NT.get_leaf, Nat.reduceSub, d_true, d_false, clsOf, beq_self_eq_true, Int.reduceToNat, Nat.reduceAdd, Nat.reduceMul, Nat.reduceEqDiff, decide_true, decide_false, if_true, if_false, ite_true, ite_false, reduceIte, reduceCtorEq, eq_self, true_and, and_true, true_implies, hp_nil, (hal _).wf', hr.wf', hlen, hlg]
      exact hK _ _ rfl
    | none =>
      rw [he] at hR
      obtain ⟨u, rfl, hu⟩ := hR
      have hlu := hu.sl.len
      rw [List.length_map] at hlu
      by_cases h1500 : b.length ≤ 1500
      · by_cases h400 : (toks b).1.length ≤ 400
        · by_cases hz : (toks b).1.length ≤ zs.length
          · have hr' : Ret Try.prog S0 10 [v] (hp [] 0 m) (.tup [u, ii b.length, ii 0]) m1 := by rw [hp_nil]; exact hr
            simp (config := { maxSteps := 1000000 }) (disch := (first | assumption | omega | exact Nm.old_n (by omega) | exact Nm.old_hp (by assumption) | (simp only [List.length_set, List.length_cons, List.length_nil, List.length_append, List.length_map, List.length_replicate] <;> omega))) only [nmS0, nmS1, nmS2, nmS3, nmS4, nmS5, nmS6, nmS7, Nat.testBit, Nat.reduceShiftRight, Nat.reduceAnd, Nat.reduceBNe, cond_true, cond_false, NT.get_leaf, Nat.reduceSub, d_true, d_false, clsOf, beq_self_eq_true, Int.reduceToNat, Nat.reduceAdd, Nat.reduceMul, Nat.reduceEqDiff, decide_true, decide_false, if_true, if_false, ite_true, ite_false, reduceIte, reduceCtorEq, eq_self, true_and, and_true, true_implies, (hal _).wf', hr'.wf, hlen, hlg, hlu]
            generalize hM : hp _ 1 m1 = M
            have hCM : Chg [] m1 M := by rw [← hM]; exact hp_of rfl
            have hf : Sl M (.slc (na m1 0) 0 5 1 5) 1 (Strs fills) := by
              rw [← hM]; exact (Own.of (B := m1) (C := Strs fills) (by simp) na_old h_getN (old_n (by omega)) rfl rfl rfl).sl
            have huM := hu.sl.chg hCM fun _ _ => by simp
            refine bl_l1 (b := b) (zs := zs) (L := (toks b).1) h1500 hb (hv1.chg hCM fun _ _ => by simp) (hg1.chg hCM fun _ _ => by simp) huM hf hz h400 (-1) (toks_ok he).1 ?_ ?_ ?_ ?_ ?_ ?_ ?_
            · simp (config := { maxSteps := 1000000 }) (disch := (first | assumption | omega | exact Nm.old_n (by omega) | exact Nm.old_hp (by assumption) | (simp only [List.length_set, List.length_cons, List.length_nil, List.length_append, List.length_map, List.length_replicate] <;> omega))) only [nmS0, nmS1, nmS2, nmS3, nmS4, nmS5, nmS6, nmS7, Nat.testBit, Nat.reduceShiftRight, Nat.reduceAnd, Nat.reduceBNe, cond_true, cond_false, NT.get_leaf, Nat.reduceSub, d_true, d_false, clsOf, beq_self_eq_true, Int.reduceToNat, Nat.reduceAdd, Nat.reduceMul, Nat.reduceEqDiff, decide_true, decide_false, if_true, if_false, ite_true, ite_false, reduceIte, reduceCtorEq, eq_self, true_and, and_true, true_implies]
            · simp (config := { maxSteps := 1000000 }) (disch := (first | assumption | omega | exact Nm.old_n (by omega) | exact Nm.old_hp (by assumption) | (simp only [List.length_set, List.length_cons, List.length_nil, List.length_append, List.length_map, List.length_replicate] <;> omega))) only [nmS0, nmS1, nmS2, nmS3, nmS4, nmS5, nmS6, nmS7, Nat.testBit, Nat.reduceShiftRight, Nat.reduceAnd, Nat.reduceBNe, cond_true, cond_false, NT.get_leaf, Nat.reduceSub, d_true, d_false, clsOf, beq_self_eq_true, Int.reduceToNat, Nat.reduceAdd, Nat.reduceMul, Nat.reduceEqDiff, decide_true, decide_false, if_true, if_false, ite_true, ite_false, reduceIte, reduceCtorEq, eq_self, true_and, and_true, true_implies]
            · simp (config := { maxSteps := 1000000 }) (disch := (first | assumption | omega | exact Nm.old_n (by omega) | exact Nm.old_hp (by assumption) | (simp only [List.length_set, List.length_cons, List.length_nil, List.length_append, List.length_map, List.length_replicate] <;> omega))) only [nmS0, nmS1, nmS2, nmS3, nmS4, nmS5, nmS6, nmS7, Nat.testBit, Nat.reduceShiftRight, Nat.reduceAnd, Nat.reduceBNe, cond_true, cond_false, NT.get_leaf, Nat.reduceSub, d_true, d_false, clsOf, beq_self_eq_true, Int.reduceToNat, Nat.reduceAdd, Nat.reduceMul, Nat.reduceEqDiff, decide_true, decide_false, if_true, if_false, ite_true, ite_false, reduceIte, reduceCtorEq, eq_self, true_and, and_true, true_implies]
            · simp (config := { maxSteps := 1000000 }) (disch := (first | assumption | omega | exact Nm.old_n (by omega) | exact Nm.old_hp (by assumption) | (simp only [List.length_set, List.length_cons, List.length_nil, List.length_append, List.length_map, List.length_replicate] <;> omega))) only [nmS0, nmS1, nmS2, nmS3, nmS4, nmS5, nmS6, nmS7, Nat.testBit, Nat.reduceShiftRight, Nat.reduceAnd, Nat.reduceBNe, cond_true, cond_false, NT.get_leaf, Nat.reduceSub, d_true, d_false, clsOf, beq_self_eq_true, Int.reduceToNat, Nat.reduceAdd, Nat.reduceMul, Nat.reduceEqDiff, decide_true, decide_false, if_true, if_false, ite_true, ite_false, reduceIte, reduceCtorEq, eq_self, true_and, and_true, true_implies]
            · simp (config := { maxSteps := 1000000 }) (disch := (first | assumption | omega | exact Nm.old_n (by omega) | exact Nm.old_hp (by assumption) | (simp only [List.length_set, List.length_cons, List.length_nil, List.length_append, List.length_map, List.length_replicate] <;> omega))) only [nmS0, nmS1, nmS2, nmS3, nmS4, nmS5, nmS6, nmS7, Nat.testBit, Nat.reduceShiftRight, Nat.reduceAnd, Nat.reduceBNe, cond_true, cond_false, NT.get_leaf, Nat.reduceSub, d_true, d_false, clsOf, beq_self_eq_true, Int.reduceToNat, Nat.reduceAdd, Nat.reduceMul, Nat.reduceEqDiff, decide_true, decide_false, if_true, if_false, ite_true, ite_false, reduceIte, reduceCtorEq, eq_self, true_and, and_true, true_implies]
            · simp (config := { maxSteps := 1000000 }) (disch := (first | assumption | omega | exact Nm.old_n (by omega) | exact Nm.old_hp (by assumption) | (simp only [List.length_set, List.length_cons, List.length_nil, List.length_append, List.length_map, List.length_replicate] <;> omega))) only [nmS0, nmS1, nmS2, nmS3, nmS4, nmS5, nmS6, nmS7, Nat.testBit, Nat.reduceShiftRight, Nat.reduceAnd, Nat.reduceBNe, cond_true, cond_false, NT.get_leaf, Nat.reduceSub, d_true, d_false, clsOf, beq_self_eq_true, Int.reduceToNat, Nat.reduceAdd, Nat.reduceMul, Nat.reduceEqDiff, decide_true, decide_false, if_true, if_false, ite_true, ite_false, reduceIte, reduceCtorEq, eq_self, true_and, and_true, true_implies]
            intro L' t' g1 g2
            generalize puts L' t' = T at g1 g2
            rw [← hp_nil M]
            change wp _ _ _ _ ⟨puts [] T, [], none, _⟩ _
            have hfs : ∀ f ∈ zs.map fillOf, f ∈ fills := by intro f hf; obtain ⟨z, _, rfl⟩ := List.mem_map.mp hf; exact fill_mem z
            have hf6 : ∀ f ∈ zs.map fillOf, f.length ≤ 6 := by intro f hf; obtain ⟨z, _, rfl⟩ := List.mem_map.mp hf; exact fill_len z
            have hSl := blanked_len h1500 (toks b).1 (zs.map fillOf) hf6
            have hS2 := blanked_256 hb (toks b).1 (zs.map fillOf) hfs
            obtain ⟨law1, law2⟩ := blanks_law he hfs (by rw [List.length_map]; exact hz)
            generalize blanked b (toks b).1 (zs.map fillOf) = S at g2 hSl hS2 law1 law2
            simp (config := { maxSteps := 1000000 }) (disch := (first | assumption | omega | exact Nm.old_n (by omega) | exact Nm.old_hp (by assumption) | (simp only [List.length_set, List.length_cons, List.length_nil, List.length_append, List.length_map, List.length_replicate] <;> omega))) only [nmS0, nmS1, nmS2, nmS3, nmS4, nmS5, nmS6, nmS7, Nat.testBit, Nat.reduceShiftRight, Nat.reduceAnd, Nat.reduceBNe, cond_true, cond_false, NT.get_leaf, Nat.reduceSub, d_true, d_false, clsOf, beq_self_eq_true, Int.reduceToNat, Nat.reduceAdd, Nat.reduceMul, Nat.reduceEqDiff, decide_true, decide_false, if_true, if_false, ite_true, ite_false, reduceIte, reduceCtorEq, eq_self, true_and, and_true, true_implies, g1, g2]
            generalize hM2 : hp _ 1 M = M2
            have hC2 : Chg [] M M2 := by rw [← hM2]; exact hp_of rfl
            have gM : M2.get (na M 0) = some (.cells false (Byt S).flatten) := by rw [← hM2]; exact h_getN
            have oM : Old M2 (na M 0) := by rw [← hM2]; exact old_n (by omega)
            obtain ⟨r2, m3, hr2, hR2, hC3⟩ := tokens_p M2 (stb_sl gM oM) (by omega) hS2
            have hu3 := (huM.chg hC2 fun _ _ => by simp).chg hC3 fun _ _ => by simp
            have hlu3 := hu3.len
            rw [List.length_map] at hlu3
            by_cases hs16 : 16384 < S.length
            · rw [if_pos hs16] at hR2
              obtain rfl := hR2
              simp (config := { maxSteps := 1000000 }) (disch := (first | assumption | omega | exact Nm.old_n (by omega) | exact Nm.old_hp (by assumption) | (simp only [List.length_set, List.length_cons, List.length_nil, List.length_append, List.length_map, List.length_replicate] <;> omega))) only [nmS0, nmS1, nmS2, nmS3, nmS4, nmS5, nmS6, nmS7, Nat.testBit, Nat.reduceShiftRight, Nat.reduceAnd, Nat.reduceBNe, cond_true, cond_false, NT.get_leaf, Nat.reduceSub, d_true, d_false, clsOf, beq_self_eq_true, Int.reduceToNat, Nat.reduceAdd, Nat.reduceMul, Nat.reduceEqDiff, decide_true, decide_false, if_true, if_false, ite_true, ite_false, reduceIte, reduceCtorEq, eq_self, true_and, and_true, true_implies, g1, g2, hr2.wf', (hnum _ _).wf', hlu3]
              exact hK _ _ rfl
            · rw [if_neg hs16, law1] at hR2
              obtain ⟨u2, rfl, hu2⟩ := hR2
              have hl2 := hu2.sl.len
              rw [List.length_map] at hl2
              have hll : (toks S).1.length = (toks b).1.length := by have := congrArg List.length law2; simpa using this
              simp (config := { maxSteps := 1000000 }) (disch := (first | assumption | omega | exact Nm.old_n (by omega) | exact Nm.old_hp (by assumption) | (simp only [List.length_set, List.length_cons, List.length_nil, List.length_append, List.length_map, List.length_replicate] <;> omega))) only [nmS0, nmS1, nmS2, nmS3, nmS4, nmS5, nmS6, nmS7, Nat.testBit, Nat.reduceShiftRight, Nat.reduceAnd, Nat.reduceBNe, cond_true, cond_false, NT.get_leaf, Nat.reduceSub, d_true, d_false, clsOf, beq_self_eq_true, Int.reduceToNat, Nat.reduceAdd, Nat.reduceMul, Nat.reduceEqDiff, decide_true, decide_false, if_true, if_false, ite_true, ite_false, reduceIte, reduceCtorEq, eq_self, true_and, and_true, true_implies, g1, g2, hr2.wf', (hnum _ _).wf', hlu3, hl2, hll]
              refine bl_l2 hu3 hu2.sl law2 (by omega) ?_ ?_ ?_ ?_
              · simp (config := { maxSteps := 1000000 }) (disch := (first | assumption | omega | exact Nm.old_n (by omega) | exact Nm.old_hp (by assumption) | (simp only [List.length_set, List.length_cons, List.length_nil, List.length_append, List.length_map, List.length_replicate] <;> omega))) only [nmS0, nmS1, nmS2, nmS3, nmS4, nmS5, nmS6, nmS7, Nat.testBit, Nat.reduceShiftRight, Nat.reduceAnd, Nat.reduceBNe, cond_true, cond_false, NT.get_leaf, Nat.reduceSub, d_true, d_false, clsOf, beq_self_eq_true, Int.reduceToNat, Nat.reduceAdd, Nat.reduceMul, Nat.reduceEqDiff, decide_true, decide_false, if_true, if_false, ite_true, ite_false, reduceIte, reduceCtorEq, eq_self, true_and, and_true, true_implies, g1]
              · simp (config := { maxSteps := 1000000 }) (disch := (first | assumption | omega | exact Nm.old_n (by omega) | exact Nm.old_hp (by assumption) | (simp only [List.length_set, List.length_cons, List.length_nil, List.length_append, List.length_map, List.length_replicate] <;> omega))) only [nmS0, nmS1, nmS2, nmS3, nmS4, nmS5, nmS6, nmS7, Nat.testBit, Nat.reduceShiftRight, Nat.reduceAnd, Nat.reduceBNe, cond_true, cond_false, NT.get_leaf, Nat.reduceSub, d_true, d_false, clsOf, beq_self_eq_true, Int.reduceToNat, Nat.reduceAdd, Nat.reduceMul, Nat.reduceEqDiff, decide_true, decide_false, if_true, if_false, ite_true, ite_false, reduceIte, reduceCtorEq, eq_self, true_and, and_true, true_implies]
              · simp (config := { maxSteps := 1000000 }) (disch := (first | assumption | omega | exact Nm.old_n (by omega) | exact Nm.old_hp (by assumption) | (simp only [List.length_set, List.length_cons, List.length_nil, List.length_append, List.length_map, List.length_replicate] <;> omega))) only [nmS0, nmS1, nmS2, nmS3, nmS4, nmS5, nmS6, nmS7, Nat.testBit, Nat.reduceShiftRight, Nat.reduceAnd, Nat.reduceBNe, cond_true, cond_false, NT.get_leaf, Nat.reduceSub, d_true, d_false, clsOf, beq_self_eq_true, Int.reduceToNat, Nat.reduceAdd, Nat.reduceMul, Nat.reduceEqDiff, decide_true, decide_false, if_true, if_false, ite_true, ite_false, reduceIte, reduceCtorEq, eq_self, true_and, and_true, true_implies]
              · intro t'
                change wp _ _ _ _ ⟨puts [] t', [], none, m3⟩ _
                simp (config := { maxSteps := 1000000 }) (disch := (first | assumption | omega | exact Nm.old_n (by omega) | exact Nm.old_hp (by assumption) | (simp only [List.length_set, List.length_cons, List.length_nil, List.length_append, List.length_map, List.length_replicate] <;> omega))) only [nmS0, nmS1, nmS2, nmS3, nmS4, nmS5, nmS6, nmS7, Nat.testBit, Nat.reduceShiftRight, Nat.reduceAnd, Nat.reduceBNe, cond_true, cond_false, NT.get_leaf, Nat.reduceSub, d_true, d_false, clsOf, beq_self_eq_true, Int.reduceToNat, Nat.reduceAdd, Nat.reduceMul, Nat.reduceEqDiff, decide_true, decide_false, if_true, if_false, ite_true, ite_false, reduceIte, reduceCtorEq, eq_self, true_and, and_true, true_implies]
                exact hK _ _ rfl
          · simp (config := { maxSteps := 1000000 }) (disch := (first | assumption | omega | exact Nm.old_n (by omega) | exact Nm.old_hp (by assumption) | (simp only [List.length_set, List.length_cons, List.length_nil, List.length_append, List.length_map, List.length_replicate] <;> omega))) only [nmS0, nmS1, nmS2, nmS3, nmS4, nmS5, nmS6, nmS7, Nat.testBit, Nat.reduceShiftRight, Nat.reduceAnd, Nat.reduceBNe, cond_true, cond_false, NT.get_leaf, Nat.reduceSub, d_true, d_false, clsOf, beq_self_eq_true, Int.reduceToNat, Nat.reduceAdd, Nat.reduceMul, Nat.reduceEqDiff, decide_true, decide_false, if_true, if_false, ite_true, ite_false, reduceIte, reduceCtorEq, eq_self, true_and, and_true, true_implies, hp_nil, (hal _).wf', hr.wf', hlen, hlg, hlu]
            exact hK _ _ rfl
        · simp (config := { maxSteps := 1000000 }) (disch := (first | assumption | omega | exact Nm.old_n (by omega) | exact Nm.old_hp (by assumption) | (simp only [List.length_set, List.length_cons, List.length_nil, List.length_append, List.length_map, List.length_replicate] <;> omega))) only [nmS0, nmS1, nmS2, nmS3, nmS4, nmS5, nmS6, nmS7, Nat.testBit, Nat.reduceShiftRight, Nat.reduceAnd, Nat.reduceBNe, cond_true, cond_false, NT.get_leaf, Nat.reduceSub, d_true, d_false, clsOf, beq_self_eq_true, Int.reduceToNat, Nat.reduceAdd, Nat.reduceMul, Nat.reduceEqDiff, decide_true, decide_false, if_true, if_false, ite_true, ite_false, reduceIte, reduceCtorEq, eq_self, true_and, and_true, true_implies, hp_nil, (hal _).wf', hr.wf', hlen, hlg, hlu]
          exact hK _ _ rfl
      · simp (config := { maxSteps := 1000000 }) (disch := (first | assumption | omega | exact Nm.old_n (by omega) | exact Nm.old_hp (by assumption) | (simp only [List.length_set, List.length_cons, List.length_nil, List.length_append, List.length_map, List.length_replicate] <;> omega))) only [nmS0, nmS1, nmS2, nmS3, nmS4, nmS5, nmS6, nmS7, Nat.testBit, Nat.reduceShiftRight, Nat.reduceAnd, Nat.reduceBNe, cond_true, cond_false, NT.get_leaf, Nat.reduceSub, d_true, d_false, clsOf, beq_self_eq_true, Int.reduceToNat, Nat.reduceAdd, Nat.reduceMul, Nat.reduceEqDiff, decide_true, decide_false, if_true, if_false, ite_true, ite_false, reduceIte, reduceCtorEq, eq_self, true_and, and_true, true_implies, hp_nil, (hal _).wf', hr.wf', hlen, hlg, hlu]
        exact hK _ _ rfl
  obtain ⟨v', m', h, rfl⟩ := h
  exact ⟨m', h⟩
end LX

