/- Contracts of functions that the law LexTokens reaches, part 1. -/
import Derived.Test.YtljedjncidgjjaaLtU0
open Go Nm Go.Proofs
namespace LX
set_option linter.unusedSimpArgs false
set_option linter.unusedVariables false
theorem tk_r2 {m : NH} {t : Tm} {r tk : D4} {b0 b1 b2 b3 a0 a1 a2 a3 : NV} {c a : Nat} (ha' : a ≤ 1000000)
    (hr : m.get r = some (.cells true [b0, b1, b2, b3])) (htk : m.get tk = some (.cells true [a0, a1, a2, a3])) (orr : Old m r) (otk : Old m tk) (hrt : r ≠ tk)
    (g1 : NT.get D4.e.c.a t = some (.str signsL)) (g2 : NT.get D4.e.c.b t = some (ii 0)) (g3 : NT.get D4.e.a t = some (ii a)) (g4 : NT.get D4.e.f t = some (.ptr r 0)) (g5 : NT.get D4.e.b.a t = some (.ptr tk 0)) (g6 : NT.get D4.e.a.f t = some (u8 c))
    {Q : Out → Dyn → Prop}
    (hok : c ∈ signsL → ∀ L t' m', m'.get r = some (.cells true [ii 3, .str [c], a2, a3]) → Chg [r, tk] m m' → NT.get D4.e.f (puts L t') = some (.ptr r 0) → NT.get D4.e.a.a (puts L t') = some (ii ((a : Int) + 1)) → NT.get D4.e.a.b (puts L t') = some (ii 0) → Q .ret ⟨puts L t', [], none, m'⟩)
    (hbad : c ∉ signsL → ∀ L t', NT.get D4.e.b.a (puts L t') = some (.ptr tk 0) → NT.get D4.e.a (puts L t') = some (ii a) → NT.get D4.e.f (puts L t') = some (.ptr r 0) → Q (.exit 5) ⟨puts L t', [], none, m⟩) :
    W Try.prog S0 none nf18_l2.loop ⟨t, [], none, m⟩ Q := by
  have hsl : signsL.length = 13 := rfl
  refine W.loop (fun k d => ∃ t i, d = ⟨t, [], none, m⟩ ∧ NT.get D4.e.c.a t = some (.str signsL) ∧ NT.get D4.e.c.b t = some (ii (i : Nat)) ∧ NT.get D4.e.a t = some (ii a) ∧ NT.get D4.e.f t = some (.ptr r 0) ∧ NT.get D4.e.b.a t = some (.ptr tk 0) ∧ NT.get D4.e.a.f t = some (u8 c) ∧ c ∉ signsL.take i ∧ i + k = 13) ?_ 13 _ ⟨_, 0, rfl, g1, g2, g3, g4, g5, g6, by simp, by omega⟩
  rintro k d ⟨t, i, rfl, g1, g2, g3, g4, g5, g6, hno, hik⟩
  apply wp_sound
  unfold nf18_l2
  change wp _ _ _ _ ⟨puts [] t, [], none, m⟩ _
  rw [← hp_nil m]
  by_cases hi : i < 13
  · have hb : signsL[i]? = some signsL[i] := List.getElem?_eq_getElem (by omega)
    by_cases he : signsL[i] = c
    · rw [he] at hb
      have e1 : List.drop i (List.take ((i : Int) + 1).toNat signsL) = [c] := by
        rw [show ((i : Int) + 1).toNat = i + 1 by omega, List.take_add_one, hb]
        simp only [Option.toList_some]
        rw [List.drop_append_of_le_length (by rw [List.length_take]; omega), List.drop_take_self]; rfl
      simp (config := { maxSteps := 1000000 }) (disch := (first | assumption | omega | exact Nm.old_n (by omega) | exact Nm.old_hp (by assumption) | (simp only [List.length_set, List.length_cons, List.length_nil, List.length_append, List.length_map, List.length_replicate] <;> omega))) only [nmS0, nmS1, nmS2, nmS3, nmS4, nmS5, nmS6, nmS7, Nat.testBit, Nat.reduceShiftRight, Nat.reduceAnd, Nat.reduceBNe, cond_true, cond_false, NT.get_leaf, Nat.reduceSub, d_true, d_false, clsOf, beq_self_eq_true, Int.reduceToNat, Nat.reduceAdd, Nat.reduceMul, Nat.reduceEqDiff, decide_true, decide_false, if_true, if_false, ite_true, ite_false, reduceIte, reduceCtorEq, eq_self, true_and, and_true, true_implies, g1, g2, g3, g4, g5, g6, hb, hsl, e1, hr, htk, same_tok]
      refine hok (by rw [← he]; exact List.getElem_mem _) _ _ _ ?_ ?_ ?_ ?_ ?_
      · exact (h_getO orr).trans h_lookOs
      · exact (hp_of rfl).weak (by simp [oldK])
      · simp (config := { maxSteps := 1000000 }) (disch := (first | assumption | omega | exact Nm.old_n (by omega) | exact Nm.old_hp (by assumption) | (simp only [List.length_set, List.length_cons, List.length_nil, List.length_append, List.length_map, List.length_replicate] <;> omega))) only [nmS0, nmS1, nmS2, nmS3, nmS4, nmS5, nmS6, nmS7, Nat.testBit, Nat.reduceShiftRight, Nat.reduceAnd, Nat.reduceBNe, cond_true, cond_false, NT.get_leaf, Nat.reduceSub, d_true, d_false, clsOf, beq_self_eq_true, Int.reduceToNat, Nat.reduceAdd, Nat.reduceMul, Nat.reduceEqDiff, decide_true, decide_false, if_true, if_false, ite_true, ite_false, reduceIte, reduceCtorEq, eq_self, true_and, and_true, true_implies, g4]
      · simp (config := { maxSteps := 1000000 }) (disch := (first | assumption | omega | exact Nm.old_n (by omega) | exact Nm.old_hp (by assumption) | (simp only [List.length_set, List.length_cons, List.length_nil, List.length_append, List.length_map, List.length_replicate] <;> omega))) only [nmS0, nmS1, nmS2, nmS3, nmS4, nmS5, nmS6, nmS7, Nat.testBit, Nat.reduceShiftRight, Nat.reduceAnd, Nat.reduceBNe, cond_true, cond_false, NT.get_leaf, Nat.reduceSub, d_true, d_false, clsOf, beq_self_eq_true, Int.reduceToNat, Nat.reduceAdd, Nat.reduceMul, Nat.reduceEqDiff, decide_true, decide_false, if_true, if_false, ite_true, ite_false, reduceIte, reduceCtorEq, eq_self, true_and, and_true, true_implies]
      · simp (config := { maxSteps := 1000000 }) (disch := (first | assumption | omega | exact Nm.old_n (by omega) | exact Nm.old_hp (by assumption) | (simp only [List.length_set, List.length_cons, List.length_nil, List.length_append, List.length_map, List.length_replicate] <;> omega))) only [nmS0, nmS1, nmS2, nmS3, nmS4, nmS5, nmS6, nmS7, Nat.testBit, Nat.reduceShiftRight, Nat.reduceAnd, Nat.reduceBNe, cond_true, cond_false, NT.get_leaf, Nat.reduceSub, d_true, d_false, clsOf, beq_self_eq_true, Int.reduceToNat, Nat.reduceAdd, Nat.reduceMul, Nat.reduceEqDiff, decide_true, decide_false, if_true, if_false, ite_true, ite_false, reduceIte, reduceCtorEq, eq_self, true_and, and_true, true_implies]
    · have hne : ((signsL[i] : Int) = (c : Int)) = False := by simp; omega
      simp (config := { maxSteps := 1000000 }) (disch := (first | assumption | omega | exact Nm.old_n (by omega) | exact Nm.old_hp (by assumption) | (simp only [List.length_set, List.length_cons, List.length_nil, List.length_append, List.length_map, List.length_replicate] <;> omega))) only [nmS0, nmS1, nmS2, nmS3, nmS4, nmS5, nmS6, nmS7, Nat.testBit, Nat.reduceShiftRight, Nat.reduceAnd, Nat.reduceBNe, cond_true, cond_false, NT.get_leaf, Nat.reduceSub, d_true, d_false, clsOf, beq_self_eq_true, Int.reduceToNat, Nat.reduceAdd, Nat.reduceMul, Nat.reduceEqDiff, decide_true, decide_false, if_true, if_false, ite_true, ite_false, reduceIte, reduceCtorEq, eq_self, true_and, and_true, true_implies, g1, g2, g3, g4, g5, g6, hb, hsl]
      refine ⟨k - 1, by omega, _, i + 1, by rw [hp_nil], ?_, ?_, ?_, ?_, ?_, ?_, ?_, by omega⟩
      · simp (config := { maxSteps := 1000000 }) (disch := (first | assumption | omega | exact Nm.old_n (by omega) | exact Nm.old_hp (by assumption) | (simp only [List.length_set, List.length_cons, List.length_nil, List.length_append, List.length_map, List.length_replicate] <;> omega))) only [nmS0, nmS1, nmS2, nmS3, nmS4, nmS5, nmS6, nmS7, Nat.testBit, Nat.reduceShiftRight, Nat.reduceAnd, Nat.reduceBNe, cond_true, cond_false, NT.get_leaf, Nat.reduceSub, d_true, d_false, clsOf, beq_self_eq_true, Int.reduceToNat, Nat.reduceAdd, Nat.reduceMul, Nat.reduceEqDiff, decide_true, decide_false, if_true, if_false, ite_true, ite_false, reduceIte, reduceCtorEq, eq_self, true_and, and_true, true_implies, g1]
      · simp (config := { maxSteps := 1000000 }) (disch := (first | assumption | omega | exact Nm.old_n (by omega) | exact Nm.old_hp (by assumption) | (simp only [List.length_set, List.length_cons, List.length_nil, List.length_append, List.length_map, List.length_replicate] <;> omega))) only [nmS0, nmS1, nmS2, nmS3, nmS4, nmS5, nmS6, nmS7, Nat.testBit, Nat.reduceShiftRight, Nat.reduceAnd, Nat.reduceBNe, cond_true, cond_false, NT.get_leaf, Nat.reduceSub, d_true, d_false, clsOf, beq_self_eq_true, Int.reduceToNat, Nat.reduceAdd, Nat.reduceMul, Nat.reduceEqDiff, decide_true, decide_false, if_true, if_false, ite_true, ite_false, reduceIte, reduceCtorEq, eq_self, true_and, and_true, true_implies]; rfl
      · simp (config := { maxSteps := 1000000 }) (disch := (first | assumption | omega | exact Nm.old_n (by omega) | exact Nm.old_hp (by assumption) | (simp only [List.length_set, List.length_cons, List.length_nil, List.length_append, List.length_map, List.length_replicate] <;> omega))) only [nmS0, nmS1, nmS2, nmS3, nmS4, nmS5, nmS6, nmS7, Nat.testBit, Nat.reduceShiftRight, Nat.reduceAnd, Nat.reduceBNe, cond_true, cond_false, NT.get_leaf, Nat.reduceSub, d_true, d_false, clsOf, beq_self_eq_true, Int.reduceToNat, Nat.reduceAdd, Nat.reduceMul, Nat.reduceEqDiff, decide_true, decide_false, if_true, if_false, ite_true, ite_false, reduceIte, reduceCtorEq, eq_self, true_and, and_true, true_implies, g3]
      · simp (config := { maxSteps := 1000000 }) (disch := (first | assumption | omega | exact Nm.old_n (by omega) | exact Nm.old_hp (by assumption) | (simp only [List.length_set, List.length_cons, List.length_nil, List.length_append, List.length_map, List.length_replicate] <;> omega))) only [nmS0, nmS1, nmS2, nmS3, nmS4, nmS5, nmS6, nmS7, Nat.testBit, Nat.reduceShiftRight, Nat.reduceAnd, Nat.reduceBNe, cond_true, cond_false, NT.get_leaf, Nat.reduceSub, d_true, d_false, clsOf, beq_self_eq_true, Int.reduceToNat, Nat.reduceAdd, Nat.reduceMul, Nat.reduceEqDiff, decide_true, decide_false, if_true, if_false, ite_true, ite_false, reduceIte, reduceCtorEq, eq_self, true_and, and_true, true_implies, g4]
      · simp (config := { maxSteps := 1000000 }) (disch := (first | assumption | omega | exact Nm.old_n (by omega) | exact Nm.old_hp (by assumption) | (simp only [List.length_set, List.length_cons, List.length_nil, List.length_append, List.length_map, List.length_replicate] <;> omega))) only [nmS0, nmS1, nmS2, nmS3, nmS4, nmS5, nmS6, nmS7, Nat.testBit, Nat.reduceShiftRight, Nat.reduceAnd, Nat.reduceBNe, cond_true, cond_false, NT.get_leaf, Nat.reduceSub, d_true, d_false, clsOf, beq_self_eq_true, Int.reduceToNat, Nat.reduceAdd, Nat.reduceMul, Nat.reduceEqDiff, decide_true, decide_false, if_true, if_false, ite_true, ite_false, reduceIte, reduceCtorEq, eq_self, true_and, and_true, true_implies, g5]
      · simp (config := { maxSteps := 1000000 }) (disch := (first | assumption | omega | exact Nm.old_n (by omega) | exact Nm.old_hp (by assumption) | (simp only [List.length_set, List.length_cons, List.length_nil, List.length_append, List.length_map, List.length_replicate] <;> omega))) only [nmS0, nmS1, nmS2, nmS3, nmS4, nmS5, nmS6, nmS7, Nat.testBit, Nat.reduceShiftRight, Nat.reduceAnd, Nat.reduceBNe, cond_true, cond_false, NT.get_leaf, Nat.reduceSub, d_true, d_false, clsOf, beq_self_eq_true, Int.reduceToNat, Nat.reduceAdd, Nat.reduceMul, Nat.reduceEqDiff, decide_true, decide_false, if_true, if_false, ite_true, ite_false, reduceIte, reduceCtorEq, eq_self, true_and, and_true, true_implies, g6]
      · rw [List.take_add_one, hb]
        simp only [Option.toList_some, List.mem_append, List.mem_singleton, not_or]
        exact ⟨hno, fun q => he q.symm⟩
  · simp (config := { maxSteps := 1000000 }) (disch := (first | assumption | omega | exact Nm.old_n (by omega) | exact Nm.old_hp (by assumption) | (simp only [List.length_set, List.length_cons, List.length_nil, List.length_append, List.length_map, List.length_replicate] <;> omega))) only [nmS0, nmS1, nmS2, nmS3, nmS4, nmS5, nmS6, nmS7, Nat.testBit, Nat.reduceShiftRight, Nat.reduceAnd, Nat.reduceBNe, cond_true, cond_false, NT.get_leaf, Nat.reduceSub, d_true, d_false, clsOf, beq_self_eq_true, Int.reduceToNat, Nat.reduceAdd, Nat.reduceMul, Nat.reduceEqDiff, decide_true, decide_false, if_true, if_false, ite_true, ite_false, reduceIte, reduceCtorEq, eq_self, true_and, and_true, true_implies, g1, g2, hsl]
    rw [hp_nil]
    refine hbad ?_ _ _ ?_ ?_ ?_
    · have : i = 13 := by omega
      subst this
      exact hno
    · simp (config := { maxSteps := 1000000 }) (disch := (first | assumption | omega | exact Nm.old_n (by omega) | exact Nm.old_hp (by assumption) | (simp only [List.length_set, List.length_cons, List.length_nil, List.length_append, List.length_map, List.length_replicate] <;> omega))) only [nmS0, nmS1, nmS2, nmS3, nmS4, nmS5, nmS6, nmS7, Nat.testBit, Nat.reduceShiftRight, Nat.reduceAnd, Nat.reduceBNe, cond_true, cond_false, NT.get_leaf, Nat.reduceSub, d_true, d_false, clsOf, beq_self_eq_true, Int.reduceToNat, Nat.reduceAdd, Nat.reduceMul, Nat.reduceEqDiff, decide_true, decide_false, if_true, if_false, ite_true, ite_false, reduceIte, reduceCtorEq, eq_self, true_and, and_true, true_implies, g5]
    · simp (config := { maxSteps := 1000000 }) (disch := (first | assumption | omega | exact Nm.old_n (by omega) | exact Nm.old_hp (by assumption) | (simp only [List.length_set, List.length_cons, List.length_nil, List.length_append, List.length_map, List.length_replicate] <;> omega))) only [nmS0, nmS1, nmS2, nmS3, nmS4, nmS5, nmS6, nmS7, Nat.testBit, Nat.reduceShiftRight, Nat.reduceAnd, Nat.reduceBNe, cond_true, cond_false, NT.get_leaf, Nat.reduceSub, d_true, d_false, clsOf, beq_self_eq_true, Int.reduceToNat, Nat.reduceAdd, Nat.reduceMul, Nat.reduceEqDiff, decide_true, decide_false, if_true, if_false, ite_true, ite_false, reduceIte, reduceCtorEq, eq_self, true_and, and_true, true_implies, g3]
    · simp (config := { maxSteps := 1000000 }) (disch := (first | assumption | omega | exact Nm.old_n (by omega) | exact Nm.old_hp (by assumption) | (simp only [List.length_set, List.length_cons, List.length_nil, List.length_append, List.length_map, List.length_replicate] <;> omega))) only [nmS0, nmS1, nmS2, nmS3, nmS4, nmS5, nmS6, nmS7, Nat.testBit, Nat.reduceShiftRight, Nat.reduceAnd, Nat.reduceBNe, cond_true, cond_false, NT.get_leaf, Nat.reduceSub, d_true, d_false, clsOf, beq_self_eq_true, Int.reduceToNat, Nat.reduceAdd, Nat.reduceMul, Nat.reduceEqDiff, decide_true, decide_false, if_true, if_false, ite_true, ite_false, reduceIte, reduceCtorEq, eq_self, true_and, and_true, true_implies, g4]
theorem byt_cut' (s : List Nat) (a e : Nat) : ((Byt s).drop a).take (e - a) = Byt (cut s a e) := by
  unfold cut
  rw [List.drop_take]
  simp [List.map_take, List.map_drop]
theorem numV_cut {s : List Nat} {a c : Nat} (hbs : s[a]? = some c) (hD : isD c = true) : numV (cut s a (rowN isD s a)) = if 1 < rowN isD s a - a ∧ c = 48 then none else valL (cut s a (rowN isD s a)) 0 := by
  have ha := (List.getElem?_eq_some_iff.mp hbs).1
  obtain ⟨l, hl⟩ := cut_hd hbs hD
  have hn := cut_len (s := s) (a := a) (rowN_le (p := isD) (s := s) (a := a) (by omega))
  unfold numV
  rw [hn]
  have e : ((cut s a (rowN isD s a))[0]? = some 48) ↔ (c = 48) := by rw [hl]; simp
  by_cases h : 1 < rowN isD s a - a ∧ c = 48
  · rw [if_pos h, if_pos ⟨h.1, e.mpr h.2⟩]
  · rw [if_neg h, if_neg fun q => h ⟨q.1, e.mp q.2⟩]
theorem tokS_dig {s : List Nat} {a c : Nat} (hbs : s[a]? = some c) (hD : isD c = true) : tokS s a = (match numV (cut s a (rowN isD s a)) with | some n => if rowN isI s a = rowN isD s a then some (2, [], n, rowN isD s a) else none | none => none) := by
  have hL : isL c = false := by
    unfold isD at hD; rw [decide_eq_true_eq] at hD
    unfold isL; rw [decide_eq_false_iff_not]; omega
  unfold tokS; rw [hbs]; simp only [hL, hD]; rfl
theorem tokS_badNum {s : List Nat} {a c : Nat} (hbs : s[a]? = some c) (hD : isD c = true) (h : badNum s a) : tokS s a = none := by
  rw [tokS_dig hbs hD, numV_cut hbs hD]
  by_cases h1 : 1 < rowN isD s a - a ∧ c = 48
  · rw [if_pos h1]
  · rw [if_neg h1]
    rcases h with h | h
    · cases valL (cut s a (rowN isD s a)) 0 with
      | none => rfl
      | some n => simp [h]
    · rw [h]
theorem token_r (m : NH) {vb : NV} {s : List Nat} (hs : s.length ≤ 1000000) (h256 : ∀ c ∈ s, c < 256) (hb : Sl m vb 1 (Byt s)) {a : Nat} (ha : a < s.length) :
    ∃ v m', Ret Try.prog S0 18 [vb, ii a] m v m' ∧ (∃ (k0 : Int) (t0 : List Nat) (n0 p : Int), v = .tup [.agg [ii k0, .str t0, .int .u64 (.lit n0), ii a], ii p, ii (if (tokS s a).isSome then 0 else 2)] ∧ ∀ k t n e, tokS s a = some (k, t, n, e) → k0 = k ∧ t0 = t ∧ n0 = n ∧ p = e) ∧ Chg [] m m' := by
  refine WF.ex fun K hK => ?_
  refine WF.of_wpG (fun _ => rfl) nf18_eq (L := [(.a .e, ii a), (.e, vb)]) rfl ?_
  unfold nf18
  simp (config := { maxSteps := 1000000 }) (disch := (first | assumption | omega | exact Nm.old_n (by omega) | exact Nm.old_hp (by assumption) | (simp only [List.length_set, List.length_cons, List.length_nil, List.length_append, List.length_map, List.length_replicate] <;> omega))) only [nmS0, nmS1, nmS2, nmS3, nmS4, nmS5, nmS6, nmS7, Nat.testBit, Nat.reduceShiftRight, Nat.reduceAnd, Nat.reduceBNe, cond_true, cond_false, NT.get_leaf, Nat.reduceSub, d_true, d_false, clsOf, beq_self_eq_true, Int.reduceToNat, Nat.reduceAdd, Nat.reduceMul, Nat.reduceEqDiff, decide_true, decide_false, if_true, if_false, ite_true, ite_false, reduceIte, reduceCtorEq, eq_self, true_and, and_true, true_implies]
  generalize hM0 : hp _ 1 m = M0
  have hC0 : Chg [] m M0 := by rw [← hM0]; exact hp_of rfl
  have r0 : M0.get (na m 0) = some (.cells true [ii 0, .str [], u64 0, ii 0]) := by rw [← hM0]; exact h_getN
  have or0 : Old M0 (na m 0) := by rw [← hM0]; exact old_n (by omega)
  have hb0 := hb.chg hC0 fun _ _ => by simp
  refine tk_r1 hs hb0 (Nat.le_of_lt ha) (by simp (config := { maxSteps := 1000000 }) (disch := (first | assumption | omega | exact Nm.old_n (by omega) | exact Nm.old_hp (by assumption) | (simp only [List.length_set, List.length_cons, List.length_nil, List.length_append, List.length_map, List.length_replicate] <;> omega))) only [nmS0, nmS1, nmS2, nmS3, nmS4, nmS5, nmS6, nmS7, Nat.testBit, Nat.reduceShiftRight, Nat.reduceAnd, Nat.reduceBNe, cond_true, cond_false, NT.get_leaf, Nat.reduceSub, d_true, d_false, clsOf, beq_self_eq_true, Int.reduceToNat, Nat.reduceAdd, Nat.reduceMul, Nat.reduceEqDiff, decide_true, decide_false, if_true, if_false, ite_true, ite_false, reduceIte, reduceCtorEq, eq_self, true_and, and_true, true_implies]) (by simp (config := { maxSteps := 1000000 }) (disch := (first | assumption | omega | exact Nm.old_n (by omega) | exact Nm.old_hp (by assumption) | (simp only [List.length_set, List.length_cons, List.length_nil, List.length_append, List.length_map, List.length_replicate] <;> omega))) only [nmS0, nmS1, nmS2, nmS3, nmS4, nmS5, nmS6, nmS7, Nat.testBit, Nat.reduceShiftRight, Nat.reduceAnd, Nat.reduceBNe, cond_true, cond_false, NT.get_leaf, Nat.reduceSub, d_true, d_false, clsOf, beq_self_eq_true, Int.reduceToNat, Nat.reduceAdd, Nat.reduceMul, Nat.reduceEqDiff, decide_true, decide_false, if_true, if_false, ite_true, ite_false, reduceIte, reduceCtorEq, eq_self, true_and, and_true, true_implies]) (by simp (config := { maxSteps := 1000000 }) (disch := (first | assumption | omega | exact Nm.old_n (by omega) | exact Nm.old_hp (by assumption) | (simp only [List.length_set, List.length_cons, List.length_nil, List.length_append, List.length_map, List.length_replicate] <;> omega))) only [nmS0, nmS1, nmS2, nmS3, nmS4, nmS5, nmS6, nmS7, Nat.testBit, Nat.reduceShiftRight, Nat.reduceAnd, Nat.reduceBNe, cond_true, cond_false, NT.get_leaf, Nat.reduceSub, d_true, d_false, clsOf, beq_self_eq_true, Int.reduceToNat, Nat.reduceAdd, Nat.reduceMul, Nat.reduceEqDiff, decide_true, decide_false, if_true, if_false, ite_true, ite_false, reduceIte, reduceCtorEq, eq_self, true_and, and_true, true_implies]) (f := .ptr (na m 0) 0) (by simp (config := { maxSteps := 1000000 }) (disch := (first | assumption | omega | exact Nm.old_n (by omega) | exact Nm.old_hp (by assumption) | (simp only [List.length_set, List.length_cons, List.length_nil, List.length_append, List.length_map, List.length_replicate] <;> omega))) only [nmS0, nmS1, nmS2, nmS3, nmS4, nmS5, nmS6, nmS7, Nat.testBit, Nat.reduceShiftRight, Nat.reduceAnd, Nat.reduceBNe, cond_true, cond_false, NT.get_leaf, Nat.reduceSub, d_true, d_false, clsOf, beq_self_eq_true, Int.reduceToNat, Nat.reduceAdd, Nat.reduceMul, Nat.reduceEqDiff, decide_true, decide_false, if_true, if_false, ite_true, ite_false, reduceIte, reduceCtorEq, eq_self, true_and, and_true, true_implies]) ?_
  intro L t g1 g2 g3 g4
  rw [← hp_nil M0]
  obtain ⟨id, off, w, c', x1, x2, x3, x4, x5⟩ := hb0.at a (by simpa using ha)
  rw [List.getElem_map] at x5
  have c0 := cell_at x5 0 (by omega)
  rw [Nat.add_zero] at c0
  have hbs : s[a]? = some s[a] := List.getElem?_eq_getElem ha
  have hc256 := h256 s[a] (List.getElem_mem ha)
  generalize hc : s[a] = c at c0 hbs hc256
  have hd : ∀ m, Ret Try.prog S0 31 [u8 c] m (.bool (isD c)) m := fun m => digit_r m c
  have hl : ∀ m, Ret Try.prog S0 25 [u8 c] m (.bool (isL c)) m := fun m => letter_r m c
  generalize hT : puts L t = T at g1 g2 g3 g4
  change wp _ _ _ _ ⟨puts [] T, [], none, _⟩ _ 
  have na_ne : na m 0 ≠ na M0 0 := or0.ne 0
  have na_ne' : na M0 0 ≠ na m 0 := fun e => or0.ne 0 e.symm
  have chF : ∀ (M1 : NH) {MF : NH} {T1 T2 : List D4}, Chg T1 M0 M1 → Chg T2 M1 MF → (∀ i ∈ T1 ++ T2, i = na m 0 ∨ i = na M0 0) → Chg [] m MF := by
    intro M1 MF T1 T2 h1 h2 hi
    refine (hC0.weak (T := T1 ++ T2) (by simp)).trans ((h1.weak (T := T1 ++ T2) (by intro i hi _; simp [hi])).trans h2 (by intro i hi _; simp [hi])) (fun _ h _ => h) |>.weak ?_
    intro i hi' ho
    rcases hi i hi' with rfl | rfl
    · exact absurd ho na_old
    · exact absurd (hC0.old ho) na_old
  cases hD : isD c with
  | true =>
    rw [hD] at hd
    simp (config := { maxSteps := 1000000 }) (disch := (first | assumption | omega | exact Nm.old_n (by omega) | exact Nm.old_hp (by assumption) | (simp only [List.length_set, List.length_cons, List.length_nil, List.length_append, List.length_map, List.length_replicate] <;> omega))) only [nmS0, nmS1, nmS2, nmS3, nmS4, nmS5, nmS6, nmS7, Nat.testBit, Nat.reduceShiftRight, Nat.reduceAnd, Nat.reduceBNe, cond_true, cond_false, NT.get_leaf, Nat.reduceSub, d_true, d_false, clsOf, beq_self_eq_true, Int.reduceToNat, Nat.reduceAdd, Nat.reduceMul, Nat.reduceEqDiff, decide_true, decide_false, if_true, if_false, ite_true, ite_false, reduceIte, reduceCtorEq, eq_self, true_and, and_true, true_implies, g1, g2, g3, g4, x1, x2, c0, (hd _).wf']
    generalize hM1 : hp _ 1 M0 = M1
    have hC1 : Chg [] M0 M1 := by rw [← hM1]; exact hp_of rfl
    have p0 := (hC1.get or0 (by simp)).trans r0
    have op0 := hC1.old or0
    have p1 : M1.get (na M0 0) = some (.cells true [ii 0, .str [], u64 0, ii a]) := by rw [← hM1]; exact h_getN
    have op1 : Old M1 (na M0 0) := by rw [← hM1]; exact old_n (by omega)
    have hb1 := hb0.chg hC1 fun _ _ => by simp
    refine tk_r3 hs hb1 (Nat.le_of_lt ha) p0 p1 op0 op1 (cc := u8 c) ?_ ?_ ?_ ?_ ?_ ?_ ?_ ?_ ?_ ?_
    · simp (config := { maxSteps := 1000000 }) (disch := (first | assumption | omega | exact Nm.old_n (by omega) | exact Nm.old_hp (by assumption) | (simp only [List.length_set, List.length_cons, List.length_nil, List.length_append, List.length_map, List.length_replicate] <;> omega))) only [nmS0, nmS1, nmS2, nmS3, nmS4, nmS5, nmS6, nmS7, Nat.testBit, Nat.reduceShiftRight, Nat.reduceAnd, Nat.reduceBNe, cond_true, cond_false, NT.get_leaf, Nat.reduceSub, d_true, d_false, clsOf, beq_self_eq_true, Int.reduceToNat, Nat.reduceAdd, Nat.reduceMul, Nat.reduceEqDiff, decide_true, decide_false, if_true, if_false, ite_true, ite_false, reduceIte, reduceCtorEq, eq_self, true_and, and_true, true_implies, g1]
    · simp (config := { maxSteps := 1000000 }) (disch := (first | assumption | omega | exact Nm.old_n (by omega) | exact Nm.old_hp (by assumption) | (simp only [List.length_set, List.length_cons, List.length_nil, List.length_append, List.length_map, List.length_replicate] <;> omega))) only [nmS0, nmS1, nmS2, nmS3, nmS4, nmS5, nmS6, nmS7, Nat.testBit, Nat.reduceShiftRight, Nat.reduceAnd, Nat.reduceBNe, cond_true, cond_false, NT.get_leaf, Nat.reduceSub, d_true, d_false, clsOf, beq_self_eq_true, Int.reduceToNat, Nat.reduceAdd, Nat.reduceMul, Nat.reduceEqDiff, decide_true, decide_false, if_true, if_false, ite_true, ite_false, reduceIte, reduceCtorEq, eq_self, true_and, and_true, true_implies, g4]
    · simp (config := { maxSteps := 1000000 }) (disch := (first | assumption | omega | exact Nm.old_n (by omega) | exact Nm.old_hp (by assumption) | (simp only [List.length_set, List.length_cons, List.length_nil, List.length_append, List.length_map, List.length_replicate] <;> omega))) only [nmS0, nmS1, nmS2, nmS3, nmS4, nmS5, nmS6, nmS7, Nat.testBit, Nat.reduceShiftRight, Nat.reduceAnd, Nat.reduceBNe, cond_true, cond_false, NT.get_leaf, Nat.reduceSub, d_true, d_false, clsOf, beq_self_eq_true, Int.reduceToNat, Nat.reduceAdd, Nat.reduceMul, Nat.reduceEqDiff, decide_true, decide_false, if_true, if_false, ite_true, ite_false, reduceIte, reduceCtorEq, eq_self, true_and, and_true, true_implies, g2]
    · simp (config := { maxSteps := 1000000 }) (disch := (first | assumption | omega | exact Nm.old_n (by omega) | exact Nm.old_hp (by assumption) | (simp only [List.length_set, List.length_cons, List.length_nil, List.length_append, List.length_map, List.length_replicate] <;> omega))) only [nmS0, nmS1, nmS2, nmS3, nmS4, nmS5, nmS6, nmS7, Nat.testBit, Nat.reduceShiftRight, Nat.reduceAnd, Nat.reduceBNe, cond_true, cond_false, NT.get_leaf, Nat.reduceSub, d_true, d_false, clsOf, beq_self_eq_true, Int.reduceToNat, Nat.reduceAdd, Nat.reduceMul, Nat.reduceEqDiff, decide_true, decide_false, if_true, if_false, ite_true, ite_false, reduceIte, reduceCtorEq, eq_self, true_and, and_true, true_implies, g3]
    · simp (config := { maxSteps := 1000000 }) (disch := (first | assumption | omega | exact Nm.old_n (by omega) | exact Nm.old_hp (by assumption) | (simp only [List.length_set, List.length_cons, List.length_nil, List.length_append, List.length_map, List.length_replicate] <;> omega))) only [nmS0, nmS1, nmS2, nmS3, nmS4, nmS5, nmS6, nmS7, Nat.testBit, Nat.reduceShiftRight, Nat.reduceAnd, Nat.reduceBNe, cond_true, cond_false, NT.get_leaf, Nat.reduceSub, d_true, d_false, clsOf, beq_self_eq_true, Int.reduceToNat, Nat.reduceAdd, Nat.reduceMul, Nat.reduceEqDiff, decide_true, decide_false, if_true, if_false, ite_true, ite_false, reduceIte, reduceCtorEq, eq_self, true_and, and_true, true_implies]
    · simp (config := { maxSteps := 1000000 }) (disch := (first | assumption | omega | exact Nm.old_n (by omega) | exact Nm.old_hp (by assumption) | (simp only [List.length_set, List.length_cons, List.length_nil, List.length_append, List.length_map, List.length_replicate] <;> omega))) only [nmS0, nmS1, nmS2, nmS3, nmS4, nmS5, nmS6, nmS7, Nat.testBit, Nat.reduceShiftRight, Nat.reduceAnd, Nat.reduceBNe, cond_true, cond_false, NT.get_leaf, Nat.reduceSub, d_true, d_false, clsOf, beq_self_eq_true, Int.reduceToNat, Nat.reduceAdd, Nat.reduceMul, Nat.reduceEqDiff, decide_true, decide_false, if_true, if_false, ite_true, ite_false, reduceIte, reduceCtorEq, eq_self, true_and, and_true, true_implies]; rfl
    · simp (config := { maxSteps := 1000000 }) (disch := (first | assumption | omega | exact Nm.old_n (by omega) | exact Nm.old_hp (by assumption) | (simp only [List.length_set, List.length_cons, List.length_nil, List.length_append, List.length_map, List.length_replicate] <;> omega))) only [nmS0, nmS1, nmS2, nmS3, nmS4, nmS5, nmS6, nmS7, Nat.testBit, Nat.reduceShiftRight, Nat.reduceAnd, Nat.reduceBNe, cond_true, cond_false, NT.get_leaf, Nat.reduceSub, d_true, d_false, clsOf, beq_self_eq_true, Int.reduceToNat, Nat.reduceAdd, Nat.reduceMul, Nat.reduceEqDiff, decide_true, decide_false, if_true, if_false, ite_true, ite_false, reduceIte, reduceCtorEq, eq_self, true_and, and_true, true_implies, g2]
    · simp (config := { maxSteps := 1000000 }) (disch := (first | assumption | omega | exact Nm.old_n (by omega) | exact Nm.old_hp (by assumption) | (simp only [List.length_set, List.length_cons, List.length_nil, List.length_append, List.length_map, List.length_replicate] <;> omega))) only [nmS0, nmS1, nmS2, nmS3, nmS4, nmS5, nmS6, nmS7, Nat.testBit, Nat.reduceShiftRight, Nat.reduceAnd, Nat.reduceBNe, cond_true, cond_false, NT.get_leaf, Nat.reduceSub, d_true, d_false, clsOf, beq_self_eq_true, Int.reduceToNat, Nat.reduceAdd, Nat.reduceMul, Nat.reduceEqDiff, decide_true, decide_false, if_true, if_false, ite_true, ite_false, reduceIte, reduceCtorEq, eq_self, true_and, and_true, true_implies]
    · intro hbn L' t' k1 k2 k3
      generalize puts L' t' = T' at k1 k2 k3
      rw [show M1.put (na m 0) (.cells true [ii 0, .str [], u64 0, ii a]) = hp [(.o (na m 0), .cells true [ii 0, .str [], u64 0, ii a])] 0 M1 from by rw [← h_putO op0, hp_nil]]
      change retG _ K .ret ⟨puts [] T', [], none, _⟩
      have T : tokS s a = none := tokS_badNum hbs hD hbn
      simp (config := { maxSteps := 1000000 }) (disch := (first | assumption | omega | exact Nm.old_n (by omega) | exact Nm.old_hp (by assumption) | (simp only [List.length_set, List.length_cons, List.length_nil, List.length_append, List.length_map, List.length_replicate] <;> omega))) only [nmS0, nmS1, nmS2, nmS3, nmS4, nmS5, nmS6, nmS7, Nat.testBit, Nat.reduceShiftRight, Nat.reduceAnd, Nat.reduceBNe, cond_true, cond_false, NT.get_leaf, Nat.reduceSub, d_true, d_false, clsOf, beq_self_eq_true, Int.reduceToNat, Nat.reduceAdd, Nat.reduceMul, Nat.reduceEqDiff, decide_true, decide_false, if_true, if_false, ite_true, ite_false, reduceIte, reduceCtorEq, eq_self, true_and, and_true, true_implies, k1, k2, k3]
      refine hK _ _ ⟨⟨_, _, _, _, by rw [T]; rfl, ?_⟩, chF M1 hC1 (hp_of rfl) (by simp [oldK])⟩
      intro k t n e he; rw [T] at he; cases he
    · intro n hrr hv L' t' k1 k2 k3 k4 k5 k6
      generalize puts L' t' = T' at k1 k2 k3 k4 k5 k6
      rw [← hp_nil M1]
      change wp _ _ _ _ ⟨puts [] T', [], none, _⟩ _
      have hge : a ≤ rowN isI s a := rowN_ge
      have hle : rowN isI s a ≤ s.length := rowN_le (Nat.le_of_lt ha)
      by_cases h48 : c = 48
      · by_cases hgt : a + 1 < rowN isI s a
        · have T : tokS s a = none := by rw [tokS_dig hbs hD, numV_cut hbs hD, if_pos ⟨by omega, h48⟩]
          simp (config := { maxSteps := 1000000 }) (disch := (first | assumption | omega | exact Nm.old_n (by omega) | exact Nm.old_hp (by assumption) | (simp only [List.length_set, List.length_cons, List.length_nil, List.length_append, List.length_map, List.length_replicate] <;> omega))) only [nmS0, nmS1, nmS2, nmS3, nmS4, nmS5, nmS6, nmS7, Nat.testBit, Nat.reduceShiftRight, Nat.reduceAnd, Nat.reduceBNe, cond_true, cond_false, NT.get_leaf, Nat.reduceSub, d_true, d_false, clsOf, beq_self_eq_true, Int.reduceToNat, Nat.reduceAdd, Nat.reduceMul, Nat.reduceEqDiff, decide_true, decide_false, if_true, if_false, ite_true, ite_false, reduceIte, reduceCtorEq, eq_self, true_and, and_true, true_implies, k1, k2, k3, k4, k5, k6, p0, p1]
          refine hK _ _ ⟨⟨_, _, _, _, by rw [T]; rfl, ?_⟩, chF M1 hC1 (hp_of rfl) (by simp [oldK])⟩
          intro k t n e he; rw [T] at he; cases he
        · have T : tokS s a = some (2, [], n, rowN isD s a) := by rw [tokS_dig hbs hD, numV_cut hbs hD, if_neg (by omega), hv]; simp [hrr]
          simp (config := { maxSteps := 1000000 }) (disch := (first | assumption | omega | exact Nm.old_n (by omega) | exact Nm.old_hp (by assumption) | (simp only [List.length_set, List.length_cons, List.length_nil, List.length_append, List.length_map, List.length_replicate] <;> omega))) only [nmS0, nmS1, nmS2, nmS3, nmS4, nmS5, nmS6, nmS7, Nat.testBit, Nat.reduceShiftRight, Nat.reduceAnd, Nat.reduceBNe, cond_true, cond_false, NT.get_leaf, Nat.reduceSub, d_true, d_false, clsOf, beq_self_eq_true, Int.reduceToNat, Nat.reduceAdd, Nat.reduceMul, Nat.reduceEqDiff, decide_true, decide_false, if_true, if_false, ite_true, ite_false, reduceIte, reduceCtorEq, eq_self, true_and, and_true, true_implies, k1, k2, k3, k4, k5, k6, p0, p1, na_ne]
          refine hK _ _ ⟨⟨_, _, _, _, by rw [T]; rfl, ?_⟩, chF M1 hC1 (hp_of rfl) (by simp [oldK])⟩
          intro k t n e he; rw [T] at he; cases he
          exact ⟨rfl, rfl, rfl, by rw [hrr]⟩
      · have T : tokS s a = some (2, [], n, rowN isD s a) := by rw [tokS_dig hbs hD, numV_cut hbs hD, if_neg (by omega), hv]; simp [hrr]
        simp (config := { maxSteps := 1000000 }) (disch := (first | assumption | omega | exact Nm.old_n (by omega) | exact Nm.old_hp (by assumption) | (simp only [List.length_set, List.length_cons, List.length_nil, List.length_append, List.length_map, List.length_replicate] <;> omega))) only [nmS0, nmS1, nmS2, nmS3, nmS4, nmS5, nmS6, nmS7, Nat.testBit, Nat.reduceShiftRight, Nat.reduceAnd, Nat.reduceBNe, cond_true, cond_false, NT.get_leaf, Nat.reduceSub, d_true, d_false, clsOf, beq_self_eq_true, Int.reduceToNat, Nat.reduceAdd, Nat.reduceMul, Nat.reduceEqDiff, decide_true, decide_false, if_true, if_false, ite_true, ite_false, reduceIte, reduceCtorEq, eq_self, true_and, and_true, true_implies, k1, k2, k3, k4, k5, k6, p0, p1, na_ne]
        refine hK _ _ ⟨⟨_, _, _, _, by rw [T]; rfl, ?_⟩, chF M1 hC1 (hp_of rfl) (by simp [oldK])⟩
        intro k t n e he; rw [T] at he; cases he
        exact ⟨rfl, rfl, rfl, by rw [hrr]⟩
  | false =>
    rw [hD] at hd
    cases hL : isL c with
    | true =>
      rw [hL] at hl
      simp (config := { maxSteps := 1000000 }) (disch := (first | assumption | omega | exact Nm.old_n (by omega) | exact Nm.old_hp (by assumption) | (simp only [List.length_set, List.length_cons, List.length_nil, List.length_append, List.length_map, List.length_replicate] <;> omega))) only [nmS0, nmS1, nmS2, nmS3, nmS4, nmS5, nmS6, nmS7, Nat.testBit, Nat.reduceShiftRight, Nat.reduceAnd, Nat.reduceBNe, cond_true, cond_false, NT.get_leaf, Nat.reduceSub, d_true, d_false, clsOf, beq_self_eq_true, Int.reduceToNat, Nat.reduceAdd, Nat.reduceMul, Nat.reduceEqDiff, decide_true, decide_false, if_true, if_false, ite_true, ite_false, reduceIte, reduceCtorEq, eq_self, true_and, and_true, true_implies, g1, g2, g3, g4, x1, x2, c0, (hd _).wf', (hl _).wf']
      generalize hM1 : hp _ 1 M0 = M1
      have hC1 : Chg [] M0 M1 := by rw [← hM1]; exact hp_of rfl
      have op0 := hC1.old or0
      have p1 : M1.get (na M0 0) = some (.cells true [ii 0, .str [], u64 0, ii a]) := by rw [← hM1]; exact h_getN
      have op1 : Old M1 (na M0 0) := by rw [← hM1]; exact old_n (by omega)
      have hb1 := hb0.chg hC1 fun _ _ => by simp
      have p0 := (hC1.get or0 (by simp)).trans r0
      have hge : a ≤ rowN isI s a := rowN_ge
      have hle : rowN isI s a ≤ s.length := rowN_le (Nat.le_of_lt ha)
      refine wNT_ssl (a := a) (b := rowN isI s a) hb1 hge (by simpa using hle) ?_ ?_ ?_
      · intro K; simp (config := { maxSteps := 1000000 }) (disch := (first | assumption | omega | exact Nm.old_n (by omega) | exact Nm.old_hp (by assumption) | (simp only [List.length_set, List.length_cons, List.length_nil, List.length_append, List.length_map, List.length_replicate] <;> omega))) only [nmS0, nmS1, nmS2, nmS3, nmS4, nmS5, nmS6, nmS7, Nat.testBit, Nat.reduceShiftRight, Nat.reduceAnd, Nat.reduceBNe, cond_true, cond_false, NT.get_leaf, Nat.reduceSub, d_true, d_false, clsOf, beq_self_eq_true, Int.reduceToNat, Nat.reduceAdd, Nat.reduceMul, Nat.reduceEqDiff, decide_true, decide_false, if_true, if_false, ite_true, ite_false, reduceIte, reduceCtorEq, eq_self, true_and, and_true, true_implies]
      · intro d K hd; simp (config := { maxSteps := 1000000 }) (disch := (first | assumption | omega | exact Nm.old_n (by omega) | exact Nm.old_hp (by assumption) | (simp only [List.length_set, List.length_cons, List.length_nil, List.length_append, List.length_map, List.length_replicate] <;> omega))) only [nmS0, nmS1, nmS2, nmS3, nmS4, nmS5, nmS6, nmS7, Nat.testBit, Nat.reduceShiftRight, Nat.reduceAnd, Nat.reduceBNe, cond_true, cond_false, NT.get_leaf, Nat.reduceSub, d_true, d_false, clsOf, beq_self_eq_true, Int.reduceToNat, Nat.reduceAdd, Nat.reduceMul, Nat.reduceEqDiff, decide_true, decide_false, if_true, if_false, ite_true, ite_false, reduceIte, reduceCtorEq, eq_self, true_and, and_true, true_implies]
      intro v' hv' _
      rw [byt_cut'] at hv'
      have hbt := hv'.bts (fun c hc => h256 c (List.mem_of_mem_take (List.mem_of_mem_drop hc)))
      rw [← hp_nil M1]
      have hbt : btsV (hp [] 0 M1) v' = .val (.str (cut s a (rowN isI s a))) := by rw [hp_nil]; exact hbt
      simp (config := { maxSteps := 1000000 }) (disch := (first | assumption | omega | exact Nm.old_n (by omega) | exact Nm.old_hp (by assumption) | (simp only [List.length_set, List.length_cons, List.length_nil, List.length_append, List.length_map, List.length_replicate] <;> omega))) only [nmS0, nmS1, nmS2, nmS3, nmS4, nmS5, nmS6, nmS7, Nat.testBit, Nat.reduceShiftRight, Nat.reduceAnd, Nat.reduceBNe, cond_true, cond_false, NT.get_leaf, Nat.reduceSub, d_true, d_false, clsOf, beq_self_eq_true, Int.reduceToNat, Nat.reduceAdd, Nat.reduceMul, Nat.reduceEqDiff, decide_true, decide_false, if_true, if_false, ite_true, ite_false, reduceIte, reduceCtorEq, eq_self, true_and, and_true, true_implies, g1, g2, g3, g4, hbt, p1]
      generalize hM2 : hp _ 0 M1 = M2
      have hC2 : Chg [na M0 0] M1 M2 := by rw [← hM2]; exact (hp_of rfl).weak (by simp [oldK])
      have s0 := (hC2.get op0 (by simpa using na_ne)).trans p0
      have s1 : M2.get (na M0 0) = some (.cells true [ii 1, .str (cut s a (rowN isI s a)), u64 0, ii a]) := by rw [← hM2]; simp (config := { maxSteps := 1000000 }) (disch := (first | assumption | omega | exact Nm.old_n (by omega) | exact Nm.old_hp (by assumption) | (simp only [List.length_set, List.length_cons, List.length_nil, List.length_append, List.length_map, List.length_replicate] <;> omega))) only [nmS0, nmS1, nmS2, nmS3, nmS4, nmS5, nmS6, nmS7, Nat.testBit, Nat.reduceShiftRight, Nat.reduceAnd, Nat.reduceBNe, cond_true, cond_false, NT.get_leaf, Nat.reduceSub, d_true, d_false, clsOf, beq_self_eq_true, Int.reduceToNat, Nat.reduceAdd, Nat.reduceMul, Nat.reduceEqDiff, decide_true, decide_false, if_true, if_false, ite_true, ite_false, reduceIte, reduceCtorEq, eq_self, true_and, and_true, true_implies]
      have os0 := hC2.old op0
      have os1 := hC2.old op1
      obtain ⟨wv, M3, hw, rfl, hC3⟩ := word_r M2 (cut s a (rowN isI s a))
      have y0 := (hC3.get os0 (by simp)).trans s0
      have y1 := (hC3.get os1 (by simp)).trans s1
      have oy0 := hC3.old os0
      have oy1 := hC3.old os1
      have hC13 : Chg [na M0 0] M0 M3 := (hC1.weak (T := [na M0 0]) (by simp)).trans ((hC2.weak (T := [na M0 0]) (by simp)).trans (hC3.weak (T := [na M0 0]) (by simp)) (fun _ h _ => h)) (fun _ h _ => h)
      have TT : tokS s a = (if cut s a (rowN isI s a) ∈ wordsL then some (4, cut s a (rowN isI s a), 0, rowN isI s a) else if (cut s a (rowN isI s a)).length ≤ 16 then some (1, cut s a (rowN isI s a), 0, rowN isI s a) else none) := by
        unfold tokS; rw [hbs]; simp only [hL]; rfl
      by_cases hwd : cut s a (rowN isI s a) ∈ wordsL
      · rw [decide_eq_true hwd] at hw
        rw [if_pos hwd] at TT
        simp (config := { maxSteps := 1000000 }) (disch := (first | assumption | omega | exact Nm.old_n (by omega) | exact Nm.old_hp (by assumption) | (simp only [List.length_set, List.length_cons, List.length_nil, List.length_append, List.length_map, List.length_replicate] <;> omega))) only [nmS0, nmS1, nmS2, nmS3, nmS4, nmS5, nmS6, nmS7, Nat.testBit, Nat.reduceShiftRight, Nat.reduceAnd, Nat.reduceBNe, cond_true, cond_false, NT.get_leaf, Nat.reduceSub, d_true, d_false, clsOf, beq_self_eq_true, Int.reduceToNat, Nat.reduceAdd, Nat.reduceMul, Nat.reduceEqDiff, decide_true, decide_false, if_true, if_false, ite_true, ite_false, reduceIte, reduceCtorEq, eq_self, true_and, and_true, true_implies, hw.wf, g1, g2, g3, g4, y0, y1]
        refine hK _ _ ⟨⟨_, _, _, _, by rw [TT]; rfl, ?_⟩, chF M3 hC13 (hp_of rfl) (by simp [oldK])⟩
        intro k t n e he; rw [TT] at he; cases he
        exact ⟨rfl, rfl, rfl, rfl⟩
      · rw [decide_eq_false hwd] at hw
        rw [if_neg hwd] at TT
        by_cases h16 : (cut s a (rowN isI s a)).length ≤ 16
        · rw [if_pos h16] at TT
          simp (config := { maxSteps := 1000000 }) (disch := (first | assumption | omega | exact Nm.old_n (by omega) | exact Nm.old_hp (by assumption) | (simp only [List.length_set, List.length_cons, List.length_nil, List.length_append, List.length_map, List.length_replicate] <;> omega))) only [nmS0, nmS1, nmS2, nmS3, nmS4, nmS5, nmS6, nmS7, Nat.testBit, Nat.reduceShiftRight, Nat.reduceAnd, Nat.reduceBNe, cond_true, cond_false, NT.get_leaf, Nat.reduceSub, d_true, d_false, clsOf, beq_self_eq_true, Int.reduceToNat, Nat.reduceAdd, Nat.reduceMul, Nat.reduceEqDiff, decide_true, decide_false, if_true, if_false, ite_true, ite_false, reduceIte, reduceCtorEq, eq_self, true_and, and_true, true_implies, hw.wf, g1, g2, g3, g4, y0, y1]
          refine hK _ _ ⟨⟨_, _, _, _, by rw [TT]; rfl, ?_⟩, chF M3 hC13 (hp_of rfl) (by simp [oldK])⟩
          intro k t n e he; rw [TT] at he; cases he
          exact ⟨rfl, rfl, rfl, rfl⟩
        · rw [if_neg h16] at TT
          simp (config := { maxSteps := 1000000 }) (disch := (first | assumption | omega | exact Nm.old_n (by omega) | exact Nm.old_hp (by assumption) | (simp only [List.length_set, List.length_cons, List.length_nil, List.length_append, List.length_map, List.length_replicate] <;> omega))) only [nmS0, nmS1, nmS2, nmS3, nmS4, nmS5, nmS6, nmS7, Nat.testBit, Nat.reduceShiftRight, Nat.reduceAnd, Nat.reduceBNe, cond_true, cond_false, NT.get_leaf, Nat.reduceSub, d_true, d_false, clsOf, beq_self_eq_true, Int.reduceToNat, Nat.reduceAdd, Nat.reduceMul, Nat.reduceEqDiff, decide_true, decide_false, if_true, if_false, ite_true, ite_false, reduceIte, reduceCtorEq, eq_self, true_and, and_true, true_implies, hw.wf, g1, g2, g3, g4, y0, y1]
          refine hK _ _ ⟨⟨_, _, _, _, by rw [TT]; rfl, ?_⟩, chF M3 hC13 (hp_of rfl) (by simp [oldK])⟩
          intro k t n e he; rw [TT] at he; cases he
    | false =>
      rw [hL] at hl
      simp (config := { maxSteps := 1000000 }) (disch := (first | assumption | omega | exact Nm.old_n (by omega) | exact Nm.old_hp (by assumption) | (simp only [List.length_set, List.length_cons, List.length_nil, List.length_append, List.length_map, List.length_replicate] <;> omega))) only [nmS0, nmS1, nmS2, nmS3, nmS4, nmS5, nmS6, nmS7, Nat.testBit, Nat.reduceShiftRight, Nat.reduceAnd, Nat.reduceBNe, cond_true, cond_false, NT.get_leaf, Nat.reduceSub, d_true, d_false, clsOf, beq_self_eq_true, Int.reduceToNat, Nat.reduceAdd, Nat.reduceMul, Nat.reduceEqDiff, decide_true, decide_false, if_true, if_false, ite_true, ite_false, reduceIte, reduceCtorEq, eq_self, true_and, and_true, true_implies, g1, g2, g3, g4, x1, x2, c0, (hd _).wf', (hl _).wf']
      generalize hM1 : hp _ 1 M0 = M1
      have hC1 : Chg [] M0 M1 := by rw [← hM1]; exact hp_of rfl
      have p0 := (hC1.get or0 (by simp)).trans r0
      have op0 := hC1.old or0
      have p1 : M1.get (na M0 0) = some (.cells true [ii 0, .str [], u64 0, ii a]) := by rw [← hM1]; exact h_getN
      have op1 : Old M1 (na M0 0) := by rw [← hM1]; exact old_n (by omega)
      have T : tokS s a = if c ∈ signsL then some (3, [c], 0, a + 1) else none := by unfold tokS; rw [hbs]; simp [hL, hD]
      refine tk_r2 (c := c) (a := a) (by omega) p0 p1 op0 op1 na_ne ?_ ?_ ?_ ?_ ?_ ?_ ?_ ?_
      · simp (config := { maxSteps := 1000000 }) (disch := (first | assumption | omega | exact Nm.old_n (by omega) | exact Nm.old_hp (by assumption) | (simp only [List.length_set, List.length_cons, List.length_nil, List.length_append, List.length_map, List.length_replicate] <;> omega))) only [nmS0, nmS1, nmS2, nmS3, nmS4, nmS5, nmS6, nmS7, Nat.testBit, Nat.reduceShiftRight, Nat.reduceAnd, Nat.reduceBNe, cond_true, cond_false, NT.get_leaf, Nat.reduceSub, d_true, d_false, clsOf, beq_self_eq_true, Int.reduceToNat, Nat.reduceAdd, Nat.reduceMul, Nat.reduceEqDiff, decide_true, decide_false, if_true, if_false, ite_true, ite_false, reduceIte, reduceCtorEq, eq_self, true_and, and_true, true_implies]; rfl
      · simp (config := { maxSteps := 1000000 }) (disch := (first | assumption | omega | exact Nm.old_n (by omega) | exact Nm.old_hp (by assumption) | (simp only [List.length_set, List.length_cons, List.length_nil, List.length_append, List.length_map, List.length_replicate] <;> omega))) only [nmS0, nmS1, nmS2, nmS3, nmS4, nmS5, nmS6, nmS7, Nat.testBit, Nat.reduceShiftRight, Nat.reduceAnd, Nat.reduceBNe, cond_true, cond_false, NT.get_leaf, Nat.reduceSub, d_true, d_false, clsOf, beq_self_eq_true, Int.reduceToNat, Nat.reduceAdd, Nat.reduceMul, Nat.reduceEqDiff, decide_true, decide_false, if_true, if_false, ite_true, ite_false, reduceIte, reduceCtorEq, eq_self, true_and, and_true, true_implies]
      · simp (config := { maxSteps := 1000000 }) (disch := (first | assumption | omega | exact Nm.old_n (by omega) | exact Nm.old_hp (by assumption) | (simp only [List.length_set, List.length_cons, List.length_nil, List.length_append, List.length_map, List.length_replicate] <;> omega))) only [nmS0, nmS1, nmS2, nmS3, nmS4, nmS5, nmS6, nmS7, Nat.testBit, Nat.reduceShiftRight, Nat.reduceAnd, Nat.reduceBNe, cond_true, cond_false, NT.get_leaf, Nat.reduceSub, d_true, d_false, clsOf, beq_self_eq_true, Int.reduceToNat, Nat.reduceAdd, Nat.reduceMul, Nat.reduceEqDiff, decide_true, decide_false, if_true, if_false, ite_true, ite_false, reduceIte, reduceCtorEq, eq_self, true_and, and_true, true_implies, g2]
      · simp (config := { maxSteps := 1000000 }) (disch := (first | assumption | omega | exact Nm.old_n (by omega) | exact Nm.old_hp (by assumption) | (simp only [List.length_set, List.length_cons, List.length_nil, List.length_append, List.length_map, List.length_replicate] <;> omega))) only [nmS0, nmS1, nmS2, nmS3, nmS4, nmS5, nmS6, nmS7, Nat.testBit, Nat.reduceShiftRight, Nat.reduceAnd, Nat.reduceBNe, cond_true, cond_false, NT.get_leaf, Nat.reduceSub, d_true, d_false, clsOf, beq_self_eq_true, Int.reduceToNat, Nat.reduceAdd, Nat.reduceMul, Nat.reduceEqDiff, decide_true, decide_false, if_true, if_false, ite_true, ite_false, reduceIte, reduceCtorEq, eq_self, true_and, and_true, true_implies, g3]
      · simp (config := { maxSteps := 1000000 }) (disch := (first | assumption | omega | exact Nm.old_n (by omega) | exact Nm.old_hp (by assumption) | (simp only [List.length_set, List.length_cons, List.length_nil, List.length_append, List.length_map, List.length_replicate] <;> omega))) only [nmS0, nmS1, nmS2, nmS3, nmS4, nmS5, nmS6, nmS7, Nat.testBit, Nat.reduceShiftRight, Nat.reduceAnd, Nat.reduceBNe, cond_true, cond_false, NT.get_leaf, Nat.reduceSub, d_true, d_false, clsOf, beq_self_eq_true, Int.reduceToNat, Nat.reduceAdd, Nat.reduceMul, Nat.reduceEqDiff, decide_true, decide_false, if_true, if_false, ite_true, ite_false, reduceIte, reduceCtorEq, eq_self, true_and, and_true, true_implies]
      · simp (config := { maxSteps := 1000000 }) (disch := (first | assumption | omega | exact Nm.old_n (by omega) | exact Nm.old_hp (by assumption) | (simp only [List.length_set, List.length_cons, List.length_nil, List.length_append, List.length_map, List.length_replicate] <;> omega))) only [nmS0, nmS1, nmS2, nmS3, nmS4, nmS5, nmS6, nmS7, Nat.testBit, Nat.reduceShiftRight, Nat.reduceAnd, Nat.reduceBNe, cond_true, cond_false, NT.get_leaf, Nat.reduceSub, d_true, d_false, clsOf, beq_self_eq_true, Int.reduceToNat, Nat.reduceAdd, Nat.reduceMul, Nat.reduceEqDiff, decide_true, decide_false, if_true, if_false, ite_true, ite_false, reduceIte, reduceCtorEq, eq_self, true_and, and_true, true_implies]
      · intro hm L' t' m' q0 hCm k1 k2 k3
        rw [if_pos hm] at T
        generalize puts L' t' = T' at k1 k2 k3
        change retG _ K .ret ⟨puts [] T', [], none, m'⟩
        simp (config := { maxSteps := 1000000 }) (disch := (first | assumption | omega | exact Nm.old_n (by omega) | exact Nm.old_hp (by assumption) | (simp only [List.length_set, List.length_cons, List.length_nil, List.length_append, List.length_map, List.length_replicate] <;> omega))) only [nmS0, nmS1, nmS2, nmS3, nmS4, nmS5, nmS6, nmS7, Nat.testBit, Nat.reduceShiftRight, Nat.reduceAnd, Nat.reduceBNe, cond_true, cond_false, NT.get_leaf, Nat.reduceSub, d_true, d_false, clsOf, beq_self_eq_true, Int.reduceToNat, Nat.reduceAdd, Nat.reduceMul, Nat.reduceEqDiff, decide_true, decide_false, if_true, if_false, ite_true, ite_false, reduceIte, reduceCtorEq, eq_self, true_and, and_true, true_implies, k1, k2, k3, q0]
        refine hK _ _ ⟨⟨_, _, _, _, by rw [T]; rfl, ?_⟩, chF M1 hC1 hCm (by simp)⟩
        intro k t n e he; rw [T] at he; cases he
        exact ⟨rfl, rfl, rfl, by omega⟩
      · intro hm L' t' k1 k2 k3
        rw [if_neg hm] at T
        generalize puts L' t' = T' at k1 k2 k3
        rw [← hp_nil M1]
        change wp _ _ _ _ ⟨puts [] T', [], none, _⟩ _
        simp (config := { maxSteps := 1000000 }) (disch := (first | assumption | omega | exact Nm.old_n (by omega) | exact Nm.old_hp (by assumption) | (simp only [List.length_set, List.length_cons, List.length_nil, List.length_append, List.length_map, List.length_replicate] <;> omega))) only [nmS0, nmS1, nmS2, nmS3, nmS4, nmS5, nmS6, nmS7, Nat.testBit, Nat.reduceShiftRight, Nat.reduceAnd, Nat.reduceBNe, cond_true, cond_false, NT.get_leaf, Nat.reduceSub, d_true, d_false, clsOf, beq_self_eq_true, Int.reduceToNat, Nat.reduceAdd, Nat.reduceMul, Nat.reduceEqDiff, decide_true, decide_false, if_true, if_false, ite_true, ite_false, reduceIte, reduceCtorEq, eq_self, true_and, and_true, true_implies, k1, k2, k3, p0, p1]
        refine hK _ _ ⟨⟨_, _, _, _, by rw [T]; rfl, ?_⟩, chF M1 hC1 (hp_of rfl) (by simp [oldK])⟩
        intro k t n e he; rw [T] at he; cases he
end LX

open Go Nm Go.Proofs
namespace LX
set_option linter.unusedSimpArgs false
set_option linter.unusedVariables false
theorem toks_r1 {m M0 : NH} {vb : NV} {s : List Nat} (hs : s.length ≤ 16384) (h256 : ∀ c ∈ s, c < 256) (hb : Sl m vb 1 (Byt s)) (hCm : Chg [] m M0) {t : Tm}
    (g1 : NT.get D4.e t = some vb) (g2 : NT.get D4.e.a.a t = some .nils) (g3 : NT.get D4.e.a.b t = some (ii ((skipN s 0 : Nat) : Int))) {Q : Out → Dyn → Prop}
    (hbad : ∀ a, (toks s).2 = some a → ∀ L t' M, Chg [] m M → NT.get D4.e.b (puts L t') = some .nils → NT.get D4.e.c (puts L t') = some (ii a) → NT.get D4.e.f (puts L t') = some (ii 2) → Q .ret ⟨puts L t', [], none, M⟩)
    (hok : ∀ T, toks s = (T ++ [⟨5, [], 0, s.length⟩], none) → ∀ L t' M u, Chg [] m M → Own m M u 4 (T.map Tok.l) → NT.get D4.e (puts L t') = some vb → NT.get D4.e.a.a (puts L t') = some u → Q (.exit 0) ⟨puts L t', [], none, M⟩) :
    W Try.prog S0 none nf10_l1.loop ⟨t, [], none, M0⟩ Q := by
  have hsk0 : skipN s 0 ≤ s.length := skipN_le (Nat.zero_le _)
  refine W.loop (fun k d => ∃ t M i L u, d = ⟨t, [], none, M⟩ ∧ NT.get D4.e t = some vb ∧ NT.get D4.e.a.a t = some u ∧ NT.get D4.e.a.b t = some (ii (i : Nat)) ∧ i ≤ s.length ∧ s.length ≤ i + k ∧ Chg [] m M ∧ Own m M u 4 (L.map Tok.l) ∧ toks s = (L ++ (toksL s (k + 1) i).1, (toksL s (k + 1) i).2)) ?_ s.length _
    ⟨_, M0, skipN s 0, [], .nils, rfl, g1, g2, g3, hsk0, by omega, hCm, Own.nil, rfl⟩
  rintro k d ⟨t, M, i, L, u, rfl, g1, g2, g3, hi, hik, hC, hu, hT⟩
  apply wp_sound
  unfold nf10_l1
  change wp _ _ _ _ ⟨puts [] t, [], none, M⟩ _
  rw [← hp_nil M]
  have hLl : L.length ≤ s.length + 1 := by
    have h := toksL_len s (s.length + 1) (skipN s 0)
    have h2 : (toks s).1.length = _ := congrArg (fun x => x.1.length) hT
    rw [List.length_append] at h2
    have h3 : (toks s).1.length ≤ s.length + 1 := h
    omega
  have hbM := hb.chg hC fun _ _ => by simp
  have hlen := hbM.len
  rw [show (Byt s).length = s.length by simp] at hlen
  by_cases hlt : i < s.length
  · obtain ⟨k, rfl⟩ : ∃ k', k = k' + 1 := ⟨k - 1, by omega⟩
    have hTs : toksL s (k + 1 + 1) i = (match tokS s i with
      | none => ([], some i)
      | some (kd, t, n, e) => (⟨kd, t, n, i⟩ :: (toksL s (k + 1) (skipN s e)).1, (toksL s (k + 1) (skipN s e)).2)) := by
      rw [toksL, if_pos hlt]
      cases tokS s i with
      | none => rfl
      | some x => rfl
    obtain ⟨v, M2, hr, ⟨k0, t0, n0, p, rfl, htk⟩, hC2⟩ := token_r (hp [] 0 M) (by omega) h256 (by rw [hp_nil]; exact hbM) hlt
    have hC2 : Chg [] M M2 := by rw [hp_nil] at hC2; exact hC2
    cases hk : tokS s i with
    | none =>
      rw [hk] at hr
      have hr : Ret Try.prog S0 18 [vb, ii i] (hp [] 0 M) (.tup [.agg [ii k0, .str t0, .int .u64 (.lit n0), ii i], ii p, ii 2]) M2 := hr
      rw [hTs, hk] at hT
      simp (config := { maxSteps := 1000000 }) (disch := (first | assumption | omega | exact Nm.old_n (by omega) | exact Nm.old_hp (by assumption) | (simp only [List.length_set, List.length_cons, List.length_nil, List.length_append, List.length_map, List.length_replicate] <;> omega))) only [nmS0, nmS1, nmS2, nmS3, nmS4, nmS5, nmS6, nmS7, Nat.testBit, Nat.reduceShiftRight, Nat.reduceAnd, Nat.reduceBNe, cond_true, cond_false, NT.get_leaf, Nat.reduceSub, d_true, d_false, clsOf, beq_self_eq_true, Int.reduceToNat, Nat.reduceAdd, Nat.reduceMul, Nat.reduceEqDiff, decide_true, decide_false, if_true, if_false, ite_true, ite_false, reduceIte, reduceCtorEq, eq_self, true_and, and_true, true_implies, g1, g2, g3, hlen, hr.wf]
      refine hbad i (by rw [hT]) _ _ _ ((hC.trans hC2 (by simp)).trans (hp_of rfl) (by simp [oldK])) ?_ ?_ ?_
      · simp (config := { maxSteps := 1000000 }) (disch := (first | assumption | omega | exact Nm.old_n (by omega) | exact Nm.old_hp (by assumption) | (simp only [List.length_set, List.length_cons, List.length_nil, List.length_append, List.length_map, List.length_replicate] <;> omega))) only [nmS0, nmS1, nmS2, nmS3, nmS4, nmS5, nmS6, nmS7, Nat.testBit, Nat.reduceShiftRight, Nat.reduceAnd, Nat.reduceBNe, cond_true, cond_false, NT.get_leaf, Nat.reduceSub, d_true, d_false, clsOf, beq_self_eq_true, Int.reduceToNat, Nat.reduceAdd, Nat.reduceMul, Nat.reduceEqDiff, decide_true, decide_false, if_true, if_false, ite_true, ite_false, reduceIte, reduceCtorEq, eq_self, true_and, and_true, true_implies]
      · simp (config := { maxSteps := 1000000 }) (disch := (first | assumption | omega | exact Nm.old_n (by omega) | exact Nm.old_hp (by assumption) | (simp only [List.length_set, List.length_cons, List.length_nil, List.length_append, List.length_map, List.length_replicate] <;> omega))) only [nmS0, nmS1, nmS2, nmS3, nmS4, nmS5, nmS6, nmS7, Nat.testBit, Nat.reduceShiftRight, Nat.reduceAnd, Nat.reduceBNe, cond_true, cond_false, NT.get_leaf, Nat.reduceSub, d_true, d_false, clsOf, beq_self_eq_true, Int.reduceToNat, Nat.reduceAdd, Nat.reduceMul, Nat.reduceEqDiff, decide_true, decide_false, if_true, if_false, ite_true, ite_false, reduceIte, reduceCtorEq, eq_self, true_and, and_true, true_implies]
      · simp (config := { maxSteps := 1000000 }) (disch := (first | assumption | omega | exact Nm.old_n (by omega) | exact Nm.old_hp (by assumption) | (simp only [List.length_set, List.length_cons, List.length_nil, List.length_append, List.length_map, List.length_replicate] <;> omega))) only [nmS0, nmS1, nmS2, nmS3, nmS4, nmS5, nmS6, nmS7, Nat.testBit, Nat.reduceShiftRight, Nat.reduceAnd, Nat.reduceBNe, cond_true, cond_false, NT.get_leaf, Nat.reduceSub, d_true, d_false, clsOf, beq_self_eq_true, Int.reduceToNat, Nat.reduceAdd, Nat.reduceMul, Nat.reduceEqDiff, decide_true, decide_false, if_true, if_false, ite_true, ite_false, reduceIte, reduceCtorEq, eq_self, true_and, and_true, true_implies]
    | some x =>
      obtain ⟨kd, tx, n, e⟩ := x
      rw [hk] at hr
      obtain ⟨e0, e1, e2, e3⟩ := htk kd tx n e hk
      rw [e0, e1, e2, e3] at hr
      have hr : Ret Try.prog S0 18 [vb, ii i] (hp [] 0 M) (.tup [.agg [ii kd, .str tx, .int .u64 (.lit (n : Int)), ii i], ii e, ii 0]) M2 := hr
      obtain ⟨l1, l2⟩ := tokS_e hk
      simp (config := { maxSteps := 1000000 }) (disch := (first | assumption | omega | exact Nm.old_n (by omega) | exact Nm.old_hp (by assumption) | (simp only [List.length_set, List.length_cons, List.length_nil, List.length_append, List.length_map, List.length_replicate] <;> omega))) only [nmS0, nmS1, nmS2, nmS3, nmS4, nmS5, nmS6, nmS7, Nat.testBit, Nat.reduceShiftRight, Nat.reduceAnd, Nat.reduceBNe, cond_true, cond_false, NT.get_leaf, Nat.reduceSub, d_true, d_false, clsOf, beq_self_eq_true, Int.reduceToNat, Nat.reduceAdd, Nat.reduceMul, Nat.reduceEqDiff, decide_true, decide_false, if_true, if_false, ite_true, ite_false, reduceIte, reduceCtorEq, eq_self, true_and, and_true, true_implies, g1, g2, g3, hlen, hr.wf]
      generalize hM3 : hp _ 2 M2 = M3
      have hC3 : Chg [] M2 M3 := by rw [← hM3]; exact hp_of rfl
      have n1 : M3.get (na M2 1) = some (.cells true (Tok.l ⟨kd, tx, n, i⟩)) := by rw [← hM3]; exact h_getN
      have on1 : Old M3 (na M2 1) := by rw [← hM3]; exact old_n (by omega)
      have hCC : Chg [] m M3 := hC.trans (hC2.trans hC3 (by simp)) (by simp)
      refine wNT_app1 (hu.chg (hC2.trans hC3 fun _ h _ => h) fun _ _ => by simp) n1 on1 rfl (fun i hi => hCC.old hi) (by simp; omega) (by simp; omega) ?_
      intro u' M5 hu' hC5
      have hC6 : Chg [] m M5 := (hCC.weak (T := ids u) (by simp)).trans hC5 (fun _ h _ => h) |>.weak (by intro j hj ho; exact absurd ho (hu.new j hj))
      have hsk : Ret Try.prog S0 17 [vb, ii e] (hp [] 0 M5) (ii ((skipN s e : Nat) : Int)) (hp [] 0 M5) := skip_r _ (by omega) (by rw [hp_nil]; exact hb.chg hC6 fun _ _ => by simp) l2
      simp (config := { maxSteps := 1000000 }) (disch := (first | assumption | omega | exact Nm.old_n (by omega) | exact Nm.old_hp (by assumption) | (simp only [List.length_set, List.length_cons, List.length_nil, List.length_append, List.length_map, List.length_replicate] <;> omega))) only [nmS0, nmS1, nmS2, nmS3, nmS4, nmS5, nmS6, nmS7, Nat.testBit, Nat.reduceShiftRight, Nat.reduceAnd, Nat.reduceBNe, cond_true, cond_false, NT.get_leaf, Nat.reduceSub, d_true, d_false, clsOf, beq_self_eq_true, Int.reduceToNat, Nat.reduceAdd, Nat.reduceMul, Nat.reduceEqDiff, decide_true, decide_false, if_true, if_false, ite_true, ite_false, reduceIte, reduceCtorEq, eq_self, true_and, and_true, true_implies, g1, g2, g3, hsk.wf']
      have hge : e ≤ skipN s e := skipN_ge
      refine ⟨k, by omega, _, M5, skipN s e, L ++ [⟨kd, tx, n, i⟩], u', by rw [hp_nil], ?_, ?_, ?_, skipN_le l2, by omega, hC6, ?_, ?_⟩
      · simp (config := { maxSteps := 1000000 }) (disch := (first | assumption | omega | exact Nm.old_n (by omega) | exact Nm.old_hp (by assumption) | (simp only [List.length_set, List.length_cons, List.length_nil, List.length_append, List.length_map, List.length_replicate] <;> omega))) only [nmS0, nmS1, nmS2, nmS3, nmS4, nmS5, nmS6, nmS7, Nat.testBit, Nat.reduceShiftRight, Nat.reduceAnd, Nat.reduceBNe, cond_true, cond_false, NT.get_leaf, Nat.reduceSub, d_true, d_false, clsOf, beq_self_eq_true, Int.reduceToNat, Nat.reduceAdd, Nat.reduceMul, Nat.reduceEqDiff, decide_true, decide_false, if_true, if_false, ite_true, ite_false, reduceIte, reduceCtorEq, eq_self, true_and, and_true, true_implies, g1]
      · simp (config := { maxSteps := 1000000 }) (disch := (first | assumption | omega | exact Nm.old_n (by omega) | exact Nm.old_hp (by assumption) | (simp only [List.length_set, List.length_cons, List.length_nil, List.length_append, List.length_map, List.length_replicate] <;> omega))) only [nmS0, nmS1, nmS2, nmS3, nmS4, nmS5, nmS6, nmS7, Nat.testBit, Nat.reduceShiftRight, Nat.reduceAnd, Nat.reduceBNe, cond_true, cond_false, NT.get_leaf, Nat.reduceSub, d_true, d_false, clsOf, beq_self_eq_true, Int.reduceToNat, Nat.reduceAdd, Nat.reduceMul, Nat.reduceEqDiff, decide_true, decide_false, if_true, if_false, ite_true, ite_false, reduceIte, reduceCtorEq, eq_self, true_and, and_true, true_implies]
      · simp (config := { maxSteps := 1000000 }) (disch := (first | assumption | omega | exact Nm.old_n (by omega) | exact Nm.old_hp (by assumption) | (simp only [List.length_set, List.length_cons, List.length_nil, List.length_append, List.length_map, List.length_replicate] <;> omega))) only [nmS0, nmS1, nmS2, nmS3, nmS4, nmS5, nmS6, nmS7, Nat.testBit, Nat.reduceShiftRight, Nat.reduceAnd, Nat.reduceBNe, cond_true, cond_false, NT.get_leaf, Nat.reduceSub, d_true, d_false, clsOf, beq_self_eq_true, Int.reduceToNat, Nat.reduceAdd, Nat.reduceMul, Nat.reduceEqDiff, decide_true, decide_false, if_true, if_false, ite_true, ite_false, reduceIte, reduceCtorEq, eq_self, true_and, and_true, true_implies]
      · rw [List.map_append]; exact hu'
      · rw [hT, hTs, hk]; simp
  · have hTs : toksL s (k + 1) i = ([⟨5, [], 0, s.length⟩], none) := by rw [toksL, if_neg hlt]
    rw [hTs] at hT
    simp (config := { maxSteps := 1000000 }) (disch := (first | assumption | omega | exact Nm.old_n (by omega) | exact Nm.old_hp (by assumption) | (simp only [List.length_set, List.length_cons, List.length_nil, List.length_append, List.length_map, List.length_replicate] <;> omega))) only [nmS0, nmS1, nmS2, nmS3, nmS4, nmS5, nmS6, nmS7, Nat.testBit, Nat.reduceShiftRight, Nat.reduceAnd, Nat.reduceBNe, cond_true, cond_false, NT.get_leaf, Nat.reduceSub, d_true, d_false, clsOf, beq_self_eq_true, Int.reduceToNat, Nat.reduceAdd, Nat.reduceMul, Nat.reduceEqDiff, decide_true, decide_false, if_true, if_false, ite_true, ite_false, reduceIte, reduceCtorEq, eq_self, true_and, and_true, true_implies, g1, g2, g3, hlen]
    rw [hp_nil]
    refine hok L hT _ _ _ u hC hu ?_ ?_
    · simp (config := { maxSteps := 1000000 }) (disch := (first | assumption | omega | exact Nm.old_n (by omega) | exact Nm.old_hp (by assumption) | (simp only [List.length_set, List.length_cons, List.length_nil, List.length_append, List.length_map, List.length_replicate] <;> omega))) only [nmS0, nmS1, nmS2, nmS3, nmS4, nmS5, nmS6, nmS7, Nat.testBit, Nat.reduceShiftRight, Nat.reduceAnd, Nat.reduceBNe, cond_true, cond_false, NT.get_leaf, Nat.reduceSub, d_true, d_false, clsOf, beq_self_eq_true, Int.reduceToNat, Nat.reduceAdd, Nat.reduceMul, Nat.reduceEqDiff, decide_true, decide_false, if_true, if_false, ite_true, ite_false, reduceIte, reduceCtorEq, eq_self, true_and, and_true, true_implies, g1]
    · simp (config := { maxSteps := 1000000 }) (disch := (first | assumption | omega | exact Nm.old_n (by omega) | exact Nm.old_hp (by assumption) | (simp only [List.length_set, List.length_cons, List.length_nil, List.length_append, List.length_map, List.length_replicate] <;> omega))) only [nmS0, nmS1, nmS2, nmS3, nmS4, nmS5, nmS6, nmS7, Nat.testBit, Nat.reduceShiftRight, Nat.reduceAnd, Nat.reduceBNe, cond_true, cond_false, NT.get_leaf, Nat.reduceSub, d_true, d_false, clsOf, beq_self_eq_true, Int.reduceToNat, Nat.reduceAdd, Nat.reduceMul, Nat.reduceEqDiff, decide_true, decide_false, if_true, if_false, ite_true, ite_false, reduceIte, reduceCtorEq, eq_self, true_and, and_true, true_implies, g2]
/-- ref's Tokens -/
theorem tokens_r (m : NH) {v : NV} {b : List Nat} (hv : Sl m v 1 (Byt b)) (hb : ∀ c ∈ b, c < 256) :
    ∃ r m', Ret Try.prog S0 10 [v] m r m' ∧ (if 16384 < b.length then r = .tup [.nils, ii 0, ii 3] else (match (toks b).2 with | some a => r = .tup [.nils, ii a, ii 2] | none => ∃ u, r = .tup [u, ii b.length, ii 0] ∧ Own m m' u 4 ((toks b).1.map Tok.l))) ∧ Chg [] m m' := by
  refine WF.ex fun K hK => ?_
  refine WF.of_wpG (fun _ => rfl) nf10_eq (L := [(.e, v)]) rfl ?_
  unfold nf10
  have hlen := hv.len
  rw [show (Byt b).length = b.length by simp] at hlen
  by_cases h1 : 16384 < b.length
  · simp (config := { maxSteps := 1000000 }) (disch := (first | assumption | omega | exact Nm.old_n (by omega) | exact Nm.old_hp (by assumption) | (simp only [List.length_set, List.length_cons, List.length_nil, List.length_append, List.length_map, List.length_replicate] <;> omega))) only [nmS0, nmS1, nmS2, nmS3, nmS4, nmS5, nmS6, nmS7, Nat.testBit, Nat.reduceShiftRight, Nat.reduceAnd, Nat.reduceBNe, cond_true, cond_false, NT.get_leaf, Nat.reduceSub, d_true, d_false, clsOf, beq_self_eq_true, Int.reduceToNat, Nat.reduceAdd, Nat.reduceMul, Nat.reduceEqDiff, decide_true, decide_false, if_true, if_false, ite_true, ite_false, reduceIte, reduceCtorEq, eq_self, true_and, and_true, true_implies, hlen, hp_nil]
    refine hK _ _ ⟨by rw [if_pos h1], Chg.refl m⟩
  · have hs0 : Ret Try.prog S0 17 [v, ii 0] m (ii ((skipN b 0 : Nat) : Int)) m := skip_r m (by omega) hv (a := 0) (Nat.zero_le _)
    simp (config := { maxSteps := 1000000 }) (disch := (first | assumption | omega | exact Nm.old_n (by omega) | exact Nm.old_hp (by assumption) | (simp only [List.length_set, List.length_cons, List.length_nil, List.length_append, List.length_map, List.length_replicate] <;> omega))) only [nmS0, nmS1, nmS2, nmS3, nmS4, nmS5, nmS6, nmS7, Nat.testBit, Nat.reduceShiftRight, Nat.reduceAnd, Nat.reduceBNe, cond_true, cond_false, NT.get_leaf, Nat.reduceSub, d_true, d_false, clsOf, beq_self_eq_true, Int.reduceToNat, Nat.reduceAdd, Nat.reduceMul, Nat.reduceEqDiff, decide_true, decide_false, if_true, if_false, ite_true, ite_false, reduceIte, reduceCtorEq, eq_self, true_and, and_true, true_implies, hlen, hp_nil, hs0.wf']
    refine toks_r1 (m := m) (s := b) (vb := v) (by omega) hb hv (Chg.refl m) ?_ ?_ ?_ ?_ ?_
    · simp (config := { maxSteps := 1000000 }) (disch := (first | assumption | omega | exact Nm.old_n (by omega) | exact Nm.old_hp (by assumption) | (simp only [List.length_set, List.length_cons, List.length_nil, List.length_append, List.length_map, List.length_replicate] <;> omega))) only [nmS0, nmS1, nmS2, nmS3, nmS4, nmS5, nmS6, nmS7, Nat.testBit, Nat.reduceShiftRight, Nat.reduceAnd, Nat.reduceBNe, cond_true, cond_false, NT.get_leaf, Nat.reduceSub, d_true, d_false, clsOf, beq_self_eq_true, Int.reduceToNat, Nat.reduceAdd, Nat.reduceMul, Nat.reduceEqDiff, decide_true, decide_false, if_true, if_false, ite_true, ite_false, reduceIte, reduceCtorEq, eq_self, true_and, and_true, true_implies]
    · simp (config := { maxSteps := 1000000 }) (disch := (first | assumption | omega | exact Nm.old_n (by omega) | exact Nm.old_hp (by assumption) | (simp only [List.length_set, List.length_cons, List.length_nil, List.length_append, List.length_map, List.length_replicate] <;> omega))) only [nmS0, nmS1, nmS2, nmS3, nmS4, nmS5, nmS6, nmS7, Nat.testBit, Nat.reduceShiftRight, Nat.reduceAnd, Nat.reduceBNe, cond_true, cond_false, NT.get_leaf, Nat.reduceSub, d_true, d_false, clsOf, beq_self_eq_true, Int.reduceToNat, Nat.reduceAdd, Nat.reduceMul, Nat.reduceEqDiff, decide_true, decide_false, if_true, if_false, ite_true, ite_false, reduceIte, reduceCtorEq, eq_self, true_and, and_true, true_implies]
    · simp (config := { maxSteps := 1000000 }) (disch := (first | assumption | omega | exact Nm.old_n (by omega) | exact Nm.old_hp (by assumption) | (simp only [List.length_set, List.length_cons, List.length_nil, List.length_append, List.length_map, List.length_replicate] <;> omega))) only [nmS0, nmS1, nmS2, nmS3, nmS4, nmS5, nmS6, nmS7, Nat.testBit, Nat.reduceShiftRight, Nat.reduceAnd, Nat.reduceBNe, cond_true, cond_false, NT.get_leaf, Nat.reduceSub, d_true, d_false, clsOf, beq_self_eq_true, Int.reduceToNat, Nat.reduceAdd, Nat.reduceMul, Nat.reduceEqDiff, decide_true, decide_false, if_true, if_false, ite_true, ite_false, reduceIte, reduceCtorEq, eq_self, true_and, and_true, true_implies]
    · intro a he L t M hC g1 g2 g3
      generalize puts L t = T at g1 g2 g3
      change retG _ K .ret ⟨puts [] T, [], none, M⟩
      simp (config := { maxSteps := 1000000 }) (disch := (first | assumption | omega | exact Nm.old_n (by omega) | exact Nm.old_hp (by assumption) | (simp only [List.length_set, List.length_cons, List.length_nil, List.length_append, List.length_map, List.length_replicate] <;> omega))) only [nmS0, nmS1, nmS2, nmS3, nmS4, nmS5, nmS6, nmS7, Nat.testBit, Nat.reduceShiftRight, Nat.reduceAnd, Nat.reduceBNe, cond_true, cond_false, NT.get_leaf, Nat.reduceSub, d_true, d_false, clsOf, beq_self_eq_true, Int.reduceToNat, Nat.reduceAdd, Nat.reduceMul, Nat.reduceEqDiff, decide_true, decide_false, if_true, if_false, ite_true, ite_false, reduceIte, reduceCtorEq, eq_self, true_and, and_true, true_implies, g1, g2, g3]
      refine hK _ _ ⟨by rw [if_neg h1, he], hC⟩
    · intro Tl hT L t M u hC hu g1 g2
      generalize puts L t = T at g1 g2
      change wp _ _ _ _ ⟨puts [] T, [], none, M⟩ _
      rw [← hp_nil M]
      have hlen := (hv.chg hC fun _ _ => by simp).len
      rw [show (Byt b).length = b.length by simp] at hlen
      have hTl : Tl.length ≤ b.length + 1 := by
        have h := toksL_len b (b.length + 1) (skipN b 0)
        have h2 : (toks b).1.length = _ := congrArg (fun x => x.1.length) hT
        rw [List.length_append] at h2
        have h3 : (toks b).1.length ≤ b.length + 1 := h
        omega
      simp (config := { maxSteps := 1000000 }) (disch := (first | assumption | omega | exact Nm.old_n (by omega) | exact Nm.old_hp (by assumption) | (simp only [List.length_set, List.length_cons, List.length_nil, List.length_append, List.length_map, List.length_replicate] <;> omega))) only [nmS0, nmS1, nmS2, nmS3, nmS4, nmS5, nmS6, nmS7, Nat.testBit, Nat.reduceShiftRight, Nat.reduceAnd, Nat.reduceBNe, cond_true, cond_false, NT.get_leaf, Nat.reduceSub, d_true, d_false, clsOf, beq_self_eq_true, Int.reduceToNat, Nat.reduceAdd, Nat.reduceMul, Nat.reduceEqDiff, decide_true, decide_false, if_true, if_false, ite_true, ite_false, reduceIte, reduceCtorEq, eq_self, true_and, and_true, true_implies, g1, g2, hlen]
      generalize hM3 : hp _ 1 M = M3
      have hC3 : Chg [] M M3 := by rw [← hM3]; exact hp_of rfl
      have n1 : M3.get (na M 0) = some (.cells true (Tok.l ⟨5, [], 0, b.length⟩)) := by rw [← hM3]; exact h_getN
      have on1 : Old M3 (na M 0) := by rw [← hM3]; exact old_n (by omega)
      have hCC : Chg [] m M3 := hC.trans hC3 (by simp)
      refine wNT_app1 (hu.chg hC3 fun _ _ => by simp) n1 on1 rfl (fun i hi => hCC.old hi) (by simp; omega) (by simp; omega) ?_
      intro u' M5 hu' hC5
      have hC6 : Chg [] m M5 := (hCC.weak (T := ids u) (by simp)).trans hC5 (fun _ h _ => h) |>.weak (by intro j hj ho; exact absurd ho (hu.new j hj))
      have hlen5 := (hv.chg hC6 fun _ _ => by simp).len
      rw [show (Byt b).length = b.length by simp] at hlen5
      simp (config := { maxSteps := 1000000 }) (disch := (first | assumption | omega | exact Nm.old_n (by omega) | exact Nm.old_hp (by assumption) | (simp only [List.length_set, List.length_cons, List.length_nil, List.length_append, List.length_map, List.length_replicate] <;> omega))) only [nmS0, nmS1, nmS2, nmS3, nmS4, nmS5, nmS6, nmS7, Nat.testBit, Nat.reduceShiftRight, Nat.reduceAnd, Nat.reduceBNe, cond_true, cond_false, NT.get_leaf, Nat.reduceSub, d_true, d_false, clsOf, beq_self_eq_true, Int.reduceToNat, Nat.reduceAdd, Nat.reduceMul, Nat.reduceEqDiff, decide_true, decide_false, if_true, if_false, ite_true, ite_false, reduceIte, reduceCtorEq, eq_self, true_and, and_true, true_implies, g1, g2, hlen5]
      rw [hp_nil]
      refine hK _ _ ⟨?_, hC6⟩
      rw [if_neg h1, hT]
      exact ⟨u', rfl, by rw [List.map_append]; exact hu'⟩
end LX

open Go Nm Go.Proofs
namespace LX
set_option linter.unusedSimpArgs false
set_option linter.unusedVariables false
theorem copy_nr {m : NH} {x : NV} {b : List Nat} (hx : Sl m x 1 (Byt b)) (hl : b.length ≤ 1000000) : (∃ v', apV 1 1 m .nils x = .val v' ∧ Sl m v' 1 (Byt b)) ∨ (∃ v' m', apV 1 1 m .nils x = .mem v' m' ∧ Sl m' v' 1 (Byt b) ∧ Chg [] m m') := by
  by_cases h : b = []
  · subst h
    exact Or.inl ⟨.nils, by unfold apV; rw [wSlice_sl hx]; rfl, ⟨by simp, Or.inl ⟨rfl, rfl⟩⟩⟩
  · obtain ⟨v', m', h1, h2, h3⟩ := Own.app (B := m) (bytes := 1) Own.nil hx (by simpa using h) (fun _ h => h) (by simp; omega) (by simp; omega)
    rw [List.nil_append] at h2
    exact Or.inr ⟨v', m', h1, h2.sl, h3⟩
theorem eq4 (x : Tok) : eqCells [.int, .str, .int, .int] x.l x.l = some true := by
  have h : ∀ z, eqI z z = true := fun z => by rw [eqI_eq]; simp
  show (match eqCell .int (ii x.k) (ii x.k) with | some c => cond c (eqCells [.str, .int, .int] [.str x.t, u64 x.n, ii x.p] [.str x.t, u64 x.n, ii x.p]) (some false) | none => none) = _
  show (cond (eqI x.k x.k) (match eqCell .str (.str x.t) (.str x.t) with | some c => cond c (eqCells [.int, .int] [u64 x.n, ii x.p] [u64 x.n, ii x.p]) (some false) | none => none) (some false)) = _
  rw [h]
  show (cond (eqL x.t x.t) (match eqCell .int (u64 x.n) (u64 x.n) with | some c => cond c (eqCells [.int] [ii x.p] [ii x.p]) (some false) | none => none) (some false)) = _
  rw [eqL_self]
  show (cond (eqI x.n x.n) (match eqCell .int (ii x.p) (ii x.p) with | some c => cond c (eqCells [] [] []) (some false) | none => none) (some false)) = _
  rw [h]
  show (cond (eqI x.p x.p) (some true) (some false)) = _
  rw [h]; rfl
theorem sameToks (m : NH) {a b : NV} {l : List Tok} (ha : Sl m a 4 (l.map Tok.l)) (hb : Sl m b 4 (l.map Tok.l)) (hl : l.length ≤ 1000000) : Ret Try.prog S0 11 [a, b] m (.bool true) m := by
  have h : ∃ v m', Ret Try.prog S0 11 [a, b] m v m' ∧ v = .bool true ∧ m' = m := by
    refine WF.ex fun K hK => ?_
    refine WF.of_wpG (fun _ => rfl) nf11_eq (L := [(.a .e, b), (.e, a)]) rfl ?_
    unfold nf11
    have hlen := ha.len
    have hlen' := hb.len
    rw [List.length_map] at hlen hlen'
    simp (config := { maxSteps := 1000000 }) (disch := (first | assumption | omega | exact Nm.old_n (by omega) | exact Nm.old_hp (by assumption) | (simp only [List.length_set, List.length_cons, List.length_nil, List.length_append, List.length_map, List.length_replicate] <;> omega))) only [nmS0, nmS1, nmS2, nmS3, nmS4, nmS5, nmS6, nmS7, Nat.testBit, Nat.reduceShiftRight, Nat.reduceAnd, Nat.reduceBNe, cond_true, cond_false, NT.get_leaf, Nat.reduceSub, d_true, d_false, clsOf, beq_self_eq_true, Int.reduceToNat, Nat.reduceAdd, Nat.reduceMul, Nat.reduceEqDiff, decide_true, decide_false, if_true, if_false, ite_true, ite_false, reduceIte, reduceCtorEq, eq_self, true_and, and_true, true_implies, hlen, hlen', hp_nil]
    refine W.loop (fun k d => ∃ t i, d = ⟨t, [], none, m⟩ ∧ NT.get D4.e t = some a ∧ NT.get D4.e.a t = some b ∧ NT.get D4.e.a.a t = some (ii (i : Nat)) ∧ i + k = l.length) ?_ l.length _ ⟨_, 0, rfl, by simp (config := { maxSteps := 1000000 }) (disch := (first | assumption | omega | exact Nm.old_n (by omega) | exact Nm.old_hp (by assumption) | (simp only [List.length_set, List.length_cons, List.length_nil, List.length_append, List.length_map, List.length_replicate] <;> omega))) only [nmS0, nmS1, nmS2, nmS3, nmS4, nmS5, nmS6, nmS7, Nat.testBit, Nat.reduceShiftRight, Nat.reduceAnd, Nat.reduceBNe, cond_true, cond_false, NT.get_leaf, Nat.reduceSub, d_true, d_false, clsOf, beq_self_eq_true, Int.reduceToNat, Nat.reduceAdd, Nat.reduceMul, Nat.reduceEqDiff, decide_true, decide_false, if_true, if_false, ite_true, ite_false, reduceIte, reduceCtorEq, eq_self, true_and, and_true, true_implies], by simp (config := { maxSteps := 1000000 }) (disch := (first | assumption | omega | exact Nm.old_n (by omega) | exact Nm.old_hp (by assumption) | (simp only [List.length_set, List.length_cons, List.length_nil, List.length_append, List.length_map, List.length_replicate] <;> omega))) only [nmS0, nmS1, nmS2, nmS3, nmS4, nmS5, nmS6, nmS7, Nat.testBit, Nat.reduceShiftRight, Nat.reduceAnd, Nat.reduceBNe, cond_true, cond_false, NT.get_leaf, Nat.reduceSub, d_true, d_false, clsOf, beq_self_eq_true, Int.reduceToNat, Nat.reduceAdd, Nat.reduceMul, Nat.reduceEqDiff, decide_true, decide_false, if_true, if_false, ite_true, ite_false, reduceIte, reduceCtorEq, eq_self, true_and, and_true, true_implies], by simp (config := { maxSteps := 1000000 }) (disch := (first | assumption | omega | exact Nm.old_n (by omega) | exact Nm.old_hp (by assumption) | (simp only [List.length_set, List.length_cons, List.length_nil, List.length_append, List.length_map, List.length_replicate] <;> omega))) only [nmS0, nmS1, nmS2, nmS3, nmS4, nmS5, nmS6, nmS7, Nat.testBit, Nat.reduceShiftRight, Nat.reduceAnd, Nat.reduceBNe, cond_true, cond_false, NT.get_leaf, Nat.reduceSub, d_true, d_false, clsOf, beq_self_eq_true, Int.reduceToNat, Nat.reduceAdd, Nat.reduceMul, Nat.reduceEqDiff, decide_true, decide_false, if_true, if_false, ite_true, ite_false, reduceIte, reduceCtorEq, eq_self, true_and, and_true, true_implies]; rfl, by omega⟩
    rintro k d ⟨t, i, rfl, g1, g2, g3, hik⟩
    apply wp_sound
    unfold nf11_l1
    change wp _ _ _ _ ⟨puts [] t, [], none, m⟩ _
    by_cases hi : i < l.length
    · obtain ⟨id, off, w, c, a1, a2, a3, a4, a5⟩ := ha.at i (by simpa using hi)
      obtain ⟨id', off', w', c', b1, b2, b3, b4, b5⟩ := hb.at i (by simpa using hi)
      rw [List.getElem_map] at a5 b5
      simp (config := { maxSteps := 1000000 }) (disch := (first | assumption | omega | exact Nm.old_n (by omega) | exact Nm.old_hp (by assumption) | (simp only [List.length_set, List.length_cons, List.length_nil, List.length_append, List.length_map, List.length_replicate] <;> omega))) only [nmS0, nmS1, nmS2, nmS3, nmS4, nmS5, nmS6, nmS7, Nat.testBit, Nat.reduceShiftRight, Nat.reduceAnd, Nat.reduceBNe, cond_true, cond_false, NT.get_leaf, Nat.reduceSub, d_true, d_false, clsOf, beq_self_eq_true, Int.reduceToNat, Nat.reduceAdd, Nat.reduceMul, Nat.reduceEqDiff, decide_true, decide_false, if_true, if_false, ite_true, ite_false, reduceIte, reduceCtorEq, eq_self, true_and, and_true, true_implies, g1, g2, g3, hlen, hlen', a1, a2, b1, b2, a5, b5, y_ne (eq4 _)]
      refine ⟨k - 1, by omega, _, i + 1, rfl, ?_, ?_, ?_, by omega⟩
      · simp (config := { maxSteps := 1000000 }) (disch := (first | assumption | omega | exact Nm.old_n (by omega) | exact Nm.old_hp (by assumption) | (simp only [List.length_set, List.length_cons, List.length_nil, List.length_append, List.length_map, List.length_replicate] <;> omega))) only [nmS0, nmS1, nmS2, nmS3, nmS4, nmS5, nmS6, nmS7, Nat.testBit, Nat.reduceShiftRight, Nat.reduceAnd, Nat.reduceBNe, cond_true, cond_false, NT.get_leaf, Nat.reduceSub, d_true, d_false, clsOf, beq_self_eq_true, Int.reduceToNat, Nat.reduceAdd, Nat.reduceMul, Nat.reduceEqDiff, decide_true, decide_false, if_true, if_false, ite_true, ite_false, reduceIte, reduceCtorEq, eq_self, true_and, and_true, true_implies, g1]
      · simp (config := { maxSteps := 1000000 }) (disch := (first | assumption | omega | exact Nm.old_n (by omega) | exact Nm.old_hp (by assumption) | (simp only [List.length_set, List.length_cons, List.length_nil, List.length_append, List.length_map, List.length_replicate] <;> omega))) only [nmS0, nmS1, nmS2, nmS3, nmS4, nmS5, nmS6, nmS7, Nat.testBit, Nat.reduceShiftRight, Nat.reduceAnd, Nat.reduceBNe, cond_true, cond_false, NT.get_leaf, Nat.reduceSub, d_true, d_false, clsOf, beq_self_eq_true, Int.reduceToNat, Nat.reduceAdd, Nat.reduceMul, Nat.reduceEqDiff, decide_true, decide_false, if_true, if_false, ite_true, ite_false, reduceIte, reduceCtorEq, eq_self, true_and, and_true, true_implies, g2]
      · simp (config := { maxSteps := 1000000 }) (disch := (first | assumption | omega | exact Nm.old_n (by omega) | exact Nm.old_hp (by assumption) | (simp only [List.length_set, List.length_cons, List.length_nil, List.length_append, List.length_map, List.length_replicate] <;> omega))) only [nmS0, nmS1, nmS2, nmS3, nmS4, nmS5, nmS6, nmS7, Nat.testBit, Nat.reduceShiftRight, Nat.reduceAnd, Nat.reduceBNe, cond_true, cond_false, NT.get_leaf, Nat.reduceSub, d_true, d_false, clsOf, beq_self_eq_true, Int.reduceToNat, Nat.reduceAdd, Nat.reduceMul, Nat.reduceEqDiff, decide_true, decide_false, if_true, if_false, ite_true, ite_false, reduceIte, reduceCtorEq, eq_self, true_and, and_true, true_implies]; rfl
    · simp (config := { maxSteps := 1000000 }) (disch := (first | assumption | omega | exact Nm.old_n (by omega) | exact Nm.old_hp (by assumption) | (simp only [List.length_set, List.length_cons, List.length_nil, List.length_append, List.length_map, List.length_replicate] <;> omega))) only [nmS0, nmS1, nmS2, nmS3, nmS4, nmS5, nmS6, nmS7, Nat.testBit, Nat.reduceShiftRight, Nat.reduceAnd, Nat.reduceBNe, cond_true, cond_false, NT.get_leaf, Nat.reduceSub, d_true, d_false, clsOf, beq_self_eq_true, Int.reduceToNat, Nat.reduceAdd, Nat.reduceMul, Nat.reduceEqDiff, decide_true, decide_false, if_true, if_false, ite_true, ite_false, reduceIte, reduceCtorEq, eq_self, true_and, and_true, true_implies, g1, g2, g3, hlen, hlen']
      exact hK _ _ ⟨rfl, rfl⟩
  obtain ⟨v, m', h1, rfl, rfl⟩ := h
  exact h1
theorem both (m : NH) {v v' : NV} {b : List Nat} (hv : Sl m v 1 (Byt b)) (hv' : Sl m v' 1 (Byt b)) (hb : ∀ c ∈ b, c < 256) (hl : b.length ≤ 2000) :
    ∃ u w m1 m2 p e, Ret Try.prog S0 9 [v'] m (.tup [u, ii p, ii e]) m1 ∧ Ret Try.prog S0 10 [v] m1 (.tup [w, ii p, ii e]) m2 ∧ Ret Try.prog S0 11 [u, w] m2 (.bool true) m2 := by
  obtain ⟨r, m1, h1, hR, hC1⟩ := tokens_p m hv' (by omega) hb
  obtain ⟨r', m2, h2, hR', hC2⟩ := tokens_r m1 (hv.chg hC1 fun _ _ => by simp) hb
  rw [if_neg (by omega)] at hR hR'
  have hll : (toks b).1.length ≤ b.length + 1 := toksL_len b (b.length + 1) (skipN b 0)
  cases he : (toks b).2 with
  | some a =>
    rw [he] at hR hR'
    obtain rfl := hR
    obtain rfl := hR'
    have hnil : Sl m2 .nils 4 (([] : List Tok).map Tok.l) := ⟨by simp, Or.inl ⟨rfl, rfl⟩⟩
    exact ⟨_, _, m1, m2, _, _, h1, h2, sameToks m2 hnil hnil (by simp)⟩
  | none =>
    rw [he] at hR hR'
    obtain ⟨u, rfl, hu⟩ := hR
    obtain ⟨w, rfl, hw⟩ := hR'
    exact ⟨_, _, m1, m2, _, _, h1, h2, sameToks m2 (hu.sl.chg hC2 fun _ _ => by simp) hw.sl (by omega)⟩
theorem lexTokens (m : NH) (l : List NV) (h : TyA Try.prog m [22] l) : ∃ m', Ret Try.prog S0 3 l m (.bool true) m' := by
  obtain ⟨x, r, rfl, h1, h⟩ := h.inv1 (by intro fs q; rw [Try.underlying22] at q; simp at q)
  obtain rfl := h.inv0
  obtain ⟨v, b, hx, hv, -, hb⟩ := ty_bytes h1
  have hxv : v = x := by simpa using hx.symm
  subst hxv
  have hlen := hv.len
  rw [show (Byt b).length = b.length by simp] at hlen
  have hal : ∀ m, Ret Try.prog S0 8 [] m (.bool true) m := fun m => Ret.kept rfl m
  have hnum : ∀ m e, Ret Try.prog S0 12 [ii e] m (ii e) m := num_p
  have h : ∃ v' m', Ret Try.prog S0 3 [v] m v' m' ∧ v' = .bool true := by
    refine WF.ex fun K hK => ?_
    refine WF.of_wpG (fun _ => rfl) nf3_eq (L := [(.e, v)]) rfl ?_
    unfold nf3
    by_cases h2 : b.length ≤ 2000
    · rcases copy_nr hv (by omega) with ⟨v', ha, hv'⟩ | ⟨v', m', ha, hv', hC⟩
      · obtain ⟨u, w, m1, m2, p, e, r1, r2, r3⟩ := both m hv hv' hb h2
        simp (config := { maxSteps := 1000000 }) (disch := (first | assumption | omega | exact Nm.old_n (by omega) | exact Nm.old_hp (by assumption) | (simp only [List.length_set, List.length_cons, List.length_nil, List.length_append, List.length_map, List.length_replicate] <;> omega))) only [nmS0, nmS1, nmS2, nmS3, nmS4, nmS5, nmS6, nmS7, Nat.testBit, Nat.reduceShiftRight, Nat.reduceAnd, Nat.reduceBNe, cond_true, cond_false, NT.get_leaf, Nat.reduceSub, d_true, d_false, clsOf, beq_self_eq_true, Int.reduceToNat, Nat.reduceAdd, Nat.reduceMul, Nat.reduceEqDiff, decide_true, decide_false, if_true, if_false, ite_true, ite_false, reduceIte, reduceCtorEq, eq_self, true_and, and_true, true_implies, hp_nil, (hal _).wf', hlen, ha, r1.wf', r2.wf', r3.wf', (hnum _ _).wf']
        exact hK _ _ rfl
      · obtain ⟨u, w, m1, m2, p, e, r1, r2, r3⟩ := both m' (hv.chg hC fun _ _ => by simp) hv' hb h2
        simp (config := { maxSteps := 1000000 }) (disch := (first | assumption | omega | exact Nm.old_n (by omega) | exact Nm.old_hp (by assumption) | (simp only [List.length_set, List.length_cons, List.length_nil, List.length_append, List.length_map, List.length_replicate] <;> omega))) only [nmS0, nmS1, nmS2, nmS3, nmS4, nmS5, nmS6, nmS7, Nat.testBit, Nat.reduceShiftRight, Nat.reduceAnd, Nat.reduceBNe, cond_true, cond_false, NT.get_leaf, Nat.reduceSub, d_true, d_false, clsOf, beq_self_eq_true, Int.reduceToNat, Nat.reduceAdd, Nat.reduceMul, Nat.reduceEqDiff, decide_true, decide_false, if_true, if_false, ite_true, ite_false, reduceIte, reduceCtorEq, eq_self, true_and, and_true, true_implies, hp_nil, (hal _).wf', hlen, ha, r1.wf', r2.wf', r3.wf', (hnum _ _).wf']
        exact hK _ _ rfl
    · simp (config := { maxSteps := 1000000 }) (disch := (first | assumption | omega | exact Nm.old_n (by omega) | exact Nm.old_hp (by assumption) | (simp only [List.length_set, List.length_cons, List.length_nil, List.length_append, List.length_map, List.length_replicate] <;> omega))) only [nmS0, nmS1, nmS2, nmS3, nmS4, nmS5, nmS6, nmS7, Nat.testBit, Nat.reduceShiftRight, Nat.reduceAnd, Nat.reduceBNe, cond_true, cond_false, NT.get_leaf, Nat.reduceSub, d_true, d_false, clsOf, beq_self_eq_true, Int.reduceToNat, Nat.reduceAdd, Nat.reduceMul, Nat.reduceEqDiff, decide_true, decide_false, if_true, if_false, ite_true, ite_false, reduceIte, reduceCtorEq, eq_self, true_and, and_true, true_implies, hp_nil, (hal _).wf', hlen]
      exact hK _ _ rfl
  obtain ⟨v', m', h, rfl⟩ := h
  exact ⟨m', h⟩
end LX

